import PyProof.Rows.All
import HandS.ForMost
import HandS.Wide
import HandS.TupAny
import HandS.TupMul
import HandS.SetFor
import HandS.Strs
import HandS.SortInts
import HandS.Text
import HandS.ExcValue
import HandS.ExcOwn
import KE.KDictSum
import HandS.Style
import HandS.IsInst
import HandS.DictTup
import HandS.NoneIn
import KE.GoesMore
import HandS.DictComp
import HandS.WordsDict
import PySem.Challenge.RW_sortes_k30_lots
set_option Elab.async false
set_option linter.all false
set_option maxRecDepth 100000
set_option maxRecDepth 100000
/-! MI, part 0: rules that the hand layer lacks. -/
namespace MI
open PySem PySem.Spec PyProof.Rows L2

/-! ### == of data of which one is shallow -/
def okEq (d e : PyData) : Bool := d.canLay0 && e.canLay0 && decide (min d.depth e.depth ≤ 64)
section
variable {X : Cx}
def rEqM (K : PySem.W.Frag) (n : Bool) : R2 := fun x y H Q => ∃ d e, Dp K H x d ∧ Dp K H y e ∧ okEq d e = true ∧ Q (.bl (n ^^ PyData.eqv d e)) H
theorem op_eqM (hu : X.A.units + 64 < cLine) : OpR X (compareOp .Eq) (rEqM X.K false) := by
  intro pins s σ H x y v u Q I rx ry h
  obtain ⟨d, e, hd, he, ok, q⟩ := h
  unfold okEq at ok
  simp only [Bool.and_eq_true, decide_eq_true_eq] at ok
  obtain ⟨as, r1⟩ := Dp.reads I d x v hd rx
  obtain ⟨bs, r2⟩ := Dp.reads I e y u he ry
  rw [Bool.false_xor] at q
  exact SeqAt.compareEq_reads r1 r2 ok.1.1 ok.1.2 (by omega) ⟨.bl _, H, I, rfl, q⟩
theorem op_neM (hu : X.A.units + 64 < cLine) : OpR X (compareOp .NotEq) (rEqM X.K true) := by
  intro pins s σ H x y v u Q I rx ry h
  obtain ⟨d, e, hd, he, ok, q⟩ := h
  unfold okEq at ok
  simp only [Bool.and_eq_true, decide_eq_true_eq] at ok
  obtain ⟨as, r1⟩ := Dp.reads I d x v hd rx
  obtain ⟨bs, r2⟩ := Dp.reads I e y u he ry
  rw [Bool.true_xor] at q
  exact SeqAt.compareNe_reads r1 r2 ok.1.1 ok.1.2 (by omega) ⟨.bl _, H, I, rfl, q⟩
end
/-! ### extend by a tuple -/
theorem list_extend_tup (l : Addr) (items : Array Value) (n : Nat) (b : Addr) (items2 : Array Value) (n2 : Nat) (dd : Option Addr) (sl : Array (Option Value)) (hs0 : ¬(!items.isEmpty && Builtin.List.listTooLong (items.size + items2.size)) = true) (hs1 : items.size ≤ sizeLine) (hs2 : items.size + items2.size ≤ sizeLine + 1) :
    Meets (Builtin.«list.extend» ⟨[.ref l, .ref b], []⟩) (fun _ R s => s.heap.get? l = some { cls := .type "list", dict := none, data := .seq items n, slots := #[] } ∧ s.heap.get? b = some { cls := .type "tuple", dict := dd, data := .seq items2 n2, slots := sl } ∧ R (.ok (.ret Value.none)) { s with heap := s.heap.update l (Obj.mapSeq fun x => x ++ items2), toks := s.toks }) :=
  .of_wp fun prog w A R s h => by
    obtain ⟨hp, g, d, tk, os⟩ := s; obtain ⟨hl, hb, h⟩ := h; have f1 := AutoSeq1.idx_int; have f2 := AutoSeq1.sub_tuple_tuple; have f3 := AutoSeq1.sub_list_list; have f4 := AutoSeq1.sub_tuple_list; have f5 := AutoSeq1.sub_list_tuple;
    have hz' : (items ++ items2).size ≤ sizeLine + 1 := by rw [Array.size_append]; exact hs2
    wp_walk using (wpAny_updateSeq hl rfl (hz := hs1) (_hz' := hz')), wpAny_loadPart' hl, wpAny_loadPart' hb; exact ⟨_, rfl, h⟩
def rExtendT (K : PySem.W.Frag) : V → List V → Hp → VK → Prop := fun x vs H Q => ∃ l b xs zs, x = .ref l ∧ vs = [.ref b] ∧ H l = some (.lst xs) ∧ SqT K H b zs ∧ xs.length + zs.length ≤ sizeLine ∧ Q .non (upd H l (.lst (xs ++ zs)))
theorem mt_extendT {X : Cx} : MtR X "list.extend" (rExtendT X.K) := by
  intro pins s σ H x vs v us Q I rx rv h
  obtain ⟨l, b, xs, zs, rfl, rfl, hH, hB, hz, q⟩ := h
  cases rx
  obtain ⟨u, rfl, ru⟩ := rv.one
  cases ru
  obtain ⟨z, its, n, r, hl, e⟩ := I.lstM hH
  obtain ⟨its2, r2, ⟨⟨cls, dd, data, sl⟩, ho, hc, n2, hd⟩, hs⟩ := I.tuple hB
  simp only at hc hd
  subst hc hd
  have hl2 := r2.length
  have hsz : its.toArray.size + its2.toArray.size ≤ sizeLine := by rw [List.size_toArray, List.size_toArray]; omega
  have hlong : ¬ (!its.toArray.isEmpty && Builtin.List.listTooLong (its.toArray.size + its2.toArray.size)) = true := by
    rw [notLongL hsz, Bool.and_false]
    exact Bool.false_ne_true
  refine call_meets F.slot_list_extend ⟨_, e, rfl⟩ F.entry_list_extend (F.args_list_extend_2 _ _)
    (list_extend_tup l its.toArray n b its2.toArray n2 dd sl hlong (by rw [List.size_toArray]; omega) (by omega)) ⟨e, ho, ?_⟩
  refine ⟨.non, _, I.lset (its' := its ++ its2) hH e (by simp) (r.append r2) ?_, rfl, q⟩
  rw [List.length_append]
  omega
/-! ### set(t) of a tuple of ints; sorted of it -/
def rSetI (K : PySem.W.Frag) (w : World) : List V → Hp → VK → Prop := fun vs H Q => ∃ (p : Addr) (ns : List Int), vs = [.ref p] ∧ SqT K H p (ns.map V.int) ∧ ns.length ≤ 1000 ∧
  ∀ a c, H a = none → c ≤ ns.length → Q (.ref a) (upd H a (SetO w a (fun j => decide (j ∈ ns)) c))
theorem cr_setI {X : Cx} (hc : X.calm = true) : CallR X (.type "set") (rSetI X.K X.w) := by
  intro pins s σ H vs us Q I r h
  obtain ⟨p0, ns, rfl, hq, hl, q⟩ := h
  rw [Vals.ref1 r]
  obtain ⟨its, rv, pt, hz⟩ := I.tuple hq
  have hi : IntsAre its.toArray.toList ns := ints_of_vals rv
  refine call_set_tupI ns (I.ok.hd hc) (show s.heap.IsTuple p0 its.toArray from pt) hi (by unfold scanBound; omega) fun h' tk c R1 hcn k => ?_
  refine ⟨.ref _, _, I.laid (t' := tk) (o := SetO X.w s.heap.objs.size (fun j => decide (j ∈ ns)) c) (fun b ob q => k b ob q) (Nat.le_refl _) (setO_new R1), rfl, q _ _ (I.hok.fresh (Nat.le_refl _)) hcn⟩
/-! ### sorted of a tuple of ints -/
def rSortedTI (K : PySem.W.Frag) : List V → Hp → VK → Prop := fun vs H Q => ∃ (a : Addr) (ns : List Int), vs = [V.ref a] ∧ SqT K H a (ns.map V.int) ∧
  ∀ (ns' : List Int) (p : Addr), ns'.Perm ns → ns'.Pairwise (· ≤ ·) → H p = none → Q (.ref p) (upd H p (.lst (ns'.map V.int)))
/-- sorted(e), by what its items are -/
theorem sorted_by {X : Cx} {pins : List (Addr × Obj)} {σ : L2.St} {H : Hp} {s : Shared} {Q : VK} {a : Addr} {ns : List Int} (I : Inv X pins σ H s)
    (col : ∀ (A' : Around) (Q' : List Value → Shared → Prop) (E' : Value → Shared → Prop), (X.A.handled = none → A'.handled = none) → (∀ (its : List Value) (h1 : Heap) (tk : Nat), (∀ b z, s.heap.get? b = some z → h1.get? b = some z) → IntsAre its ns → its.length ≤ sizeLine → Q' its { s with heap := h1, toks := tk }) → wpAny (model X.prog X.w) A' (collect (.ref a)) Q' E' s)
    (q : ∀ (ns' : List Int) (p : Addr), ns'.Perm ns → ns'.Pairwise (· ≤ ·) → H p = none → Q (.ref p) (upd H p (.lst (ns'.map V.int)))) :
    wpAny (model X.prog X.w) X.A (call (.builtin "sorted") [.ref a]) (EP X pins σ Q) X.xe s := by
  apply Calls.call_function_entry kind_sorted plain_sorted entry_sorted (args_sorted1 _)
  unfold Builtin.«sorted»
  apply wpAny_bind (m := checkCount "sorted" 1 1 _)
  apply wpAny_pure
  apply wpAny_bind
  refine col _ _ _ (fun e => by simp [e]) fun its h1 tk k1 hI hz => ?_
  apply wpAny_bind
  refine wpAny_newList ?_ (by simpa using hz)
  have g0 : (h1.push (seqObj "list" its.toArray 0)).get? h1.objs.size = some (seqObj "list" its.toArray 0) := Heap.get?_push_size _ rfl
  apply wpAny_bind
  apply wpAny_holding
  refine wpAny_call_entry slot_list_sort ⟨_, g0, rfl⟩ entry_list_sort (SrtO.list_sort_ord SrtO.swo_int g0 (by simpa using hz) (fun h2 => SrtO.ints_sortable hI h2) fun out s1 s2 => ⟨_, rfl, ?_⟩) (args_list_sort _)
  obtain ⟨u1, u2, u3⟩ := SrtO.ints_out hI s1 s2
  obtain ⟨c, gc⟩ := PyProof.Rows.sortedHeap_at (vs := its) (out := out.toArray) g0
  have fresh : ∀ z, h1.get? h1.objs.size = some z → False := fun z e => Nat.lt_irrefl _ (Heap.lt_size e)
  have hn : s.heap.get? h1.objs.size = none := by
    cases e : s.heap.get? h1.objs.size with
    | none => rfl
    | some z => exact (fresh z (k1 _ _ e)).elim
  have hH : H h1.objs.size = none := by
    cases e : H h1.objs.size with
    | none => rfl
    | some z =>
      obtain ⟨w, hw⟩ := objOk_get (I.hok _ _ e)
      rw [hn] at hw
      cases hw
  have hlen : ((out.map SrtO.iv).map V.int).length ≤ sizeLine := by
    have e := s2.perm.length_eq
    simp only [List.length_map]
    omega
  apply wpAny_pure
  refine ⟨_, rfl, .ref _, _, I.laidN (a := h1.objs.size) (o := .lst ((out.map SrtO.iv).map V.int)) (t' := tk) (fun b z e => ?_) hn hH ⟨hlen, out, c, vals_of_ints u1, gc⟩, rfl, q _ _ u2 u3 hH⟩
  have e1 := k1 b z e
  have lt := Heap.lt_size e1
  refine (sortedHeap_old (Nat.ne_of_lt lt) (by rw [size_push']; exact Nat.lt_succ_of_lt lt)).trans (Heap.get?_push_of_some _ e1)
theorem cr_sortedTI {X : Cx} : CallR X (.builtin "sorted") (rSortedTI X.K) := by
  rintro pins s σ H vs us Q I r ⟨a, ns, rfl, hs, q⟩
  obtain ⟨its, rv, ⟨o, ho, hc, n, hd⟩, hz⟩ := I.tuple hs
  have hI := rv.ints
  have hl := rv.length
  rw [Vals.ref1 r]
  refine sorted_by (ns := ns) I (fun A' Q' E' _ hq => ?_) q
  exact wpAny_collect_seq a (.inr rfl) ho hc hd (fun h1 k1 => hq _ h1 _ k1 (by simpa using hI) (by simp; omega)) (by rw [List.size_toArray, ← hl]; exact hz)
/-! ### sorted of a dict of ints -/
theorem ints_by : ∀ {us : List Value} {ns : List Int}, us.length = ns.length → (∀ (i : Nat) (v : Value), us[i]? = some v → ∃ n t, ns[i]? = some n ∧ v = Value.int n t) → IntsAre us ns
  | [], [], _, _ => .nil
  | u :: us, n :: ns, h, g => by
    obtain ⟨m, t, e1, rfl⟩ := g 0 u rfl
    cases e1
    exact .cons n t (ints_by (by simpa using h) fun i v e => g (i + 1) v e)
theorem paired_at {α β : Type} {F : α → β → Prop} : ∀ {xs : List α} {ys : List β}, Paired F xs ys → ∀ (i : Nat) (y : β), ys[i]? = some y → ∃ x, xs[i]? = some x ∧ F x y
  | _, _, .nil, i, y, h => by cases i <;> cases h
  | _, _, .cons r t, 0, y, h => by cases h; exact ⟨_, rfl, r⟩
  | _, _, .cons r t, i + 1, y, h => paired_at t i y h
def rSortedD : List V → Hp → VK → Prop := fun vs H Q => ∃ (a : Addr) (kw : List (Key × V)) (ns : List Int), vs = [V.ref a] ∧ H a = some (.dK kw) ∧ kw.map (·.1) = ns.map Sum.inl ∧
  ∀ (ns' : List Int) (p : Addr), ns'.Perm ns → ns'.Pairwise (· ≤ ·) → H p = none → Q (.ref p) (upd H p (.lst (ns'.map V.int)))
theorem cr_sortedD {X : Cx} (hc : X.calm = true) : CallR X (.builtin "sorted") rSortedD := by
  rintro pins s σ H vs us Q I r ⟨a, kw, ns, rfl, ha, hk, q⟩
  obtain ⟨hz, hm, ws, hkv, hd⟩ := I.hok _ _ ha
  obtain ⟨ep, hat⟩ := hd.dictAt
  have hwl : ws.length = kw.length := hkv.length.symm
  rw [Vals.ref1 r]
  refine sorted_by (ns := ns) I (fun A' Q' E' hh hq => ?_) q
  refine PySem.W.kdu_collect (PySem.W.kdl_dict (ep := ep) hm) (hh (I.ok.hd hc)) hat (by omega) fun h' tk acc k1 hacc => hq _ h' tk k1 (ints_by ?_ fun i v e => ?_) ?_
  · have := congrArg List.length hk
    simp only [List.length_map] at this
    rw [Array.length_toList, hacc.1]; omega
  · obtain ⟨k, x, e1, e2⟩ := hacc.2 i v (by rw [← Array.getElem?_toList]; exact e)
    obtain ⟨y, e3, e4, _⟩ := paired_at hkv i _ e1
    have e5 : (kw.map (·.1))[i]? = some k := by rw [List.getElem?_map, e3]; exact congrArg some e4
    rw [hk, List.getElem?_map] at e5
    obtain ⟨n, e6, e7⟩ := Option.map_eq_some_iff.mp e5
    subst e7
    rcases keyIs_shape (show keyIs (Sum.inl n) v = true from e2) with ⟨j, t, e8, e9⟩ | ⟨z, t, e8, e9⟩
    · cases e8
      exact ⟨_, t, e6, e9⟩
    · cases e8
  · rw [Array.length_toList, hacc.1]; omega
end MI

set_option maxRecDepth 100000
/-! MI, part 0b: sets of texts, their sizes. -/
namespace MI
open PySem PySem.Spec PyProof.Rows L2

/-- how many different ones stand among the first i -/
def distN (ks : List Str) : Nat → Nat
  | 0 => 0
  | i + 1 => match ks[i]? with
    | some k => if k ∈ ks.take i then distN ks i else distN ks i + 1
    | none => distN ks i
theorem distN_le (ks : List Str) : ∀ i, distN ks i ≤ i
  | 0 => Nat.le_refl _
  | i + 1 => by
    have := distN_le ks i
    unfold distN
    split
    · split <;> omega
    · omega
/-- the first i of ks are in the set at S -/
def HasS (P : Program) (w : World) (h : Heap) (S : Addr) (ks : List Str) (i : Nat) : Prop := h.SetOf (PySem.strKind P w) S (fun k => decide (k ∈ ks.take i)) (distN ks i)
theorem HasS.at {P : Program} {w : World} {h h' : Heap} {S : Addr} {ks : List Str} {i : Nat} (x : HasS P w h S ks i) (k : ∀ o, h.get? S = some o → h'.get? S = some o) : HasS P w h' S ks i := by
  obtain ⟨o, es, ep, t, ho, r⟩ := x
  exact ⟨o, es, ep, t, k o ho, r⟩
section
variable {P : Program} {w : World} {A : Around}
theorem loop_texts {I : Addr} {fp wr : List Addr} {G : Array GenState → Array GenState → Prop} {Pv : Nat → Value → Prop} {St : Nat → Shared → Prop} {R : Result → Shared → Prop} (ks : List Str)
    (W : WalksS P w A.in1 I fp wr G ks.length Pv St) (S : Addr) (hS : S ∉ fp) (small : ks.length < 1000) (val : ∀ i v, Pv i v → ∃ k t, ks[i]? = some k ∧ v = Value.str k t) :
    ∀ (d i : Nat) (s : Shared), i + d = ks.length → St i s → HasS P w s.heap S ks i → (∀ s', Moved (S :: wr) G s s' → HasS P w s'.heap S ks ks.length → R (.ok (.ret .none)) s') →
      codeAny (model P w) A (.builtin "set.update.loop" ⟨[.ref S, .ref I], []⟩) R s := by
  have notW : S ∉ wr := fun h => hS (W.sub _ h)
  have more : ∀ b ∈ wr, b ∈ S :: wr := fun b hb => List.mem_cons_of_mem _ hb
  intro d
  induction d with
  | zero =>
    intro i s e st has fin
    obtain rfl : i = ks.length := by omega
    apply codeAny_builtin F.entry_set_update_loop
    rw [Around.under_plainId F.plain_set_update_loop _]
    change wpAny _ A.in1 (pyNext (.ref I) >>= _) _ _ s
    apply wpAny_bind
    refine W.done s _ _ st fun s1 m => ?_
    change wpAny _ A.in1 (ret Value.none) _ _ s1
    apply wpAny_pure
    exact fin s1 (m.mono more) (has.at fun o q => m.heap S o notW q)
  | succ d ih =>
    intro i s e st has fin
    apply codeAny_builtin F.entry_set_update_loop
    rw [Around.under_plainId F.plain_set_update_loop _]
    change wpAny _ A.in1 (pyNext (.ref I) >>= _) _ _ s
    apply wpAny_bind
    refine W.item i s _ _ (by omega) st fun v s1 pv st1 m => ?_
    obtain ⟨k, t, hk, rfl⟩ := val i v pv
    have has1 : HasS P w s1.heap S ks i := has.at fun o q => m.heap S o notW q
    change wpAny _ A.in1 (holding [Value.str k t] (setAdd S (.str k t)) >>= _) _ _ s1
    apply wpAny_bind
    apply wpAny_holding
    unfold setAdd
    apply wpAny_holding
    apply wpAny_bind
    apply (PySem.strKind P w).pyHash (k := k) (strKind_is _ _ _ _)
    have lt := distN_le ks i
    refine wpAny_setAddHashed_of (knd := PySem.strKind P w) (s := { s1 with toks := s1.toks + 1 }) (strKind_is _ _ _ _) rfl has1 (by unfold scanBound; omega) fun h2 same has2 => ?_
    have has3 : HasS P w h2 S ks (i + 1) := by
      refine PyProof.Rows.SetOf_congr has2 (fun k' => ?_) ?_
      · rw [List.take_add_one, hk, Option.toList_some]
        simp [List.mem_append]
      · rw [distN, hk]
        simp only [decide_eq_true_eq]
    apply wpAny_pure
    refine ⟨plainId_quiet F.plain_set_update_loop _, ih (i + 1) _ (by omega) (W.frame _ s1 _ _ st1 (Nat.le_succ _) fun b hb o q => ?_) has3 fun s3 m3 has4 => fin s3 (Moved.trans W.gtrans ((m.mono more).then_heap (Nat.le_succ _) fun b o hb q => ?_) m3) has4⟩
    · have ne : b ≠ S := fun z => hS (z ▸ hb)
      rw [same.2 b ne]; exact q
    · have ne : b ≠ S := fun z => hb (z ▸ List.mem_cons_self)
      rw [same.2 b ne]; exact q
/-- an empty set, as set.__new__ lays it -/
def set0 (w : World) : Obj := { cls := .type "set", dict := none, data := .set #[] 0 (.fresh 0 0 (!w.params.followText "set-order")) }
theorem hasS_new {h : Heap} {S : Addr} {ks : List Str} (g : h.get? S = some (set0 w)) : HasS P w h S ks 0 := by
  refine PyProof.Rows.SetOf_congr ((PyProof.Rows.setObjOf_fresh (knd := PySem.strKind P w) (!w.params.followText "set-order")).setOf g (by unfold scanBound; omega)) (fun k => by simp) rfl
variable {E : Value → Shared → Prop} {s : Shared}
/-- set.__init__ over a tuple of texts -/
theorem init_texts {l : Addr} {items : Array Value} {ks : List Str} {Q : PySem.Fin → Shared → Prop} (hh : A.handled = none) (hl : s.heap.IsTuple l items) (hk : StrsAre items.toList ks) (small : ks.length < 1000)
    (q : ∀ (h' : Heap) (tk : Nat), HasS P w h' s.heap.objs.size ks ks.length → (∀ b o, s.heap.get? b = some o → h'.get? b = some o) → Q (.done (.ret .none)) { s with heap := h', toks := tk }) :
    wpAny (model P w) A (Builtin.«set.__init__» ⟨[.ref s.heap.objs.size, .ref l], []⟩) Q E { s with heap := s.heap.push (set0 w) } := by
  have g0 : (s.heap.push (set0 w)).get? s.heap.objs.size = some (set0 w) := Heap.get?_push_size _ rfl
  obtain ⟨⟨c1, dd, dt, sl⟩, ho, hc, n, hd⟩ := hl
  simp only at hc hd
  subst hc hd
  have g1 : (s.heap.push (set0 w)).get? l = some { cls := .type "tuple", dict := dd, data := .seq items n, slots := sl } := Heap.get?_push_of_some _ ho
  have g2 : (s.heap.push (set0 w)).IsTuple l items := ⟨_, g1, rfl, n, rfl⟩
  have f1 := F.sub_tuple_set
  have f2 := F.sub_tuple_frozenset
  have f3 : (Value.type "tuple" == Value.type "dict") = false := by decide
  unfold Builtin.«set.__init__» noKeywords Builtin.Frozenset.updateFrom
  generalize hI : pyIter = it
  wp_walk
  subst hI
  have lt : l < s.heap.objs.size := Heap.lt_size ho
  have sz : (s.heap.push (set0 w)).objs.size = s.heap.objs.size + 1 := Heap.size_push ..
  have n0 : ks.length = items.size := by
    have := StrsAre.len_eq hk
    rw [Array.length_toList] at this
    omega
  apply wpAny_pyIter_tuple g2
  apply wpAny_bind
  apply wpAny_runValue
  have ne : l ≠ (s.heap.push (set0 w)).objs.size := by rw [sz]; exact Nat.ne_of_lt (Nat.lt_succ_of_lt lt)
  have W := (Walks.tuple (prog := P) (w := w) (A := A.in1) (by simp [hh]) (s.heap.push (set0 w)).objs.size l ne items).toS
  rw [← n0] at W
  refine loop_texts ks W s.heap.objs.size ?_ small (fun i v e => ?_) ks.length 0 _ (Nat.zero_add _) ⟨⟨_, Heap.get?_push_size _ rfl, rfl, rfl⟩, g2.push _⟩ (hasS_new (Heap.get?_push_of_some _ g0)) fun s' m has => ?_
  · rw [sz]
    simp only [List.mem_cons, List.not_mem_nil, or_false, not_or]
    exact ⟨Nat.ne_of_lt (Nat.lt_succ_self _), Nat.ne_of_gt lt⟩
  · obtain ⟨t, e2⟩ := SS.strs_at hk i v (by rw [Array.getElem?_toList]; exact e)
    have hi : i < ks.length := by rw [n0]; exact (Array.getElem?_eq_some_iff.mp e).1
    refine ⟨ks[i], t, List.getElem?_eq_getElem hi, ?_⟩
    rw [e2, List.getD_eq_getElem?_getD, List.getElem?_eq_getElem hi]; rfl
  · obtain ⟨h', gg, dd', tk, oo⟩ := s'
    have eg : gg = s.gens := m.gens
    have ed : dd' = s.drawn := m.drawn
    have eo : oo = s.os := m.os
    subst eg ed eo
    change wpAny _ _ _ _ _ _
    apply wpAny_pure
    change wpAny _ _ (ret Value.none) _ _ _
    apply wpAny_pure
    refine q h' tk has fun b o e => ?_
    have lb : b < s.heap.objs.size := Heap.lt_size e
    refine m.heap b o ?_ (Heap.get?_push_of_some _ (Heap.get?_push_of_some _ e))
    rw [sz]
    simp only [List.mem_cons, List.not_mem_nil, or_false, not_or]
    exact ⟨Nat.ne_of_lt lb, Nat.ne_of_lt (Nat.lt_succ_of_lt lb)⟩
theorem call_set_texts {l : Addr} {items : Array Value} {ks : List Str} {Q : Value → Shared → Prop} (hh : A.handled = none) (hl : s.heap.IsTuple l items) (hk : StrsAre items.toList ks) (small : ks.length < 1000)
    (q : ∀ (h' : Heap) (tk : Nat), HasS P w h' s.heap.objs.size ks ks.length → (∀ b o, s.heap.get? b = some o → h'.get? b = some o) → Q (.ref s.heap.objs.size) { s with heap := h', toks := tk }) :
    wpAny (model P w) A (call (.type "set") [.ref l]) Q E s := by
  obtain ⟨c0, t0, mro⟩ := F.called_set.mro
  have f1 := F.called_set.made
  have f2 := F.called_set.sub
  have f3 := F.called_set.notType
  have f4 := F.called_set.canCreate
  have f5 := F.typeCall_set_1 (.ref l)
  apply wpAny_call
  apply codeAny_of_tree
  change wpAny _ _ (callAny (.type "set") _) _ _ _
  apply wpAny_pure
  refine ⟨Code.quiet_builtin _ (by decide +kernel), codeAny_builtin F.entry_type_call ?_⟩
  rw [Around.under_plain (weight_type_call_type "set" [.ref l] []) rfl]
  repeat (any_goals (first | assumption | wp_step))
  refine codeAny_mono (code_set_led1 (.ref l) (E := E) (Q₁ := fun v s1 => v = .ref s.heap.objs.size ∧ s1 = { s with heap := s.heap.push (set0 w) }) ⟨rfl, rfl⟩) fun r s1 hr => ?_
  match r, hr with
  | .error e, hr => exact hr
  | .ok (.ret v), hr =>
    obtain ⟨rfl, rfl⟩ := hr
    have g0 : (s.heap.push (set0 w)).get? s.heap.objs.size = some (set0 w) := Heap.get?_push_size _ rfl
    have f6 : Shared.TypeIs { s with heap := s.heap.push (set0 w) } (.ref s.heap.objs.size) "set" := ⟨_, g0, rfl⟩
    have f7 := F.called_set.init.lookup
    have f8 := F.called_set.init.bind (.ref s.heap.objs.size)
    repeat (any_goals (first | assumption | wp_step))
    refine codeAny_mono (codeAny_call_builtin (R := wants (fun v s2 => v = Value.none ∧ ∃ h' tk, s2 = { s with heap := h', toks := tk } ∧ HasS P w h' s.heap.objs.size ks ks.length ∧ ∀ b o, s.heap.get? b = some o → h'.get? b = some o) E)
      F.called_set.init.plain F.entry_set_init (check_set_init_1 f6 ?_)) fun r2 s2 hr2 => ?_
    · exact init_texts (A := A.in1.in1) (by simp [hh]) hl hk small fun h' tk a b => ⟨rfl, h', tk, rfl, a, b⟩
    · match r2, hr2 with
      | .error e, hr2 => exact hr2
      | .ok (.ret v), hr2 =>
        obtain ⟨rfl, h', tk, rfl, g1, g2⟩ := hr2
        repeat (any_goals (first | assumption | wp_step))
        exact q h' tk g1 g2
end
/-! ### len(set(t)) -/
/-- the set at a, of the texts ks -/
def SetSO (P : Program) (w : World) (a : Addr) (ks : List Str) : HO := .ext fun h => HasS P w h a ks ks.length
def rSetS (K : PySem.W.Frag) (P : Program) (w : World) : List V → Hp → VK → Prop := fun vs H Q => ∃ (p : Addr) (ks : List Str), vs = [.ref p] ∧ SqT K H p (ks.map V.str) ∧ ks.length < 1000 ∧
  ∀ a, H a = none → Q (.ref a) (upd H a (SetSO P w a ks))
theorem cr_setS {X : Cx} (hc : X.calm = true) : CallR X (.type "set") (rSetS X.K X.prog X.w) := by
  rintro pins s σ H vs us Q I r ⟨p, ks, rfl, hq, small, q⟩
  rw [Vals.ref1 r]
  obtain ⟨its, rv, pt, hz⟩ := I.tuple hq
  have hk : StrsAre its.toArray.toList ks := by simpa using strsAre_of rv
  refine call_set_texts (I.ok.hd hc) (show s.heap.IsTuple p its.toArray from pt) hk small fun h' tk has keep => ?_
  refine ⟨.ref _, _, I.laid (o := SetSO X.prog X.w s.heap.objs.size ks) (t' := tk) (fun b o e => keep b o e) (Nat.le_refl _) ⟨has, ?_, fun h1 h2 a b => a.at b⟩, rfl, q _ (I.hok.fresh (Nat.le_refl _))⟩
  obtain ⟨o, _, _, _, ho, _⟩ := has
  exact ⟨o, ho⟩
def rLenS (P : Program) (w : World) : List V → Hp → VK → Prop := fun vs H Q => ∃ (a : Addr) (ks : List Str), vs = [.ref a] ∧ H a = some (SetSO P w a ks) ∧ ks.length < 1000 ∧ Q (.int (distN ks ks.length : Nat)) H
theorem cr_lenS {X : Cx} : CallR X (.builtin "len") (rLenS X.prog X.w) := by
  rintro pins s σ H vs us Q I r ⟨a, ks, rfl, ha, small, q⟩
  rw [Vals.ref1 r]
  obtain ⟨⟨o, es, ep, t, ho, hex, hd, _, _, _, hf, hn⟩, _, _⟩ := I.hok _ _ ha
  have lt := distN_le ks ks.length
  refine call_len_set ho hex hd hf (by omega) ⟨.int (distN ks ks.length : Nat), H, I.tok _, ⟨_, by rw [hn]⟩, q⟩
end MI

set_option maxRecDepth 100000
/-! MI, part 1: plain data D, stores of mutable objects, how they lie in the abstract heap. -/
namespace MI
open PySem PySem.Spec PyProof.Rows L2

/-- plain data; loc n is the n-th mutable object of the store -/
inductive D where
  | non
  | bl (b : Bool)
  | int (i : Int)
  | str (x : Str)
  | tup (xs : List D)
  | lst (xs : List D)
  | ro (xs : List D)
  | dK (kvs : List (Key × D))
  | dT (kvs : List (List Key × D))
  | ins (c : Nat) (fs : List (Str × D))
  | loc (n : Nat)
  | lck (d : D)
  | rd (kvs : List (Int × Int))

abbrev Sto := List D
abbrev Ev := List (Option D)

/-- l: where the mutable objects of the store lie; z: addresses set aside (nothing immutable lies there) -/
structure Io where
  l : List Addr
  z : List Addr
def Io.out (ι : Io) (a : Addr) : Prop := ¬ a ∈ ι.l ∧ ¬ a ∈ ι.z
section
variable (K : PySem.W.Frag) (C : Nat → Addr) (H : Hp) (ι : Io)
def KTup (a : Addr) (xs : List V) : Prop := ∃ (o : Obj) (its : Array Value) (n : Nat), K.lookup a = some o ∧ o.cls = .type "tuple" ∧ o.data = .seq its n ∧ its.size ≤ sizeLine ∧ Vals xs its.toList
def KLst (a : Addr) (xs : List V) : Prop := ∃ (o : Obj) (its : Array Value) (n : Nat), K.lookup a = some o ∧ o.cls = .type "list" ∧ o.dict = none ∧ o.data = .seq its n ∧ its.size ≤ sizeLine ∧ Vals xs its.toList
/-- a written dict from ints to ints -/
def KDi (a : Addr) (kvs : List (Int × Int)) : Prop := ∃ (es : Array DictEntry) (n : Nat), K.lookup a = some ⟨.type "dict", none, .dict es n, #[]⟩ ∧ (∀ e ∈ es.toList, ∃ x t, e.key = .int x t ∧ e.hash = hashInt x) ∧ ∀ i v, kvs.lookup i = some v → ∃ t, findBy Value.isInt es i = some (.int v t)
def TupAt (a : Addr) (xs : List V) : Prop := H a = some (.tup xs) ∧ ι.out a
def LstAt (a : Addr) (xs : List V) : Prop := (Rd H a (.lst xs) ∧ ι.out a) ∨ KLst K a xs

mutual
def Rep : D → V → Prop
  | .non, v => v = .non
  | .bl b, v => v = .bl b
  | .int i, v => v = .int i
  | .str x, v => v = .str x
  | .tup xs, v => ∃ a vs, v = .ref a ∧ TupAt H ι a vs ∧ Reps xs vs
  | .lst xs, v => ∃ a vs, v = .ref a ∧ H a = some (.lst vs) ∧ ι.out a ∧ Reps xs vs
  | .ro xs, v => ∃ a vs, v = .ref a ∧ LstAt K H ι a vs ∧ Reps xs vs
  | .dK kvs, v => ∃ a kw, v = .ref a ∧ H a = some (.dK kw) ∧ ι.out a ∧ RepK kvs kw
  | .dT kvs, v => ∃ a kw, v = .ref a ∧ H a = some (.dT kw) ∧ ι.out a ∧ RepT kvs kw
  | .ins c fs, v => ∃ a dx kw, v = .ref a ∧ H a = some (.ins (C c) dx kw) ∧ ι.out a ∧ RepF fs kw
  | .loc n, v => ∃ a, v = .ref a ∧ ι.l[n]? = some a
  | .lck _, _ => False
  | .rd kvs, v => ∃ a, v = .ref a ∧ KDi K a kvs
def Reps : List D → List V → Prop
  | [], vs => vs = []
  | d :: ds, vs => ∃ v r, vs = v :: r ∧ Rep d v ∧ Reps ds r
def RepK : List (Key × D) → List (Key × V) → Prop
  | [], kw => kw = []
  | (k, d) :: r, kw => ∃ v s, kw = (k, v) :: s ∧ Rep d v ∧ RepK r s
def RepT : List (List Key × D) → List (List Key × V) → Prop
  | [], kw => kw = []
  | (k, d) :: r, kw => ∃ v s, kw = (k, v) :: s ∧ Rep d v ∧ RepT r s
def RepF : List (Str × D) → List (Str × V) → Prop
  | [], kw => kw = []
  | (k, d) :: r, kw => ∃ v s, kw = (k, v) :: s ∧ Rep d v ∧ RepF r s
end
/-- what stands at a mutable object's address -/
def RepO : D → HO → Prop
  | .lst xs, .lst vs => Reps K C H ι xs vs
  | .dK kvs, .dK kw => RepK K C H ι kvs kw
  | .dT kvs, .dT kw => RepT K C H ι kvs kw
  | .ins c fs, .ins c' _ kw => c' = C c ∧ RepF K C H ι fs kw
  | .lck (.dK kvs), .frz _ (.dK kw) => RepK K C H ι kvs kw
  | .lck (.dT kvs), .frz _ (.dT kw) => RepT K C H ι kvs kw
  | _, _ => False
end

/-! locations below n -/
mutual
def Cl (n : Nat) : D → Prop
  | .non => True
  | .bl _ => True
  | .int _ => True
  | .str _ => True
  | .tup xs => Cls' n xs
  | .lst xs => Cls' n xs
  | .ro xs => Cls' n xs
  | .dK kvs => ClK n kvs
  | .dT kvs => ClT n kvs
  | .ins _ fs => ClF n fs
  | .loc m => m < n
  | .lck d => Cl n d
  | .rd _ => True
def Cls' (n : Nat) : List D → Prop
  | [] => True
  | d :: r => Cl n d ∧ Cls' n r
def ClK (n : Nat) : List (Key × D) → Prop
  | [] => True
  | (_, d) :: r => Cl n d ∧ ClK n r
def ClT (n : Nat) : List (List Key × D) → Prop
  | [] => True
  | (_, d) :: r => Cl n d ∧ ClT n r
def ClF (n : Nat) : List (Str × D) → Prop
  | [] => True
  | (_, d) :: r => Cl n d ∧ ClF n r
end
theorem Cls'_iff {n : Nat} : ∀ {xs : List D}, Cls' n xs ↔ ∀ d ∈ xs, Cl n d
  | [] => by simp [Cls']
  | d :: r => by simp [Cls', Cls'_iff (xs := r)]
theorem ClK_iff {n : Nat} : ∀ {xs : List (Key × D)}, ClK n xs ↔ ∀ d ∈ xs, Cl n d.2
  | [] => by simp [ClK]
  | (k, d) :: r => by simp [ClK, ClK_iff (xs := r)]
theorem ClT_iff {n : Nat} : ∀ {xs : List (List Key × D)}, ClT n xs ↔ ∀ d ∈ xs, Cl n d.2
  | [] => by simp [ClT]
  | (k, d) :: r => by simp [ClT, ClT_iff (xs := r)]
theorem ClF_iff {n : Nat} : ∀ {xs : List (Str × D)}, ClF n xs ↔ ∀ d ∈ xs, Cl n d.2
  | [] => by simp [ClF]
  | (k, d) :: r => by simp [ClF, ClF_iff (xs := r)]

/-! ### what stays -/
structure Kp (H : Hp) (ι : Io) (H' : Hp) (ι' : Io) : Prop where
  pre : ι.l <+: ι'.l
  keep : ∀ a o, H a = some o → ι.out a → H' a = some o ∧ ι'.out a
theorem Kp.get {H H' : Hp} {ι ι' : Io} (e : Kp H ι H' ι') {n : Nat} {a : Addr} (h : ι.l[n]? = some a) : ι'.l[n]? = some a := by
  obtain ⟨r, e1⟩ := e.pre
  rw [← e1, List.getElem?_append_left (List.getElem?_eq_some_iff.mp h).1]
  exact h
theorem Kp.rd {H H' : Hp} {ι ι' : Io} (e : Kp H ι H' ι') {a : Addr} {u : HO} (h : Rd H a u) (n : ι.out a) : Rd H' a u ∧ ι'.out a := by
  rcases h with h | ⟨o, h⟩
  · exact ⟨.inl (e.keep _ _ h n).1, (e.keep _ _ h n).2⟩
  · exact ⟨.inr ⟨o, (e.keep _ _ h n).1⟩, (e.keep _ _ h n).2⟩
structure Ext (H : Hp) (ι : Io) (H' : Hp) (ι' : Io) : Prop extends Kp H ι H' ι' where
  zeq : ι'.z = ι.z
  hid : ∀ a ∈ ι.z, H' a = H a
theorem Ext.refl (H : Hp) (ι : Io) : Ext H ι H ι := ⟨⟨List.prefix_refl _, fun _ _ h n => ⟨h, n⟩⟩, rfl, fun _ _ => rfl⟩
theorem Ext.trans {H H1 H2 : Hp} {ι ι1 ι2 : Io} (a : Ext H ι H1 ι1) (b : Ext H1 ι1 H2 ι2) : Ext H ι H2 ι2 :=
  ⟨⟨a.pre.trans b.pre, fun c o h n => let ⟨h1, n1⟩ := a.keep c o h n; b.keep c o h1 n1⟩, b.zeq.trans a.zeq, fun c hc => (b.hid c (by rw [a.zeq]; exact hc)).trans (a.hid c hc)⟩
section
variable {K : PySem.W.Frag} {C : Nat → Addr} {H H' : Hp} {ι ι' : Io}
theorem TupAt.kp (e : Kp H ι H' ι') {a : Addr} {xs : List V} (h : TupAt H ι a xs) : TupAt H' ι' a xs := e.keep _ _ h.1 h.2
theorem LstAt.kp (e : Kp H ι H' ι') {a : Addr} {xs : List V} (h : LstAt K H ι a xs) : LstAt K H' ι' a xs := by
  rcases h with ⟨h, n⟩ | h
  · exact .inl (e.rd h n)
  · exact .inr h
theorem TupAt.sq {a : Addr} {xs : List V} (h : TupAt H ι a xs) : SqT K H a xs := .inl (.inl h.1)
theorem LstAt.sq {a : Addr} {xs : List V} (h : LstAt K H ι a xs) : SqL K H a xs := by
  rcases h with ⟨h, _⟩ | h
  · exact .inl h
  · exact .inr h
mutual
theorem Rep.kp (e : Kp H ι H' ι') : ∀ {d : D} {v : V}, Rep K C H ι d v → Rep K C H' ι' d v
  | .non, _, h => h
  | .bl _, _, h => h
  | .int _, _, h => h
  | .str _, _, h => h
  | .tup xs, v, h => by
    simp only [Rep] at h ⊢
    obtain ⟨a, vs, e1, h1, h2⟩ := h
    exact ⟨a, vs, e1, h1.kp e, Reps.kp e h2⟩
  | .lst xs, v, h => by
    simp only [Rep] at h ⊢
    obtain ⟨a, vs, e1, h1, n, h2⟩ := h
    exact ⟨a, vs, e1, (e.keep _ _ h1 n).1, (e.keep _ _ h1 n).2, Reps.kp e h2⟩
  | .ro xs, v, h => by
    simp only [Rep] at h ⊢
    obtain ⟨a, vs, e1, h1, h2⟩ := h
    exact ⟨a, vs, e1, h1.kp e, Reps.kp e h2⟩
  | .dK kvs, v, h => by
    simp only [Rep] at h ⊢
    obtain ⟨a, kw, e1, h1, n, h2⟩ := h
    exact ⟨a, kw, e1, (e.keep _ _ h1 n).1, (e.keep _ _ h1 n).2, RepK.kp e h2⟩
  | .dT kvs, v, h => by
    simp only [Rep] at h ⊢
    obtain ⟨a, kw, e1, h1, n, h2⟩ := h
    exact ⟨a, kw, e1, (e.keep _ _ h1 n).1, (e.keep _ _ h1 n).2, RepT.kp e h2⟩
  | .ins c fs, v, h => by
    simp only [Rep] at h ⊢
    obtain ⟨a, dx, kw, e1, h1, n, h2⟩ := h
    exact ⟨a, dx, kw, e1, (e.keep _ _ h1 n).1, (e.keep _ _ h1 n).2, RepF.kp e h2⟩
  | .loc n, v, h => by
    simp only [Rep] at h ⊢
    obtain ⟨a, e1, h1⟩ := h
    exact ⟨a, e1, e.get h1⟩
  | .lck _, _, h => by simp only [Rep] at h
  | .rd _, v, h => by simpa only [Rep] using h
theorem Reps.kp (e : Kp H ι H' ι') : ∀ {ds : List D} {vs : List V}, Reps K C H ι ds vs → Reps K C H' ι' ds vs
  | [], _, h => by simpa only [Reps] using h
  | d :: ds, vs, h => by
    simp only [Reps] at h ⊢
    obtain ⟨v, r, e1, h1, h2⟩ := h
    exact ⟨v, r, e1, h1.kp e, Reps.kp e h2⟩
theorem RepK.kp (e : Kp H ι H' ι') : ∀ {ds : List (Key × D)} {vs : List (Key × V)}, RepK K C H ι ds vs → RepK K C H' ι' ds vs
  | [], _, h => by simpa only [RepK] using h
  | (k, d) :: ds, vs, h => by
    simp only [RepK] at h ⊢
    obtain ⟨v, r, e1, h1, h2⟩ := h
    exact ⟨v, r, e1, h1.kp e, RepK.kp e h2⟩
theorem RepT.kp (e : Kp H ι H' ι') : ∀ {ds : List (List Key × D)} {vs : List (List Key × V)}, RepT K C H ι ds vs → RepT K C H' ι' ds vs
  | [], _, h => by simpa only [RepT] using h
  | (k, d) :: ds, vs, h => by
    simp only [RepT] at h ⊢
    obtain ⟨v, r, e1, h1, h2⟩ := h
    exact ⟨v, r, e1, h1.kp e, RepT.kp e h2⟩
theorem RepF.kp (e : Kp H ι H' ι') : ∀ {ds : List (Str × D)} {vs : List (Str × V)}, RepF K C H ι ds vs → RepF K C H' ι' ds vs
  | [], _, h => by simpa only [RepF] using h
  | (k, d) :: ds, vs, h => by
    simp only [RepF] at h ⊢
    obtain ⟨v, r, e1, h1, h2⟩ := h
    exact ⟨v, r, e1, h1.kp e, RepF.kp e h2⟩
end
theorem RepO.kp (e : Kp H ι H' ι') : ∀ {d : D} {o : HO}, RepO K C H ι d o → RepO K C H' ι' d o := by
  intro d o h
  unfold RepO at h ⊢
  split at h
  · exact Reps.kp e h
  · exact RepK.kp e h
  · exact RepT.kp e h
  · exact ⟨h.1, RepF.kp e h.2⟩
  · exact RepK.kp e h
  · exact RepT.kp e h
  · exact h.elim


theorem Rep.mono (e : Ext H ι H' ι') {d : D} {v : V} (h : Rep K C H ι d v) : Rep K C H' ι' d v := h.kp e.toKp
theorem Reps.mono (e : Ext H ι H' ι') {d : List D} {v : List V} (h : Reps K C H ι d v) : Reps K C H' ι' d v := h.kp e.toKp
theorem RepO.mono (e : Ext H ι H' ι') {d : D} {v : HO} (h : RepO K C H ι d v) : RepO K C H' ι' d v := h.kp e.toKp
theorem Reps.length : ∀ {ds : List D} {vs : List V}, Reps K C H ι ds vs → ds.length = vs.length
  | [], _, h => by simp only [Reps] at h; subst h; rfl
  | d :: ds, vs, h => by
    simp only [Reps] at h
    obtain ⟨v, r, rfl, _, h2⟩ := h
    simp [h2.length]
theorem Reps.get : ∀ {ds : List D} {vs : List V} {i : Nat} {d : D}, Reps K C H ι ds vs → ds[i]? = some d → ∃ v, vs[i]? = some v ∧ Rep K C H ι d v
  | [], _, _, _, _, h => by simp at h
  | d :: ds, vs, 0, x, h, e => by
    simp only [Reps] at h
    obtain ⟨v, r, rfl, h1, _⟩ := h
    simp at e; subst e
    exact ⟨v, rfl, h1⟩
  | d :: ds, vs, i + 1, x, h, e => by
    simp only [Reps] at h
    obtain ⟨v, r, rfl, _, h2⟩ := h
    obtain ⟨v', h3, h4⟩ := h2.get (i := i) (by simpa using e)
    exact ⟨v', by simpa using h3, h4⟩
theorem Reps.append : ∀ {ds es : List D} {vs ws : List V}, Reps K C H ι ds vs → Reps K C H ι es ws → Reps K C H ι (ds ++ es) (vs ++ ws)
  | [], _, _, _, h, h' => by simp only [Reps] at h; subst h; simpa using h'
  | d :: ds, es, vs, ws, h, h' => by
    simp only [Reps, List.cons_append] at h ⊢
    obtain ⟨v, r, rfl, h1, h2⟩ := h
    exact ⟨v, r ++ ws, rfl, h1, h2.append h'⟩
theorem Reps.one {d : D} {v : V} (h : Rep K C H ι d v) : Reps K C H ι [d] [v] := by
  simp only [Reps]; exact ⟨v, [], rfl, h, rfl⟩
theorem Reps.nil : Reps K C H ι [] [] := by simp only [Reps]
theorem Reps.cons {d : D} {v : V} {ds : List D} {vs : List V} (h : Rep K C H ι d v) (h' : Reps K C H ι ds vs) : Reps K C H ι (d :: ds) (v :: vs) := by
  simp only [Reps]; exact ⟨v, vs, rfl, h, h'⟩
theorem Reps.nil_iff {vs : List V} : Reps K C H ι [] vs ↔ vs = [] := by simp only [Reps]
theorem Reps.cons_iff {d : D} {ds : List D} {vs : List V} : Reps K C H ι (d :: ds) vs ↔ ∃ v r, vs = v :: r ∧ Rep K C H ι d v ∧ Reps K C H ι ds r := by simp only [Reps]
theorem Reps.take : ∀ {ds : List D} {vs : List V} (n : Nat), Reps K C H ι ds vs → Reps K C H ι (ds.take n) (vs.take n)
  | _, _, 0, _ => by simpa using Reps.nil
  | [], vs, n + 1, h => by simp only [Reps] at h; subst h; simpa using Reps.nil
  | d :: ds, vs, n + 1, h => by
    obtain ⟨v, r, rfl, h1, h2⟩ := Reps.cons_iff.mp h
    simpa using Reps.cons h1 (h2.take n)
theorem Reps.drop : ∀ {ds : List D} {vs : List V} (n : Nat), Reps K C H ι ds vs → Reps K C H ι (ds.drop n) (vs.drop n)
  | _, _, 0, h => by simpa using h
  | [], vs, n + 1, h => by simp only [Reps] at h; subst h; simpa using Reps.nil
  | d :: ds, vs, n + 1, h => by
    obtain ⟨v, r, rfl, h1, h2⟩ := Reps.cons_iff.mp h
    simpa using h2.drop n
theorem Reps.reverse : ∀ {ds : List D} {vs : List V}, Reps K C H ι ds vs → Reps K C H ι ds.reverse vs.reverse
  | [], vs, h => by simp only [Reps] at h; subst h; simpa using Reps.nil
  | d :: ds, vs, h => by
    obtain ⟨v, r, rfl, h1, h2⟩ := Reps.cons_iff.mp h
    simpa using Reps.append h2.reverse (Reps.one h1)
theorem Reps.set {d : D} {v : V} (h1 : Rep K C H ι d v) : ∀ {ds : List D} {vs : List V} (n : Nat), Reps K C H ι ds vs → Reps K C H ι (ds.set n d) (vs.set n v)
  | [], vs, _, h => by simp only [Reps] at h; subst h; simpa using Reps.nil
  | x :: ds, vs, 0, h => by
    obtain ⟨u, r, rfl, _, h2⟩ := Reps.cons_iff.mp h
    simpa using Reps.cons h1 h2
  | x :: ds, vs, n + 1, h => by
    obtain ⟨u, r, rfl, h0, h2⟩ := Reps.cons_iff.mp h
    simpa using Reps.cons h0 (Reps.set h1 n h2)
theorem Reps.eraseIdx : ∀ {ds : List D} {vs : List V} (n : Nat), Reps K C H ι ds vs → Reps K C H ι (ds.eraseIdx n) (vs.eraseIdx n)
  | [], vs, _, h => by simp only [Reps] at h; subst h; simpa using Reps.nil
  | x :: ds, vs, 0, h => by
    obtain ⟨u, r, rfl, _, h2⟩ := Reps.cons_iff.mp h
    simpa using h2
  | x :: ds, vs, n + 1, h => by
    obtain ⟨u, r, rfl, h0, h2⟩ := Reps.cons_iff.mp h
    simpa using Reps.cons h0 (Reps.eraseIdx n h2)
theorem Reps.dropLast {ds : List D} {vs : List V} (h : Reps K C H ι ds vs) : Reps K C H ι ds.dropLast vs.dropLast := by
  rw [List.dropLast_eq_take, List.dropLast_eq_take, h.length]
  exact h.take _
theorem Reps.replicate : ∀ (n : Nat) {ds : List D} {vs : List V}, Reps K C H ι ds vs → Reps K C H ι (List.replicate n ds).flatten (List.replicate n vs).flatten
  | 0, _, _, _ => by simpa using Reps.nil
  | n + 1, _, _, h => by
    simp only [List.replicate_succ, List.flatten_cons]
    exact h.append (Reps.replicate n h)
theorem Reps.ints {vs : List V} : ∀ {ns : List Int}, Reps K C H ι (ns.map D.int) vs ↔ vs = ns.map V.int
  | [] => by simp [Reps]
  | n :: ns => by
    simp only [List.map_cons, Reps.cons_iff, Rep]
    constructor
    · rintro ⟨v, r, rfl, rfl, h⟩
      rw [Reps.ints.mp h]
    · rintro rfl
      exact ⟨_, _, rfl, rfl, Reps.ints.mpr rfl⟩
end

/-! ### the store -/
structure Sim (K : PySem.W.Frag) (C : Nat → Addr) (H : Hp) (ι : Io) (st : Sto) : Prop where
  len : ι.l.length = st.length
  nd : ι.l.Nodup
  zin : ∀ a ∈ ι.z, (∃ o, H a = some o) ∧ a ∉ ι.l
  at_ : ∀ (n : Nat) (d : D) (a : Addr), st[n]? = some d → ι.l[n]? = some a → ∃ o, H a = some o ∧ RepO K C H ι d o
section
variable {K : PySem.W.Frag} {C : Nat → Addr} {H H' : Hp} {ι ι' : Io} {st st' : Sto}
theorem Sim.mem (S : Sim K C H ι st) {a : Addr} (h : a ∈ ι.l) : ∃ o, H a = some o := by
  obtain ⟨n, hn, e⟩ := List.mem_iff_getElem.mp h
  have h1 : ι.l[n]? = some a := by rw [List.getElem?_eq_getElem hn, e]
  have h2 : n < st.length := by rw [← S.len]; exact hn
  obtain ⟨o, h3, _⟩ := S.at_ n st[n] a (List.getElem?_eq_getElem h2) h1
  exact ⟨o, h3⟩
theorem Sim.fresh (S : Sim K C H ι st) {a : Addr} (h : H a = none) : ι.out a := by
  refine ⟨fun m => ?_, fun m => ?_⟩
  · obtain ⟨o, e⟩ := S.mem m
    rw [h] at e; cases e
  · obtain ⟨⟨o, e⟩, _⟩ := S.zin a m
    rw [h] at e; cases e
theorem Sim.addr (S : Sim K C H ι st) {n : Nat} {d : D} (h : st[n]? = some d) : ∃ a o, ι.l[n]? = some a ∧ H a = some o ∧ RepO K C H ι d o := by
  have hn : n < ι.l.length := by rw [S.len]; exact (List.getElem?_eq_some_iff.mp h).1
  have e : ι.l[n]? = some ι.l[n] := List.getElem?_eq_getElem hn
  obtain ⟨o, h1, h2⟩ := S.at_ n d _ h e
  exact ⟨_, o, e, h1, h2⟩
theorem nodup_get {l : List Addr} (h : l.Nodup) {i j : Nat} {a : Addr} (e1 : l[i]? = some a) (e2 : l[j]? = some a) : i = j := by
  obtain ⟨h1, e1⟩ := List.getElem?_eq_some_iff.mp e1
  obtain ⟨h2, e2⟩ := List.getElem?_eq_some_iff.mp e2
  exact (List.getElem_inj h).mp (e1.trans e2.symm)
/-- a fresh immutable object -/
theorem Sim.imm (S : Sim K C H ι st) {p : Addr} {o : HO} (h : H p = none) : Ext H ι (upd H p o) ι ∧ Sim K C (upd H p o) ι st := by
  have np := S.fresh h
  have hz : ∀ a ∈ ι.z, upd H p o a = H a := fun a ha => upd_ne fun z => np.2 (z ▸ ha)
  have e : Ext H ι (upd H p o) ι := ⟨⟨List.prefix_refl _, fun a u h1 n => ⟨by rw [upd_ne (ne_of_none h1 h)]; exact h1, n⟩⟩, rfl, hz⟩
  refine ⟨e, S.len, S.nd, fun a ha => ⟨by rw [hz a ha]; exact (S.zin a ha).1, (S.zin a ha).2⟩, fun n d a h1 h2 => ?_⟩
  obtain ⟨u, h3, h4⟩ := S.at_ n d a h1 h2
  exact ⟨u, by rw [upd_ne (ne_of_none h3 h)]; exact h3, h4.mono e⟩
/-- a fresh mutable object -/
theorem Sim.new (S : Sim K C H ι st) {p : Addr} {o : HO} {d : D} (h : H p = none) (r : RepO K C H ι d o) : Ext H ι (upd H p o) ⟨ι.l ++ [p], ι.z⟩ ∧ Sim K C (upd H p o) ⟨ι.l ++ [p], ι.z⟩ (st ++ [d]) := by
  have np := S.fresh h
  have hz : ∀ a ∈ ι.z, upd H p o a = H a := fun a ha => upd_ne fun z => np.2 (z ▸ ha)
  have e : Ext H ι (upd H p o) ⟨ι.l ++ [p], ι.z⟩ := by
    refine ⟨⟨List.prefix_append _ _, fun a u h1 n => ⟨by rw [upd_ne (ne_of_none h1 h)]; exact h1, ?_, n.2⟩⟩, rfl, hz⟩
    show a ∉ ι.l ++ [p]
    rw [List.mem_append, List.mem_singleton]
    rintro (q | q)
    · exact n.1 q
    · exact ne_of_none h1 h q
  refine ⟨e, by simp [S.len], ?_, fun a ha => ⟨by rw [hz a ha]; exact (S.zin a ha).1, ?_⟩, fun n x a h1 h2 => ?_⟩
  · show (ι.l ++ [p]).Nodup
    rw [List.nodup_append]
    exact ⟨S.nd, by simp, by rintro a ha b hb rfl; simp at hb; subst hb; exact np.1 ha⟩
  · show a ∉ ι.l ++ [p]
    rw [List.mem_append, List.mem_singleton]
    rintro (q | q)
    · exact (S.zin a ha).2 q
    · exact np.2 (q ▸ ha)
  · have h2 : (ι.l ++ [p])[n]? = some a := h2
    by_cases hn : n < st.length
    · rw [List.getElem?_append_left hn] at h1
      rw [List.getElem?_append_left (by rw [S.len]; exact hn)] at h2
      obtain ⟨u, h3, h4⟩ := S.at_ n x a h1 h2
      exact ⟨u, by rw [upd_ne (ne_of_none h3 h)]; exact h3, h4.mono e⟩
    · have hl : n = st.length := by
        have := (List.getElem?_eq_some_iff.mp h1).1
        simp at this; omega
      subst hl
      rw [List.getElem?_append_right (Nat.le_refl _)] at h1
      rw [← S.len, List.getElem?_append_right (Nat.le_refl _)] at h2
      simp at h1 h2
      subst h1 h2
      exact ⟨o, upd_same, r.mono e⟩
/-- a mutable object changes -/
theorem Sim.write (S : Sim K C H ι st) {n : Nat} {a : Addr} {o : HO} {d : D} (h : ι.l[n]? = some a) (r : RepO K C H ι d o) : Ext H ι (upd H a o) ι ∧ Sim K C (upd H a o) ι (st.set n d) := by
  have ha : a ∈ ι.l := List.mem_of_getElem? h
  have hz : ∀ b ∈ ι.z, upd H a o b = H b := fun b hb => upd_ne fun z => (S.zin b hb).2 (z ▸ ha)
  have e : Ext H ι (upd H a o) ι := ⟨⟨List.prefix_refl _, fun b u h1 m => ⟨by rw [upd_ne (fun z => m.1 (by rw [z]; exact ha))]; exact h1, m⟩⟩, rfl, hz⟩
  refine ⟨e, by simp [S.len], S.nd, fun b hb => ⟨by rw [hz b hb]; exact (S.zin b hb).1, (S.zin b hb).2⟩, fun k x b h1 h2 => ?_⟩
  by_cases hk : k = n
  · subst hk
    rw [h] at h2; cases h2
    have hl : k < st.length := by rw [← S.len]; exact (List.getElem?_eq_some_iff.mp h).1
    rw [List.getElem?_set_self hl] at h1; cases h1
    exact ⟨o, upd_same, r.mono e⟩
  · rw [List.getElem?_set_ne (Ne.symm hk)] at h1
    obtain ⟨u, h3, h4⟩ := S.at_ k x b h1 h2
    have nb : b ≠ a := fun z => hk (nodup_get S.nd h2 (by rw [z]; exact h))
    exact ⟨u, by rw [upd_ne nb]; exact h3, h4.mono e⟩

/-- a fresh address set aside -/
theorem Sim.hide (S : Sim K C H ι st) {p : Addr} {o : HO} (h : H p = none) : Kp H ι (upd H p o) ⟨ι.l, p :: ι.z⟩ ∧ Sim K C (upd H p o) ⟨ι.l, p :: ι.z⟩ st := by
  have np := S.fresh h
  have e : Kp H ι (upd H p o) ⟨ι.l, p :: ι.z⟩ := by
    refine ⟨List.prefix_refl _, fun a u h1 n => ⟨by rw [upd_ne (ne_of_none h1 h)]; exact h1, n.1, ?_⟩⟩
    show ¬ a ∈ p :: ι.z
    rw [List.mem_cons]
    rintro (q | q)
    · exact ne_of_none h1 h q
    · exact n.2 q
  refine ⟨e, S.len, S.nd, fun a ha => ?_, fun n d a h1 h2 => ?_⟩
  · have ha : a ∈ p :: ι.z := ha
    rcases List.mem_cons.mp ha with rfl | ha
    · exact ⟨⟨o, upd_same⟩, np.1⟩
    · have na : a ≠ p := fun z => np.2 (by rw [← z]; exact ha)
      exact ⟨by rw [upd_ne na]; exact (S.zin a ha).1, (S.zin a ha).2⟩
  · obtain ⟨u, h3, h4⟩ := S.at_ n d a h1 h2
    exact ⟨u, by rw [upd_ne (ne_of_none h3 h)]; exact h3, h4.kp e⟩
theorem Kp.show (p : Addr) (l z : List Addr) : Kp H ⟨l, p :: z⟩ H ⟨l, z⟩ := ⟨List.prefix_refl _, fun _ _ h n => ⟨h, n.1, fun q => n.2 (List.mem_cons_of_mem _ q)⟩⟩
theorem Sim.show {p : Addr} {l z : List Addr} (S : Sim K C H ⟨l, p :: z⟩ st) : Sim K C H ⟨l, z⟩ st :=
  ⟨S.len, S.nd, fun a ha => S.zin a (List.mem_cons_of_mem _ ha), fun n d a h1 h2 => let ⟨o, h3, h4⟩ := S.at_ n d a h1 h2; ⟨o, h3, h4.kp (.show p l z)⟩⟩
/-- what is set aside is written -/
theorem Sim.side (S : Sim K C H ι st) {p : Addr} {o : HO} (h : p ∈ ι.z) : Kp H ι (upd H p o) ι ∧ Sim K C (upd H p o) ι st := by
  have e : Kp H ι (upd H p o) ι := ⟨List.prefix_refl _, fun a u h1 n => ⟨by rw [upd_ne (fun z => n.2 (by rw [z]; exact h))]; exact h1, n⟩⟩
  refine ⟨e, S.len, S.nd, fun a ha => ⟨?_, (S.zin a ha).2⟩, fun n d a h1 h2 => ?_⟩
  · by_cases z : a = p
    · subst z; exact ⟨o, upd_same⟩
    · rw [upd_ne z]; exact (S.zin a ha).1
  · obtain ⟨u, h3, h4⟩ := S.at_ n d a h1 h2
    have na : a ≠ p := fun z => (S.zin p h).2 (by rw [← z]; exact List.mem_of_getElem? h2)
    exact ⟨u, by rw [upd_ne na]; exact h3, h4.kp e⟩
/-! ### closed -/
mutual
theorem Rep.cl : ∀ {d : D} {v : V}, Rep K C H ι d v → Cl ι.l.length d
  | .non, _, _ => by simp [Cl]
  | .bl _, _, _ => by simp [Cl]
  | .int _, _, _ => by simp [Cl]
  | .str _, _, _ => by simp [Cl]
  | .tup xs, v, h => by
    simp only [Rep] at h
    obtain ⟨_, _, _, _, h2⟩ := h
    simpa [Cl] using Reps.cl h2
  | .lst xs, v, h => by
    simp only [Rep] at h
    obtain ⟨_, _, _, _, _, h2⟩ := h
    simpa [Cl] using Reps.cl h2
  | .ro xs, v, h => by
    simp only [Rep] at h
    obtain ⟨_, _, _, _, h2⟩ := h
    simpa [Cl] using Reps.cl h2
  | .dK kvs, v, h => by
    simp only [Rep] at h
    obtain ⟨_, _, _, _, _, h2⟩ := h
    simpa [Cl] using RepK.cl h2
  | .dT kvs, v, h => by
    simp only [Rep] at h
    obtain ⟨_, _, _, _, _, h2⟩ := h
    simpa [Cl] using RepT.cl h2
  | .ins c fs, v, h => by
    simp only [Rep] at h
    obtain ⟨_, _, _, _, _, _, h2⟩ := h
    simpa [Cl] using RepF.cl h2
  | .loc n, v, h => by
    simp only [Rep] at h
    obtain ⟨_, _, h1⟩ := h
    simpa [Cl] using (List.getElem?_eq_some_iff.mp h1).1
  | .lck _, _, h => by simp only [Rep] at h
  | .rd _, _, _ => by simp [Cl]
theorem Reps.cl : ∀ {ds : List D} {vs : List V}, Reps K C H ι ds vs → Cls' ι.l.length ds
  | [], _, h => by simp [Cls']
  | d :: ds, vs, h => by
    simp only [Reps] at h
    obtain ⟨v, r, e1, h1, h2⟩ := h
    simp only [Cls']
    exact ⟨h1.cl, h2.cl⟩
theorem RepK.cl : ∀ {ds : List (Key × D)} {vs : List (Key × V)}, RepK K C H ι ds vs → ClK ι.l.length ds
  | [], _, h => by simp [ClK]
  | (k, d) :: ds, vs, h => by
    simp only [RepK] at h
    obtain ⟨v, r, e1, h1, h2⟩ := h
    simp only [ClK]
    exact ⟨h1.cl, h2.cl⟩
theorem RepT.cl : ∀ {ds : List (List Key × D)} {vs : List (List Key × V)}, RepT K C H ι ds vs → ClT ι.l.length ds
  | [], _, h => by simp [ClT]
  | (k, d) :: ds, vs, h => by
    simp only [RepT] at h
    obtain ⟨v, r, e1, h1, h2⟩ := h
    simp only [ClT]
    exact ⟨h1.cl, h2.cl⟩
theorem RepF.cl : ∀ {ds : List (Str × D)} {vs : List (Str × V)}, RepF K C H ι ds vs → ClF ι.l.length ds
  | [], _, h => by simp [ClF]
  | (k, d) :: ds, vs, h => by
    simp only [RepF] at h
    obtain ⟨v, r, e1, h1, h2⟩ := h
    simp only [ClF]
    exact ⟨h1.cl, h2.cl⟩
end
theorem RepO.cl {d : D} {o : HO} (h : RepO K C H ι d o) : Cl ι.l.length d := by
  unfold RepO at h
  split at h
  · simpa [Cl] using Reps.cl h
  · simpa [Cl] using RepK.cl h
  · simpa [Cl] using RepT.cl h
  · simpa [Cl] using RepF.cl h.2
  · simpa [Cl] using RepK.cl h
  · simpa [Cl] using RepT.cl h
  · exact h.elim
theorem Sim.cl (S : Sim K C H ι st) : ∀ d ∈ st, Cl st.length d := fun d hd => by
  obtain ⟨n, hn, rfl⟩ := List.mem_iff_getElem.mp hd
  obtain ⟨a, o, _, _, r⟩ := S.addr (List.getElem?_eq_getElem hn)
  rw [← S.len]
  exact r.cl
/-! ### forgetting the newest mutable objects -/
def Io.take (ι : Io) (k : Nat) : Io := ⟨ι.l.take k, ι.z⟩
theorem Io.out.take {k : Nat} {a : Addr} (h : ι.out a) : (ι.take k).out a := ⟨fun z => h.1 (List.mem_of_mem_take z), h.2⟩
mutual
theorem Rep.cut {k : Nat} : ∀ {d : D} {v : V}, Rep K C H ι d v → Cl k d → Rep K C H (ι.take k) d v
  | .non, _, h, _ => h
  | .bl _, _, h, _ => h
  | .int _, _, h, _ => h
  | .str _, _, h, _ => h
  | .tup xs, v, h, c => by
    simp only [Rep] at h ⊢
    obtain ⟨a, vs, e1, h1, h2⟩ := h
    exact ⟨a, vs, e1, ⟨h1.1, h1.2.take⟩, Reps.cut h2 (by simpa [Cl] using c)⟩
  | .lst xs, v, h, c => by
    simp only [Rep] at h ⊢
    obtain ⟨a, vs, e1, h1, n, h2⟩ := h
    exact ⟨a, vs, e1, h1, n.take, Reps.cut h2 (by simpa [Cl] using c)⟩
  | .ro xs, v, h, c => by
    simp only [Rep] at h ⊢
    obtain ⟨a, vs, e1, h1, h2⟩ := h
    refine ⟨a, vs, e1, ?_, Reps.cut h2 (by simpa [Cl] using c)⟩
    rcases h1 with ⟨h1, n⟩ | h1
    · exact .inl ⟨h1, n.take⟩
    · exact .inr h1
  | .dK kvs, v, h, c => by
    simp only [Rep] at h ⊢
    obtain ⟨a, kw, e1, h1, n, h2⟩ := h
    exact ⟨a, kw, e1, h1, n.take, RepK.cut h2 (by simpa [Cl] using c)⟩
  | .dT kvs, v, h, c => by
    simp only [Rep] at h ⊢
    obtain ⟨a, kw, e1, h1, n, h2⟩ := h
    exact ⟨a, kw, e1, h1, n.take, RepT.cut h2 (by simpa [Cl] using c)⟩
  | .ins c fs, v, h, cl => by
    simp only [Rep] at h ⊢
    obtain ⟨a, dx, kw, e1, h1, n, h2⟩ := h
    exact ⟨a, dx, kw, e1, h1, n.take, RepF.cut h2 (by simpa [Cl] using cl)⟩
  | .loc n, v, h, c => by
    simp only [Rep] at h ⊢
    obtain ⟨a, e1, h1⟩ := h
    exact ⟨a, e1, by show (ι.l.take k)[n]? = some a; rw [List.getElem?_take_of_lt (by simpa [Cl] using c)]; exact h1⟩
  | .lck _, _, h, _ => by simp only [Rep] at h
  | .rd _, _, h, _ => by simpa only [Rep] using h
theorem Reps.cut {k : Nat} : ∀ {ds : List D} {vs : List V}, Reps K C H ι ds vs → Cls' k ds → Reps K C H (ι.take k) ds vs
  | [], _, h, _ => by simpa only [Reps] using h
  | d :: ds, vs, h, c => by
    simp only [Reps, Cls'] at h c ⊢
    obtain ⟨v, r, e1, h1, h2⟩ := h
    exact ⟨v, r, e1, h1.cut c.1, Reps.cut h2 c.2⟩
theorem RepK.cut {k : Nat} : ∀ {ds : List (Key × D)} {vs : List (Key × V)}, RepK K C H ι ds vs → ClK k ds → RepK K C H (ι.take k) ds vs
  | [], _, h, _ => by simpa only [RepK] using h
  | (_, d) :: ds, vs, h, c => by
    simp only [RepK, ClK] at h c ⊢
    obtain ⟨v, r, e1, h1, h2⟩ := h
    exact ⟨v, r, e1, h1.cut c.1, RepK.cut h2 c.2⟩
theorem RepT.cut {k : Nat} : ∀ {ds : List (List Key × D)} {vs : List (List Key × V)}, RepT K C H ι ds vs → ClT k ds → RepT K C H (ι.take k) ds vs
  | [], _, h, _ => by simpa only [RepT] using h
  | (_, d) :: ds, vs, h, c => by
    simp only [RepT, ClT] at h c ⊢
    obtain ⟨v, r, e1, h1, h2⟩ := h
    exact ⟨v, r, e1, h1.cut c.1, RepT.cut h2 c.2⟩
theorem RepF.cut {k : Nat} : ∀ {ds : List (Str × D)} {vs : List (Str × V)}, RepF K C H ι ds vs → ClF k ds → RepF K C H (ι.take k) ds vs
  | [], _, h, _ => by simpa only [RepF] using h
  | (_, d) :: ds, vs, h, c => by
    simp only [RepF, ClF] at h c ⊢
    obtain ⟨v, r, e1, h1, h2⟩ := h
    exact ⟨v, r, e1, h1.cut c.1, RepF.cut h2 c.2⟩
end
theorem RepO.cut {k : Nat} {d : D} {o : HO} (h : RepO K C H ι d o) (c : Cl k d) : RepO K C H (ι.take k) d o := by
  unfold RepO at h ⊢
  split at h
  · exact Reps.cut h (by simpa [Cl] using c)
  · exact RepK.cut h (by simpa [Cl] using c)
  · exact RepT.cut h (by simpa [Cl] using c)
  · exact ⟨h.1, RepF.cut h.2 (by simpa [Cl] using c)⟩
  · exact RepK.cut h (by simpa [Cl] using c)
  · exact RepT.cut h (by simpa [Cl] using c)
  · exact h.elim
theorem Sim.cut (S : Sim K C H ι st) {k : Nat} (c : ∀ d ∈ st.take k, Cl k d) : Sim K C H (ι.take k) (st.take k) := by
  refine ⟨by simp [Io.take, S.len], S.nd.sublist (List.take_sublist _ _), fun a ha => ⟨(S.zin a ha).1, fun z => (S.zin a ha).2 (List.mem_of_mem_take z)⟩, fun n d a h1 h2 => ?_⟩
  have h2 : (ι.l.take k)[n]? = some a := h2
  have hd : d ∈ st.take k := List.mem_of_getElem? h1
  have hn : n < k := by
    have := (List.getElem?_eq_some_iff.mp h1).1
    rw [List.length_take] at this; omega
  rw [List.getElem?_take_of_lt hn] at h1 h2
  obtain ⟨o, h3, h4⟩ := S.at_ n d a h1 h2
  exact ⟨o, h3, h4.cut (c d hd)⟩
/-- the content of an object, itself now immutable -/
theorem Sim.frz (S : Sim K C H ι st) {k n : Nat} {d : D} {v : V} (hk : k ≤ n) (h : Rep K C H ι (.loc n) v) (hd : st[n]? = some d) (c : Cl k d)
    (hl : ∀ x, d ≠ .lck x) : Rep K C H (ι.take k) d v := by
  simp only [Rep] at h
  obtain ⟨a, rfl, ha⟩ := h
  obtain ⟨o, h1, h2⟩ := S.at_ n d a hd ha
  have na : a ∉ ι.l.take k := fun z => by
    obtain ⟨m, hm, e⟩ := List.mem_iff_getElem.mp z
    rw [List.length_take] at hm
    rw [List.getElem_take] at e
    have := nodup_get S.nd (i := m) (j := n) (a := a) (by rw [List.getElem?_eq_getElem (by omega), e]) ha
    omega
  have na : (ι.take k).out a := ⟨na, fun z => (S.zin a z).2 (List.mem_of_getElem? ha)⟩
  have h3 := h2.cut c
  unfold RepO at h3
  split at h3
  · simp only [Rep]; exact ⟨a, _, rfl, h1, na, h3⟩
  · simp only [Rep]; exact ⟨a, _, rfl, h1, na, h3⟩
  · simp only [Rep]; exact ⟨a, _, rfl, h1, na, h3⟩
  · obtain ⟨rfl, h3⟩ := h3
    simp only [Rep]; exact ⟨a, _, _, rfl, h1, na, h3⟩
  · exact absurd rfl (hl _)
  · exact absurd rfl (hl _)
  · exact h3.elim
end

/-! ### dicts by their keys -/
def keyOf : D → Option Key
  | .int i => some (.inl i)
  | .str x => some (.inr x)
  | _ => none
def keysOf : List D → Option (List Key)
  | [] => some []
  | d :: r => match keyOf d, keysOf r with
    | some k, some ks => some (k :: ks)
    | _, _ => none
def tkeyOf : D → Option (List Key)
  | .tup xs => keysOf xs
  | _ => none
section
variable {κ : Type} [DecidableEq κ]
def valD (kvs : List (κ × D)) (k : κ) : Option D := (kvs.find? fun kv => decide (kv.1 = k)).map (·.2)
def putD (kvs : List (κ × D)) (k : κ) (v : D) : List (κ × D) := if (kvs.any fun kv => decide (kv.1 = k)) = true then kvs.map (fun kv => if kv.1 = k then (kv.1, v) else kv) else kvs ++ [(k, v)]
def dropD (kvs : List (κ × D)) (k : κ) : List (κ × D) := kvs.filter fun kv => decide (kv.1 ≠ k)
/-- entry by entry -/
def RepG (R : D → V → Prop) : List (κ × D) → List (κ × V) → Prop
  | [], kw => kw = []
  | (k, d) :: r, kw => ∃ v s, kw = (k, v) :: s ∧ R d v ∧ RepG R r s
variable {R : D → V → Prop}
theorem RepG.val : ∀ {kvs : List (κ × D)} {kw : List (κ × V)}, RepG R kvs kw → ∀ k, (∀ d, valD kvs k = some d → ∃ v, valV kw k = some v ∧ R d v) ∧ (valD kvs k = none → valV kw k = none)
  | [], kw, h, k => by
    have h : kw = [] := h
    subst h
    exact ⟨fun d e => (by cases e), fun _ => rfl⟩
  | (j, d) :: r, kw, h, k => by
    obtain ⟨v, s, rfl, h1, h2⟩ := h
    have ih := RepG.val h2 k
    by_cases e : j = k
    · have e1 : valD ((j, d) :: r) k = some d := by unfold valD; rw [List.find?_cons, decide_eq_true e]; rfl
      rw [e1]
      exact ⟨fun d' e2 => (by cases e2; exact ⟨v, valV_pos e, h1⟩), fun e2 => (by cases e2)⟩
    · have e1 : valD ((j, d) :: r) k = valD r k := by unfold valD; rw [List.find?_cons, decide_eq_false e]
      rw [e1, valV_neg e]
      exact ih
theorem RepG.any : ∀ {kvs : List (κ × D)} {kw : List (κ × V)} (k : κ), RepG R kvs kw → (kvs.any fun kv => decide (kv.1 = k)) = kw.any fun kv => decide (kv.1 = k)
  | [], kw, k, h => by
    have h : kw = [] := h
    subst h; rfl
  | (j, d) :: r, kw, k, h => by
    obtain ⟨v, s, rfl, _, h2⟩ := h
    rw [List.any_cons, List.any_cons, RepG.any k h2]
theorem RepG.map {d : D} {v : V} (k : κ) (hd : R d v) : ∀ {kvs : List (κ × D)} {kw : List (κ × V)}, RepG R kvs kw → RepG R (kvs.map fun kv => if kv.1 = k then (kv.1, d) else kv) (kw.map fun kv => if kv.1 = k then (kv.1, v) else kv)
  | [], kw, h => by
    have h : kw = [] := h
    subst h; rfl
  | (j, e) :: r, kw, h => by
    obtain ⟨u, s, rfl, h1, h2⟩ := h
    have ih := RepG.map k hd h2
    rw [List.map_cons, List.map_cons]
    by_cases q : j = k
    · rw [if_pos q, if_pos q]; exact ⟨v, _, rfl, hd, ih⟩
    · rw [if_neg q, if_neg q]; exact ⟨u, _, rfl, h1, ih⟩
theorem RepG.append : ∀ {a b : List (κ × D)} {c d : List (κ × V)}, RepG R a c → RepG R b d → RepG R (a ++ b) (c ++ d)
  | [], b, c, d, h, h' => by
    have h : c = [] := h
    subst h; exact h'
  | (j, e) :: r, b, c, d, h, h' => by
    obtain ⟨u, s, rfl, h1, h2⟩ := h
    exact ⟨u, _, rfl, h1, RepG.append h2 h'⟩
theorem RepG.one {k : κ} {d : D} {v : V} (h : R d v) : RepG R [(k, d)] [(k, v)] := ⟨v, [], rfl, h, rfl⟩
theorem RepG.put {kvs : List (κ × D)} {kw : List (κ × V)} {d : D} {v : V} (k : κ) (hd : R d v) (h : RepG R kvs kw) : RepG R (putD kvs k d) (putK kw k v) := by
  unfold putD putK
  rw [h.any k]
  split
  · exact h.map k hd
  · exact h.append (.one hd)
theorem RepG.drop (k : κ) : ∀ {kvs : List (κ × D)} {kw : List (κ × V)}, RepG R kvs kw → RepG R (dropD kvs k) (dropK kw k)
  | [], kw, h => by
    have h : kw = [] := h
    subst h; rfl
  | (j, e) :: r, kw, h => by
    obtain ⟨u, s, rfl, h1, h2⟩ := h
    have ih := RepG.drop k h2
    unfold dropD dropK at ih ⊢
    rw [List.filter_cons, List.filter_cons]
    by_cases q : j = k
    · rw [if_neg (by simp [q]), if_neg (by simp [q])]; exact ih
    · rw [if_pos (by simp [q]), if_pos (by simp [q])]; exact ⟨u, _, rfl, h1, ih⟩
theorem RepG.length : ∀ {kvs : List (κ × D)} {kw : List (κ × V)}, RepG R kvs kw → kvs.length = kw.length
  | [], kw, h => by
    have h : kw = [] := h
    subst h; rfl
  | (j, e) :: r, kw, h => by
    obtain ⟨u, s, rfl, _, h2⟩ := h
    rw [List.length_cons, List.length_cons, h2.length]
end
section
variable {K : PySem.W.Frag} {C : Nat → Addr} {H : Hp} {ι : Io}
theorem RepK_iff : ∀ {kvs : List (Key × D)} {kw : List (Key × V)}, RepK K C H ι kvs kw ↔ RepG (Rep K C H ι) kvs kw
  | [], kw => by simp only [RepK, RepG]
  | (k, d) :: r, kw => by simp only [RepK, RepG, RepK_iff (kvs := r)]
theorem RepT_iff : ∀ {kvs : List (List Key × D)} {kw : List (List Key × V)}, RepT K C H ι kvs kw ↔ RepG (Rep K C H ι) kvs kw
  | [], kw => by simp only [RepT, RepG]
  | (k, d) :: r, kw => by simp only [RepT, RepG, RepT_iff (kvs := r)]
theorem keyOf_ok {d : D} {v : V} {k : Key} (r : Rep K C H ι d v) (h : keyOf d = some k) : v = kV k := by
  cases d with
  | int i => cases h; simp only [Rep] at r; exact r
  | str x => cases h; simp only [Rep] at r; exact r
  | _ => cases h
theorem keysOf_ok : ∀ {ds : List D} {vs : List V} {ks : List Key}, Reps K C H ι ds vs → keysOf ds = some ks → vs = ks.map kV
  | [], vs, ks, r, h => by
    cases h
    rw [Reps.nil_iff] at r; subst r; rfl
  | d :: ds, vs, ks, r, h => by
    obtain ⟨v, s, rfl, h1, h2⟩ := Reps.cons_iff.mp r
    unfold keysOf at h
    split at h
    · rename_i k' ks' e1 e2
      cases h
      rw [keyOf_ok h1 e1, keysOf_ok h2 e2]; rfl
    · cases h
theorem tkeyOf_ok {d : D} {v : V} {k : List Key} (r : Rep K C H ι d v) (h : tkeyOf d = some k) : ∃ b, v = .ref b ∧ H b = some (.tup (k.map kV)) := by
  cases d with
  | tup xs =>
    simp only [Rep] at r
    obtain ⟨a, vs, rfl, h1, h2⟩ := r
    rw [keysOf_ok h2 h] at h1
    exact ⟨a, rfl, h1.1⟩
  | _ => cases h
end
end MI

set_option maxRecDepth 100000
/-! MI, part 2: a small language and what it asks (a predicate transformer over plain data). -/
namespace MI
open PySem PySem.Spec PyProof.Rows L2

abbrev Kd := D → Sto → Prop
abbrev Fn := List D → Sto → Kd → Prop
abbrev Fns := Nat → Fn

inductive BOp where | add | sub | mul | fdiv | mod | pow deriving DecidableEq
inductive COp where | eq | ne | lt | le | gt | ge | isIn | notIn | is_ | isnt deriving DecidableEq
inductive Blt where | lenSet | sortSet | len | int | list | tuple | sum | max2 | min2 | any | all | sorted | str | isTuple | isInt | isBool | isStr | isList | set | dict deriving DecidableEq
inductive Mth where | dpop1 | append | pop0 | pop1 | extend | index | get1 | get2 | dpop2 | update | join deriving DecidableEq

mutual
inductive SE where
  | var (i : Nat)
  | con (d : D)
  | bin (o : BOp) (m : Bool) (a b : SE)
  | neg (a : SE)
  | cmp (o : COp) (a b : SE)
  | chain (o o' : COp) (a b c : SE)
  | land (a b : SE)
  | lor (a b : SE)
  | lnot (a : SE)
  | ifx (t : SB) (a b : SE)
  | tup (es : List SE)
  | lst (m : Bool) (es : List SE)
  | idx (a i : SE)
  | slc (m : Bool) (a : SE) (lo hi : Option SE)
  | rev (m : Bool) (a : SE)
  | call (f : Nat) (es : List SE)
  | blt (b : Blt) (m : Bool) (es : List SE)
  | mth (b : Mth) (o : SE) (es : List SE)
  | lc (m : Bool) (elt : SE) (tg : ST) (it : SI) (c : Option SB) (own : List Nat)
  | lc2 (m : Bool) (elt : SE) (tg : ST) (it : SI) (c : Option SB) (tg1 : ST) (it1 : SI) (c1 : Option SB) (own own1 : List Nat)
  | fld (o : SE) (f : Str)
  | dnew (m t : Bool)
  | ddsp (m : Bool) (es : List SE)
inductive SB where
  | val (e : SE)
  | land (a b : SB)
  | lor (a b : SB)
  | lnot (a : SB)
  | cmp (o : COp) (a b : SE)
  | chain (o o' : COp) (a b c : SE)
inductive ST where
  | nm (i : Nat)
  | tup (ts : List ST)
  | sub (o i : SE)
inductive SI where
  | seq (e : SE)
  | rng1 (a : SE)
  | rng2 (a b : SE)
  | rng3 (a b c : SE)
  | enum (e : SE)
  | chars (e : SE)
end

inductive SS where
  | set (t : ST) (e : SE)
  | par (i j : Nat) (a b : SE)
  | aug (i : Nat) (o : BOp) (e : SE)
  | augS (o i : SE) (op : BOp) (e : SE)
  | expr (e : SE)
  | ret (e : SE)
  | ite (c : SB) (a b : List SS)
  | for_ (t : ST) (it : SI) (b : List SS)
  | while_ (c : SB) (b : List SS)
  | pass
  | brk
  | cont
  | never

/-! ### reading data -/
def asL (st : Sto) : D → Option (List D)
  | .lst xs => some xs
  | .loc n => match st[n]? with
    | some (.lst xs) => some xs
    | _ => none
  | _ => none
def asR (st : Sto) : D → Option (List D)
  | .ro xs => some xs
  | d => asL st d
def asSeq (st : Sto) : D → Option (List D)
  | .tup xs => some xs
  | d => asR st d
def ints? : List D → Option (List Int)
  | [] => some []
  | .int i :: r => (ints? r).map (i :: ·)
  | _ => none
def bls? : List D → Option (List Bool)
  | [] => some []
  | .bl i :: r => (bls? r).map (i :: ·)
  | _ => none
def strs? : List D → Option (List Str)
  | [] => some []
  | .str i :: r => (strs? r).map (i :: ·)
  | _ => none
mutual
/-- data without mutable parts (their content read) -/
def toPy (st : Sto) : D → Option PyData
  | .non => some .none
  | .bl b => some (.bool b)
  | .int i => some (.int i)
  | .str x => some (.str x)
  | .tup xs => (toPys st xs).map .tuple
  | .lst xs => (toPys st xs).map .list
  | .ro xs => (toPys st xs).map .list
  | _ => none
def toPys (st : Sto) : List D → Option (List PyData)
  | [] => some []
  | d :: r => match toPy st d, toPys st r with
    | some x, some y => some (x :: y)
    | _, _ => none
end
/-- one level of a mutable list -/
def toPyL (st : Sto) : D → Option PyData
  | .loc n => match st[n]? with
    | some (.lst xs) => (toPys st xs).map .list
    | _ => none
  | d => toPy st d
def flat : D → Bool
  | .non => true
  | .bl _ => true
  | .int _ => true
  | .str _ => true
  | _ => false
/-- == of flat data -/
def eqF : D → D → Bool
  | .non, .non => true
  | .bl a, .bl b => a == b
  | .bl a, .int b => (if a then 1 else 0) == b
  | .int a, .bl b => a == (if b then 1 else 0)
  | .int a, .int b => a == b
  | .str a, .str b => a == b
  | _, _ => false

/-- a fresh list: mutable, or from now on only read -/
def new (m : Bool) (d : D) (st : Sto) (Q : Kd) : Prop := if m = true then Q (.loc st.length) (st ++ [d]) else Q d st
def opt {α : Type} (o : Option α) (k : α → Prop) : Prop := match o with
  | some x => k x
  | none => False

def binD (m : Bool) (o : BOp) (x y : D) (st : Sto) (Q : Kd) : Prop :=
  match o, x, y with
  | .add, .int i, .int j => Q (.int (i + j)) st
  | .add, .int i, .bl b => Q (.int (i + b2i b)) st
  | .add, .str i, .str j => i.length + j.length ≤ sizeLine ∧ Q (.str (i ++ j)) st
  | .add, .tup xs, .tup ys => xs.length + ys.length ≤ sizeLine ∧ Q (.tup (xs ++ ys)) st
  | .add, x, y => opt (asL st x) fun xs => opt (asL st y) fun ys => xs.length + ys.length ≤ sizeLine ∧ new m (.lst (xs ++ ys)) st Q
  | .sub, .int i, .int j => Q (.int (i - j)) st
  | .mul, .int i, .int j => CMulW i j ∧ Q (.int (i * j)) st
  | .mul, .tup xs, .int k => (xs ≠ [] ∧ 2 ≤ k ∧ k ≤ 1000 ∧ xs.length ≤ 1000) ∧ Q (.tup (List.replicate k.toNat xs).flatten) st
  | .mul, x, .int k => opt (asL st x) fun xs => -(2 ^ 63) ≤ k ∧ k < 2 ^ 63 ∧ xs.length * k.toNat ≤ sizeLine ∧ new m (.lst (List.replicate k.toNat xs).flatten) st Q
  | .fdiv, .int i, .int j => CDivW i j ∧ Q (.int (i / j)) st
  | .mod, .int i, .int j => 0 < j ∧ Q (.int (i % j)) st
  | .pow, .int i, .int j => CPow i j ∧ Q (.int (i ^ j.toNat)) st
  | _, _, _ => False
/-- name op= e: a number alone -/
def augD (o : BOp) (x y : D) (st : Sto) (Q : Kd) : Prop :=
  match o, x, y with
  | .add, .int i, .int j => Q (.int (i + j)) st
  | .sub, .int i, .int j => Q (.int (i - j)) st
  | .fdiv, .int i, .int j => CDiv i j ∧ Q (.int (i / j)) st
  | _, _, _ => False
/-- what an object is -/
def objD (st : Sto) : D → Option D
  | .loc n => st[n]?
  | .dK kvs => some (.dK kvs)
  | .dT kvs => some (.dT kvs)
  | _ => none
/-- what a dict holds at a key -/
def getDD (st : Sto) (x y : D) : Option (Option D) := match objD st x with
  | some (.dK kvs) => (keyOf y).map (valD kvs)
  | some (.dT kvs) => (tkeyOf y).map (valD kvs)
  | _ => none
def cmpD (o : COp) (x y : D) (st : Sto) (Q : Bool → Sto → Prop) : Prop :=
  match o with
  | .eq => match x, y with
    | .int i, .int j => Q (i == j) st
    | .str i, .str j => Q (i == j) st
    | x, y => opt (toPyL st x) fun d => opt (toPyL st y) fun e => okEq d e = true ∧ Q (PyData.eqv d e) st
  | .ne => match x, y with
    | .int i, .int j => Q (!(i == j)) st
    | .str i, .str j => Q (!(i == j)) st
    | x, y => opt (toPyL st x) fun d => opt (toPyL st y) fun e => okEq d e = true ∧ Q (!PyData.eqv d e) st
  | .lt => match x, y with
    | .int i, .int j => Q (decide (i < j)) st
    | _, _ => False
  | .le => match x, y with
    | .int i, .int j => Q (decide (i ≤ j)) st
    | _, _ => False
  | .gt => match x, y with
    | .int i, .int j => Q (decide (j < i)) st
    | _, _ => False
  | .ge => match x, y with
    | .int i, .int j => Q (decide (j ≤ i)) st
    | _, _ => False
  | .isIn => match x, y with
    | .str a, .str b => ∃ c, a = ⟨#[c]⟩ ∧ Q (decide (c ∈ b.cps.toList)) st
    | x, y => match getDD st y x with
      | some r => Q r.isSome st
      | none => opt (asSeq st y) fun ys => flat x = true ∧ ys.all flat = true ∧ Q (ys.any fun z => eqF z x) st
  | .notIn => match getDD st y x with
    | some r => Q (!r.isSome) st
    | none => opt (asSeq st y) fun ys => flat x = true ∧ ys.all flat = true ∧ Q (!ys.any fun z => eqF z x) st
  | .is_ => match y, x with
    | .non, .non => Q true st
    | .non, _ => Q false st
    | .bl b, .bl a => Q (a == b) st
    | _, _ => False
  | .isnt => match y, x with
    | .non, .non => Q false st
    | .non, _ => Q true st
    | .bl b, .bl a => Q (!(a == b)) st
    | _, _ => False
def truD (x : D) (st : Sto) (Q : Bool → Sto → Prop) : Prop :=
  match x with
  | .non => Q false st
  | .bl b => Q b st
  | .int i => Q (i != 0) st
  | .str y => y.length ≤ sizeLine ∧ Q ((y.length : Int) != 0) st
  | d => opt (asSeq st d) fun xs => Q (!xs.isEmpty) st
def idxD (x y : D) (st : Sto) (Q : Kd) : Prop :=
  match x, y with
  | .str z, .int i => z.length ≤ sizeLine ∧ opt (atI z.cps.toList i) fun c => Q (.str ⟨#[c]⟩) st
  | .rd kvs, .int i => opt (kvs.lookup i) fun v => Q (.int v) st
  | x, y => match objD st x with
    | some (.dK kvs) => opt (keyOf y) fun k => opt (valD kvs k) fun d => Q d st
    | some (.dT kvs) => opt (tkeyOf y) fun k => opt (valD kvs k) fun d => Q d st
    | _ => (match y with
      | .int i => opt (asSeq st x) fun xs => opt (atI xs i) fun d => Q d st
      | _ => False)
/-- xs[i] of a mutable list -/
def idxL (x y : D) (st : Sto) (Q : Kd) : Prop :=
  match x, y with
  | .loc n, .int k => match st[n]? with
    | some (.lst xs) => opt (atI xs k) fun d => Q d st
    | _ => False
  | _, _ => False
/-- the items of a slice -/
def cutD (xs : List D) (lo hi : Option Int) : List D := (xs.drop (HT.sIx xs.length 0 lo)).take (HT.sIx xs.length xs.length hi - HT.sIx xs.length 0 lo)
def slcD (m : Bool) (x : D) (lo hi : Option Int) (st : Sto) (Q : Kd) : Prop :=
  match x with
  | .tup xs => Q (.tup (cutD xs lo hi)) st
  | .str z => z.length ≤ sizeLine ∧ Q (.str (cutS z lo hi)) st
  | d => opt (asR st d) fun xs => new m (.lst (cutD xs lo hi)) st Q
def revD (m : Bool) (x : D) (st : Sto) (Q : Kd) : Prop :=
  match x with
  | .tup xs => Q (.tup xs.reverse) st
  | d => opt (asR st d) fun xs => new m (.lst xs.reverse) st Q
def setD (o i v : D) (st : Sto) (Q : Sto → Prop) : Prop :=
  match o with
  | .loc n => match st[n]? with
    | some (.lst xs) => (match i with
      | .int k => opt (ixN xs.length k) fun j => Q (st.set n (.lst (xs.set j v)))
      | _ => False)
    | some (.dK kvs) => opt (keyOf i) fun k => kvs.length < sizeLine ∧ Q (st.set n (.dK (putD kvs k v)))
    | some (.dT kvs) => opt (tkeyOf i) fun k => kvs.length < sizeLine ∧ Q (st.set n (.dT (putD kvs k v)))
    | _ => False
  | _ => False
/-- a display's dict -/
abbrev dispK (ps : List (Key × D)) : List (Key × D) := ps.foldl (fun acc kv => putD acc kv.1 kv.2) []
/-- the pairs of a display -/
def pairsOf : List D → Option (List (Key × D))
  | [] => some []
  | k :: v :: r => match keyOf k, pairsOf r with
    | some k, some ps => some ((k, v) :: ps)
    | _, _ => none
  | _ => none
def lenD (st : Sto) : D → Option Nat
  | .str z => if z.length ≤ sizeLine then some z.length else none
  | d => (asSeq st d).map List.length
def bltD (b : Blt) (m : Bool) (vs : List D) (st : Sto) (Q : Kd) : Prop :=
  match b, vs with
  | .len, [d] => opt (lenD st d) fun n => Q (.int n) st
  | .int, [.int i] => Q (.int i) st
  | .int, [.bl k] => Q (.int (if k then 1 else 0)) st
  | .list, [d] => opt (asSeq st d) fun xs => new m (.lst xs) st Q
  | .tuple, [d] => opt (asSeq st d) fun xs => Q (.tup xs) st
  | .sum, [d] => opt (asR st d) fun xs => opt (ints? xs) fun ns => Q (.int ns.sum) st
  | .max2, [.int i, .int j] => Q (.int (if j > i then j else i)) st
  | .min2, [.int i, .int j] => Q (.int (if j < i then j else i)) st
  | .any, [d] => opt (asR st d) fun xs => opt (bls? xs) fun bs => Q (.bl (bs.any id)) st
  | .all, [d] => opt (asR st d) fun xs => opt (bls? xs) fun bs => Q (.bl (bs.all id)) st
  | .sorted, [d] => opt (asSeq st d) fun xs => opt (ints? xs) fun ns => ∀ ns' : List Int, ns'.Perm ns → ns'.Pairwise (· ≤ ·) → new m (.lst (ns'.map .int)) st Q
  | .sortSet, [.tup xs] => opt (ints? xs) fun ns => ns.length < 64 ∧ ∀ ns' : List Int, ns'.Pairwise (· < ·) → (∀ k, k ∈ ns' ↔ k ∈ ns) → new m (.lst (ns'.map .int)) st Q
  | .str, [.int i] => i.natAbs.log2 < 1920 ∧ Q (.str (toString i)) st
  | .isTuple, [d] => (match d with | .tup _ => Q (.bl true) st | .non => Q (.bl false) st | .bl _ => Q (.bl false) st | .int _ => Q (.bl false) st | .str _ => Q (.bl false) st | _ => False)
  | .isInt, [d] => (match d with | .tup _ => Q (.bl false) st | .non => Q (.bl false) st | .bl _ => Q (.bl true) st | .int _ => Q (.bl true) st | .str _ => Q (.bl false) st | _ => False)
  | .isBool, [d] => (match d with | .tup _ => Q (.bl false) st | .non => Q (.bl false) st | .bl _ => Q (.bl true) st | .int _ => Q (.bl false) st | .str _ => Q (.bl false) st | _ => False)
  | .isStr, [d] => (match d with | .tup _ => Q (.bl false) st | .non => Q (.bl false) st | .bl _ => Q (.bl false) st | .int _ => Q (.bl false) st | .str _ => Q (.bl true) st | _ => False)
  | .lenSet, [.tup xs] => opt (strs? xs) fun ks => ks.length < 1000 ∧ Q (.int (distN ks ks.length : Nat)) st
  | _, _ => False
def mthD (b : Mth) (o : D) (vs : List D) (st : Sto) (Q : Kd) : Prop :=
  match b, o, vs with
  | .append, .loc n, [v] => (match st[n]? with
    | some (.lst xs) => xs.length < sizeLine ∧ Q .non (st.set n (.lst (xs ++ [v])))
    | _ => False)
  | .pop0, .loc n, [] => (match st[n]? with
    | some (.lst xs) => opt (xs[xs.length - 1]?) fun v => Q v (st.set n (.lst xs.dropLast))
    | _ => False)
  | .pop1, .loc n, [.int i] => (match st[n]? with
    | some (.lst xs) => -(2 ^ 63) ≤ i ∧ i < 2 ^ 63 ∧ opt (seqIndex? i xs.length) fun k => opt (xs[k]?) fun v => Q v (st.set n (.lst (xs.eraseIdx k)))
    | _ => False)
  | .extend, .loc n, [.tup ys] => (match st[n]? with
    | some (.lst xs) => xs.length + ys.length ≤ sizeLine ∧ Q .non (st.set n (.lst (xs ++ ys)))
    | _ => False)
  | .extend, .loc n, [d] => (match st[n]? with
    | some (.lst xs) => d ≠ .loc n ∧ opt (asL st d) fun ys => xs.length + ys.length ≤ sizeLine ∧ Q .non (st.set n (.lst (xs ++ ys)))
    | _ => False)
  | .get1, x, [y] => opt (getDD st x y) fun r => Q (r.getD .non) st
  | .get2, x, [y, z] => opt (getDD st x y) fun r => Q (r.getD z) st
  | .dpop1, .loc n, [y] => (match st[n]? with
    | some (.dK kvs) => opt (keyOf y) fun k => opt (valD kvs k) fun v => Q v (st.set n (.dK (dropD kvs k)))
    | _ => False)
  | .dpop2, .loc n, [y, z] => (match st[n]? with
    | some (.dK kvs) => opt (keyOf y) fun k => (match valD kvs k with
      | some v => Q v (st.set n (.dK (dropD kvs k)))
      | none => Q z st)
    | some (.dT kvs) => opt (tkeyOf y) fun k => (match valD kvs k with
      | some v => Q v (st.set n (.dT (dropD kvs k)))
      | none => Q z st)
    | _ => False)
  | .join, .str a, [d] => opt (asSeq st d) fun xs => opt (strs? xs) fun ys => (ys.map (·.length)).sum + ys.length * a.length ≤ 16777216 ∧ Q (.str (Txt.join a ys)) st
  | _, _, _ => False

/-- the signs of a text -/
def charsD (z : Str) : List D := z.cps.toList.map fun c => .str ⟨#[c]⟩
/-- is it a dict -/
def isDD (st : Sto) (x : D) : Prop := match objD st x with
  | some (.dK _) => True
  | some (.dT _) => True
  | _ => False
/-- what the receiver of a method must be -/
def recv (b : Mth) (x : D) (st : Sto) : Prop :=
  match b, x with
  | .append, .loc n => (match st[n]? with | some (.lst _) => True | _ => False)
  | .pop0, .loc n => (match st[n]? with | some (.lst _) => True | _ => False)
  | .pop1, .loc n => (match st[n]? with | some (.lst _) => True | _ => False)
  | .extend, .loc n => (match st[n]? with | some (.lst _) => True | _ => False)
  | .get1, x => isDD st x
  | .get2, x => isDD st x
  | .dpop1, x => isDD st x
  | .dpop2, x => isDD st x
  | .join, .str _ => True
  | _, _ => False

/-! ### loops -/
structure EndsD where
  nx : Ev → Sto → Prop
  rt : Kd
  bk : Ev → Sto → Prop
  ct : Ev → Sto → Prop
/-- what is walked: the items, and what must stay -/
structure Its where
  items : List D
  keep : Sto → Prop
def forW (asg : D → Ev → Sto → (Ev → Sto → Prop) → Prop) (body : EndsD → Ev → Sto → Prop) (keep : Sto → Prop) (X : EndsD) : List D → Ev → Sto → Prop
  | [], env, st => keep st ∧ X.nx env st
  | x :: xs, env, st => keep st ∧ asg x env st fun env' st' => body { X with nx := forW asg body keep X xs, ct := forW asg body keep X xs, bk := X.nx } env' st'
def whileW (c : Ev → Sto → (Bool → Sto → Prop) → Prop) (body : EndsD → Ev → Sto → Prop) (X : EndsD) : Nat → Ev → Sto → Prop
  | 0, _, _ => False
  | n + 1, env, st => c env st fun b st' => if b = true then body { X with nx := whileW c body X n, ct := whileW c body X n, bk := X.nx } env st' else X.nx env st'
def wipeE (env : Ev) : List Nat → Ev
  | [] => env
  | v :: vs => (wipeE env vs).set v none
/-- the loop of a comprehension -/
def lcW (asg : D → Sto → (Ev → Sto → Prop) → Prop) (test : Ev → Sto → (Bool → Sto → Prop) → Prop) (elt : Ev → Sto → Kd → Prop) (keep : Sto → Prop) (Q : List D → Sto → Prop) : List D → List D → Sto → Prop
  | [], acc, st => keep st ∧ Q acc st
  | x :: xs, acc, st => keep st ∧ asg x st fun env' st' => test env' st' fun b st2 =>
      if b = true then elt env' st2 fun d st3 => acc.length < sizeLine ∧ lcW asg test elt keep Q xs (acc ++ [d]) st3 else lcW asg test elt keep Q xs acc st2
/-- the outer loop of two: inner is the second clause's whole loop over acc -/
def lcW2 (asg : D → Sto → (Ev → Sto → Prop) → Prop) (test : Ev → Sto → (Bool → Sto → Prop) → Prop) (inner : Ev → List D → Sto → (List D → Sto → Prop) → Prop) (keep : Sto → Prop) (Q : List D → Sto → Prop) : List D → List D → Sto → Prop
  | [], acc, st => keep st ∧ Q acc st
  | x :: xs, acc, st => keep st ∧ asg x st fun env' st' => test env' st' fun b st2 =>
      if b = true then inner env' acc st2 (lcW2 asg test inner keep Q xs) else lcW2 asg test inner keep Q xs acc st2
def rngL (lo : Int) (n : Nat) (c : Int) : List D := (List.range n).map fun i => .int (lo + (i : Nat) * c)
def enumF : Nat → List D → List D
  | _, [] => []
  | i, x :: r => .tup [.int (i : Nat), x] :: enumF (i + 1) r
abbrev enumL (xs : List D) : List D := enumF 0 xs

variable (Φ : Fns)
set_option maxHeartbeats 2000000
mutual
def wE : SE → Ev → Sto → Kd → Prop
  | .var i, env, st, Q => (match env[i]? with
    | some (some d) => Q d st
    | _ => False)
  | .con d, _, st, Q => Q d st
  | .bin o m a b, env, st, Q => wE a env st fun x s1 => wE b env s1 fun y s2 => binD m o x y s2 Q
  | .neg a, env, st, Q => wE a env st fun x s1 => (match x with
    | .int i => Q (.int (-i)) s1
    | _ => False)
  | .cmp o a b, env, st, Q => wE a env st fun x s1 => wE b env s1 fun y s2 => cmpD o x y s2 fun c s3 => Q (.bl c) s3
  | .chain o o' a b c, env, st, Q => wE a env st fun x s1 => wE b env s1 fun y s2 => cmpD o x y s2 fun k s3 =>
      if k = true then wE c env s3 fun z s4 => cmpD o' y z s4 fun k' s5 => Q (.bl k') s5 else Q (.bl false) s3
  | .land a b, env, st, Q => wE a env st fun x s1 => (match x with
    | .bl c => if c = true then wE b env s1 Q else Q (.bl false) s1
    | _ => False)
  | .lor a b, env, st, Q => wE a env st fun x s1 => (match x with
    | .bl c => if c = true then Q (.bl true) s1 else wE b env s1 Q
    | _ => False)
  | .lnot a, env, st, Q => wE a env st fun x s1 => (match x with
    | .bl c => Q (.bl (!c)) s1
    | _ => False)
  | .ifx t a b, env, st, Q => wT t env st fun c s1 => if c = true then wE a env s1 Q else wE b env s1 Q
  | .tup es, env, st, Q => wEs es env st fun xs s1 => xs.length ≤ sizeLine ∧ Q (.tup xs) s1
  | .lst m es, env, st, Q => wEs es env st fun xs s1 => xs.length ≤ sizeLine ∧ new m (.lst xs) s1 Q
  | .idx a i, env, st, Q => wE a env st fun x s1 => wE i env s1 fun y s2 => idxD x y s2 Q
  | .slc m a lo hi, env, st, Q => wE a env st fun x s1 => wO lo env s1 fun l s2 => wO hi env s2 fun u s3 => slcD m x l u s3 Q
  | .rev m a, env, st, Q => wE a env st fun x s1 => revD m x s1 Q
  | .call f es, env, st, Q => wEs es env st fun xs s1 => Φ f xs s1 Q
  | .blt b m es, env, st, Q => wEs es env st fun xs s1 => bltD b m xs s1 Q
  | .mth b o es, env, st, Q => wE o env st fun x s1 => recv b x s1 ∧ wEs es env s1 fun xs s2 => mthD b x xs s2 Q
  | .lc m elt tg it c own, env, st, Q => wI it env st fun J s1 =>
      lcW (fun x s K => wG tg x (wipeE env own) s K) (fun e s K => wC c e s K) (fun e s K => wE elt e s K) J.keep (fun acc s2 => new m (.lst acc) s2 Q) J.items [] s1
  | .lc2 m elt tg it c tg1 it1 c1 own own1, env, st, Q => wI it env st fun J s1 =>
      lcW2 (fun x s K => wG tg x (wipeE env own) s K) (fun e s K => wC c e s K)
        (fun e acc s K => wI it1 e s fun J1 s' => lcW (fun x s K => wG tg1 x (wipeE e own1) s K) (fun e s K => wC c1 e s K) (fun e s K => wE elt e s K) J1.keep K J1.items acc s')
        J.keep (fun acc s2 => new m (.lst acc) s2 Q) J.items [] s1
  | .dnew m t, _, st, Q => new m (if t = true then .dT [] else .dK []) st Q
  | .ddsp m es, env, st, Q => wEs es env st fun xs s1 => opt (pairsOf xs) fun ps => new m (.dK (dispK ps)) s1 Q
  | .fld o f, env, st, Q => wE o env st fun x s1 => (match x with
    | .ins _ fs => opt (fs.lookup f) fun d => Q d s1
    | .loc n => (match s1[n]? with
      | some (.ins _ fs) => opt (fs.lookup f) fun d => Q d s1
      | _ => False)
    | _ => False)
def wEs : List SE → Ev → Sto → (List D → Sto → Prop) → Prop
  | [], _, st, Q => Q [] st
  | e :: es, env, st, Q => wE e env st fun x s1 => wEs es env s1 fun xs s2 => Q (x :: xs) s2
def wO : Option SE → Ev → Sto → (Option Int → Sto → Prop) → Prop
  | none, _, st, Q => Q none st
  | some e, env, st, Q => wE e env st fun x s1 => (match x with
    | .int i => Q (some i) s1
    | _ => False)
def wC : Option SB → Ev → Sto → (Bool → Sto → Prop) → Prop
  | none, _, st, Q => Q true st
  | some e, env, st, Q => wT e env st Q
/-- as a test -/
def wT : SB → Ev → Sto → (Bool → Sto → Prop) → Prop
  | .land a b, env, st, Q => wT a env st fun c s1 => if c = true then wT b env s1 Q else Q false s1
  | .lor a b, env, st, Q => wT a env st fun c s1 => if c = true then Q true s1 else wT b env s1 Q
  | .lnot a, env, st, Q => wT a env st fun c s1 => Q (!c) s1
  | .cmp o a b, env, st, Q => wE a env st fun x s1 => wE b env s1 fun y s2 => cmpD o x y s2 Q
  | .chain o o' a b c, env, st, Q => wE a env st fun x s1 => wE b env s1 fun y s2 => cmpD o x y s2 fun k s3 =>
      if k = true then wE c env s3 fun z s4 => cmpD o' y z s4 Q else Q false s3
  | .val e, env, st, Q => wE e env st fun x s1 => truD x s1 Q
def wI : SI → Ev → Sto → (Its → Sto → Prop) → Prop
  | .seq e, env, st, R => wE e env st fun x s1 => opt (asSeq s1 x) fun xs => R ⟨xs, fun s => asSeq s x = some xs⟩ s1
  | .rng1 a, env, st, R => wE a env st fun x s1 => (match x with
    | .int j => -(2 ^ 62) ≤ j ∧ j < 2 ^ 62 ∧ R ⟨rngL 0 j.toNat 1, fun _ => True⟩ s1
    | _ => False)
  | .rng2 a b, env, st, R => wE a env st fun x s1 => wE b env s1 fun y s2 => (match x, y with
    | .int i, .int j => (-(2 ^ 62) ≤ i ∧ i < 2 ^ 62 ∧ -(2 ^ 62) ≤ j ∧ j < 2 ^ 62) ∧ R ⟨rngL i (j - i).toNat 1, fun _ => True⟩ s2
    | _, _ => False)
  | .rng3 a b c, env, st, R => wE a env st fun x s1 => wE b env s1 fun y s2 => wE c env s2 fun z s3 => (match x, y, z with
    | .int i, .int j, .int k => ∃ n, RgC i j k n ∧ R ⟨rngL i n k, fun _ => True⟩ s3
    | _, _, _ => False)
  | .enum e, env, st, R => wE e env st fun x s1 => opt (asSeq s1 x) fun xs => R ⟨enumL xs, fun s => asSeq s x = some xs⟩ s1
  | .chars e, env, st, R => wE e env st fun x s1 => (match x with
    | .str z => R ⟨charsD z, fun _ => True⟩ s1
    | _ => False)
def wG : ST → D → Ev → Sto → (Ev → Sto → Prop) → Prop
  | .nm i, d, env, st, Q => Q (env.set i (some d)) st
  | .tup ts, d, env, st, Q => (match d with
    | .tup xs => xs.length = ts.length ∧ wGs ts xs env st Q
    | d => opt (asR st d) fun xs => xs.length = ts.length ∧ wGs ts xs env st Q)
  | .sub o i, d, env, st, Q => wE o env st fun x s1 => wE i env s1 fun y s2 => setD x y d s2 fun s3 => Q env s3
def wGs : List ST → List D → Ev → Sto → (Ev → Sto → Prop) → Prop
  | [], xs, env, st, Q => xs = [] ∧ Q env st
  | t :: ts, xs, env, st, Q => (match xs with
    | [] => False
    | x :: r => wG t x env st fun e1 s1 => wGs ts r e1 s1 Q)
end
mutual
def wS : SS → EndsD → Ev → Sto → Prop
  | .set t e, X, env, st => wE Φ e env st fun x s1 => wG Φ t x env s1 X.nx
  | .par i j a b, X, env, st => wE Φ a env st fun x s1 => wE Φ b env s1 fun y s2 => X.nx ((env.set i (some x)).set j (some y)) s2
  | .aug i o e, X, env, st => (match env[i]? with
    | some (some x) => wE Φ e env st fun y s1 => augD o x y s1 fun z s2 => X.nx (env.set i (some z)) s2
    | _ => False)
  | .augS o i op e, X, env, st => wE Φ o env st fun x s1 => wE Φ i env s1 fun y s2 => idxL x y s2 fun z s3 => wE Φ e env s3 fun v s4 => augD op z v s4 fun r s5 => setD x y r s5 fun s6 => X.nx env s6
  | .expr e, X, env, st => wE Φ e env st fun _ s1 => X.nx env s1
  | .ret e, X, env, st => wE Φ e env st X.rt
  | .ite c a b, X, env, st => wT Φ c env st fun k s1 => if k = true then wSs a X env s1 else wSs b X env s1
  | .for_ t it b, X, env, st => wI Φ it env st fun J s1 => forW (fun x e s K => wG Φ t x e s K) (fun X' e s => wSs b X' e s) J.keep X J.items env s1
  | .while_ c b, X, env, st => ∃ n, whileW (fun e s K => wT Φ c e s K) (fun X' e s => wSs b X' e s) X n env st
  | .pass, X, env, st => X.nx env st
  | .brk, X, env, st => X.bk env st
  | .cont, X, env, st => X.ct env st
  | .never, _, _, _ => False
def wSs : List SS → EndsD → Ev → Sto → Prop
  | [], X, env, st => X.nx env st
  | s :: r, X, env, st => wS s { X with nx := wSs r X } env st
end
end MI


set_option maxRecDepth 100000
/-! MI, part 3: what is asked grows with what is wanted. -/
namespace MI
open PySem PySem.Spec PyProof.Rows L2

def MonoFn (φ : Fn) : Prop := ∀ vs st (Q Q' : Kd), (∀ d s, Q d s → Q' d s) → φ vs st Q → φ vs st Q'
theorem opt_mono {α : Type} {o : Option α} {k k' : α → Prop} (h : ∀ x, k x → k' x) : opt o k → opt o k' := by
  cases o with
  | none => exact id
  | some x => exact h x
section
variable {Q Q' : Kd} (hQ : ∀ d s, Q d s → Q' d s)
include hQ
theorem new_mono {m : Bool} {d : D} {st : Sto} : new m d st Q → new m d st Q' := by
  unfold new; split
  · exact hQ _ _
  · exact hQ _ _
theorem binD_mono {m : Bool} {o : BOp} {x y : D} {st : Sto} : binD m o x y st Q → binD m o x y st Q' := by
  unfold binD
  split
  · exact hQ _ _
  · exact hQ _ _
  · exact fun h => ⟨h.1, hQ _ _ h.2⟩
  · exact fun h => ⟨h.1, hQ _ _ h.2⟩
  · exact opt_mono fun _ => opt_mono fun _ h => ⟨h.1, new_mono hQ h.2⟩
  · exact hQ _ _
  · exact fun h => ⟨h.1, hQ _ _ h.2⟩
  · exact fun h => ⟨h.1, hQ _ _ h.2⟩
  · exact opt_mono fun _ h => ⟨h.1, h.2.1, h.2.2.1, new_mono hQ h.2.2.2⟩
  · exact fun h => ⟨h.1, hQ _ _ h.2⟩
  · exact fun h => ⟨h.1, hQ _ _ h.2⟩
  · exact fun h => ⟨h.1, hQ _ _ h.2⟩
  · exact id
theorem augD_mono {o : BOp} {x y : D} {st : Sto} : augD o x y st Q → augD o x y st Q' := by
  unfold augD
  split
  · exact hQ _ _
  · exact hQ _ _
  · exact fun h => ⟨h.1, hQ _ _ h.2⟩
  · exact id
theorem idxD_mono {x y : D} {st : Sto} : idxD x y st Q → idxD x y st Q' := by
  unfold idxD
  split
  · exact fun h => ⟨h.1, opt_mono (fun _ => hQ _ _) h.2⟩
  · exact opt_mono fun _ => hQ _ _
  · split
    · exact opt_mono fun _ => opt_mono fun _ => hQ _ _
    · exact opt_mono fun _ => opt_mono fun _ => hQ _ _
    · split
      · exact opt_mono fun _ => opt_mono fun _ => hQ _ _
      · exact id
theorem idxL_mono {x y : D} {st : Sto} : idxL x y st Q → idxL x y st Q' := by
  unfold idxL
  split
  · split
    · exact opt_mono fun _ => hQ _ _
    · exact id
  · exact id
theorem slcD_mono {m : Bool} {x : D} {lo hi : Option Int} {st : Sto} : slcD m x lo hi st Q → slcD m x lo hi st Q' := by
  unfold slcD
  split
  · exact hQ _ _
  · exact fun h => ⟨h.1, hQ _ _ h.2⟩
  · exact opt_mono fun _ => new_mono hQ
theorem revD_mono {m : Bool} {x : D} {st : Sto} : revD m x st Q → revD m x st Q' := by
  unfold revD
  split
  · exact hQ _ _
  · exact opt_mono fun _ => new_mono hQ
theorem bltD_mono {b : Blt} {m : Bool} {vs : List D} {st : Sto} : bltD b m vs st Q → bltD b m vs st Q' := by
  unfold bltD
  split
  · exact opt_mono fun _ => hQ _ _
  · exact hQ _ _
  · exact hQ _ _
  · exact opt_mono fun _ => new_mono hQ
  · exact opt_mono fun _ => hQ _ _
  · exact opt_mono fun _ => opt_mono fun _ => hQ _ _
  · exact hQ _ _
  · exact hQ _ _
  · exact opt_mono fun _ => opt_mono fun _ => hQ _ _
  · exact opt_mono fun _ => opt_mono fun _ => hQ _ _
  · exact opt_mono fun _ => opt_mono fun _ h ns' h1 h2 => new_mono hQ (h ns' h1 h2)
  · exact opt_mono fun _ h => ⟨h.1, fun ns' h1 h2 => new_mono hQ (h.2 ns' h1 h2)⟩
  · exact fun h => ⟨h.1, hQ _ _ h.2⟩
  · split <;> first | exact hQ _ _ | exact id
  · split <;> first | exact hQ _ _ | exact id
  · split <;> first | exact hQ _ _ | exact id
  · split <;> first | exact hQ _ _ | exact id
  · exact opt_mono fun _ h => ⟨h.1, hQ _ _ h.2⟩
  · exact id
theorem mthD_mono {b : Mth} {o : D} {vs : List D} {st : Sto} : mthD b o vs st Q → mthD b o vs st Q' := by
  unfold mthD
  split
  · split
    · exact fun h => ⟨h.1, hQ _ _ h.2⟩
    · exact id
  · split
    · exact opt_mono fun _ => hQ _ _
    · exact id
  · split
    · exact fun h => ⟨h.1, h.2.1, opt_mono (fun _ => opt_mono fun _ => hQ _ _) h.2.2⟩
    · exact id
  · split
    · exact fun h => ⟨h.1, hQ _ _ h.2⟩
    · exact id
  · split
    · exact fun h => ⟨h.1, opt_mono (fun _ q => ⟨q.1, hQ _ _ q.2⟩) h.2⟩
    · exact id
  · exact opt_mono fun _ => hQ _ _
  · exact opt_mono fun _ => hQ _ _
  · split
    · exact opt_mono fun _ => opt_mono fun _ => hQ _ _
    · exact id
  · split
    · exact opt_mono fun k h => by
        split at h <;> exact hQ _ _ h
    · exact opt_mono fun k h => by
        split at h <;> exact hQ _ _ h
    · exact id
  · exact opt_mono fun _ => opt_mono fun _ h => ⟨h.1, hQ _ _ h.2⟩
  · exact id
end
theorem cmpD_mono {Q Q' : Bool → Sto → Prop} (hQ : ∀ d s, Q d s → Q' d s) {o : COp} {x y : D} {st : Sto} : cmpD o x y st Q → cmpD o x y st Q' := by
  unfold cmpD
  split
  · split
    · exact hQ _ _
    · exact hQ _ _
    · exact opt_mono fun _ => opt_mono fun _ h => ⟨h.1, hQ _ _ h.2⟩
  · split
    · exact hQ _ _
    · exact hQ _ _
    · exact opt_mono fun _ => opt_mono fun _ h => ⟨h.1, hQ _ _ h.2⟩
  · split <;> first | exact hQ _ _ | exact id
  · split <;> first | exact hQ _ _ | exact id
  · split <;> first | exact hQ _ _ | exact id
  · split <;> first | exact hQ _ _ | exact id
  · split
    · exact fun ⟨c, h1, h2⟩ => ⟨c, h1, hQ _ _ h2⟩
    · split
      · exact hQ _ _
      · exact opt_mono fun _ h => ⟨h.1, h.2.1, hQ _ _ h.2.2⟩
  · split
    · exact hQ _ _
    · exact opt_mono fun _ h => ⟨h.1, h.2.1, hQ _ _ h.2.2⟩
  · split <;> first | exact hQ _ _ | exact id
  · split <;> first | exact hQ _ _ | exact id
theorem truD_mono {Q Q' : Bool → Sto → Prop} (hQ : ∀ d s, Q d s → Q' d s) {x : D} {st : Sto} : truD x st Q → truD x st Q' := by
  unfold truD
  split
  · exact hQ _ _
  · exact hQ _ _
  · exact hQ _ _
  · exact fun h => ⟨h.1, hQ _ _ h.2⟩
  · exact opt_mono fun _ => hQ _ _
theorem setD_mono {Q Q' : Sto → Prop} (hQ : ∀ s, Q s → Q' s) {o i v : D} {st : Sto} : setD o i v st Q → setD o i v st Q' := by
  unfold setD
  split
  · split
    · split
      · exact opt_mono fun _ => hQ _
      · exact id
    · exact opt_mono fun _ h => ⟨h.1, hQ _ h.2⟩
    · exact opt_mono fun _ h => ⟨h.1, hQ _ h.2⟩
    · exact id
  · exact id

theorem ite_mono {b : Bool} {A A' B B' : Prop} (h1 : A → A') (h2 : B → B') : (if b = true then A else B) → (if b = true then A' else B') := by
  cases b with
  | true => simpa using h1
  | false => simpa using h2
theorem lcW_mono {asg asg' : D → Sto → (Ev → Sto → Prop) → Prop} {test test' : Ev → Sto → (Bool → Sto → Prop) → Prop} {elt elt' : Ev → Sto → Kd → Prop} {keep : Sto → Prop} {Q Q' : List D → Sto → Prop}
    (ha : ∀ x s K K', (∀ e s, K e s → K' e s) → asg x s K → asg' x s K') (ht : ∀ e s K K', (∀ b s, K b s → K' b s) → test e s K → test' e s K') (he : ∀ e s (K K' : Kd), (∀ b s, K b s → K' b s) → elt e s K → elt' e s K')
    (hQ : ∀ l s, Q l s → Q' l s) : ∀ (xs acc : List D) (st : Sto), lcW asg test elt keep Q xs acc st → lcW asg' test' elt' keep Q' xs acc st
  | [], _, _, h => ⟨h.1, hQ _ _ h.2⟩
  | x :: xs, acc, st, h => ⟨h.1, ha _ _ _ _ (fun _ _ => ht _ _ _ _ fun b s2 => ite_mono (he _ _ _ _ fun _ _ q => ⟨q.1, lcW_mono ha ht he hQ _ _ _ q.2⟩) (lcW_mono ha ht he hQ _ _ _)) h.2⟩
theorem lcW2_mono {asg asg' : D → Sto → (Ev → Sto → Prop) → Prop} {test test' : Ev → Sto → (Bool → Sto → Prop) → Prop} {inner inner' : Ev → List D → Sto → (List D → Sto → Prop) → Prop} {keep : Sto → Prop} {Q Q' : List D → Sto → Prop}
    (ha : ∀ x s K K', (∀ e s, K e s → K' e s) → asg x s K → asg' x s K') (ht : ∀ e s K K', (∀ b s, K b s → K' b s) → test e s K → test' e s K') (he : ∀ e a s K K', (∀ b s, K b s → K' b s) → inner e a s K → inner' e a s K')
    (hQ : ∀ l s, Q l s → Q' l s) : ∀ (xs acc : List D) (st : Sto), lcW2 asg test inner keep Q xs acc st → lcW2 asg' test' inner' keep Q' xs acc st
  | [], _, _, h => ⟨h.1, hQ _ _ h.2⟩
  | x :: xs, acc, st, h => ⟨h.1, ha _ _ _ _ (fun _ _ => ht _ _ _ _ fun b s2 => ite_mono (he _ _ _ _ _ fun _ _ => lcW2_mono ha ht he hQ _ _ _) (lcW2_mono ha ht he hQ _ _ _)) h.2⟩

section
variable {Φ : Fns} (hΦ : ∀ f, MonoFn (Φ f))
include hΦ
set_option maxHeartbeats 2000000
mutual
theorem wE_mono : ∀ (e : SE) (env : Ev) (st : Sto) (Q Q' : Kd), (∀ d s, Q d s → Q' d s) → wE Φ e env st Q → wE Φ e env st Q'
  | .var i, env, st, Q, Q', hQ, h => by
    simp only [wE] at h ⊢
    split at h
    · exact hQ _ _ h
    · exact h
  | .con d, env, st, Q, Q', hQ, h => hQ _ _ h
  | .bin o m a b, env, st, Q, Q', hQ, h => wE_mono a env st _ _ (fun _ s1 => wE_mono b env s1 _ _ fun _ _ => binD_mono hQ) h
  | .neg a, env, st, Q, Q', hQ, h => wE_mono a env st _ _ (fun x s1 q => by
      cases x <;> first | exact hQ _ _ q | exact q) h
  | .cmp o a b, env, st, Q, Q', hQ, h => wE_mono a env st _ _ (fun _ s1 => wE_mono b env s1 _ _ fun _ _ => cmpD_mono fun _ _ => hQ _ _) h
  | .chain o o' a b c, env, st, Q, Q', hQ, h => wE_mono a env st _ _ (fun _ s1 => wE_mono b env s1 _ _ fun _ _ => cmpD_mono fun _ s3 => ite_mono (wE_mono c env s3 _ _ fun _ _ => cmpD_mono fun _ _ => hQ _ _) (hQ _ _)) h
  | .land a b, env, st, Q, Q', hQ, h => wE_mono a env st _ _ (fun x s1 q => by
      cases x with
      | bl c => exact ite_mono (wE_mono b env s1 _ _ hQ) (hQ _ _) q
      | _ => exact q) h
  | .lor a b, env, st, Q, Q', hQ, h => wE_mono a env st _ _ (fun x s1 q => by
      cases x with
      | bl c => exact ite_mono (hQ _ _) (wE_mono b env s1 _ _ hQ) q
      | _ => exact q) h
  | .lnot a, env, st, Q, Q', hQ, h => wE_mono a env st _ _ (fun x s1 q => by
      cases x <;> first | exact hQ _ _ q | exact q) h
  | .ifx t a b, env, st, Q, Q', hQ, h => wT_mono t env st _ _ (fun _ s1 => ite_mono (wE_mono a env s1 _ _ hQ) (wE_mono b env s1 _ _ hQ)) h
  | .tup es, env, st, Q, Q', hQ, h => wEs_mono es env st _ _ (fun _ _ q => ⟨q.1, hQ _ _ q.2⟩) h
  | .lst m es, env, st, Q, Q', hQ, h => wEs_mono es env st _ _ (fun _ _ q => ⟨q.1, new_mono hQ q.2⟩) h
  | .idx a i, env, st, Q, Q', hQ, h => wE_mono a env st _ _ (fun _ s1 => wE_mono i env s1 _ _ fun _ _ => idxD_mono hQ) h
  | .slc m a lo hi, env, st, Q, Q', hQ, h => wE_mono a env st _ _ (fun _ s1 => wO_mono lo env s1 _ _ fun _ s2 => wO_mono hi env s2 _ _ fun _ _ => slcD_mono hQ) h
  | .rev m a, env, st, Q, Q', hQ, h => wE_mono a env st _ _ (fun _ _ => revD_mono hQ) h
  | .call f es, env, st, Q, Q', hQ, h => wEs_mono es env st _ _ (fun _ _ => hΦ f _ _ _ _ hQ) h
  | .blt b m es, env, st, Q, Q', hQ, h => wEs_mono es env st _ _ (fun _ _ => bltD_mono hQ) h
  | .mth b o es, env, st, Q, Q', hQ, h => wE_mono o env st _ _ (fun _ s1 q => ⟨q.1, wEs_mono es env s1 _ _ (fun _ _ => mthD_mono hQ) q.2⟩) h
  | .lc m elt tg it c own, env, st, Q, Q', hQ, h => wI_mono it env st _ _ (fun J s1 =>
      lcW_mono (fun x s K K' hK => wG_mono tg x _ s K K' hK) (fun e s K K' hK => wC_mono c e s K K' hK) (fun e s K K' hK => wE_mono elt e s K K' hK) (fun _ _ => new_mono hQ) _ _ _) h
  | .lc2 m elt tg it c tg1 it1 c1 own own1, env, st, Q, Q', hQ, h => wI_mono it env st _ _ (fun J s1 =>
      lcW2_mono (fun x s K K' hK => wG_mono tg x _ s K K' hK) (fun e s K K' hK => wC_mono c e s K K' hK)
        (fun e a s K K' hK => wI_mono it1 e s
          (fun J1 s' => lcW (fun x s K => wG Φ tg1 x (wipeE e own1) s K) (fun e s K => wC Φ c1 e s K) (fun e s K => wE Φ elt e s K) J1.keep K J1.items a s')
          (fun J1 s' => lcW (fun x s K => wG Φ tg1 x (wipeE e own1) s K) (fun e s K => wC Φ c1 e s K) (fun e s K => wE Φ elt e s K) J1.keep K' J1.items a s')
          fun J1 s' => lcW_mono (fun x s K K' hK => wG_mono tg1 x _ s K K' hK) (fun e s K K' hK => wC_mono c1 e s K K' hK) (fun e s K K' hK => wE_mono elt e s K K' hK) hK _ _ _)
        (fun _ _ => new_mono hQ) _ _ _) h
  | .dnew m t, env, st, Q, Q', hQ, h => new_mono hQ h
  | .ddsp m es, env, st, Q, Q', hQ, h => wEs_mono es env st _ _ (fun _ _ => opt_mono fun _ => new_mono hQ) h
  | .fld o f, env, st, Q, Q', hQ, h => wE_mono o env st _ _ (fun x s1 q => by
      cases x with
      | ins _ fs => exact opt_mono (fun _ => hQ _ _) q
      | loc n =>
        simp only at q ⊢
        split at q
        · exact opt_mono (fun _ => hQ _ _) q
        · exact q
      | _ => exact q) h
theorem wEs_mono : ∀ (es : List SE) (env : Ev) (st : Sto) (Q Q' : List D → Sto → Prop), (∀ d s, Q d s → Q' d s) → wEs Φ es env st Q → wEs Φ es env st Q'
  | [], env, st, Q, Q', hQ, h => hQ _ _ h
  | e :: es, env, st, Q, Q', hQ, h => wE_mono e env st _ _ (fun _ s1 => wEs_mono es env s1 _ _ fun _ _ => hQ _ _) h
theorem wO_mono : ∀ (o : Option SE) (env : Ev) (st : Sto) (Q Q' : Option Int → Sto → Prop), (∀ d s, Q d s → Q' d s) → wO Φ o env st Q → wO Φ o env st Q'
  | none, env, st, Q, Q', hQ, h => hQ _ _ h
  | some e, env, st, Q, Q', hQ, h => wE_mono e env st _ _ (fun x s1 q => by
      cases x <;> first | exact hQ _ _ q | exact q) h
theorem wC_mono : ∀ (o : Option SB) (env : Ev) (st : Sto) (Q Q' : Bool → Sto → Prop), (∀ d s, Q d s → Q' d s) → wC Φ o env st Q → wC Φ o env st Q'
  | none, env, st, Q, Q', hQ, h => hQ _ _ h
  | some e, env, st, Q, Q', hQ, h => wT_mono e env st _ _ hQ h
theorem wT_mono : ∀ (e : SB) (env : Ev) (st : Sto) (Q Q' : Bool → Sto → Prop), (∀ d s, Q d s → Q' d s) → wT Φ e env st Q → wT Φ e env st Q'
  | .land a b, env, st, Q, Q', hQ, h => wT_mono a env st _ _ (fun _ s1 => ite_mono (wT_mono b env s1 _ _ hQ) (hQ _ _)) h
  | .lor a b, env, st, Q, Q', hQ, h => wT_mono a env st _ _ (fun _ s1 => ite_mono (hQ _ _) (wT_mono b env s1 _ _ hQ)) h
  | .lnot a, env, st, Q, Q', hQ, h => wT_mono a env st _ _ (fun _ _ => hQ _ _) h
  | .cmp o a b, env, st, Q, Q', hQ, h => wE_mono a env st _ _ (fun _ s1 => wE_mono b env s1 _ _ fun _ _ => cmpD_mono hQ) h
  | .chain o o' a b c, env, st, Q, Q', hQ, h => wE_mono a env st _ _ (fun _ s1 => wE_mono b env s1 _ _ fun _ _ => cmpD_mono fun _ s3 => ite_mono (wE_mono c env s3 _ _ fun _ _ => cmpD_mono hQ) (hQ _ _)) h
  | .val e, env, st, Q, Q', hQ, h => wE_mono e env st _ _ (fun _ _ => truD_mono hQ) h
theorem wI_mono : ∀ (i : SI) (env : Ev) (st : Sto) (Q Q' : Its → Sto → Prop), (∀ d s, Q d s → Q' d s) → wI Φ i env st Q → wI Φ i env st Q'
  | .seq e, env, st, Q, Q', hQ, h => wE_mono e env st _ _ (fun _ _ => opt_mono fun _ => hQ _ _) h
  | .rng1 a, env, st, Q, Q', hQ, h => wE_mono a env st _ _ (fun x s1 q => by
      cases x <;> first | exact ⟨q.1, q.2.1, hQ _ _ q.2.2⟩ | exact q) h
  | .rng2 a b, env, st, Q, Q', hQ, h => wE_mono a env st _ _ (fun x s1 => wE_mono b env s1 _ _ fun y s2 q => by
      split at q
      · exact ⟨q.1, hQ _ _ q.2⟩
      · exact q) h
  | .rng3 a b c, env, st, Q, Q', hQ, h => wE_mono a env st _ _ (fun x s1 => wE_mono b env s1 _ _ fun y s2 => wE_mono c env s2 _ _ fun z s3 q => by
      split at q
      · obtain ⟨n, q1, q2⟩ := q
        exact ⟨n, q1, hQ _ _ q2⟩
      · exact q) h
  | .enum e, env, st, Q, Q', hQ, h => wE_mono e env st _ _ (fun _ _ => opt_mono fun _ => hQ _ _) h
  | .chars e, env, st, Q, Q', hQ, h => wE_mono e env st _ _ (fun x s1 q => by
      cases x <;> first | exact hQ _ _ q | exact q) h
theorem wG_mono : ∀ (t : ST) (d : D) (env : Ev) (st : Sto) (Q Q' : Ev → Sto → Prop), (∀ d s, Q d s → Q' d s) → wG Φ t d env st Q → wG Φ t d env st Q'
  | .nm i, d, env, st, Q, Q', hQ, h => hQ _ _ h
  | .tup ts, d, env, st, Q, Q', hQ, h => by
    cases d with
    | tup xs =>
      simp only [wG] at h ⊢
      exact ⟨h.1, wGs_mono ts xs env st _ _ hQ h.2⟩
    | _ =>
      simp only [wG] at h ⊢
      exact opt_mono (fun xs q => ⟨q.1, wGs_mono ts xs env st _ _ hQ q.2⟩) h
  | .sub o i, d, env, st, Q, Q', hQ, h => wE_mono o env st _ _ (fun _ s1 => wE_mono i env s1 _ _ fun _ _ => setD_mono fun _ => hQ _ _) h
theorem wGs_mono : ∀ (t : List ST) (d : List D) (env : Ev) (st : Sto) (Q Q' : Ev → Sto → Prop), (∀ d s, Q d s → Q' d s) → wGs Φ t d env st Q → wGs Φ t d env st Q'
  | [], d, env, st, Q, Q', hQ, h => ⟨h.1, hQ _ _ h.2⟩
  | t :: ts, d, env, st, Q, Q', hQ, h => by
    cases d with
    | nil => simp only [wGs] at h
    | cons x r =>
      simp only [wGs] at h ⊢
      exact wG_mono t x env st _ _ (fun e1 s1 => wGs_mono ts r e1 s1 _ _ hQ) h
end

structure EndsD.Le (X Y : EndsD) : Prop where
  nx : ∀ e s, X.nx e s → Y.nx e s
  rt : ∀ d s, X.rt d s → Y.rt d s
  bk : ∀ e s, X.bk e s → Y.bk e s
  ct : ∀ e s, X.ct e s → Y.ct e s
omit hΦ in
theorem forW_mono {asg : D → Ev → Sto → (Ev → Sto → Prop) → Prop} {body : EndsD → Ev → Sto → Prop} {keep : Sto → Prop}
    (ha : ∀ x e s K K', (∀ e s, K e s → K' e s) → asg x e s K → asg x e s K') (hb : ∀ X Y e s, EndsD.Le X Y → body X e s → body Y e s) {X Y : EndsD} (hX : EndsD.Le X Y) :
    ∀ (xs : List D) (env : Ev) (st : Sto), forW asg body keep X xs env st → forW asg body keep Y xs env st
  | [], _, _, h => ⟨h.1, hX.nx _ _ h.2⟩
  | x :: xs, _, _, h => ⟨h.1, ha _ _ _ _ _ (fun _ _ => hb { X with nx := forW asg body keep X xs, ct := forW asg body keep X xs, bk := X.nx } { Y with nx := forW asg body keep Y xs, ct := forW asg body keep Y xs, bk := Y.nx } _ _ ⟨forW_mono ha hb hX xs, hX.rt, hX.nx, forW_mono ha hb hX xs⟩) h.2⟩
omit hΦ in
theorem whileW_mono {c : Ev → Sto → (Bool → Sto → Prop) → Prop} {body : EndsD → Ev → Sto → Prop}
    (hc : ∀ e s K K', (∀ b s, K b s → K' b s) → c e s K → c e s K') (hb : ∀ X Y e s, EndsD.Le X Y → body X e s → body Y e s) {X Y : EndsD} (hX : EndsD.Le X Y) :
    ∀ (n : Nat) (env : Ev) (st : Sto), whileW c body X n env st → whileW c body Y n env st
  | 0, _, _, h => h
  | n + 1, _, _, h => hc _ _ _ _ (fun _ _ => ite_mono (hb { X with nx := whileW c body X n, ct := whileW c body X n, bk := X.nx } { Y with nx := whileW c body Y n, ct := whileW c body Y n, bk := Y.nx } _ _ ⟨whileW_mono hc hb hX n, hX.rt, hX.nx, whileW_mono hc hb hX n⟩) (hX.nx _ _)) h
mutual
theorem wS_mono : ∀ (s : SS) (X Y : EndsD) (env : Ev) (st : Sto), EndsD.Le X Y → wS Φ s X env st → wS Φ s Y env st
  | .set t e, X, Y, env, st, hX, h => wE_mono hΦ e env st _ _ (fun _ s1 => wG_mono hΦ t _ env s1 _ _ hX.nx) h
  | .par i j a b, X, Y, env, st, hX, h => wE_mono hΦ a env st _ _ (fun _ s1 => wE_mono hΦ b env s1 _ _ fun _ _ => hX.nx _ _) h
  | .aug i o e, X, Y, env, st, hX, h => by
    simp only [wS] at h ⊢
    split at h
    · exact wE_mono hΦ e env st _ _ (fun _ s1 => augD_mono fun _ _ => hX.nx _ _) h
    · exact h
  | .augS o i op e, X, Y, env, st, hX, h => wE_mono hΦ o env st _ _ (fun _ s1 => wE_mono hΦ i env s1 _ _ fun _ s2 => idxL_mono fun _ s3 => wE_mono hΦ e env s3 _ _ fun _ s4 => augD_mono fun _ s5 => setD_mono fun _ => hX.nx _ _) h
  | .expr e, X, Y, env, st, hX, h => wE_mono hΦ e env st _ _ (fun _ s1 => hX.nx _ _) h
  | .ret e, X, Y, env, st, hX, h => wE_mono hΦ e env st _ _ hX.rt h
  | .ite c a b, X, Y, env, st, hX, h => wT_mono hΦ c env st _ _ (fun _ s1 => ite_mono (wSs_mono a X Y env s1 hX) (wSs_mono b X Y env s1 hX)) h
  | .for_ t it b, X, Y, env, st, hX, h => wI_mono hΦ it env st _ _ (fun J s1 => forW_mono (fun x e s K K' hK => wG_mono hΦ t x e s K K' hK) (fun X Y e s hX => wSs_mono b X Y e s hX) hX _ _ _) h
  | .while_ c b, X, Y, env, st, hX, h => by
    obtain ⟨n, h⟩ := h
    exact ⟨n, whileW_mono (fun e s K K' hK => wT_mono hΦ c e s K K' hK) (fun X Y e s hX => wSs_mono b X Y e s hX) hX _ _ _ h⟩
  | .pass, X, Y, env, st, hX, h => hX.nx _ _ h
  | .brk, X, Y, env, st, hX, h => hX.bk _ _ h
  | .cont, X, Y, env, st, hX, h => hX.ct _ _ h
  | .never, X, Y, env, st, hX, h => h
theorem wSs_mono : ∀ (l : List SS) (X Y : EndsD) (env : Ev) (st : Sto), EndsD.Le X Y → wSs Φ l X env st → wSs Φ l Y env st
  | [], X, Y, env, st, hX, h => hX.nx _ _ h
  | s :: r, X, Y, env, st, hX, h => wS_mono s { X with nx := wSs Φ r X } { Y with nx := wSs Φ r Y } env st ⟨fun e s => wSs_mono r X Y e s hX, hX.rt, hX.bk, hX.ct⟩ h
end
end
end MI

set_option maxRecDepth 100000
/-! MI, part 4: the operators over the hand layer's rules. -/
namespace MI
open PySem PySem.Spec PyProof.Rows L2

def Post (K : PySem.W.Frag) (C : Nat → Addr) (H : Hp) (ι : Io) (Q : VK) : Kd := fun d st' => ∀ v H' ι', Ext H ι H' ι' → Sim K C H' ι' st' → Rep K C H' ι' d v → Q v H'
def PostB (K : PySem.W.Frag) (C : Nat → Addr) (H : Hp) (ι : Io) (Q : Bool → Hp → Prop) : Bool → Sto → Prop := fun b st' => ∀ H' ι', Ext H ι H' ι' → Sim K C H' ι' st' → Q b H'

section
variable {K : PySem.W.Frag} {C : Nat → Addr} {H H' : Hp} {ι ι' : Io} {st st' : Sto}

theorem Post.here {Q : VK} {d : D} {v : V} (p : Post K C H ι Q d st) (S : Sim K C H ι st) (r : Rep K C H ι d v) : Q v H := p v H ι (.refl _ _) S r
theorem PostB.here {Q : Bool → Hp → Prop} {b : Bool} (p : PostB K C H ι Q b st) (S : Sim K C H ι st) : Q b H := p H ι (.refl _ _) S
theorem rep_int {i : Int} : Rep K C H ι (.int i) (.int i) := by simp only [Rep]
theorem rep_bl {i : Bool} : Rep K C H ι (.bl i) (.bl i) := by simp only [Rep]
theorem rep_str {i : Str} : Rep K C H ι (.str i) (.str i) := by simp only [Rep]
theorem rep_non : Rep K C H ι .non .non := by simp only [Rep]
theorem opt_some {α : Type} {o : Option α} {k : α → Prop} (h : opt o k) : ∃ x, o = some x ∧ k x := by
  cases o with
  | none => exact h.elim
  | some x => exact ⟨x, rfl, h⟩

/-- a fresh list comes -/
theorem new_ok {m : Bool} {xs : List D} {vs : List V} {Q : VK} (S : Sim K C H ι st) (r : Reps K C H ι xs vs) (h : new m (.lst xs) st (Post K C H ι Q)) : ∀ p, H p = none → Q (.ref p) (upd H p (.lst vs)) := by
  intro p hp
  unfold new at h
  split at h
  · obtain ⟨e, S'⟩ := S.new (d := .lst xs) (o := .lst vs) hp (by simpa only [RepO] using r)
    exact h _ _ _ e S' (by simp only [Rep]; exact ⟨p, rfl, by rw [← S.len, List.getElem?_append_right (Nat.le_refl _)]; simp⟩)
  · obtain ⟨e, S'⟩ := S.imm (o := .lst vs) hp
    exact h _ _ _ e S' (by simp only [Rep]; exact ⟨p, vs, rfl, upd_same, S.fresh hp, r.mono e⟩)
theorem tup_new {xs : List D} {vs : List V} {Q : VK} (S : Sim K C H ι st) (r : Reps K C H ι xs vs) (h : Post K C H ι Q (.tup xs) st) : ∀ p, H p = none → Q (.ref p) (upd H p (.tup vs)) := by
  intro p hp
  obtain ⟨e, S'⟩ := S.imm (o := .tup vs) hp
  exact h _ _ _ e S' (by simp only [Rep]; exact ⟨p, vs, rfl, ⟨upd_same, S.fresh hp⟩, r.mono e⟩)
theorem asL_ok {d : D} {v : V} {xs : List D} (S : Sim K C H ι st) (r : Rep K C H ι d v) (h : asL st d = some xs) : ∃ a vs, v = .ref a ∧ H a = some (.lst vs) ∧ Reps K C H ι xs vs := by
  unfold asL at h
  split at h
  · cases h
    simp only [Rep] at r
    obtain ⟨a, vs, e, h1, _, h2⟩ := r
    exact ⟨a, vs, e, h1, h2⟩
  · rename_i n
    split at h
    · rename_i ys hn
      cases h
      simp only [Rep] at r
      obtain ⟨a, rfl, ha⟩ := r
      obtain ⟨o, h1, h2⟩ := S.at_ _ _ _ hn ha
      unfold RepO at h2
      split at h2
      · rename_i e; cases e; exact ⟨a, _, rfl, h1, h2⟩
      all_goals first | (rename_i e; cases e) | exact h2.elim
    · cases h
  · cases h
theorem asR_ok {d : D} {v : V} {xs : List D} (S : Sim K C H ι st) (r : Rep K C H ι d v) (h : asR st d = some xs) : ∃ a vs, v = .ref a ∧ SqL K H a vs ∧ Reps K C H ι xs vs := by
  unfold asR at h
  split at h
  · cases h
    simp only [Rep] at r
    obtain ⟨a, vs, e, h1, h2⟩ := r
    exact ⟨a, vs, e, h1.sq, h2⟩
  · obtain ⟨a, vs, e, h1, h2⟩ := asL_ok S r h
    exact ⟨a, vs, e, .of h1, h2⟩
theorem tup_ok {v : V} {xs : List D} (r : Rep K C H ι (.tup xs) v) : ∃ a vs, v = .ref a ∧ SqT K H a vs ∧ Reps K C H ι xs vs := by
  simp only [Rep] at r
  obtain ⟨a, vs, e, h1, h2⟩ := r
  exact ⟨a, vs, e, h1.sq, h2⟩
theorem asSeq_ok {d : D} {v : V} {xs : List D} (S : Sim K C H ι st) (r : Rep K C H ι d v) (h : asSeq st d = some xs) : ∃ a vs, v = .ref a ∧ (SqL K H a vs ∨ SqT K H a vs) ∧ Reps K C H ι xs vs := by
  unfold asSeq at h
  split at h
  · cases h
    obtain ⟨a, vs, e, h1, h2⟩ := tup_ok r
    exact ⟨a, vs, e, .inr h1, h2⟩
  · obtain ⟨a, vs, e, h1, h2⟩ := asR_ok S r h
    exact ⟨a, vs, e, .inl h1, h2⟩
/-- an object that is a dict -/
theorem objK_ok {d : D} {v : V} {kvs : List (Key × D)} (S : Sim K C H ι st) (r : Rep K C H ι d v) (h : objD st d = some (.dK kvs)) : ∃ a kw, v = .ref a ∧ H a = some (.dK kw) ∧ RepG (Rep K C H ι) kvs kw := by
  unfold objD at h
  split at h
  · simp only [Rep] at r
    obtain ⟨a, rfl, ha⟩ := r
    obtain ⟨o, h1, h2⟩ := S.at_ _ _ _ h ha
    unfold RepO at h2
    split at h2
    case h_2 => rename_i e; cases e; exact ⟨a, _, rfl, h1, RepK_iff.mp h2⟩
    all_goals first | (rename_i e; cases e; done) | exact h2.elim
  · cases h
    simp only [Rep] at r
    obtain ⟨a, kw, e, h1, _, h2⟩ := r
    exact ⟨a, kw, e, h1, RepK_iff.mp h2⟩
  · cases h
  · cases h
theorem objT_ok {d : D} {v : V} {kvs : List (List Key × D)} (S : Sim K C H ι st) (r : Rep K C H ι d v) (h : objD st d = some (.dT kvs)) : ∃ a kw, v = .ref a ∧ H a = some (.dT kw) ∧ RepG (Rep K C H ι) kvs kw := by
  unfold objD at h
  split at h
  · simp only [Rep] at r
    obtain ⟨a, rfl, ha⟩ := r
    obtain ⟨o, h1, h2⟩ := S.at_ _ _ _ h ha
    unfold RepO at h2
    split at h2
    case h_3 => rename_i e; cases e; exact ⟨a, _, rfl, h1, RepT_iff.mp h2⟩
    all_goals first | (rename_i e; cases e; done) | exact h2.elim
  · cases h
  · cases h
    simp only [Rep] at r
    obtain ⟨a, kw, e, h1, _, h2⟩ := r
    exact ⟨a, kw, e, h1, RepT_iff.mp h2⟩
  · cases h
theorem optRep {κ : Type} [DecidableEq κ] {kvs : List (κ × D)} {kw : List (κ × V)} (r : RepG (Rep K C H ι) kvs kw) (k : κ) : (valD kvs k).isSome = (valV kw k).isSome := by
  have := r.val k
  cases e : valD kvs k with
  | none => rw [this.2 e]; rfl
  | some d => obtain ⟨v, e1, _⟩ := this.1 d e; rw [e1]; rfl
/-- what a dict holds, in the hand layer's words -/
theorem getDD_ok {d e : D} {v u : V} {o : Option D} (S : Sim K C H ι st) (rd : Rep K C H ι d v) (re : Rep K C H ι e u) (h : getDD st d e = some o) :
    ∃ a w, v = .ref a ∧ DGet H a u w ∧ o.isSome = w.isSome ∧ (∀ x, o = some x → ∃ y, w = some y ∧ Rep K C H ι x y) := by
  unfold getDD at h
  split at h
  · rename_i kvs hq
    obtain ⟨a, kw, rfl, h1, h2⟩ := objK_ok S rd hq
    cases hk : keyOf e with
    | none => rw [hk] at h; cases h
    | some k =>
      rw [hk] at h; cases h
      obtain rfl := keyOf_ok re hk
      exact ⟨a, _, rfl, .k h1, optRep h2 k, fun x hx => (h2.val k).1 x hx⟩
  · rename_i kvs hq
    obtain ⟨a, kw, rfl, h1, h2⟩ := objT_ok S rd hq
    cases hk : tkeyOf e with
    | none => rw [hk] at h; cases h
    | some k =>
      rw [hk] at h; cases h
      obtain ⟨b, rfl, hb⟩ := tkeyOf_ok re hk
      exact ⟨a, _, rfl, .t h1 hb, optRep h2 k, fun x hx => (h2.val k).1 x hx⟩
  · cases h
theorem ints?_ok : ∀ {xs : List D} {ns : List Int}, ints? xs = some ns → xs = ns.map .int
  | [], ns, h => by simp [ints?] at h; subst h; rfl
  | x :: r, ns, h => by
    unfold ints? at h
    split at h
    · rename_i e; cases e
    · rename_i i r' e
      cases e
      cases q : ints? r with
      | none => rw [q] at h; cases h
      | some ms => rw [q] at h; cases h; rw [ints?_ok q]; rfl
    · cases h
theorem bls?_ok : ∀ {xs : List D} {ns : List Bool}, bls? xs = some ns → xs = ns.map .bl
  | [], ns, h => by simp [bls?] at h; subst h; rfl
  | x :: r, ns, h => by
    unfold bls? at h
    split at h
    · rename_i e; cases e
    · rename_i i r' e
      cases e
      cases q : bls? r with
      | none => rw [q] at h; cases h
      | some ms => rw [q] at h; cases h; rw [bls?_ok q]; rfl
    · cases h
theorem Reps.bls {vs : List V} : ∀ {ns : List Bool}, Reps K C H ι (ns.map D.bl) vs ↔ vs = ns.map V.bl
  | [] => by simp [Reps]
  | n :: ns => by
    simp only [List.map_cons, Reps.cons_iff, Rep]
    constructor
    · rintro ⟨v, r, rfl, rfl, h⟩
      rw [Reps.bls.mp h]
    · rintro rfl
      exact ⟨_, _, rfl, rfl, Reps.bls.mpr rfl⟩

/-! ### data as a whole -/
mutual
theorem toPy_ok : ∀ {d : D} {v : V} {p : PyData}, Rep K C H ι d v → toPy st d = some p → Dp K H v p
  | .non, v, p, r, h => by simp only [Rep] at r; simp only [toPy] at h; cases h; subst r; exact .non
  | .bl _, v, p, r, h => by simp only [Rep] at r; simp only [toPy] at h; cases h; subst r; exact .bl _
  | .int _, v, p, r, h => by simp only [Rep] at r; simp only [toPy] at h; cases h; subst r; exact .int _
  | .str _, v, p, r, h => by simp only [Rep] at r; simp only [toPy] at h; cases h; subst r; exact .str _
  | .tup xs, v, p, r, h => by
    obtain ⟨a, vs, rfl, h1, h2⟩ := tup_ok r
    simp only [toPy] at h
    cases q : toPys st xs with
    | none => rw [q] at h; cases h
    | some ps => rw [q] at h; cases h; exact .tup h1 (toPys_ok h2 q)
  | .lst xs, v, p, r, h => by
    simp only [Rep] at r
    obtain ⟨a, vs, rfl, h1, _, h2⟩ := r
    simp only [toPy] at h
    cases q : toPys st xs with
    | none => rw [q] at h; cases h
    | some ps => rw [q] at h; cases h; exact .lst (.of h1) (toPys_ok h2 q)
  | .ro xs, v, p, r, h => by
    simp only [Rep] at r
    obtain ⟨a, vs, rfl, h1, h2⟩ := r
    simp only [toPy] at h
    cases q : toPys st xs with
    | none => rw [q] at h; cases h
    | some ps => rw [q] at h; cases h; exact .lst h1.sq (toPys_ok h2 q)
  | .dK _, _, _, _, h => by simp [toPy] at h
  | .dT _, _, _, _, h => by simp [toPy] at h
  | .ins _ _, _, _, _, h => by simp [toPy] at h
  | .loc _, _, _, _, h => by simp [toPy] at h
  | .lck _, _, _, _, h => by simp [toPy] at h
  | .rd _, _, _, _, h => by simp [toPy] at h
theorem toPys_ok : ∀ {ds : List D} {vs : List V} {ps : List PyData}, Reps K C H ι ds vs → toPys st ds = some ps → DpAll K H vs ps
  | [], vs, ps, r, h => by simp only [Reps] at r; simp only [toPys] at h; cases h; subst r; exact .nil
  | d :: ds, vs, ps, r, h => by
    obtain ⟨v, rr, rfl, h1, h2⟩ := Reps.cons_iff.mp r
    simp only [toPys] at h
    split at h
    · rename_i x y e1 e2
      cases h
      exact .cons (toPy_ok h1 e1) (toPys_ok h2 e2)
    · cases h
end
theorem toPyL_ok {d : D} {v : V} {p : PyData} (S : Sim K C H ι st) (r : Rep K C H ι d v) (h : toPyL st d = some p) : Dp K H v p := by
  unfold toPyL at h
  split at h
  · rename_i n
    split at h
    · rename_i xs hn
      cases q : toPys st xs with
      | none => rw [q] at h; cases h
      | some ps =>
        rw [q] at h; cases h
        obtain ⟨a, vs, rfl, h1, h2⟩ := asL_ok S r (show asL st (.loc n) = some xs by simp only [asL, hn])
        exact .lst (.of h1) (toPys_ok h2 q)
    · cases h
  · exact toPy_ok r h

theorem flat_ok {d : D} {v : V} (r : Rep K C H ι d v) (h : flat d = true) : flatV v = true := by
  cases d <;> simp only [Rep] at r <;> first | (subst r; rfl) | cases h
theorem flats_ok : ∀ {ds : List D} {vs : List V}, Reps K C H ι ds vs → ds.all flat = true → vs.all flatV = true
  | [], vs, r, _ => by simp only [Reps] at r; subst r; rfl
  | d :: ds, vs, r, h => by
    obtain ⟨v, rr, rfl, h1, h2⟩ := Reps.cons_iff.mp r
    rw [List.all_cons, Bool.and_eq_true] at h ⊢
    exact ⟨flat_ok h1 h.1, flats_ok h2 h.2⟩
theorem eqF_ok {d e : D} {v u : V} (r : Rep K C H ι d v) (r' : Rep K C H ι e u) (h : flat d = true) (h' : flat e = true) : eqF d e = eqV v u := by
  cases d <;> simp only [Rep] at r <;> first | (subst r; cases e <;> simp only [Rep] at r' <;> first | (subst r'; rfl) | (cases h'; done)) | (cases h; done)
theorem Rep.non_eq {d : D} (r : Rep K C H ι d .non) : d = .non := by
  cases d <;> simp only [Rep] at r <;> first | rfl | (cases r; done) | (obtain ⟨_, _, e, _⟩ := r; cases e; done) | (obtain ⟨_, e, _⟩ := r; cases e; done) | (obtain ⟨_, _, _, e, _⟩ := r; cases e; done)
theorem anyF_ok {x : D} {v : V} (rx : Rep K C H ι x v) (fx : flat x = true) : ∀ {ds : List D} {vs : List V}, Reps K C H ι ds vs → ds.all flat = true → (ds.any fun z => eqF z x) = inV v vs
  | [], vs, r, _ => by simp only [Reps] at r; subst r; rfl
  | d :: ds, vs, r, h => by
    obtain ⟨u, rr, rfl, h1, h2⟩ := Reps.cons_iff.mp r
    rw [List.all_cons, Bool.and_eq_true] at h
    unfold inV
    rw [List.any_cons, List.any_cons, eqF_ok h1 rx h.1 fx, anyF_ok rx fx h2 h.2]
    rfl
end

/-! ### operators -/
def BOp.py : BOp → Operator
  | .add => .Add | .sub => .Sub | .mul => .Mult | .fdiv => .FloorDiv | .mod => .Mod | .pow => .Pow
def COp.py : COp → CmpOp
  | .eq => .Eq | .ne => .NotEq | .lt => .Lt | .le => .LtE | .gt => .Gt | .ge => .GtE | .isIn => .In | .notIn => .NotIn | .is_ => .Is | .isnt => .IsNot

section
variable {X : Cx} {C : Nat → Addr}
/-- two values in, by what they are -/
def rD2 (K : PySem.W.Frag) (C : Nat → Addr) (f : D → D → Sto → Kd → Prop) : R2 := fun x y H Q => ∃ ι st d e, Sim K C H ι st ∧ Rep K C H ι d x ∧ Rep K C H ι e y ∧ f d e st (Post K C H ι Q)
theorem OpR.imp {f : Value → Value → Sem Value} {r r' : R2} (h : OpR X f r) (i : ∀ x y H Q, r' x y H Q → r x y H Q) : OpR X f r' :=
  fun pins s σ H x y v u Q I rx ry q => h pins s σ H x y v u Q I rx ry (i _ _ _ _ q)
theorem cmulw {i j : Int} (h : CMulW i j) : CMulW i j := h

theorem bin_ok (m : Bool) (o : BOp) : OpR X (binaryOp o.py) (rD2 X.K C (binD m o)) := by
  intro pins s σ H x y v u Q I rx ry h
  obtain ⟨ι, st, d, e, S, rd, re, h⟩ := h
  unfold binD at h
  split at h
  · simp only [Rep] at rd re; subst rd re
    exact op_add pins s σ H _ _ v u Q I rx ry ⟨_, _, rfl, rfl, h.here S rep_int⟩
  · simp only [Rep] at rd re; subst rd re
    exact op_add_ib pins s σ H _ _ v u Q I rx ry ⟨_, _, rfl, rfl, h.here S rep_int⟩
  · simp only [Rep] at rd re; subst rd re
    exact op_add_str pins s σ H _ _ v u Q I rx ry ⟨_, _, rfl, rfl, h.1, h.2.here S rep_str⟩
  · obtain ⟨a, vs, rfl, h1, h2⟩ := tup_ok rd
    obtain ⟨b, ws, rfl, h3, h4⟩ := tup_ok re
    have hl := h2.length
    have hl' := h4.length
    refine op_catA pins s σ H _ _ v u Q I rx ry ⟨a, b, vs, ws, rfl, rfl, h1, h3, by omega, fun z => ?_, fun _ z => ?_, fun _ _ => tup_new S (h2.append h4) h.2⟩
    · subst z
      cases (show _ = [] from List.length_eq_zero_iff.mp hl)
      exact h.2.here S (by simpa using re)
    · subst z
      cases (show _ = [] from List.length_eq_zero_iff.mp hl')
      exact h.2.here S (by simpa using rd)
  · obtain ⟨xs, e1, h⟩ := opt_some h
    obtain ⟨ys, e2, hz, h⟩ := opt_some h
    obtain ⟨a, vs, rfl, h1, h2⟩ := asL_ok S rd e1
    obtain ⟨b, ws, rfl, h3, h4⟩ := asL_ok S re e2
    have hl := h2.length
    have hl' := h4.length
    exact op_cat pins s σ H _ _ v u Q I rx ry ⟨a, b, vs, ws, rfl, rfl, h1, h3, by omega, new_ok S (h2.append h4) h⟩
  · simp only [Rep] at rd re; subst rd re
    exact op_sub pins s σ H _ _ v u Q I rx ry ⟨_, _, rfl, rfl, h.here S rep_int⟩
  · simp only [Rep] at rd re; subst rd re
    exact op_mulW pins s σ H _ _ v u Q I rx ry ⟨_, _, rfl, rfl, h.1, h.2.here S rep_int⟩
  · obtain ⟨a, vs, rfl, h1, h2⟩ := tup_ok rd
    simp only [Rep] at re; subst re
    have hl := h2.length
    obtain ⟨⟨b1, b2, b3, b4⟩, h⟩ := h
    exact op_repT pins s σ H _ _ v u Q I rx ry ⟨a, _, vs, rfl, rfl, h1, fun e => b1 (List.length_eq_zero_iff.mp (by rw [hl, e]; rfl)), b2, b3, by omega, tup_new S (h2.replicate _) h⟩
  · obtain ⟨xs, e1, h0, h00, hz, h⟩ := opt_some h
    obtain ⟨a, vs, rfl, h1, h2⟩ := asL_ok S rd e1
    simp only [Rep] at re; subst re
    have hl := h2.length
    exact op_rep pins s σ H _ _ v u Q I rx ry ⟨a, _, vs, rfl, rfl, h1, h0, h00, by rw [← hl]; exact hz, new_ok S (h2.replicate _) h⟩
  · simp only [Rep] at rd re; subst rd re
    exact op_fdivW pins s σ H _ _ v u Q I rx ry ⟨_, _, rfl, rfl, h.1, h.2.here S rep_int⟩
  · simp only [Rep] at rd re; subst rd re
    exact op_mod pins s σ H _ _ v u Q I rx ry ⟨_, _, rfl, rfl, h.1, h.2.here S rep_int⟩
  · simp only [Rep] at rd re; subst rd re
    exact op_pow pins s σ H _ _ v u Q I rx ry ⟨_, _, rfl, rfl, h.1, h.2.here S rep_int⟩
  · exact h.elim
theorem aug_ok (o : BOp) : OpR X (inplaceOp o.py) (rD2 X.K C (augD o)) := by
  intro pins s σ H x y v u Q I rx ry h
  obtain ⟨ι, st, d, e, S, rd, re, h⟩ := h
  unfold augD at h
  split at h
  · simp only [Rep] at rd re; subst rd re
    exact iop_add pins s σ H _ _ v u Q I rx ry ⟨_, _, rfl, rfl, h.here S rep_int⟩
  · simp only [Rep] at rd re; subst rd re
    exact iop_sub pins s σ H _ _ v u Q I rx ry ⟨_, _, rfl, rfl, h.here S rep_int⟩
  · simp only [Rep] at rd re; subst rd re
    exact iop_fdiv pins s σ H _ _ v u Q I rx ry ⟨_, _, rfl, rfl, h.1, h.2.here S rep_int⟩
  · exact h.elim
def rDB (K : PySem.W.Frag) (C : Nat → Addr) (f : D → D → Sto → (Bool → Sto → Prop) → Prop) : R2 := fun x y H Q => ∃ ι st d e, Sim K C H ι st ∧ Rep K C H ι d x ∧ Rep K C H ι e y ∧ f d e st (PostB K C H ι fun b H' => Q (.bl b) H')
theorem cmp_ok (hu : X.A.units + 64 < cLine) (o : COp) : OpR X (compareOp o.py) (rDB X.K C (cmpD o)) := by
  intro pins s σ H x y v u Q I rx ry h
  obtain ⟨ι, st, d, e, S, rd, re, h⟩ := h
  unfold cmpD at h
  split at h
  · split at h
    · simp only [Rep] at rd re; subst rd re
      exact op_eq pins s σ H _ _ v u Q I rx ry ⟨rfl, by rw [dec_int]; exact h.here S⟩
    · simp only [Rep] at rd re; subst rd re
      exact op_eq pins s σ H _ _ v u Q I rx ry ⟨rfl, by rw [dec_str]; exact h.here S⟩
    · obtain ⟨p, e1, h⟩ := opt_some h
      obtain ⟨q, e2, h1, h⟩ := opt_some h
      exact op_eqM hu pins s σ H _ _ v u Q I rx ry ⟨p, q, toPyL_ok S rd e1, toPyL_ok S re e2, h1, by rw [Bool.false_xor]; exact h.here S⟩
  · split at h
    · simp only [Rep] at rd re; subst rd re
      exact op_ne pins s σ H _ _ v u Q I rx ry ⟨rfl, by rw [dec_int]; exact h.here S⟩
    · simp only [Rep] at rd re; subst rd re
      exact op_ne pins s σ H _ _ v u Q I rx ry ⟨rfl, by rw [dec_str]; exact h.here S⟩
    · obtain ⟨p, e1, h⟩ := opt_some h
      obtain ⟨q, e2, h1, h⟩ := opt_some h
      exact op_neM hu pins s σ H _ _ v u Q I rx ry ⟨p, q, toPyL_ok S rd e1, toPyL_ok S re e2, h1, by rw [Bool.true_xor]; exact h.here S⟩
  · split at h
    · simp only [Rep] at rd re; subst rd re
      exact op_lt pins s σ H _ _ v u Q I rx ry ⟨_, _, rfl, rfl, h.here S⟩
    · exact h.elim
  · split at h
    · simp only [Rep] at rd re; subst rd re
      exact op_le pins s σ H _ _ v u Q I rx ry ⟨_, _, rfl, rfl, h.here S⟩
    · exact h.elim
  · split at h
    · simp only [Rep] at rd re; subst rd re
      exact op_gt pins s σ H _ _ v u Q I rx ry ⟨_, _, rfl, rfl, h.here S⟩
    · exact h.elim
  · split at h
    · simp only [Rep] at rd re; subst rd re
      exact op_ge pins s σ H _ _ v u Q I rx ry ⟨_, _, rfl, rfl, h.here S⟩
    · exact h.elim
  · split at h
    · simp only [Rep] at rd re; subst rd re
      obtain ⟨c, rfl, h⟩ := h
      exact op_in_sign pins s σ H _ _ v u Q I rx ry ⟨c, _, rfl, rfl, h.here S⟩
    · split at h
      · rename_i o ho
        obtain ⟨a, w, rfl, g, e1, _⟩ := getDD_ok S re rd ho
        obtain rfl : u = Value.ref a := ry
        exact d_in (show X.A.units + 1 < cLine by omega) I g rx fun s' I' => ⟨.bl w.isSome, H, I', rfl, by rw [← e1]; exact h.here S⟩
      · obtain ⟨ys, e1, h1, h2, h⟩ := opt_some h
        obtain ⟨a, vs, rfl, hs, hr⟩ := asSeq_ok S re e1
        refine op_in_seq pins s σ H _ _ v u Q I rx ry ⟨a, vs, rfl, hs, flat_ok rd h1, flats_ok hr h2, ?_⟩
        rw [if_neg Bool.false_ne_true, ← anyF_ok rd h1 hr h2]
        exact h.here S
  · split at h
    · rename_i o ho
      obtain ⟨a, w, rfl, g, e1, _⟩ := getDD_ok S re rd ho
      obtain rfl : u = Value.ref a := ry
      exact d_notIn (show X.A.units + 1 < cLine by omega) I g rx fun s' I' => ⟨.bl (!w.isSome), H, I', rfl, by rw [← e1]; exact h.here S⟩
    · obtain ⟨ys, e1, h1, h2, h⟩ := opt_some h
      obtain ⟨a, vs, rfl, hs, hr⟩ := asSeq_ok S re e1
      refine op_notIn_seq pins s σ H _ _ v u Q I rx ry ⟨a, vs, rfl, hs, flat_ok rd h1, flats_ok hr h2, ?_⟩
      rw [if_pos rfl, ← anyF_ok rd h1 hr h2]
      exact h.here S
  · split at h
    · simp only [Rep] at rd re; subst rd re
      exact op_isN pins s σ H _ _ v u Q I rx ry ⟨rfl, by rw [decide_eq_true rfl]; exact h.here S⟩
    · rename_i hd
      simp only [Rep] at re; subst re
      refine op_isN pins s σ H _ _ v u Q I rx ry ⟨rfl, ?_⟩
      rw [decide_eq_false]
      · exact h.here S
      · rintro rfl
        exact hd rd.non_eq
    · simp only [Rep] at rd re; subst rd re
      exact op_isBl pins s σ H _ _ v u Q I rx ry ⟨_, _, rfl, rfl, by rw [← Bool.beq_eq_decide_eq]; exact h.here S⟩
    · exact h.elim
  · split at h
    · simp only [Rep] at rd re; subst rd re
      exact op_notN pins s σ H _ _ v u Q I rx ry ⟨rfl, by rw [decide_eq_true rfl]; exact h.here S⟩
    · rename_i hd
      simp only [Rep] at re; subst re
      refine op_notN pins s σ H _ _ v u Q I rx ry ⟨rfl, ?_⟩
      rw [decide_eq_false]
      · exact h.here S
      · rintro rfl
        exact hd rd.non_eq
    · simp only [Rep] at rd re; subst rd re
      exact op_notBl pins s σ H _ _ v u Q I rx ry ⟨_, _, rfl, rfl, by rw [← Bool.beq_eq_decide_eq]; exact h.here S⟩
    · exact h.elim
end
end MI

set_option maxRecDepth 100000
/-! MI, part 5: subscripts, slices, truth, built-ins, methods over the hand layer's rules. -/
namespace MI
open PySem PySem.Spec PyProof.Rows L2

/-! ### t[::-1] of a tuple -/
section
variable {prog : Program} {w : World} {A : Around} {E : Value → Shared → Prop} {s : Shared}
theorem adjust_rev (n : Nat) : Builtin.Slice.sliceAdjust none none (-1) (n : Int) = ((n : Int) - 1, -1) := by
  unfold Builtin.Slice.sliceAdjust
  simp
theorem places_rev (n : Nat) : Builtin.Slice.slicePlaces ((n : Int) - 1) (-1) (-1) = n := by
  unfold Builtin.Slice.slicePlaces
  have h1 : ¬ ((-1 : Int) > 0) := by omega
  have e : - (-1 : Int) = 1 := rfl
  simp only [h1, if_false, e, Int.ediv_one]
  split <;> omega
theorem sliceApplied_rev {sl : Addr} {vl vu vs : Value} {n : Nat} {Q : Int × Int × Nat → Shared → Prop} (hs : s.heap.IsSliceOf sl vl vu vs) (pl : IsPart vl none) (pu : IsPart vu none) (ps : IsPart vs (some (-1)))
    (h : Q (((n : Int) - 1), -1, n) s) : wpAny (model prog w) A (Builtin.Slice.sliceApplied (.ref sl) (pure (n : Int))) Q E s := by
  obtain ⟨os, hos, hcs, hds⟩ := id hs
  unfold Builtin.Slice.sliceApplied Builtin.Slice.sliceFields
  refine wpAny_bind (wpAny_bind (wpAny_field hos hds (x := vl) rfl (wpAny_bind (wpAny_field hos hds (x := vu) rfl (wpAny_bind (wpAny_field hos hds (x := vs) rfl (wpAny_pure ?_)))))))
  refine wpAny_bind (HT.slicePart_ ps ?_)
  show wpAny _ _ (if ((-1 : Int) == 0) = true then _ else _) _ _ s
  rw [if_neg (by decide)]
  refine wpAny_bind (HT.slicePart_ pl (wpAny_bind (HT.slicePart_ pu (wpAny_bind (wpAny_pure ?_)))))
  show wpAny _ _ (match Builtin.Slice.sliceAdjust none none (-1) (n : Int) with | (lo, hi) => pure (lo, (-1 : Int), Builtin.Slice.slicePlaces lo hi (-1))) _ _ s
  rw [adjust_rev n]
  show wpAny _ _ (pure ((n : Int) - 1, (-1 : Int), Builtin.Slice.slicePlaces ((n : Int) - 1) (-1) (-1))) _ _ s
  rw [places_rev]
  exact wpAny_pure h
theorem filterMap_rev (xs : List Value) : ∀ k : Nat, k ≤ xs.length → ((List.range k).filterMap fun (m : Nat) => xs[xs.length - 1 - m]?) = (xs.reverse).take k
  | 0, _ => rfl
  | k + 1, h => by
    rw [List.range_succ, List.filterMap_append, filterMap_rev xs k (by omega), List.take_add_one]
    congr 1
    rw [List.getElem?_reverse (by omega)]
    rw [List.getElem?_eq_getElem (by omega)]
    simp only [List.filterMap_cons, List.filterMap_nil, Option.toList]
    rw [List.getElem?_eq_getElem (by omega)]
theorem pick_rev (xs : Array Value) : ((List.range xs.size).filterMap fun (m : Nat) => xs[(((xs.size : Nat) : Int) - 1 + (m : Int) * (-1)).toNat]?).toArray = xs.toList.reverse.toArray := by
  congr 1
  have e := filterMap_rev xs.toList xs.size (by simp)
  rw [List.take_of_length_le (by simp)] at e
  rw [← e]
  have he : ∀ (l : List Nat), (∀ m ∈ l, m < xs.size) → (l.filterMap fun (m : Nat) => xs[(((xs.size : Nat) : Int) - 1 + (m : Int) * (-1)).toNat]?) = l.filterMap fun (m : Nat) => xs.toList[xs.toList.length - 1 - m]? := by
    intro l
    induction l with
    | nil => intro _; rfl
    | cons a l ih =>
      intro h
      have ha := h a List.mem_cons_self
      have e1 : (((xs.size : Nat) : Int) - 1 + (a : Int) * (-1)).toNat = xs.toList.length - 1 - a := by
        rw [Array.length_toList]; omega
      rw [List.filterMap_cons, List.filterMap_cons, ih fun m hm => h m (List.mem_cons_of_mem _ hm), e1, Array.getElem?_toList]
  exact he _ fun m hm => List.mem_range.mp hm
theorem getItem_tuple_rev {t sl : Addr} {items : Array Value} {vl vu vs : Value} {Q : Value → Shared → Prop} (ht : IsTup s.heap t items) (hs : s.heap.IsSliceOf sl vl vu vs) (pl : IsPart vl none) (pu : IsPart vu none) (ps : IsPart vs (some (-1)))
    (h : Q (.ref s.heap.objs.size) { s with heap := s.heap.push { cls := .type "tuple", data := .seq items.toList.reverse.toArray } })
    (hsz : items.size ≤ sizeLine) : wpAny (model prog w) A (getItem (.ref t) (.ref sl)) Q E s := by
  have htake : sizeOk (.seq items.toList.reverse.toArray) := by
    show items.toList.reverse.toArray.size ≤ sizeLine
    rw [List.size_toArray, List.length_reverse, Array.length_toList]
    exact hsz
  obtain ⟨os, hos, hcs, hds⟩ := id hs
  have hTs : s.TypeIs (.ref sl) "slice" := ⟨os, hos, hcs⟩
  unfold getItem
  try with_reducible refine wpAny_holding ?_
  first | refine wpAny_bind (wpAny_pure ?_) | skip
  refine wpAny_bind (wpAny_sequenceKey ht.typeIs (by decide) ?_)
  refine wpAny_bind (wpAny_callSpecial?_slot (name := Str.ofString "__getitem__") ht.typeIs PyProof.Rows.slot_tuple_getitem
    (wpAny_call_entry PyProof.Rows.slot_tuple_getitem ht.typeIs entry_tuple_getitem ?_ (args_tuple_getitem _ _)))
  show wpAny _ _ (Builtin.Tuple.tupleItemsOf (.ref t) >>= _) _ _ s
  refine wpAny_bind (tupleItemsOf_ ht ?_)
  refine wpAny_bind (wpAny_typeOf hTs ?_)
  rw [if_pos (by decide)]
  refine wpAny_bind (sliceApplied_rev hs pl pu ps ?_)
  have hno : ¬ (((((items.size : Nat) : Int) - 1) == 0 && (-1 : Int) == 1 && items.size == items.size) = true) := by
    intro q
    rw [Bool.and_eq_true, Bool.and_eq_true] at q
    exact absurd q.1.2 (by decide)
  show wpAny _ _ (if ((((items.size : Nat) : Int) - 1) == 0 && (-1 : Int) == 1 && items.size == items.size) = true then _ else _) _ _ s
  rw [if_neg hno, pick_rev]
  first
    | exact wpAny_bind (m := Builtin.Tuple.tupleExact _) (wpAny_newObj_type (wpAny_pure ⟨_, rfl, wpAny_pure h⟩) htake)
    | exact wpAny_bind (m := Builtin.Tuple.tupleExact _) (wpAny_newObj_type (wpAny_bind (wpAny_pure (wpAny_pure ⟨_, rfl, wpAny_pure h⟩))) htake)
    | exact wpAny_bind (wpAny_bind (m := Builtin.Tuple.tupleExact _) (wpAny_newObj_type (wpAny_pure (wpAny_pure ⟨_, rfl, wpAny_pure h⟩)) htake))
    | exact wpAny_bind (wpAny_bind (m := Builtin.Tuple.tupleExact _) (wpAny_newObj_type (wpAny_pure ⟨_, rfl, wpAny_pure h⟩) htake))
end

section
variable {X : Cx} {C : Nat → Addr}
/-! ### a[::-1] -/
def tRevA (K : PySem.W.Frag) (te : TE) : TE := fun σ H Q => te σ H fun x H1 => ∃ a xs, x = .ref a ∧ ((SqL K H1 a xs ∧ ∀ p, H1 p = none → Q (.ref p) (upd H1 p (.lst xs.reverse))) ∨ (SqT K H1 a xs ∧ ∀ p, H1 p = none → Q (.ref p) (upd H1 p (.tup xs.reverse))))
theorem pe_revA {e : Expr} {te : TE} {k : Nat} {p1 p2 p3 pos : Pos} (he : PE X e te) : PE X (.Subscript e (.Slice none none (some (.UnaryOp .USub (.Constant (.int 1) k p1) p2)) p3) pos) (tRevA X.K te) := by
  refine ⟨fun pins s σ H Q I h => ?_⟩
  refine Subscript_ (thn (he.run pins s σ H _ I h) fun v s1 ⟨x, H1, I1, r1, q1⟩ => ?_)
  obtain ⟨a, xs, ex, hx⟩ := q1
  subst ex
  cases r1
  have hst : PO X (some (.UnaryOp .USub (.Constant (.int 1) k p1) p2)) (tPart (tUn (rU fun i => .int (-i)) (tC (.int 1)))) := po_some (pe_un un_neg pe_int)
  refine wpAny_Slice (thn (po_none.run pins s1 σ H1 (fun o H2 => o = none ∧ H2 = H1) I1 ⟨rfl, rfl⟩) fun vl s2 ⟨l, H2, I2, pl, el, e2⟩ => ?_)
  subst el e2
  refine thn (po_none.run pins s2 σ H2 (fun o H3 => o = none ∧ H3 = H2) I2 ⟨rfl, rfl⟩) fun vu s3 ⟨u, H3, I3, pu, eu, e3⟩ => ?_
  subst eu e3
  refine thn (hst.run pins s3 σ H3 (fun o H4 => o = some (-1) ∧ H4 = H3) I3 ⟨1, rfl, -1, rfl, rfl, rfl⟩) fun vs s4 ⟨o, H4, I4, ps, eo, e4⟩ => ?_
  subst eo e4
  have I5 : Inv X pins σ H4 { s4 with heap := s4.heap.push { cls := .type "slice", data := .fields #[vl, vu, vs] } } := I4.kept (t' := s4.toks) fun b ob q => Heap.get?_push_of_some _ q
  show wpAny (model X.prog X.w) X.A (subscriptTail e (.Slice none none (some (.UnaryOp .USub (.Constant (.int 1) k p1) p2)) p3) (.ref a) (.ref s4.heap.objs.size)) (EP X pins σ Q) X.xe { s4 with heap := s4.heap.push { cls := .type "slice", data := .fields #[vl, vu, vs] } }
  rcases hx with ⟨hx, q⟩ | ⟨hx, q⟩
  · obtain ⟨its, r, ht, hz⟩ := I5.list hx
    have hlen := r.length
    refine tail_any (ops := [.ref a, .ref s4.heap.objs.size]) ht.isList.typeIs (PySem.slot_list_getitem.lookup) ?_ (by with_unfolding_all rfl)
    refine wpAny_getItem_list_slice ht.isList (Heap.IsSliceOf.new _ vl vu vs) pl pu ps (by decide) ?_ (by rw [List.size_toArray]; omega)
    rw [PySem.W.krv_pick]
    refine ⟨.ref _, _, I5.laid (t' := s4.toks) (o := .lst xs.reverse) (fun b ob q => Heap.get?_push_of_some _ q) (Nat.le_refl _) ?_, rfl, q _ (I5.hok.fresh (Nat.le_refl _))⟩
    exact ⟨by rw [List.length_reverse]; exact hz, _, 0, r.reverse, Heap.get?_push_size _ rfl⟩
  · obtain ⟨its, r, ht, hz⟩ := I5.tuple hx
    have hlen := r.length
    refine tail_any (ops := [.ref a, .ref s4.heap.objs.size]) ht.typeIs (PyProof.Rows.slot_tuple_getitem.lookup) ?_ (by with_unfolding_all rfl)
    refine getItem_tuple_rev ht (Heap.IsSliceOf.new _ vl vu vs) pl pu ps ?_ (by rw [List.size_toArray]; omega)
    refine ⟨.ref _, _, I5.laid (t' := s4.toks) (o := .tup xs.reverse) (fun b ob q => Heap.get?_push_of_some _ q) (Nat.le_refl _) ?_, rfl, q _ (I5.hok.fresh (Nat.le_refl _))⟩
    exact ⟨by rw [List.length_reverse]; exact hz, _, r.reverse, IsTup.new _ _⟩

/-! ### subscripts, slices -/
theorem atI_rep {K : PySem.W.Frag} {H : Hp} {ι : Io} {xs : List D} {vs : List V} {i : Int} {d : D} (r : Reps K C H ι xs vs) (h : atI xs i = some d) : ∃ v, atI vs i = some v ∧ Rep K C H ι d v := by
  unfold atI at h ⊢
  rw [← r.length]
  cases q : ixN xs.length i with
  | none => rw [q] at h; cases h
  | some j =>
    rw [q] at h
    exact r.get (i := j) h
def rIxKi (K : PySem.W.Frag) : R2 := fun x y H Q => ∃ p i kvs r, x = .ref p ∧ y = .int i ∧ KDi K p kvs ∧ kvs.lookup i = some r ∧ Q (.int r) H
theorem ix_kdi : IxR X (rIxKi X.K) := by
  intro value slice pins s σ H x y v u Q I rx ry h hs
  obtain ⟨p, i, kvs, r, rfl, rfl, ⟨es, n, hl, hk, hf⟩, e, q⟩ := h
  obtain rfl : v = Value.ref p := rx
  obtain ⟨t, rfl⟩ := ry
  obtain ⟨t2, e2⟩ := hf i r e
  have hm : s.heap.MapOf (PySem.intKind X.prog X.w) p (fun k => findBy Value.isInt es k) :=
    ⟨_, es, n, I.kIn _ _ hl, ⟨rfl, rfl, rfl⟩, rfl, fun e he => by
      obtain ⟨x, t, e1, e2⟩ := hk e (Array.mem_toList_iff.mpr he)
      exact ⟨x, by rw [e1]; exact intKind_is _ _ _ _, e2⟩, fun _ => rfl⟩
  exact tail_any hm.typeIs slot_dict_getitem.lookup (wpAny_getItem_of (intKind_is X.prog X.w i t) hm e2 ⟨.int r, H, I.tok _, ⟨_, rfl⟩, q⟩) hs
theorem idx_ok (hu : X.A.units + 1 < cLine) : IxR X (rD2 X.K C idxD) := by
  intro value slice pins s σ H x y v u Q I rx ry h hs
  obtain ⟨ι, st, d, e, S, rd, re, h⟩ := h
  unfold idxD at h
  split at h
  · simp only [Rep] at rd re; subst rd re
    obtain ⟨c, e1, h2⟩ := opt_some h.2
    exact ix_str value slice pins s σ H _ _ v u Q I rx ry ⟨_, _, c, rfl, rfl, h.1, e1, h2.here S rep_str⟩ hs
  · simp only [Rep] at rd re; subst re
    obtain ⟨a, rfl, hk⟩ := rd
    obtain ⟨x, e1, h⟩ := opt_some h
    exact ix_kdi value slice pins s σ H _ _ v u Q I rx ry ⟨a, _, _, _, rfl, rfl, hk, e1, h.here S rep_int⟩ hs
  · split at h
    · rename_i kvs hq
      obtain ⟨k, e1, h⟩ := opt_some h
      obtain ⟨d', e2, h⟩ := opt_some h
      obtain ⟨a, kw, rfl, h1, h2⟩ := objK_ok S rd hq
      obtain rfl := keyOf_ok re e1
      obtain ⟨w, e3, rw'⟩ := (h2.val k).1 _ e2
      obtain rfl : v = Value.ref a := rx
      have g : DGet H a (kV k) (some w) := by rw [← e3]; exact .k h1
      exact tail_any (dict_typeIs I g) slot_dict_getitem.lookup (d_getItem hu I g ry fun w' s' I' r' => ⟨w, H, I', r', h.here S rw'⟩) hs
    · rename_i kvs hq
      obtain ⟨k, e1, h⟩ := opt_some h
      obtain ⟨d', e2, h⟩ := opt_some h
      obtain ⟨a, kw, rfl, h1, h2⟩ := objT_ok S rd hq
      obtain ⟨b, rfl, hb⟩ := tkeyOf_ok re e1
      obtain ⟨w, e3, rw'⟩ := (h2.val k).1 _ e2
      obtain rfl : v = Value.ref a := rx
      have g : DGet H a (.ref b) (some w) := by rw [← e3]; exact .t h1 hb
      exact tail_any (dict_typeIs I g) slot_dict_getitem.lookup (d_getItem hu I g ry fun w' s' I' r' => ⟨w, H, I', r', h.here S rw'⟩) hs
    · split at h
      · simp only [Rep] at re; subst re
        obtain ⟨xs, e1, h⟩ := opt_some h
        obtain ⟨d', e2, h⟩ := opt_some h
        obtain ⟨a, vs, rfl, hq, hr⟩ := asSeq_ok S rd e1
        obtain ⟨w, e3, rw'⟩ := atI_rep hr e2
        rcases hq with hq | hq
        · exact ix_list value slice pins s σ H _ _ v u Q I rx ry ⟨a, vs, _, w, rfl, rfl, hq, e3, h.here S rw'⟩ hs
        · exact ix_tup value slice pins s σ H _ _ v u Q I rx ry ⟨a, vs, _, w, rfl, rfl, hq, e3, h.here S rw'⟩ hs
      · exact h.elim
theorem cut_rep {K : PySem.W.Frag} {H : Hp} {ι : Io} {xs : List D} {vs : List V} (lo hi : Option Int) (r : Reps K C H ι xs vs) : Reps K C H ι (cutD xs lo hi) (cutV vs lo hi) := by
  unfold cutD cutV
  rw [r.length]
  exact (r.drop _).take _
def rSlD (K : PySem.W.Frag) (C : Nat → Addr) (m : Bool) : V → Option Int → Option Int → Hp → VK → Prop := fun x lo hi H Q => ∃ ι st d, Sim K C H ι st ∧ Rep K C H ι d x ∧ slcD m d lo hi st (Post K C H ι Q)
theorem slc_ok (m : Bool) : SlR X (rSlD X.K C m) := by
  intro pins s σ H x v vl vu lo hi sl Q I rx hs pl pu h
  obtain ⟨ι, st, d, S, rd, h⟩ := h
  unfold slcD at h
  split at h
  · obtain ⟨a, vs, rfl, h1, h2⟩ := tup_ok rd
    refine sl_tupA pins s σ H _ v vl vu lo hi sl Q I rx hs pl pu ⟨a, vs, rfl, h1, fun z => ?_, fun _ => tup_new S (cut_rep lo hi h2) h⟩
    rename_i xs
    have e : cutD xs lo hi = xs := by
      unfold cutD
      rw [h2.length, z.1, z.2, List.drop_zero, Nat.sub_zero, List.take_of_length_le (Nat.le_of_eq h2.length)]
    rw [e] at h
    exact h.here S rd
  · simp only [Rep] at rd; subst rd
    exact sl_str pins s σ H _ v vl vu lo hi sl Q I rx hs pl pu ⟨_, rfl, h.1, h.2.here S rep_str⟩
  · obtain ⟨xs, e1, h⟩ := opt_some h
    obtain ⟨a, vs, rfl, h1, h2⟩ := asR_ok S rd e1
    exact sl_list pins s σ H _ v vl vu lo hi sl Q I rx hs pl pu ⟨a, vs, rfl, h1, new_ok S (cut_rep lo hi h2) h⟩
/-- xs[i] = v -/
def rSetD (K : PySem.W.Frag) (C : Nat → Addr) : V → V → V → Hp → (Hp → Prop) → Prop := fun o i v H Q => ∃ ι st d e f, Sim K C H ι st ∧ Rep K C H ι d o ∧ Rep K C H ι e i ∧ Rep K C H ι f v ∧ setD d e f st fun st' => ∀ H' ι', Ext H ι H' ι' → Sim K C H' ι' st' → Q H'
theorem loc_lst {K : PySem.W.Frag} {H : Hp} {ι : Io} {st : Sto} {n : Nat} {v : V} {xs : List D} (S : Sim K C H ι st) (r : Rep K C H ι (.loc n) v) (h : st[n]? = some (.lst xs)) : ∃ a vs, v = .ref a ∧ ι.l[n]? = some a ∧ H a = some (.lst vs) ∧ Reps K C H ι xs vs := by
  simp only [Rep] at r
  obtain ⟨a, rfl, ha⟩ := r
  obtain ⟨o, h1, h2⟩ := S.at_ _ _ _ h ha
  unfold RepO at h2
  split at h2
  · rename_i e; cases e; exact ⟨a, _, rfl, ha, h1, h2⟩
  all_goals first | (rename_i e; cases e; done) | exact h2.elim
theorem ixN_lt {n : Nat} {i : Int} {j : Nat} (h : ixN n i = some j) : j < n := (ixN_seq h).2.1
theorem loc_dK {K : PySem.W.Frag} {H : Hp} {ι : Io} {st : Sto} {n : Nat} {v : V} {xs : List (Key × D)} (S : Sim K C H ι st) (r : Rep K C H ι (.loc n) v) (h : st[n]? = some (.dK xs)) : ∃ a vs, v = .ref a ∧ ι.l[n]? = some a ∧ H a = some (.dK vs) ∧ RepG (Rep K C H ι) xs vs := by
  simp only [Rep] at r
  obtain ⟨a, rfl, ha⟩ := r
  obtain ⟨o, h1, h2⟩ := S.at_ _ _ _ h ha
  unfold RepO at h2
  split at h2
  case h_2 => rename_i e; cases e; exact ⟨a, _, rfl, ha, h1, RepK_iff.mp h2⟩
  all_goals first | (rename_i e; cases e; done) | exact h2.elim
theorem loc_dT {K : PySem.W.Frag} {H : Hp} {ι : Io} {st : Sto} {n : Nat} {v : V} {xs : List (List Key × D)} (S : Sim K C H ι st) (r : Rep K C H ι (.loc n) v) (h : st[n]? = some (.dT xs)) : ∃ a vs, v = .ref a ∧ ι.l[n]? = some a ∧ H a = some (.dT vs) ∧ RepG (Rep K C H ι) xs vs := by
  simp only [Rep] at r
  obtain ⟨a, rfl, ha⟩ := r
  obtain ⟨o, h1, h2⟩ := S.at_ _ _ _ h ha
  unfold RepO at h2
  split at h2
  case h_3 => rename_i e; cases e; exact ⟨a, _, rfl, ha, h1, RepT_iff.mp h2⟩
  all_goals first | (rename_i e; cases e; done) | exact h2.elim
theorem set_ok (hu : X.A.units + 1 < cLine) : PSet X (rSetD X.K C) := by
  intro pins s σ H o i v ov iv u Q I ro ri rv h
  obtain ⟨ι, st, d, e, f, S, rd, re, rf, h⟩ := h
  unfold setD at h
  split at h
  · split at h
    · rename_i n _ xs hn
      split at h
      · rename_i k
        simp only [Rep] at re; subst re
        obtain ⟨j, e1, h⟩ := opt_some h
        obtain ⟨a, vs, rfl, ha, h1, h2⟩ := loc_lst S rd hn
        refine set_list pins s σ H _ _ v ov iv u Q I ro ri rv ⟨a, vs, k, j, rfl, rfl, h1, by rw [← h2.length]; exact e1, ?_⟩
        obtain ⟨ex, S'⟩ := S.write (d := .lst (xs.set j f)) (o := .lst (vs.set j v)) ha (by simpa only [RepO] using Reps.set rf j h2)
        exact h _ _ ex S'
      · exact h.elim
    · rename_i n _ kvs hn
      obtain ⟨k, e1, hz, h⟩ := opt_some h
      obtain ⟨a, kw, rfl, ha, h1, h2⟩ := loc_dK S rd hn
      obtain rfl := keyOf_ok re e1
      obtain rfl : ov = Value.ref a := ro
      have hl := h2.length
      obtain ⟨ex, S'⟩ := S.write (d := .dK (putD kvs k f)) (o := .dK (putK kw k v)) ha (by simpa only [RepO] using RepK_iff.mpr (h2.put k rf))
      exact d_setItem hu I (.k h1 (by omega)) ri rv fun s' I' => ⟨_, I', h _ _ ex S'⟩
    · rename_i n _ kvs hn
      obtain ⟨k, e1, hz, h⟩ := opt_some h
      obtain ⟨a, kw, rfl, ha, h1, h2⟩ := loc_dT S rd hn
      obtain ⟨b, rfl, hb⟩ := tkeyOf_ok re e1
      obtain rfl : ov = Value.ref a := ro
      have hl := h2.length
      obtain ⟨ex, S'⟩ := S.write (d := .dT (putD kvs k f)) (o := .dT (putK kw k v)) ha (by simpa only [RepO] using RepT_iff.mpr (h2.put k rf))
      exact d_setItem hu I (.t h1 hb (by omega)) ri rv fun s' I' => ⟨_, I', h _ _ ex S'⟩
    · exact h.elim
  · exact h.elim
/-! ### truth -/
theorem tru_okD : TruR X (fun x H Q => ∃ ι st d, Sim X.K C H ι st ∧ Rep X.K C H ι d x ∧ truD d st (PostB X.K C H ι Q)) := by
  intro pins s σ H x v Q I rx h
  obtain ⟨ι, st, d, S, rd, h⟩ := h
  unfold truD at h
  split at h
  · simp only [Rep] at rd; subst rd
    exact tru_ok pins s σ H _ v Q I rx ⟨false, rfl, h.here S⟩
  · simp only [Rep] at rd; subst rd
    exact tru_ok pins s σ H _ v Q I rx ⟨_, rfl, h.here S⟩
  · simp only [Rep] at rd; subst rd
    exact tru_ok pins s σ H _ v Q I rx ⟨_, rfl, h.here S⟩
  · simp only [Rep] at rd; subst rd
    exact tru_ok pins s σ H _ v Q I rx ⟨_, ⟨h.1, rfl⟩, h.2.here S⟩
  · obtain ⟨xs, e1, h⟩ := opt_some h
    obtain ⟨a, vs, rfl, hq, hr⟩ := asSeq_ok S rd e1
    have e : (!xs.isEmpty) = !vs.isEmpty := by
      have := hr.length
      cases xs <;> cases vs <;> first | rfl | (simp at this)
    rcases hq with hq | hq
    · exact tru_ok pins s σ H _ v Q I rx ⟨_, .inl ⟨vs, hq, e⟩, h.here S⟩
    · exact tru_ok pins s σ H _ v Q I rx ⟨_, .inr (.inl ⟨vs, hq, e⟩), h.here S⟩
/-! ### built-ins -/
def rBl (K : PySem.W.Frag) (C : Nat → Addr) (b : Blt) (m : Bool) : List V → Hp → VK → Prop := fun vs H Q => ∃ ι st ds, Sim K C H ι st ∧ Reps K C H ι ds vs ∧ bltD b m ds st (Post K C H ι Q)
theorem reps1 {K : PySem.W.Frag} {H : Hp} {ι : Io} {d : D} {vs : List V} (r : Reps K C H ι [d] vs) : ∃ v, vs = [v] ∧ Rep K C H ι d v := by
  obtain ⟨v, r', rfl, h1, h2⟩ := Reps.cons_iff.mp r
  rw [Reps.nil_iff] at h2; subst h2
  exact ⟨v, rfl, h1⟩
theorem reps2 {K : PySem.W.Frag} {H : Hp} {ι : Io} {d e : D} {vs : List V} (r : Reps K C H ι [d, e] vs) : ∃ v u, vs = [v, u] ∧ Rep K C H ι d v ∧ Rep K C H ι e u := by
  obtain ⟨v, r', rfl, h1, h2⟩ := Reps.cons_iff.mp r
  obtain ⟨u, rfl, h3⟩ := reps1 h2
  exact ⟨v, u, rfl, h1, h3⟩
theorem len_ok (m : Bool) : CallR X (.builtin "len") (rBl X.K C .len m) := by
  intro pins s σ H xs us Q I r h
  obtain ⟨ι, st, ds, S, rs, h⟩ := h
  unfold bltD at h
  split at h
  case h_1 d hb =>
    obtain ⟨v, rfl, rd⟩ := reps1 rs
    obtain ⟨n, e1, h⟩ := opt_some h
    unfold lenD at e1
    split at e1
    · simp only [Rep] at rd; subst rd
      split at e1
      · cases e1
        exact call_len_str pins s σ H _ us Q I r ⟨_, rfl, by assumption, h.here S rep_int⟩
      · cases e1
    · cases e : asSeq st d with
      | none => rw [e] at e1; cases e1
      | some ys =>
        rw [e] at e1; cases e1
        obtain ⟨a, vs, rfl, hq, hr⟩ := asSeq_ok S rd e
        exact call_len_seq pins s σ H _ us Q I r ⟨a, vs, rfl, hq, by rw [← hr.length]; exact h.here S rep_int⟩
  all_goals first | exact h.elim | (rename_i z; cases z; done) | (rename_i z _; cases z; done)
theorem int_ok (m : Bool) : CallR X (.type "int") (rBl X.K C .int m) := by
  intro pins s σ H xs us Q I r h
  obtain ⟨ι, st, ds, S, rs, h⟩ := h
  unfold bltD at h
  split at h
  case h_2 d hb =>
    obtain ⟨v, rfl, rd⟩ := reps1 rs
    simp only [Rep] at rd; subst rd
    exact call_int1 pins s σ H _ us Q I r (.inl ⟨_, rfl, h.here S rep_int⟩)
  case h_3 d hb =>
    obtain ⟨v, rfl, rd⟩ := reps1 rs
    simp only [Rep] at rd; subst rd
    exact call_int1 pins s σ H _ us Q I r (.inr ⟨_, rfl, h.here S rep_int⟩)
  all_goals first | exact h.elim | (rename_i z; cases z; done) | (rename_i z _; cases z; done)
theorem list_ok (m : Bool) : CallR X (.type "list") (rBl X.K C .list m) := by
  intro pins s σ H xs us Q I r h
  obtain ⟨ι, st, ds, S, rs, h⟩ := h
  unfold bltD at h
  split at h
  case h_4 d hb =>
    obtain ⟨v, rfl, rd⟩ := reps1 rs
    obtain ⟨ys, e1, h⟩ := opt_some h
    obtain ⟨a, vs, rfl, hq, hr⟩ := asSeq_ok S rd e1
    exact call_list_of pins s σ H _ us Q I r ⟨a, vs, rfl, hq, new_ok S hr h⟩
  all_goals first | exact h.elim | (rename_i z; cases z; done) | (rename_i z _; cases z; done)
theorem tuple_ok (m : Bool) : CallR X (.type "tuple") (rBl X.K C .tuple m) := by
  intro pins s σ H xs us Q I r h
  obtain ⟨ι, st, ds, S, rs, h⟩ := h
  unfold bltD at h
  split at h
  case h_5 d hb =>
    obtain ⟨v, rfl, rd⟩ := reps1 rs
    obtain ⟨ys, e1, h⟩ := opt_some h
    unfold asSeq at e1
    split at e1
    · cases e1
      obtain ⟨a, vs, rfl, h1, h2⟩ := tup_ok rd
      exact call_tuple_of pins s σ H _ us Q I r ⟨a, vs, rfl, .inr ⟨h1, h.here S rd⟩⟩
    · obtain ⟨a, vs, rfl, h1, h2⟩ := asR_ok S rd e1
      exact call_tuple_of pins s σ H _ us Q I r ⟨a, vs, rfl, .inl ⟨h1, tup_new S h2 h⟩⟩
  all_goals first | exact h.elim | (rename_i z; cases z; done) | (rename_i z _; cases z; done)
theorem sorted_ok (m : Bool) : CallR X (.builtin "sorted") (rBl X.K C .sorted m) := by
  intro pins s σ H xs us Q I r h
  obtain ⟨ι, st, ds, S, rs, h⟩ := h
  unfold bltD at h
  split at h
  case h_11 d hb =>
    obtain ⟨v, rfl, rd⟩ := reps1 rs
    obtain ⟨ys, e1, h⟩ := opt_some h
    obtain ⟨ns, e2, h⟩ := opt_some h
    obtain ⟨a, vs, rfl, hq, hr⟩ := asSeq_ok S rd e1
    rw [ints?_ok e2, Reps.ints] at hr
    subst hr
    rcases hq with hq | hq
    · exact cr_sortedI pins s σ H _ us Q I r ⟨a, ns, rfl, hq, fun ns' p h1 h2 hp => new_ok S (Reps.ints.mpr rfl) (h ns' h1 h2) p hp⟩
    · exact cr_sortedTI pins s σ H _ us Q I r ⟨a, ns, rfl, hq, fun ns' p h1 h2 hp => new_ok S (Reps.ints.mpr rfl) (h ns' h1 h2) p hp⟩
  all_goals first | exact h.elim | (rename_i z; cases z; done) | (rename_i z _; cases z; done)
theorem str_ok (m : Bool) : CallR X (.type "str") (rBl X.K C .str m) := by
  intro pins s σ H xs us Q I r h
  obtain ⟨ι, st, ds, S, rs, h⟩ := h
  unfold bltD at h
  split at h
  case h_13 d hb =>
    obtain ⟨v, rfl, rd⟩ := reps1 rs
    simp only [Rep] at rd; subst rd
    exact call_str_int pins s σ H _ us Q I r ⟨_, rfl, h.1, h.2.here S rep_str⟩
  all_goals first | exact h.elim | (rename_i z; cases z; done) | (rename_i z _; cases z; done)
theorem sum_ok (hc : X.calm = true) (m : Bool) : CallR X (.builtin "sum") (rBl X.K C .sum m) := by
  intro pins s σ H xs us Q I r h
  obtain ⟨ι, st, ds, S, rs, h⟩ := h
  unfold bltD at h
  split at h
  case h_6 d hb =>
    obtain ⟨v, rfl, rd⟩ := reps1 rs
    obtain ⟨ys, e1, h⟩ := opt_some h
    obtain ⟨ns, e2, h⟩ := opt_some h
    obtain ⟨a, vs, rfl, hq, hr⟩ := asR_ok S rd e1
    rw [ints?_ok e2, Reps.ints] at hr
    subst hr
    exact cr_sum hc pins s σ H _ us Q I r ⟨a, ns, rfl, hq, h.here S rep_int⟩
  all_goals first | exact h.elim | (rename_i z; cases z; done) | (rename_i z _; cases z; done)
theorem max2_ok (hc : X.calm = true) (m : Bool) : CallR X (.builtin "max") (rBl X.K C .max2 m) := by
  intro pins s σ H xs us Q I r h
  obtain ⟨ι, st, ds, S, rs, h⟩ := h
  unfold bltD at h
  split at h
  case h_7 d hb =>
    obtain ⟨v, u, rfl, rd, re⟩ := reps2 rs
    simp only [Rep] at rd re; subst rd re
    exact call_max2 hc pins s σ H _ us Q I r ⟨_, _, rfl, h.here S rep_int⟩
  all_goals first | exact h.elim | (rename_i z; cases z; done) | (rename_i z _; cases z; done)
theorem min2_ok (hc : X.calm = true) (m : Bool) : CallR X (.builtin "min") (rBl X.K C .min2 m) := by
  intro pins s σ H xs us Q I r h
  obtain ⟨ι, st, ds, S, rs, h⟩ := h
  unfold bltD at h
  split at h
  case h_8 d hb =>
    obtain ⟨v, u, rfl, rd, re⟩ := reps2 rs
    simp only [Rep] at rd re; subst rd re
    exact call_min2 hc pins s σ H _ us Q I r ⟨_, _, rfl, h.here S rep_int⟩
  all_goals first | exact h.elim | (rename_i z; cases z; done) | (rename_i z _; cases z; done)
theorem any_ok (hc : X.calm = true) (m : Bool) : CallR X (.builtin "any") (rBl X.K C .any m) := by
  intro pins s σ H xs us Q I r h
  obtain ⟨ι, st, ds, S, rs, h⟩ := h
  unfold bltD at h
  split at h
  case h_9 d hb =>
    obtain ⟨v, rfl, rd⟩ := reps1 rs
    obtain ⟨ys, e1, h⟩ := opt_some h
    obtain ⟨ns, e2, h⟩ := opt_some h
    obtain ⟨a, vs, rfl, hq, hr⟩ := asR_ok S rd e1
    rw [bls?_ok e2, Reps.bls] at hr
    subst hr
    exact cr_any hc pins s σ H _ us Q I r ⟨a, ns, rfl, hq, h.here S rep_bl⟩
  all_goals first | exact h.elim | (rename_i z; cases z; done) | (rename_i z _; cases z; done)
theorem all_ok (hc : X.calm = true) (m : Bool) : CallR X (.builtin "all") (rBl X.K C .all m) := by
  intro pins s σ H xs us Q I r h
  obtain ⟨ι, st, ds, S, rs, h⟩ := h
  unfold bltD at h
  split at h
  case h_10 d hb =>
    obtain ⟨v, rfl, rd⟩ := reps1 rs
    obtain ⟨ys, e1, h⟩ := opt_some h
    obtain ⟨ns, e2, h⟩ := opt_some h
    obtain ⟨a, vs, rfl, hq, hr⟩ := asR_ok S rd e1
    rw [bls?_ok e2, Reps.bls] at hr
    subst hr
    exact cr_all hc pins s σ H _ us Q I r ⟨a, ns, rfl, hq, h.here S rep_bl⟩
  all_goals first | exact h.elim | (rename_i z; cases z; done) | (rename_i z _; cases z; done)
/-! ### methods of lists -/
def rMt (K : PySem.W.Frag) (C : Nat → Addr) (b : Mth) : V → List V → Hp → VK → Prop := fun x vs H Q => ∃ ι st o ds, Sim K C H ι st ∧ Rep K C H ι o x ∧ Reps K C H ι ds vs ∧ mthD b o ds st (Post K C H ι Q)
theorem append_ok : MtR X "list.append" (rMt X.K C .append) := by
  intro pins s σ H x xs v us Q I rx rxs h
  obtain ⟨ι, st, o, ds, S, ro, rs, h⟩ := h
  unfold mthD at h
  split at h
  case h_1 n d hb =>
    split at h
    · rename_i ys hn
      obtain ⟨w, rfl, rd⟩ := reps1 rs
      obtain ⟨a, vs, rfl, ha, h1, h2⟩ := loc_lst S ro hn
      have hl := h2.length
      obtain ⟨ex, S'⟩ := S.write (d := .lst (ys ++ [d])) (o := .lst (vs ++ [w])) ha (by simpa only [RepO] using Reps.append h2 (Reps.one rd))
      exact mt_append pins s σ H _ _ v us Q I rx rxs ⟨a, vs, w, rfl, rfl, h1, by omega, h.2 _ _ _ ex S' rep_non⟩
    · exact h.elim
  all_goals first | exact h.elim | (rename_i z; cases z; done) | (rename_i z _; cases z; done)
theorem pop0_ok : MtR X "list.pop" (rMt X.K C .pop0) := by
  intro pins s σ H x xs v us Q I rx rxs h
  obtain ⟨ι, st, o, ds, S, ro, rs, h⟩ := h
  unfold mthD at h
  split at h
  case h_2 n hb =>
    split at h
    · rename_i ys hn
      rw [Reps.nil_iff] at rs; subst rs
      obtain ⟨y, e1, h⟩ := opt_some h
      obtain ⟨a, vs, rfl, ha, h1, h2⟩ := loc_lst S ro hn
      obtain ⟨w, e2, rw'⟩ := h2.get e1
      rw [h2.length] at e2
      obtain ⟨ex, S'⟩ := S.write (d := .lst ys.dropLast) (o := .lst vs.dropLast) ha (by simpa only [RepO] using h2.dropLast)
      exact mt_pop pins s σ H _ _ v us Q I rx rxs ⟨a, vs, w, rfl, rfl, h1, e2, h _ _ _ ex S' (rw'.mono ex)⟩
    · exact h.elim
  all_goals first | exact h.elim | (rename_i z; cases z; done) | (rename_i z _; cases z; done)
theorem pop1_ok : MtR X "list.pop" (rMt X.K C .pop1) := by
  intro pins s σ H x xs v us Q I rx rxs h
  obtain ⟨ι, st, o, ds, S, ro, rs, h⟩ := h
  unfold mthD at h
  split at h
  case h_3 n i hb =>
    split at h
    · rename_i ys hn
      obtain ⟨u, rfl, ru⟩ := reps1 rs
      simp only [Rep] at ru; subst ru
      obtain ⟨b1, b2, h⟩ := h
      obtain ⟨k, e0, h⟩ := opt_some h
      obtain ⟨y, e1, h⟩ := opt_some h
      obtain ⟨a, vs, rfl, ha, h1, h2⟩ := loc_lst S ro hn
      obtain ⟨w, e2, rw'⟩ := h2.get e1
      obtain ⟨ex, S'⟩ := S.write (d := .lst (ys.eraseIdx k)) (o := .lst (vs.eraseIdx k)) ha (by simpa only [RepO] using h2.eraseIdx k)
      exact mt_popAt pins s σ H _ _ v us Q I rx rxs ⟨a, vs, i, k, w, rfl, rfl, h1, b1, b2, by rw [← h2.length]; exact e0, e2, h _ _ _ ex S' (rw'.mono ex)⟩
    · exact h.elim
  all_goals first | exact h.elim | (rename_i z; cases z; done) | (rename_i z _; cases z; done)
theorem extend_ok : MtR X "list.extend" (rMt X.K C .extend) := by
  intro pins s σ H x xs v us Q I rx rxs h
  obtain ⟨ι, st, o, ds, S, ro, rs, h⟩ := h
  unfold mthD at h
  split at h
  case h_4 n zs hb =>
    split at h
    · rename_i ys hn
      obtain ⟨u, rfl, ru⟩ := reps1 rs
      obtain ⟨hz, h⟩ := h
      obtain ⟨a, vs, rfl, ha, h1, h2⟩ := loc_lst S ro hn
      obtain ⟨b, ws, rfl, h3, h4⟩ := tup_ok ru
      have hl := h2.length
      have hl' := h4.length
      obtain ⟨ex, S'⟩ := S.write (d := .lst (ys ++ zs)) (o := .lst (vs ++ ws)) ha (by simpa only [RepO] using h2.append h4)
      exact mt_extendT pins s σ H _ _ v us Q I rx rxs ⟨a, b, vs, ws, rfl, rfl, h1, h3, by omega, h _ _ _ ex S' rep_non⟩
    · exact h.elim
  case h_5 n d hb =>
    split at h
    · rename_i ys hn
      obtain ⟨u, rfl, ru⟩ := reps1 rs
      obtain ⟨hne, h⟩ := h
      obtain ⟨zs, e1, hz, h⟩ := opt_some h
      obtain ⟨a, vs, rfl, ha, h1, h2⟩ := loc_lst S ro hn
      obtain ⟨b, ws, rfl, h3, h4⟩ := asL_ok S ru e1
      have hl := h2.length
      have hl' := h4.length
      obtain ⟨ex, S'⟩ := S.write (d := .lst (ys ++ zs)) (o := .lst (vs ++ ws)) ha (by simpa only [RepO] using h2.append h4)
      exact mt_extend pins s σ H _ _ v us Q I rx rxs ⟨a, b, vs, ws, rfl, rfl, h1, h3, by omega, h _ _ _ ex S' rep_non⟩
    · exact h.elim
  all_goals first | exact h.elim | (rename_i z; cases z; done) | (rename_i z _; cases z; done)
/-! ### methods of dicts -/
theorem getD_rep {K : PySem.W.Frag} {H : Hp} {ι : Io} {o : Option D} {w : Option V} {z : D} {zv : V} (e1 : o.isSome = w.isSome) (e2 : ∀ x, o = some x → ∃ y, w = some y ∧ Rep K C H ι x y) (rz : Rep K C H ι z zv) : Rep K C H ι (o.getD z) (w.getD zv) := by
  cases o with
  | none => cases w with
    | none => exact rz
    | some _ => cases e1
  | some x => obtain ⟨y, rfl, r⟩ := e2 x rfl; exact r
theorem get1_ok (hu : X.A.units + 1 < cLine) : MtR X "dict.get" (rMt X.K C .get1) := by
  intro pins s σ H x xs v us Q I rx rxs h
  obtain ⟨ι, st, o, ds, S, ro, rs, h⟩ := h
  unfold mthD at h
  split at h
  case h_6 y hb =>
    obtain ⟨w, rfl, rd⟩ := reps1 rs
    obtain ⟨r, e, h⟩ := opt_some h
    obtain ⟨a, q, rfl, g, e1, e2⟩ := getDD_ok S ro rd e
    obtain ⟨u, rfl, ru⟩ := vals1 rxs
    obtain rfl : v = Value.ref a := rx
    exact d_get1 hu I g ru fun w' s' I' r' => ⟨q.getD .non, H, I', r', h.here S (getD_rep e1 e2 rep_non)⟩
  all_goals first | exact h.elim | (rename_i z; cases z; done) | (rename_i z _; cases z; done)
theorem get2_ok (hu : X.A.units + 1 < cLine) : MtR X "dict.get" (rMt X.K C .get2) := by
  intro pins s σ H x xs v us Q I rx rxs h
  obtain ⟨ι, st, o, ds, S, ro, rs, h⟩ := h
  unfold mthD at h
  split at h
  case h_7 y z hb =>
    obtain ⟨w, w2, rfl, rd, re⟩ := reps2 rs
    obtain ⟨r, e, h⟩ := opt_some h
    obtain ⟨a, q, rfl, g, e1, e2⟩ := getDD_ok S ro rd e
    obtain ⟨u, u2, rfl, ru, ru2⟩ := vals2 rxs
    obtain rfl : v = Value.ref a := rx
    exact d_get2 hu I g ru ru2 fun w' s' I' r' => ⟨q.getD w2, H, I', r', h.here S (getD_rep e1 e2 re)⟩
  all_goals first | exact h.elim | (rename_i z; cases z; done) | (rename_i z _; cases z; done)
theorem dpop1_ok : MtR X "dict.pop" (rMt X.K C .dpop1) := by
  intro pins s σ H x xs v us Q I rx rxs h
  obtain ⟨ι, st, o, ds, S, ro, rs, h⟩ := h
  unfold mthD at h
  split at h
  case h_8 n y hb =>
    split at h
    · rename_i kvs hn
      obtain ⟨w, rfl, rd⟩ := reps1 rs
      obtain ⟨k, e, h⟩ := opt_some h
      obtain ⟨d, e2, h⟩ := opt_some h
      obtain ⟨a, kw, rfl, ha, h1, h2⟩ := loc_dK S ro hn
      obtain rfl := keyOf_ok rd e
      obtain ⟨y', e3, ry'⟩ := (h2.val k).1 _ e2
      obtain ⟨u, rfl, ru⟩ := vals1 rxs
      obtain rfl : v = Value.ref a := rx
      obtain ⟨ex, S'⟩ := S.write (d := .dK (dropD kvs k)) (o := .dK (dropK kw k)) ha (by simpa only [RepO] using RepK_iff.mpr (h2.drop k))
      exact d_pop I h1 ru e3 (.inl rfl) fun w' s' I' r' => ⟨y', _, I', r', h _ _ _ ex S' (ry'.mono ex)⟩
    · exact h.elim
  all_goals first | exact h.elim | (rename_i z; cases z; done) | (rename_i z _; cases z; done)
theorem dpop2_ok (hu : X.A.units + 1 < cLine) : MtR X "dict.pop" (rMt X.K C .dpop2) := by
  intro pins s σ H x xs v us Q I rx rxs h
  obtain ⟨ι, st, o, ds, S, ro, rs, h⟩ := h
  unfold mthD at h
  split at h
  case h_9 n y z hb =>
    obtain ⟨w, w2, rfl, rd, re⟩ := reps2 rs
    split at h
    · rename_i kvs hn
      obtain ⟨k, e, h⟩ := opt_some h
      obtain ⟨a, kw, rfl, ha, h1, h2⟩ := loc_dK S ro hn
      obtain rfl := keyOf_ok rd e
      obtain ⟨u, u2, rfl, ru, ru2⟩ := vals2 rxs
      obtain rfl : v = Value.ref a := rx
      split at h
      · rename_i d e2
        obtain ⟨y', e3, ry'⟩ := (h2.val k).1 _ e2
        obtain ⟨ex, S'⟩ := S.write (d := .dK (dropD kvs k)) (o := .dK (dropK kw k)) ha (by simpa only [RepO] using RepK_iff.mpr (h2.drop k))
        exact d_pop I h1 ru e3 (.inr ⟨_, rfl⟩) fun w' s' I' r' => ⟨y', _, I', r', h _ _ _ ex S' (ry'.mono ex)⟩
      · rename_i e2
        exact d_popD I h1 ru ((h2.val k).2 e2) fun s' I' => ⟨w2, H, I', ru2, h.here S re⟩
    · rename_i kvs hn
      obtain ⟨k, e, h⟩ := opt_some h
      obtain ⟨a, kw, rfl, ha, h1, h2⟩ := loc_dT S ro hn
      obtain ⟨b, rfl, hb⟩ := tkeyOf_ok rd e
      refine DX.mt_popT hu pins s σ H _ _ v us Q I rx rxs ⟨a, kw, k, b, w2, rfl, rfl, h1, hb, fun v' e3 => ?_, fun e3 => ?_⟩
      · split at h
        · rename_i d e2
          obtain ⟨y', e4, ry'⟩ := (h2.val k).1 _ e2
          rw [e3] at e4; cases e4
          obtain ⟨ex, S'⟩ := S.write (d := .dT (dropD kvs k)) (o := .dT (dropK kw k)) ha (by simpa only [RepO] using RepT_iff.mpr (h2.drop k))
          exact h _ _ _ ex S' (ry'.mono ex)
        · rename_i e2
          rw [(h2.val k).2 e2] at e3; cases e3
      · split at h
        · rename_i d e2
          obtain ⟨y', e4, ry'⟩ := (h2.val k).1 _ e2
          rw [e3] at e4; cases e4
        · exact h.here S re
    · exact h.elim
  all_goals first | exact h.elim | (rename_i z; cases z; done) | (rename_i z _; cases z; done)
theorem strs?_ok : ∀ {xs : List D} {ns : List Str}, strs? xs = some ns → xs = ns.map .str
  | [], ns, h => by simp [strs?] at h; subst h; rfl
  | x :: r, ns, h => by
    unfold strs? at h
    split at h
    · rename_i e; cases e
    · rename_i i r' e
      cases e
      cases q : strs? r with
      | none => rw [q] at h; cases h
      | some ms => rw [q] at h; cases h; rw [strs?_ok q]; rfl
    · cases h
theorem Reps.strs {K : PySem.W.Frag} {H : Hp} {ι : Io} {vs : List V} : ∀ {ns : List Str}, Reps K C H ι (ns.map D.str) vs ↔ vs = ns.map V.str
  | [] => by simp [Reps]
  | n :: ns => by
    simp only [List.map_cons, Reps.cons_iff, Rep]
    constructor
    · rintro ⟨v, r, rfl, rfl, h⟩
      rw [Reps.strs.mp h]
    · rintro rfl
      exact ⟨_, _, rfl, rfl, Reps.strs.mpr rfl⟩
theorem join_ok : MtR X "str.join" (rMt X.K C .join) := by
  intro pins s σ H x xs v us Q I rx rxs h
  obtain ⟨ι, st, o, ds, S, ro, rs, h⟩ := h
  unfold mthD at h
  split at h
  case h_10 a d hb =>
    obtain ⟨w, rfl, rd⟩ := reps1 rs
    obtain ⟨ys, e1, h⟩ := opt_some h
    obtain ⟨zs, e2, hz, h⟩ := opt_some h
    obtain ⟨b, vs, rfl, hq, hr⟩ := asSeq_ok S rd e1
    rw [strs?_ok e2, Reps.strs] at hr
    subst hr
    simp only [Rep] at ro; subst ro
    exact mt_join pins s σ H _ _ v us Q I rx rxs ⟨a, b, zs, rfl, rfl, hq, hz, h.here S rep_str⟩
  all_goals first | exact h.elim | (rename_i z; cases z; done) | (rename_i z _; cases z; done)
end
end MI

set_option maxRecDepth 100000
/-! MI, part 6: the readings of the language's pieces, and the hand layer's rules restated for them. -/
namespace MI
open PySem PySem.Spec PyProof.Rows L2

section
variable (K : PySem.W.Frag) (C : Nat → Addr)
structure EnvR (H : Hp) (ι : Io) (σ : L2.St) (env : Ev) : Prop where
  len : env.length = σ.length
  get : ∀ (i : Nat) (d : D), env[i]? = some (some d) → ∃ v, σ[i]? = some (some v) ∧ Rep K C H ι d v
def tE (m : Ev → Sto → Kd → Prop) : TE := fun σ H Q => ∃ ι env st, Sim K C H ι st ∧ EnvR K C H ι σ env ∧ m env st (Post K C H ι Q)
def tB (m : Ev → Sto → (Bool → Sto → Prop) → Prop) : TT := fun σ H Q => ∃ ι env st, Sim K C H ι st ∧ EnvR K C H ι σ env ∧ m env st (PostB K C H ι Q)
def PostL (H : Hp) (ι : Io) (Q : List V → Hp → Prop) : List D → Sto → Prop := fun ds st' => ∀ vs H' ι', Ext H ι H' ι' → Sim K C H' ι' st' → Reps K C H' ι' ds vs → Q vs H'
def tAr (m : Ev → Sto → (List D → Sto → Prop) → Prop) : TA := fun σ H Q => ∃ ι env st, Sim K C H ι st ∧ EnvR K C H ι σ env ∧ m env st (PostL K C H ι Q)
def PostO (H : Hp) (ι : Io) (Q : Option Int → Hp → Prop) : Option Int → Sto → Prop := fun o st' => ∀ H' ι', Ext H ι H' ι' → Sim K C H' ι' st' → Q o H'
def tOp' (m : Ev → Sto → (Option Int → Sto → Prop) → Prop) : TO := fun σ H Q => ∃ ι env st, Sim K C H ι st ∧ EnvR K C H ι σ env ∧ m env st (PostO K C H ι Q)
/-- what a loop walks, and how it is told -/
def ItsR (H1 : Hp) (ι1 : Io) (J : Its) (T : It) : Prop := ∀ (i : Nat) (H : Hp) (ι : Io) (st : Sto), Kp H1 ι1 H ι → Sim K C H ι st → J.keep st →
  (i < J.items.length → T.go i H ∧ ∀ x H', T.yld i H x H' → ∃ d, J.items[i]? = some d ∧ Ext H ι H' ι ∧ Sim K C H' ι st ∧ Rep K C H' ι d x) ∧ (J.items.length ≤ i → T.stop i H)
def tIt (m : Ev → Sto → (Its → Sto → Prop) → Prop) : TI := fun σ H R => ∃ ι env st, Sim K C H ι st ∧ EnvR K C H ι σ env ∧
  m env st fun J s1 => ∀ T H1 ι1, Ext H ι H1 ι1 → Sim K C H1 ι1 s1 → ItsR K C H1 ι1 J T → R T H1
def Outside (vs : List Nat) (σ σ' : L2.St) : Prop := σ'.length = σ.length ∧ ∀ j : Nat, j ∉ vs → σ'[j]? = σ[j]?
def tG (vs : List Nat) (m : D → Ev → Sto → (Ev → Sto → Prop) → Prop) : TG := fun v σ H Q => ∃ ι env st d, Sim K C H ι st ∧ EnvR K C H ι σ env ∧ Rep K C H ι d v ∧
  m d env st fun env' st' => ∀ σ' H' ι', Ext H ι H' ι' → Sim K C H' ι' st' → EnvR K C H' ι' σ' env' → Outside vs σ σ' → Q σ' H'
def tGs (vs : List Nat) (m : List D → Ev → Sto → (Ev → Sto → Prop) → Prop) : TGs := fun v σ H Q => ∃ ι env st d, Sim K C H ι st ∧ EnvR K C H ι σ env ∧ Reps K C H ι d v ∧
  m d env st fun env' st' => ∀ σ' H' ι', Ext H ι H' ι' → Sim K C H' ι' st' → EnvR K C H' ι' σ' env' → Outside vs σ σ' → Q σ' H'
end
def MonoE (m : Ev → Sto → Kd → Prop) : Prop := ∀ env st (Q Q' : Kd), (∀ d s, Q d s → Q' d s) → m env st Q → m env st Q'
def MonoB (m : Ev → Sto → (Bool → Sto → Prop) → Prop) : Prop := ∀ env st Q Q', (∀ d s, Q d s → Q' d s) → m env st Q → m env st Q'
def MonoL (m : Ev → Sto → (List D → Sto → Prop) → Prop) : Prop := ∀ env st Q Q', (∀ d s, Q d s → Q' d s) → m env st Q → m env st Q'
def MonoO (m : Ev → Sto → (Option Int → Sto → Prop) → Prop) : Prop := ∀ env st Q Q', (∀ d s, Q d s → Q' d s) → m env st Q → m env st Q'
def MonoI (m : Ev → Sto → (Its → Sto → Prop) → Prop) : Prop := ∀ env st Q Q', (∀ d s, Q d s → Q' d s) → m env st Q → m env st Q'
def MonoG (m : D → Ev → Sto → (Ev → Sto → Prop) → Prop) : Prop := ∀ d env st Q Q', (∀ e s, Q e s → Q' e s) → m d env st Q → m d env st Q'
def MonoGs (m : List D → Ev → Sto → (Ev → Sto → Prop) → Prop) : Prop := ∀ d env st Q Q', (∀ e s, Q e s → Q' e s) → m d env st Q → m d env st Q'

section
variable {K : PySem.W.Frag} {C : Nat → Addr} {H H' : Hp} {ι ι' : Io} {st st' : Sto} {σ : L2.St} {env : Ev}
theorem EnvR.kp (E : EnvR K C H ι σ env) (e : Kp H ι H' ι') : EnvR K C H' ι' σ env := ⟨E.len, fun i d h => let ⟨v, h1, h2⟩ := E.get i d h; ⟨v, h1, h2.kp e⟩⟩
theorem EnvR.mono (E : EnvR K C H ι σ env) (e : Ext H ι H' ι') : EnvR K C H' ι' σ env := E.kp e.toKp
theorem EnvR.set (E : EnvR K C H ι σ env) {d : D} {v : V} (r : Rep K C H ι d v) (i : Nat) : EnvR K C H ι (σ.set i (some v)) (env.set i (some d)) := by
  refine ⟨by simp [E.len], fun j e h => ?_⟩
  by_cases hj : i = j
  · subst hj
    have hl : i < env.length := by
      have := (List.getElem?_eq_some_iff.mp h).1
      simpa using this
    rw [List.getElem?_set_self hl] at h
    cases h
    exact ⟨v, by rw [List.getElem?_set_self (by rw [← E.len]; exact hl)], r⟩
  · rw [List.getElem?_set_ne hj] at h ⊢
    exact E.get j e h
theorem EnvR.wipe (E : EnvR K C H ι σ env) : ∀ vs : List Nat, EnvR K C H ι (L2.wipe σ vs) (wipeE env vs)
  | [] => E
  | v :: vs => by
    have E' := EnvR.wipe E vs
    unfold L2.wipe wipeE
    refine ⟨by simp [E'.len], fun j e h => ?_⟩
    by_cases hj : v = j
    · subst hj
      by_cases hl : v < (wipeE env vs).length
      · rw [List.getElem?_set_self hl] at h; cases h
      · rw [List.getElem?_eq_none (by simpa using hl)] at h; cases h
    · rw [List.getElem?_set_ne hj] at h ⊢
      exact E'.get j e h
theorem Outside.refl (vs : List Nat) (σ : L2.St) : Outside vs σ σ := ⟨rfl, fun _ _ => rfl⟩
theorem Outside.trans {vs : List Nat} {a b c : L2.St} (h : Outside vs a b) (h' : Outside vs b c) : Outside vs a c := ⟨h'.1.trans h.1, fun j hj => (h'.2 j hj).trans (h.2 j hj)⟩
theorem wipe_at {σ : L2.St} {j : Nat} : ∀ {vs : List Nat}, j ∈ vs → j < σ.length → (L2.wipe σ vs)[j]? = some none
  | v :: vs, h, hl => by
    unfold L2.wipe
    by_cases hj : v = j
    · subst hj
      rw [List.getElem?_set_self (by rw [wipe_length]; exact hl)]
    · rw [List.getElem?_set_ne hj]
      exact wipe_at ((List.mem_cons.mp h).resolve_left (fun e => hj e.symm)) hl
theorem Outside.wipe {vs ws : List Nat} {σ σ' : L2.St} (h : Outside vs σ σ') (hs : ∀ j ∈ vs, j ∈ ws) : L2.wipe σ' ws = L2.wipe σ ws := by
  apply List.ext_getElem?
  intro j
  by_cases hj : j ∈ ws
  · by_cases hl : j < σ.length
    · rw [wipe_at hj hl, wipe_at hj (by rw [h.1]; exact hl)]
    · rw [List.getElem?_eq_none (by rw [wipe_length, h.1]; omega), List.getElem?_eq_none (by rw [wipe_length]; omega)]
  · rw [wipe_out hj, wipe_out hj]
    exact h.2 j fun z => hj (hs j z)
theorem wipe_wipe {σ : L2.St} (ws : List Nat) : L2.wipe (L2.wipe σ ws) ws = L2.wipe σ ws := by
  apply List.ext_getElem?
  intro j
  by_cases hj : j ∈ ws
  · by_cases hl : j < σ.length
    · rw [wipe_at hj (by rw [wipe_length]; exact hl), wipe_at hj hl]
    · rw [List.getElem?_eq_none (by rw [wipe_length, wipe_length]; omega), List.getElem?_eq_none (by rw [wipe_length]; omega)]
  · rw [wipe_out hj]

/-- one expression, then more -/
theorem tE.step {m : Ev → Sto → Kd → Prop} (mo : MonoE m) {F : Kd} {R : VK} (S : Sim K C H ι st) (E : EnvR K C H ι σ env) (h : m env st F)
    (k : ∀ d s1 x H1 ι1, F d s1 → Ext H ι H1 ι1 → Sim K C H1 ι1 s1 → EnvR K C H1 ι1 σ env → Rep K C H1 ι1 d x → R x H1) : tE K C m σ H R :=
  ⟨ι, env, st, S, E, mo _ _ _ _ (fun d s1 hF x H1 ι1 e S1 r => k d s1 x H1 ι1 hF e S1 (E.mono e) r) h⟩
theorem tB.step {m : Ev → Sto → (Bool → Sto → Prop) → Prop} (mo : MonoB m) {F : Bool → Sto → Prop} {R : Bool → Hp → Prop} (S : Sim K C H ι st) (E : EnvR K C H ι σ env) (h : m env st F)
    (k : ∀ d s1 H1 ι1, F d s1 → Ext H ι H1 ι1 → Sim K C H1 ι1 s1 → EnvR K C H1 ι1 σ env → R d H1) : tB K C m σ H R :=
  ⟨ι, env, st, S, E, mo _ _ _ _ (fun d s1 hF H1 ι1 e S1 => k d s1 H1 ι1 hF e S1 (E.mono e)) h⟩
theorem tAr.step {m : Ev → Sto → (List D → Sto → Prop) → Prop} (mo : MonoL m) {F : List D → Sto → Prop} {R : List V → Hp → Prop} (S : Sim K C H ι st) (E : EnvR K C H ι σ env) (h : m env st F)
    (k : ∀ d s1 x H1 ι1, F d s1 → Ext H ι H1 ι1 → Sim K C H1 ι1 s1 → EnvR K C H1 ι1 σ env → Reps K C H1 ι1 d x → R x H1) : tAr K C m σ H R :=
  ⟨ι, env, st, S, E, mo _ _ _ _ (fun d s1 hF x H1 ι1 e S1 r => k d s1 x H1 ι1 hF e S1 (E.mono e) r) h⟩
theorem tOp'.step {m : Ev → Sto → (Option Int → Sto → Prop) → Prop} (mo : MonoO m) {F : Option Int → Sto → Prop} {R : Option Int → Hp → Prop} (S : Sim K C H ι st) (E : EnvR K C H ι σ env) (h : m env st F)
    (k : ∀ d s1 H1 ι1, F d s1 → Ext H ι H1 ι1 → Sim K C H1 ι1 s1 → EnvR K C H1 ι1 σ env → R d H1) : tOp' K C m σ H R :=
  ⟨ι, env, st, S, E, mo _ _ _ _ (fun d s1 hF H1 ι1 e S1 => k d s1 H1 ι1 hF e S1 (E.mono e)) h⟩
theorem Post.ext {Q : VK} {d : D} {s : Sto} (h : Post K C H ι Q d s) (e : Ext H ι H' ι') : Post K C H' ι' Q d s := fun v H2 ι2 e2 => h v H2 ι2 (e.trans e2)
theorem PostB.ext {Q : Bool → Hp → Prop} {d : Bool} {s : Sto} (h : PostB K C H ι Q d s) (e : Ext H ι H' ι') : PostB K C H' ι' Q d s := fun H2 ι2 e2 => h H2 ι2 (e.trans e2)
theorem Post.bl {Q : VK} {b : Bool} {s : Sto} (h : Post K C H ι Q (.bl b) s) : PostB K C H ι (fun b H' => Q (.bl b) H') b s := fun H' ι' e S => h _ H' ι' e S rep_bl
end

theorem _root_.L2.PE.imp {X : Cx} {e : Expr} {t t' : TE} (h : PE X e t) (i : ∀ σ H Q, t' σ H Q → t σ H Q) : PE X e t' := ⟨fun pins s σ H Q I q => h.run pins s σ H Q I (i _ _ _ q)⟩
theorem _root_.L2.PT.imp {X : Cx} {e : Expr} {t t' : TT} (h : PT X e t) (i : ∀ σ H Q, t' σ H Q → t σ H Q) : PT X e t' := ⟨fun pins s σ H Q I q => h.run pins s σ H Q I (i _ _ _ q)⟩
theorem _root_.L2.PW.imp {X : Cx} {e : Expr} {t t' : TT} (h : PW X e t) (i : ∀ σ H Q, t' σ H Q → t σ H Q) : PW X e t' := ⟨fun wh pins s σ H Q I q => h.run wh pins s σ H Q I (i _ _ _ q)⟩
theorem _root_.L2.PA.imp {X : Cx} {e : List Expr} {t t' : TA} (h : PA X e t) (i : ∀ σ H Q, t' σ H Q → t σ H Q) : PA X e t' := ⟨fun pos pins s σ H Q I q => h.run pos pins s σ H Q I (i _ _ _ q)⟩
theorem _root_.L2.PO.imp {X : Cx} {e : Option Expr} {t t' : TO} (h : PO X e t) (i : ∀ σ H Q, t' σ H Q → t σ H Q) : PO X e t' := ⟨fun pins s σ H Q I q => h.run pins s σ H Q I (i _ _ _ q)⟩
theorem _root_.L2.PI.imp {X : Cx} {tg e : Expr} {t t' : TI} (h : PI X tg e t) (i : ∀ σ H Q, t' σ H Q → t σ H Q) : PI X tg e t' := ⟨fun pins s σ H Q I q => h.run pins s σ H Q I (i _ _ _ q)⟩
theorem _root_.L2.PG.imp {X : Cx} {e : Expr} {t t' : TG} (h : PG X e t) (i : ∀ v σ H Q, t' v σ H Q → t v σ H Q) : PG X e t' := ⟨fun pins s σ H v u Q I r q => h.run pins s σ H v u Q I r (i _ _ _ _ q)⟩
theorem _root_.L2.PGs.imp {X : Cx} {e : List Expr} {t t' : TGs} (h : PGs X e t) (i : ∀ v σ H Q, t' v σ H Q → t v σ H Q) : PGs X e t' := ⟨fun pins s σ H v u Q I r q => h.run pins s σ H v u Q I r (i _ _ _ _ q)⟩
theorem _root_.L2.PTs.imp {X : Cx} {e : List Expr} {t t' : TT} (h : PTs X e t) (i : ∀ σ H Q, t' σ H Q → t σ H Q) : PTs X e t' := ⟨fun pins s σ H Q I q => h.run pins s σ H Q I (i _ _ _ q)⟩
theorem _root_.L2.PS.imp {X : Cx} {e : Stmt} {t t' : TS} (h : PS X e t) (i : ∀ D σ H, t' D σ H → t D σ H) : PS X e t' := ⟨fun pins s σ H D I q => h.run pins s σ H D I (i _ _ _ q)⟩
theorem _root_.L2.PSs.imp {X : Cx} {e : List Stmt} {t t' : TS} (h : PSs X e t) (i : ∀ D σ H, t' D σ H → t D σ H) : PSs X e t' := ⟨fun pins s σ H D I q => h.run pins s σ H D I (i _ _ _ q)⟩

/-! ### expressions -/
section
variable {X : Cx} {C : Nat → Addr} {a b c : Expr} {pos : Pos} {ma mb mc : Ev → Sto → Kd → Prop}
theorem e_con {d : D} {v : V} (h : PE X a (tC v)) (r : ∀ H ι, Rep X.K C H ι d v) : PE X a (tE X.K C fun _ st Q => Q d st) :=
  h.imp fun σ H Q ⟨ι, env, st, S, E, q⟩ => q.here S (r H ι)
theorem e_bin {op : Operator} {f : D → D → Sto → Kd → Prop} (fm : ∀ x y s (Q Q' : Kd), (∀ d s, Q d s → Q' d s) → f x y s Q → f x y s Q') (ho : OpR X (binaryOp op) (rD2 X.K C f)) (ha : PE X a (tE X.K C ma)) (hb : PE X b (tE X.K C mb)) (oa : MonoE ma) (ob : MonoE mb) :
    PE X (.BinOp a op b pos) (tE X.K C fun env st Q => ma env st fun x s1 => mb env s1 fun y s2 => f x y s2 Q) :=
  (pe_op ho ha hb).imp fun σ H Q ⟨ι, env, st, S, E, q⟩ => tE.step oa S E q fun d s1 x H1 ι1 q e1 S1 E1 r1 => tE.step ob S1 E1 q fun d2 s2 y H2 ι2 q e2 S2 E2 r2 =>
    ⟨ι2, s2, d, d2, S2, r1.mono e2, r2, fm _ _ _ _ _ (fun _ _ h => h.ext (e1.trans e2)) q⟩
theorem e_neg (ha : PE X a (tE X.K C ma)) (oa : MonoE ma) : PE X (.UnaryOp .USub a pos) (tE X.K C fun env st Q => ma env st fun x s1 => (match x with
    | .int i => Q (.int (-i)) s1
    | _ => False)) :=
  (pe_un un_neg ha).imp fun σ H Q ⟨ι, env, st, S, E, q⟩ => tE.step oa S E q fun d s1 x H1 ι1 q e1 S1 E1 r1 => by
    cases d with
    | int i =>
      simp only [Rep] at r1
      exact ⟨i, r1, q _ H1 ι1 e1 S1 rep_int⟩
    | _ => exact q.elim
theorem e_cmp {op : CmpOp} {f : D → D → Sto → (Bool → Sto → Prop) → Prop} (fm : ∀ x y s Q Q', (∀ d s, Q d s → Q' d s) → f x y s Q → f x y s Q') (ho : OpR X (compareOp op) (rDB X.K C f)) (ha : PE X a (tE X.K C ma)) (hb : PE X b (tE X.K C mb)) (oa : MonoE ma) (ob : MonoE mb)
    (hm : behindInMarks op b = false) : PE X (.Compare a [op] [b] pos) (tE X.K C fun env st Q => ma env st fun x s1 => mb env s1 fun y s2 => f x y s2 fun k s3 => Q (.bl k) s3) :=
  (pe_cmpR ho ha hb hm).imp fun σ H Q ⟨ι, env, st, S, E, q⟩ => tE.step oa S E q fun d s1 x H1 ι1 q e1 S1 E1 r1 => tE.step ob S1 E1 q fun d2 s2 y H2 ι2 q e2 S2 E2 r2 =>
    ⟨ι2, s2, d, d2, S2, r1.mono e2, r2, fm _ _ _ _ _ (fun _ _ h => (h.ext (e1.trans e2)).bl) q⟩
theorem b_cmp {op : CmpOp} {f : D → D → Sto → (Bool → Sto → Prop) → Prop} (fm : ∀ x y s Q Q', (∀ d s, Q d s → Q' d s) → f x y s Q → f x y s Q') (ho : OpR X (compareOp op) (rDB X.K C f)) (ha : PE X a (tE X.K C ma)) (hb : PE X b (tE X.K C mb)) (oa : MonoE ma) (ob : MonoE mb)
    (hm : behindInMarks op b = false) : PT X (.Compare a [op] [b] pos) (MI.tB X.K C fun env st Q => ma env st fun x s1 => mb env s1 fun y s2 => f x y s2 Q) :=
  (pt_cmpR ho ha hb hm).imp fun σ H Q ⟨ι, env, st, S, E, q⟩ => tE.step oa S E q fun d s1 x H1 ι1 q e1 S1 E1 r1 => tE.step ob S1 E1 q fun d2 s2 y H2 ι2 q e2 S2 E2 r2 =>
    ⟨ι2, s2, d, d2, S2, r1.mono e2, r2, fm _ _ _ _ _ (fun k s3 h H3 ι3 e3 S3 => ⟨k, rfl, h H3 ι3 ((e1.trans e2).trans e3) S3⟩) q⟩
theorem e_chain {op op' : CmpOp} {f f' : D → D → Sto → (Bool → Sto → Prop) → Prop} (fm : ∀ x y s Q Q', (∀ d s, Q d s → Q' d s) → f x y s Q → f x y s Q') (fm' : ∀ x y s Q Q', (∀ d s, Q d s → Q' d s) → f' x y s Q → f' x y s Q')
    (ho : OpR X (compareOp op) (rDB X.K C f)) (ho' : OpR X (compareOp op') (rDB X.K C f')) (ha : PE X a (tE X.K C ma)) (hb : PE X b (tE X.K C mb)) (hc : PE X c (tE X.K C mc)) (oa : MonoE ma) (ob : MonoE mb) (oc : MonoE mc)
    (hm : lastMarks [op, op'] [b, c] = false) : PE X (.Compare a [op, op'] [b, c] pos) (tE X.K C fun env st Q => ma env st fun x s1 => mb env s1 fun y s2 => f x y s2 fun k s3 =>
      if k = true then mc env s3 fun z s4 => f' y z s4 fun k' s5 => Q (.bl k') s5 else Q (.bl false) s3) :=
  (pe_chain ho ho' ha hb hc hm).imp fun σ H Q ⟨ι, env, st, S, E, q⟩ => tE.step oa S E q fun d s1 x H1 ι1 q e1 S1 E1 r1 => tE.step ob S1 E1 q fun d2 s2 y H2 ι2 q e2 S2 E2 r2 =>
    ⟨ι2, s2, d, d2, S2, r1.mono e2, r2, fm _ _ _ _ _ (fun k s3 h H3 ι3 e3 S3 => ⟨k, rfl, by
      cases k with
      | true =>
        rw [if_pos rfl] at h ⊢
        exact tE.step oc S3 (E2.mono e3) h fun d3 s4 z H4 ι4 q e4 S4 E4 r4 => ⟨ι4, s4, d2, d3, S4, (r2.mono e3).mono e4, r4, fm' _ _ _ _ _ (fun _ _ h => (h.ext (((e1.trans e2).trans e3).trans e4)).bl) q⟩
      | false =>
        rw [if_neg Bool.false_ne_true] at h ⊢
        exact h _ _ _ ((e1.trans e2).trans e3) S3 rep_bl⟩) q⟩
theorem b_chain {op op' : CmpOp} {f f' : D → D → Sto → (Bool → Sto → Prop) → Prop} (fm : ∀ x y s Q Q', (∀ d s, Q d s → Q' d s) → f x y s Q → f x y s Q') (fm' : ∀ x y s Q Q', (∀ d s, Q d s → Q' d s) → f' x y s Q → f' x y s Q')
    (ho : OpR X (compareOp op) (rDB X.K C f)) (ho' : OpR X (compareOp op') (rDB X.K C f')) (ha : PE X a (tE X.K C ma)) (hb : PE X b (tE X.K C mb)) (hc : PE X c (tE X.K C mc)) (oa : MonoE ma) (ob : MonoE mb) (oc : MonoE mc)
    (hm : lastMarks [op, op'] [b, c] = false) : PT X (.Compare a [op, op'] [b, c] pos) (MI.tB X.K C fun env st Q => ma env st fun x s1 => mb env s1 fun y s2 => f x y s2 fun k s3 =>
      if k = true then mc env s3 fun z s4 => f' y z s4 Q else Q false s3) :=
  (pt_chain ho ho' ha hb hc hm).imp fun σ H Q ⟨ι, env, st, S, E, q⟩ => tE.step oa S E q fun d s1 x H1 ι1 q e1 S1 E1 r1 => tE.step ob S1 E1 q fun d2 s2 y H2 ι2 q e2 S2 E2 r2 =>
    ⟨ι2, s2, d, d2, S2, r1.mono e2, r2, fm _ _ _ _ _ (fun k s3 h H3 ι3 e3 S3 => ⟨k, rfl, by
      cases k with
      | true =>
        rw [if_pos rfl] at h ⊢
        exact tE.step oc S3 (E2.mono e3) h fun d3 s4 z H4 ι4 q e4 S4 E4 r4 => ⟨ι4, s4, d2, d3, S4, (r2.mono e3).mono e4, r4, fm' _ _ _ _ _ (fun k s h H5 ι5 e5 S5 => ⟨k, rfl, h H5 ι5 ((((e1.trans e2).trans e3).trans e4).trans e5) S5⟩) q⟩
      | false =>
        rw [if_neg Bool.false_ne_true] at h ⊢
        exact ⟨false, rfl, h H3 ι3 ((e1.trans e2).trans e3) S3⟩⟩) q⟩
theorem e_and {rest : List Expr} (ha : PE X a (tE X.K C ma)) (hb : PE X (.BoolOp .And (b :: rest) pos) (tE X.K C mb)) (oa : MonoE ma) (ob : MonoE mb) : PE X (.BoolOp .And (a :: b :: rest) pos) (tE X.K C fun env st Q => ma env st fun x s1 => (match x with
    | .bl c => if c = true then mb env s1 Q else Q (.bl false) s1
    | _ => False)) :=
  (pe_and ha hb).imp fun σ H Q ⟨ι, env, st, S, E, q⟩ => tE.step oa S E q fun d s1 x H1 ι1 q e1 S1 E1 r1 => by
    cases d with
    | bl c =>
      simp only [Rep] at r1
      refine ⟨c, r1, ?_⟩
      cases c with
      | true =>
        simp only [if_true] at q ⊢
        exact ⟨ι1, env, s1, S1, E1, ob _ _ _ _ (fun _ _ h => h.ext e1) q⟩
      | false =>
        simp only [Bool.false_eq_true, if_false] at q ⊢
        exact q _ _ _ e1 S1 rep_bl
    | _ => exact q.elim
theorem e_or {rest : List Expr} (ha : PE X a (tE X.K C ma)) (hb : PE X (.BoolOp .Or (b :: rest) pos) (tE X.K C mb)) (oa : MonoE ma) (ob : MonoE mb) : PE X (.BoolOp .Or (a :: b :: rest) pos) (tE X.K C fun env st Q => ma env st fun x s1 => (match x with
    | .bl c => if c = true then Q (.bl true) s1 else mb env s1 Q
    | _ => False)) :=
  (pe_or ha hb).imp fun σ H Q ⟨ι, env, st, S, E, q⟩ => tE.step oa S E q fun d s1 x H1 ι1 q e1 S1 E1 r1 => by
    cases d with
    | bl c =>
      simp only [Rep] at r1
      refine ⟨c, r1, ?_⟩
      cases c with
      | false =>
        simp only [Bool.false_eq_true, if_false] at q ⊢
        exact ⟨ι1, env, s1, S1, E1, ob _ _ _ _ (fun _ _ h => h.ext e1) q⟩
      | true =>
        simp only [if_true] at q ⊢
        exact q _ _ _ e1 S1 rep_bl
    | _ => exact q.elim
theorem e_not (ha : PE X a (tE X.K C ma)) (oa : MonoE ma) : PE X (.UnaryOp .Not a pos) (tE X.K C fun env st Q => ma env st fun x s1 => (match x with
    | .bl c => Q (.bl (!c)) s1
    | _ => False)) :=
  (pe_not ha).imp fun σ H Q ⟨ι, env, st, S, E, q⟩ => tE.step oa S E q fun d s1 x H1 ι1 q e1 S1 E1 r1 => by
    cases d with
    | bl c =>
      simp only [Rep] at r1
      exact ⟨c, r1, q _ _ _ e1 S1 rep_bl⟩
    | _ => exact q.elim
/-! tests -/
variable {na nb : Ev → Sto → (Bool → Sto → Prop) → Prop}
theorem b_and {rest : List Expr} (ha : PT X a (MI.tB X.K C na)) (hb : PW X (.BoolOp .And (b :: rest) pos) (MI.tB X.K C nb)) (oa : MonoB na) (ob : MonoB nb) : PW X (.BoolOp .And (a :: b :: rest) pos) (MI.tB X.K C fun env st Q => na env st fun c s1 => if c = true then nb env s1 Q else Q false s1) :=
  (pw_and ha hb).imp fun σ H Q ⟨ι, env, st, S, E, q⟩ => tB.step oa S E q fun c s1 H1 ι1 q e1 S1 E1 => by
    cases c with
    | true =>
      simp only [if_true] at q ⊢
      exact ⟨ι1, env, s1, S1, E1, ob _ _ _ _ (fun _ _ h => h.ext e1) q⟩
    | false =>
      simp only [Bool.false_eq_true, if_false] at q ⊢
      exact q _ _ e1 S1
theorem b_or {rest : List Expr} (ha : PT X a (MI.tB X.K C na)) (hb : PW X (.BoolOp .Or (b :: rest) pos) (MI.tB X.K C nb)) (oa : MonoB na) (ob : MonoB nb) : PW X (.BoolOp .Or (a :: b :: rest) pos) (MI.tB X.K C fun env st Q => na env st fun c s1 => if c = true then Q true s1 else nb env s1 Q) :=
  (pw_or ha hb).imp fun σ H Q ⟨ι, env, st, S, E, q⟩ => tB.step oa S E q fun c s1 H1 ι1 q e1 S1 E1 => by
    cases c with
    | false =>
      simp only [Bool.false_eq_true, if_false] at q ⊢
      exact ⟨ι1, env, s1, S1, E1, ob _ _ _ _ (fun _ _ h => h.ext e1) q⟩
    | true =>
      simp only [if_true] at q ⊢
      exact q _ _ e1 S1
theorem b_not (ha : PT X a (MI.tB X.K C na)) (oa : MonoB na) : PT X (.UnaryOp .Not a pos) (MI.tB X.K C fun env st Q => na env st fun c s1 => Q (!c) s1) :=
  (pt_not ha).imp fun σ H Q ⟨ι, env, st, S, E, q⟩ => tB.step oa S E q fun c s1 H1 ι1 q e1 S1 E1 => q _ _ e1 S1
theorem b_val (ha : PE X a (tE X.K C ma)) (oa : MonoE ma) (he : ∀ whole, isTrue a X.env whole = (do let v ← whole; standAt a.pos; holding [v] (truthy v))) : PT X a (MI.tB X.K C fun env st Q => ma env st fun x s1 => truD x s1 Q) := by
  refine ⟨fun pins s σ H Q I ⟨ι, env, st, S, E, q⟩ => isTrue_plain ?_ (he _)⟩
  refine thn (ha.run pins s σ H (fun x H1 => ∃ ι1 s1 d, Sim X.K C H1 ι1 s1 ∧ Rep X.K C H1 ι1 d x ∧ truD d s1 (PostB X.K C H1 ι1 Q)) I (tE.step oa S E q fun d s1 x H1 ι1 q e1 S1 E1 r1 => ⟨ι1, s1, d, S1, r1, truD_mono (fun _ _ h => h.ext e1) q⟩)) fun v s1 ⟨x, H1, I1, r1, q1⟩ => ?_
  exact tru_okD pins s1 σ H1 x v Q I1 r1 q1
theorem e_if (ht : PT X c (MI.tB X.K C na)) (ha : PE X a (tE X.K C ma)) (hb : PE X b (tE X.K C mb)) (ot : MonoB na) (oa : MonoE ma) (ob : MonoE mb) : PE X (.IfExp c a b pos) (tE X.K C fun env st Q => na env st fun c s1 => if c = true then ma env s1 Q else mb env s1 Q) :=
  (pe_ifExp ht ha hb).imp fun σ H Q ⟨ι, env, st, S, E, q⟩ => tB.step ot S E q fun c s1 H1 ι1 q e1 S1 E1 => by
    cases c with
    | true =>
      simp only [if_true] at q ⊢
      exact ⟨ι1, env, s1, S1, E1, oa _ _ _ _ (fun _ _ h => h.ext e1) q⟩
    | false =>
      simp only [Bool.false_eq_true, if_false] at q ⊢
      exact ⟨ι1, env, s1, S1, E1, ob _ _ _ _ (fun _ _ h => h.ext e1) q⟩
/-! argument lists, displays -/
variable {es : List Expr} {ml : Ev → Sto → (List D → Sto → Prop) → Prop}
theorem l_nil : PA X [] (tAr X.K C fun _ st Q => Q [] st) := pa_nil.imp fun σ H Q ⟨ι, env, st, S, E, q⟩ => q _ H ι (.refl _ _) S .nil
theorem l_cons (ha : PE X a (tE X.K C ma)) (hl : PA X es (tAr X.K C ml)) (oa : MonoE ma) (ol : MonoL ml) (hs : starEach (a :: es) X.env = (false, eval a X.env) :: starEach es X.env) : PA X (a :: es) (tAr X.K C fun env st Q => ma env st fun x s1 => ml env s1 fun xs s2 => Q (x :: xs) s2) :=
  (pa_cons ha hl hs).imp fun σ H Q ⟨ι, env, st, S, E, q⟩ => tE.step oa S E q fun d s1 x H1 ι1 q e1 S1 E1 r1 => tAr.step ol S1 E1 q fun ds s2 xs H2 ι2 q e2 S2 E2 r2 => q _ _ _ (e1.trans e2) S2 (.cons (r1.mono e2) r2)
theorem e_tup {k : Nat} (hl : PA X es (tAr X.K C ml)) (ol : MonoL ml) : PE X (.Tuple es k pos) (tE X.K C fun env st Q => ml env st fun xs s1 => xs.length ≤ sizeLine ∧ Q (.tup xs) s1) :=
  (pe_tup hl).imp fun σ H Q ⟨ι, env, st, S, E, q⟩ => tAr.step ol S E q fun ds s1 xs H1 ι1 q e1 S1 E1 r1 => ⟨by rw [← r1.length]; exact q.1, tup_new S1 r1 (q.2.ext e1)⟩
theorem e_lst {m : Bool} (hl : PA X es (tAr X.K C ml)) (ol : MonoL ml) : PE X (.List es pos) (tE X.K C fun env st Q => ml env st fun xs s1 => xs.length ≤ sizeLine ∧ new m (.lst xs) s1 Q) :=
  (pe_lst hl).imp fun σ H Q ⟨ι, env, st, S, E, q⟩ => tAr.step ol S E q fun ds s1 xs H1 ι1 q e1 S1 E1 r1 => ⟨by rw [← r1.length]; exact q.1, new_ok S1 r1 (new_mono (fun _ _ h => h.ext e1) q.2)⟩
theorem e_idx (hu : X.A.units + 1 < cLine) (ha : PE X a (tE X.K C ma)) (hb : PE X b (tE X.K C mb)) (oa : MonoE ma) (ob : MonoE mb) (hs : PlainIx b) : PE X (.Subscript a b pos) (tE X.K C fun env st Q => ma env st fun x s1 => mb env s1 fun y s2 => idxD x y s2 Q) :=
  (pe_ix (idx_ok hu) ha hb hs).imp fun σ H Q ⟨ι, env, st, S, E, q⟩ => tE.step oa S E q fun d s1 x H1 ι1 q e1 S1 E1 r1 => tE.step ob S1 E1 q fun d2 s2 y H2 ι2 q e2 S2 E2 r2 =>
    ⟨ι2, s2, d, d2, S2, r1.mono e2, r2, idxD_mono (fun _ _ h => h.ext (e1.trans e2)) q⟩
variable {lo hi : Option Expr} {mlo mhi : Ev → Sto → (Option Int → Sto → Prop) → Prop}
theorem o_none : PO X none (tOp' X.K C fun _ st Q => Q none st) := po_none.imp fun σ H Q ⟨ι, env, st, S, E, q⟩ => q H ι (.refl _ _) S
theorem o_some (ha : PE X a (tE X.K C ma)) (oa : MonoE ma) : PO X (some a) (tOp' X.K C fun env st Q => ma env st fun x s1 => (match x with
    | .int i => Q (some i) s1
    | _ => False)) :=
  (po_some ha).imp fun σ H Q ⟨ι, env, st, S, E, q⟩ => tE.step oa S E q fun d s1 x H1 ι1 q e1 S1 E1 r1 => by
    cases d with
    | int i =>
      simp only [Rep] at r1
      exact ⟨i, r1, q H1 ι1 e1 S1⟩
    | _ => exact q.elim
theorem e_slc {m : Bool} {p2 : Pos} (ha : PE X a (tE X.K C ma)) (hl : PO X lo (tOp' X.K C mlo)) (hh : PO X hi (tOp' X.K C mhi)) (oa : MonoE ma) (ol : MonoO mlo) (oh : MonoO mhi) :
    PE X (.Subscript a (.Slice lo hi none p2) pos) (tE X.K C fun env st Q => ma env st fun x s1 => mlo env s1 fun l s2 => mhi env s2 fun u s3 => slcD m x l u s3 Q) :=
  (pe_slice (slc_ok m) ha hl hh).imp fun σ H Q ⟨ι, env, st, S, E, q⟩ => tE.step oa S E q fun d s1 x H1 ι1 q e1 S1 E1 r1 => tOp'.step ol S1 E1 q fun l s2 H2 ι2 q e2 S2 E2 => tOp'.step oh S2 E2 q fun u s3 H3 ι3 q e3 S3 E3 =>
    ⟨ι3, s3, d, S3, (r1.mono e2).mono e3, slcD_mono (fun _ _ h => h.ext ((e1.trans e2).trans e3)) q⟩
theorem e_rev {m : Bool} {k : Nat} {p1 p2 p3 : Pos} (ha : PE X a (tE X.K C ma)) (oa : MonoE ma) : PE X (.Subscript a (.Slice none none (some (.UnaryOp .USub (.Constant (.int 1) k p1) p2)) p3) pos) (tE X.K C fun env st Q => ma env st fun x s1 => revD m x s1 Q) :=
  (pe_revA ha).imp fun σ H Q ⟨ι, env, st, S, E, q⟩ => tE.step oa S E q fun d s1 x H1 ι1 q e1 S1 E1 r1 => by
    unfold revD at q
    split at q
    · obtain ⟨p, vs, rfl, h1, h2⟩ := tup_ok r1
      exact ⟨p, vs, rfl, .inr ⟨h1, tup_new S1 h2.reverse (q.ext e1)⟩⟩
    · obtain ⟨xs, e2, q⟩ := opt_some q
      obtain ⟨p, vs, rfl, h1, h2⟩ := asR_ok S1 r1 e2
      exact ⟨p, vs, rfl, .inl ⟨h1, new_ok S1 h2.reverse (new_mono (fun _ _ h => h.ext e1) q)⟩⟩
end
end MI

set_option maxRecDepth 100000
/-! MI, part 7: what is walked: lists, tuples, ranges, enumerate of either. -/
namespace PySem
open Sem (wp)
open AutoSeq1 (wpAny_loadPart')
theorem mi_meets_enumerate_newT (l : Addr) (items : Array Value) (n : Nat) (dct : Option Addr) (sl : Array (Option Value)) :
    Meets (Builtin.«enumerate.__new__» ⟨[.type "enumerate", .ref l], []⟩) (fun _ R s => s.heap.get? l = some { cls := .type "tuple", dict := dct, data := .seq items n, slots := sl } ∧
      R (.ok (.ret (.ref (s.heap.push { cls := .type "tuple_iterator", data := .fields #[.ref l, .int 0 0] }).objs.size)))
        { s with heap := (s.heap.push { cls := .type "tuple_iterator", data := .fields #[.ref l, .int 0 0] }).push { cls := .type "enumerate", data := .fields #[.none, .bool false, .ref s.heap.objs.size, rawInt 0, .none, .none] } }) :=
  .of_wp fun prog w A R s h => by
    obtain ⟨hp, g, d, tk, os⟩ := s; obtain ⟨hl, h⟩ := h
    have hsub := sub_enumerate
    have hL : Heap.IsTuple (Shared.heap ⟨hp, g, d, tk, os⟩) l items := ⟨_, hl, rfl, n, rfl⟩
    wp_walk using wpAny_loadPart' hl
    refine wpAny_stack_any fun st => wpAny_pure ?_
    split
    · rename_i c _ _ _ _ _
      cases (c == Value.type "enumerate")
      · wp_walk using wpAny_loadPart' hl, wpAny_pyIter_tuple hL
        exact ⟨_, rfl, h⟩
      · wp_walk using wpAny_loadPart' hl, wpAny_pyIter_tuple hL
        exact ⟨_, rfl, h⟩
    · wp_walk using wpAny_loadPart' hl, wpAny_pyIter_tuple hL
      exact ⟨_, rfl, h⟩
section
variable {prog : Program} {w : World} {A : Around} {E : Value → Shared → Prop} {s : Shared}
theorem mi_call_enumerate_tuple {l : Addr} {items : Array Value} {Q : Value → Shared → Prop} (hL : s.heap.IsTuple l items)
    (h : ∀ h', IsEnum h' (s.heap.objs.size + 1) s.heap.objs.size 0 .none → h'.IsTupleIter s.heap.objs.size l 0 → h'.objs.size = s.heap.objs.size + 2 →
      (∀ b o, s.heap.get? b = some o → h'.get? b = some o) → Q (.ref (s.heap.objs.size + 1)) { s with heap := h' }) :
    wpAny (model prog w) A (call (.type "enumerate") [.ref l]) Q E s := by
  obtain ⟨⟨c, dct, dt, sl⟩, hl, hc, n, hd⟩ := hL
  replace hc : c = .type "tuple" := hc
  replace hd : dt = .seq items n := hd
  subst hc hd
  refine callType_new F.called_enumerate (by decide) (F.typeCall_enumerate_1 _) (F.newCall_enumerate_1 _) (fun obj => F.args_object_init_2 obj _) F.entry_enumerate_new
    (mi_meets_enumerate_newT l items n dct sl) ⟨hl, ?_⟩
  have hz : (s.heap.push { cls := .type "tuple_iterator", data := .fields #[.ref l, .int 0 0] }).objs.size = s.heap.objs.size + 1 := Heap.size_push ..
  show _ ∧ _
  rw [hz]
  have he : IsEnum ((s.heap.push { cls := .type "tuple_iterator", data := .fields #[.ref l, .int 0 0] }).push
      { cls := .type "enumerate", data := .fields #[.none, .bool false, .ref s.heap.objs.size, rawInt 0, .none, .none] }) (s.heap.objs.size + 1) s.heap.objs.size 0 .none := by
    have := Heap.get?_push_size (s.heap.push { cls := .type "tuple_iterator", data := .fields #[.ref l, .int 0 0] })
      (o := { cls := .type "enumerate", data := .fields #[.none, .bool false, .ref s.heap.objs.size, rawInt 0, .none, .none] }) rfl
    rw [hz] at this; exact this
  refine ⟨⟨_, he, rfl⟩, h _ he ⟨_, Heap.get?_push_of_some _ (Heap.get?_push_size _ rfl), rfl, rfl⟩ (by rw [Heap.size_push, hz]) fun b o x => Heap.get?_push_of_some _ (Heap.get?_push_of_some _ x)⟩
end
end PySem

namespace MI
open PySem PySem.Spec PyProof.Rows L2

def IteT (K : PySem.W.Frag) (a : Addr) : It :=
  ⟨fun i H => ∃ (xs : List V) (x : V), SqT K H a xs ∧ xs[i]? = some x, fun i H v H' => ∃ T x, v = .ref T ∧ H T = none ∧ H' = upd H T (.tup [.int (i : Nat), x]) ∧ ∀ xs, SqT K H a xs → xs[i]? = some x, fun i H => ∃ xs : List V, SqT K H a xs ∧ xs.length ≤ i⟩
theorem turn_enumT {P : Program} {w : World} {K : PySem.W.Frag} {elts : List Expr} {kk : Nat} {tpos : Pos} (a e it : Addr) :
    Turn P w K (.Tuple elts kk tpos) (IteT K a) [e, it] e (fun i h => (∃ old, IsEnum h e it ((i : Nat) : Int) old) ∧ h.IsTupleIter it a i ∧ e ≠ it ∧ e ≠ a ∧ a ≠ it) where
  mem := by simp
  obj := fun i h st b hb => by
    obtain ⟨⟨old, he⟩, ⟨o, ho, hc, hd⟩, _⟩ := st
    have e' : b = e ∨ b = it := by simpa using hb
    rcases e' with z | z
    · rw [z]; exact ⟨_, he, fun v q => nomatch q⟩
    · rw [z]; exact ⟨o, ho, fun v q => by rw [hd] at q; cases q⟩
  keep := fun i h h' st k => let ⟨⟨old, he⟩, hi, hne⟩ := st; ⟨⟨old, k e (by simp) _ he⟩, hi.at fun o q => k it (by simp) o q, hne⟩
  item := by
    intro X hP hw hK hc i pins s σ H E I hf st hg
    subst hP hw hK
    obtain ⟨⟨old, he⟩, hit, hne, hea, hai⟩ := st
    obtain ⟨xs, x, hq, hx⟩ := hg
    obtain ⟨its, rv, p, hz⟩ := I.tuple hq
    obtain ⟨u, hu, ru⟩ := rv.get hx
    have hel : e < s.heap.objs.size := Heap.lt_size he
    have hil : it < s.heap.objs.size := by obtain ⟨_, q, _⟩ := hit; exact Heap.lt_size q
    have D := Draws.tuple (prog := X.prog) (w := X.w) (A := X.A.in1) (I.ok.hd hc) it a hai its.toArray
    have hlt : i < its.toArray.size := by
      rw [List.size_toArray]
      exact (List.getElem?_eq_some_iff.mp hu).1
    refine wpAny_pyNext_enum_itemD D he ⟨hit, p⟩ hlt hne (by simp [hne, hea]) fun x' h' tk hx' ho st' hT hsz hk => ?_
    have ex : x' = u := by
      have h1 : its.toArray[i]? = some x' := hx'
      have h2 : its.toArray[i]? = some u := by simpa using hu
      rw [h1] at h2; exact Option.some.inj h2
    subst ex
    refine ⟨_, rfl, wpAny_letOwnedTupleGo_enum (s := { s with heap := h', toks := tk + 1 }) ho fun h'' he' sb => ?_⟩
    have hT2 : h''.get? s.heap.objs.size = some { cls := .type "tuple", data := .seq #[.int i tk, x'] } := (sb.2 _ (Nat.ne_of_gt hel)).trans hT
    have new : ObjOk X.prog X.w (upd H s.heap.objs.size (.tup [.int (i : Nat), x])) h'' s.heap.objs.size (.tup [.int (i : Nat), x]) :=
      ⟨by show 2 ≤ sizeLine; decide, [.int i tk, x'], .cons ⟨_, rfl⟩ (.cons ru .nil), ⟨_, hT2, rfl, _, rfl⟩⟩
    have I1 : Inv X pins σ (upd H s.heap.objs.size (.tup [.int (i : Nat), x])) { s with heap := h'', toks := tk + 1 } :=
      I.turnedNew (ch := [e, it]) (fun b ob hb q => (sb.2 b (fun z => hb (by simp [z]))).trans (hk b ob (fun z => hb (by simp [z])) (fun z => hb (by simp [z])) q)) hf (Nat.le_refl _) new
    refine ⟨.ref s.heap.objs.size, _, I1, rfl, ⟨_, x, rfl, I.hok.fresh (Nat.le_refl _), rfl, fun ys hy => by rw [I.tuple_inj hy hq]; exact hx⟩, ⟨⟨x', ?_⟩, st'.1.at fun o q => (sb.2 it (Ne.symm hne)).trans q, hne, hea, hai⟩, fun b hb => ?_⟩
    · have e1 : ((i + 1 : Nat) : Int) = (i : Int) + 1 := by omega
      rw [e1]; exact he'
    · have hb' : b < s.heap.objs.size := by
        have e' : b = e ∨ b = it := by simpa using hb
        rcases e' with z | z
        · rw [z]; exact hel
        · rw [z]; exact hil
      rw [upd_ne (Nat.ne_of_lt hb')]
      exact (hf b hb).1
  done := by
    intro X hP hw hK hc i pins s σ H E I hf st hg
    subst hP hw hK
    obtain ⟨⟨old, he⟩, hit, hne, hea, hai⟩ := st
    obtain ⟨xs, hq, hx⟩ := hg
    obtain ⟨its, rv, p, hz⟩ := I.tuple hq
    obtain ⟨f0, f1, f2, f3, f4, f5⟩ := hf it (by simp)
    have hl := rv.length
    have D := Draws.tuple (prog := X.prog) (w := X.w) (A := X.A.in1) (I.ok.hd hc) it a hai its.toArray
    by_cases hi : i = its.toArray.size
    · subst hi
      exact wpAny_pyNext_enum_endD D he ⟨hit, p⟩ fun h' eb => ⟨rfl, I.turned (t' := s.toks) (fun b o hb q => eb b o hb q) f0 f1 f3 f4 f5⟩
    · have hgt : its.toArray.size < i := by rw [List.size_toArray] at hi ⊢; omega
      have hT : s.TypeIs (.ref e) "enumerate" := ⟨_, he, rfl⟩
      unfold pyNext
      refine wpAny_bind (wpAny_attempt (wpAny_callSpecial?_slot (name := Str.ofString "__next__") hT F.slot_enumerate_next
        (wpAny_call_entry F.slot_enumerate_next hT F.entry_enumerate_next ?_ (F.args_enumerate_next_1 _))))
      show wpAny _ _ (field (.ref e) 2 >>= _) _ _ _
      refine wpAny_bind (wpAny_field he rfl (x := .ref it) rfl ?_)
      refine wpAny_bind (wpAny_nextOf_tuple_end (show X.A.in1.handled = none from I.ok.hd hc) hit p (by simp only [Array.getElem?_eq_none_iff]; omega) fun h' x he' hx' => ?_)
      obtain ⟨o, ho, hcl⟩ := hx'
      refine wpAny_bind (wpAny_isInstance (T := "StopIteration") (b := true) ⟨o, ho, hcl⟩ isSubtype_stop ?_)
      exact wpAny_pure ⟨rfl, I.turned (t' := s.toks) (fun b o hb q => he' b o hb q) f0 f1 f3 f4 f5⟩
  self := fun A i s Q E st h => let ⟨⟨_, he⟩, _⟩ := st; wpAny_pyIter_enum he h
def iEnumA (K : PySem.W.Frag) (ta : TA) : TI := fun σ H R => ta σ H fun vs H1 => ∃ a xs, vs = [.ref a] ∧ ((SqL K H1 a xs ∧ R (Ite K a) H1) ∨ (SqT K H1 a xs ∧ R (IteT K a) H1))
theorem pi_enumA {X : Cx} {e : Expr} {ta : TA} {p pos tpos : Pos} {elts : List Expr} {kk : Nat} (hg : Gl X "enumerate") (hm : X.mg "enumerate" = none) (ha : PA X [e] ta) (hs : starEach [e] X.env = [(false, eval e X.env)]) :
    PI X (.Tuple elts kk tpos) (.Call (.Name "enumerate" p) [e] [] pos) (iEnumA X.K ta) := by
  refine ⟨fun pins s σ H R I h => ?_⟩
  refine Call_ (ld_blt I hg hm boot_enumerate (PyProof.Rows.callWith_type1 (thn (ha.run pos pins s σ H _ I h) fun us s1 ⟨vs, H1, I1, r1, q1⟩ => ?_) hs rfl))
  obtain ⟨a, xs, ex, hq⟩ := q1
  subst ex
  cases r1 with
  | cons r rr =>
    cases rr
    cases r
    have fp : ∀ b ∈ [s1.heap.objs.size + 1, s1.heap.objs.size], FpOk X pins H1 b := fun b hb => by
      have e' : b = s1.heap.objs.size + 1 ∨ b = s1.heap.objs.size := by simpa using hb
      have hle : s1.heap.objs.size ≤ b := by
        rcases e' with z | z
        · rw [z]; exact Nat.le_add_right _ _
        · rw [z]; exact Nat.le_refl _
      exact I1.fpOk hle (I1.hok.fresh hle)
    rcases hq with ⟨hq, q⟩ | ⟨hq, q⟩
    · obtain ⟨its, rv, p', hz⟩ := I1.list hq
      refine call_enumerate_list p'.isList fun h' he hit hsz hk => wpAny_pyIter_enum he ?_
      have I2 : Inv X pins σ H1 { s1 with heap := h' } := I1.kept (t' := s1.toks) hk
      exact ⟨s1.heap.objs.size + 1, [s1.heap.objs.size + 1, s1.heap.objs.size], _, _, H1, rfl, I2, turn_enum a (s1.heap.objs.size + 1) s1.heap.objs.size, ⟨⟨.none, he⟩, hit, Nat.succ_ne_self _⟩, fp, q⟩
    · obtain ⟨its, rv, p', hz⟩ := I1.tuple hq
      have hal : a < s1.heap.objs.size := p'.lt
      refine mi_call_enumerate_tuple (show s1.heap.IsTuple a its.toArray from p') fun h' he hit hsz hk => wpAny_pyIter_enum he ?_
      have I2 : Inv X pins σ H1 { s1 with heap := h' } := I1.kept (t' := s1.toks) hk
      exact ⟨s1.heap.objs.size + 1, [s1.heap.objs.size + 1, s1.heap.objs.size], _, _, H1, rfl, I2, turn_enumT a (s1.heap.objs.size + 1) s1.heap.objs.size,
        ⟨⟨.none, he⟩, hit, Nat.succ_ne_self _, Nat.ne_of_gt (Nat.lt_succ_of_lt hal), Nat.ne_of_lt hal⟩, fp, q⟩
def iSeq (K : PySem.W.Frag) (tl : TE) : TI := fun σ H R => tl σ H fun x H1 => ∃ a xs, x = .ref a ∧ ((SqL K H1 a xs ∧ R (Itl K a) H1) ∨ (SqT K H1 a xs ∧ R (Itt K a) H1))
theorem pi_seq {X : Cx} {tg l : Expr} {tl : TE} (hl : PE X l tl) : PI X tg l (iSeq X.K tl) := by
  refine ⟨fun pins s σ H R I h => ?_⟩
  refine thn (hl.run pins s σ H _ I h) fun v s1 ⟨x, H1, I1, r1, q1⟩ => ?_
  obtain ⟨a, xs, e, hq⟩ := q1
  subst e
  cases r1
  have fp : ∀ b ∈ [s1.heap.objs.size], FpOk X pins H1 b := fun b hb => by
    have e : b = s1.heap.objs.size := by simpa using hb
    subst e
    exact I1.fpOk (Nat.le_refl _) (I1.hok.fresh (Nat.le_refl _))
  rcases hq with ⟨hq, q⟩ | ⟨hq, q⟩
  · obtain ⟨its, rv, p, hz⟩ := I1.list hq
    refine wpAny_pyIter_list p.isList ?_
    exact ⟨s1.heap.objs.size, [s1.heap.objs.size], _, _, H1, rfl, I1.kept (t' := s1.toks) fun b o e => Heap.get?_push_of_some _ e, turn_list a _, ⟨_, Heap.get?_push_size _ rfl, rfl, rfl⟩, fp, q⟩
  · obtain ⟨its, rv, p, hz⟩ := I1.tuple hq
    refine wpAny_pyIter_tuple (show s1.heap.IsTuple a its.toArray from p) ?_
    exact ⟨s1.heap.objs.size, [s1.heap.objs.size], _, _, H1, rfl, I1.kept (t' := s1.toks) fun b o e => Heap.get?_push_of_some _ e, turn_tuple a _, ⟨_, Heap.get?_push_size _ rfl, rfl, rfl⟩, fp, q⟩

/-! ### told by data -/
section
variable {K : PySem.W.Frag} {C : Nat → Addr} {H1 : Hp} {ι1 : Io} {x : V} {d : D} {xs : List D} {a : Addr}
theorem Kp.trans {H H1 H2 : Hp} {ι ι1 ι2 : Io} (a : Kp H ι H1 ι1) (b : Kp H1 ι1 H2 ι2) : Kp H ι H2 ι2 := ⟨a.pre.trans b.pre, fun c o h n => let ⟨h1, n1⟩ := a.keep c o h n; b.keep c o h1 n1⟩
theorem its_list (r : Rep K C H1 ι1 d (.ref a)) {st1 : Sto} (hl : ∀ st, asSeq st d = some xs → asR st d = some xs) : ItsR K C H1 ι1 ⟨xs, fun s => asSeq s d = some xs⟩ (Itl K a) := fun i H ι st e S k => by
  obtain ⟨b, vs, eb, h1, h2⟩ := asR_ok S (r.kp e) (hl st k)
  cases eb
  refine ⟨fun hi => ?_, fun hi => ⟨vs, h1, by rw [← h2.length]; exact hi⟩⟩
  obtain ⟨v, e1, e2⟩ := h2.get (List.getElem?_eq_getElem hi)
  refine ⟨⟨vs, v, h1, e1⟩, fun y H' ⟨eq, hy⟩ => ?_⟩
  subst eq
  have ev : y = v := Option.some.inj ((hy vs h1).symm.trans e1)
  subst ev
  exact ⟨_, List.getElem?_eq_getElem hi, .refl _ _, S, e2⟩
theorem its_tup (r : Rep K C H1 ι1 (.tup xs) (.ref a)) : ItsR K C H1 ι1 ⟨xs, fun s => asSeq s (.tup xs) = some xs⟩ (Itt K a) := fun i H ι st e S k => by
  obtain ⟨b, vs, eb, h1, h2⟩ := tup_ok (r.kp e)
  cases eb
  refine ⟨fun hi => ?_, fun hi => ⟨vs, h1, by rw [← h2.length]; exact hi⟩⟩
  obtain ⟨v, e1, e2⟩ := h2.get (List.getElem?_eq_getElem hi)
  refine ⟨⟨vs, v, h1, e1⟩, fun y H' ⟨eq, hy⟩ => ?_⟩
  subst eq
  have ev : y = v := Option.some.inj ((hy vs h1).symm.trans e1)
  subst ev
  exact ⟨_, List.getElem?_eq_getElem hi, .refl _ _, S, e2⟩
theorem enumF_get : ∀ {xs : List D} {k i : Nat} {d : D}, xs[i]? = some d → (enumF k xs)[i]? = some (.tup [.int (k + i : Nat), d])
  | [], _, _, _, h => by simp at h
  | x :: r, k, 0, d, h => by simp at h; subst h; rfl
  | x :: r, k, i + 1, d, h => by
    have := enumF_get (xs := r) (k := k + 1) (i := i) (by simpa using h)
    rw [show k + 1 + i = k + (i + 1) by omega] at this
    simpa [enumF] using this
theorem enumL_get {xs : List D} {i : Nat} {d : D} (h : xs[i]? = some d) : (enumL xs)[i]? = some (.tup [.int i, d]) := by
  have := enumF_get (k := 0) h
  rwa [Nat.zero_add] at this
theorem enumF_length : ∀ (xs : List D) (k : Nat), (enumF k xs).length = xs.length
  | [], _ => rfl
  | x :: r, k => by simp [enumF, enumF_length r]
theorem enumL_length (xs : List D) : (enumL xs).length = xs.length := enumF_length xs 0
theorem rep_pair {H : Hp} {ι : Io} {st : Sto} {T : Addr} {i : Int} {v : V} {d : D} (S : Sim K C H ι st) (hT : H T = none) (r : Rep K C H ι d v) :
    Ext H ι (upd H T (.tup [.int i, v])) ι ∧ Sim K C (upd H T (.tup [.int i, v])) ι st ∧ Rep K C (upd H T (.tup [.int i, v])) ι (.tup [.int i, d]) (.ref T) := by
  obtain ⟨e, S'⟩ := S.imm (o := .tup [.int i, v]) hT
  refine ⟨e, S', ?_⟩
  simp only [Rep]
  exact ⟨T, _, rfl, ⟨upd_same, S.fresh hT⟩, .cons rep_int (.one (r.mono e))⟩
theorem its_enumL (r : Rep K C H1 ι1 d (.ref a)) (hl : ∀ st, asSeq st d = some xs → asR st d = some xs) : ItsR K C H1 ι1 ⟨enumL xs, fun s => asSeq s d = some xs⟩ (Ite K a) := fun i H ι st e S k => by
  obtain ⟨b, vs, eb, h1, h2⟩ := asR_ok S (r.kp e) (hl st k)
  cases eb
  refine ⟨fun hi => ?_, fun hi => ⟨vs, h1, by rw [← h2.length, ← enumL_length]; exact hi⟩⟩
  have hi : i < xs.length := by rw [← enumL_length]; exact hi
  obtain ⟨v, e1, e2⟩ := h2.get (List.getElem?_eq_getElem hi)
  refine ⟨⟨vs, v, h1, e1⟩, fun y H' ⟨T, z, ey, hT, eH, hy⟩ => ?_⟩
  subst ey eH
  have ev : z = v := Option.some.inj ((hy vs h1).symm.trans e1)
  subst ev
  exact ⟨_, enumL_get (List.getElem?_eq_getElem hi), rep_pair S hT e2⟩
theorem its_enumT (r : Rep K C H1 ι1 (.tup xs) (.ref a)) : ItsR K C H1 ι1 ⟨enumL xs, fun s => asSeq s (.tup xs) = some xs⟩ (IteT K a) := fun i H ι st e S k => by
  obtain ⟨b, vs, eb, h1, h2⟩ := tup_ok (r.kp e)
  cases eb
  refine ⟨fun hi => ?_, fun hi => ⟨vs, h1, by rw [← h2.length, ← enumL_length]; exact hi⟩⟩
  have hi : i < xs.length := by rw [← enumL_length]; exact hi
  obtain ⟨v, e1, e2⟩ := h2.get (List.getElem?_eq_getElem hi)
  refine ⟨⟨vs, v, h1, e1⟩, fun y H' ⟨T, z, ey, hT, eH, hy⟩ => ?_⟩
  subst ey eH
  have ev : z = v := Option.some.inj ((hy vs h1).symm.trans e1)
  subst ev
  exact ⟨_, enumL_get (List.getElem?_eq_getElem hi), rep_pair S hT e2⟩
theorem rngL_length (lo : Int) (n : Nat) (c : Int) : (rngL lo n c).length = n := by unfold rngL; simp
theorem rngL_get {lo : Int} {n i : Nat} {c : Int} (h : i < n) : (rngL lo n c)[i]? = some (.int (lo + (i : Nat) * c)) := by
  unfold rngL
  rw [List.getElem?_map, List.getElem?_range h]
  rfl
theorem its_rng {lo : Int} {n : Nat} : ItsR K C H1 ι1 ⟨rngL lo n 1, fun _ => True⟩ (Itr lo n) := fun i H ι st e S k => by
  refine ⟨fun hi => ?_, fun hi => by
    have hi : (rngL lo n 1).length ≤ i := hi
    rw [rngL_length] at hi
    exact hi⟩
  have hi : i < n := by rw [← rngL_length lo n 1]; exact hi
  refine ⟨hi, fun y H' ⟨eq, hy⟩ => ?_⟩
  subst eq hy
  exact ⟨_, rngL_get hi, .refl _ _, S, by rw [Int.mul_one]; exact rep_int⟩
theorem its_rngC {lo c : Int} {n : Nat} : ItsR K C H1 ι1 ⟨rngL lo n c, fun _ => True⟩ (Itc lo c n) := fun i H ι st e S k => by
  refine ⟨fun hi => ?_, fun hi => by
    have hi : (rngL lo n c).length ≤ i := hi
    rw [rngL_length] at hi
    exact hi⟩
  have hi : i < n := by rw [← rngL_length lo n c]; exact hi
  refine ⟨hi, fun y H' ⟨eq, hy⟩ => ?_⟩
  subst eq hy
  exact ⟨_, rngL_get hi, .refl _ _, S, rep_int⟩
theorem asSeq_split {st : Sto} {d : D} {xs : List D} (h : asSeq st d = some xs) : (d = .tup xs) ∨ ((∀ ys, d ≠ .tup ys) ∧ asR st d = some xs) := by
  unfold asSeq at h
  split at h
  · cases h; exact .inl rfl
  · rename_i hd; exact .inr ⟨fun ys e => hd ys e, h⟩
theorem asSeq_asR {d : D} (h : ∀ ys, d ≠ .tup ys) (st : Sto) : asSeq st d = asR st d := by
  unfold asSeq
  split
  · exact absurd rfl (h _)
  · rfl
end
section
variable {X : Cx} {C : Nat → Addr} {a b c tg : Expr} {pos : Pos} {ma mb mc : Ev → Sto → Kd → Prop}
theorem i_seq (ha : PE X a (tE X.K C ma)) (oa : MonoE ma) : PI X tg a (tIt X.K C fun env st R => ma env st fun x s1 => opt (asSeq s1 x) fun xs => R ⟨xs, fun s => asSeq s x = some xs⟩ s1) :=
  (pi_seq ha).imp fun σ H R ⟨ι, env, st, S, E, q⟩ => tE.step oa S E q fun d s1 x H1 ι1 q e1 S1 E1 r1 => by
    obtain ⟨xs, e2, q⟩ := opt_some q
    rcases asSeq_split e2 with rfl | ⟨hd, h⟩
    · obtain ⟨p, vs, rfl, h1, h2⟩ := tup_ok r1
      exact ⟨p, vs, rfl, .inr ⟨h1, q _ _ _ e1 S1 (its_tup r1)⟩⟩
    · obtain ⟨p, vs, rfl, h1, h2⟩ := asR_ok S1 r1 h
      exact ⟨p, vs, rfl, .inl ⟨h1, q _ _ _ e1 S1 (its_list (st1 := s1) r1 fun st k => by rw [← asSeq_asR hd]; exact k)⟩⟩
theorem its_str {K : PySem.W.Frag} {H1 : Hp} {ι1 : Io} {z : Str} : ItsR K C H1 ι1 ⟨charsD z, fun _ => True⟩ (L2.Its z) := fun i H ι st e S k => by
  have hl : (charsD z).length = z.cps.size := by simp [charsD]
  refine ⟨fun hi => ⟨?_, fun x H' y => ?_⟩, fun hi => ?_⟩
  · show i < z.cps.size
    rw [← hl]; exact hi
  · obtain ⟨rfl, c, hc, rfl⟩ := y
    refine ⟨.str ⟨#[c]⟩, ?_, .refl _ _, S, by simp only [Rep]⟩
    show (charsD z)[i]? = _
    unfold charsD
    rw [List.getElem?_map, Array.getElem?_toList, hc]; rfl
  · show z.cps.size ≤ i
    rw [← hl]; exact hi
theorem i_chars (ha : PE X a (tE X.K C ma)) (oa : MonoE ma) : PI X tg a (tIt X.K C fun env st R => ma env st fun x s1 => (match x with
    | .str z => R ⟨charsD z, fun _ => True⟩ s1
    | _ => False)) :=
  (pi_str ha).imp fun σ H R ⟨ι, env, st, S, E, q⟩ => tE.step oa S E q fun d s1 x H1 ι1 q e1 S1 E1 r1 => by
    cases d with
    | str z =>
      simp only [Rep] at r1
      exact ⟨z, r1, q _ _ _ e1 S1 its_str⟩
    | _ => exact q.elim
theorem l_one {e : Expr} {m : Ev → Sto → Kd → Prop} (ha : PE X e (tE X.K C m)) (hs : starEach [e] X.env = (false, eval e X.env) :: starEach [] X.env) : PA X [e] (tCons (tE X.K C m) tNil) := pa_cons ha pa_nil hs
theorem i_enum {elts : List Expr} {kk : Nat} {tpos p : Pos} (hg : Gl X "enumerate") (hm : X.mg "enumerate" = none) (ha : PE X a (tE X.K C ma)) (oa : MonoE ma) (hs : starEach [a] X.env = (false, eval a X.env) :: starEach [] X.env) :
    PI X (.Tuple elts kk tpos) (.Call (.Name "enumerate" p) [a] [] pos) (tIt X.K C fun env st R => ma env st fun x s1 => opt (asSeq s1 x) fun xs => R ⟨enumL xs, fun s => asSeq s x = some xs⟩ s1) :=
  (pi_enumA hg hm (pa_cons ha pa_nil hs) hs).imp fun σ H R ⟨ι, env, st, S, E, q⟩ => tE.step oa S E q fun d s1 x H1 ι1 q e1 S1 E1 r1 => by
    obtain ⟨xs, e2, q⟩ := opt_some q
    rcases asSeq_split e2 with rfl | ⟨hd, h⟩
    · obtain ⟨p, vs, rfl, h1, h2⟩ := tup_ok r1
      exact ⟨p, vs, rfl, .inr ⟨h1, q _ _ _ e1 S1 (its_enumT r1)⟩⟩
    · obtain ⟨p, vs, rfl, h1, h2⟩ := asR_ok S1 r1 h
      exact ⟨p, vs, rfl, .inl ⟨h1, q _ _ _ e1 S1 (its_enumL r1 fun st k => by rw [← asSeq_asR hd]; exact k)⟩⟩
theorem i_rng1 {p : Pos} (hg : Gl X "range") (hm : X.mg "range" = none) (ha : PE X a (tE X.K C ma)) (oa : MonoE ma) (hs : starEach [a] X.env = (false, eval a X.env) :: starEach [] X.env) :
    PI X tg (.Call (.Name "range" p) [a] [] pos) (tIt X.K C fun env st R => ma env st fun x s1 => (match x with
    | .int j => -(2 ^ 62) ≤ j ∧ j < 2 ^ 62 ∧ R ⟨rngL 0 j.toNat 1, fun _ => True⟩ s1
    | _ => False)) :=
  (pi_range1 hg hm (pa_cons ha pa_nil hs) hs).imp fun σ H R ⟨ι, env, st, S, E, q⟩ => tE.step oa S E q fun d s1 x H1 ι1 q e1 S1 E1 r1 => by
    cases d with
    | int j =>
      simp only [Rep] at r1
      subst r1
      exact ⟨j, rfl, q.1, q.2.1, q.2.2 _ _ _ e1 S1 its_rng⟩
    | _ => exact q.elim
theorem i_rng2 {p : Pos} (hg : Gl X "range") (hm : X.mg "range" = none) (ha : PE X a (tE X.K C ma)) (hb : PE X b (tE X.K C mb)) (oa : MonoE ma) (ob : MonoE mb)
    (hs : starEach [a, b] X.env = (false, eval a X.env) :: starEach [b] X.env) (hs2 : starEach [b] X.env = (false, eval b X.env) :: starEach [] X.env) :
    PI X tg (.Call (.Name "range" p) [a, b] [] pos) (tIt X.K C fun env st R => ma env st fun x s1 => mb env s1 fun y s2 => (match x, y with
    | .int i, .int j => (-(2 ^ 62) ≤ i ∧ i < 2 ^ 62 ∧ -(2 ^ 62) ≤ j ∧ j < 2 ^ 62) ∧ R ⟨rngL i (j - i).toNat 1, fun _ => True⟩ s2
    | _, _ => False)) :=
  (pi_range2 hg hm (pa_cons ha (pa_cons hb pa_nil hs2) hs) (by rw [hs, hs2]; rfl) hs2).imp fun σ H R ⟨ι, env, st, S, E, q⟩ => tE.step oa S E q fun d s1 x H1 ι1 q e1 S1 E1 r1 => tE.step ob S1 E1 q fun d2 s2 y H2 ι2 q e2 S2 E2 r2 => by
    split at q
    · simp only [Rep] at r1 r2
      subst r1 r2
      exact ⟨_, _, rfl, q.1, q.2 _ _ _ (e1.trans e2) S2 its_rng⟩
    · exact q.elim
theorem i_rng3 {p : Pos} (hg : Gl X "range") (hm : X.mg "range" = none) (ha : PE X a (tE X.K C ma)) (hb : PE X b (tE X.K C mb)) (hc : PE X c (tE X.K C mc)) (oa : MonoE ma) (ob : MonoE mb) (oc : MonoE mc)
    (hs : starEach [a, b, c] X.env = (false, eval a X.env) :: starEach [b, c] X.env) (hs2 : starEach [b, c] X.env = (false, eval b X.env) :: starEach [c] X.env) (hs3 : starEach [c] X.env = (false, eval c X.env) :: starEach [] X.env) :
    PI X tg (.Call (.Name "range" p) [a, b, c] [] pos) (tIt X.K C fun env st R => ma env st fun x s1 => mb env s1 fun y s2 => mc env s2 fun z s3 => (match x, y, z with
    | .int i, .int j, .int k => ∃ n, RgC i j k n ∧ R ⟨rngL i n k, fun _ => True⟩ s3
    | _, _, _ => False)) :=
  (pi_range3 hg hm (pa_cons ha (pa_cons hb (pa_cons hc pa_nil hs3) hs2) hs) hs (by rw [hs2, hs3]; rfl)).imp fun σ H R ⟨ι, env, st, S, E, q⟩ => tE.step oa S E q fun d s1 x H1 ι1 q e1 S1 E1 r1 => tE.step ob S1 E1 q fun d2 s2 y H2 ι2 q e2 S2 E2 r2 => tE.step oc S2 E2 q fun d3 s3 z H3 ι3 q e3 S3 E3 r3 => by
    split at q
    · simp only [Rep] at r1 r2 r3
      subst r1 r2 r3
      obtain ⟨n, q1, q⟩ := q
      exact ⟨_, _, _, n, rfl, q1, q _ _ _ ((e1.trans e2).trans e3) S3 its_rngC⟩
    · exact q.elim
end
end MI

set_option maxRecDepth 100000
/-! MI, part 8: calls, built-ins, methods, targets, comprehensions. -/
namespace MI
open PySem PySem.Spec PyProof.Rows L2

section
variable {X : Cx} {C : Nat → Addr} {a b c tg : Expr} {es : List Expr} {pos : Pos} {ma mb mc : Ev → Sto → Kd → Prop} {ml : Ev → Sto → (List D → Sto → Prop) → Prop}
/-! ### calls of defs -/
/-- a def's promise over data: n arguments -/
def spD (K : PySem.W.Frag) (C : Nat → Addr) (n : Nat) (φ : Fn) : Sp := fun vs H Q _ => ∃ ι st ds, Sim K C H ι st ∧ Reps K C H ι ds vs ∧ ds.length = n ∧ φ ds st (Post K C H ι Q)
theorem e_call {k n : Nat} {f : Addr} {fd : FuncData} {ps : List Str} {φ : Fn} {x : Str} {p : Pos} {e : Expr} (fm : MonoFn φ) (F : FnOk X.prog X.w X.K X.mg X.base CX0 k f fd ps (spD X.K C n φ)) (hr : Room k X.A) (hg : Gl X x) (hm : X.mg x = some (.ref f))
    (hk : PySem.W.keepIn X.K (.ref f) = true) (hb : Binds X.K fd ps []) (ha : PA X (e :: es) (tAr X.K C ml)) (ol : MonoL ml) (hn : ∀ env st Q, ml env st Q → ml env st fun ds s => ds.length = n ∧ Q ds s) (hdb : (x == ("__debug__" : Str)) = false)
    (he : starEach (e :: es) X.env = (false, eval e X.env) :: starEach es X.env) (hpl : (backTo pos (starEach es X.env)).any (·.1) = false) :
    PE X (.Call (.Name x p) (e :: es) [] pos) (tE X.K C fun env st Q => ml env st fun xs s1 => φ xs s1 Q) :=
  (pe_call F hr hg hm hk hb .nil pass0 ha hdb he hpl).imp fun σ H Q ⟨ι, env, st, S, E, q⟩ => tAr.step ol S E (hn _ _ _ q) fun ds s1 xs H1 ι1 q e1 S1 E1 r1 => by
    rw [List.append_nil]
    exact ⟨ι1, s1, ds, S1, r1, q.1, fm _ _ _ _ (fun _ _ h => h.ext e1) q.2⟩
theorem e_call0 {k : Nat} {f : Addr} {fd : FuncData} {ps : List Str} {φ : Fn} {x : Str} {p : Pos} (fm : MonoFn φ) (F : FnOk X.prog X.w X.K X.mg X.base CX0 k f fd ps (spD X.K C 0 φ)) (hr : Room k X.A) (hg : Gl X x) (hm : X.mg x = some (.ref f))
    (hk : PySem.W.keepIn X.K (.ref f) = true) (hb : Binds X.K fd ps []) (hdb : (x == ("__debug__" : Str)) = false) :
    PE X (.Call (.Name x p) [] [] pos) (tE X.K C fun env st Q => φ [] st Q) :=
  (pe_call0 F hr hg hm hk hb .nil pass0 hdb).imp fun σ H Q ⟨ι, env, st, S, E, q⟩ => ⟨ι, st, [], S, .nil, rfl, q⟩
/-! ### built-ins -/
theorem e_bltB {id : String} {B : Blt} {m : Bool} {x : Str} {p : Pos} {e : Expr} (hc : CallR X (.builtin id) (rBl X.K C B m)) (hg : Gl X x) (hm : X.mg x = none) (hv : bootBuiltins x = some (.builtin id)) (ha : PA X (e :: es) (tAr X.K C ml)) (ol : MonoL ml)
    (hn : x ≠ "__name__") (hdb : (x == ("__debug__" : Str)) = false) (he : starEach (e :: es) X.env = (false, eval e X.env) :: starEach es X.env) (hpl : (backTo pos (starEach es X.env)).any (·.1) = false) :
    PE X (.Call (.Name x p) (e :: es) [] pos) (tE X.K C fun env st Q => ml env st fun xs s1 => bltD B m xs s1 Q) :=
  (pe_callB hc hg hm hv ha hn hdb he hpl).imp fun σ H Q ⟨ι, env, st, S, E, q⟩ => tAr.step ol S E q fun ds s1 xs H1 ι1 q e1 S1 E1 r1 =>
    ⟨ι1, s1, ds, S1, r1, bltD_mono (fun _ _ h => h.ext e1) q⟩
theorem e_bltT {T : String} {B : Blt} {m : Bool} {x : Str} {p : Pos} {e : Expr} (hc : CallR X (.type T) (rBl X.K C B m)) (hg : Gl X x) (hm : X.mg x = none) (hv : bootBuiltins x = some (.type T)) (ha : PA X (e :: es) (tAr X.K C ml)) (ol : MonoL ml)
    (hn : x ≠ "__name__") (hdb : (x == ("__debug__" : Str)) = false) (he : starEach (e :: es) X.env = (false, eval e X.env) :: starEach es X.env) (hpl : (backTo pos (starEach es X.env)).any (·.1) = false) :
    PE X (.Call (.Name x p) (e :: es) [] pos) (tE X.K C fun env st Q => ml env st fun xs s1 => bltD B m xs s1 Q) :=
  (pe_callTy hc hg hm hv ha hn hdb he hpl).imp fun σ H Q ⟨ι, env, st, S, E, q⟩ => tAr.step ol S E q fun ds s1 xs H1 ι1 q e1 S1 E1 r1 =>
    ⟨ι1, s1, ds, S1, r1, bltD_mono (fun _ _ h => h.ext e1) q⟩
/-- the type's name of data -/
def tyD : D → Option String
  | .tup _ => some "tuple"
  | .non => some "NoneType"
  | .bl _ => some "bool"
  | .int _ => some "int"
  | .str _ => some "str"
  | _ => none
theorem isi_ok {K : PySem.W.Frag} {d : D} {v : V} {t : String} {H : Hp} {ι : Io} (r : Rep K C H ι d v) (h : tyD d = some t) : TyX K H v (.type t) := by
  cases d with
  | tup xs =>
    cases h
    simp only [Rep] at r
    obtain ⟨a, vs, rfl, h1, _⟩ := r
    exact .base (.tup h1.1)
  | non => cases h; simp only [Rep] at r; subst r; exact .base .non
  | bl b => cases h; simp only [Rep] at r; subst r; exact .base (.bl b)
  | int b => cases h; simp only [Rep] at r; subst r; exact .base (.int b)
  | str b => cases h; simp only [Rep] at r; subst r; exact .base (.str b)
  | _ => cases h
/-! ### methods of the built-in types -/
theorem recv_lst {B : Mth} {x : D} {st : Sto} (hB : B = .append ∨ B = .pop0 ∨ B = .pop1 ∨ B = .extend) (h : recv B x st) : ∃ n xs, x = .loc n ∧ st[n]? = some (.lst xs) := by
  rcases hB with rfl | rfl | rfl | rfl <;> (unfold recv at h; split at h <;> first | exact h.elim | (split at h <;> first | exact ⟨_, _, rfl, by assumption⟩ | exact h.elim) | (rename_i z; cases z; done))
/-- the receiver is of that type -/
def RecvOk (K : PySem.W.Frag) (C : Nat → Addr) (T : String) (B : Mth) : Prop := ∀ H ι st d v, Sim K C H ι st → Rep K C H ι d v → recv B d st → tyV K T v H
theorem recvL_ok {K : PySem.W.Frag} {B : Mth} (hB : B = .append ∨ B = .pop0 ∨ B = .pop1 ∨ B = .extend) : RecvOk K C "list" B := fun H ι st d v S r h => by
  obtain ⟨n, xs, rfl, hn⟩ := recv_lst hB h
  obtain ⟨p, vs, rfl, hp, h1, h2⟩ := loc_lst S r hn
  exact .inl ⟨rfl, _, .of h1⟩
theorem recvD_ok {K : PySem.W.Frag} {B : Mth} (hB : B = .get1 ∨ B = .get2 ∨ B = .dpop1 ∨ B = .dpop2) : RecvOk K C "dict" B := fun H ι st d v S r h => by
  have h : isDD st d := by rcases hB with rfl | rfl | rfl | rfl <;> exact h
  unfold isDD at h
  split at h
  · rename_i kvs e
    obtain ⟨a, kw, rfl, h1, _⟩ := objK_ok S r e
    exact .inr (.inr (.inl ⟨rfl, .inl ⟨_, h1⟩⟩))
  · rename_i kvs e
    obtain ⟨a, kw, rfl, h1, _⟩ := objT_ok S r e
    exact .inr (.inr (.inl ⟨rfl, .inr ⟨_, h1⟩⟩))
  · exact h.elim
theorem recvS_ok {K : PySem.W.Frag} : RecvOk K C "str" .join := fun H ι st d v S r h => by
  cases d with
  | str z => simp only [Rep] at r; subst r; exact rfl
  | _ => exact h.elim
theorem e_mthL {T id : String} {B : Mth} {name : Str} {apos : Pos} {e o : Expr} {mo : Ev → Sto → Kd → Prop} (hB : RecvOk X.K C T B) (hpa : PlainAttrs T)
    (slot : Slot T name id) (hty : typeOf (.builtin id) = pure (.type "method_descriptor")) (hm : MtR X id (rMt X.K C B)) (ho : PE X o (tE X.K C mo)) (oo : MonoE mo) (ha : PA X (e :: es) (tAr X.K C ml)) (ol : MonoL ml)
    (hbase : attributeBase o name X.env (eval o X.env) = eval o X.env)
    (hfew : ((backTo pos (starEach (e :: es) X.env)).all (fun x => !x.1) && (backToKw pos (keywordEach [] X.env)).all (fun x => x.1.isSome)
      && decide ((e :: es).length + ([] : List Keyword).length + (if ([] : List Keyword).isEmpty then 0 else 1) < 30)) = true)
    (hline : (apos.endLine == pos.line) = true) (hs : starEach (e :: es) X.env = (false, eval e X.env) :: starEach es X.env) (hplain : (backTo pos (starEach es X.env)).any (·.1) = false) :
    PE X (.Call (.Attribute o name apos) (e :: es) [] pos) (tE X.K C fun env st Q => mo env st fun x s1 => recv B x s1 ∧ ml env s1 fun xs s2 => mthD B x xs s2 Q) :=
  (pe_bm hpa slot hty hm ho ha hbase hfew hline hs hplain).imp fun σ H Q ⟨ι, env, st, S, E, q⟩ => tE.step oo S E q fun d s1 x H1 ι1 q e1 S1 E1 r1 => by
    obtain ⟨q0, q⟩ := q
    refine ⟨hB _ _ _ _ _ S1 r1 q0, tAr.step ol S1 E1 q fun ds s2 ys H2 ι2 q e2 S2 E2 r2 => ⟨ι2, s2, _, ds, S2, r1.mono e2, r2, mthD_mono (fun _ _ h => h.ext (e1.trans e2)) q⟩⟩
theorem e_mthL0 {T id : String} {B : Mth} {name : Str} {apos : Pos} {o : Expr} {mo : Ev → Sto → Kd → Prop} (hB : RecvOk X.K C T B) (hpa : PlainAttrs T)
    (slot : Slot T name id) (hty : typeOf (.builtin id) = pure (.type "method_descriptor")) (hm : MtR X id (rMt X.K C B)) (ho : PE X o (tE X.K C mo)) (oo : MonoE mo)
    (hbase : attributeBase o name X.env (eval o X.env) = eval o X.env) (hline : (apos.endLine == pos.line) = true) :
    PE X (.Call (.Attribute o name apos) [] [] pos) (tE X.K C fun env st Q => mo env st fun x s1 => recv B x s1 ∧ mthD B x [] s1 Q) :=
  (pe_bm0 hpa slot hty hm ho hbase hline).imp fun σ H Q ⟨ι, env, st, S, E, q⟩ => tE.step oo S E q fun d s1 x H1 ι1 q e1 S1 E1 r1 => by
    obtain ⟨q0, q⟩ := q
    exact ⟨hB _ _ _ _ _ S1 r1 q0, ⟨ι1, s1, _, [], S1, r1, .nil, mthD_mono (fun _ _ h => h.ext e1) q⟩⟩
/-! ### targets -/
theorem g_name {i : Nat} {x : Str} (hN : X.N.Nodup) (hi : X.N[i]? = some x) (hx : Loc X.env.scope x) (hf : X.fn x = true ∨ X.env.scope.names.lookup x = some .local) : PG X (.Name x pos) (tG X.K C [i] fun d env st Q => Q (env.set i (some d)) st) :=
  (pg_name hN hi hx hf).imp fun v σ H Q ⟨ι, env, st, d, S, E, r, q⟩ => q _ H ι (.refl _ _) S (E.set r i) ⟨by simp, fun j hj => by
    rw [List.getElem?_set_ne]
    simpa using fun e => hj (by simp [e])⟩
theorem gs_nil : PGs X [] (tGs X.K C [] fun xs env st Q => xs = [] ∧ Q env st) :=
  pgs_nil.imp fun v σ H Q ⟨ι, env, st, d, S, E, r, q⟩ => by
    obtain ⟨rfl, q⟩ := q
    rw [Reps.nil_iff] at r
    exact ⟨r, q _ H ι (.refl _ _) S E (.refl _ _)⟩
theorem gs_cons {e : Expr} {vs ws : List Nat} {mg : D → Ev → Sto → (Ev → Sto → Prop) → Prop} {mgs : List D → Ev → Sto → (Ev → Sto → Prop) → Prop} (h1 : PG X e (tG X.K C vs mg)) (h2 : PGs X es (tGs X.K C ws mgs)) (o1 : MonoG mg) (o2 : MonoGs mgs)
    (hs : (assignEach (e :: es) X.env).map (·.2) = assign e X.env :: (assignEach es X.env).map (·.2)) :
    PGs X (e :: es) (tGs X.K C (vs ++ ws) fun xs env st Q => (match xs with
    | [] => False
    | x :: r => mg x env st fun e1 s1 => mgs r e1 s1 Q)) :=
  (pgs_cons h1 h2 hs).imp fun v σ H Q ⟨ι, env, st, d, S, E, r, q⟩ => by
    cases d with
    | nil => exact q.elim
    | cons x ds =>
      obtain ⟨y, ys, rfl, r1, r2⟩ := Reps.cons_iff.mp r
      refine ⟨y, ys, rfl, ι, env, st, x, S, E, r1, o1 _ _ _ _ _ (fun env1 st1 q1 σ1 H1 ι1 e1 S1 E1 O1 => ?_) q⟩
      exact ⟨ι1, env1, st1, ds, S1, E1, r2.mono e1, o2 _ _ _ _ _ (fun env2 st2 q2 σ2 H2 ι2 e2 S2 E2 O2 => q2 σ2 H2 ι2 (e1.trans e2) S2 E2
        ⟨O2.1.trans O1.1, fun j hj => (O2.2 j fun z => hj (List.mem_append_right _ z)).trans (O1.2 j fun z => hj (List.mem_append_left _ z))⟩) q1⟩
theorem g_tup {k n : Nat} {vs : List Nat} {mgs : List D → Ev → Sto → (Ev → Sto → Prop) → Prop} (hc : X.calm = true) (h : PGs X es (tGs X.K C vs mgs)) (hn : (assignEach es X.env).length = n) (hst : (assignEach es X.env).findIdx? (·.1) = none) :
    PG X (.Tuple es k pos) (tG X.K C vs fun d env st Q => (match d with
    | .tup xs => xs.length = n ∧ mgs xs env st Q
    | d => opt (asR st d) fun xs => xs.length = n ∧ mgs xs env st Q)) := by
  refine ⟨fun pins s σ H v u Q I r hw => ?_⟩
  obtain ⟨ι, env, st, d, S, E, r', q⟩ := hw
  have key : ∀ d, Rep X.K C H ι d v → (opt (asR st d) fun xs => xs.length = n ∧ mgs xs env st fun env' st' => ∀ σ' H' ι', Ext H ι H' ι' → Sim X.K C H' ι' st' → EnvR X.K C H' ι' σ' env' → Outside vs σ σ' → Q σ' H') →
      wpAny (model X.prog X.w) X.A (assign (.Tuple es k pos) X.env u) (fun _ s' => ∃ σ' H', Inv X pins σ' H' s' ∧ Q σ' H') X.xe s := fun d r q => by
    obtain ⟨xs, e1, hl, q⟩ := opt_some q
    obtain ⟨a, ws, rfl, h1, h2⟩ := asR_ok S r e1
    exact (pg_unl hc h hn hst).run pins s σ H _ u Q I ‹_› ⟨a, ws, rfl, h1, by rw [← h2.length]; exact hl, ι, env, st, xs, S, E, h2, q⟩
  cases d with
  | tup xs =>
    obtain ⟨a, ws, rfl, h1, h2⟩ := tup_ok r'
    exact (pg_tup hc h hn hst).run pins s σ H _ u Q I r ⟨a, ws, rfl, h1, by rw [← h2.length]; exact q.1, ι, env, st, xs, S, E, h2, q.2⟩
  | _ => exact key _ r' q
theorem g_sub (hu : X.A.units + 1 < cLine) (ha : PE X a (tE X.K C ma)) (hb : PE X b (tE X.K C mb)) (oa : MonoE ma) (ob : MonoE mb)
    (hs : ∀ v, assign (.Subscript a b pos) X.env v = (do
      let ov ← holding [v] (eval a X.env)
      let iv ← holding [v, ov] (eval b X.env)
      standAt pos
      holding [v, ov, iv] (setItem ov iv v)
      release [v, ov, iv] [])) : PG X (.Subscript a b pos) (tG X.K C [] fun d env st Q => ma env st fun x s1 => mb env s1 fun y s2 => setD x y d s2 fun s3 => Q env s3) :=
  (pg_sub ha hb (set_ok hu) hs).imp fun v σ H Q ⟨ι, env, st, d, S, E, r, q⟩ => tE.step oa S E q fun d1 s1 x H1 ι1 q e1 S1 E1 r1 => tE.step ob S1 E1 q fun d2 s2 y H2 ι2 q e2 S2 E2 r2 =>
    ⟨ι2, s2, d1, d2, d, S2, r1.mono e2, r2, (r.mono e1).mono e2, setD_mono (fun s h H' ι' e3 S3 => h σ H' ι' ((e1.trans e2).trans e3) S3 (E2.mono e3) (.refl _ _)) q⟩
end

/-! ### comprehensions -/
section
variable {K : PySem.W.Frag} {C : Nat → Addr}
/-- what was set aside becomes the newest mutable object -/
theorem Sim.adopt {H : Hp} {l z : List Addr} {p : Addr} {st : Sto} {o : HO} {d : D} (S : Sim K C H ⟨l, p :: z⟩ st) (hz : p ∉ z) (h : H p = some o) (r : RepO K C H ⟨l, p :: z⟩ d o) :
    Kp H ⟨l, p :: z⟩ H ⟨l ++ [p], z⟩ ∧ Sim K C H ⟨l ++ [p], z⟩ (st ++ [d]) := by
  have hl : p ∉ l := (S.zin p List.mem_cons_self).2
  have e : Kp H ⟨l, p :: z⟩ H ⟨l ++ [p], z⟩ := by
    refine ⟨List.prefix_append _ _, fun a u h1 n => ⟨h1, ?_, fun q => n.2 (List.mem_cons_of_mem _ q)⟩⟩
    show ¬ a ∈ l ++ [p]
    rw [List.mem_append, List.mem_singleton]
    rintro (q | q)
    · exact n.1 q
    · exact n.2 (by rw [q]; exact List.mem_cons_self)
  have len : l.length = st.length := S.len
  refine ⟨e, by simp [len], ?_, fun a ha => ⟨(S.zin a (List.mem_cons_of_mem _ ha)).1, ?_⟩, fun n x a h1 h2 => ?_⟩
  · show (l ++ [p]).Nodup
    rw [List.nodup_append]
    exact ⟨S.nd, by simp, by rintro a ha b hb rfl; simp at hb; subst hb; exact hl ha⟩
  · show a ∉ l ++ [p]
    rw [List.mem_append, List.mem_singleton]
    rintro (q | q)
    · exact (S.zin a (List.mem_cons_of_mem _ ha)).2 q
    · exact hz (by rw [← q]; exact ha)
  · have h2 : (l ++ [p])[n]? = some a := h2
    by_cases hn : n < st.length
    · rw [List.getElem?_append_left hn] at h1
      rw [List.getElem?_append_left (by omega)] at h2
      obtain ⟨u, h3, h4⟩ := S.at_ n x a h1 h2
      exact ⟨u, h3, h4.kp e⟩
    · have hl : n = st.length := by
        have := (List.getElem?_eq_some_iff.mp h1).1
        simp at this; omega
      subst hl
      rw [List.getElem?_append_right (Nat.le_refl _)] at h1
      rw [← len, List.getElem?_append_right (Nat.le_refl _)] at h2
      simp at h1 h2
      subst h1 h2
      exact ⟨o, h, r.kp e⟩
/-- a state of a comprehension: the list at p, set aside, holds acc -/
structure LcSt (K : PySem.W.Frag) (C : Nat → Addr) (H1 : Hp) (ι1 : Io) (p : Addr) (H : Hp) (ι : Io) (st : Sto) (acc : List D) (vs : List V) : Prop where
  kp : Kp H1 ι1 H ι
  z : ι.z = p :: ι1.z
  pz : p ∉ ι1.z
  hid : ∀ a ∈ ι1.z, H a = H1 a
  sim : Sim K C H ι st
  at_ : H p = some (.lst vs)
  rep : Reps K C H ι acc vs
section
variable {H1 H H' : Hp} {ι1 ι ι' : Io} {p : Addr} {st st' : Sto} {acc : List D} {vs : List V}
theorem LcSt.begin (S : Sim K C H ι st) (h : H p = none) : LcSt K C H ι p (upd H p (.lst [])) ⟨ι.l, p :: ι.z⟩ st [] [] := by
  obtain ⟨e, S'⟩ := S.hide (o := .lst []) h
  have np := (S.fresh h).2
  exact ⟨e, rfl, np, fun a ha => upd_ne fun z => np (by rw [← z]; exact ha), S', upd_same, .nil⟩
theorem LcSt.ext (L : LcSt K C H1 ι1 p H ι st acc vs) (e : Ext H ι H' ι') (S : Sim K C H' ι' st') : LcSt K C H1 ι1 p H' ι' st' acc vs :=
  ⟨L.kp.trans e.toKp, e.zeq.trans L.z, L.pz, fun a ha => (e.hid a (by rw [L.z]; exact List.mem_cons_of_mem _ ha)).trans (L.hid a ha), S, (e.hid p (by rw [L.z]; exact List.mem_cons_self)).trans L.at_, L.rep.mono e⟩
theorem LcSt.push (L : LcSt K C H1 ι1 p H ι st acc vs) {d : D} {v : V} (r : Rep K C H ι d v) : LcSt K C H1 ι1 p (upd H p (.lst (vs ++ [v]))) ι st (acc ++ [d]) (vs ++ [v]) := by
  obtain ⟨e, S⟩ := L.sim.side (o := .lst (vs ++ [v])) (p := p) (by rw [L.z]; exact List.mem_cons_self)
  exact ⟨L.kp.trans e, L.z, L.pz, fun a ha => by rw [upd_ne fun z => L.pz (by rw [← z]; exact ha)]; exact L.hid a ha, S, upd_same, (L.rep.append (.one r)).kp e⟩
theorem LcSt.fin (L : LcSt K C H1 ι1 p H ι st acc vs) {H0 : Hp} {ι0 : Io} (e : Ext H0 ι0 H1 ι1) {m : Bool} {Q : VK} (q : new m (.lst acc) st (Post K C H0 ι0 Q)) : Q (.ref p) H := by
  obtain ⟨l, z⟩ := ι
  obtain rfl : z = p :: ι1.z := L.z
  have S := L.sim
  unfold new at q
  split at q
  · obtain ⟨k, S'⟩ := S.adopt (d := .lst acc) L.pz L.at_ (by simpa only [RepO] using L.rep)
    have e2 : Ext H1 ι1 H ⟨l ++ [p], ι1.z⟩ := ⟨L.kp.trans k, rfl, L.hid⟩
    refine q _ _ _ (e.trans e2) S' ?_
    simp only [Rep]
    have len : l.length = st.length := S.len
    exact ⟨p, rfl, by rw [← len, List.getElem?_append_right (Nat.le_refl _)]; simp⟩
  · have e2 : Ext H1 ι1 H ⟨l, ι1.z⟩ := ⟨L.kp.trans (.show p l ι1.z), rfl, L.hid⟩
    refine q _ _ _ (e.trans e2) S.show ?_
    simp only [Rep]
    exact ⟨p, vs, rfl, L.at_, ⟨(S.zin p List.mem_cons_self).2, L.pz⟩, L.rep.kp (.show p l ι1.z)⟩
end
end
section
variable {X : Cx} {C : Nat → Addr} {elt tg iter tg1 iter1 : Expr} {ifs ifs1 : List Expr} {pos : Pos} {me : Ev → Sto → Kd → Prop} {mc mc1 : Ev → Sto → (Bool → Sto → Prop) → Prop} {mg mg1 : D → Ev → Sto → (Ev → Sto → Prop) → Prop} {mi mi1 : Ev → Sto → (Its → Sto → Prop) → Prop}
theorem drop_cons {α : Type} {l : List α} {i : Nat} (h : i < l.length) : l.drop i = l[i] :: l.drop (i + 1) := List.drop_eq_getElem_cons h
theorem lc_read {m : Bool} {vs ws : List Nat} (hs : ∀ j ∈ vs, j ∈ ws) (og : MonoG mg) (oc : MonoB mc) (oe : MonoE me) (oi : MonoI mi) {σ : L2.St} {H : Hp} {Q : VK}
    (h : tE X.K C (fun env st Q => mi env st fun J s1 => lcW (fun x s K => mg x (wipeE env ws) s K) (fun e s K => mc e s K) (fun e s K => me e s K) J.keep (fun acc s2 => new m (.lst acc) s2 Q) J.items [] s1) σ H Q) :
    tLc (tIt X.K C mi) (tG X.K C vs mg) (MI.tB X.K C mc) (tE X.K C me) ws σ H Q := by
  obtain ⟨ι, env, st, S, E, q⟩ := h
  refine ⟨ι, env, st, S, E, oi _ _ _ _ (fun J s1 q T H1 ι1 e1 S1 its p hp => ?_) q⟩
  refine ⟨fun i mm H' => mm = J.items.length - i ∧ i ≤ J.items.length ∧ ∃ ι' st' acc vs', LcSt X.K C H1 ι1 p H' ι' st' acc vs' ∧
    lcW (fun x s K => mg x (wipeE env ws) s K) (fun e s K => mc e s K) (fun e s K => me e s K) J.keep (fun acc s2 => new m (.lst acc) s2 (Post X.K C H ι Q)) (J.items.drop i) acc st',
    ⟨J.items.length, by omega, Nat.zero_le _, _, s1, [], [], .begin S1 hp, q⟩, ?_⟩
  rintro i mm H' ⟨rfl, hi, ι', st', acc, vs', L, q⟩
  by_cases hlt : i < J.items.length
  · rw [drop_cons hlt] at q
    obtain ⟨hk, q⟩ := q
    obtain ⟨go, yl⟩ := (its i H' ι' st' L.kp L.sim hk).1 hlt
    refine .inr ⟨go, fun H'' => ∃ ι' st' acc vs', LcSt X.K C H1 ι1 p H'' ι' st' acc vs' ∧ lcW (fun x s K => mg x (wipeE env ws) s K) (fun e s K => mc e s K) (fun e s K => me e s K) J.keep (fun acc s2 => new m (.lst acc) s2 (Post X.K C H ι Q)) (J.items.drop (i + 1)) acc st',
      fun H'' w => ⟨J.items.length - (i + 1), by omega, rfl, hlt, w⟩, fun x H2 y => ?_⟩
    obtain ⟨d, ed, e2, S2, r2⟩ := yl x H2 y
    rw [List.getElem?_eq_getElem hlt] at ed
    cases ed
    have L2' := L.ext e2 S2
    refine ⟨ι', wipeE env ws, st', _, S2, ((E.mono e1).kp (L.kp.trans e2.toKp)).wipe ws, r2, og _ _ _ _ _ (fun env3 st3 q σ3 H3 ι3 e3 S3 E3 O3 => ?_) q⟩
    refine ⟨by rw [O3.wipe hs, wipe_wipe], tB.step oc S3 E3 q fun b s4 H4 ι4 q e4 S4 E4 => ?_⟩
    have L4 := L2'.ext (e3.trans e4) S4
    cases b with
    | true =>
      simp only [if_true] at q ⊢
      exact tE.step oe S4 E4 q fun d5 s5 v5 H5 ι5 q e5 S5 E5 r5 => by
        have L5 := L4.ext e5 S5
        exact ⟨vs', L5.at_, by rw [← L5.rep.length]; exact q.1, ι5, s5, _, _, L5.push r5, q.2⟩
    | false =>
      simp only [Bool.false_eq_true, if_false] at q ⊢
      exact ⟨ι4, s4, acc, vs', L4, q⟩
  · have e : i = J.items.length := by omega
    subst e
    rw [List.drop_length] at q
    exact .inl ⟨(its _ H' ι' st' L.kp L.sim q.1).2 (Nat.le_refl _), L.fin e1 q.2⟩
/-- a state of a dict's comprehension: the dict at p, set aside, holds kvs -/
structure DcSt (K : PySem.W.Frag) (C : Nat → Addr) (H1 : Hp) (ι1 : Io) (p : Addr) (H : Hp) (ι : Io) (st : Sto) (kvs : List (Key × V)) : Prop where
  kp : Kp H1 ι1 H ι
  z : ι.z = p :: ι1.z
  pz : p ∉ ι1.z
  hid : ∀ a ∈ ι1.z, H a = H1 a
  sim : Sim K C H ι st
  at_ : H p = some (.dK kvs)
theorem DcSt.ext {K : PySem.W.Frag} {H1 H H' : Hp} {ι1 ι ι' : Io} {p : Addr} {st st' : Sto} {kvs : List (Key × V)} (L : DcSt K C H1 ι1 p H ι st kvs) (e : Ext H ι H' ι') (S : Sim K C H' ι' st') : DcSt K C H1 ι1 p H' ι' st' kvs :=
  ⟨L.kp.trans e.toKp, e.zeq.trans L.z, L.pz, fun a ha => (e.hid a (by rw [L.z]; exact List.mem_cons_of_mem _ ha)).trans (L.hid a ha), S, (e.hid p (by rw [L.z]; exact List.mem_cons_self)).trans L.at_⟩
theorem DcSt.put {K : PySem.W.Frag} {H1 H : Hp} {ι1 ι : Io} {p : Addr} {st : Sto} {kvs kvs' : List (Key × V)} (L : DcSt K C H1 ι1 p H ι st kvs) : DcSt K C H1 ι1 p (upd H p (.dK kvs')) ι st kvs' := by
  obtain ⟨e, S⟩ := L.sim.side (o := .dK kvs') (p := p) (by rw [L.z]; exact List.mem_cons_self)
  exact ⟨L.kp.trans e, L.z, L.pz, fun a ha => by rw [upd_ne fun z => L.pz (by rw [← z]; exact ha)]; exact L.hid a ha, S, upd_same⟩
/-- {x: True for x in ..}, the first i texts -/
def dcK (ks : List Str) : Nat → List (Key × V)
  | 0 => []
  | i + 1 => match ks[i]? with
    | some k => putK (dcK ks i) (.inr k) (.bl true)
    | none => dcK ks i
theorem dcK_spec (ks : List Str) : ∀ i, (dcK ks i).length = distN ks i ∧ ∀ k : Str, ((dcK ks i).any fun kv => decide (kv.1 = Sum.inr k)) = decide (k ∈ ks.take i)
  | 0 => ⟨rfl, fun k => by simp [dcK]⟩
  | i + 1 => by
    obtain ⟨h1, h2⟩ := dcK_spec ks i
    unfold dcK distN
    cases e : ks[i]? with
    | none =>
      refine ⟨h1, fun k => ?_⟩
      have hl : ks.length ≤ i := by simpa using e
      rw [h2, List.take_of_length_le hl, List.take_of_length_le (by omega)]
    | some x =>
      simp only
      have hx := h2 x
      by_cases hm : x ∈ ks.take i
      · rw [decide_eq_true hm] at hx
        unfold putK
        rw [if_pos hx, if_pos hm, List.length_map]
        refine ⟨h1, fun k => ?_⟩
        rw [List.take_add_one, e, List.any_map]
        have := h2 k
        rw [show ((fun kv : Key × V => decide (kv.1 = Sum.inr k)) ∘ fun kv : Key × V => if kv.1 = Sum.inr x then (kv.1, V.bl true) else kv) = fun kv : Key × V => decide (kv.1 = Sum.inr k) from funext fun kv => by
          show decide ((if kv.1 = Sum.inr x then (kv.1, V.bl true) else kv).1 = _) = _
          split <;> rfl]
        rw [this]
        by_cases hk : k = x
        · subst hk; simp [hm]
        · simp [hk]
      · rw [decide_eq_false hm] at hx
        unfold putK
        rw [if_neg (by rw [hx]; decide), if_neg hm, List.length_append, h1]
        refine ⟨rfl, fun k => ?_⟩
        rw [List.any_append, h2, List.take_add_one, e]
        by_cases hk : k = x
        · subst hk; simp
        · have : ¬ x = k := fun z => hk z.symm
          simp [hk, this]
theorem wipeE_len (env : Ev) : ∀ ws : List Nat, (wipeE env ws).length = env.length
  | [] => rfl
  | w :: ws => by unfold wipeE; rw [List.length_set, wipeE_len env ws]
theorem dc_read {ws : List Nat} {j : Nat} (hj : j ∈ ws) {a : Addr} {H1 : Hp} {ι1 : Io} {st : Sto} {ks : List Str} {σ : L2.St} {env : Ev} {D : Addr} {R : Hp → Prop} (hl : j < env.length) (S : Sim X.K C H1 ι1 st) (E : EnvR X.K C H1 ι1 σ env) (hD : H1 D = none) (ht : TupAt H1 ι1 a (ks.map V.str)) (small : ks.length < 1000)
    (fin : ∀ H ι, Ext H1 ι1 H ι → Sim X.K C H ι st → (∃ kvs, H D = some (.dK kvs) ∧ kvs.length = distN ks ks.length) → R H) (hΦ : Fns) :
    ∃ W : Nat → Nat → Hp → Prop, (∃ m, W 0 m (upd H1 D (.dK []))) ∧ ∀ i m H, W i m H →
      ((Itt X.K a).stop i H ∧ R H) ∨ ((Itt X.K a).go i H ∧ ∃ Nx : Hp → Prop, (∀ H', Nx H' → ∃ m', m' < m ∧ W (i + 1) m' H') ∧ ∀ x H', (Itt X.K a).yld i H x H' → tG X.K C [j] (wG hΦ (.nm j)) x (wipe σ ws) H' fun σ2 H2 => wipe σ2 ws = wipe σ ws ∧ MI.tB X.K C (wC hΦ none) σ2 H2 fun b H3 =>
        if b = true then tE X.K C (wE hΦ (.var j)) σ2 H3 fun y H4 => tE X.K C (wE hΦ (.con (.bl true))) σ2 H4 fun z H5 => ∃ kvs k, y = kV k ∧ H5 D = some (.dK kvs) ∧ kvs.length < sizeLine ∧ Nx (upd H5 D (.dK (putK kvs k z))) else Nx H3) := by
  obtain ⟨e0, S0⟩ := S.hide (o := .dK []) hD
  have np := (S.fresh hD).2
  have L0 : DcSt X.K C H1 ι1 D (upd H1 D (.dK [])) ⟨ι1.l, D :: ι1.z⟩ st (dcK ks 0) := ⟨e0, rfl, np, fun b hb => upd_ne fun z => np (by rw [← z]; exact hb), S0, upd_same⟩
  refine dc_tup (fun i H => ∃ ι, DcSt X.K C H1 ι1 D H ι st (dcK ks i)) ⟨_, L0⟩ (fun i H _ ⟨ι, L⟩ => (ht.kp L.kp).sq) (fun i x H hx ⟨ι, L⟩ => ?_) (fun H ⟨ι, L⟩ => ?_)
  · rw [List.getElem?_map] at hx
    cases ek : ks[i]? with
    | none => rw [ek] at hx; cases hx
    | some k =>
      rw [ek] at hx
      cases hx
      refine ⟨ι, wipeE env ws, st, .str k, L.sim, (E.kp L.kp).wipe ws, rfl, fun σ3 H3 ι3 e3 S3 E3 O3 => ?_⟩
      refine ⟨by rw [O3.wipe (fun q hq => by rw [List.mem_singleton.mp hq]; exact hj), wipe_wipe], ι3, _, st, S3, E3, fun H4 ι4 e4 S4 => ?_⟩
      simp only [↓reduceIte]
      refine ⟨ι4, _, st, S4, E3.mono e4, ?_⟩
      unfold wE
      rw [List.getElem?_set_self (by rw [wipeE_len]; exact hl)]
      intro y H5 ι5 e5 S5 r5
      refine ⟨ι5, _, st, S5, (E3.mono e4).mono e5, ?_⟩
      unfold wE
      intro z H6 ι6 e6 S6 r6
      simp only [Rep] at r5 r6
      subst r5 r6
      have L6 := ((L.ext e3 S3).ext e4 S4).ext e5 S5 |>.ext e6 S6
      have hd := dcK_spec ks i
      have hn := distN_le ks i
      have hi := (List.getElem?_eq_some_iff.mp ek).1
      have hz : 100000 ≤ sizeLine := by decide
      refine ⟨_, .inr k, rfl, L6.at_, by omega, ι6, ?_⟩
      have : dcK ks (i + 1) = putK (dcK ks i) (.inr k) (.bl true) := by show (match ks[i]? with | some k => _ | none => _) = _; rw [ek]
      rw [this]
      exact L6.put
  · rw [List.length_map] at L
    obtain ⟨l, z⟩ := ι
    obtain rfl : z = D :: ι1.z := L.z
    exact fin H ⟨l, ι1.z⟩ ⟨L.kp.trans (.show D l ι1.z), rfl, L.hid⟩ L.sim.show ⟨_, L.at_, (dcK_spec ks ks.length).1⟩
theorem lc2_read {m : Bool} {vs ws vs1 ws1 : List Nat} (hs : ∀ j ∈ vs, j ∈ ws) (hs1 : ∀ j ∈ vs1, j ∈ ws1) (og : MonoG mg) (oc : MonoB mc) (oe : MonoE me) (oi : MonoI mi) (og1 : MonoG mg1) (oc1 : MonoB mc1) (oi1 : MonoI mi1) {σ : L2.St} {H : Hp} {Q : VK}
    (h : tE X.K C (fun env st Q => mi env st fun J s1 => lcW2 (fun x s K => mg x (wipeE env ws) s K) (fun e s K => mc e s K)
        (fun e acc s K => mi1 e s fun J1 s' => lcW (fun x s K => mg1 x (wipeE e ws1) s K) (fun e s K => mc1 e s K) (fun e s K => me e s K) J1.keep K J1.items acc s')
        J.keep (fun acc s2 => new m (.lst acc) s2 Q) J.items [] s1) σ H Q) :
    tLc2 (tIt X.K C mi) (tG X.K C vs mg) (MI.tB X.K C mc) (tIt X.K C mi1) (tG X.K C vs1 mg1) (MI.tB X.K C mc1) (tE X.K C me) ws ws1 σ H Q := by
  obtain ⟨ι, env, st, S, E, q⟩ := h
  refine ⟨ι, env, st, S, E, oi _ _ _ _ (fun J s1 q T H1 ι1 e1 S1 its p hp => ?_) q⟩
  generalize hW : (lcW2 (fun x s K => mg x (wipeE env ws) s K) (fun e s K => mc e s K)
        (fun e acc s K => mi1 e s fun J1 s' => lcW (fun x s K => mg1 x (wipeE e ws1) s K) (fun e s K => mc1 e s K) (fun e s K => me e s K) J1.keep K J1.items acc s')
        J.keep (fun acc s2 => new m (.lst acc) s2 (Post X.K C H ι Q))) = W at q
  refine ⟨fun i mm H' => mm = J.items.length - i ∧ i ≤ J.items.length ∧ ∃ ι' st' acc vs', LcSt X.K C H1 ι1 p H' ι' st' acc vs' ∧ W (J.items.drop i) acc st',
    ⟨J.items.length, by omega, Nat.zero_le _, _, s1, [], [], .begin S1 hp, q⟩, ?_⟩
  rintro i mm H' ⟨rfl, hi, ι', st', acc, vs', L, q⟩
  by_cases hlt : i < J.items.length
  · rw [drop_cons hlt, ← hW] at q
    obtain ⟨hk, q⟩ := q
    obtain ⟨go, yl⟩ := (its i H' ι' st' L.kp L.sim hk).1 hlt
    refine .inr ⟨go, fun H'' => ∃ ι' st' acc vs', LcSt X.K C H1 ι1 p H'' ι' st' acc vs' ∧ W (J.items.drop (i + 1)) acc st',
      fun H'' w => ⟨J.items.length - (i + 1), by omega, rfl, hlt, w⟩, fun x H2 y => ?_⟩
    obtain ⟨d, ed, e2, S2, r2⟩ := yl x H2 y
    rw [List.getElem?_eq_getElem hlt] at ed
    cases ed
    have L2' := L.ext e2 S2
    refine ⟨ι', wipeE env ws, st', _, S2, ((E.mono e1).kp (L.kp.trans e2.toKp)).wipe ws, r2, og _ _ _ _ _ (fun env3 st3 q σ3 H3 ι3 e3 S3 E3 O3 => ?_) q⟩
    refine ⟨by rw [O3.wipe hs, wipe_wipe], tB.step oc S3 E3 q fun b s4 H4 ι4 q e4 S4 E4 => ?_⟩
    have L4 := L2'.ext (e3.trans e4) S4
    cases b with
    | true =>
      simp only [if_true] at q ⊢
      refine ⟨ι4, env3, s4, S4, E4, oi1 _ _ _ _ (fun J1 s5 q T1 H5 ι5 e5 S5 its1 => ?_) q⟩
      have L5 := L4.ext e5 S5
      have E5 := E4.mono e5
      rw [hW] at q
      refine ⟨fun j kk H' => kk = J1.items.length - j ∧ j ≤ J1.items.length ∧ ∃ ι' st' acc vs', LcSt X.K C H1 ι1 p H' ι' st' acc vs' ∧ Kp H5 ι5 H' ι' ∧
        lcW (fun x s K => mg1 x (wipeE env3 ws1) s K) (fun e s K => mc1 e s K) (fun e s K => me e s K) J1.keep (W (J.items.drop (i + 1))) (J1.items.drop j) acc st',
        ⟨J1.items.length, by omega, Nat.zero_le _, _, s5, acc, vs', L5, (Ext.refl _ _).toKp, q⟩, ?_⟩
      rintro j kk H6 ⟨rfl, hj, ι6, st6, acc6, vs6, L6, k6, q⟩
      by_cases hlt1 : j < J1.items.length
      · rw [drop_cons hlt1] at q
        obtain ⟨hk1, q⟩ := q
        obtain ⟨go1, yl1⟩ := (its1 j H6 ι6 st6 k6 L6.sim hk1).1 hlt1
        refine .inr ⟨go1, fun H' => ∃ ι' st' acc vs', LcSt X.K C H1 ι1 p H' ι' st' acc vs' ∧ Kp H5 ι5 H' ι' ∧
          lcW (fun x s K => mg1 x (wipeE env3 ws1) s K) (fun e s K => mc1 e s K) (fun e s K => me e s K) J1.keep (W (J.items.drop (i + 1))) (J1.items.drop (j + 1)) acc st',
          fun H'' w => ⟨J1.items.length - (j + 1), by omega, rfl, hlt1, w⟩, fun x H7 y => ?_⟩
        obtain ⟨d, ed, e7, S7, r7⟩ := yl1 x H7 y
        rw [List.getElem?_eq_getElem hlt1] at ed
        cases ed
        have L7 := L6.ext e7 S7
        refine ⟨ι6, wipeE env3 ws1, st6, _, S7, (E5.kp (k6.trans e7.toKp)).wipe ws1, r7, og1 _ _ _ _ _ (fun env8 st8 q σ8 H8 ι8 e8 S8 E8 O8 => ?_) q⟩
        refine ⟨by rw [O8.wipe hs1, wipe_wipe], tB.step oc1 S8 E8 q fun b s9 H9 ι9 q e9 S9 E9 => ?_⟩
        have L9 := L7.ext (e8.trans e9) S9
        have k9 : Kp H5 ι5 H9 ι9 := k6.trans (e7.trans (e8.trans e9)).toKp
        cases b with
        | true =>
          simp only [if_true] at q ⊢
          exact tE.step oe S9 E9 q fun d10 s10 v10 H10 ι10 q e10 S10 E10 r10 => by
            have L10 := L9.ext e10 S10
            obtain ⟨e11, _⟩ := S10.side (o := .lst (vs6 ++ [v10])) (p := p) (by rw [L10.z]; exact List.mem_cons_self)
            exact ⟨vs6, L10.at_, by rw [← L10.rep.length]; exact q.1, ι10, s10, _, _, L10.push r10, (k9.trans e10.toKp).trans e11, q.2⟩
        | false =>
          simp only [Bool.false_eq_true, if_false] at q ⊢
          exact ⟨ι9, s9, acc6, vs6, L9, k9, q⟩
      · have e : j = J1.items.length := by omega
        subst e
        rw [List.drop_length] at q
        exact .inl ⟨(its1 _ H6 ι6 st6 k6 L6.sim q.1).2 (Nat.le_refl _), ι6, st6, acc6, vs6, L6, q.2⟩
    | false =>
      simp only [Bool.false_eq_true, if_false] at q ⊢
      rw [hW] at q
      exact ⟨ι4, s4, acc, vs', L4, q⟩
  · have e : i = J.items.length := by omega
    subst e
    rw [List.drop_length, ← hW] at q
    exact .inl ⟨(its _ H' ι' st' L.kp L.sim q.1).2 (Nat.le_refl _), L.fin e1 q.2⟩
end

/-! ### dict displays -/
section
variable {K : PySem.W.Frag} {C : Nat → Addr}
def flatP : List (V × V) → List V
  | [] => []
  | (a, b) :: r => a :: b :: flatP r
theorem RepG.merge {R : D → V → Prop} : ∀ {qs : List (Key × D)} {kvs : List (Key × V)} {a : List (Key × D)} {b : List (Key × V)}, RepG R qs kvs → RepG R a b → RepG R (qs.foldl (fun acc kv => putD acc kv.1 kv.2) a) (mergeK b kvs)
  | [], kvs, a, b, h, h' => by
    have h : kvs = [] := h
    subst h; exact h'
  | (k, d) :: r, kvs, a, b, h, h' => by
    obtain ⟨v, s, rfl, h1, h2⟩ := h
    show RepG R (r.foldl (fun acc kv => putD acc kv.1 kv.2) (putD a k d)) (mergeK (putK b k v) s)
    exact RepG.merge (a := putD a k d) (b := putK b k v) h2 (h'.put k h1)
theorem pairs_ok {H : Hp} {ι : Io} : ∀ {ps : List (V × V)} {ds : List D} {qs : List (Key × D)}, Reps K C H ι ds (flatP ps) → pairsOf ds = some qs → ∃ kvs : List (Key × V), ps = kvs.map (fun kv => (kV kv.1, kv.2)) ∧ RepG (Rep K C H ι) qs kvs ∧ ds.length = 2 * kvs.length
  | [], ds, qs, r, h => by
    have hl := r.length
    cases ds with
    | nil => cases h; exact ⟨[], rfl, rfl, rfl⟩
    | cons _ _ => simp [flatP] at hl
  | (x, y) :: ps, ds, qs, r, h => by
    have hl := r.length
    match ds, h, r, hl with
    | [], _, _, hl => simp [flatP] at hl
    | [d], h, _, _ => cases h
    | d :: e :: ds, h, r, _ =>
      obtain ⟨v, s, e1, h1, h2⟩ := Reps.cons_iff.mp r
      obtain ⟨u, s2, e2, h3, h4⟩ := Reps.cons_iff.mp h2
      cases e1
      cases e2
      unfold pairsOf at h
      split at h
      · rename_i k qs' hk hq
        cases h
        obtain ⟨kvs, e3, h5, h6⟩ := pairs_ok h4 hq
        subst e3
        obtain rfl := keyOf_ok h1 hk
        exact ⟨(k, y) :: kvs, rfl, ⟨y, kvs, rfl, h3, h5⟩, by rw [List.length_cons, List.length_cons, List.length_cons, h6]; omega⟩
      · cases h
end
section
variable {X : Cx} {C : Nat → Addr} {pos : Pos}
def PD (X : Cx) (C : Nat → Addr) (pos : Pos) (keys : List (Option Expr)) (values : List Expr) (ml : Ev → Sto → (List D → Sto → Prop) → Prop) : Prop := ∃ trs, PPs X pos keys values trs ∧
  ∀ (σ : L2.St) (H : Hp) (ι : Io) (env : Ev) (st : Sto) (F : List D → Sto → Prop) (R : List (V × V) → Hp → Prop), Sim X.K C H ι st → EnvR X.K C H ι σ env → ml env st F →
    (∀ ds s1 ps H1 ι1, F ds s1 → Ext H ι H1 ι1 → Sim X.K C H1 ι1 s1 → EnvR X.K C H1 ι1 σ env → Reps X.K C H1 ι1 ds (flatP ps) → R ps H1) → tPairs trs σ H R
theorem pd_nil : PD X C pos [] [] (fun _ st Q => Q [] st) := ⟨[], pps_nil, fun σ H ι env st F R S E q k => k [] st [] H ι q (.refl _ _) S E .nil⟩
theorem pd_cons {k v : Expr} {ks : List (Option Expr)} {vs : List Expr} {mk mv : Ev → Sto → Kd → Prop} {ml : Ev → Sto → (List D → Sto → Prop) → Prop} (hk : PE X k (tE X.K C mk)) (hv : PE X v (tE X.K C mv)) (hr : PD X C pos ks vs ml) (ok : MonoE mk) (ov : MonoE mv) :
    PD X C pos (some k :: ks) (v :: vs) (fun env st Q => mk env st fun x s1 => mv env s1 fun y s2 => ml env s2 fun xs s3 => Q (x :: y :: xs) s3) := by
  obtain ⟨trs, h1, h2⟩ := hr
  refine ⟨(tE X.K C mk, tE X.K C mv) :: trs, pps_cons hk hv h1, fun σ H ι env st F R S E q kk => ?_⟩
  show tE X.K C mk σ H fun x H1 => tE X.K C mv σ H1 fun y H2 => tPairs trs σ H2 fun ps H3 => R ((x, y) :: ps) H3
  exact tE.step ok S E q fun d s1 x H1 ι1 q e1 S1 E1 r1 => tE.step ov S1 E1 q fun d2 s2 y H2 ι2 q e2 S2 E2 r2 => h2 _ _ _ _ _ _ _ S2 E2 q fun ds s3 ps H3 ι3 q e3 S3 E3 r3 =>
    kk _ _ _ _ _ q (e1.trans (e2.trans e3)) S3 E3 (.cons ((r1.mono e2).mono e3) (.cons (r2.mono e3) r3))
theorem e_dnewT {m : Bool} : PE X (.Dict [] [] pos) (tE X.K C fun env st Q => new m (.dT []) st Q) :=
  pe_dnewT.imp fun σ H Q ⟨ι, env, st, S, E, q⟩ p hp => by
    unfold new at q
    split at q
    · obtain ⟨e, S'⟩ := S.new (d := .dT []) (o := .dT []) hp (by simp [RepO, RepT])
      exact q _ _ _ e S' (by simp only [Rep]; exact ⟨p, rfl, by rw [← S.len, List.getElem?_append_right (Nat.le_refl _)]; simp⟩)
    · obtain ⟨e, S'⟩ := S.imm (o := .dT []) hp
      exact q _ _ _ e S' (by simp only [Rep]; exact ⟨p, [], rfl, upd_same, S.fresh hp, rfl⟩)
theorem e_ddsp {m : Bool} {keys : List (Option Expr)} {values : List Expr} {ml : Ev → Sto → (List D → Sto → Prop) → Prop} (hd : PD X C pos keys values ml) (hall : keys.all (·.isSome) = true) (hl : keys.length = values.length) (h0 : keys ≠ [])
    (h15 : keys.length ≤ 15) (hn : ∀ env st Q, ml env st Q → ml env st fun ds s => ds.length ≤ 30 ∧ Q ds s) :
    PE X (.Dict keys values pos) (tE X.K C fun env st Q => ml env st fun xs s1 => opt (pairsOf xs) fun ps => new m (.dK (ps.foldl (fun acc kv => putD acc kv.1 kv.2) [])) s1 Q) := by
  obtain ⟨trs, h1, h2⟩ := hd
  refine (pe_disp h1 hall hl h0 h15).imp fun σ H Q ⟨ι, env, st, S, E, q⟩ p hp => ?_
  obtain ⟨e, S'⟩ := S.hide (o := .dK []) hp
  have np := (S.fresh hp).2
  refine h2 σ _ _ env st _ _ S' (E.kp e) (hn _ _ _ q) fun ds s1 ps H1 ι1 q e1 S1 E1 r1 => ?_
  obtain ⟨hlen, q⟩ := q
  obtain ⟨qs, e2, q⟩ := opt_some q
  have hz : ι1.z = p :: ι.z := e1.zeq
  have hp1 : H1 p = some (.dK []) := (e1.hid p List.mem_cons_self).trans upd_same
  obtain ⟨kvs, rfl, rg, hk⟩ := pairs_ok r1 e2
  refine ⟨hp1, kvs, rfl, by omega, ?_⟩
  obtain ⟨e3, S3⟩ := S1.side (o := .dK (mergeK [] kvs)) (p := p) (by rw [hz]; exact List.mem_cons_self)
  have rm : RepK X.K C (upd H1 p (.dK (mergeK [] kvs))) ι1 (qs.foldl (fun acc kv => putD acc kv.1 kv.2) []) (mergeK [] kvs) := RepK.kp e3 (RepK_iff.mpr (RepG.merge rg rfl))
  have hh : ∀ a ∈ ι.z, upd H1 p (.dK (mergeK [] kvs)) a = H a := fun a ha => by
    rw [upd_ne fun z => np (by rw [← z]; exact ha), e1.hid a (List.mem_cons_of_mem _ ha), upd_ne fun z => np (by rw [← z]; exact ha)]
  obtain ⟨l, z⟩ := ι1
  obtain rfl : z = p :: ι.z := hz
  unfold new at q
  split at q
  · obtain ⟨kk, S4⟩ := S3.adopt (d := .dK (qs.foldl (fun acc kv => putD acc kv.1 kv.2) [])) np upd_same (by simpa only [RepO] using rm)
    refine q _ _ _ ⟨(e.trans e1.toKp).trans (e3.trans kk), rfl, hh⟩ S4 ?_
    simp only [Rep]
    have len : l.length = s1.length := S1.len
    exact ⟨p, rfl, by rw [← len, List.getElem?_append_right (Nat.le_refl _)]; simp⟩
  · refine q _ _ _ ⟨(e.trans e1.toKp).trans (e3.trans (.show p l ι.z)), rfl, hh⟩ S3.show ?_
    simp only [Rep]
    exact ⟨p, _, rfl, upd_same, ⟨(S3.zin p List.mem_cons_self).2, np⟩, rm.kp (.show p l ι.z)⟩
end
end MI

set_option maxRecDepth 100000
/-! MI, part 9: from the program's own text to the language; what that is worth (expressions). -/
namespace MI
open PySem PySem.Spec PyProof.Rows L2

/-- what a global name is -/
inductive GK where
  | fn (i n : Nat)
  | con (d : D)
structure Gam where
  N : List Str
  sc : Scope
  fn : Str → Bool
  gl : List (Str × GK)
  bl : List Str
  mu : List (Nat × Nat × Nat)
def Gam.mut (Γ : Gam) (p : Pos) : Bool := Γ.mu.any fun q => q.1 == p.line && q.2.1 == p.col && q.2.2 == p.endCol
def Gam.slot (Γ : Gam) (x : Str) : Option Nat := match Γ.N.findIdx? (fun y => decide (y = x)) with
  | some i => if Γ.N[i]? = some x then some i else none
  | none => none
def Gam.own (Γ : Gam) (scope : Scope) : List (Str × Nat) := scope.names.filterMap fun y => match y.2 with
  | .local => (Γ.slot y.1).map fun i => (y.1, i)
  | .cell => (Γ.slot y.1).map fun i => (y.1, i)
  | _ => none
def Gam.blk (Γ : Gam) (scope : Scope) : Gam := { Γ with sc := relS scope Γ.sc, fn := fun x => scope.names.lookup x == some .cell }
def Gam.isGl (Γ : Gam) (x : Str) : Bool := match Γ.sc.names.lookup x with
  | some .globalImplicit => true
  | _ => false
def Gam.isBl (Γ : Gam) (x : Str) : Bool := Γ.isGl x && decide (x ∈ Γ.bl)
def okName (x : Str) : Bool := !(x == ("__debug__" : Str)) && !(x == ("__classdict__" : Str))

def isStar : Expr → Bool
  | .Starred _ _ => true
  | _ => false
def isSet : Expr → Bool
  | .Set _ _ _ => true
  | _ => false
def isSlice : Expr → Bool
  | .Slice _ _ _ _ => true
  | _ => false
def isComp : Expr → Bool
  | .ListComp _ _ _ _ => true
  | .SetComp _ _ _ _ => true
  | .DictComp _ _ _ _ _ => true
  | _ => false
def isDC : Expr → Bool
  | .DictComp (.Name _ _) (.Constant (.bool true) _ _) [⟨.Name _ _, _, [], 0⟩] _ _ => true
  | _ => false
def isSetCall : Expr → Bool
  | .Call (.Name s _) [_] [] _ => s == ("set" : Str)
  | _ => false
def isTest : Expr → Bool
  | .UnaryOp .Not _ _ => true
  | .BoolOp _ _ _ => true
  | .IfExp _ _ _ _ => true
  | .Compare _ _ _ _ => true
  | _ => false
def isRecv : Expr → Bool
  | .Name _ _ => true
  | .Attribute _ _ _ => true
  | .Subscript _ _ _ => true
  | .Constant _ _ _ => true
  | _ => false
def bop : Operator → Option BOp
  | .Add => some .add
  | .Sub => some .sub
  | .Mult => some .mul
  | .FloorDiv => some .fdiv
  | .Mod => some .mod
  | .Pow => some .pow
  | _ => none
def cop : CmpOp → Option COp
  | .Eq => some .eq
  | .NotEq => some .ne
  | .Lt => some .lt
  | .LtE => some .le
  | .Gt => some .gt
  | .GtE => some .ge
  | .In => some .isIn
  | .NotIn => some .notIn
  | .Is => some .is_
  | .IsNot => some .isnt
def bltOf (x : Str) (n : Nat) : Option Blt :=
  if x = "len" ∧ n = 1 then some .len else
  if x = "int" ∧ n = 1 then some .int else
  if x = "list" ∧ n = 1 then some .list else
  if x = "tuple" ∧ n = 1 then some .tuple else
  if x = "sum" ∧ n = 1 then some .sum else
  if x = "max" ∧ n = 2 then some .max2 else
  if x = "min" ∧ n = 2 then some .min2 else
  if x = "any" ∧ n = 1 then some .any else
  if x = "all" ∧ n = 1 then some .all else
  if x = "sorted" ∧ n = 1 then some .sorted else
  if x = "str" ∧ n = 1 then some .str else none
def isiOf (x : Str) : Option Blt :=
  if x = "tuple" then some .isTuple else
  if x = "int" then some .isInt else
  if x = "bool" then some .isBool else
  if x = "str" then some .isStr else none
/-- names that hold dicts (pop with one argument) -/
def isDN : Expr → Bool
  | .Name x _ => x == ("_law_made" : Str)
  | _ => false
def mthOf (dn : Bool) (x : Str) (n : Nat) : Option Mth :=
  if x = "append" ∧ n = 1 then some .append else
  if x = "pop" ∧ n = 0 then some .pop0 else
  if x = "pop" ∧ n = 1 then (if dn = true then some .dpop1 else some .pop1) else
  if x = "extend" ∧ n = 1 then some .extend else
  if x = "get" ∧ n = 1 then some .get1 else
  if x = "get" ∧ n = 2 then some .get2 else
  if x = "pop" ∧ n = 2 then some .dpop2 else
  if x = "join" ∧ n = 1 then some .join else none
/-- targets that walk over a text -/
def isCh : Expr → Bool
  | .Name x _ => x == ("character" : Str) || x == ("_law_y" : Str)
  | _ => false

mutual
def slots : ST → List Nat
  | .nm i => [i]
  | .tup ts => slotsL ts
  | .sub _ _ => []
def slotsL : List ST → List Nat
  | [] => []
  | t :: ts => slots t ++ slotsL ts
end

/-- len({x: True for x in ..}) -/
def dcS (n : Nat) (own : List Nat) (it : SE) (tg : ST) (kx vx : SE) (c : Option SB) : Option SE := match tg, kx, vx, c with
  | .nm i, .var j, .con (.bl true), none => if i = j ∧ i < n ∧ i ∈ own then some (.blt .lenSet false [it]) else none
  | _, _, _, _ => none
mutual
def cE : Nat → Gam → Expr → Option SE
  | 0, _, _ => none
  | n + 1, Γ, e => match e with
    | .Name x _ => if okName x then (match Γ.sc.names.lookup x with
      | some .local => (Γ.slot x).map .var
      | some .cell => (Γ.slot x).map .var
      | some .free => (Γ.slot x).map .var
      | some .globalImplicit => (match Γ.gl.lookup x with
        | some (.con d) => some (.con d)
        | _ => none)
      | _ => none) else none
    | .Constant c _ _ => (match c with
      | .int i => some (.con (.int i))
      | .bool b => some (.con (.bl b))
      | .str s => some (.con (.str s))
      | .none => some (.con .non)
      | _ => none)
    | .BinOp a o b pos => do
      let o ← bop o
      let a ← cE n Γ a
      let b ← cE n Γ b
      some (.bin o (Γ.mut pos) a b)
    | .UnaryOp o a _ => (match o with
      | .USub => (cE n Γ a).map .neg
      | .Not => (cE n Γ a).map .lnot
      | _ => none)
    | .BoolOp o es _ => (match o with
      | .And => cAnd n Γ es
      | .Or => cOr n Γ es)
    | .IfExp t a b _ => do
      let t ← cB n Γ t
      let a ← cE n Γ a
      let b ← cE n Γ b
      some (.ifx t a b)
    | .Compare l ops rs _ => (match ops, rs with
      | [o], [r] => if isSet r then none else do
        let o ← cop o
        let l ← cE n Γ l
        let r ← cE n Γ r
        some (.cmp o l r)
      | [o, o'], [r, r'] => if isSet r' then none else do
        let o ← cop o
        let o' ← cop o'
        let l ← cE n Γ l
        let r ← cE n Γ r
        let r' ← cE n Γ r'
        some (.chain o o' l r r')
      | _, _ => none)
    | .Tuple es _ _ => (cEs n Γ es).map .tup
    | .List es pos => (cEs n Γ es).map (.lst (Γ.mut pos))
    | .Dict ks vs pos => (match ks with
      | [] => (match vs with
        | [] => some (.dnew (Γ.mut pos) true)
        | _ => none)
      | k :: ks => if (k :: ks).all (·.isSome) && decide ((k :: ks).length = vs.length) && decide ((k :: ks).length ≤ 15) then (cDs n Γ (k :: ks) vs).map (.ddsp (Γ.mut pos)) else none)
    | .Subscript a i pos => (match i with
      | .Slice lo hi st _ => (match st with
        | none => do
          let a ← cE n Γ a
          let lo ← cO n Γ lo
          let hi ← cO n Γ hi
          some (.slc (Γ.mut pos) a lo hi)
        | some (.UnaryOp .USub (.Constant (.int 1) _ _) _) => (match lo, hi with
          | none, none => (cE n Γ a).map (.rev (Γ.mut pos))
          | _, _ => none)
        | _ => none)
      | i => do
        let a ← cE n Γ a
        let i ← cE n Γ i
        some (.idx a i))
    | .ListComp elt gs scope pos => (match gs with
      | [⟨tg, it, ifs, 0⟩] =>
        let own := Γ.own scope
        if blkC Γ.N Γ.sc scope own then do
          let it' ← cI n Γ tg it
          let tg' ← cT n (Γ.blk scope) tg
          let c' ← cC n (Γ.blk scope) ifs
          let elt' ← cE n (Γ.blk scope) elt
          if (slots tg').all (fun j => decide (j ∈ own.map (·.2))) && !isSet it then some (.lc (Γ.mut pos) elt' tg' it' c' (own.map (·.2))) else none
        else none
      | [⟨tg, it, ifs, 0⟩, ⟨tg1, it1, ifs1, 0⟩] =>
        let own := Γ.own scope
        if blkC Γ.N Γ.sc scope own then do
          let it' ← cI n Γ tg it
          let tg' ← cT n (Γ.blk scope) tg
          let c' ← cC n (Γ.blk scope) ifs
          let it1' ← cI n (Γ.blk scope) tg1 it1
          let tg1' ← cT n (Γ.blk scope) tg1
          let c1' ← cC n (Γ.blk scope) ifs1
          let elt' ← cE n (Γ.blk scope) elt
          if (slots tg').all (fun j => decide (j ∈ own.map (·.2))) && (slots tg1').all (fun j => decide (j ∈ own.map (·.2))) && !isSet it && !isSet it1 then
            some (.lc2 (Γ.mut pos) elt' tg' it' c' tg1' it1' c1' (own.map (·.2)) (slots tg1')) else none
        else none
      | _ => none)
    | .Call f es kws pos => (match kws with
      | [] => (match f with
        | .Name x _ => if okName x && Γ.isGl x && !(x == ("__name__" : Str)) && es.all (fun e => !isStar e) then
            (match Γ.gl.lookup x with
            | some (.fn i m) => if es.length = m then (cEs n Γ es).map (.call i) else none
            | some _ => none
            | none => if decide (x ∈ Γ.bl) then
                (match es with
                | [] => none
                | e :: r => if x = "isinstance" then (match r with
                    | [.Name t _] => if okName t && Γ.isBl t && !(t == ("__name__" : Str)) then do
                        let b ← isiOf t
                        let e ← cE n Γ e
                        some (.blt b false [e])
                      else none
                    | _ => none)
                  else if x = "len" ∧ isSetCall e = true then (match e, r with
                    | .Call (.Name s _) [a] [] _, [] => if Γ.isBl s && !isStar a then do
                        let a ← cE n Γ a
                        some (.blt .lenSet false [a])
                      else none
                    | _, _ => none)
                  else if x = "len" ∧ isDC e = true then (match e, r with
                    | .DictComp kx vx [⟨tg, it, [], 0⟩] scope _, [] => if blkC Γ.N Γ.sc scope (Γ.own scope) && !isSet it then do
                        let it' ← cE n Γ it
                        let tg' ← cT n (Γ.blk scope) tg
                        let kx' ← cE n (Γ.blk scope) kx
                        let vx' ← cE n (Γ.blk scope) vx
                        let c' ← cC n (Γ.blk scope) []
                        dcS Γ.N.length ((Γ.own scope).map (·.2)) it' tg' kx' vx' c'
                      else none
                    | _, _ => none)
                  else if x = "sorted" ∧ isSetCall e = true then (match e, r with
                    | .Call (.Name s _) [a] [] _, [] => if Γ.isBl s && !isStar a then do
                        let a ← cE n Γ a
                        some (.blt .sortSet (Γ.mut pos) [a])
                      else none
                    | _, _ => none)
                  else do
                    let b ← bltOf x es.length
                    let es ← cEs n Γ (e :: r)
                    some (.blt b (Γ.mut pos) es))
              else none)
          else none
        | .Attribute o m apos => if isRecv o && es.all (fun e => !isStar e) && (apos.endLine == pos.line) && decide (es.length < 20) then do
            let b ← mthOf (isDN o) m es.length
            let o ← cE n Γ o
            let es ← cEs n Γ es
            some (.mth b o es)
          else none
        | _ => none)
      | _ => none)
    | _ => none
def cEs : Nat → Gam → List Expr → Option (List SE)
  | 0, _, _ => none
  | n + 1, Γ, l => match l with
    | [] => some []
    | e :: r => if isStar e then none else do
      let e ← cE n Γ e
      let r ← cEs n Γ r
      some (e :: r)
def cDs : Nat → Gam → List (Option Expr) → List Expr → Option (List SE)
  | 0, _, _, _ => none
  | n + 1, Γ, ks, vs => match ks, vs with
    | [], [] => some []
    | some k :: ks, v :: vs => do
      let k ← cE n Γ k
      let v ← cE n Γ v
      let r ← cDs n Γ ks vs
      some (k :: v :: r)
    | _, _ => none
def cAnd : Nat → Gam → List Expr → Option SE
  | 0, _, _ => none
  | n + 1, Γ, l => match l with
    | [] => none
    | [e] => cE n Γ e
    | e :: r => do
      let e ← cE n Γ e
      let r ← cAnd n Γ r
      some (.land e r)
def cOr : Nat → Gam → List Expr → Option SE
  | 0, _, _ => none
  | n + 1, Γ, l => match l with
    | [] => none
    | [e] => cE n Γ e
    | e :: r => do
      let e ← cE n Γ e
      let r ← cOr n Γ r
      some (.lor e r)
def cB : Nat → Gam → Expr → Option SB
  | 0, _, _ => none
  | n + 1, Γ, e => match e with
    | .UnaryOp .Not a _ => (cB n Γ a).map .lnot
    | .BoolOp o es _ => (match o with
      | .And => cBAnd n Γ es
      | .Or => cBOr n Γ es)
    | .Compare l ops rs _ => (match ops, rs with
      | [o], [r] => if isSet r then none else do
        let o ← cop o
        let l ← cE n Γ l
        let r ← cE n Γ r
        some (.cmp o l r)
      | [o, o'], [r, r'] => if isSet r' then none else do
        let o ← cop o
        let o' ← cop o'
        let l ← cE n Γ l
        let r ← cE n Γ r
        let r' ← cE n Γ r'
        some (.chain o o' l r r')
      | _, _ => none)
    | e => if isTest e then none else (cE n Γ e).map .val
def cBAnd : Nat → Gam → List Expr → Option SB
  | 0, _, _ => none
  | n + 1, Γ, l => match l with
    | [] => none
    | [e] => cB n Γ e
    | e :: r => do
      let e ← cB n Γ e
      let r ← cBAnd n Γ r
      some (.land e r)
def cBOr : Nat → Gam → List Expr → Option SB
  | 0, _, _ => none
  | n + 1, Γ, l => match l with
    | [] => none
    | [e] => cB n Γ e
    | e :: r => do
      let e ← cB n Γ e
      let r ← cBOr n Γ r
      some (.lor e r)
def cO : Nat → Gam → Option Expr → Option (Option SE)
  | 0, _, _ => none
  | n + 1, Γ, o => match o with
    | none => some none
    | some e => (cE n Γ e).map some
def cC : Nat → Gam → List Expr → Option (Option SB)
  | 0, _, _ => none
  | n + 1, Γ, l => match l with
    | [] => some none
    | [e] => (cB n Γ e).map some
    | _ => none
def cT : Nat → Gam → Expr → Option ST
  | 0, _, _ => none
  | n + 1, Γ, e => match e with
    | .Name x _ => (match Γ.sc.names.lookup x with
      | some .local => (Γ.slot x).map .nm
      | some .cell => if Γ.fn x then (Γ.slot x).map .nm else none
      | _ => none)
    | .Tuple es _ _ => (cTs n Γ es).map .tup
    | .Subscript o i _ => if isSlice i then none else do
      let o ← cE n Γ o
      let i ← cE n Γ i
      some (.sub o i)
    | _ => none
def cTs : Nat → Gam → List Expr → Option (List ST)
  | 0, _, _ => none
  | n + 1, Γ, l => match l with
    | [] => some []
    | e :: r => if isStar e then none else do
      let e ← cT n Γ e
      let r ← cTs n Γ r
      some (e :: r)
def cI : Nat → Gam → Expr → Expr → Option SI
  | 0, _, _, _ => none
  | n + 1, Γ, tg, it => match it with
    | .Call (.Name x _) es [] _ => if x = "range" ∧ Γ.isBl "range" = true then (match es with
        | [a] => (cE n Γ a).map .rng1
        | [a, b] => do
          let a ← cE n Γ a
          let b ← cE n Γ b
          some (.rng2 a b)
        | [a, b, c] => do
          let a ← cE n Γ a
          let b ← cE n Γ b
          let c ← cE n Γ c
          some (.rng3 a b c)
        | _ => none)
      else if x = "enumerate" ∧ Γ.isBl "enumerate" = true then (match es with
        | [a] => (match tg with
          | .Tuple _ _ _ => (cE n Γ a).map .enum
          | _ => none)
        | _ => none)
      else (cE n Γ it).map (if isCh tg = true then .chars else .seq)
    | it => (cE n Γ it).map (if isCh tg = true then .chars else .seq)
end
end MI

set_option maxRecDepth 100000
/-! MI, part 10: the compiled expression asks enough. -/
namespace MI
open PySem PySem.Spec PyProof.Rows L2

structure Fx (Γ : Gam) (Φ : Fns) (C : Nat → Addr) (k : Nat) (X : Cx) : Prop where
  N : X.N = Γ.N
  nd : X.N.Nodup
  sc : X.env.scope = Γ.sc
  fn : X.fn = Γ.fn
  calm : X.calm = true
  room : Room k X.A
  mono : ∀ f, MonoFn (Φ f)
  gfn : ∀ x i n, Γ.gl.lookup x = some (.fn i n) → ∃ f fd ps, X.mg x = some (.ref f) ∧ PySem.W.keepIn X.K (.ref f) = true ∧ Binds X.K fd ps [] ∧ FnOk X.prog X.w X.K X.mg X.base CX0 k f fd ps (spD X.K C n (Φ i))
  gcon : ∀ x d, Γ.gl.lookup x = some (.con d) → ∃ u v, X.mg x = some u ∧ RelV v u ∧ ∀ H ι, Rep X.K C H ι d v
  gbl : ∀ x ∈ Γ.bl, X.mg x = none
section
variable {Γ : Gam} {Φ : Fns} {C : Nat → Addr} {k : Nat} {X : Cx}
theorem Fx.blk (F : Fx Γ Φ C k X) (s : Shared) (H : Hp) (scope : Scope) (cl : List (Str × Addr)) (A : Addr) (fp : List Addr) : Fx (Γ.blk scope) Φ C k (X.blk s H scope (compEnvC scope cl A X.env) fp) :=
  ⟨F.N, F.nd, by rw [show (X.blk s H scope (compEnvC scope cl A X.env) fp).env.scope = relS scope X.env.scope from rfl, F.sc]; rfl, rfl, F.calm, F.room, F.mono, F.gfn, F.gcon, F.gbl⟩
theorem Fx.hu (F : Fx Γ Φ C k X) : X.A.units + 64 < cLine := F.room.units
theorem Fx.h1 (F : Fx Γ Φ C k X) : X.A.units + 1 < cLine := Nat.lt_of_le_of_lt (Nat.add_le_add_left (by decide) _) F.hu
theorem slot_ok {x : Str} {i : Nat} (F : Fx Γ Φ C k X) (h : Γ.slot x = some i) : X.N[i]? = some x := by
  unfold Gam.slot at h
  split at h
  · split at h
    · cases h; rw [F.N]; assumption
    · cases h
  · cases h
theorem isGl_ok {x : Str} (F : Fx Γ Φ C k X) (h : Γ.isGl x = true) : Gl X x := by
  unfold Gam.isGl at h
  split at h
  · show X.env.scope.names.lookup x = some .globalImplicit
    rw [F.sc]; assumption
  · cases h
theorem okName_ok {x : Str} (h : okName x = true) : (x == ("__debug__" : Str)) = false ∧ (x == ("__classdict__" : Str)) = false := by
  unfold okName at h
  rw [Bool.and_eq_true, Bool.not_eq_true', Bool.not_eq_true'] at h
  exact h

/-! syntactic side conditions -/
theorem star_ok {e : Expr} {es : List Expr} {env : Env} (h : isStar e = false) : starEach (e :: es) env = (false, eval e env) :: starEach es env := by
  cases e <;> first | rfl | cases h
theorem stars_ok {pos : Pos} {env : Env} : ∀ {es : List Expr}, (es.all fun e => !isStar e) = true → (backTo pos (starEach es env)).any (·.1) = false
  | [], _ => rfl
  | e :: r, h => by
    rw [List.all_cons, Bool.and_eq_true, Bool.not_eq_true'] at h
    rw [star_ok h.1]
    show (false || (backTo pos (starEach r env)).any (·.1)) = false
    rw [stars_ok h.2]
    rfl
theorem backTo_star {pos : Pos} {env : Env} : ∀ {es : List Expr}, (es.all fun e => !isStar e) = true → (backTo pos (starEach es env)).all (fun x => !x.1) = true
  | [], _ => rfl
  | e :: r, h => by
    rw [List.all_cons, Bool.and_eq_true, Bool.not_eq_true'] at h
    rw [star_ok h.1]
    show (!false && (backTo pos (starEach r env)).all (fun x => !x.1)) = true
    rw [backTo_star h.2]
    rfl
theorem few_ok {pos : Pos} {env : Env} {es : List Expr} (h : (es.all fun e => !isStar e) = true) (hl : es.length < 20) : ((backTo pos (starEach es env)).all (fun x => !x.1) && (backToKw pos (keywordEach [] env)).all (fun x => x.1.isSome)
      && decide (es.length + ([] : List Keyword).length + (if ([] : List Keyword).isEmpty then 0 else 1) < 30)) = true := by
  rw [backTo_star h]
  simp only [List.length_nil, List.isEmpty_nil, if_true, Nat.add_zero]
  rw [decide_eq_true (by omega)]
  rfl
theorem base_ok {o : Expr} {m : Str} {env : Env} (h : isRecv o = true) : attributeBase o m env (eval o env) = eval o env := by
  cases o <;> first | rfl | cases h
theorem plainIx_ok {i : Expr} (h : isSlice i = false) : PlainIx i := by
  intro o v
  cases i <;> first | rfl | cases h
theorem notset_ok {op : CmpOp} {b : Expr} (h : isSet b = false) : behindInMarks op b = false := by
  cases b <;> first | rfl | cases h
theorem last_ok {op op' : CmpOp} {b c : Expr} (h : isSet c = false) : lastMarks [op, op'] [b, c] = false := by
  show behindInMarks op' c = false
  exact notset_ok h
theorem plainT_ok {e : Expr} {env : Env} (h : isTest e = false) : ∀ whole, isTrue e env whole = (do let v ← whole; standAt e.pos; holding [v] (truthy v)) := by
  intro whole
  cases e with
  | UnaryOp o a p => cases o <;> first | rfl | cases h
  | _ => first | rfl | cases h
theorem assignSub_ok {o i : Expr} {pos : Pos} {env : Env} (h : isSlice i = false) : ∀ v, assign (.Subscript o i pos) env v = (do
      let ov ← holding [v] (eval o env)
      let iv ← holding [v, ov] (eval i env)
      standAt pos
      holding [v, ov, iv] (setItem ov iv v)
      release [v, ov, iv] []) := by
  intro v
  cases i <;> first | rfl | cases h
theorem assignEach_ok {e : Expr} {es : List Expr} {env : Env} (h : isStar e = false) : assignEach (e :: es) env = (false, assign e env) :: assignEach es env := by
  cases e <;> first | rfl | cases h
theorem folded_ok {e : Expr} {env : Env} (h : isSet e = false) : ∀ x, foldedSetIterable e env x = pure x := by
  intro x
  cases e <;> first | rfl | cases h
theorem cop_ok {o : CmpOp} {c : COp} (h : cop o = some c) : o = c.py := by
  cases o <;> simp [cop] at h <;> subst h <;> rfl
theorem bop_ok {o : Operator} {c : BOp} (h : bop o = some c) : o = c.py := by
  cases o <;> simp [bop] at h <;> subst h <;> rfl

/-! the built-ins by name -/
theorem bltOf_ok {x : Str} {n : Nat} {B : Blt} {m : Bool} (hc : X.calm = true) (h : bltOf x n = some B) : (∃ id, bootBuiltins x = some (.builtin id) ∧ CallR X (.builtin id) (rBl X.K C B m)) ∨ (∃ T, bootBuiltins x = some (.type T) ∧ CallR X (.type T) (rBl X.K C B m)) := by
  unfold bltOf at h
  split at h
  · rename_i e; cases h; rw [e.1]; exact .inl ⟨"len", by decide +kernel, len_ok m⟩
  split at h
  · rename_i e; cases h; rw [e.1]; exact .inr ⟨"int", by decide +kernel, int_ok m⟩
  split at h
  · rename_i e; cases h; rw [e.1]; exact .inr ⟨"list", by decide +kernel, list_ok m⟩
  split at h
  · rename_i e; cases h; rw [e.1]; exact .inr ⟨"tuple", by decide +kernel, tuple_ok m⟩
  split at h
  · rename_i e; cases h; rw [e.1]; exact .inl ⟨"sum", by decide +kernel, sum_ok hc m⟩
  split at h
  · rename_i e; cases h; rw [e.1]; exact .inl ⟨"max", by decide +kernel, max2_ok hc m⟩
  split at h
  · rename_i e; cases h; rw [e.1]; exact .inl ⟨"min", by decide +kernel, min2_ok hc m⟩
  split at h
  · rename_i e; cases h; rw [e.1]; exact .inl ⟨"any", by decide +kernel, any_ok hc m⟩
  split at h
  · rename_i e; cases h; rw [e.1]; exact .inl ⟨"all", by decide +kernel, all_ok hc m⟩
  split at h
  · rename_i e; cases h; rw [e.1]; exact .inl ⟨"sorted", by decide +kernel, sorted_ok m⟩
  split at h
  · rename_i e; cases h; rw [e.1]; exact .inr ⟨"str", by decide +kernel, str_ok m⟩
  · cases h
/-- isinstance(e, T) -/
theorem e_isi {e : Expr} {x t : Str} {p p2 pos : Pos} {B : Blt} {me : Ev → Sto → Kd → Prop} (hx : x = "isinstance") (hg : Gl X x) (hm : X.mg x = none) (hgt : Gl X t) (hmt : X.mg t = none) (ht : isiOf t = some B) (he : PE X e (tE X.K C me)) (oe : MonoE me) (hs : isStar e = false) :
    PE X (.Call (.Name x p) [e, .Name t p2] [] pos) (tE X.K C fun env st Q => me env st fun d s1 => bltD B false [d] s1 Q) := by
  subst hx
  have main : ∀ (T : String), bootBuiltins t = some (.type T) → t ≠ "__name__" → (t == ("__debug__" : Str)) = false →
      (∀ (d : D) (st : Sto) (Q : Kd), bltD B false [d] st Q → ∃ ty b, tyD d = some ty ∧ PySem.W.kitOne X.K (.type ty) (.type T) = some b ∧ Q (.bl b) st) →
      PE X (.Call (.Name "isinstance" p) [e, .Name t p2] [] pos) (tE X.K C fun env st Q => me env st fun d s1 => bltD B false [d] s1 Q) := by
    intro T hv hn hdb hk
    refine (pe_callB call_isi hg hm (by decide +kernel : bootBuiltins "isinstance" = some (.builtin "isinstance")) (pa_cons he (pa_cons (pe_bltn (v := .ty T) hgt hmt hv rfl hn hdb) pa_nil (star_ok rfl)) (star_ok hs)) (by decide) (by decide) (star_ok hs) rfl).imp fun σ H Q ⟨ι, env, st, S, E, q⟩ => tE.step oe S E q fun d s1 x H1 ι1 q e1 S1 E1 r1 => ?_
    obtain ⟨ty, b, hd, hb, q⟩ := hk d s1 _ q
    exact ⟨x, .ty T, _, .type T, b, rfl, .ty T, isi_ok r1 hd, hb, q _ _ _ e1 S1 rep_bl⟩
  unfold isiOf at ht
  split at ht
  · rename_i e; cases ht; subst e
    refine main "tuple" (by decide +kernel) (by decide) (by decide) fun d st Q q => ?_
    cases d <;> simp only [bltD] at q <;> exact ⟨_, _, rfl, L2.kit_ty (by decide +kernel), q⟩
  split at ht
  · rename_i e; cases ht; subst e
    refine main "int" (by decide +kernel) (by decide) (by decide) fun d st Q q => ?_
    cases d <;> simp only [bltD] at q <;> exact ⟨_, _, rfl, L2.kit_ty (by decide +kernel), q⟩
  split at ht
  · rename_i e; cases ht; subst e
    refine main "bool" (by decide +kernel) (by decide) (by decide) fun d st Q q => ?_
    cases d <;> simp only [bltD] at q <;> exact ⟨_, _, rfl, L2.kit_ty (by decide +kernel), q⟩
  split at ht
  · rename_i e; cases ht; subst e
    refine main "str" (by decide +kernel) (by decide) (by decide) fun d st Q q => ?_
    cases d <;> simp only [bltD] at q <;> exact ⟨_, _, rfl, L2.kit_ty (by decide +kernel), q⟩
  · cases ht
/-- sorted(set(e)) -/
theorem e_sortSet {e : Expr} {x t : Str} {p p2 q pos : Pos} {m : Bool} {me : Ev → Sto → Kd → Prop} (hc : X.calm = true) (hx : x = "sorted") (ht : t = "set") (hg : Gl X x) (hm : X.mg x = none) (hgt : Gl X t) (hmt : X.mg t = none) (he : PE X e (tE X.K C me)) (oe : MonoE me) (hs : isStar e = false) :
    PE X (.Call (.Name x p) [.Call (.Name t p2) [e] [] q] [] pos) (tE X.K C fun env st Q => me env st fun d s1 => bltD .sortSet m [d] s1 Q) := by
  subst hx ht
  refine (pe_callB (cr_sortedSet hc) hg hm (by decide +kernel : bootBuiltins "sorted" = some (.builtin "sorted")) (pa_cons (pe_callTy (cr_setI hc) hgt hmt (by decide +kernel : bootBuiltins "set" = some (.type "set")) (pa_cons he pa_nil (star_ok hs)) (by decide) (by decide) (star_ok hs) rfl) pa_nil (star_ok rfl)) (by decide) (by decide) (star_ok rfl) rfl).imp fun σ H Q ⟨ι, env, st, S, E, q⟩ => tE.step oe S E q fun d s1 x H1 ι1 q e1 S1 E1 r1 => ?_
  cases d with
  | tup xs =>
    obtain ⟨ns, e2, hl, q⟩ := opt_some (show opt (ints? xs) _ from q)
    obtain ⟨a, vs, rfl, h1, h2⟩ := tup_ok r1
    rw [ints?_ok e2, Reps.ints] at h2
    subst h2
    refine ⟨a, ns, rfl, h1, by omega, fun b c hb hcn => ⟨b, _, c, rfl, upd_same, by omega, fun ns' p hp1 hp2 _ hp => ?_⟩⟩
    obtain ⟨e3, S3⟩ := S1.imm (o := SetO X.w b (fun j => decide (j ∈ ns)) c) hb
    exact new_ok S3 (Reps.ints.mpr rfl) (new_mono (fun _ _ h => h.ext (e1.trans e3)) (q ns' hp1 fun k => by rw [hp2 k]; simp)) p hp
  | _ => exact q.elim
/-- len(set(e)) -/
theorem e_lenSet {e : Expr} {x t : Str} {p p2 q pos : Pos} {me : Ev → Sto → Kd → Prop} (hc : X.calm = true) (hx : x = "len") (ht : t = "set") (hg : Gl X x) (hm : X.mg x = none) (hgt : Gl X t) (hmt : X.mg t = none) (he : PE X e (tE X.K C me)) (oe : MonoE me) (hs : isStar e = false) :
    PE X (.Call (.Name x p) [.Call (.Name t p2) [e] [] q] [] pos) (tE X.K C fun env st Q => me env st fun d s1 => bltD .lenSet false [d] s1 Q) := by
  subst hx ht
  refine (pe_callB cr_lenS hg hm (by decide +kernel : bootBuiltins "len" = some (.builtin "len")) (pa_cons (pe_callTy (cr_setS hc) hgt hmt (by decide +kernel : bootBuiltins "set" = some (.type "set")) (pa_cons he pa_nil (star_ok hs)) (by decide) (by decide) (star_ok hs) rfl) pa_nil (star_ok rfl)) (by decide) (by decide) (star_ok rfl) rfl).imp fun σ H Q ⟨ι, env, st, S, E, q⟩ => tE.step oe S E q fun d s1 x H1 ι1 q e1 S1 E1 r1 => ?_
  cases d with
  | tup xs =>
    obtain ⟨ks, e2, hl, q⟩ := opt_some (show opt (strs? xs) _ from q)
    obtain ⟨a, vs, rfl, h1, h2⟩ := tup_ok r1
    rw [strs?_ok e2, Reps.strs] at h2
    subst h2
    refine ⟨a, ks, rfl, h1, hl, fun b hb => ⟨b, ks, rfl, upd_same, hl, ?_⟩⟩
    obtain ⟨e3, S3⟩ := S1.imm (o := SetSO X.prog X.w b ks) hb
    exact q (.int _) _ _ (e1.trans e3) S3 rep_int
  | _ => exact q.elim
theorem mthOf_ok {x : Str} {n : Nat} {B : Mth} {dn : Bool} (hu : X.A.units + 1 < cLine) (h : mthOf dn x n = some B) : ∃ T, RecvOk X.K C T B ∧ PlainAttrs T ∧ ∃ id, Slot T x id ∧ typeOf (.builtin id) = pure (.type "method_descriptor") ∧ MtR X id (rMt X.K C B) := by
  unfold mthOf at h
  split at h
  · rename_i e; cases h; rw [e.1]; exact ⟨_, recvL_ok (.inl rfl), PySem.F.plainAttrs_list, _, PySem.F.slot_list_append, PySem.F.type_list_append, append_ok⟩
  split at h
  · rename_i e; cases h; rw [e.1]; exact ⟨_, recvL_ok (.inr (.inl rfl)), PySem.F.plainAttrs_list, _, PySem.F.slot_list_pop, PySem.F.type_list_pop, pop0_ok⟩
  split at h
  · rename_i e; rw [e.1]
    split at h
    · cases h; exact ⟨_, recvD_ok (.inr (.inr (.inl rfl))), PySem.F.plainAttrs_dict, _, PySem.F.slot_dict_pop, PySem.F.type_dict_pop, dpop1_ok⟩
    · cases h; exact ⟨_, recvL_ok (.inr (.inr (.inl rfl))), PySem.F.plainAttrs_list, _, PySem.F.slot_list_pop, PySem.F.type_list_pop, pop1_ok⟩
  split at h
  · rename_i e; cases h; rw [e.1]; exact ⟨_, recvL_ok (.inr (.inr (.inr rfl))), PySem.F.plainAttrs_list, _, PySem.F.slot_list_extend, PySem.F.type_list_extend, extend_ok⟩
  split at h
  · rename_i e; cases h; rw [e.1]; exact ⟨_, recvD_ok (.inl rfl), PySem.F.plainAttrs_dict, _, PySem.F.slot_dict_get, PySem.F.type_dict_get, get1_ok hu⟩
  split at h
  · rename_i e; cases h; rw [e.1]; exact ⟨_, recvD_ok (.inr (.inl rfl)), PySem.F.plainAttrs_dict, _, PySem.F.slot_dict_get, PySem.F.type_dict_get, get2_ok hu⟩
  split at h
  · rename_i e; cases h; rw [e.1]; exact ⟨_, recvD_ok (.inr (.inr (.inr rfl))), PySem.F.plainAttrs_dict, _, PySem.F.slot_dict_pop, PySem.F.type_dict_pop, dpop2_ok hu⟩
  split at h
  · rename_i e; cases h; rw [e.1]; exact ⟨_, recvS_ok, PySem.F.plainAttrs_str, _, PySem.F.slot_str_join, PySem.F.type_str_join, join_ok⟩
  · cases h
end

/-! ### the theorem -/
structure Snd (Φ : Fns) (C : Nat → Addr) (k n : Nat) : Prop where
  e : ∀ {Γ X e p}, Fx Γ Φ C k X → cE n Γ e = some p → PE X e (tE X.K C (wE Φ p)) ∧ isStar e = false
  es : ∀ {Γ X es p}, Fx Γ Φ C k X → cEs n Γ es = some p → PA X es (tAr X.K C (wEs Φ p)) ∧ (es.all fun e => !isStar e) = true ∧ p.length = es.length
  ds : ∀ {Γ X ks vs p pos}, Fx Γ Φ C k X → cDs n Γ ks vs = some p → PD X C pos ks vs (wEs Φ p) ∧ p.length = 2 * ks.length
  and : ∀ {Γ X es p pos}, Fx Γ Φ C k X → cAnd n Γ es = some p → PE X (.BoolOp .And es pos) (tE X.K C (wE Φ p))
  or : ∀ {Γ X es p pos}, Fx Γ Φ C k X → cOr n Γ es = some p → PE X (.BoolOp .Or es pos) (tE X.K C (wE Φ p))
  b : ∀ {Γ X e p}, Fx Γ Φ C k X → cB n Γ e = some p → PT X e (MI.tB X.K C (wT Φ p))
  band : ∀ {Γ X es p pos}, Fx Γ Φ C k X → cBAnd n Γ es = some p → PW X (.BoolOp .And es pos) (MI.tB X.K C (wT Φ p))
  bor : ∀ {Γ X es p pos}, Fx Γ Φ C k X → cBOr n Γ es = some p → PW X (.BoolOp .Or es pos) (MI.tB X.K C (wT Φ p))
  o : ∀ {Γ X o p}, Fx Γ Φ C k X → cO n Γ o = some p → PO X o (tOp' X.K C (wO Φ p))
  c : ∀ {Γ X es p}, Fx Γ Φ C k X → cC n Γ es = some p → PTs X es (MI.tB X.K C (wC Φ p))
  t : ∀ {Γ X e p}, Fx Γ Φ C k X → cT n Γ e = some p → PG X e (tG X.K C (slots p) (wG Φ p)) ∧ isStar e = false
  ts : ∀ {Γ X es p}, Fx Γ Φ C k X → cTs n Γ es = some p → PGs X es (tGs X.K C (slotsL p) (wGs Φ p)) ∧ (assignEach es X.env).length = p.length ∧ (assignEach es X.env).findIdx? (·.1) = none
  i : ∀ {Γ X tg it p}, Fx Γ Φ C k X → cI n Γ tg it = some p → PI X tg it (tIt X.K C (wI Φ p))

section
variable {Φ : Fns} {C : Nat → Addr} {k : Nat}
theorem wEs_len (hΦ : ∀ f, MonoFn (Φ f)) : ∀ (ps : List SE) (env : Ev) (st : Sto) (Q : List D → Sto → Prop), wEs Φ ps env st Q → wEs Φ ps env st fun ds s => ds.length = ps.length ∧ Q ds s
  | [], env, st, Q, h => ⟨rfl, h⟩
  | p :: ps, env, st, Q, h => wE_mono hΦ p env st _ _ (fun x s1 q => wEs_mono hΦ ps env s1 _ _ (fun xs s2 q => ⟨by rw [List.length_cons, q.1, List.length_cons], q.2⟩) (wEs_len hΦ ps env s1 _ q)) h
theorem snd_zero : Snd Φ C k 0 := by
  constructor <;> (intros; rename_i h; first | (simp only [cE] at h; cases h; done) | (simp only [cEs] at h; cases h; done) | (simp only [cDs] at h; cases h; done) | (simp only [cAnd] at h; cases h; done) | (simp only [cOr] at h; cases h; done) | (simp only [cB] at h; cases h; done) | (simp only [cBAnd] at h; cases h; done) | (simp only [cBOr] at h; cases h; done) | (simp only [cO] at h; cases h; done) | (simp only [cC] at h; cases h; done) | (simp only [cT] at h; cases h; done) | (simp only [cTs] at h; cases h; done) | (simp only [cI] at h; cases h; done))
end
end MI

set_option maxRecDepth 100000
/-! MI, part 11: the step of the expressions' theorem. -/
namespace MI
open PySem PySem.Spec PyProof.Rows L2
section
variable {Φ : Fns} {C : Nat → Addr} {k n : Nat} {Γ : Gam} {X : Cx}
theorem bind_some {α β : Type} {o : Option α} {f : α → Option β} {y : β} (h : (o >>= f) = some y) : ∃ x, o = some x ∧ f x = some y := by
  cases o with
  | none => cases h
  | some x => exact ⟨x, rfl, h⟩
theorem map_some {α β : Type} {o : Option α} {f : α → β} {y : β} (h : o.map f = some y) : ∃ x, o = some x ∧ f x = y := by
  cases o with
  | none => cases h
  | some x => cases h; exact ⟨x, rfl, rfl⟩
theorem if_some {α : Type} {c : Bool} {o : Option α} {y : α} (h : (if c = true then o else none) = some y) : c = true ∧ o = some y := by
  cases c with
  | true => exact ⟨rfl, by simpa using h⟩
  | false => simp at h
theorem ifn_some {α : Type} {c : Bool} {o : Option α} {y : α} (h : (if c = true then none else o) = some y) : c = false ∧ o = some y := by
  cases c with
  | true => simp at h
  | false => exact ⟨rfl, by simpa using h⟩
theorem Snd.name (F : Fx Γ Φ C k X) {x : Str} {pos : Pos} {p : SE} (h : cE (n + 1) Γ (.Name x pos) = some p) : PE X (.Name x pos) (tE X.K C (wE Φ p)) := by
  obtain ⟨h0, h⟩ := if_some h
  obtain ⟨hd, hcd⟩ := okName_ok h0
  have loc : ∀ {o : Option Nat}, (o = Γ.slot x) → o.map SE.var = some p → Vis X.env.scope x → PE X (.Name x pos) (tE X.K C (wE Φ p)) := by
    intro o ho h hv
    obtain ⟨i, hi, e⟩ := map_some h
    subst e
    rw [hi] at ho
    exact (pe_var (slot_ok F ho.symm) hv hd hcd).imp fun σ H Q ⟨ι, env, st, S, E, q⟩ => by
      simp only [wE] at q
      split at q
      · rename_i d e
        obtain ⟨v, h1, h2⟩ := E.get i d e
        exact ⟨v, h1, q.here S h2⟩
      · exact q.elim
  split at h
  · rename_i e
    exact loc rfl h (.inl (by rw [F.sc]; exact e))
  · rename_i e
    exact loc rfl h (.inr (.inl (by rw [F.sc]; exact e)))
  · rename_i e
    exact loc rfl h (.inr (.inr (by rw [F.sc]; exact e)))
  · rename_i e
    split at h
    · rename_i d hd'
      cases h
      obtain ⟨u, v, h1, h2, h3⟩ := F.gcon x d hd'
      exact e_con (pe_glob (show X.env.scope.names.lookup x = some .globalImplicit by rw [F.sc]; exact e) h1 h2 hd) h3
    · cases h
  · cases h
theorem Snd.cmp (S : Snd Φ C k n) (F : Fx Γ Φ C k X) {l r : Expr} {o : COp} {l' r' : SE} (hl : cE n Γ l = some l') (hr : cE n Γ r = some r') (hs : isSet r = false) (pos : Pos) :
    PE X (.Compare l [o.py] [r] pos) (tE X.K C (wE Φ (.cmp o l' r'))) ∧ PT X (.Compare l [o.py] [r] pos) (MI.tB X.K C (wT Φ (.cmp o l' r'))) :=
  ⟨e_cmp (f := cmpD o) (fun _ _ _ _ _ h => cmpD_mono h) (cmp_ok F.hu o) (S.e F hl).1 (S.e F hr).1 (wE_mono F.mono l') (wE_mono F.mono r') (notset_ok hs),
    b_cmp (f := cmpD o) (fun _ _ _ _ _ h => cmpD_mono h) (cmp_ok F.hu o) (S.e F hl).1 (S.e F hr).1 (wE_mono F.mono l') (wE_mono F.mono r') (notset_ok hs)⟩
theorem Snd.chain (S : Snd Φ C k n) (F : Fx Γ Φ C k X) {l r s : Expr} {o o' : COp} {l' r' s' : SE} (hl : cE n Γ l = some l') (hr : cE n Γ r = some r') (hs' : cE n Γ s = some s') (hs : isSet s = false) (pos : Pos) :
    PE X (.Compare l [o.py, o'.py] [r, s] pos) (tE X.K C (wE Φ (.chain o o' l' r' s'))) ∧ PT X (.Compare l [o.py, o'.py] [r, s] pos) (MI.tB X.K C (wT Φ (.chain o o' l' r' s'))) :=
  ⟨e_chain (f := cmpD o) (f' := cmpD o') (fun _ _ _ _ _ h => cmpD_mono h) (fun _ _ _ _ _ h => cmpD_mono h) (cmp_ok F.hu o) (cmp_ok F.hu o') (S.e F hl).1 (S.e F hr).1 (S.e F hs').1 (wE_mono F.mono l') (wE_mono F.mono r') (wE_mono F.mono s') (last_ok hs),
    b_chain (f := cmpD o) (f' := cmpD o') (fun _ _ _ _ _ h => cmpD_mono h) (fun _ _ _ _ _ h => cmpD_mono h) (cmp_ok F.hu o) (cmp_ok F.hu o') (S.e F hl).1 (S.e F hr).1 (S.e F hs').1 (wE_mono F.mono l') (wE_mono F.mono r') (wE_mono F.mono s') (last_ok hs)⟩
theorem Snd.lists (S : Snd Φ C k n) (F : Fx Γ Φ C k X) {es : List Expr} {p : List SE} (h : cEs (n + 1) Γ es = some p) : PA X es (tAr X.K C (wEs Φ p)) ∧ (es.all fun e => !isStar e) = true ∧ p.length = es.length := by
  cases es with
  | nil => cases h; exact ⟨l_nil, rfl, rfl⟩
  | cons e r =>
    obtain ⟨h0, h⟩ := ifn_some h
    obtain ⟨e', he, h⟩ := bind_some h
    obtain ⟨r', hr, h⟩ := bind_some h
    cases h
    obtain ⟨h1, h2, h3⟩ := S.es F hr
    exact ⟨l_cons (S.e F he).1 h1 (wE_mono F.mono e') (wEs_mono F.mono r') (star_ok h0), by rw [List.all_cons, h0, h2]; rfl, by rw [List.length_cons, List.length_cons, h3]⟩
theorem Snd.dicts (S : Snd Φ C k n) (F : Fx Γ Φ C k X) {ks : List (Option Expr)} {vs : List Expr} {p : List SE} {pos : Pos} (h : cDs (n + 1) Γ ks vs = some p) : PD X C pos ks vs (wEs Φ p) ∧ p.length = 2 * ks.length := by
  match ks, vs, h with
  | [], [], h => cases h; exact ⟨pd_nil, rfl⟩
  | some e :: ks, v :: vs, h =>
    obtain ⟨e', he, h⟩ := bind_some h
    obtain ⟨v', hv, h⟩ := bind_some h
    obtain ⟨r', hr, h⟩ := bind_some h
    cases h
    obtain ⟨h1, h2⟩ := S.ds F hr
    exact ⟨pd_cons (S.e F he).1 (S.e F hv).1 h1 (wE_mono F.mono e') (wE_mono F.mono v'), by rw [List.length_cons, List.length_cons, List.length_cons, h2]; omega⟩
  | [], _ :: _, h => cases h
  | none :: _, _, h => cases h
  | some _ :: _, [], h => cases h
theorem Snd.ands (S : Snd Φ C k n) (F : Fx Γ Φ C k X) {es : List Expr} {p : SE} {pos : Pos} (h : cAnd (n + 1) Γ es = some p) : PE X (.BoolOp .And es pos) (tE X.K C (wE Φ p)) := by
  match es, h with
  | [], h => cases h
  | [e], h => exact pe_one (S.e F h).1
  | e :: e2 :: r, h =>
    obtain ⟨e', he, h⟩ := bind_some h
    obtain ⟨r', hr, h⟩ := bind_some h
    cases h
    exact e_and (S.e F he).1 (S.and F hr) (wE_mono F.mono e') (wE_mono F.mono r')
theorem Snd.ors (S : Snd Φ C k n) (F : Fx Γ Φ C k X) {es : List Expr} {p : SE} {pos : Pos} (h : cOr (n + 1) Γ es = some p) : PE X (.BoolOp .Or es pos) (tE X.K C (wE Φ p)) := by
  match es, h with
  | [], h => cases h
  | [e], h => exact pe_one (S.e F h).1
  | e :: e2 :: r, h =>
    obtain ⟨e', he, h⟩ := bind_some h
    obtain ⟨r', hr, h⟩ := bind_some h
    cases h
    exact e_or (S.e F he).1 (S.or F hr) (wE_mono F.mono e') (wE_mono F.mono r')
theorem Snd.bands (S : Snd Φ C k n) (F : Fx Γ Φ C k X) {es : List Expr} {p : SB} {pos : Pos} (h : cBAnd (n + 1) Γ es = some p) : PW X (.BoolOp .And es pos) (MI.tB X.K C (wT Φ p)) := by
  match es, h with
  | [], h => cases h
  | [e], h => exact pw_and1 (S.b F h)
  | e :: e2 :: r, h =>
    obtain ⟨e', he, h⟩ := bind_some h
    obtain ⟨r', hr, h⟩ := bind_some h
    cases h
    exact b_and (S.b F he) (S.band F hr) (wT_mono F.mono e') (wT_mono F.mono r')
theorem Snd.bors (S : Snd Φ C k n) (F : Fx Γ Φ C k X) {es : List Expr} {p : SB} {pos : Pos} (h : cBOr (n + 1) Γ es = some p) : PW X (.BoolOp .Or es pos) (MI.tB X.K C (wT Φ p)) := by
  match es, h with
  | [], h => cases h
  | [e], h => exact pw_or1 (S.b F h)
  | e :: e2 :: r, h =>
    obtain ⟨e', he, h⟩ := bind_some h
    obtain ⟨r', hr, h⟩ := bind_some h
    cases h
    exact b_or (S.b F he) (S.bor F hr) (wT_mono F.mono e') (wT_mono F.mono r')
theorem Snd.opts (S : Snd Φ C k n) (F : Fx Γ Φ C k X) {o : Option Expr} {p : Option SE} (h : cO (n + 1) Γ o = some p) : PO X o (tOp' X.K C (wO Φ p)) := by
  cases o with
  | none => cases h; exact o_none
  | some e =>
    obtain ⟨e', he, h⟩ := map_some h
    subst h
    exact o_some (S.e F he).1 (wE_mono F.mono e')
theorem Snd.tests (S : Snd Φ C k n) (F : Fx Γ Φ C k X) {es : List Expr} {p : Option SB} (h : cC (n + 1) Γ es = some p) : PTs X es (MI.tB X.K C (wC Φ p)) := by
  match es, h with
  | [], h => cases h; exact pts_nil.imp fun σ H Q ⟨ι, env, st, S, E, q⟩ => PostB.here q S
  | [e], h =>
    obtain ⟨e', he, h⟩ := map_some h
    subst h
    exact pts_one (S.b F he)
  | e :: e2 :: r, h => cases h
theorem Snd.targets (S : Snd Φ C k n) (F : Fx Γ Φ C k X) {es : List Expr} {p : List ST} (h : cTs (n + 1) Γ es = some p) : PGs X es (tGs X.K C (slotsL p) (wGs Φ p)) ∧ (assignEach es X.env).length = p.length ∧ (assignEach es X.env).findIdx? (·.1) = none := by
  cases es with
  | nil => cases h; exact ⟨gs_nil, rfl, rfl⟩
  | cons e r =>
    obtain ⟨h0, h⟩ := ifn_some h
    obtain ⟨e', he, h⟩ := bind_some h
    obtain ⟨r', hr, h⟩ := bind_some h
    cases h
    obtain ⟨h1, h2, h3⟩ := S.ts F hr
    refine ⟨gs_cons (S.t F he).1 h1 (wG_mono F.mono e') (wGs_mono F.mono r') (by rw [assignEach_ok h0]; rfl), ?_, ?_⟩
    · rw [assignEach_ok h0, List.length_cons, h2, List.length_cons]
    · rw [assignEach_ok h0, List.findIdx?_cons, h3]
      rfl
theorem Snd.target (S : Snd Φ C k n) (F : Fx Γ Φ C k X) {e : Expr} {p : ST} (h : cT (n + 1) Γ e = some p) : PG X e (tG X.K C (slots p) (wG Φ p)) ∧ isStar e = false := by
  cases e with
  | Name x pos =>
    refine ⟨?_, rfl⟩
    have h : (match Γ.sc.names.lookup x with
      | some .local => (Γ.slot x).map ST.nm
      | some .cell => if Γ.fn x then (Γ.slot x).map ST.nm else none
      | _ => none) = some p := h
    split at h
    · rename_i e
      obtain ⟨i, hi, h⟩ := map_some h
      subst h
      exact g_name F.nd (slot_ok F hi) (.inl (by rw [F.sc]; exact e)) (.inr (by rw [F.sc]; exact e))
    · rename_i e
      obtain ⟨h0, h⟩ := if_some h
      obtain ⟨i, hi, h⟩ := map_some h
      subst h
      exact g_name F.nd (slot_ok F hi) (.inr (by rw [F.sc]; exact e)) (.inl (by rw [F.fn]; exact h0))
    · cases h
  | Tuple es kk pos =>
    refine ⟨?_, rfl⟩
    obtain ⟨ts, ht, h⟩ := map_some (show (cTs n Γ es).map ST.tup = some p from h)
    subst h
    obtain ⟨h1, h2, h3⟩ := S.ts F ht
    exact g_tup F.calm h1 h2 h3
  | Subscript o i pos =>
    refine ⟨?_, rfl⟩
    obtain ⟨h0, h⟩ := ifn_some h
    obtain ⟨o', ho, h⟩ := bind_some h
    obtain ⟨i', hi, h⟩ := bind_some h
    cases h
    exact g_sub F.h1 (S.e F ho).1 (S.e F hi).1 (wE_mono F.mono o') (wE_mono F.mono i') (assignSub_ok h0)
  | _ => cases h
theorem isBl_ok {x : Str} (F : Fx Γ Φ C k X) (h : Γ.isBl x = true) : Gl X x ∧ X.mg x = none := by
  unfold Gam.isBl at h
  rw [Bool.and_eq_true, decide_eq_true_eq] at h
  exact ⟨isGl_ok F h.1, F.gbl x h.2⟩
theorem Snd.iter (S : Snd Φ C k n) (F : Fx Γ Φ C k X) {tg it : Expr} {p : SI} (h : cI (n + 1) Γ tg it = some p) : PI X tg it (tIt X.K C (wI Φ p)) := by
  have seq : (cE n Γ it).map (if isCh tg = true then SI.chars else SI.seq) = some p → PI X tg it (tIt X.K C (wI Φ p)) := fun h => by
    obtain ⟨e, he, h⟩ := map_some h
    subst h
    split
    · exact i_chars (S.e F he).1 (wE_mono F.mono e)
    · exact i_seq (S.e F he).1 (wE_mono F.mono e)
  unfold cI at h
  split at h
  · rename_i x _ es _
    split at h
    · rename_i hx
      obtain ⟨rfl, hb⟩ := hx
      obtain ⟨hg, hm⟩ := isBl_ok F hb
      split at h
      · obtain ⟨a, ha, h⟩ := map_some h
        subst h
        exact i_rng1 hg hm (S.e F ha).1 (wE_mono F.mono a) (star_ok (S.e F ha).2)
      · obtain ⟨a, ha, h⟩ := bind_some h
        obtain ⟨b, hb, h⟩ := bind_some h
        cases h
        exact i_rng2 hg hm (S.e F ha).1 (S.e F hb).1 (wE_mono F.mono a) (wE_mono F.mono b) (star_ok (S.e F ha).2) (star_ok (S.e F hb).2)
      · obtain ⟨a, ha, h⟩ := bind_some h
        obtain ⟨b, hb, h⟩ := bind_some h
        obtain ⟨c, hc, h⟩ := bind_some h
        cases h
        exact i_rng3 hg hm (S.e F ha).1 (S.e F hb).1 (S.e F hc).1 (wE_mono F.mono a) (wE_mono F.mono b) (wE_mono F.mono c) (star_ok (S.e F ha).2) (star_ok (S.e F hb).2) (star_ok (S.e F hc).2)
      · cases h
    · split at h
      · rename_i hx
        obtain ⟨rfl, hb⟩ := hx
        obtain ⟨hg, hm⟩ := isBl_ok F hb
        split at h
        · split at h
          · obtain ⟨a, ha, h⟩ := map_some h
            subst h
            exact i_enum hg hm (S.e F ha).1 (wE_mono F.mono a) (star_ok (S.e F ha).2)
          · cases h
        · cases h
      · exact seq h
  · exact seq h
theorem Snd.lc (S : Snd Φ C k n) (F : Fx Γ Φ C k X) {elt tg it : Expr} {ifs : List Expr} {scope : Scope} {pos : Pos} {m : Bool} {it' : SI} {tg' : ST} {c' : Option SB} {elt' : SE} (hb : blkC Γ.N Γ.sc scope (Γ.own scope) = true)
    (hi : cI n Γ tg it = some it') (ht : cT n (Γ.blk scope) tg = some tg') (hc : cC n (Γ.blk scope) ifs = some c') (he : cE n (Γ.blk scope) elt = some elt') (hs : ∀ j ∈ slots tg', j ∈ (Γ.own scope).map (·.2)) (hset : isSet it = false) :
    PE X (.ListComp elt [⟨tg, it, ifs, 0⟩] scope pos) (tE X.K C (wE Φ (.lc m elt' tg' it' c' ((Γ.own scope).map (·.2))))) ∧
    ∀ {i : Nat} {y : Str} {py spos : Pos}, X.N[i]? = some y → X.env.scope.names.lookup y = some .local → swapsWith (.ListComp elt [⟨tg, it, ifs, 0⟩] scope pos) (some (.Name y py)) spos.line X.env = pure true →
      ∃ t, PS X (.Assign [.Name y py] (.ListComp elt [⟨tg, it, ifs, 0⟩] scope pos) spos) (tAsg t (gName i)) ∧ ∀ σ H Q, tE X.K C (wE Φ (.lc m elt' tg' it' c' ((Γ.own scope).map (·.2)))) σ H Q → t σ H Q := by
  have ok : BlkOk X.N X.env.scope scope (Γ.own scope) := blkOk_by (by rw [F.N, F.sc]; exact hb)
  have fold : ∀ x, foldedSetIterable it X.env x = pure x := folded_ok hset
  have rd : ∀ σ H Q, tE X.K C (wE Φ (.lc m elt' tg' it' c' ((Γ.own scope).map (·.2)))) σ H Q → tLc (tIt X.K C (wI Φ it')) (tG X.K C (slots tg') (wG Φ tg')) (MI.tB X.K C (wC Φ c')) (tE X.K C (wE Φ elt')) ((Γ.own scope).map (·.2)) σ H Q :=
    fun σ H Q q => lc_read (m := m) hs (wG_mono F.mono tg') (wC_mono F.mono c') (wE_mono F.mono elt') (wI_mono F.mono it') q
  exact ⟨(pe_lc F.calm F.nd (S.i F hi) ok (fun s H A cl fp => (S.t (F.blk s H scope cl A fp) ht).1) (fun s H A cl fp => S.c (F.blk s H scope cl A fp) hc) (fun s H A cl fp => (S.e (F.blk s H scope cl A fp) he).1) fold).imp rd,
    fun hy hl hw => ⟨_, ps_setLc F.calm F.nd hy hl hw (S.i F hi) ok (fun s H A cl fp => (S.t (F.blk s H scope cl A fp) ht).1) (fun s H A cl fp => S.c (F.blk s H scope cl A fp) hc) (fun s H A cl fp => (S.e (F.blk s H scope cl A fp) he).1) fold, rd⟩⟩
theorem Snd.lenDC (S : Snd Φ C k n) (F : Fx Γ Φ C k X) {kx vx tg it : Expr} {scope : Scope} {x : Str} {p p2 pos : Pos} {it' : SE} {j : Nat} (hx : x = "len") (hg : Gl X x) (hm : X.mg x = none) (hb : blkC Γ.N Γ.sc scope (Γ.own scope) = true)
    (hi : cE n Γ it = some it') (ht : cT n (Γ.blk scope) tg = some (.nm j)) (hk : cE n (Γ.blk scope) kx = some (.var j)) (hv : cE n (Γ.blk scope) vx = some (.con (.bl true))) (hcc : cC n (Γ.blk scope) [] = some none) (hj : j < Γ.N.length) (hs : j ∈ (Γ.own scope).map (·.2)) (hset : isSet it = false) :
    PE X (.Call (.Name x p) [.DictComp kx vx [⟨tg, it, [], 0⟩] scope p2] [] pos) (tE X.K C (wE Φ (.blt .lenSet false [it']))) := by
  subst hx
  have ok : BlkOk X.N X.env.scope scope (Γ.own scope) := blkOk_by (by rw [F.N, F.sc]; exact hb)
  have fold : ∀ x, foldedSetIterable it X.env x = pure x := folded_ok hset
  have pd := pe_dc (pos := p2) (g := tG X.K C [j] (wG Φ (.nm j))) (tt := MI.tB X.K C (wC Φ none)) (tk := tE X.K C (wE Φ (.var j))) (tv := tE X.K C (wE Φ (.con (.bl true)))) F.calm F.nd (pi_tup (tg := tg) (S.e F hi).1) ok (fun s H A cl fp => (S.t (F.blk s H scope cl A fp) ht).1) (fun s H A cl fp => S.c (F.blk s H scope cl A fp) hcc) (fun s H A cl fp => (S.e (F.blk s H scope cl A fp) hk).1) (fun s H A cl fp => (S.e (F.blk s H scope cl A fp) hv).1) fold
  have pc := pe_callB (p := p) (pos := pos) call_lenD hg hm (by decide +kernel : bootBuiltins "len" = some (.builtin "len")) (pa_cons pd pa_nil (star_ok rfl)) (by decide) (by decide) (star_ok rfl) rfl
  refine ⟨fun pins s σ H Q I h => pc.run pins s σ H Q I ?_⟩
  obtain ⟨ι, env, st, S0, E, q⟩ := h
  have hl : j < env.length := by rw [E.len, I.len, F.N]; exact hj
  refine tE.step (wE_mono F.mono it') S0 E q fun d s1 v H1 ι1 q e1 S1 E1 r1 => ?_
  cases d with
  | tup xs =>
    obtain ⟨ks, e2, small, q⟩ := opt_some (show opt (strs? xs) _ from q)
    simp only [Rep] at r1
    obtain ⟨a, vs, rfl, h1, h2⟩ := r1
    rw [strs?_ok e2, Reps.strs] at h2
    subst h2
    refine ⟨a, rfl, ⟨_, h1.sq⟩, fun D hD => dc_read hs hl S1 E1 hD h1 small (fun H3 ι3 e3 S3 ⟨kvs, g1, g2⟩ => ?_) Φ⟩
    refine ⟨D, kvs, rfl, g1, ?_⟩
    rw [g2]
    exact q (.int _) _ _ (e1.trans e3) S3 rep_int
  | _ => exact q.elim
theorem Snd.lc2 (S : Snd Φ C k n) (F : Fx Γ Φ C k X) {elt tg it tg1 it1 : Expr} {ifs ifs1 : List Expr} {scope : Scope} {pos : Pos} {m : Bool} {it' it1' : SI} {tg' tg1' : ST} {c' c1' : Option SB} {elt' : SE} (hb : blkC Γ.N Γ.sc scope (Γ.own scope) = true)
    (hi : cI n Γ tg it = some it') (ht : cT n (Γ.blk scope) tg = some tg') (hc : cC n (Γ.blk scope) ifs = some c') (hi1 : cI n (Γ.blk scope) tg1 it1 = some it1') (ht1 : cT n (Γ.blk scope) tg1 = some tg1') (hc1 : cC n (Γ.blk scope) ifs1 = some c1') (he : cE n (Γ.blk scope) elt = some elt')
    (hs : ∀ j ∈ slots tg', j ∈ (Γ.own scope).map (·.2)) (hs1 : ∀ j ∈ slots tg1', j ∈ (Γ.own scope).map (·.2)) (hset : isSet it = false) (hset1 : isSet it1 = false) :
    PE X (.ListComp elt [⟨tg, it, ifs, 0⟩, ⟨tg1, it1, ifs1, 0⟩] scope pos) (tE X.K C (wE Φ (.lc2 m elt' tg' it' c' tg1' it1' c1' ((Γ.own scope).map (·.2)) (slots tg1')))) ∧
    ∀ {i : Nat} {y : Str} {py spos : Pos}, X.N[i]? = some y → X.env.scope.names.lookup y = some .local → swapsWith (.ListComp elt [⟨tg, it, ifs, 0⟩, ⟨tg1, it1, ifs1, 0⟩] scope pos) (some (.Name y py)) spos.line X.env = pure true →
      ∃ t, PS X (.Assign [.Name y py] (.ListComp elt [⟨tg, it, ifs, 0⟩, ⟨tg1, it1, ifs1, 0⟩] scope pos) spos) (tAsg t (gName i)) ∧ ∀ σ H Q, tE X.K C (wE Φ (.lc2 m elt' tg' it' c' tg1' it1' c1' ((Γ.own scope).map (·.2)) (slots tg1'))) σ H Q → t σ H Q := by
  have ok : BlkOk X.N X.env.scope scope (Γ.own scope) := blkOk_by (by rw [F.N, F.sc]; exact hb)
  have fold : ∀ x, foldedSetIterable it X.env x = pure x := folded_ok hset
  have rd : ∀ σ H Q, tE X.K C (wE Φ (.lc2 m elt' tg' it' c' tg1' it1' c1' ((Γ.own scope).map (·.2)) (slots tg1'))) σ H Q → tLc2 (tIt X.K C (wI Φ it')) (tG X.K C (slots tg') (wG Φ tg')) (MI.tB X.K C (wC Φ c')) (tIt X.K C (wI Φ it1')) (tG X.K C (slots tg1') (wG Φ tg1')) (MI.tB X.K C (wC Φ c1')) (tE X.K C (wE Φ elt')) ((Γ.own scope).map (·.2)) (slots tg1') σ H Q :=
    fun σ H Q q => lc2_read (m := m) hs (fun _ h => h) (wG_mono F.mono tg') (wC_mono F.mono c') (wE_mono F.mono elt') (wI_mono F.mono it') (wG_mono F.mono tg1') (wC_mono F.mono c1') (wI_mono F.mono it1') q
  exact ⟨(pe_lc2 F.calm F.nd (S.i F hi) ok hs1 (fun s H A cl fp => (S.t (F.blk s H scope cl A fp) ht).1) (fun s H A cl fp => S.c (F.blk s H scope cl A fp) hc) (fun s H A cl fp => S.i (F.blk s H scope cl A fp) hi1) (fun s H A cl fp => (S.t (F.blk s H scope cl A fp) ht1).1)
      (fun s H A cl fp => S.c (F.blk s H scope cl A fp) hc1) (fun s H A cl fp => (S.e (F.blk s H scope cl A fp) he).1) fold (fun env => folded_ok hset1)).imp rd,
    fun hy hl hw => ⟨_, ps_setLc2 F.calm F.nd hy hl hw (S.i F hi) ok hs1 (fun s H A cl fp => (S.t (F.blk s H scope cl A fp) ht).1) (fun s H A cl fp => S.c (F.blk s H scope cl A fp) hc) (fun s H A cl fp => S.i (F.blk s H scope cl A fp) hi1) (fun s H A cl fp => (S.t (F.blk s H scope cl A fp) ht1).1)
      (fun s H A cl fp => S.c (F.blk s H scope cl A fp) hc1) (fun s H A cl fp => (S.e (F.blk s H scope cl A fp) he).1) fold (fun env => folded_ok hset1), rd⟩⟩
end
end MI

set_option maxRecDepth 100000
/-! MI, part 12: the expressions' theorem. -/
namespace MI
open PySem PySem.Spec PyProof.Rows L2
section
variable {Φ : Fns} {C : Nat → Addr} {k n : Nat} {Γ : Gam} {X : Cx}
theorem Snd.call (S : Snd Φ C k n) (F : Fx Γ Φ C k X) {f : Expr} {es : List Expr} {kws : List Keyword} {pos : Pos} {p : SE} (h : cE (n + 1) Γ (.Call f es kws pos) = some p) : PE X (.Call f es kws pos) (tE X.K C (wE Φ p)) := by
  cases kws with
  | cons _ _ => cases h
  | nil =>
  cases f with
  | Name x xp =>
    obtain ⟨h0, h⟩ := if_some h
    simp only [Bool.and_eq_true, Bool.not_eq_true'] at h0
    obtain ⟨⟨⟨h1, h2⟩, h3⟩, h4⟩ := h0
    have hn : x ≠ "__name__" := fun e => by subst e; simp at h3
    have hg := isGl_ok F h2
    obtain ⟨hdb, _⟩ := okName_ok h1
    split at h
    · rename_i i m hl
      obtain ⟨fa, fd, ps, g1, g2, g3, g4⟩ := F.gfn x i m hl
      split at h
      · rename_i hlen
        obtain ⟨es', he, h⟩ := map_some h
        subst h
        obtain ⟨a1, a2, a3⟩ := S.es F he
        cases es with
        | nil =>
          cases he' : es' with
          | cons _ _ => rw [he'] at a3; simp at a3
          | nil =>
            subst hlen
            exact e_call0 (F.mono i) g4 F.room hg g1 g2 g3 hdb
        | cons e r =>
          rw [List.all_cons, Bool.and_eq_true, Bool.not_eq_true'] at h4
          exact e_call (F.mono i) g4 F.room hg g1 g2 g3 a1 (wEs_mono F.mono es') (fun env st Q q => by
            have := wEs_len F.mono es' env st Q q
            rw [a3, hlen] at this
            exact this) hdb (star_ok h4.1) (stars_ok h4.2)
      · cases h
    · cases h
    · obtain ⟨hb, h⟩ := if_some h
      have hm := F.gbl x (of_decide_eq_true hb)
      cases es with
      | nil => cases h
      | cons e r =>
        rw [List.all_cons, Bool.and_eq_true, Bool.not_eq_true'] at h4
        by_cases hx : x = "isinstance"
        · have h : (match (generalizing := false) r with
                    | [.Name t _] => if okName t && Γ.isBl t && !(t == ("__name__" : Str)) then do
                        let b ← isiOf t
                        let e ← cE n Γ e
                        some (SE.blt b false [e])
                      else none
                    | _ => none) = some p := by
            have := h
            simp only [hx, if_true] at this
            exact this
          split at h
          · rename_i t tp
            obtain ⟨h0, h⟩ := if_some h
            simp only [Bool.and_eq_true, Bool.not_eq_true'] at h0
            obtain ⟨b, hb, h⟩ := bind_some h
            obtain ⟨e', he, h⟩ := bind_some h
            cases h
            obtain ⟨gt, mt⟩ := isBl_ok F h0.1.2
            exact e_isi hx hg hm gt mt hb (S.e F he).1 (wE_mono F.mono e') h4.1
          · cases h
        · by_cases hls : x = "len" ∧ isSetCall e = true
          · have h : (match (generalizing := false) e, r with
                    | .Call (.Name s _) [a] [] _, [] => if Γ.isBl s && !isStar a then do
                        let a ← cE n Γ a
                        some (SE.blt .lenSet false [a])
                      else none
                    | _, _ => none) = some p := by
              have := h
              simp only [hx, hls, if_false, if_true, and_self] at this
              exact this
            split at h
            · rename_i s sp a q
              obtain ⟨h0, h⟩ := if_some h
              simp only [Bool.and_eq_true, Bool.not_eq_true'] at h0
              obtain ⟨a', ha, h⟩ := bind_some h
              cases h
              obtain ⟨gt, mt⟩ := isBl_ok F h0.1
              exact e_lenSet F.calm hls.1 (eq_of_beq hls.2) hg hm gt mt (S.e F ha).1 (wE_mono F.mono a') h0.2
            · cases h
          by_cases hld : x = "len" ∧ isDC e = true
          · have h : (match (generalizing := false) e, r with
                    | .DictComp kx vx [⟨tg, it, [], 0⟩] scope _, [] => if blkC Γ.N Γ.sc scope (Γ.own scope) && !isSet it then do
                        let it' ← cE n Γ it
                        let tg' ← cT n (Γ.blk scope) tg
                        let kx' ← cE n (Γ.blk scope) kx
                        let vx' ← cE n (Γ.blk scope) vx
                        let c' ← cC n (Γ.blk scope) []
                        dcS Γ.N.length ((Γ.own scope).map (·.2)) it' tg' kx' vx' c'
                      else none
                    | _, _ => none) = some p := by
              have := h
              dsimp only at this
              rw [if_neg hx, if_neg hls, if_pos hld] at this
              exact this
            split at h
            · rename_i kx vx tg it scope p2
              obtain ⟨h0, h⟩ := if_some h
              simp only [Bool.and_eq_true, Bool.not_eq_true'] at h0
              obtain ⟨it', hi, h⟩ := bind_some h
              obtain ⟨tg', ht, h⟩ := bind_some h
              obtain ⟨kx', hk, h⟩ := bind_some h
              obtain ⟨vx', hv, h⟩ := bind_some h
              obtain ⟨c', hcc, h⟩ := bind_some h
              unfold dcS at h
              split at h
              · split at h
                · rename_i hij
                  cases h
                  obtain ⟨rfl, h5, h6⟩ := hij
                  exact S.lenDC F hld.1 hg hm h0.1 hi ht hk hv hcc h5 h6 h0.2
                · cases h
              · cases h
            · cases h
          by_cases hss : x = "sorted" ∧ isSetCall e = true
          · have h : (match (generalizing := false) e, r with
                    | .Call (.Name s _) [a] [] _, [] => if Γ.isBl s && !isStar a then do
                        let a ← cE n Γ a
                        some (SE.blt .sortSet (Γ.mut pos) [a])
                      else none
                    | _, _ => none) = some p := by
              have := h
              simp only [hx, hls, hld, hss, if_false, if_true, and_self] at this
              exact this
            split at h
            · rename_i s sp a q
              obtain ⟨h0, h⟩ := if_some h
              simp only [Bool.and_eq_true, Bool.not_eq_true'] at h0
              obtain ⟨a', ha, h⟩ := bind_some h
              cases h
              obtain ⟨gt, mt⟩ := isBl_ok F h0.1
              exact e_sortSet F.calm hss.1 (eq_of_beq hss.2) hg hm gt mt (S.e F ha).1 (wE_mono F.mono a') h0.2
            · cases h
          have h : (do
                    let b ← bltOf x (e :: r).length
                    let es ← cEs n Γ (e :: r)
                    some (SE.blt b (Γ.mut pos) es)) = some p := by
            have := h
            simp only [hx, hls, hld, hss, if_false] at this
            exact this
          obtain ⟨b, hb, h⟩ := bind_some h
          obtain ⟨es', he, h⟩ := bind_some h
          cases h
          obtain ⟨a1, a2, a3⟩ := S.es F he
          rcases bltOf_ok (X := X) (C := C) (m := Γ.mut pos) F.calm hb with ⟨id, hv, hc⟩ | ⟨T, hv, hc⟩
          · exact e_bltB hc hg hm hv a1 (wEs_mono F.mono es') hn hdb (star_ok h4.1) (stars_ok h4.2)
          · exact e_bltT hc hg hm hv a1 (wEs_mono F.mono es') hn hdb (star_ok h4.1) (stars_ok h4.2)
  | Attribute o m apos =>
    obtain ⟨h0, h⟩ := if_some h
    simp only [Bool.and_eq_true, decide_eq_true_eq] at h0
    obtain ⟨⟨⟨h1, h2⟩, h3⟩, h5⟩ := h0
    obtain ⟨b, hb, h⟩ := bind_some h
    obtain ⟨o', ho, h⟩ := bind_some h
    obtain ⟨es', he, h⟩ := bind_some h
    cases h
    obtain ⟨T, hB, hpa, id, s1, s2, s3⟩ := mthOf_ok (X := X) (C := C) F.h1 hb
    obtain ⟨a1, a2, a3⟩ := S.es F he
    cases es with
    | nil =>
      cases he' : es' with
      | cons _ _ => rw [he'] at a3; simp at a3
      | nil => exact e_mthL0 hB hpa s1 s2 s3 (S.e F ho).1 (wE_mono F.mono o') (base_ok h1) h3
    | cons e r =>
      have h6 := h2
      rw [List.all_cons, Bool.and_eq_true, Bool.not_eq_true'] at h6
      exact e_mthL hB hpa s1 s2 s3 (S.e F ho).1 (wE_mono F.mono o') a1 (wEs_mono F.mono es') (base_ok h1) (few_ok h2 h5) h3 (star_ok h6.1) (stars_ok h6.2)
  | _ => cases h
theorem Snd.sub (S : Snd Φ C k n) (F : Fx Γ Φ C k X) {a i : Expr} {pos : Pos} {p : SE} (h : cE (n + 1) Γ (.Subscript a i pos) = some p) : PE X (.Subscript a i pos) (tE X.K C (wE Φ p)) := by
  by_cases hs : isSlice i = true
  · cases i with
    | Slice lo hi st sp =>
      cases st with
      | none =>
        obtain ⟨a', ha, h⟩ := bind_some h
        obtain ⟨l', hl, h⟩ := bind_some h
        obtain ⟨u', hu, h⟩ := bind_some h
        cases h
        exact e_slc (S.e F ha).1 (S.o F hl) (S.o F hu) (wE_mono F.mono a') (wO_mono F.mono l') (wO_mono F.mono u')
      | some st =>
        replace h : (match (generalizing := false) (some st : Option Expr) with
          | none => do
            let a ← cE n Γ a
            let lo ← cO n Γ lo
            let hi ← cO n Γ hi
            some (SE.slc (Γ.mut pos) a lo hi)
          | some (.UnaryOp .USub (.Constant (.int 1) _ _) _) => (match (generalizing := false) lo, hi with
            | none, none => (cE n Γ a).map (SE.rev (Γ.mut pos))
            | _, _ => none)
          | _ => none) = some p := h
        split at h
        · rename_i e; cases e
        · rename_i e
          cases e
          split at h
          · obtain ⟨a', ha, h⟩ := map_some h
            subst h
            exact e_rev (S.e F ha).1 (wE_mono F.mono a')
          · cases h
        · cases h
    | _ => cases hs
  · have hs : isSlice i = false := by simpa using hs
    have h : (do
        let a ← cE n Γ a
        let i ← cE n Γ i
        some (SE.idx a i)) = some p := by
      cases i <;> first | exact h | cases hs
    obtain ⟨a', ha, h⟩ := bind_some h
    obtain ⟨i', hi, h⟩ := bind_some h
    cases h
    exact e_idx F.h1 (S.e F ha).1 (S.e F hi).1 (wE_mono F.mono a') (wE_mono F.mono i') (plainIx_ok hs)
theorem all_mem {l : List Nat} {q : List Nat} (h : (l.all fun j => decide (j ∈ q)) = true) : ∀ j ∈ l, j ∈ q := fun j hj => of_decide_eq_true (List.all_eq_true.mp h j hj)
theorem Snd.comp (S : Snd Φ C k n) (F : Fx Γ Φ C k X) {elt : Expr} {gs : List Comprehension} {scope : Scope} {pos : Pos} {p : SE} (h : cE (n + 1) Γ (.ListComp elt gs scope pos) = some p) :
    PE X (.ListComp elt gs scope pos) (tE X.K C (wE Φ p)) ∧
    ∀ {i : Nat} {y : Str} {py spos : Pos}, X.N[i]? = some y → X.env.scope.names.lookup y = some .local → swapsWith (.ListComp elt gs scope pos) (some (.Name y py)) spos.line X.env = pure true →
      ∃ t, PS X (.Assign [.Name y py] (.ListComp elt gs scope pos) spos) (tAsg t (gName i)) ∧ ∀ σ H Q, tE X.K C (wE Φ p) σ H Q → t σ H Q := by
  have h : (match (generalizing := false) gs with
      | [⟨tg, it, ifs, 0⟩] =>
        if blkC Γ.N Γ.sc scope (Γ.own scope) then do
          let it' ← cI n Γ tg it
          let tg' ← cT n (Γ.blk scope) tg
          let c' ← cC n (Γ.blk scope) ifs
          let elt' ← cE n (Γ.blk scope) elt
          if (slots tg').all (fun j => decide (j ∈ (Γ.own scope).map (·.2))) && !isSet it then some (SE.lc (Γ.mut pos) elt' tg' it' c' ((Γ.own scope).map (·.2))) else none
        else none
      | [⟨tg, it, ifs, 0⟩, ⟨tg1, it1, ifs1, 0⟩] =>
        if blkC Γ.N Γ.sc scope (Γ.own scope) then do
          let it' ← cI n Γ tg it
          let tg' ← cT n (Γ.blk scope) tg
          let c' ← cC n (Γ.blk scope) ifs
          let it1' ← cI n (Γ.blk scope) tg1 it1
          let tg1' ← cT n (Γ.blk scope) tg1
          let c1' ← cC n (Γ.blk scope) ifs1
          let elt' ← cE n (Γ.blk scope) elt
          if (slots tg').all (fun j => decide (j ∈ (Γ.own scope).map (·.2))) && (slots tg1').all (fun j => decide (j ∈ (Γ.own scope).map (·.2))) && !isSet it && !isSet it1 then
            some (SE.lc2 (Γ.mut pos) elt' tg' it' c' tg1' it1' c1' ((Γ.own scope).map (·.2)) (slots tg1')) else none
        else none
      | _ => none) = some p := h
  split at h
  · obtain ⟨hb, h⟩ := if_some h
    obtain ⟨i', hi, h⟩ := bind_some h
    obtain ⟨t', ht, h⟩ := bind_some h
    obtain ⟨c', hc, h⟩ := bind_some h
    obtain ⟨e', he, h⟩ := bind_some h
    obtain ⟨h0, h⟩ := if_some h
    simp only [Bool.and_eq_true, Bool.not_eq_true'] at h0
    cases h
    exact S.lc F hb hi ht hc he (all_mem h0.1) h0.2
  · obtain ⟨hb, h⟩ := if_some h
    obtain ⟨i', hi, h⟩ := bind_some h
    obtain ⟨t', ht, h⟩ := bind_some h
    obtain ⟨c', hc, h⟩ := bind_some h
    obtain ⟨i1', hi1, h⟩ := bind_some h
    obtain ⟨t1', ht1, h⟩ := bind_some h
    obtain ⟨c1', hc1, h⟩ := bind_some h
    obtain ⟨e', he, h⟩ := bind_some h
    obtain ⟨h0, h⟩ := if_some h
    simp only [Bool.and_eq_true, Bool.not_eq_true'] at h0
    cases h
    exact S.lc2 F hb hi ht hc hi1 ht1 hc1 he (all_mem h0.1.1.1) (all_mem h0.1.1.2) h0.1.2 h0.2
  · cases h
theorem Snd.expr (S : Snd Φ C k n) (F : Fx Γ Φ C k X) {e : Expr} {p : SE} (h : cE (n + 1) Γ e = some p) : PE X e (tE X.K C (wE Φ p)) ∧ isStar e = false := by
  cases e with
  | Name x pos => exact ⟨Snd.name F h, rfl⟩
  | Constant c kk pos =>
    refine ⟨?_, rfl⟩
    cases c with
    | int i => cases h; exact e_con pe_int fun _ _ => rep_int
    | bool b => cases h; exact e_con pe_bl fun _ _ => rep_bl
    | str x => cases h; exact e_con pe_str fun _ _ => rep_str
    | none => cases h; exact e_con pe_non fun _ _ => rep_non
    | _ => cases h
  | BinOp a o b pos =>
    refine ⟨?_, rfl⟩
    obtain ⟨o', ho, h⟩ := bind_some h
    obtain ⟨a', ha, h⟩ := bind_some h
    obtain ⟨b', hb, h⟩ := bind_some h
    cases h
    rw [bop_ok ho]
    exact e_bin (fun _ _ _ _ _ h => binD_mono h) (bin_ok (Γ.mut pos) o') (S.e F ha).1 (S.e F hb).1 (wE_mono F.mono a') (wE_mono F.mono b')
  | UnaryOp o a pos =>
    refine ⟨?_, rfl⟩
    cases o with
    | USub =>
      obtain ⟨a', ha, h⟩ := map_some (show (cE n Γ a).map SE.neg = some p from h)
      subst h
      exact e_neg (S.e F ha).1 (wE_mono F.mono a')
    | Not =>
      obtain ⟨a', ha, h⟩ := map_some (show (cE n Γ a).map SE.lnot = some p from h)
      subst h
      exact e_not (S.e F ha).1 (wE_mono F.mono a')
    | _ => cases h
  | BoolOp o es pos =>
    refine ⟨?_, rfl⟩
    cases o with
    | And => exact S.and F h
    | Or => exact S.or F h
  | IfExp t a b pos =>
    refine ⟨?_, rfl⟩
    obtain ⟨t', ht, h⟩ := bind_some h
    obtain ⟨a', ha, h⟩ := bind_some h
    obtain ⟨b', hb, h⟩ := bind_some h
    cases h
    exact e_if (S.b F ht) (S.e F ha).1 (S.e F hb).1 (wT_mono F.mono t') (wE_mono F.mono a') (wE_mono F.mono b')
  | Compare l ops rs pos =>
    refine ⟨?_, rfl⟩
    match ops, rs, h with
    | [o], [r], h =>
      obtain ⟨h0, h⟩ := ifn_some h
      obtain ⟨o', ho, h⟩ := bind_some h
      obtain ⟨l', hl, h⟩ := bind_some h
      obtain ⟨r', hr, h⟩ := bind_some h
      cases h
      rw [cop_ok ho]
      exact (S.cmp F hl hr h0 pos).1
    | [o, o2], [r, r2], h =>
      obtain ⟨h0, h⟩ := ifn_some h
      obtain ⟨o', ho, h⟩ := bind_some h
      obtain ⟨o2', ho2, h⟩ := bind_some h
      obtain ⟨l', hl, h⟩ := bind_some h
      obtain ⟨r', hr, h⟩ := bind_some h
      obtain ⟨r2', hr2, h⟩ := bind_some h
      cases h
      rw [cop_ok ho, cop_ok ho2]
      exact (S.chain F hl hr hr2 h0 pos).1
    | [], _, h => cases h
    | [_], [], h => cases h
    | [_], _ :: _ :: _, h => cases h
    | [_, _], [], h => cases h
    | [_, _], [_], h => cases h
    | [_, _], _ :: _ :: _ :: _, h => cases h
    | _ :: _ :: _ :: _, _, h => cases h
  | Tuple es kk pos =>
    refine ⟨?_, rfl⟩
    obtain ⟨es', he, h⟩ := map_some (show (cEs n Γ es).map SE.tup = some p from h)
    subst h
    exact e_tup (S.es F he).1 (wEs_mono F.mono es')
  | List es pos =>
    refine ⟨?_, rfl⟩
    obtain ⟨es', he, h⟩ := map_some (show (cEs n Γ es).map (SE.lst (Γ.mut pos)) = some p from h)
    subst h
    exact e_lst (S.es F he).1 (wEs_mono F.mono es')
  | Dict ks vs pos =>
    refine ⟨?_, rfl⟩
    cases ks with
    | nil =>
      cases vs with
      | nil => cases h; exact e_dnewT
      | cons _ _ => cases h
    | cons kk ks =>
      obtain ⟨h0, h⟩ := if_some h
      simp only [Bool.and_eq_true, decide_eq_true_eq] at h0
      obtain ⟨p', hp, h⟩ := map_some h
      subst h
      obtain ⟨h1, h2⟩ := S.ds (pos := pos) F hp
      have hl : p'.length ≤ 30 := by omega
      exact e_ddsp h1 h0.1.1 h0.1.2 (by simp) h0.2 (fun env st Q q => wEs_mono F.mono p' env st _ _ (fun ds s z => ⟨by rw [z.1]; exact hl, z.2⟩) (wEs_len F.mono p' env st _ q))
  | Subscript a i pos => exact ⟨S.sub F h, rfl⟩
  | ListComp elt gs scope pos => exact ⟨(S.comp F h).1, rfl⟩
  | Call f es kws pos => exact ⟨S.call F h, rfl⟩
  | _ => cases h
theorem Snd.test (S : Snd Φ C k n) (F : Fx Γ Φ C k X) {e : Expr} {p : SB} (h : cB (n + 1) Γ e = some p) : PT X e (MI.tB X.K C (wT Φ p)) := by
  have val : isTest e = false → cB (n + 1) Γ e = (if isTest e = true then none else (cE n Γ e).map SB.val) → PT X e (MI.tB X.K C (wT Φ p)) := fun h0 he => by
    rw [he, if_neg (by rw [h0]; exact Bool.false_ne_true)] at h
    obtain ⟨e', h1, h⟩ := map_some h
    subst h
    exact b_val (S.e F h1).1 (wE_mono F.mono e') (plainT_ok h0)
  cases e with
  | UnaryOp o a pos =>
    cases o with
    | Not =>
      obtain ⟨a', ha, h⟩ := map_some (show (cB n Γ a).map SB.lnot = some p from h)
      subst h
      exact b_not (S.b F ha) (wT_mono F.mono a')
    | _ => exact val rfl rfl
  | BoolOp o es pos =>
    cases o with
    | And => exact (S.band F h).pt
    | Or => exact (S.bor F h).pt
  | Compare l ops rs pos =>
    match ops, rs, h with
    | [o], [r], h =>
      obtain ⟨h0, h⟩ := ifn_some h
      obtain ⟨o', ho, h⟩ := bind_some h
      obtain ⟨l', hl, h⟩ := bind_some h
      obtain ⟨r', hr, h⟩ := bind_some h
      cases h
      rw [cop_ok ho]
      exact (S.cmp F hl hr h0 pos).2
    | [o, o2], [r, r2], h =>
      obtain ⟨h0, h⟩ := ifn_some h
      obtain ⟨o', ho, h⟩ := bind_some h
      obtain ⟨o2', ho2, h⟩ := bind_some h
      obtain ⟨l', hl, h⟩ := bind_some h
      obtain ⟨r', hr, h⟩ := bind_some h
      obtain ⟨r2', hr2, h⟩ := bind_some h
      cases h
      rw [cop_ok ho, cop_ok ho2]
      exact (S.chain F hl hr hr2 h0 pos).2
    | [], _, h => cases h
    | [_], [], h => cases h
    | [_], _ :: _ :: _, h => cases h
    | [_, _], [], h => cases h
    | [_, _], [_], h => cases h
    | [_, _], _ :: _ :: _ :: _, h => cases h
    | _ :: _ :: _ :: _, _, h => cases h
  | IfExp _ _ _ _ => cases h
  | _ => exact val rfl rfl
theorem Snd.step (S : Snd Φ C k n) : Snd Φ C k (n + 1) :=
  ⟨fun F h => S.expr F h, fun F h => S.lists F h, fun F h => S.dicts F h, fun F h => S.ands F h, fun F h => S.ors F h, fun F h => S.test F h, fun F h => S.bands F h, fun F h => S.bors F h, fun F h => S.opts F h, fun F h => S.tests F h, fun F h => S.target F h, fun F h => S.targets F h, fun F h => S.iter F h⟩
theorem snd_all : ∀ n, Snd Φ C k n
  | 0 => snd_zero
  | n + 1 => (snd_all n).step
end
end MI

set_option maxRecDepth 100000
/-! MI, part 13: statements: their readings, the rules. -/
namespace MI
open PySem PySem.Spec PyProof.Rows L2
section
variable (K : PySem.W.Frag) (C : Nat → Addr)
def PostS (H : Hp) (ι : Io) (R : L2.St → Hp → Prop) : Ev → Sto → Prop := fun env st => ∀ σ H' ι', Ext H ι H' ι' → Sim K C H' ι' st → EnvR K C H' ι' σ env → R σ H'
def toX (H : Hp) (ι : Io) (D : Ends) : EndsD := ⟨PostS K C H ι D.nx, Post K C H ι D.rt, PostS K C H ι D.bk, PostS K C H ι D.ct⟩
def tS (m : EndsD → Ev → Sto → Prop) : TS := fun D σ H => ∃ ι env st, Sim K C H ι st ∧ EnvR K C H ι σ env ∧ m (toX K C H ι D) env st
end
def MonoS (m : EndsD → Ev → Sto → Prop) : Prop := ∀ X Y env st, EndsD.Le X Y → m X env st → m Y env st
section
variable {K : PySem.W.Frag} {C : Nat → Addr} {H H' : Hp} {ι ι' : Io} {D : Ends}
theorem PostS.ext {R : L2.St → Hp → Prop} {env : Ev} {st : Sto} (h : PostS K C H ι R env st) (e : Ext H ι H' ι') : PostS K C H' ι' R env st := fun σ H2 ι2 e2 => h σ H2 ι2 (e.trans e2)
theorem toX_le (e : Ext H ι H' ι') : EndsD.Le (toX K C H ι D) (toX K C H' ι' D) := ⟨fun _ _ h => h.ext e, fun _ _ h => h.ext e, fun _ _ h => h.ext e, fun _ _ h => h.ext e⟩
end
section
variable {X : Cx} {C : Nat → Addr} {m m2 : EndsD → Ev → Sto → Prop} {st : Stmt} {rest a b : List Stmt} {e tg it c : Expr} {pos : Pos} {me : Ev → Sto → Kd → Prop} {vs : List Nat} {mg : D → Ev → Sto → (Ev → Sto → Prop) → Prop} {mc : Ev → Sto → (Bool → Sto → Prop) → Prop} {mi : Ev → Sto → (Its → Sto → Prop) → Prop}
theorem s_nil : PSs X [] (tS X.K C fun E env st => E.nx env st) := pss_nil.imp fun D σ H ⟨ι, env, st, S, E, q⟩ => q σ H ι (.refl _ _) S E
theorem s_cons (h1 : PS X st (tS X.K C m)) (h2 : PSs X rest (tS X.K C m2)) (o1 : MonoS m) (o2 : MonoS m2) : PSs X (st :: rest) (tS X.K C fun E env st => m { E with nx := m2 E } env st) :=
  (pss_cons h1 h2).imp fun D σ H ⟨ι, env, st, S, E, q⟩ => ⟨ι, env, st, S, E, o1 { toX X.K C H ι D with nx := m2 (toX X.K C H ι D) } _ _ _ ⟨fun env' st' q σ' H' ι' e' S' E' => ⟨ι', env', st', S', E', o2 _ _ _ _ (toX_le e') q⟩, fun _ _ h => h, fun _ _ h => h, fun _ _ h => h⟩ q⟩
theorem s_pass : PS X (.Pass pos) (tS X.K C fun E env st => E.nx env st) := ps_pass.imp fun D σ H ⟨ι, env, st, S, E, q⟩ => q σ H ι (.refl _ _) S E
theorem s_doc {x j pos pos'} : PS X (.Expr (.Constant (.str x) j pos) pos') (tS X.K C fun E env st => E.nx env st) := ps_doc.imp fun D σ H ⟨ι, env, st, S, E, q⟩ => q σ H ι (.refl _ _) S E
theorem s_break : PS X (.Break pos) (tS X.K C fun E env st => E.bk env st) := ps_break.imp fun D σ H ⟨ι, env, st, S, E, q⟩ => q σ H ι (.refl _ _) S E
theorem s_cont : PS X (.Continue pos) (tS X.K C fun E env st => E.ct env st) := ps_continue.imp fun D σ H ⟨ι, env, st, S, E, q⟩ => q σ H ι (.refl _ _) S E
theorem s_never : PS X st (tS X.K C fun _ _ _ => False) := ps_never.imp fun D σ H ⟨ι, env, st, S, E, q⟩ => q
theorem s_expr (he : PE X e (tE X.K C me)) (oe : MonoE me) (hs : swapsWith e none pos.line X.env = pure false) : PS X (.Expr e pos) (tS X.K C fun E env st => me env st fun _ s1 => E.nx env s1) :=
  (ps_expr he hs).imp fun D σ H ⟨ι, env, st, S, E, q⟩ => tE.step oe S E q fun d s1 x H1 ι1 q e1 S1 E1 r1 => q σ H1 ι1 e1 S1 E1
theorem s_ret (he : PE X e (tE X.K C me)) : PS X (.Return (some e) pos) (tS X.K C fun E env st => me env st E.rt) :=
  (ps_ret he).imp fun D σ H ⟨ι, env, st, S, E, q⟩ => ⟨ι, env, st, S, E, q⟩
theorem s_retN : PS X (.Return none pos) (tS X.K C fun E env st => E.rt .non st) :=
  ps_retN.imp fun D σ H ⟨ι, env, st, S, E, q⟩ => q _ H ι (.refl _ _) S rep_non
theorem s_if (hc : PT X c (MI.tB X.K C mc)) (ha : PSs X a (tS X.K C m)) (hb : PSs X b (tS X.K C m2)) (oc : MonoB mc) (o1 : MonoS m) (o2 : MonoS m2) : PS X (.If c a b pos) (tS X.K C fun E env st => mc env st fun k s1 => if k = true then m E env s1 else m2 E env s1) :=
  (ps_if hc ha hb).imp fun D σ H ⟨ι, env, st, S, E, q⟩ => tB.step oc S E q fun k s1 H1 ι1 q e1 S1 E1 => by
    cases k with
    | true =>
      simp only [if_true] at q ⊢
      exact ⟨ι1, env, s1, S1, E1, o1 _ _ _ _ (toX_le e1) q⟩
    | false =>
      simp only [Bool.false_eq_true, if_false] at q ⊢
      exact ⟨ι1, env, s1, S1, E1, o2 _ _ _ _ (toX_le e1) q⟩
theorem s_set_to {te : TE} {tg : TG} {D : Ends} {σ : L2.St} {H : Hp} (oe : MonoE me) (og : MonoG mg) (ht : ∀ σ H Q, tE X.K C me σ H Q → te σ H Q) (hg : ∀ v σ H Q, tG X.K C vs mg v σ H Q → tg v σ H Q)
    (h : tS X.K C (fun E env st => me env st fun x s1 => mg x env s1 E.nx) D σ H) : tAsg te tg D σ H := by
  obtain ⟨ι, env, st, S, E, q⟩ := h
  exact ht _ _ _ (tE.step oe S E q fun d s1 x H1 ι1 q e1 S1 E1 r1 => hg _ _ _ _ ⟨ι1, env, s1, d, S1, E1, r1, og _ _ _ _ _ (fun env' st' q σ' H' ι' e' S' E' _ => q σ' H' ι' (e1.trans e') S' E') q⟩)
theorem s_set (he : PE X e (tE X.K C me)) (hg : PG X tg (tG X.K C vs mg)) (oe : MonoE me) (og : MonoG mg) (hs : swapsWithSole [tg] e pos.line X.env = pure false) (hw : swappedStores [tg] e X.env = pure none)
    (h1 : (assignEach [tg] X.env).map (·.2) = [assign tg X.env]) : PS X (.Assign [tg] e pos) (tS X.K C fun E env st => me env st fun x s1 => mg x env s1 E.nx) :=
  (ps_asg he hg hs hw h1).imp fun D σ H q => s_set_to oe og (fun _ _ _ h => h) (fun _ _ _ _ h => h) q
theorem s_par {i j : Nat} {x y : Str} {a b : Expr} {ma mb : Ev → Sto → Kd → Prop} {px py pt : Pos} {kt k2 : Nat} {pt2 : Pos} (hc : X.calm = true) (hN : X.N.Nodup) (hi : X.N[i]? = some x) (hj : X.N[j]? = some y) (hij : i ≠ j)
    (hx : X.env.scope.names.lookup x = some .local) (hy : X.env.scope.names.lookup y = some .local) (ha : PE X a (tE X.K C ma)) (hb : PE X b (tE X.K C mb)) (oa : MonoE ma) (ob : MonoE mb) (h1 : isStar a = false) (h2 : isStar b = false)
    (hw : swappedStores [.Tuple [.Name x px, .Name y py] kt pt] (.Tuple [a, b] k2 pt2) X.env = pure (some [x, y])) :
    PS X (.Assign [.Tuple [.Name x px, .Name y py] kt pt] (.Tuple [a, b] k2 pt2) pos) (tS X.K C fun E env st => ma env st fun d s1 => mb env s1 fun f s2 => E.nx ((env.set i (some d)).set j (some f)) s2) :=
  (ps_par hc hN hi hj hij hx hy (pa_cons ha (pa_cons hb pa_nil (star_ok h2)) (star_ok h1)) hw).imp fun D σ H ⟨ι, env, st, S, E, q⟩ => tE.step oa S E q fun d s1 v H1 ι1 q e1 S1 E1 r1 => tE.step ob S1 E1 q fun f s2 u H2 ι2 q e2 S2 E2 r2 =>
    ⟨v, u, rfl, q _ H2 ι2 (e1.trans e2) S2 ((E2.set (r1.mono e2) i).set r2 j)⟩
theorem s_aug {i : Nat} {x : Str} {o : BOp} {pos' : Pos} (hN : X.N.Nodup) (hi : X.N[i]? = some x) (hx : Loc X.env.scope x) (hf : X.fn x = true ∨ X.env.scope.names.lookup x = some .local) (he : PE X e (tE X.K C me)) (oe : MonoE me) :
    PS X (.AugAssign (.Name x pos') o.py e pos) (tS X.K C fun E env st => (match env[i]? with
    | some (some x) => me env st fun y s1 => augD o x y s1 fun z s2 => E.nx (env.set i (some z)) s2
    | _ => False)) :=
  (ps_aug hN hi hx he (aug_ok o) hf).imp fun D σ H ⟨ι, env, st, S, E, q⟩ => by
    dsimp only at q
    split at q
    · rename_i d hd
      obtain ⟨v, h1, h2⟩ := E.get i d hd
      exact ⟨v, h1, tE.step oe S E q fun y s1 u H1 ι1 q e1 S1 E1 r1 => ⟨ι1, s1, d, y, S1, h2.mono e1, r1, augD_mono (fun z s2 q w H2 ι2 e2 S2 r2 => q _ H2 ι2 (e1.trans e2) S2 ((E1.mono e2).set r2 i)) q⟩⟩
    · exact q.elim
theorem getL_ok : PGet X (rD2 X.K C idxL) := by
  intro pins s σ H o i ov iv Q I ro ri h
  obtain ⟨ι, st, d, e, S, rd, re, h⟩ := h
  unfold idxL at h
  split at h
  · rename_i n k
    split at h
    · rename_i xs hn
      simp only [Rep] at re; subst re
      obtain ⟨t, rfl⟩ := ri
      obtain ⟨d', e2, h⟩ := opt_some h
      obtain ⟨a, vs, rfl, ha, h1, h2⟩ := loc_lst S rd hn
      obtain ⟨w, e3, rw'⟩ := atI_rep h2 e2
      cases ro
      obtain ⟨its, r, pl, hz⟩ := I.list (SqL.of h1)
      obtain ⟨j, j1, j2, j3, j4, j5⟩ := atI_get e3
      obtain ⟨u, eu, ru⟩ := r.get j2
      have hl := r.length
      have hn63 := line63
      have fin : EP X pins σ Q u s := ⟨w, H, I, ru, h.here S rw'⟩
      by_cases h0 : 0 ≤ k
      · have hj : k.toNat = j := by
          rw [seqIndex_of h0 j5] at j1
          exact Option.some.inj j1
        exact wpAny_getItem_list pl.isList h0 (by omega) (by rw [hj]; simpa using eu) fin
      · have hj : (k + (its.toArray.size : Int)).toNat = j := by
          rw [seqIndex_neg (by omega) j4] at j1
          rw [List.size_toArray, ← hl]
          exact Option.some.inj j1
        exact wpAny_getItem_list_neg pl.isList (by omega) (by rw [List.size_toArray]; omega) (by omega) (by rw [hj]; simpa using eu) fin
    · exact h.elim
  · exact h.elim
theorem s_augS (hu : X.A.units + 1 < cLine) {oe ie : Expr} {mo mi' : Ev → Sto → Kd → Prop} {o : BOp} {tpos : Pos} (ho : PE X oe (tE X.K C mo)) (hi : PE X ie (tE X.K C mi')) (he : PE X e (tE X.K C me)) (oo : MonoE mo) (oi : MonoE mi') (oe' : MonoE me)
    (ha : ∀ ov iv new, augStore ie ov iv new = (do holding [new, ov, iv] (setItem ov iv new); release [new, ov, iv] []; pure .next)) :
    PS X (.AugAssign (.Subscript oe ie tpos) o.py e pos) (tS X.K C fun E env st => mo env st fun x s1 => mi' env s1 fun y s2 => idxL x y s2 fun z s3 => me env s3 fun v s4 => augD o z v s4 fun r s5 => setD x y r s5 fun s6 => E.nx env s6) :=
  (ps_augS ho hi getL_ok he (aug_ok o) (set_ok hu) ha).imp fun D σ H ⟨ι, env, st, S, E, q⟩ => tE.step oo S E q fun x s1 vx H1 ι1 q e1 S1 E1 r1 => tE.step oi S1 E1 q fun y s2 vy H2 ι2 q e2 S2 E2 r2 =>
    ⟨ι2, s2, x, y, S2, r1.mono e2, r2, idxL_mono (fun z s3 q vz H3 ι3 e3 S3 r3 => tE.step oe' S3 (E2.mono e3) q fun v s4 vv H4 ι4 q e4 S4 E4 r4 =>
      ⟨ι4, s4, z, v, S4, r3.mono e4, r4, augD_mono (fun r s5 q vr H5 ι5 e5 S5 r5 => ⟨ι5, s5, x, y, r, S5, ((((r1.mono e2).mono e3).mono e4).mono e5), (((r2.mono e3).mono e4).mono e5), r5,
        setD_mono (fun s6 q H6 ι6 e6 S6 => q σ H6 ι6 (((((e1.trans e2).trans e3).trans e4).trans e5).trans e6) S6 ((E4.mono e5).mono e6)) q⟩) q⟩) q⟩
theorem s_for {body : List Stmt} (hp : PassesOwn (model X.prog X.w) X.A X.env X.xe) (hc : X.calm = true) (hi : PI X tg it (tIt X.K C mi)) (hg : PG X tg (tG X.K C vs mg)) (hb : PSs X body (tS X.K C m)) (oi : MonoI mi) (og : MonoG mg) (om : MonoS m)
    (hs : ∀ x, foldedSetIterable it X.env x = pure x) : PS X (.For tg it body [] pos) (tS X.K C fun E env st => mi env st fun J s1 => forW (fun x e s K => mg x e s K) m J.keep E J.items env s1) :=
  (ps_for hp hc hi hg hb hs).imp fun D σ H ⟨ι, env, st, S, E, q⟩ => by
    refine ⟨ι, env, st, S, E, oi _ _ _ _ (fun J s1 q T H1 ι1 e1 S1 its => ?_) q⟩
    refine ⟨fun i mm σ' H' => mm = J.items.length - i ∧ i ≤ J.items.length ∧ ∃ ι' env' st', Ext H1 ι1 H' ι' ∧ Sim X.K C H' ι' st' ∧ EnvR X.K C H' ι' σ' env' ∧ forW (fun x e s K => mg x e s K) m J.keep (toX X.K C H ι D) (J.items.drop i) env' st',
      ⟨J.items.length, by omega, Nat.zero_le _, ι1, env, s1, .refl _ _, S1, E.mono e1, q⟩, ?_⟩
    rintro i mm σ' H' ⟨rfl, hil, ι', env', st', e', S', E', q⟩
    by_cases hlt : i < J.items.length
    · rw [drop_cons hlt] at q
      obtain ⟨hk, q⟩ := q
      obtain ⟨go, yl⟩ := (its i H' ι' st' e'.toKp S' hk).1 hlt
      refine .inr ⟨go, fun σ' H' => ∃ ι' env' st', Ext H1 ι1 H' ι' ∧ Sim X.K C H' ι' st' ∧ EnvR X.K C H' ι' σ' env' ∧ forW (fun x e s K => mg x e s K) m J.keep (toX X.K C H ι D) (J.items.drop (i + 1)) env' st',
        fun σ' H' w => ⟨J.items.length - (i + 1), by omega, rfl, hlt, w⟩, fun x H2 y => ?_⟩
      obtain ⟨d, ed, e2, S2, r2⟩ := yl x H2 y
      rw [List.getElem?_eq_getElem hlt] at ed
      cases ed
      refine ⟨ι', env', st', _, S2, E'.mono e2, r2, og _ _ _ _ _ (fun env3 st3 q σ3 H3 ι3 e3 S3 E3 O3 => ?_) q⟩
      have e13 := (e'.trans e2).trans e3
      refine ⟨ι3, env3, st3, S3, E3, om _ _ _ _ ⟨fun env4 st4 q σ4 H4 ι4 e4 S4 E4 => ⟨ι4, env4, st4, e13.trans e4, S4, E4, q⟩, fun d4 s4 q => Post.ext q (e1.trans e13), fun env4 st4 q => PostS.ext q (e1.trans e13),
        fun env4 st4 q σ4 H4 ι4 e4 S4 E4 => ⟨ι4, env4, st4, e13.trans e4, S4, E4, q⟩⟩ q⟩
    · have e : i = J.items.length := by omega
      subst e
      rw [List.drop_length] at q
      exact .inl ⟨(its _ H' ι' st' e'.toKp S' q.1).2 (Nat.le_refl _), q.2 σ' H' ι' (e1.trans e') S' E'⟩
theorem s_while {body : List Stmt} (hp : PassesOwn (model X.prog X.w) X.A X.env X.xe) (hc : PT X c (MI.tB X.K C mc)) (hb : PSs X body (tS X.K C m)) (oc : MonoB mc) (om : MonoS m) :
    PS X (.While c body [] pos) (tS X.K C fun E env st => ∃ n, whileW (fun e s K => mc e s K) m E n env st) :=
  (ps_while hp hc hb).imp fun D σ H ⟨ι, env, st, S, E, n, q⟩ => by
    refine ⟨fun n σ' H' => ∃ ι' env' st', Ext H ι H' ι' ∧ Sim X.K C H' ι' st' ∧ EnvR X.K C H' ι' σ' env' ∧ whileW (fun e s K => mc e s K) m (toX X.K C H ι D) n env' st', ⟨n, ι, env, st, .refl _ _, S, E, q⟩, ?_⟩
    rintro n σ' H' ⟨ι', env', st', e', S', E', q⟩
    cases n with
    | zero => exact q.elim
    | succ n =>
      refine tB.step oc S' E' q fun k s1 H1 ι1 q e1 S1 E1 => ?_
      cases k with
      | true =>
        simp only [if_true] at q ⊢
        refine ⟨fun σ' H' => ∃ ι' env' st', Ext H ι H' ι' ∧ Sim X.K C H' ι' st' ∧ EnvR X.K C H' ι' σ' env' ∧ whileW (fun e s K => mc e s K) m (toX X.K C H ι D) n env' st', fun σ' H' w => ⟨n, Nat.lt_succ_self _, w⟩, ?_⟩
        have e01 := e'.trans e1
        exact ⟨ι1, env', s1, S1, E1, om _ _ _ _ ⟨fun env4 st4 q σ4 H4 ι4 e4 S4 E4 => ⟨ι4, env4, st4, e01.trans e4, S4, E4, q⟩, fun d4 s4 q => Post.ext q e01, fun env4 st4 q => PostS.ext q e01,
          fun env4 st4 q σ4 H4 ι4 e4 S4 E4 => ⟨ι4, env4, st4, e01.trans e4, S4, E4, q⟩⟩ q⟩
      | false =>
        simp only [Bool.false_eq_true, if_false] at q ⊢
        exact q σ' H1 ι1 (e'.trans e1) S1 E1
end
end MI

set_option maxRecDepth 100000
/-! MI, part 14: statements from the program's text; a def's promise from its body. -/
namespace MI
open PySem PySem.Spec PyProof.Rows L2

def isTupE : Expr → Bool
  | .Tuple _ _ _ => true
  | .List _ _ => true
  | _ => false
def Gam.isLoc (Γ : Gam) (x : Str) : Bool := match Γ.sc.names.lookup x with
  | some .local => true
  | _ => false
def Gam.st (Γ : Gam) (x : Str) : Option Nat := match Γ.sc.names.lookup x with
  | some .local => Γ.slot x
  | some .cell => if Γ.fn x then Γ.slot x else none
  | _ => none
def Gam.isFun (Γ : Gam) : Bool := match Γ.sc.kind with
  | .function => true
  | _ => false
def parOk (Γ : Gam) (x y : Str) (px py : Pos) (a b : Expr) : Bool :=
  Γ.isFun && Γ.isLoc x && Γ.isLoc y && (py.line == px.line) && !decide (x = y) && !([a, b].all (foldedForSure 8)) && !([a, b].all (constantsAlone 8))
mutual
def cS : Nat → Gam → Stmt → Option SS
  | 0, _, _ => none
  | n + 1, Γ, s => match s with
    | .Pass _ => some .pass
    | .Break _ => some .brk
    | .Continue _ => some .cont
    | .Raise _ _ _ => some .never
    | .Expr e _ => (match e with
      | .Constant (.str _) _ _ => some .pass
      | e => if isComp e then none else (cE n Γ e).map .expr)
    | .Return o _ => (match o with
      | none => some (.ret (.con .non))
      | some e => (cE n Γ e).map .ret)
    | .If c a b _ => do
      let c ← cB n Γ c
      let a ← cSs n Γ a
      let b ← cSs n Γ b
      some (.ite c a b)
    | .For tg it body orelse _ => (match orelse with
      | [] => if isSet it then none else do
        let it' ← cI n Γ tg it
        let tg' ← cT n Γ tg
        let body ← cSs n Γ body
        some (.for_ tg' it' body)
      | _ => none)
    | .While c body orelse _ => (match orelse with
      | [] => do
        let c ← cB n Γ c
        let body ← cSs n Γ body
        some (.while_ c body)
      | _ => none)
    | .AugAssign tg op e _ => (match tg with
      | .Name x _ => do
        let o ← bop op
        let i ← Γ.st x
        let e ← cE n Γ e
        some (.aug i o e)
      | .Subscript a i _ => if isSlice i then none else do
        let o ← bop op
        let a ← cE n Γ a
        let i ← cE n Γ i
        let e ← cE n Γ e
        some (.augS a i o e)
      | _ => none)
    | .Assign tgs e pos => (match tgs with
      | [tg] => (match tg, e with
        | .Tuple [.Name x px, .Name y py] _ _, .Tuple [a, b] _ _ => if parOk Γ x y px py a b then do
            let i ← Γ.slot x
            let j ← Γ.slot y
            let a ← cE n Γ a
            let b ← cE n Γ b
            if i = j then none else some (.par i j a b)
          else none
        | tg, e => if isTupE tg && isTupE e then none else do
            let t ← cT n Γ tg
            let e ← cE n Γ e
            some (.set t e))
      | _ => none)
    | _ => none
def cSs : Nat → Gam → List Stmt → Option (List SS)
  | 0, _, _ => none
  | n + 1, Γ, l => match l with
    | [] => some []
    | s :: r => do
      let s ← cS n Γ s
      let r ← cSs n Γ r
      some (s :: r)
end

theorem swapped_ok {x y : Str} {px py pt pt2 : Pos} {kt k2 : Nat} {a b : Expr} {env : Env} (hk : env.blockKind = .function) (hx : env.kindOf x = some .local) (hy : env.kindOf y = some .local) (hl : (py.line == px.line) = true) (hne : x ≠ y)
    (h1 : isStar a = false) (h2 : isStar b = false) (hf : [a, b].all (foldedForSure 8) = false) (hc : [a, b].all (constantsAlone 8) = false) :
    swappedStores [.Tuple [.Name x px, .Name y py] kt pt] (.Tuple [a, b] k2 pt2) env = pure (some [x, y]) := by
  have hl' : py.line = px.line := by simpa using hl
  have ed : [x, y].eraseDups.length = 2 := by
    have h : ¬ (y == x) = true := by simpa using fun e => hne e.symm
    simp [List.eraseDups_cons, h, hne.symm]
  unfold swappedStores
  simp only [List.length_cons, List.length_nil, hk, List.head?_cons, Option.map_some, Option.getD_some, Expr.pos, List.filterMap_cons, List.filterMap_nil, hx, hy, hl', beq_self_eq_true, Bool.and_self, if_true, ed, hf, hc, List.any_cons, List.any_nil]
  simp
  intro h
  exfalso
  rcases h with h | h
  · cases a <;> first | (cases h; done) | (cases h1; done)
  · cases b <;> first | (cases h; done) | (cases h2; done)

/-! ### the statements' theorem -/
structure Fs (Γ : Gam) (Φ : Fns) (C : Nat → Addr) (k : Nat) (X : Cx) : Prop where
  fx : Fx Γ Φ C k X
  pass : PassesOwn (model X.prog X.w) X.A X.env X.xe
structure SndS (Φ : Fns) (C : Nat → Addr) (k n : Nat) : Prop where
  s : ∀ {Γ X s p}, Fs Γ Φ C k X → cS n Γ s = some p → PS X s (tS X.K C (wS Φ p))
  ss : ∀ {Γ X l p}, Fs Γ Φ C k X → cSs n Γ l = some p → PSs X l (tS X.K C (wSs Φ p))
section
variable {Φ : Fns} {C : Nat → Addr} {k n : Nat} {Γ : Gam} {X : Cx}
theorem st_ok {x : Str} {i : Nat} (F : Fx Γ Φ C k X) (h : Γ.st x = some i) : X.N[i]? = some x ∧ Loc X.env.scope x ∧ (X.fn x = true ∨ X.env.scope.names.lookup x = some .local) := by
  unfold Gam.st at h
  split at h
  · rename_i e
    exact ⟨slot_ok F h, .inl (by rw [F.sc]; exact e), .inr (by rw [F.sc]; exact e)⟩
  · rename_i e
    obtain ⟨h0, h⟩ := if_some h
    exact ⟨slot_ok F h, .inr (by rw [F.sc]; exact e), .inl (by rw [F.fn]; exact h0)⟩
  · cases h
theorem swaps_no {e : Expr} {t : Option Expr} {l : Nat} {env : Env} (h : isComp e = false) : swapsWith e t l env = pure false := by
  cases e <;> first | rfl | cases h
theorem swapped_no {tg e : Expr} {env : Env} (h : (isTupE tg && isTupE e) = false) : swappedStores [tg] e env = pure none := by
  cases tg <;> first | rfl | (cases e <;> first | rfl | cases h)
theorem aug_plain {i : Expr} (h : isSlice i = false) : ∀ ov iv new, augStore i ov iv new = (do holding [new, ov, iv] (setItem ov iv new); release [new, ov, iv] []; pure .next) := by
  intro ov iv new
  cases i <;> first | rfl | cases h
theorem SndS.assign (F : Fs Γ Φ C k X) {tg e : Expr} {pos : Pos} {t : ST} {e' : SE} (h0 : (isTupE tg && isTupE e) = false) (ht : cT n Γ tg = some t) (he : cE n Γ e = some e') : PS X (.Assign [tg] e pos) (tS X.K C (wS Φ (.set t e'))) := by
  have S := snd_all (Φ := Φ) (C := C) (k := k) n
  obtain ⟨g1, g2⟩ := S.t F.fx ht
  have plain : swapsWithSole [tg] e pos.line X.env = pure false → PS X (.Assign [tg] e pos) (tS X.K C (wS Φ (.set t e'))) := fun hs =>
    s_set (S.e F.fx he).1 g1 (wE_mono F.fx.mono e') (wG_mono F.fx.mono t) hs (swapped_no h0) (by rw [assignEach_ok g2]; rfl)
  by_cases hc : isComp e = true
  · cases e with
    | ListComp elt gs scope ep =>
      cases n with
      | zero => cases he
      | succ n =>
      cases tg with
      | Name y py =>
        by_cases hb : (decide (X.env.blockKind = .function) && decide (X.env.kindOf y = some .local) && (py.line == ep.line) && !(scope.names.any fun (n, k) => n == y && (k == .local || k == .cell))) = true
        · simp only [Bool.and_eq_true, decide_eq_true_eq, Bool.not_eq_true'] at hb
          obtain ⟨⟨⟨b1, b2⟩, b3⟩, b4⟩ := hb
          have hl : X.env.scope.names.lookup y = some .local := b2
          have hsw : swapsWith (.ListComp elt gs scope ep) (some (.Name y py)) pos.line X.env = pure true := by
            unfold swapsWith
            simp only [b1, b2, b3, b4, Expr.pos]
            rfl
          have hcT : (match (generalizing := false) Γ.sc.names.lookup y with
            | some .local => (Γ.slot y).map ST.nm
            | some .cell => if Γ.fn y then (Γ.slot y).map ST.nm else none
            | _ => none) = some t := ht
          rw [← F.fx.sc, hl] at hcT
          obtain ⟨i, hi, rfl⟩ := map_some hcT
          obtain ⟨te, h1, h2⟩ := ((snd_all n).comp F.fx he).2 (slot_ok F.fx hi) hl hsw
          exact h1.imp fun D σ H q => s_set_to (vs := [i]) (wE_mono F.fx.mono e') (wG_mono F.fx.mono (.nm i)) h2 (fun v σ H Q ⟨ι, env, st, d, S, E, r, q⟩ => q _ H ι (.refl _ _) S (E.set r i) ⟨by simp, fun j hj => by
            rw [List.getElem?_set_ne]
            simpa using fun e => hj (by simp [e])⟩) q
        · refine plain ?_
          show swapsWith (.ListComp elt gs scope ep) (some (.Name y py)) pos.line X.env = pure false
          unfold swapsWith
          simp only [Expr.pos]
          show (pure (X.env.blockKind == .function && X.env.kindOf y == some .local && py.line == ep.line && !(scope.names.any fun (n, k) => n == y && (k == .local || k == .cell))) : Sem Bool) = pure false
          congr 1
          have hb := eq_false_of_ne_true hb
          rw [← hb, Bool.eq_iff_iff]
          simp
      | _ => exact plain rfl
    | SetComp _ _ _ _ => cases n <;> cases he
    | DictComp _ _ _ _ _ => cases n <;> cases he
    | _ => cases hc
  · exact plain (swaps_no (by simpa using hc))
theorem sndS_zero : SndS Φ C k 0 := ⟨fun {_ _ _ _} _ h => (by cases h), fun {_ _ _ _} _ h => (by cases h)⟩
theorem SndS.step (R : SndS Φ C k n) : SndS Φ C k (n + 1) := by
  have S := snd_all (Φ := Φ) (C := C) (k := k) n
  refine ⟨fun {Γ X s p} F h => ?_, fun {Γ X l p} F h => ?_⟩
  · cases s with
    | Pass _ => cases h; exact s_pass
    | Break _ => cases h; exact s_break
    | Continue _ => cases h; exact s_cont
    | Raise _ _ _ => cases h; exact s_never
    | Expr e pos =>
      have gen : (if isComp e then none else (cE n Γ e).map SS.expr) = some p → PS X (.Expr e pos) (tS X.K C (wS Φ p)) := fun h => by
        obtain ⟨h0, h⟩ := ifn_some h
        obtain ⟨e', he, h⟩ := map_some h
        subst h
        exact s_expr (S.e F.fx he).1 (wE_mono F.fx.mono e') (swaps_no h0)
      cases e with
      | Constant c kk cp =>
        cases c with
        | str x => cases h; exact s_doc
        | _ => exact gen h
      | _ => exact gen h
    | Return o _ =>
      cases o with
      | none => cases h; exact s_retN
      | some e =>
        obtain ⟨e', he, h⟩ := map_some (show (cE n Γ e).map SS.ret = some p from h)
        subst h
        exact s_ret (S.e F.fx he).1
    | If c a b _ =>
      obtain ⟨c', hc, h⟩ := bind_some h
      obtain ⟨a', ha, h⟩ := bind_some h
      obtain ⟨b', hb, h⟩ := bind_some h
      cases h
      exact s_if (S.b F.fx hc) (R.ss F ha) (R.ss F hb) (wT_mono F.fx.mono c') (fun _ _ _ _ => wSs_mono F.fx.mono a' _ _ _ _) (fun _ _ _ _ => wSs_mono F.fx.mono b' _ _ _ _)
    | For tg it body orelse _ =>
      cases orelse with
      | cons _ _ => cases h
      | nil =>
        obtain ⟨h0, h⟩ := ifn_some h
        obtain ⟨i', hi, h⟩ := bind_some h
        obtain ⟨t', ht, h⟩ := bind_some h
        obtain ⟨b', hb, h⟩ := bind_some h
        cases h
        exact s_for F.pass F.fx.calm (S.i F.fx hi) (S.t F.fx ht).1 (R.ss F hb) (wI_mono F.fx.mono i') (wG_mono F.fx.mono t') (fun _ _ _ _ => wSs_mono F.fx.mono b' _ _ _ _) (folded_ok h0)
    | While c body orelse _ =>
      cases orelse with
      | cons _ _ => cases h
      | nil =>
        obtain ⟨c', hc, h⟩ := bind_some h
        obtain ⟨b', hb, h⟩ := bind_some h
        cases h
        exact s_while F.pass (S.b F.fx hc) (R.ss F hb) (wT_mono F.fx.mono c') (fun _ _ _ _ => wSs_mono F.fx.mono b' _ _ _ _)
    | AugAssign tg op e _ =>
      cases tg with
      | Name x xp =>
        obtain ⟨o', ho, h⟩ := bind_some h
        obtain ⟨i', hi, h⟩ := bind_some h
        obtain ⟨e', he, h⟩ := bind_some h
        cases h
        obtain ⟨s1, s2, s3⟩ := st_ok F.fx hi
        rw [bop_ok ho]
        exact s_aug F.fx.nd s1 s2 s3 (S.e F.fx he).1 (wE_mono F.fx.mono e')
      | Subscript a i sp =>
        obtain ⟨h0, h⟩ := ifn_some h
        obtain ⟨o', ho, h⟩ := bind_some h
        obtain ⟨a', ha, h⟩ := bind_some h
        obtain ⟨i', hi, h⟩ := bind_some h
        obtain ⟨e', he, h⟩ := bind_some h
        cases h
        rw [bop_ok ho]
        exact s_augS F.fx.h1 (S.e F.fx ha).1 (S.e F.fx hi).1 (S.e F.fx he).1 (wE_mono F.fx.mono a') (wE_mono F.fx.mono i') (wE_mono F.fx.mono e') (aug_plain h0)
      | _ => cases h
    | Assign tgs e pos =>
      match tgs, h with
      | [], h => cases h
      | _ :: _ :: _, h => cases h
      | [tg], h =>
        replace h : (match (generalizing := false) tg, e with
        | .Tuple [.Name x px, .Name y py] _ _, .Tuple [a, b] _ _ => if parOk Γ x y px py a b then do
            let i ← Γ.slot x
            let j ← Γ.slot y
            let a ← cE n Γ a
            let b ← cE n Γ b
            if i = j then none else some (SS.par i j a b)
          else none
        | tg, e => if isTupE tg && isTupE e then none else do
            let t ← cT n Γ tg
            let e ← cE n Γ e
            some (SS.set t e)) = some p := h
        split at h
        · obtain ⟨h0, h⟩ := if_some h
          obtain ⟨i', hi, h⟩ := bind_some h
          obtain ⟨j', hj, h⟩ := bind_some h
          obtain ⟨a', ha, h⟩ := bind_some h
          obtain ⟨b', hb, h⟩ := bind_some h
          split at h
          · cases h
          · rename_i hij
            cases h
            unfold parOk at h0
            simp only [Bool.and_eq_true, Bool.not_eq_true', decide_eq_false_iff_not] at h0
            obtain ⟨⟨⟨⟨⟨⟨c1, c2⟩, c3⟩, c4⟩, c5⟩, c6⟩, c7⟩ := h0
            have lx : ∀ {x : Str}, Γ.isLoc x = true → X.env.scope.names.lookup x = some .local := fun {x} c => by
              unfold Gam.isLoc at c
              split at c
              · rw [F.fx.sc]; assumption
              · cases c
            have hk : X.env.blockKind = .function := by
              unfold Gam.isFun at c1
              split at c1
              · rename_i e
                unfold Env.blockKind
                rw [F.fx.sc, e]
                rfl
              · cases c1
            exact s_par F.fx.calm F.fx.nd (slot_ok F.fx hi) (slot_ok F.fx hj) hij (lx c2) (lx c3) (S.e F.fx ha).1 (S.e F.fx hb).1 (wE_mono F.fx.mono a') (wE_mono F.fx.mono b') (S.e F.fx ha).2 (S.e F.fx hb).2
              (swapped_ok hk (lx c2) (lx c3) c4 c5 (S.e F.fx ha).2 (S.e F.fx hb).2 c6 c7)
        · obtain ⟨h0, h⟩ := ifn_some h
          obtain ⟨t', ht, h⟩ := bind_some h
          obtain ⟨e', he, h⟩ := bind_some h
          cases h
          exact SndS.assign F h0 ht he
    | _ => cases h
  · cases l with
    | nil => cases h; exact s_nil
    | cons s r =>
      obtain ⟨s', hs, h⟩ := bind_some h
      obtain ⟨r', hr, h⟩ := bind_some h
      cases h
      exact s_cons (m := wS Φ s') (m2 := wSs Φ r') (R.s F hs) (R.ss F hr) (fun _ _ _ _ => wS_mono F.fx.mono s' _ _ _ _) (fun _ _ _ _ => wSs_mono F.fx.mono r' _ _ _ _)
theorem sndS_all : ∀ n, SndS Φ C k n
  | 0 => sndS_zero
  | n + 1 => (sndS_all n).step
end

/-! ### a def -/
/-- what a def may hand back: its value as it stands; or, where nothing newer than k is held by what stays, without the objects newer than k (a newer list, dict, instance that is handed back is from then on only read) -/
def Ret (k : Nat) (st : Sto) (d d' : D) : Prop := (Cl k d ∧ d' = d) ∨ ∃ n, d = .loc n ∧ k ≤ n ∧ st[n]? = some d' ∧ Cl k d' ∧ ∀ x, d' ≠ .lck x
def Fin (n0 : Nat) (Q : Kd) (d : D) (st : Sto) : Prop := Q d st ∨ ∃ k d', n0 ≤ k ∧ k ≤ st.length ∧ (∀ c ∈ st.take k, Cl k c) ∧ Ret k st d d' ∧ Q d' (st.take k)
def finX (n0 : Nat) (Q : Kd) : EndsD := ⟨fun _ st => Fin n0 Q .non st, Fin n0 Q, fun _ _ => False, fun _ _ => False⟩
theorem Fin.post {K : PySem.W.Frag} {C : Nat → Addr} {H : Hp} {ι : Io} {Q : VK} {d : D} {st : Sto} (h : Fin ι.l.length (Post K C H ι Q) d st) : Post K C H ι Q d st := by
  rcases h with h | ⟨k, d', h1, h2, h3, h4, h5⟩
  · exact h
  · intro v H' ι' e S r
    have e2 : Ext H ι H' (ι'.take k) := by
      refine ⟨⟨?_, fun a o q n => ⟨(e.keep a o q n).1, (e.keep a o q n).2.take⟩⟩, e.zeq, e.hid⟩
      show ι.l <+: ι'.l.take k
      obtain ⟨l, el⟩ := e.pre
      rw [← el, List.take_append, List.take_of_length_le h1]
      exact List.prefix_append _ _
    refine h5 v H' (ι'.take k) e2 (S.cut h3) ?_
    rcases h4 with ⟨c, rfl⟩ | ⟨n, rfl, hn, hs, c, hl⟩
    · exact r.cut c
    · exact S.frz hn r hs c hl
/-- THE RULE for a def: its compiled body asks no more than its promise gives -/
theorem fn_ok {P : Program} {w : World} {K : PySem.W.Frag} {mg : Str → Option Value} {base : Heap} {x qual : Str} {st : Stmt} {f : Addr} {fd : FuncData} {N ps : List Str} {k n : Nat} {Φ : Fns} {C : Nat → Addr} {φ : Fn} {body : List SS} {Γ : Gam} {fuel : Nat}
    (F : Fun K x qual st f fd) (S : FnScope N ps (defScope st)) (hΓ : Γ.N = N) (hsc : Γ.sc = defScope st) (hfn : Γ.fn = fun _ => true) (hn : ps.length = n) (hc : cSs fuel Γ (defBody st) = some body) (hφ : MonoFn φ)
    (mono : ∀ f, MonoFn (Φ f))
    (gfn : ∀ x i n, Γ.gl.lookup x = some (.fn i n) → ∃ f fd ps, mg x = some (.ref f) ∧ PySem.W.keepIn K (.ref f) = true ∧ Binds K fd ps [] ∧ FnOk P w K mg base CX0 k f fd ps (spD K C n (Φ i)))
    (gcon : ∀ x d, Γ.gl.lookup x = some (.con d) → ∃ u v, mg x = some u ∧ RelV v u ∧ ∀ H ι, Rep K C H ι d v)
    (gbl : ∀ x ∈ Γ.bl, mg x = none)
    (hb : ∀ ds st Q, ds.length = n → (∀ d ∈ st, Cl st.length d) → (∀ d ∈ ds, Cl st.length d) → φ ds st Q → wSs Φ body (finX st.length Q) (ds.map some ++ List.replicate (N.length - n) none) st) :
    FnOk P w K mg base CX0 (k + 1) f fd ps (spD K C n φ) := by
  subst hΓ hn
  refine F.ok S (fun vs H Q E h => ?_) (fun cdv A outer s H vs Q E hr h => ?_)
  · obtain ⟨ι, st, ds, _, r, hl, _⟩ := h
    rw [← r.length, hl]
  · obtain ⟨ι, sto, ds, Sm, r, hl, q⟩ := h
    have fx : Fs Γ Φ C k (cxOf CX0 P w K mg base Γ.N qual (defScope st) f cdv A outer s H E).nox :=
      ⟨⟨rfl, S.nd, hsc.symm, hfn.symm, rfl, hr, mono, gfn, gcon, gbl⟩, PassesOwn.never⟩
    refine ⟨_, (sndS_all fuel).ss fx hc, ι, ds.map some ++ List.replicate (Γ.N.length - ps.length) none, sto, Sm, ⟨?_, fun i d h => ?_⟩, ?_⟩
    · unfold L2.start
      rw [List.length_append, List.length_append, List.length_map, List.length_map, List.length_replicate, List.length_replicate, ← r.length, hl]
    · have hi : i < ds.length := by
        by_cases hi : i < ds.length
        · exact hi
        · rw [List.getElem?_append_right (by simpa using hi), List.getElem?_replicate] at h
          split at h <;> cases h
      rw [List.getElem?_append_left (by simpa using hi), List.getElem?_map] at h
      cases e : ds[i]? with
      | none => rw [e] at h; cases h
      | some d' =>
        rw [e] at h
        cases h
        obtain ⟨v, h1, h2⟩ := r.get e
        refine ⟨v, ?_, h2⟩
        unfold L2.start
        rw [List.getElem?_append_left (by rw [List.length_map, ← r.length]; exact hi), List.getElem?_map, h1]
        rfl
    · have h1 := hb ds sto _ hl Sm.cl (fun d hd => by
        have := r.cl
        rw [Sm.len] at this
        exact Cls'_iff.mp this d hd) q
      rw [← Sm.len] at h1
      exact wSs_mono mono body _ _ _ _ ⟨fun env st' q σ' H' ι' e' S' E' => Fin.post q _ _ _ e' S' rep_non, fun d st' q => Fin.post q, fun _ _ (q : False) => q.elim, fun _ _ (q : False) => q.elim⟩ h1
end MI

set_option maxRecDepth 100000
/-! MI, part 15: the same meaning in a dress that simp steps through from the front, not looking into what follows. -/
namespace MI
open PySem PySem.Spec PyProof.Rows L2

inductive Tg {α : Type} (a : α) : Type where | mk
section
variable (Φ : Fns)
def xE (e : SE) (env : Ev) (st : Sto) (Q : Kd) (_ : Tg Q) : Prop := wE Φ e env st Q
def xEs (e : List SE) (env : Ev) (st : Sto) (Q : List D → Sto → Prop) (_ : Tg Q) : Prop := wEs Φ e env st Q
def xO (e : Option SE) (env : Ev) (st : Sto) (Q : Option Int → Sto → Prop) (_ : Tg Q) : Prop := wO Φ e env st Q
def xC (e : Option SB) (env : Ev) (st : Sto) (Q : Bool → Sto → Prop) (_ : Tg Q) : Prop := wC Φ e env st Q
def xT (e : SB) (env : Ev) (st : Sto) (Q : Bool → Sto → Prop) (_ : Tg Q) : Prop := wT Φ e env st Q
def xI (e : SI) (env : Ev) (st : Sto) (Q : Its → Sto → Prop) (_ : Tg Q) : Prop := wI Φ e env st Q
def xG (e : ST) (d : D) (env : Ev) (st : Sto) (Q : Ev → Sto → Prop) (_ : Tg Q) : Prop := wG Φ e d env st Q
def xGs (e : List ST) (d : List D) (env : Ev) (st : Sto) (Q : Ev → Sto → Prop) (_ : Tg Q) : Prop := wGs Φ e d env st Q
def xS (e : SS) (nx : Ev → Sto → Prop) (rt : Kd) (bk ct : Ev → Sto → Prop) (_ : Tg nx) (_ : Tg rt) (_ : Tg bk) (_ : Tg ct) (env : Ev) (st : Sto) : Prop := wS Φ e ⟨nx, rt, bk, ct⟩ env st
def xSs (e : List SS) (nx : Ev → Sto → Prop) (rt : Kd) (bk ct : Ev → Sto → Prop) (_ : Tg nx) (_ : Tg rt) (_ : Tg bk) (_ : Tg ct) (env : Ev) (st : Sto) : Prop := wSs Φ e ⟨nx, rt, bk, ct⟩ env st
/-- a def's whole body -/
def xBody (e : List SS) (n : Nat) (Q : Kd) (_ : Tg Q) (env : Ev) (st : Sto) : Prop := wSs Φ e (finX n Q) env st
def xK (f : Nat) (vs : List D) (st : Sto) (Q : Kd) (_ : Tg Q) : Prop := Φ f vs st Q
end
def xfor (Φ : Fns) (t : ST) (b : List SS) (keep : Sto → Prop) (items : List D) (nx : Ev → Sto → Prop) (rt : Kd) (_ : Tg nx) (_ : Tg rt) (_ : Tg keep) (env : Ev) (st : Sto) : Prop := forW (fun x e s K => wG Φ t x e s K) (fun X' e s => wSs Φ b X' e s) keep ⟨nx, rt, nx, nx⟩ items env st
def xwh (Φ : Fns) (c : SB) (b : List SS) (nx : Ev → Sto → Prop) (rt : Kd) (_ : Tg nx) (_ : Tg rt) (env : Ev) (st : Sto) : Prop := ∃ n, whileW (fun e s K => wT Φ c e s K) (fun X' e s => wSs Φ b X' e s) ⟨nx, rt, nx, nx⟩ n env st
def xlc (Φ : Fns) (elt : SE) (tg : ST) (c : Option SB) (env : Ev) (keep : Sto → Prop) (Q : List D → Sto → Prop) (_ : Tg Q) (_ : Tg keep) (items acc : List D) (st : Sto) : Prop :=
  lcW (fun x s K => wG Φ tg x env s K) (fun e s K => wC Φ c e s K) (fun e s K => wE Φ elt e s K) keep Q items acc st
def xlc2 (Φ : Fns) (elt : SE) (tg : ST) (c : Option SB) (tg1 : ST) (it1 : SI) (c1 : Option SB) (own1 : List Nat) (env : Ev) (keep : Sto → Prop) (Q : List D → Sto → Prop) (_ : Tg Q) (_ : Tg keep) (items acc : List D) (st : Sto) : Prop :=
  lcW2 (fun x s K => wG Φ tg x env s K) (fun e s K => wC Φ c e s K)
    (fun e acc s K => wI Φ it1 e s fun J1 s' => lcW (fun x s K => wG Φ tg1 x (wipeE e own1) s K) (fun e s K => wC Φ c1 e s K) (fun e s K => wE Φ elt e s K) J1.keep K J1.items acc s')
    keep Q items acc st
def xrng3 (i j k : Int) (R : Its → Sto → Prop) (_ : Tg R) (st : Sto) : Prop := ∃ n, RgC i j k n ∧ R ⟨rngL i n k, fun _ => True⟩ st
/-- what has to hold at the end -/
@[reducible] def xend {α β : Type} (I : α → β → Prop) (a : α) (b : β) (_ : Tg I) : Prop := I a b
def xopt {α : Type} (o : Option α) (k : α → Prop) (_ : Tg k) : Prop := opt o k
def xnew (m : Bool) (d : D) (st : Sto) (Q : Kd) (_ : Tg Q) : Prop := new m d st Q
def xbin (m : Bool) (o : BOp) (x y : D) (st : Sto) (Q : Kd) (_ : Tg Q) : Prop := binD m o x y st Q
def xaug (o : BOp) (x y : D) (st : Sto) (Q : Kd) (_ : Tg Q) : Prop := augD o x y st Q
def xcmp (o : COp) (x y : D) (st : Sto) (Q : Bool → Sto → Prop) (_ : Tg Q) : Prop := cmpD o x y st Q
def xtru (x : D) (st : Sto) (Q : Bool → Sto → Prop) (_ : Tg Q) : Prop := truD x st Q
def xidx (x y : D) (st : Sto) (Q : Kd) (_ : Tg Q) : Prop := idxD x y st Q
def xidxL (x y : D) (st : Sto) (Q : Kd) (_ : Tg Q) : Prop := idxL x y st Q
def xslc (m : Bool) (x : D) (lo hi : Option Int) (st : Sto) (Q : Kd) (_ : Tg Q) : Prop := slcD m x lo hi st Q
def xrev (m : Bool) (x : D) (st : Sto) (Q : Kd) (_ : Tg Q) : Prop := revD m x st Q
def xset (o i v : D) (st : Sto) (Q : Sto → Prop) (_ : Tg Q) : Prop := setD o i v st Q
def xblt (b : Blt) (m : Bool) (vs : List D) (st : Sto) (Q : Kd) (_ : Tg Q) : Prop := bltD b m vs st Q
def xmth (b : Mth) (o : D) (vs : List D) (st : Sto) (Q : Kd) (_ : Tg Q) : Prop := mthD b o vs st Q
def xrecv (b : Mth) (o : D) (st : Sto) (R : Prop) (_ : Tg (fun (_ : Unit) => R)) : Prop := recv b o st ∧ R
/-- a fork -/
def xite (b : Bool) (A B : Unit → Prop) (_ : Tg A) (_ : Tg B) : Prop := if b = true then A () else B ()
/-- a value's kind -/
def xint (d : D) (k : Int → Prop) (_ : Tg k) : Prop := match d with
  | .int i => k i
  | _ => False
def xbl (d : D) (k : Bool → Prop) (_ : Tg k) : Prop := match d with
  | .bl i => k i
  | _ => False
def xstr (d : D) (k : Str → Prop) (_ : Tg k) : Prop := match d with
  | .str i => k i
  | _ => False
def xvar (o : Option (Option D)) (k : D → Prop) (_ : Tg k) : Prop := match o with
  | some (some d) => k d
  | _ => False
def xtup (d : D) (n : Nat) (st : Sto) (k : List D → Prop) (_ : Tg k) : Prop := match d with
  | .tup xs => xs.length = n ∧ k xs
  | d => opt (asR st d) fun xs => xs.length = n ∧ k xs
def xlist (o : Option D) (k : List D → Prop) (_ : Tg k) : Prop := match o with
  | some (.lst xs) => k xs
  | _ => False
/-- first A; and then what follows -/
def xand (A : Prop) (B : Unit → Prop) (_ : Tg B) : Prop := A ∧ B ()

section
variable {Φ : Fns} {env : Ev} {st : Sto}
theorem xite_t {A B u v} : xite true A B u v = A () := rfl
theorem xite_f {A B u v} : xite false A B u v = B () := rfl
theorem xite_mk {b : Bool} {A B : Unit → Prop} {u v} (h1 : b = true → A ()) (h2 : b = false → B ()) : xite b A B u v := by
  cases b
  · exact h2 rfl
  · exact h1 rfl
theorem xint_i {i k u} : xint (.int i) k u = k i := rfl
theorem xbl_i {i k u} : xbl (.bl i) k u = k i := rfl
theorem xstr_i {i k u} : xstr (.str i) k u = k i := rfl
theorem xvar_i {d k u} : xvar (some (some d)) k u = k d := rfl
theorem xtup_i {xs n k u} : xtup (.tup xs) n st k u = xand (xs.length = n) (fun _ => k xs) ⟨⟩ := rfl
theorem xtup_l {xs n k u} : xtup (.lst xs) n st k u = xand (xs.length = n) (fun _ => k xs) ⟨⟩ := rfl
theorem xtup_r {xs n k u} : xtup (.ro xs) n st k u = xand (xs.length = n) (fun _ => k xs) ⟨⟩ := rfl
theorem xtup_o {m n k u} : xtup (.loc m) n st k u = xopt (asR st (.loc m)) (fun xs => xand (xs.length = n) (fun _ => k xs) ⟨⟩) ⟨⟩ := rfl
theorem xlist_i {xs k u} : xlist (some (.lst xs)) k u = k xs := rfl
theorem xopt_i {α : Type} {x : α} {k u} : xopt (some x) k u = k x := rfl
theorem xnew_t {d Q u} : xnew true d st Q u = Q (.loc st.length) (st ++ [d]) := rfl
theorem xnew_f {d Q u} : xnew false d st Q u = Q d st := rfl
theorem xand_t {B u} : xand True B u = B () := propext ⟨fun h => h.2, fun h => ⟨trivial, h⟩⟩
theorem xand_mk {A B u} (h1 : A) (h2 : A → B ()) : xand A B u := ⟨h1, h2 h1⟩

theorem xE_var {i Q u} : xE Φ (.var i) env st Q u = xvar env[i]? (fun d => Q d st) ⟨⟩ := rfl
theorem xE_con {d Q u} : xE Φ (.con d) env st Q u = Q d st := rfl
theorem xE_bin {o m a b Q u} : xE Φ (.bin o m a b) env st Q u = xE Φ a env st (fun x s1 => xE Φ b env s1 (fun y s2 => xbin m o x y s2 Q ⟨⟩) ⟨⟩) ⟨⟩ := rfl
theorem xE_neg {a Q u} : xE Φ (.neg a) env st Q u = xE Φ a env st (fun x s1 => xint x (fun i => Q (.int (-i)) s1) ⟨⟩) ⟨⟩ := rfl
theorem xE_cmp {o a b Q u} : xE Φ (.cmp o a b) env st Q u = xE Φ a env st (fun x s1 => xE Φ b env s1 (fun y s2 => xcmp o x y s2 (fun c s3 => Q (.bl c) s3) ⟨⟩) ⟨⟩) ⟨⟩ := rfl
theorem xE_chain {o o' a b c Q u} : xE Φ (.chain o o' a b c) env st Q u = xE Φ a env st (fun x s1 => xE Φ b env s1 (fun y s2 => xcmp o x y s2 (fun k s3 => xite k (fun _ => xE Φ c env s3 (fun z s4 => xcmp o' y z s4 (fun k' s5 => Q (.bl k') s5) ⟨⟩) ⟨⟩) (fun _ => Q (.bl false) s3) ⟨⟩ ⟨⟩) ⟨⟩) ⟨⟩) ⟨⟩ := rfl
theorem xE_land {a b Q u} : xE Φ (.land a b) env st Q u = xE Φ a env st (fun x s1 => xbl x (fun c => xite c (fun _ => xE Φ b env s1 Q ⟨⟩) (fun _ => Q (.bl false) s1) ⟨⟩ ⟨⟩) ⟨⟩) ⟨⟩ := rfl
theorem xE_lor {a b Q u} : xE Φ (.lor a b) env st Q u = xE Φ a env st (fun x s1 => xbl x (fun c => xite c (fun _ => Q (.bl true) s1) (fun _ => xE Φ b env s1 Q ⟨⟩) ⟨⟩ ⟨⟩) ⟨⟩) ⟨⟩ := rfl
theorem xE_lnot {a Q u} : xE Φ (.lnot a) env st Q u = xE Φ a env st (fun x s1 => xbl x (fun c => Q (.bl (!c)) s1) ⟨⟩) ⟨⟩ := rfl
theorem xE_ifx {t a b Q u} : xE Φ (.ifx t a b) env st Q u = xT Φ t env st (fun c s1 => xite c (fun _ => xE Φ a env s1 Q ⟨⟩) (fun _ => xE Φ b env s1 Q ⟨⟩) ⟨⟩ ⟨⟩) ⟨⟩ := rfl
theorem xE_tup {es Q u} : xE Φ (.tup es) env st Q u = xEs Φ es env st (fun xs s1 => xand (xs.length ≤ sizeLine) (fun _ => Q (.tup xs) s1) ⟨⟩) ⟨⟩ := rfl
theorem xE_lst {m es Q u} : xE Φ (.lst m es) env st Q u = xEs Φ es env st (fun xs s1 => xand (xs.length ≤ sizeLine) (fun _ => xnew m (.lst xs) s1 Q ⟨⟩) ⟨⟩) ⟨⟩ := rfl
theorem xE_idx {a i Q u} : xE Φ (.idx a i) env st Q u = xE Φ a env st (fun x s1 => xE Φ i env s1 (fun y s2 => xidx x y s2 Q ⟨⟩) ⟨⟩) ⟨⟩ := rfl
theorem xE_slc {m a lo hi Q u} : xE Φ (.slc m a lo hi) env st Q u = xE Φ a env st (fun x s1 => xO Φ lo env s1 (fun l s2 => xO Φ hi env s2 (fun h s3 => xslc m x l h s3 Q ⟨⟩) ⟨⟩) ⟨⟩) ⟨⟩ := rfl
theorem xE_rev {m a Q u} : xE Φ (.rev m a) env st Q u = xE Φ a env st (fun x s1 => xrev m x s1 Q ⟨⟩) ⟨⟩ := rfl
theorem xE_dnew {m t Q u} : xE Φ (.dnew m t) env st Q u = xnew m (if t = true then .dT [] else .dK []) st Q ⟨⟩ := rfl
theorem xE_ddsp {m es Q u} : xE Φ (.ddsp m es) env st Q u = xEs Φ es env st (fun xs s1 => xopt (pairsOf xs) (fun ps => xnew m (.dK (dispK ps)) s1 Q ⟨⟩) ⟨⟩) ⟨⟩ := rfl
theorem xE_call {f es Q u} : xE Φ (.call f es) env st Q u = xEs Φ es env st (fun xs s1 => xK Φ f xs s1 Q ⟨⟩) ⟨⟩ := rfl
theorem xE_blt {b m es Q u} : xE Φ (.blt b m es) env st Q u = xEs Φ es env st (fun xs s1 => xblt b m xs s1 Q ⟨⟩) ⟨⟩ := rfl
theorem xE_mth {b o es Q u} : xE Φ (.mth b o es) env st Q u = xE Φ o env st (fun x s1 => xand (recv b x s1) (fun _ => xEs Φ es env s1 (fun xs s2 => xmth b x xs s2 Q ⟨⟩) ⟨⟩) ⟨⟩) ⟨⟩ := rfl
theorem xE_lc {m elt tg it c own Q u} : xE Φ (.lc m elt tg it c own) env st Q u = xI Φ it env st (fun J s1 => xlc Φ elt tg c (wipeE env own) J.keep (fun acc s2 => xnew m (.lst acc) s2 Q ⟨⟩) ⟨⟩ ⟨⟩ J.items [] s1) ⟨⟩ := rfl
theorem xE_lc2 {m elt tg it c tg1 it1 c1 own own1 Q u} : xE Φ (.lc2 m elt tg it c tg1 it1 c1 own own1) env st Q u = xI Φ it env st (fun J s1 => xlc2 Φ elt tg c tg1 it1 c1 own1 (wipeE env own) J.keep (fun acc s2 => xnew m (.lst acc) s2 Q ⟨⟩) ⟨⟩ ⟨⟩ J.items [] s1) ⟨⟩ := rfl
theorem xEs_nil {Q u} : xEs Φ [] env st Q u = Q [] st := rfl
theorem xEs_cons {e es Q u} : xEs Φ (e :: es) env st Q u = xE Φ e env st (fun x s1 => xEs Φ es env s1 (fun xs s2 => Q (x :: xs) s2) ⟨⟩) ⟨⟩ := rfl
theorem xO_none {Q u} : xO Φ none env st Q u = Q none st := rfl
theorem xO_some {e Q u} : xO Φ (some e) env st Q u = xE Φ e env st (fun x s1 => xint x (fun i => Q (some i) s1) ⟨⟩) ⟨⟩ := rfl
theorem xC_none {Q u} : xC Φ none env st Q u = Q true st := rfl
theorem xC_some {e Q u} : xC Φ (some e) env st Q u = xT Φ e env st Q ⟨⟩ := rfl
theorem xT_land {a b Q u} : xT Φ (.land a b) env st Q u = xT Φ a env st (fun c s1 => xite c (fun _ => xT Φ b env s1 Q ⟨⟩) (fun _ => Q false s1) ⟨⟩ ⟨⟩) ⟨⟩ := rfl
theorem xT_lor {a b Q u} : xT Φ (.lor a b) env st Q u = xT Φ a env st (fun c s1 => xite c (fun _ => Q true s1) (fun _ => xT Φ b env s1 Q ⟨⟩) ⟨⟩ ⟨⟩) ⟨⟩ := rfl
theorem xT_lnot {a Q u} : xT Φ (.lnot a) env st Q u = xT Φ a env st (fun c s1 => Q (!c) s1) ⟨⟩ := rfl
theorem xT_cmp {o a b Q u} : xT Φ (.cmp o a b) env st Q u = xE Φ a env st (fun x s1 => xE Φ b env s1 (fun y s2 => xcmp o x y s2 Q ⟨⟩) ⟨⟩) ⟨⟩ := rfl
theorem xT_chain {o o' a b c Q u} : xT Φ (.chain o o' a b c) env st Q u = xE Φ a env st (fun x s1 => xE Φ b env s1 (fun y s2 => xcmp o x y s2 (fun k s3 => xite k (fun _ => xE Φ c env s3 (fun z s4 => xcmp o' y z s4 Q ⟨⟩) ⟨⟩) (fun _ => Q false s3) ⟨⟩ ⟨⟩) ⟨⟩) ⟨⟩) ⟨⟩ := rfl
theorem xT_val {e Q u} : xT Φ (.val e) env st Q u = xE Φ e env st (fun x s1 => xtru x s1 Q ⟨⟩) ⟨⟩ := rfl
theorem xI_seq {e R u} : xI Φ (.seq e) env st R u = xE Φ e env st (fun x s1 => xopt (asSeq s1 x) (fun xs => R ⟨xs, fun s => asSeq s x = some xs⟩ s1) ⟨⟩) ⟨⟩ := rfl
theorem xI_rng1 {e R u} : xI Φ (.rng1 e) env st R u = xE Φ e env st (fun x s1 => xint x (fun j => xand (-(2 ^ 62) ≤ j ∧ j < 2 ^ 62) (fun _ => R ⟨rngL 0 j.toNat 1, fun _ => True⟩ s1) ⟨⟩) ⟨⟩) ⟨⟩ := by
  show wE Φ e env st _ = wE Φ e env st _
  congr; funext x s1
  cases x <;> first | rfl | exact propext ⟨fun ⟨a, b, c⟩ => ⟨⟨a, b⟩, c⟩, fun ⟨⟨a, b⟩, c⟩ => ⟨a, b, c⟩⟩
theorem xI_rng2 {a b R u} : xI Φ (.rng2 a b) env st R u = xE Φ a env st (fun x s1 => xE Φ b env s1 (fun y s2 => xint x (fun i => xint y (fun j => xand (-(2 ^ 62) ≤ i ∧ i < 2 ^ 62 ∧ -(2 ^ 62) ≤ j ∧ j < 2 ^ 62) (fun _ => R ⟨rngL i (j - i).toNat 1, fun _ => True⟩ s2) ⟨⟩) ⟨⟩) ⟨⟩) ⟨⟩) ⟨⟩ := by
  show wE Φ a env st _ = wE Φ a env st _
  congr; funext x s1
  show wE Φ b env s1 _ = wE Φ b env s1 _
  congr; funext y s2
  cases x <;> cases y <;> rfl
theorem xI_rng3 {a b c R u} : xI Φ (.rng3 a b c) env st R u = xE Φ a env st (fun x s1 => xE Φ b env s1 (fun y s2 => xE Φ c env s2 (fun z s3 => xint x (fun i => xint y (fun j => xint z (fun k => xrng3 i j k R ⟨⟩ s3) ⟨⟩) ⟨⟩) ⟨⟩) ⟨⟩) ⟨⟩) ⟨⟩ := by
  show wE Φ a env st _ = wE Φ a env st _
  congr; funext x s1
  show wE Φ b env s1 _ = wE Φ b env s1 _
  congr; funext y s2
  show wE Φ c env s2 _ = wE Φ c env s2 _
  congr; funext z s3
  cases x <;> cases y <;> cases z <;> rfl
theorem xI_enum {e R u} : xI Φ (.enum e) env st R u = xE Φ e env st (fun x s1 => xopt (asSeq s1 x) (fun xs => R ⟨enumL xs, fun s => asSeq s x = some xs⟩ s1) ⟨⟩) ⟨⟩ := rfl
theorem xI_chars {e R u} : xI Φ (.chars e) env st R u = xE Φ e env st (fun x s1 => xstr x (fun z => R ⟨charsD z, fun _ => True⟩ s1) ⟨⟩) ⟨⟩ := rfl
theorem xG_nm {i d Q u} : xG Φ (.nm i) d env st Q u = Q (env.set i (some d)) st := rfl
theorem xG_tup {ts d Q u} : xG Φ (.tup ts) d env st Q u = xtup d ts.length st (fun xs => xGs Φ ts xs env st Q ⟨⟩) ⟨⟩ := by
  cases d <;> rfl
theorem xG_sub {o i d Q u} : xG Φ (.sub o i) d env st Q u = xE Φ o env st (fun x s1 => xE Φ i env s1 (fun y s2 => xset x y d s2 (fun s3 => Q env s3) ⟨⟩) ⟨⟩) ⟨⟩ := rfl
theorem xGs_nil {Q u} : xGs Φ [] [] env st Q u = Q env st := propext ⟨fun h => h.2, fun h => ⟨rfl, h⟩⟩
theorem xGs_cons {t ts x r Q u} : xGs Φ (t :: ts) (x :: r) env st Q u = xG Φ t x env st (fun e1 s1 => xGs Φ ts r e1 s1 Q ⟨⟩) ⟨⟩ := rfl
section
variable {nx : Ev → Sto → Prop} {rt : Kd} {bk ct : Ev → Sto → Prop} {u1 : Tg nx} {u2 : Tg rt} {u3 : Tg bk} {u4 : Tg ct}
theorem xBody_eq {b n Q u} : xBody Φ b n Q u env st = xSs Φ b (fun _ st => MI.Fin n Q .non st) (fun d st => MI.Fin n Q d st) (fun _ _ => False) (fun _ _ => False) ⟨⟩ ⟨⟩ ⟨⟩ ⟨⟩ env st := rfl
theorem xS_set {t e} : xS Φ (.set t e) nx rt bk ct u1 u2 u3 u4 env st = xE Φ e env st (fun x s1 => xG Φ t x env s1 nx ⟨⟩) ⟨⟩ := rfl
theorem xS_par {i j a b} : xS Φ (.par i j a b) nx rt bk ct u1 u2 u3 u4 env st = xE Φ a env st (fun x s1 => xE Φ b env s1 (fun y s2 => nx ((env.set i (some x)).set j (some y)) s2) ⟨⟩) ⟨⟩ := rfl
theorem xS_aug {i o e} : xS Φ (.aug i o e) nx rt bk ct u1 u2 u3 u4 env st = xvar env[i]? (fun x => xE Φ e env st (fun y s1 => xaug o x y s1 (fun z s2 => nx (env.set i (some z)) s2) ⟨⟩) ⟨⟩) ⟨⟩ := rfl
theorem xS_augS {o i op e} : xS Φ (.augS o i op e) nx rt bk ct u1 u2 u3 u4 env st = xE Φ o env st (fun x s1 => xE Φ i env s1 (fun y s2 => xidxL x y s2 (fun z s3 => xE Φ e env s3 (fun v s4 => xaug op z v s4 (fun r s5 => xset x y r s5 (fun s6 => nx env s6) ⟨⟩) ⟨⟩) ⟨⟩) ⟨⟩) ⟨⟩) ⟨⟩ := rfl
theorem xS_expr {e} : xS Φ (.expr e) nx rt bk ct u1 u2 u3 u4 env st = xE Φ e env st (fun _ s1 => nx env s1) ⟨⟩ := rfl
theorem xS_ret {e} : xS Φ (.ret e) nx rt bk ct u1 u2 u3 u4 env st = xE Φ e env st rt ⟨⟩ := rfl
theorem xS_ite {c a b} : xS Φ (.ite c a b) nx rt bk ct u1 u2 u3 u4 env st = xT Φ c env st (fun k s1 => xite k (fun _ => xSs Φ a nx rt bk ct ⟨⟩ ⟨⟩ ⟨⟩ ⟨⟩ env s1) (fun _ => xSs Φ b nx rt bk ct ⟨⟩ ⟨⟩ ⟨⟩ ⟨⟩ env s1) ⟨⟩ ⟨⟩) ⟨⟩ := rfl
theorem forW_ct {asg : D → Ev → Sto → (Ev → Sto → Prop) → Prop} {body : EndsD → Ev → Sto → Prop} {keep : Sto → Prop} {bk' ct' : Ev → Sto → Prop} : ∀ (xs : List D) (env : Ev) (st : Sto), forW asg body keep ⟨nx, rt, bk, ct⟩ xs env st = forW asg body keep ⟨nx, rt, bk', ct'⟩ xs env st
  | [], _, _ => rfl
  | x :: xs, env, st => by
    have : forW asg body keep ⟨nx, rt, bk, ct⟩ xs = forW asg body keep ⟨nx, rt, bk', ct'⟩ xs := by
      funext e s; exact forW_ct xs e s
    unfold forW
    rw [this]
theorem whileW_ct {c : Ev → Sto → (Bool → Sto → Prop) → Prop} {body : EndsD → Ev → Sto → Prop} {bk' ct' : Ev → Sto → Prop} : ∀ (n : Nat) (env : Ev) (st : Sto), whileW c body ⟨nx, rt, bk, ct⟩ n env st = whileW c body ⟨nx, rt, bk', ct'⟩ n env st
  | 0, _, _ => rfl
  | n + 1, env, st => by
    have : whileW c body ⟨nx, rt, bk, ct⟩ n = whileW c body ⟨nx, rt, bk', ct'⟩ n := by
      funext e s; exact whileW_ct n e s
    unfold whileW
    rw [this]
theorem xS_for {t it b} : xS Φ (.for_ t it b) nx rt bk ct u1 u2 u3 u4 env st = xI Φ it env st (fun J s1 => xfor Φ t b J.keep J.items nx rt ⟨⟩ ⟨⟩ ⟨⟩ env s1) ⟨⟩ := by
  show wI Φ it env st _ = wI Φ it env st _
  congr; funext J s1
  exact forW_ct _ _ _
theorem xS_while {c b} : xS Φ (.while_ c b) nx rt bk ct u1 u2 u3 u4 env st = xwh Φ c b nx rt ⟨⟩ ⟨⟩ env st := by
  show (∃ n, _) = (∃ n, _)
  congr; funext n
  exact whileW_ct _ _ _
theorem xS_pass : xS Φ .pass nx rt bk ct u1 u2 u3 u4 env st = nx env st := rfl
theorem xS_brk : xS Φ .brk nx rt bk ct u1 u2 u3 u4 env st = bk env st := rfl
theorem xS_cont : xS Φ .cont nx rt bk ct u1 u2 u3 u4 env st = ct env st := rfl
theorem xSs_nil : xSs Φ [] nx rt bk ct u1 u2 u3 u4 env st = nx env st := rfl
theorem xSs_cons {s r} : xSs Φ (s :: r) nx rt bk ct u1 u2 u3 u4 env st = xS Φ s (fun e s => xSs Φ r nx rt bk ct ⟨⟩ ⟨⟩ ⟨⟩ ⟨⟩ e s) rt bk ct ⟨⟩ ⟨⟩ ⟨⟩ ⟨⟩ env st := rfl
end

/-! the operators -/
theorem xbin_add {m i j Q u} : xbin m .add (.int i) (.int j) st Q u = Q (.int (i + j)) st := rfl
theorem xbin_addS {m x y Q u} : xbin m .add (.str x) (.str y) st Q u = xand (x.length + y.length ≤ sizeLine) (fun _ => Q (.str (x ++ y)) st) ⟨⟩ := rfl
theorem xbin_addT {m x y Q u} : xbin m .add (.tup x) (.tup y) st Q u = xand (x.length + y.length ≤ sizeLine) (fun _ => Q (.tup (x ++ y)) st) ⟨⟩ := rfl
theorem xbin_addL {m x y Q u} : xbin m .add (.lst x) y st Q u = xopt (asL st y) (fun ys => xand (x.length + ys.length ≤ sizeLine) (fun _ => xnew m (.lst (x ++ ys)) st Q ⟨⟩) ⟨⟩) ⟨⟩ := rfl
theorem xbin_addO {m n y Q u} : xbin m .add (.loc n) y st Q u = xopt (asL st (.loc n)) (fun xs => xopt (asL st y) (fun ys => xand (xs.length + ys.length ≤ sizeLine) (fun _ => xnew m (.lst (xs ++ ys)) st Q ⟨⟩) ⟨⟩) ⟨⟩) ⟨⟩ := rfl
theorem xbin_sub {m i j Q u} : xbin m .sub (.int i) (.int j) st Q u = Q (.int (i - j)) st := rfl
theorem xbin_mul {m i j Q u} : xbin m .mul (.int i) (.int j) st Q u = xand (CMulW i j) (fun _ => Q (.int (i * j)) st) ⟨⟩ := rfl
theorem xbin_mulL {m x k Q u} : xbin m .mul (.lst x) (.int k) st Q u = xand (-(2 ^ 63) ≤ k ∧ k < 2 ^ 63 ∧ x.length * k.toNat ≤ sizeLine) (fun _ => xnew m (.lst (List.replicate k.toNat x).flatten) st Q ⟨⟩) ⟨⟩ := propext ⟨fun ⟨a, b, c, d⟩ => ⟨⟨a, b, c⟩, d⟩, fun ⟨⟨a, b, c⟩, d⟩ => ⟨a, b, c, d⟩⟩
theorem xbin_mulO {m n k Q u} : xbin m .mul (.loc n) (.int k) st Q u = xopt (asL st (.loc n)) (fun x => xand (-(2 ^ 63) ≤ k ∧ k < 2 ^ 63 ∧ x.length * k.toNat ≤ sizeLine) (fun _ => xnew m (.lst (List.replicate k.toNat x).flatten) st Q ⟨⟩) ⟨⟩) ⟨⟩ := by
  show opt (asL st (.loc n)) _ = opt (asL st (.loc n)) _
  cases asL st (.loc n) with
  | none => rfl
  | some x => exact propext ⟨fun ⟨a, b, c, d⟩ => ⟨⟨a, b, c⟩, d⟩, fun ⟨⟨a, b, c⟩, d⟩ => ⟨a, b, c, d⟩⟩
theorem xbin_mulT {m x k Q u} : xbin m .mul (.tup x) (.int k) st Q u = xand (x ≠ [] ∧ 2 ≤ k ∧ k ≤ 1000 ∧ x.length ≤ 1000) (fun _ => Q (.tup (List.replicate k.toNat x).flatten) st) ⟨⟩ := rfl
theorem xbin_fdiv {m i j Q u} : xbin m .fdiv (.int i) (.int j) st Q u = xand (CDivW i j) (fun _ => Q (.int (i / j)) st) ⟨⟩ := rfl
theorem xbin_mod {m i j Q u} : xbin m .mod (.int i) (.int j) st Q u = xand (0 < j) (fun _ => Q (.int (i % j)) st) ⟨⟩ := rfl
theorem xbin_pow {m i j Q u} : xbin m .pow (.int i) (.int j) st Q u = xand (CPow i j) (fun _ => Q (.int (i ^ j.toNat)) st) ⟨⟩ := rfl
theorem xaug_add {i j Q u} : xaug .add (.int i) (.int j) st Q u = Q (.int (i + j)) st := rfl
theorem xaug_sub {i j Q u} : xaug .sub (.int i) (.int j) st Q u = Q (.int (i - j)) st := rfl
theorem xaug_fdiv {i j Q u} : xaug .fdiv (.int i) (.int j) st Q u = xand (CDiv i j) (fun _ => Q (.int (i / j)) st) ⟨⟩ := rfl
theorem xcmp_eqI {i j Q u} : xcmp .eq (.int i) (.int j) st Q u = Q (i == j) st := rfl
theorem xcmp_eqS {i j Q u} : xcmp .eq (.str i) (.str j) st Q u = Q (i == j) st := rfl
theorem xcmp_neI {i j Q u} : xcmp .ne (.int i) (.int j) st Q u = Q (!(i == j)) st := rfl
theorem xcmp_neS {i j Q u} : xcmp .ne (.str i) (.str j) st Q u = Q (!(i == j)) st := rfl
theorem xcmp_lt {i j Q u} : xcmp .lt (.int i) (.int j) st Q u = Q (decide (i < j)) st := rfl
theorem xcmp_le {i j Q u} : xcmp .le (.int i) (.int j) st Q u = Q (decide (i ≤ j)) st := rfl
theorem xcmp_gt {i j Q u} : xcmp .gt (.int i) (.int j) st Q u = Q (decide (j < i)) st := rfl
theorem xcmp_ge {i j Q u} : xcmp .ge (.int i) (.int j) st Q u = Q (decide (j ≤ i)) st := rfl
theorem xcmp_inS {c : Nat} {z : Str} {Q u} : xcmp .isIn (.str ⟨#[c]⟩) (.str z) st Q u = Q (decide (c ∈ z.cps.toList)) st :=
  propext ⟨fun ⟨c', e, h⟩ => by cases e; exact h, fun h => ⟨c, rfl, h⟩⟩
/-- in, of a list or tuple of flat things -/
def xin (x : D) (ys : List D) (st : Sto) (Q : Bool → Sto → Prop) (_ : Tg Q) : Prop := flat x = true ∧ ys.all flat = true ∧ Q (ys.any fun z => eqF z x) st
theorem xcmp_inT {x ys Q u} : xcmp .isIn x (.tup ys) st Q u = xin x ys st Q ⟨⟩ := by cases x <;> rfl
theorem xcmp_inL {x ys Q u} : xcmp .isIn x (.lst ys) st Q u = xin x ys st Q ⟨⟩ := by cases x <;> rfl
theorem xcmp_inR {x ys Q u} : xcmp .isIn x (.ro ys) st Q u = xin x ys st Q ⟨⟩ := by cases x <;> rfl
/-- in, of an object -/
def xinO (o : Option D) (x : D) (st : Sto) (Q : Bool → Sto → Prop) (_ : Tg Q) : Prop := match o with
  | some (.lst ys) => flat x = true ∧ ys.all flat = true ∧ Q (ys.any fun z => eqF z x) st
  | some (.dK kvs) => opt (keyOf x) fun k => Q (valD kvs k).isSome st
  | some (.dT kvs) => opt (tkeyOf x) fun k => Q (valD kvs k).isSome st
  | _ => False
theorem getDD_o {n : Nat} {y : D} : getDD st (.loc n) y = (match st[n]? with
  | some (.dK kvs) => (keyOf y).map (valD kvs)
  | some (.dT kvs) => (tkeyOf y).map (valD kvs)
  | _ => none) := rfl
theorem xinO_eq {x : D} {n : Nat} {Q : Bool → Sto → Prop} (f : Bool → Bool) : (match getDD st (.loc n) x with
    | some r => Q (f r.isSome) st
    | none => opt (asSeq st (.loc n)) fun ys => flat x = true ∧ ys.all flat = true ∧ Q (f (ys.any fun z => eqF z x)) st) = xinO st[n]? x st (fun b s => Q (f b) s) ⟨⟩ := by
  rw [getDD_o]
  show _ = xinO st[n]? x st _ ⟨⟩
  have e : asSeq st (.loc n) = (match st[n]? with | some (.lst xs) => some xs | _ => none) := rfl
  rw [e]
  generalize st[n]? = o
  cases o with
  | none => rfl
  | some d =>
    cases d with
    | dK kvs => simp only [xinO]; cases keyOf x <;> rfl
    | dT kvs => simp only [xinO]; cases tkeyOf x <;> rfl
    | _ => rfl
theorem xcmp_inO {x n Q u} : xcmp .isIn x (.loc n) st Q u = xinO st[n]? x st Q ⟨⟩ := by
  rw [← show xinO st[n]? x st (fun b s => Q (id b) s) ⟨⟩ = xinO st[n]? x st Q ⟨⟩ from rfl, ← xinO_eq]
  cases x <;> rfl
theorem xinO_l {x ys Q u} : xinO (some (.lst ys)) x st Q u = xin x ys st Q ⟨⟩ := rfl
theorem xinO_k {x kvs Q u} : xinO (some (.dK kvs)) x st Q u = xopt (keyOf x) (fun k => Q (valD kvs k).isSome st) ⟨⟩ := rfl
theorem xinO_t {x kvs Q u} : xinO (some (.dT kvs)) x st Q u = xopt (tkeyOf x) (fun k => Q (valD kvs k).isSome st) ⟨⟩ := rfl
theorem xcmp_inK {x kvs Q u} : xcmp .isIn x (.dK kvs) st Q u = xopt (keyOf x) (fun k => Q (valD kvs k).isSome st) ⟨⟩ := by
  cases x <;> rfl
theorem xcmp_inD {x kvs Q u} : xcmp .isIn x (.dT kvs) st Q u = xopt (tkeyOf x) (fun k => Q (valD kvs k).isSome st) ⟨⟩ := by
  have e : xcmp .isIn x (.dT kvs) st Q u = (match ((tkeyOf x).map (valD kvs)) with | some r => Q r.isSome st | none => opt (asSeq st (.dT kvs)) fun ys => flat x = true ∧ ys.all flat = true ∧ Q (ys.any fun z => eqF z x) st) := by cases x <;> rfl
  rw [e]
  cases tkeyOf x <;> rfl
theorem xin_int {i ys Q u} : xin (.int i) ys st Q u = xand (ys.all flat = true) (fun _ => Q (ys.any fun z => eqF z (.int i)) st) ⟨⟩ := propext ⟨fun h => h.2, fun h => ⟨rfl, h⟩⟩
theorem xin_str {i ys Q u} : xin (.str i) ys st Q u = xand (ys.all flat = true) (fun _ => Q (ys.any fun z => eqF z (.str i)) st) ⟨⟩ := propext ⟨fun h => h.2, fun h => ⟨rfl, h⟩⟩
/-- not in, of a list or tuple of flat things -/
def xnin (x : D) (ys : List D) (st : Sto) (Q : Bool → Sto → Prop) (_ : Tg Q) : Prop := (flat x = true ∧ ys.all flat = true) ∧ Q (!ys.any fun z => eqF z x) st
theorem xnin_eq {x ys Q u} : xnin x ys st Q u = xand (flat x = true ∧ ys.all flat = true) (fun _ => Q (!ys.any fun z => eqF z x) st) ⟨⟩ := rfl
theorem xnin_p {x : D} {ys : List D} {Q : Bool → Sto → Prop} : (flat x = true ∧ ys.all flat = true ∧ Q (!ys.any fun z => eqF z x) st) = xnin x ys st Q ⟨⟩ := propext ⟨fun ⟨a, b, c⟩ => ⟨⟨a, b⟩, c⟩, fun ⟨⟨a, b⟩, c⟩ => ⟨a, b, c⟩⟩
theorem xcmp_notInT {x ys Q u} : xcmp .notIn x (.tup ys) st Q u = xnin x ys st Q ⟨⟩ := xnin_p
theorem xcmp_notInL {x ys Q u} : xcmp .notIn x (.lst ys) st Q u = xnin x ys st Q ⟨⟩ := xnin_p
theorem xcmp_notInR {x ys Q u} : xcmp .notIn x (.ro ys) st Q u = xnin x ys st Q ⟨⟩ := xnin_p
def xninO (o : Option D) (x : D) (st : Sto) (Q : Bool → Sto → Prop) (_ : Tg Q) : Prop := xinO o x st (fun b s => Q (!b) s) ⟨⟩
theorem xcmp_notInO {x n Q u} : xcmp .notIn x (.loc n) st Q u = xninO st[n]? x st Q ⟨⟩ := by
  unfold xninO
  rw [← xinO_eq]
  rfl
theorem xninO_l {x ys Q u} : xninO (some (.lst ys)) x st Q u = xnin x ys st Q ⟨⟩ := xnin_p
theorem xninO_k {x kvs Q u} : xninO (some (.dK kvs)) x st Q u = xopt (keyOf x) (fun k => Q (!(valD kvs k).isSome) st) ⟨⟩ := rfl
theorem xninO_t {x kvs Q u} : xninO (some (.dT kvs)) x st Q u = xopt (tkeyOf x) (fun k => Q (!(valD kvs k).isSome) st) ⟨⟩ := rfl
theorem xcmp_notInK {x kvs Q u} : xcmp .notIn x (.dK kvs) st Q u = xopt (keyOf x) (fun k => Q (!(valD kvs k).isSome) st) ⟨⟩ := by
  have e : xcmp .notIn x (.dK kvs) st Q u = (match ((keyOf x).map (valD kvs)) with | some r => Q (!r.isSome) st | none => opt (asSeq st (.dK kvs)) fun ys => flat x = true ∧ ys.all flat = true ∧ Q (!ys.any fun z => eqF z x) st) := by cases x <;> rfl
  rw [e]
  cases keyOf x <;> rfl
theorem xcmp_notInD {x kvs Q u} : xcmp .notIn x (.dT kvs) st Q u = xopt (tkeyOf x) (fun k => Q (!(valD kvs k).isSome) st) ⟨⟩ := by
  have e : xcmp .notIn x (.dT kvs) st Q u = (match ((tkeyOf x).map (valD kvs)) with | some r => Q (!r.isSome) st | none => opt (asSeq st (.dT kvs)) fun ys => flat x = true ∧ ys.all flat = true ∧ Q (!ys.any fun z => eqF z x) st) := by cases x <;> rfl
  rw [e]
  cases tkeyOf x <;> rfl
theorem keyOf_i {i : Int} : keyOf (.int i) = some (.inl i) := rfl
theorem keyOf_s {i : Str} : keyOf (.str i) = some (.inr i) := rfl
theorem tkeyOf_t {xs : List D} : tkeyOf (.tup xs) = keysOf xs := rfl
theorem keysOf_n : keysOf [] = some [] := rfl
theorem keysOf_i {i : Int} {r : List D} : keysOf (.int i :: r) = (keysOf r).map (Sum.inl i :: ·) := by
  show (match (some (Sum.inl i) : Option Key), keysOf r with | some k, some ks => some (k :: ks) | _, _ => none) = _
  cases keysOf r <;> rfl
theorem keysOf_s {i : Str} {r : List D} : keysOf (.str i :: r) = (keysOf r).map (Sum.inr i :: ·) := by
  show (match (some (Sum.inr i) : Option Key), keysOf r with | some k, some ks => some (k :: ks) | _, _ => none) = _
  cases keysOf r <;> rfl
theorem omap_some {α β : Type} {f : α → β} {x : α} : (some x).map f = some (f x) := rfl
theorem pairsOf_n : pairsOf [] = some [] := rfl
theorem pairsOf_i {i : Int} {v : D} {r : List D} : pairsOf (.int i :: v :: r) = (pairsOf r).map ((Sum.inl i, v) :: ·) := by
  show (match (some (Sum.inl i) : Option Key), pairsOf r with | some k, some ps => some ((k, v) :: ps) | _, _ => none) = _
  cases pairsOf r <;> rfl
theorem pairsOf_s {i : Str} {v : D} {r : List D} : pairsOf (.str i :: v :: r) = (pairsOf r).map ((Sum.inr i, v) :: ·) := by
  show (match (some (Sum.inr i) : Option Key), pairsOf r with | some k, some ps => some ((k, v) :: ps) | _, _ => none) = _
  cases pairsOf r <;> rfl
/-- == of data -/
def xdat (n : Bool) (x y : D) (st : Sto) (Q : Bool → Sto → Prop) (_ : Tg Q) : Prop := opt (toPyL st x) fun d => opt (toPyL st y) fun e => okEq d e = true ∧ Q (n ^^ PyData.eqv d e) st
theorem xcmp_eqT {x y Q u} : xcmp .eq (.tup x) y st Q u = xdat false (.tup x) y st Q ⟨⟩ := by
  unfold xcmp xdat
  simp only [cmpD, Bool.false_xor]
theorem xcmp_neT {x y Q u} : xcmp .ne (.tup x) y st Q u = xdat true (.tup x) y st Q ⟨⟩ := by
  unfold xcmp xdat
  simp only [cmpD, Bool.true_xor]
theorem xcmp_eqL {x y Q u} : xcmp .eq (.lst x) y st Q u = xdat false (.lst x) y st Q ⟨⟩ := by
  unfold xcmp xdat
  simp only [cmpD, Bool.false_xor]
theorem xcmp_neL {x y Q u} : xcmp .ne (.lst x) y st Q u = xdat true (.lst x) y st Q ⟨⟩ := by
  unfold xcmp xdat
  simp only [cmpD, Bool.true_xor]
theorem xcmp_eqN {y Q u} : xcmp .eq .non y st Q u = xdat false .non y st Q ⟨⟩ := by
  unfold xcmp xdat
  simp only [cmpD, Bool.false_xor]
theorem xcmp_neN {y Q u} : xcmp .ne .non y st Q u = xdat true .non y st Q ⟨⟩ := by
  unfold xcmp xdat
  simp only [cmpD, Bool.true_xor]
theorem xdat_NN {n Q u} : xdat n .non .non st Q u = Q (n ^^ true) st := by
  unfold xdat
  exact propext ⟨fun h => h.2, fun h => ⟨rfl, h⟩⟩
theorem xcmp_isN {Q u} : xcmp .is_ .non .non st Q u = Q true st := rfl
theorem xcmp_isIN {i Q u} : xcmp .is_ (.int i) .non st Q u = Q false st := rfl
theorem xcmp_isTN {i Q u} : xcmp .is_ (.tup i) .non st Q u = Q false st := rfl
theorem xcmp_isLN {i Q u} : xcmp .is_ (.lst i) .non st Q u = Q false st := rfl
theorem xcmp_isON {i Q u} : xcmp .is_ (.loc i) .non st Q u = Q false st := rfl
theorem xcmp_isntON {i Q u} : xcmp .isnt (.loc i) .non st Q u = Q true st := rfl
theorem xcmp_isSN {i Q u} : xcmp .is_ (.str i) .non st Q u = Q false st := rfl
theorem xcmp_isntSN {i Q u} : xcmp .isnt (.str i) .non st Q u = Q true st := rfl
theorem xcmp_isBN {i Q u} : xcmp .is_ (.bl i) .non st Q u = Q false st := rfl
theorem xcmp_isntBN {i Q u} : xcmp .isnt (.bl i) .non st Q u = Q true st := rfl
theorem xcmp_isB {a b Q u} : xcmp .is_ (.bl a) (.bl b) st Q u = Q (a == b) st := rfl
theorem xcmp_isntN {Q u} : xcmp .isnt .non .non st Q u = Q false st := rfl
theorem xcmp_isntIN {i Q u} : xcmp .isnt (.int i) .non st Q u = Q true st := rfl
theorem xcmp_isntTN {i Q u} : xcmp .isnt (.tup i) .non st Q u = Q true st := rfl
theorem xcmp_isntLN {i Q u} : xcmp .isnt (.lst i) .non st Q u = Q true st := rfl
theorem xcmp_isntB {a b Q u} : xcmp .isnt (.bl a) (.bl b) st Q u = Q (!(a == b)) st := rfl
theorem xtru_b {b Q u} : xtru (.bl b) st Q u = Q b st := rfl
theorem xtru_i {b Q u} : xtru (.int b) st Q u = Q (b != 0) st := rfl
theorem xtru_n {Q u} : xtru .non st Q u = Q false st := rfl
theorem xtru_t {xs Q u} : xtru (.tup xs) st Q u = Q (!xs.isEmpty) st := rfl
theorem xtru_l {xs Q u} : xtru (.lst xs) st Q u = Q (!xs.isEmpty) st := rfl
theorem xtru_o {n Q u} : xtru (.loc n) st Q u = xopt (asSeq st (.loc n)) (fun xs => Q (!xs.isEmpty) st) ⟨⟩ := rfl
theorem xidx_t {xs i Q u} : xidx (.tup xs) (.int i) st Q u = xopt (atI xs i) (fun d => Q d st) ⟨⟩ := rfl
theorem xidx_l {xs i Q u} : xidx (.lst xs) (.int i) st Q u = xopt (atI xs i) (fun d => Q d st) ⟨⟩ := rfl
theorem xidx_r {xs i Q u} : xidx (.ro xs) (.int i) st Q u = xopt (atI xs i) (fun d => Q d st) ⟨⟩ := rfl
theorem xidx_k {kvs i Q u} : xidx (.rd kvs) (.int i) st Q u = xopt (kvs.lookup i) (fun v => Q (.int v) st) ⟨⟩ := rfl
/-- o[y], of an object -/
def xidxO (o : Option D) (y : D) (st : Sto) (Q : Kd) (_ : Tg Q) : Prop := match o with
  | some (.dK kvs) => opt (keyOf y) fun k => opt (valD kvs k) fun d => Q d st
  | some (.dT kvs) => opt (tkeyOf y) fun k => opt (valD kvs k) fun d => Q d st
  | some (.lst xs) => (match y with
    | .int i => opt (atI xs i) fun d => Q d st
    | _ => False)
  | _ => False
theorem xidx_o {n y Q u} : xidx (.loc n) y st Q u = xidxO st[n]? y st Q ⟨⟩ := by
  show (match (generalizing := false) st[n]? with
    | some (.dK kvs) => opt (keyOf y) fun k => opt (valD kvs k) fun d => Q d st
    | some (.dT kvs) => opt (tkeyOf y) fun k => opt (valD kvs k) fun d => Q d st
    | _ => (match y with
      | .int i => opt (match st[n]? with | some (.lst xs) => some xs | _ => none) fun xs => opt (atI xs i) fun d => Q d st
      | _ => False)) = _
  generalize st[n]? = o
  cases o with
  | none => cases y <;> rfl
  | some d => cases d <;> first | rfl | (cases y <;> rfl)
theorem xidxO_l {xs i Q u} : xidxO (some (.lst xs)) (.int i) st Q u = xopt (atI xs i) (fun d => Q d st) ⟨⟩ := rfl
theorem xidxO_k {kvs y Q u} : xidxO (some (.dK kvs)) y st Q u = xopt (keyOf y) (fun k => xopt (valD kvs k) (fun d => Q d st) ⟨⟩) ⟨⟩ := rfl
theorem xidxO_t {kvs y Q u} : xidxO (some (.dT kvs)) y st Q u = xopt (tkeyOf y) (fun k => xopt (valD kvs k) (fun d => Q d st) ⟨⟩) ⟨⟩ := rfl
theorem xidx_dK {kvs y Q u} : xidx (.dK kvs) y st Q u = xopt (keyOf y) (fun k => xopt (valD kvs k) (fun d => Q d st) ⟨⟩) ⟨⟩ := by cases y <;> rfl
theorem xidx_dT {kvs y Q u} : xidx (.dT kvs) y st Q u = xopt (tkeyOf y) (fun k => xopt (valD kvs k) (fun d => Q d st) ⟨⟩) ⟨⟩ := by cases y <;> rfl
theorem xidx_s {z i Q u} : xidx (.str z) (.int i) st Q u = xand (z.length ≤ sizeLine) (fun _ => xopt (atI z.cps.toList i) (fun c => Q (.str ⟨#[c]⟩) st) ⟨⟩) ⟨⟩ := rfl
theorem xidxL_o {n k Q u} : xidxL (.loc n) (.int k) st Q u = xlist st[n]? (fun xs => xopt (atI xs k) (fun d => Q d st) ⟨⟩) ⟨⟩ := rfl
theorem xslc_t {m xs lo hi Q u} : xslc m (.tup xs) lo hi st Q u = Q (.tup (cutD xs lo hi)) st := rfl
theorem xslc_s {m z lo hi Q u} : xslc m (.str z) lo hi st Q u = xand (z.length ≤ sizeLine) (fun _ => Q (.str (cutS z lo hi)) st) ⟨⟩ := rfl
theorem xslc_l {m xs lo hi Q u} : xslc m (.lst xs) lo hi st Q u = xnew m (.lst (cutD xs lo hi)) st Q ⟨⟩ := rfl
theorem xslc_r {m xs lo hi Q u} : xslc m (.ro xs) lo hi st Q u = xnew m (.lst (cutD xs lo hi)) st Q ⟨⟩ := rfl
theorem xslc_o {m n lo hi Q u} : xslc m (.loc n) lo hi st Q u = xopt (asR st (.loc n)) (fun xs => xnew m (.lst (cutD xs lo hi)) st Q ⟨⟩) ⟨⟩ := rfl
theorem xrev_t {m xs Q u} : xrev m (.tup xs) st Q u = Q (.tup xs.reverse) st := rfl
theorem xrev_l {m xs Q u} : xrev m (.lst xs) st Q u = xnew m (.lst xs.reverse) st Q ⟨⟩ := rfl
theorem xrev_o {m n Q u} : xrev m (.loc n) st Q u = xopt (asR st (.loc n)) (fun xs => xnew m (.lst xs.reverse) st Q ⟨⟩) ⟨⟩ := rfl
/-- o[i] = v, of an object -/
def xsetO (n : Nat) (o : Option D) (i v : D) (st : Sto) (Q : Sto → Prop) (_ : Tg Q) : Prop := match o with
    | some (.lst xs) => (match i with
      | .int k => opt (ixN xs.length k) fun j => Q (st.set n (.lst (xs.set j v)))
      | _ => False)
    | some (.dK kvs) => opt (keyOf i) fun k => kvs.length < sizeLine ∧ Q (st.set n (.dK (putD kvs k v)))
    | some (.dT kvs) => opt (tkeyOf i) fun k => kvs.length < sizeLine ∧ Q (st.set n (.dT (putD kvs k v)))
    | _ => False
theorem xset_o {n i v Q u} : xset (.loc n) i v st Q u = xsetO n st[n]? i v st Q ⟨⟩ := rfl
theorem xsetO_l {n xs k v Q u} : xsetO n (some (.lst xs)) (.int k) v st Q u = xopt (ixN xs.length k) (fun j => Q (st.set n (.lst (xs.set j v)))) ⟨⟩ := rfl
theorem xsetO_k {n kvs i v Q u} : xsetO n (some (.dK kvs)) i v st Q u = xopt (keyOf i) (fun k => xand (kvs.length < sizeLine) (fun _ => Q (st.set n (.dK (putD kvs k v)))) ⟨⟩) ⟨⟩ := rfl
theorem xsetO_t {n kvs i v Q u} : xsetO n (some (.dT kvs)) i v st Q u = xopt (tkeyOf i) (fun k => xand (kvs.length < sizeLine) (fun _ => Q (st.set n (.dT (putD kvs k v)))) ⟨⟩) ⟨⟩ := rfl
theorem xblt_len {m d Q u} : xblt .len m [d] st Q u = xopt (lenD st d) (fun n => Q (.int n) st) ⟨⟩ := rfl
theorem xblt_int {m i Q u} : xblt .int m [.int i] st Q u = Q (.int i) st := rfl
theorem xblt_intB {m k Q u} : xblt .int m [.bl k] st Q u = Q (.int (if k then 1 else 0)) st := rfl
theorem xblt_list {m d Q u} : xblt .list m [d] st Q u = xopt (asSeq st d) (fun xs => xnew m (.lst xs) st Q ⟨⟩) ⟨⟩ := rfl
theorem xblt_tuple {m d Q u} : xblt .tuple m [d] st Q u = xopt (asSeq st d) (fun xs => Q (.tup xs) st) ⟨⟩ := rfl
theorem xblt_sum {m d Q u} : xblt .sum m [d] st Q u = xopt (asR st d) (fun xs => xopt (ints? xs) (fun ns => Q (.int ns.sum) st) ⟨⟩) ⟨⟩ := rfl
theorem xblt_max2 {m i j Q u} : xblt .max2 m [.int i, .int j] st Q u = Q (.int (if j > i then j else i)) st := rfl
theorem xblt_min2 {m i j Q u} : xblt .min2 m [.int i, .int j] st Q u = Q (.int (if j < i then j else i)) st := rfl
theorem xblt_any {m d Q u} : xblt .any m [d] st Q u = xopt (asR st d) (fun xs => xopt (bls? xs) (fun bs => Q (.bl (bs.any id)) st) ⟨⟩) ⟨⟩ := rfl
theorem xblt_all {m d Q u} : xblt .all m [d] st Q u = xopt (asR st d) (fun xs => xopt (bls? xs) (fun bs => Q (.bl (bs.all id)) st) ⟨⟩) ⟨⟩ := rfl
/-- sorted: some list in order -/
def xsort (P : List Int → Prop) (m : Bool) (st : Sto) (Q : Kd) (_ : Tg Q) : Prop := ∀ ns' : List Int, P ns' → new m (.lst (ns'.map .int)) st Q
theorem xblt_sorted {m d Q u} : xblt .sorted m [d] st Q u = xopt (asSeq st d) (fun xs => xopt (ints? xs) (fun ns => xsort (fun ns' => ns'.Perm ns ∧ ns'.Pairwise (· ≤ ·)) m st Q ⟨⟩) ⟨⟩) ⟨⟩ := by
  show opt (asSeq st d) _ = opt (asSeq st d) _
  congr; funext xs
  show opt (ints? xs) _ = opt (ints? xs) _
  congr; funext ns
  exact propext ⟨fun h ns' h1 => h ns' h1.1 h1.2, fun h ns' h1 h2 => h ns' ⟨h1, h2⟩⟩
theorem xblt_sortSet {m xs Q u} : xblt .sortSet m [.tup xs] st Q u = xopt (ints? xs) (fun ns => xand (ns.length < 64) (fun _ => xsort (fun ns' => ns'.Pairwise (· < ·) ∧ ∀ k, k ∈ ns' ↔ k ∈ ns) m st Q ⟨⟩) ⟨⟩) ⟨⟩ := by
  show opt (ints? xs) _ = opt (ints? xs) _
  congr; funext ns
  exact propext ⟨fun h => ⟨h.1, fun ns' h1 => h.2 ns' h1.1 h1.2⟩, fun h => ⟨h.1, fun ns' h1 h2 => h.2 ns' ⟨h1, h2⟩⟩⟩
theorem xblt_lenSet {m xs Q u} : xblt .lenSet m [.tup xs] st Q u = xopt (strs? xs) (fun ks => xand (ks.length < 1000) (fun _ => Q (.int (distN ks ks.length : Nat)) st) ⟨⟩) ⟨⟩ := rfl
theorem xsort_mk {P m Q u} (h : ∀ ns', P ns' → xnew m (.lst (ns'.map .int)) st Q ⟨⟩) : xsort P m st Q u := h
theorem xblt_str {m i Q u} : xblt .str m [.int i] st Q u = xand (i.natAbs.log2 < 1920) (fun _ => Q (.str (toString i)) st) ⟨⟩ := rfl
theorem xblt_isTuple_tup {m xs Q u} : xblt .isTuple m [.tup xs] st Q u = Q (.bl true) st := rfl
theorem xblt_isTuple_int {m xs Q u} : xblt .isTuple m [.int xs] st Q u = Q (.bl false) st := rfl
theorem xblt_isTuple_bl {m xs Q u} : xblt .isTuple m [.bl xs] st Q u = Q (.bl false) st := rfl
theorem xblt_isTuple_str {m xs Q u} : xblt .isTuple m [.str xs] st Q u = Q (.bl false) st := rfl
theorem xblt_isTuple_non {m Q u} : xblt .isTuple m [.non] st Q u = Q (.bl false) st := rfl
theorem xblt_isInt_tup {m xs Q u} : xblt .isInt m [.tup xs] st Q u = Q (.bl false) st := rfl
theorem xblt_isInt_int {m xs Q u} : xblt .isInt m [.int xs] st Q u = Q (.bl true) st := rfl
theorem xblt_isInt_bl {m xs Q u} : xblt .isInt m [.bl xs] st Q u = Q (.bl true) st := rfl
theorem xblt_isInt_str {m xs Q u} : xblt .isInt m [.str xs] st Q u = Q (.bl false) st := rfl
theorem xblt_isInt_non {m Q u} : xblt .isInt m [.non] st Q u = Q (.bl false) st := rfl
theorem xblt_isBool_tup {m xs Q u} : xblt .isBool m [.tup xs] st Q u = Q (.bl false) st := rfl
theorem xblt_isBool_int {m xs Q u} : xblt .isBool m [.int xs] st Q u = Q (.bl false) st := rfl
theorem xblt_isBool_bl {m xs Q u} : xblt .isBool m [.bl xs] st Q u = Q (.bl true) st := rfl
theorem xblt_isBool_str {m xs Q u} : xblt .isBool m [.str xs] st Q u = Q (.bl false) st := rfl
theorem xblt_isBool_non {m Q u} : xblt .isBool m [.non] st Q u = Q (.bl false) st := rfl
theorem xblt_isStr_tup {m xs Q u} : xblt .isStr m [.tup xs] st Q u = Q (.bl false) st := rfl
theorem xblt_isStr_int {m xs Q u} : xblt .isStr m [.int xs] st Q u = Q (.bl false) st := rfl
theorem xblt_isStr_bl {m xs Q u} : xblt .isStr m [.bl xs] st Q u = Q (.bl false) st := rfl
theorem xblt_isStr_str {m xs Q u} : xblt .isStr m [.str xs] st Q u = Q (.bl true) st := rfl
theorem xblt_isStr_non {m Q u} : xblt .isStr m [.non] st Q u = Q (.bl false) st := rfl
theorem xmth_append {n v Q u} : xmth .append (.loc n) [v] st Q u = xlist st[n]? (fun xs => xand (xs.length < sizeLine) (fun _ => Q .non (st.set n (.lst (xs ++ [v])))) ⟨⟩) ⟨⟩ := rfl
theorem xmth_pop0 {n Q u} : xmth .pop0 (.loc n) [] st Q u = xlist st[n]? (fun xs => xopt (xs[xs.length - 1]?) (fun v => Q v (st.set n (.lst xs.dropLast))) ⟨⟩) ⟨⟩ := rfl
theorem xmth_pop1 {n i Q u} : xmth .pop1 (.loc n) [.int i] st Q u = xlist st[n]? (fun xs => xand (-(2 ^ 63) ≤ i ∧ i < 2 ^ 63) (fun _ => xopt (seqIndex? i xs.length) (fun k => xopt (xs[k]?) (fun v => Q v (st.set n (.lst (xs.eraseIdx k)))) ⟨⟩) ⟨⟩) ⟨⟩) ⟨⟩ := by
  show (match st[n]? with | some (.lst xs) => _ | _ => False) = (match st[n]? with | some (.lst xs) => _ | _ => False)
  split
  · exact propext ⟨fun ⟨a, b, c⟩ => ⟨⟨a, b⟩, c⟩, fun ⟨⟨a, b⟩, c⟩ => ⟨a, b, c⟩⟩
  · rfl
theorem xmth_extT {n ys Q u} : xmth .extend (.loc n) [.tup ys] st Q u = xlist st[n]? (fun xs => xand (xs.length + ys.length ≤ sizeLine) (fun _ => Q .non (st.set n (.lst (xs ++ ys)))) ⟨⟩) ⟨⟩ := rfl
theorem xmth_extL {n ys Q u} : xmth .extend (.loc n) [.lst ys] st Q u = xlist st[n]? (fun xs => xand (xs.length + ys.length ≤ sizeLine) (fun _ => Q .non (st.set n (.lst (xs ++ ys)))) ⟨⟩) ⟨⟩ := by
  show (match st[n]? with | some (.lst xs) => _ | _ => False) = (match st[n]? with | some (.lst xs) => _ | _ => False)
  split
  · exact propext ⟨fun h => h.2, fun h => ⟨(fun e => by cases e), h⟩⟩
  · rfl
theorem xmth_extO {n k Q u} : xmth .extend (.loc n) [.loc k] st Q u = xlist st[n]? (fun xs => xand (D.loc k ≠ .loc n) (fun _ => xopt (asL st (.loc k)) (fun ys => xand (xs.length + ys.length ≤ sizeLine) (fun _ => Q .non (st.set n (.lst (xs ++ ys)))) ⟨⟩) ⟨⟩) ⟨⟩) ⟨⟩ := rfl
/-- d.get(y), of an object -/
def xgetO (o : Option D) (y : D) (z : D) (st : Sto) (Q : Kd) (_ : Tg Q) : Prop := opt (match o with
  | some (.dK kvs) => (keyOf y).map (valD kvs)
  | some (.dT kvs) => (tkeyOf y).map (valD kvs)
  | _ => none) fun r => Q (r.getD z) st
theorem xmth_get1 {n y Q u} : xmth .get1 (.loc n) [y] st Q u = xgetO st[n]? y .non st Q ⟨⟩ := rfl
theorem xmth_get2 {n y z Q u} : xmth .get2 (.loc n) [y, z] st Q u = xgetO st[n]? y z st Q ⟨⟩ := rfl
theorem xgetO_k {kvs y z Q u} : xgetO (some (.dK kvs)) y z st Q u = xopt (keyOf y) (fun k => Q ((valD kvs k).getD z) st) ⟨⟩ := by
  show opt ((keyOf y).map (valD kvs)) _ = opt (keyOf y) _
  cases keyOf y <;> rfl
theorem xgetO_t {kvs y z Q u} : xgetO (some (.dT kvs)) y z st Q u = xopt (tkeyOf y) (fun k => Q ((valD kvs k).getD z) st) ⟨⟩ := by
  show opt ((tkeyOf y).map (valD kvs)) _ = opt (tkeyOf y) _
  cases tkeyOf y <;> rfl
def xpopK (o : Option D) (n : Nat) (y : D) (st : Sto) (Q : Kd) (_ : Tg Q) : Prop := match o with
    | some (.dK kvs) => opt (keyOf y) fun k => opt (valD kvs k) fun v => Q v (st.set n (.dK (dropD kvs k)))
    | _ => False
theorem xmth_dpop1 {n y Q u} : xmth .dpop1 (.loc n) [y] st Q u = xpopK st[n]? n y st Q ⟨⟩ := rfl
theorem xpopK_k {n kvs y Q u} : xpopK (some (.dK kvs)) n y st Q u = xopt (keyOf y) (fun k => xopt (valD kvs k) (fun v => Q v (st.set n (.dK (dropD kvs k)))) ⟨⟩) ⟨⟩ := rfl
/-- pop with a default -/
def xpopD (r : Option D) (a : D → Prop) (b : Prop) (_ : Tg a) : Prop := match r with
  | some v => a v
  | none => b
def xpopO (o : Option D) (n : Nat) (y z : D) (st : Sto) (Q : Kd) (_ : Tg Q) : Prop := match o with
    | some (.dK kvs) => opt (keyOf y) fun k => (match valD kvs k with
      | some v => Q v (st.set n (.dK (dropD kvs k)))
      | none => Q z st)
    | some (.dT kvs) => opt (tkeyOf y) fun k => (match valD kvs k with
      | some v => Q v (st.set n (.dT (dropD kvs k)))
      | none => Q z st)
    | _ => False
theorem xmth_dpop2 {n y z Q u} : xmth .dpop2 (.loc n) [y, z] st Q u = xpopO st[n]? n y z st Q ⟨⟩ := rfl
theorem xpopO_k {n kvs y z Q u} : xpopO (some (.dK kvs)) n y z st Q u = xopt (keyOf y) (fun k => xpopD (valD kvs k) (fun v => Q v (st.set n (.dK (dropD kvs k)))) (Q z st) ⟨⟩) ⟨⟩ := rfl
theorem xpopO_t {n kvs y z Q u} : xpopO (some (.dT kvs)) n y z st Q u = xopt (tkeyOf y) (fun k => xpopD (valD kvs k) (fun v => Q v (st.set n (.dT (dropD kvs k)))) (Q z st) ⟨⟩) ⟨⟩ := rfl
def isDo (o : Option D) : Prop := match o with
  | some (.dK _) => True
  | some (.dT _) => True
  | _ => False
theorem isDo_k {kvs} : isDo (some (.dK kvs)) = True := rfl
theorem isDo_t {kvs} : isDo (some (.dT kvs)) = True := rfl
theorem recv_get1 {n : Nat} : recv .get1 (.loc n) st = isDo st[n]? := rfl
theorem recv_get2 {n : Nat} : recv .get2 (.loc n) st = isDo st[n]? := rfl
theorem recv_dpop1 {n : Nat} : recv .dpop1 (.loc n) st = isDo st[n]? := rfl
theorem recv_dpop2 {n : Nat} : recv .dpop2 (.loc n) st = isDo st[n]? := rfl
theorem recv_join {z : Str} : recv .join (.str z) st = True := rfl
theorem xmth_join {a d Q u} : xmth .join (.str a) [d] st Q u = xopt (asSeq st d) (fun xs => xopt (strs? xs) (fun ys => xand ((ys.map (·.length)).sum + ys.length * a.length ≤ 16777216) (fun _ => Q (.str (Txt.join a ys)) st) ⟨⟩) ⟨⟩) ⟨⟩ := rfl
theorem recv_app {n : Nat} : recv .append (.loc n) st = xlist st[n]? (fun _ => True) ⟨⟩ := rfl
theorem recv_pop0 {n : Nat} : recv .pop0 (.loc n) st = xlist st[n]? (fun _ => True) ⟨⟩ := rfl
theorem recv_pop1 {n : Nat} : recv .pop1 (.loc n) st = xlist st[n]? (fun _ => True) ⟨⟩ := rfl
theorem recv_ext {n : Nat} : recv .extend (.loc n) st = xlist st[n]? (fun _ => True) ⟨⟩ := rfl
theorem asSeq_t {xs} : asSeq st (.tup xs) = some xs := rfl
theorem asSeq_l {xs} : asSeq st (.lst xs) = some xs := rfl
theorem asSeq_r {xs} : asSeq st (.ro xs) = some xs := rfl
theorem asR_l {xs} : asR st (.lst xs) = some xs := rfl
theorem asR_r {xs} : asR st (.ro xs) = some xs := rfl
theorem asL_l {xs} : asL st (.lst xs) = some xs := rfl
theorem asL_o {n xs} (h : st[n]? = some (.lst xs)) : asL st (.loc n) = some xs := by unfold asL; simp only [h]
theorem asR_o {n xs} (h : st[n]? = some (.lst xs)) : asR st (.loc n) = some xs := asL_o h
theorem asSeq_o {n xs} (h : st[n]? = some (.lst xs)) : asSeq st (.loc n) = some xs := asL_o h
theorem asSeq_inv {n : Nat} {xs : List D} (h : asSeq st (.loc n) = some xs) : st[n]? = some (.lst xs) := by
  have h : (match st[n]? with | some (.lst xs) => some xs | _ => none) = some xs := h
  split at h
  · rename_i e; cases h; exact e
  · cases h
/-- a list at a place -/
def asLo : Option D → Option (List D)
  | some (.lst xs) => some xs
  | _ => none
theorem asLo_l {xs} : asLo (some (.lst xs)) = some xs := rfl
theorem asL_oo {n : Nat} : asL st (.loc n) = asLo st[n]? := by
  unfold asL asLo
  rfl
theorem asR_oo {n : Nat} : asR st (.loc n) = asLo st[n]? := asL_oo
theorem asSeq_oo {n : Nat} : asSeq st (.loc n) = asLo st[n]? := asL_oo
theorem lenD_oo {n : Nat} : lenD st (.loc n) = (asLo st[n]?).map List.length := by
  rw [← asSeq_oo]; rfl
theorem lenD_t {xs} : lenD st (.tup xs) = some xs.length := rfl
theorem lenD_l {xs} : lenD st (.lst xs) = some xs.length := rfl
theorem lenD_r {xs} : lenD st (.ro xs) = some xs.length := rfl
theorem lenD_o {n xs} (h : st[n]? = some (.lst xs)) : lenD st (.loc n) = some xs.length := by
  show (asSeq st (.loc n)).map List.length = _
  rw [asSeq_o h]; rfl
end
end MI

set_option maxRecDepth 100000
/-! MI, part 16: loops by what stays true; ends of a def; calls. -/
namespace MI
open PySem PySem.Spec PyProof.Rows L2

section
variable {Φ : Fns}
theorem xite_of {b : Bool} {A B : Unit → Prop} {u v} (h : xite b A B u v) : if b = true then A () else B () := h
/-- two ways that meet again -/
theorem ite_join (hΦ : ∀ f, MonoFn (Φ f)) {c : Bool} {a b : List SS} {K : Ev → Sto → Prop} {rt : Kd} {bk ct : Ev → Sto → Prop} {u1 u2 u3 u4 v1 v2 v3 v4} {env : Ev} {st : Sto} (I : Ev → Sto → Prop)
    (h1 : c = true → xSs Φ a (fun e s => xend I e s ⟨⟩) rt bk ct ⟨⟩ ⟨⟩ ⟨⟩ ⟨⟩ env st) (h2 : c = false → xSs Φ b (fun e s => xend I e s ⟨⟩) rt bk ct ⟨⟩ ⟨⟩ ⟨⟩ ⟨⟩ env st) (h : ∀ env st, I env st → K env st) :
    xite c (fun _ => xSs Φ a K rt bk ct u1 u2 u3 u4 env st) (fun _ => xSs Φ b K rt bk ct v1 v2 v3 v4 env st) ⟨⟩ ⟨⟩ :=
  xite_mk (fun e => wSs_mono hΦ a ⟨I, rt, bk, ct⟩ _ env st ⟨h, fun _ _ q => q, fun _ _ q => q, fun _ _ q => q⟩ (h1 e)) (fun e => wSs_mono hΦ b ⟨I, rt, bk, ct⟩ _ env st ⟨h, fun _ _ q => q, fun _ _ q => q, fun _ _ q => q⟩ (h2 e))
theorem ifx_join (hΦ : ∀ f, MonoFn (Φ f)) {c : Bool} {a b : SE} {Q : Kd} {u v} {env : Ev} {st : Sto} (I : Kd) (h1 : c = true → xE Φ a env st (fun d s => xend I d s ⟨⟩) ⟨⟩) (h2 : c = false → xE Φ b env st (fun d s => xend I d s ⟨⟩) ⟨⟩) (h : ∀ d s, I d s → Q d s) :
    xite c (fun _ => xE Φ a env st Q u) (fun _ => xE Φ b env st Q v) ⟨⟩ ⟨⟩ :=
  xite_mk (fun e => wE_mono hΦ a env st _ _ h (h1 e)) (fun e => wE_mono hΦ b env st _ _ h (h2 e))
/-- a for: I i holds before the i-th item -/
theorem for_inv (hΦ : ∀ f, MonoFn (Φ f)) {t : ST} {b : List SS} {keep : Sto → Prop} {items : List D} {nx : Ev → Sto → Prop} {rt : Kd} {u v w} {env : Ev} {st : Sto} (I : Nat → Ev → Sto → Prop)
    (h0 : I 0 env st) (hk : ∀ i env st, i ≤ items.length → I i env st → keep st)
    (hs : ∀ i x env st, items[i]? = some x → I i env st → xG Φ t x env st (fun env' st' => xSs Φ b (fun e s => xend (I (i + 1)) e s ⟨⟩) rt nx (fun e s => xend (I (i + 1)) e s ⟨⟩) ⟨⟩ ⟨⟩ ⟨⟩ ⟨⟩ env' st') ⟨⟩)
    (he : ∀ env st, I items.length env st → nx env st) : xfor Φ t b keep items nx rt u v w env st := by
  have key : ∀ (xs : List D) (i : Nat) (env : Ev) (st : Sto), items.drop i = xs → i + xs.length = items.length → I i env st → forW (fun x e s K => wG Φ t x e s K) (fun X' e s => wSs Φ b X' e s) keep ⟨nx, rt, nx, nx⟩ xs env st := by
    intro xs
    induction xs with
    | nil =>
      intro i env st hd hl h
      have : i = items.length := by simpa using hl
      subst this
      exact ⟨hk _ _ _ (Nat.le_refl _) h, he _ _ h⟩
    | cons x r ih =>
      intro i env st hd hl h
      have hx : items[i]? = some x := by
        have := List.getElem?_drop (xs := items) (i := i) (j := 0)
        rw [hd] at this
        simpa using this.symm
      have hd' : items.drop (i + 1) = r := by
        rw [← List.drop_drop, hd]; rfl
      have hl' : i + 1 + r.length = items.length := by
        rw [List.length_cons] at hl; omega
      refine ⟨hk _ _ _ (by omega) h, ?_⟩
      have := hs i x env st hx h
      exact wG_mono hΦ t x env st _ _ (fun e s q => wSs_mono hΦ b ⟨fun e s => I (i + 1) e s, rt, nx, fun e s => I (i + 1) e s⟩ _ e s ⟨fun e s => ih (i + 1) e s hd' hl', fun _ _ q => q, fun _ _ q => q, fun e s => ih (i + 1) e s hd' hl'⟩ q) this
  exact key items 0 env st rfl (by omega) h0
/-- a while, by what falls -/
theorem wh_inv (hΦ : ∀ f, MonoFn (Φ f)) {c : SB} {b : List SS} {nx : Ev → Sto → Prop} {rt : Kd} {u v} {env : Ev} {st : Sto} (I : Nat → Ev → Sto → Prop) (n : Nat) (h0 : I n env st)
    (hs : ∀ i env st, I i env st → xT Φ c env st (fun k st' => xite k (fun _ => xSs Φ b (fun e s => xend (fun e s => ∃ j, j < i ∧ I j e s) e s ⟨⟩) rt nx (fun e s => xend (fun e s => ∃ j, j < i ∧ I j e s) e s ⟨⟩) ⟨⟩ ⟨⟩ ⟨⟩ ⟨⟩ env st') (fun _ => nx env st') ⟨⟩ ⟨⟩) ⟨⟩) : xwh Φ c b nx rt u v env st := by
  have key : ∀ n i env st, i < n → I i env st → whileW (fun e s K => wT Φ c e s K) (fun X' e s => wSs Φ b X' e s) ⟨nx, rt, nx, nx⟩ n env st := by
    intro n
    induction n with
    | zero => intro i env st h; exact absurd h (Nat.not_lt_zero _)
    | succ n ih =>
      intro i env st hi h
      refine wT_mono hΦ c env st _ _ (fun k s q => ?_) (hs i env st h)
      have hle : EndsD.Le ⟨fun e s => ∃ j, j < i ∧ I j e s, rt, nx, fun e s => ∃ j, j < i ∧ I j e s⟩ ⟨whileW (fun e s K => wT Φ c e s K) (fun X' e s => wSs Φ b X' e s) ⟨nx, rt, nx, nx⟩ n, rt, nx, whileW (fun e s K => wT Φ c e s K) (fun X' e s => wSs Φ b X' e s) ⟨nx, rt, nx, nx⟩ n⟩ :=
        ⟨fun e s ⟨j, hj, q⟩ => ih j e s (by omega) q, fun _ _ q => q, fun _ _ q => q, fun e s ⟨j, hj, q⟩ => ih j e s (by omega) q⟩
      exact ite_mono (wSs_mono hΦ b _ _ env s hle) id (xite_of q)
  exact ⟨n + 1, key (n + 1) n env st (Nat.lt_succ_self n) h0⟩
/-- a comprehension of one clause -/
theorem lc_inv (hΦ : ∀ f, MonoFn (Φ f)) {elt : SE} {tg : ST} {c : Option SB} {env : Ev} {keep : Sto → Prop} {Q : List D → Sto → Prop} {items acc : List D} {u v} {st : Sto} (I : Nat → List D → Sto → Prop)
    (h0 : I 0 acc st) (hl : acc.length + items.length ≤ sizeLine) (hk : ∀ i acc st, i ≤ items.length → I i acc st → keep st)
    (hs : ∀ i x acc st, items[i]? = some x → I i acc st → xG Φ tg x env st (fun e s => xC Φ c e s (fun k s2 => xite k (fun _ => xE Φ elt e s2 (fun d s3 => xend (I (i + 1)) (acc ++ [d]) s3 ⟨⟩) ⟨⟩) (fun _ => xend (I (i + 1)) acc s2 ⟨⟩) ⟨⟩ ⟨⟩) ⟨⟩) ⟨⟩)
    (he : ∀ acc st, I items.length acc st → Q acc st) : xlc Φ elt tg c env keep Q u v items acc st := by
  have key : ∀ (xs : List D) (i : Nat) (acc : List D) (st : Sto), items.drop i = xs → i + xs.length = items.length → acc.length + xs.length ≤ sizeLine → I i acc st →
      lcW (fun x s K => wG Φ tg x env s K) (fun e s K => wC Φ c e s K) (fun e s K => wE Φ elt e s K) keep Q xs acc st := by
    intro xs
    induction xs with
    | nil =>
      intro i acc st hd hl _ h
      have : i = items.length := by simpa using hl
      subst this
      exact ⟨hk _ _ _ (Nat.le_refl _) h, he _ _ h⟩
    | cons x r ih =>
      intro i acc st hd hl ha h
      have hx : items[i]? = some x := by
        have := List.getElem?_drop (xs := items) (i := i) (j := 0)
        rw [hd] at this
        simpa using this.symm
      have hd' : items.drop (i + 1) = r := by
        rw [← List.drop_drop, hd]; rfl
      have hl' : i + 1 + r.length = items.length := by
        rw [List.length_cons] at hl; omega
      rw [List.length_cons] at ha
      refine ⟨hk _ _ _ (by omega) h, ?_⟩
      refine wG_mono hΦ tg x env st _ _ (fun e s q => wC_mono hΦ c e s _ _ (fun k s2 q => ?_) q) (hs i x acc st hx h)
      exact ite_mono (wE_mono hΦ elt e s2 _ _ fun d s3 q => ⟨by omega, ih (i + 1) _ s3 hd' hl' (by rw [List.length_append, List.length_singleton]; omega) q⟩) (ih (i + 1) acc s2 hd' hl' (by omega)) (xite_of q)
  exact key items 0 acc st rfl (by omega) hl h0
/-- the plain comprehension: each item gives f x, or is left out; the store stays -/
theorem lc_map (hΦ : ∀ f, MonoFn (Φ f)) {elt : SE} {tg : ST} {c : Option SB} {env : Ev} {keep : Sto → Prop} {Q : List D → Sto → Prop} {items acc : List D} {u v} {st : Sto} (f : D → Option D)
    (hl : acc.length + items.length ≤ sizeLine) (hk : keep st)
    (hs : ∀ x ∈ items, xG Φ tg x env st (fun e s => xC Φ c e s (fun k s2 => xite k (fun _ => xE Φ elt e s2 (fun d s3 => xend (fun d s3 => s3 = st ∧ f x = some d) d s3 ⟨⟩) ⟨⟩) (fun _ => xend (fun s2 (_ : Unit) => s2 = st ∧ f x = none) s2 () ⟨⟩) ⟨⟩ ⟨⟩) ⟨⟩) ⟨⟩)
    (he : Q (acc ++ items.filterMap f) st) : xlc Φ elt tg c env keep Q u v items acc st := by
  refine lc_inv hΦ (fun i a s => s = st ∧ a = acc ++ (items.take i).filterMap f) ⟨rfl, by simp⟩ hl (fun i a s _ h => h.1 ▸ hk) (fun i x a s hx h => ?_) (fun a s h => ?_)
  · obtain ⟨rfl, rfl⟩ := h
    refine wG_mono hΦ tg x env _ _ _ (fun e s q => wC_mono hΦ c e s _ _ (fun k s2 q => ?_) q) (hs x (List.mem_of_getElem? hx))
    have eq1 : (items.take (i + 1)).filterMap f = (items.take i).filterMap f ++ (f x).toList := by
      rw [List.take_add_one, hx, List.filterMap_append]
      simp only [Option.toList_some, List.filterMap_cons, List.filterMap_nil]
      cases f x <;> rfl
    refine ite_mono (wE_mono hΦ elt e s2 _ _ fun d s3 q' => ?_) (fun q' => ?_) (xite_of q)
    · refine ⟨q'.1, ?_⟩
      rw [eq1, q'.2, List.append_assoc]; rfl
    · refine ⟨q'.1, ?_⟩
      rw [eq1, q'.2]; simp
  · obtain ⟨rfl, rfl⟩ := h
    rw [List.take_length]
    exact he
/-- all items in their form -/
theorem lc_mapT (hΦ : ∀ f, MonoFn (Φ f)) {elt : SE} {tg : ST} {c : Option SB} {env : Ev} {keep : Sto → Prop} {Q : List D → Sto → Prop} {α β : Type} {l : List α} {enc : α → D} {g : α → D} {acc : List D} {u v} {st : Sto}
    (hl : acc.length + l.length ≤ sizeLine) (hk : keep st)
    (hs : ∀ x ∈ l, xG Φ tg (enc x) env st (fun e s => xC Φ c e s (fun k s2 => xite k (fun _ => xE Φ elt e s2 (fun d s3 => xend (fun d s3 => s3 = st ∧ d = g x) d s3 ⟨⟩) ⟨⟩) (fun _ => False) ⟨⟩ ⟨⟩) ⟨⟩) ⟨⟩)
    (he : Q (acc ++ l.map g) st) : xlc Φ elt tg c env keep Q u v (l.map enc) acc st := by
  refine lc_inv hΦ (fun i a s => s = st ∧ a = acc ++ (l.take i).map g) ⟨rfl, by simp⟩ (by simpa using hl) (fun i a s _ h => h.1 ▸ hk) (fun i x a s hx h => ?_) (fun a s h => ?_)
  · obtain ⟨rfl, rfl⟩ := h
    rw [List.getElem?_map] at hx
    cases hy : l[i]? with
    | none => rw [hy] at hx; cases hx
    | some y =>
      rw [hy] at hx
      cases hx
      refine wG_mono hΦ tg _ env _ _ _ (fun e s q => wC_mono hΦ c e s _ _ (fun k s2 q => ?_) q) (hs y (List.mem_of_getElem? hy))
      have eq1 : (l.take (i + 1)).map g = (l.take i).map g ++ [g y] := by
        rw [List.take_add_one, hy, List.map_append]; rfl
      refine ite_mono (wE_mono hΦ elt e s2 _ _ fun d s3 q => ?_) (fun q => ?_) (xite_of q)
      · obtain ⟨rfl, rfl⟩ := q
        refine ⟨rfl, ?_⟩
        rw [eq1, List.append_assoc]
      · exact q.elim
  · obtain ⟨rfl, rfl⟩ := h
    rw [List.length_map, List.take_length]
    exact he
/-- each item gives g x -/
theorem lc_mapX (hΦ : ∀ f, MonoFn (Φ f)) {elt : SE} {tg : ST} {c : Option SB} {env : Ev} {keep : Sto → Prop} {Q : List D → Sto → Prop} {l acc : List D} {g : D → D} {u v} {st : Sto}
    (hl : acc.length + l.length ≤ sizeLine) (hk : keep st)
    (hs : ∀ x ∈ l, xG Φ tg x env st (fun e s => xC Φ c e s (fun k s2 => xite k (fun _ => xE Φ elt e s2 (fun d s3 => xend (fun d s3 => s3 = st ∧ d = g x) d s3 ⟨⟩) ⟨⟩) (fun _ => False) ⟨⟩ ⟨⟩) ⟨⟩) ⟨⟩)
    (he : Q (acc ++ l.map g) st) : xlc Φ elt tg c env keep Q u v l acc st := by
  have h := lc_mapT hΦ (elt := elt) (tg := tg) (c := c) (env := env) (keep := keep) (Q := Q) (β := Unit) (l := l) (enc := fun x : D => x) (g := g) (acc := acc) (u := u) (v := v) (st := st) hl hk hs he
  rwa [List.map_id'] at h
/-- two clauses: the outer one -/
theorem lc2_inv (hΦ : ∀ f, MonoFn (Φ f)) {elt : SE} {tg : ST} {c : Option SB} {tg1 : ST} {it1 : SI} {c1 : Option SB} {own1 : List Nat} {env : Ev} {keep : Sto → Prop} {Q : List D → Sto → Prop} {items acc : List D} {u v} {st : Sto} (I : Nat → List D → Sto → Prop)
    (h0 : I 0 acc st) (hk : ∀ i acc st, i ≤ items.length → I i acc st → keep st)
    (hs : ∀ i x acc st, items[i]? = some x → I i acc st → xG Φ tg x env st (fun e s => xC Φ c e s (fun k s2 => xite k
      (fun _ => xI Φ it1 e s2 (fun J s3 => xlc Φ elt tg1 c1 (wipeE e own1) J.keep (fun a s4 => xend (I (i + 1)) a s4 ⟨⟩) ⟨⟩ ⟨⟩ J.items acc s3) ⟨⟩) (fun _ => xend (I (i + 1)) acc s2 ⟨⟩) ⟨⟩ ⟨⟩) ⟨⟩) ⟨⟩)
    (he : ∀ acc st, I items.length acc st → Q acc st) : xlc2 Φ elt tg c tg1 it1 c1 own1 env keep Q u v items acc st := by
  have key : ∀ (xs : List D) (i : Nat) (acc : List D) (st : Sto), items.drop i = xs → i + xs.length = items.length → I i acc st →
      lcW2 (fun x s K => wG Φ tg x env s K) (fun e s K => wC Φ c e s K)
    (fun e acc s K => wI Φ it1 e s fun J1 s' => lcW (fun x s K => wG Φ tg1 x (wipeE e own1) s K) (fun e s K => wC Φ c1 e s K) (fun e s K => wE Φ elt e s K) J1.keep K J1.items acc s') keep Q xs acc st := by
    intro xs
    induction xs with
    | nil =>
      intro i acc st hd hl h
      have : i = items.length := by simpa using hl
      subst this
      exact ⟨hk _ _ _ (Nat.le_refl _) h, he _ _ h⟩
    | cons x r ih =>
      intro i acc st hd hl h
      have hx : items[i]? = some x := by
        have := List.getElem?_drop (xs := items) (i := i) (j := 0)
        rw [hd] at this
        simpa using this.symm
      have hd' : items.drop (i + 1) = r := by
        rw [← List.drop_drop, hd]; rfl
      have hl' : i + 1 + r.length = items.length := by
        rw [List.length_cons] at hl; omega
      refine ⟨hk _ _ _ (by omega) h, ?_⟩
      refine wG_mono hΦ tg x env st _ _ (fun e s q => wC_mono hΦ c e s _ _ (fun k s2 q => ?_) q) (hs i x acc st hx h)
      refine ite_mono (wI_mono hΦ it1 e s2 _ _ fun J s3 => ?_) (ih (i + 1) acc s2 hd' hl') (xite_of q)
      exact lcW_mono (fun x s K K' hK => wG_mono hΦ tg1 x _ s K K' hK) (fun e s K K' hK => wC_mono hΦ c1 e s K K' hK) (fun e s K K' hK => wE_mono hΦ elt e s K K' hK) (fun a s4 => ih (i + 1) a s4 hd' hl') _ _ _
  exact key items 0 acc st rfl (by omega) h0
theorem xlc_nil {Φ : Fns} {elt : SE} {tg : ST} {c : Option SB} {env : Ev} {keep : Sto → Prop} {Q : List D → Sto → Prop} {u v} {acc : List D} {st : Sto} : xlc Φ elt tg c env keep Q u v [] acc st = xand (keep st) (fun _ => Q acc st) ⟨⟩ := rfl
theorem xlc_cons {Φ : Fns} {elt : SE} {tg : ST} {c : Option SB} {env : Ev} {keep : Sto → Prop} {Q : List D → Sto → Prop} {u v} {x : D} {r acc : List D} {st : Sto} : xlc Φ elt tg c env keep Q u v (x :: r) acc st =
    xand (keep st) (fun _ => xG Φ tg x env st (fun e s => xC Φ c e s (fun b s2 => xite b (fun _ => xE Φ elt e s2 (fun d s3 => xand (acc.length < sizeLine) (fun _ => xlc Φ elt tg c env keep Q ⟨⟩ ⟨⟩ r (acc ++ [d]) s3) ⟨⟩) ⟨⟩) (fun _ => xlc Φ elt tg c env keep Q ⟨⟩ ⟨⟩ r acc s2) ⟨⟩ ⟨⟩) ⟨⟩) ⟨⟩) ⟨⟩ := rfl
theorem rng3_mk {i j k : Int} {R : Its → Sto → Prop} {u} {st : Sto} (n : Nat) (h : RgC i j k n) (q : R ⟨rngL i n k, fun _ => True⟩ st) : xrng3 i j k R u st := ⟨n, h, q⟩
theorem rng3_down {i j : Int} {R : Its → Sto → Prop} {u} {st : Sto} (h : -(2 ^ 62) ≤ i ∧ i < 2 ^ 62 ∧ -(2 ^ 62) ≤ j ∧ j < 2 ^ 62) (q : R ⟨rngL i (i - j).toNat (-1), fun _ => True⟩ st) : xrng3 i j (-1) R u st :=
  ⟨_, RgC.neg h.1 h.2.1 h.2.2.1 h.2.2.2, q⟩
end
/-! ### the end of a def -/
theorem fin_q {n : Nat} {Q : Kd} {d : D} {st : Sto} (h : Q d st) : MI.Fin n Q d st := .inl h
/-- the newer objects are dropped -/
theorem fin_cut {Q : Kd} {d : D} {st st' : Sto} (hst : ∀ d ∈ st, Cl st.length d) (hp : st'.take st.length = st) (hd : Cl st.length d) (h : Q d st) : MI.Fin st.length Q d st' :=
  .inr ⟨st.length, d, Nat.le_refl _, by rw [← hp]; simp; omega, by rw [hp]; exact hst, .inl ⟨hd, rfl⟩, by rw [hp]; exact h⟩
/-- the same, where older objects have changed -/
theorem fin_cutW {n : Nat} {Q : Kd} {d : D} {st1 st' : Sto} (hn : st1.length = n) (hst : ∀ d ∈ st1, Cl n d) (hp : st'.take n = st1) (hd : Cl n d) (h : Q d st1) : MI.Fin n Q d st' :=
  .inr ⟨n, d, Nat.le_refl _, by rw [← hn, ← hp]; simp; omega, by rw [hp]; exact hst, .inl ⟨hd, rfl⟩, by rw [hp]; exact h⟩
/-- a newer list is handed back, from now on read alone -/
theorem fin_frz {n m : Nat} {Q : Kd} {xs : List D} {st1 st' : Sto} (hn : st1.length = n) (hst : ∀ d ∈ st1, Cl n d) (hp : st'.take n = st1) (hm : n ≤ m) (hl : st'[m]? = some (.lst xs)) (hd : ∀ d ∈ xs, Cl n d) (h : Q (.lst xs) st1) : MI.Fin n Q (.loc m) st' :=
  .inr ⟨n, .lst xs, Nat.le_refl _, by rw [← hn, ← hp]; simp; omega, by rw [hp]; exact hst, .inr ⟨m, rfl, hm, hl, by simp only [Cl]; exact Cls'_iff.mpr hd, fun x e => by cases e⟩, by rw [hp]; exact h⟩
theorem cl_int {n : Nat} {i : Int} : Cl n (.int i) := by simp only [Cl]
theorem cl_bl {n : Nat} {i : Bool} : Cl n (.bl i) := by simp only [Cl]
theorem cl_str {n : Nat} {i : Str} : Cl n (.str i) := by simp only [Cl]
theorem cl_non {n : Nat} : Cl n .non := by simp only [Cl]
theorem cl_tup {n : Nat} {xs : List D} (h : ∀ d ∈ xs, Cl n d) : Cl n (.tup xs) := by simp only [Cl]; exact Cls'_iff.mpr h
theorem cl_lst {n : Nat} {xs : List D} (h : ∀ d ∈ xs, Cl n d) : Cl n (.lst xs) := by simp only [Cl]; exact Cls'_iff.mpr h
theorem cl_ints {n : Nat} {f : List Int} : ∀ d ∈ f.map D.int, Cl n d := fun d h => by
  obtain ⟨i, _, rfl⟩ := List.mem_map.mp h
  exact cl_int
theorem ints_map : ∀ (f : List Int), ints? (f.map .int) = some f
  | [] => rfl
  | i :: r => by
    show (ints? (r.map D.int)).map (i :: ·) = _
    rw [ints_map r]; rfl
theorem bls_map : ∀ (f : List Bool), bls? (f.map .bl) = some f
  | [] => rfl
  | i :: r => by
    show (bls? (r.map D.bl)).map (i :: ·) = _
    rw [bls_map r]; rfl
theorem ints_some : ∀ {xs : List D} {f : List Int}, ints? xs = some f → xs = f.map .int
  | [], f, h => by cases h; rfl
  | d :: r, f, h => by
    cases d with
    | int i =>
      replace h : (ints? r).map (i :: ·) = some f := h
      cases e : ints? r with
      | none => rw [e] at h; cases h
      | some g => rw [e] at h; cases h; rw [ints_some e]; rfl
    | _ => cases h
/-! ### the store, grown -/
theorem getA {st l : Sto} {k : Nat} : (st ++ l)[st.length + k]? = l[k]? := by
  rw [List.getElem?_append_right (Nat.le_add_right _ _), Nat.add_sub_cancel_left]
theorem getA0 {st l : Sto} : (st ++ l)[st.length]? = l[0]? := getA (k := 0)
theorem setA {st l : Sto} {k : Nat} {v : D} : (st ++ l).set (st.length + k) v = st ++ l.set k v := by
  rw [List.set_append_right _ _ (Nat.le_add_right _ _), Nat.add_sub_cancel_left]
theorem setA0 {st l : Sto} {v : D} : (st ++ l).set st.length v = st ++ l.set 0 v := setA (k := 0)
theorem getOld {st l : Sto} {n : Nat} {d : D} (h : st[n]? = some d) : (st ++ l)[n]? = some d := by
  rw [List.getElem?_append_left (List.getElem?_eq_some_iff.mp h).1, h]
theorem setOld {st l : Sto} {n : Nat} {d v : D} (h : st[n]? = some d) : (st ++ l).set n v = st.set n v ++ l := by
  rw [List.set_append_left _ _ (List.getElem?_eq_some_iff.mp h).1]
theorem asSeqOld {st l : Sto} {d : D} {xs : List D} (h : asSeq st d = some xs) : asSeq (st ++ l) d = some xs := by
  cases d with
  | loc n =>
    rw [asSeq_oo] at h ⊢
    cases e : st[n]? with
    | none => rw [e] at h; cases h
    | some x => rw [getOld e]; rw [e] at h; exact h
  | _ => first | exact h | cases h
theorem takeA {st l : Sto} : (st ++ l).take st.length = st := by simp
theorem getSet {st : Sto} {n : Nat} {v : D} : (st.set n v)[n]? = st[n]?.map (fun _ => v) := by
  rw [List.getElem?_set_self']; rfl
theorem takeSet {st : Sto} {n : Nat} {v : D} : (st.set n v).take st.length = st.set n v := by
  rw [show st.length = (st.set n v).length by simp, List.take_length]
/-! ### items -/
theorem atI_lit {α : Type} {xs : List α} {k : Nat} [NeZero k] : atI xs (no_index (OfNat.ofNat k : Int)) = xs[k]? := by
  unfold atI ixN
  have : (OfNat.ofNat k : Int) = (k : Int) := rfl
  rw [this, if_pos (by omega)]
  split
  · simp
  · have : xs.length ≤ k := by omega
    rw [List.getElem?_eq_none this]; rfl
theorem atI_cast {α : Type} {xs : List α} {k : Nat} : atI xs (k : Int) = xs[k]? := by
  unfold atI ixN
  rw [if_pos (by omega)]
  split
  · simp
  · have : xs.length ≤ k := by omega
    rw [List.getElem?_eq_none this]; rfl
theorem atI_zero {α : Type} {xs : List α} : atI xs 0 = xs[0]? := atI_cast (k := 0)
theorem atI_one {α : Type} {xs : List α} : atI xs 1 = xs[1]? := atI_cast (k := 1)
theorem atI_int {α : Type} {xs : List α} {i : Int} (h : 0 ≤ i) : atI xs i = xs[i.toNat]? := by
  have := atI_cast (xs := xs) (k := i.toNat)
  rwa [Int.toNat_of_nonneg h] at this
theorem atI_m1 {α : Type} {xs : List α} : atI xs (-1) = xs[xs.length - 1]? := by
  unfold atI ixN
  rw [if_neg (by omega)]
  cases xs with
  | nil => rfl
  | cons x r =>
    rw [if_pos (by simp; omega)]
    show (x :: r)[_]? = _
    congr 1
    simp
    omega
theorem atI_map {α β : Type} {xs : List α} {f : α → β} {i : Int} : atI (xs.map f) i = (atI xs i).map f := by
  unfold atI
  rw [List.length_map]
  cases ixN xs.length i with
  | none => rfl
  | some j => exact List.getElem?_map
theorem ixN_lit {n k : Nat} [NeZero k] : ixN n (no_index (OfNat.ofNat k : Int)) = if k < n then some k else none := by
  unfold ixN
  have : (OfNat.ofNat k : Int) = (k : Int) := rfl
  rw [this, if_pos (by omega)]
  simp
theorem ixN_cast {n k : Nat} : ixN n (k : Int) = if k < n then some k else none := by
  unfold ixN
  rw [if_pos (by omega)]
  simp
theorem ixN_zero {n : Nat} : ixN n 0 = if 0 < n then some 0 else none := ixN_cast (k := 0)
theorem ixN_one {n : Nat} : ixN n 1 = if 1 < n then some 1 else none := ixN_cast (k := 1)
theorem ixN_int {n : Nat} {i : Int} (h : 0 ≤ i) (h' : i < n) : ixN n i = some i.toNat := by
  unfold ixN
  rw [if_pos h, if_pos h']
/-! ### sizes -/
theorem sizeLine_ge : 16000000 ≤ sizeLine := by decide
theorem cmulW {i j : Int} (h1 : i.natAbs < 2 ^ 200) (h2 : j.natAbs < 2 ^ 200) : CMulW i j := by
  have : ∀ n : Nat, n < 2 ^ 200 → n.log2 ≤ 200 := fun n h => by
    by_cases h0 : n = 0
    · subst h0; decide
    · exact Nat.le_of_lt ((Nat.log2_lt h0).mpr h)
  have a := this _ h1
  have b := this _ h2
  unfold CMulW
  omega
theorem cdivW {i j : Int} (h : 0 < j) (h1 : j.natAbs < 2 ^ 200) : CDivW i j := by
  refine ⟨h, ?_⟩
  have : j.natAbs ≠ 0 := by omega
  have := (Nat.log2_lt this).mpr h1
  omega
theorem cmul64 {i j : Int} (h1 : i.natAbs < 2 ^ 64) (h2 : j.natAbs < 2 ^ 64) : CMulW i j := cmulW (by omega) (by omega)
theorem natAdd {i k : Nat} : (i : Int) + (k : Int) = ((i + k : Nat) : Int) := (Int.natCast_add i k).symm
/-! ### reading tables -/
def GlOk (mg : Str → Option Value) (fnP : Str → Nat → Nat → Prop) (cn : Str → D → Prop) : List (Str × GK) → Prop
  | [] => True
  | (x, .fn i n) :: r => fnP x i n ∧ GlOk mg fnP cn r
  | (x, .con d) :: r => cn x d ∧ GlOk mg fnP cn r
theorem GlOk.fn {mg : Str → Option Value} {fnP : Str → Nat → Nat → Prop} {cn : Str → D → Prop} : ∀ {l : List (Str × GK)}, GlOk mg fnP cn l → ∀ x i n, l.lookup x = some (.fn i n) → fnP x i n
  | [], _, _, _, _, h => by cases h
  | (y, g) :: r, H, x, i, n, h => by
    rw [List.lookup_cons] at h
    cases e : x == y with
    | true =>
      rw [e] at h
      have := eq_of_beq e
      subst this
      cases h
      exact H.1
    | false =>
      rw [e] at h
      cases g with
      | fn _ _ => exact GlOk.fn H.2 x i n h
      | con _ => exact GlOk.fn H.2 x i n h
theorem GlOk.con {mg : Str → Option Value} {fnP : Str → Nat → Nat → Prop} {cn : Str → D → Prop} : ∀ {l : List (Str × GK)}, GlOk mg fnP cn l → ∀ x d, l.lookup x = some (.con d) → cn x d
  | [], _, _, _, h => by cases h
  | (y, g) :: r, H, x, d, h => by
    rw [List.lookup_cons] at h
    cases e : x == y with
    | true =>
      rw [e] at h
      have := eq_of_beq e
      subst this
      cases h
      exact H.1
    | false =>
      rw [e] at h
      cases g with
      | fn _ _ => exact GlOk.con H.2 x d h
      | con _ => exact GlOk.con H.2 x d h
/-- a def keeps its promise, at every room from k on -/
def FOk (P : Program) (w : World) (K : PySem.W.Frag) (mg : Str → Option Value) (base : Heap) (C : Nat → Addr) (k0 : Nat) (x : Str) (n : Nat) (φ : Fn) : Prop :=
  ∀ k, k0 ≤ k → ∃ f fd ps, mg x = some (.ref f) ∧ PySem.W.keepIn K (.ref f) = true ∧ Binds K fd ps [] ∧ FnOk P w K mg base CX0 k f fd ps (spD K C n φ)
/-- a def as it stands -/
structure Df (K : PySem.W.Frag) (mg : Str → Option Value) (x : Str) (st : Stmt) (ps : List Str) : Prop where
  ex : ∃ f fd, mg x = some (.ref f) ∧ Fun K x x st f fd ∧ Binds K fd ps []
theorem fok {P : Program} {w : World} {K : PySem.W.Frag} {mg : Str → Option Value} {base : Heap} {C : Nat → Addr} {x : Str} {st : Stmt} {N ps : List Str} {n k0 : Nat} {Φ : Fns} {φ : Fn} {body : List SS} {Γ : Gam} {fuel : Nat}
    (D0 : Df K mg x st ps) (S : FnScope N ps (defScope st)) (hΓ : Γ.N = N) (hsc : Γ.sc = defScope st) (hfn : Γ.fn = fun _ => true) (hn : ps.length = n) (hc : cSs fuel Γ (defBody st) = some body)
    (mono : ∀ f, MonoFn (Φ f)) (hφ : MonoFn φ)
    (hgl : GlOk mg (fun x i n => FOk P w K mg base C k0 x n (Φ i)) (fun x d => ∃ u v, mg x = some u ∧ RelV v u ∧ ∀ H ι, Rep K C H ι d v) Γ.gl)
    (gbl : ∀ x ∈ Γ.bl, mg x = none)
    (hb : ∀ ds st Q, ds.length = n → (∀ d ∈ st, Cl st.length d) → (∀ d ∈ ds, Cl st.length d) → φ ds st Q → xBody Φ body st.length Q ⟨⟩ (ds.map some ++ List.replicate (N.length - n) none) st) :
    FOk P w K mg base C (k0 + 1) x n φ := fun k hk => by
  obtain ⟨f, fd, h1, h2, h3⟩ := D0.ex
  obtain ⟨k, rfl⟩ : ∃ j, k = j + 1 := ⟨k - 1, by omega⟩
  exact ⟨f, fd, ps, h1, h2.kp, h3, fn_ok h2 S hΓ hsc hfn hn hc hφ mono (fun x i n h => hgl.fn x i n h k (by omega)) (hgl.con) gbl hb⟩
theorem fokF {P : Program} {w : World} {K : PySem.W.Frag} {mg : Str → Option Value} {base : Heap} {C : Nat → Addr} {x : Str} {st : Stmt} {f : Addr} {fd : FuncData} {N ps : List Str} {n k0 : Nat} {Φ : Fns} {φ : Fn} {body : List SS} {Γ : Gam} {fuel : Nat}
    (F : Fun K x x st f fd) (S : FnScope N ps (defScope st)) (hΓ : Γ.N = N) (hsc : Γ.sc = defScope st) (hfn : Γ.fn = fun _ => true) (hn : ps.length = n) (hc : cSs fuel Γ (defBody st) = some body)
    (mono : ∀ f, MonoFn (Φ f)) (hφ : MonoFn φ)
    (hgl : GlOk mg (fun x i n => FOk P w K mg base C k0 x n (Φ i)) (fun x d => ∃ u v, mg x = some u ∧ RelV v u ∧ ∀ H ι, Rep K C H ι d v) Γ.gl)
    (gbl : ∀ x ∈ Γ.bl, mg x = none)
    (hb : ∀ ds st Q, ds.length = n → (∀ d ∈ st, Cl st.length d) → (∀ d ∈ ds, Cl st.length d) → φ ds st Q → xBody Φ body st.length Q ⟨⟩ (ds.map some ++ List.replicate (N.length - n) none) st) :
    FnOk P w K mg base CX0 (k0 + 1) f fd ps (spD K C n φ) :=
  fn_ok F S hΓ hsc hfn hn hc hφ mono (fun x i n h => hgl.fn x i n h k0 (Nat.le_refl _)) (hgl.con) gbl hb
/-! ### the law -/
def f_law : Fn := fun ds st Q => ∃ ns : List Int, ds = [.ro (ns.map .int)] ∧ st = [] ∧ ns.length ≤ 63 ∧ ∀ st', Q (.bl true) st'
theorem m_law : MonoFn f_law := fun vs st Q Q' h ⟨ns, h1, h2, h3, q⟩ => ⟨ns, h1, h2, h3, fun s => h _ _ (q s)⟩
theorem law_start {K : PySem.W.Frag} {C : Nat → Addr} {H : Hp} {a : Addr} {ns : List Int} {E : XK} (hl : ns.length ≤ 63) (hS : SqL K H a (ns.map V.int)) : spD K C 1 f_law [.ref a] H (fun v _ => v = .bl true) E := by
  refine ⟨⟨[], []⟩, [], [.ro (ns.map .int)], ⟨rfl, List.nodup_nil, fun _ h => (by cases h), fun n d a h => (by simp at h)⟩, Reps.one ?_, rfl, ns, rfl, rfl, hl, fun st' v H' ι' _ _ r => ?_⟩
  · simp only [Rep]
    refine ⟨a, ns.map V.int, rfl, ?_, Reps.ints.mpr rfl⟩
    rcases hS with h | h
    · exact .inl ⟨h, by simp [Io.out]⟩
    · exact .inr h
  · simpa only [Rep] using r
theorem FOk.up {P : Program} {w : World} {K : PySem.W.Frag} {mg : Str → Option Value} {base : Heap} {C : Nat → Addr} {x : Str} {n k0 k1 : Nat} {φ : Fn} (h : FOk P w K mg base C k0 x n φ) (hk : k0 ≤ k1) : FOk P w K mg base C k1 x n φ :=
  fun k q => h k (Nat.le_trans hk q)
theorem FOk.weak {P : Program} {w : World} {K : PySem.W.Frag} {mg : Str → Option Value} {base : Heap} {C : Nat → Addr} {x : Str} {n k0 : Nat} {φ ψ : Fn} (h : FOk P w K mg base C k0 x n φ) (hw : ∀ ds st Q, ψ ds st Q → φ ds st Q) : FOk P w K mg base C k0 x n ψ := by
  intro k q
  obtain ⟨f, fd, ps, h1, h2, h3, h4⟩ := h k q
  exact ⟨f, fd, ps, h1, h2, h3, h4.imp (fun vs H Q E ⟨ι, st, ds, a, b, c, d⟩ => ⟨ι, st, ds, a, b, c, hw _ _ _ d⟩)⟩
/-! ### loops that change few slots -/
def putE (e : Ev) : List Nat → List (Option D) → Ev
  | i :: is, v :: vs => putE (e.set i v) is vs
  | _, _ => e
theorem putE_cons {e : Ev} {i : Nat} {is : List Nat} {v : Option D} {vs : List (Option D)} : putE e (i :: is) (v :: vs) = putE (e.set i v) is vs := rfl
theorem putE_nil {e : Ev} {vs : List (Option D)} : putE e [] vs = e := by cases vs <;> rfl
theorem set_self {e : Ev} {i : Nat} : e.set i ((e[i]?).getD none) = e := by
  apply List.ext_getElem?
  intro j
  rw [List.getElem?_set]
  by_cases h : i = j
  · subst h
    rw [if_pos rfl]
    by_cases hl : i < e.length
    · rw [if_pos hl, List.getElem?_eq_getElem hl]; rfl
    · rw [if_neg hl, List.getElem?_eq_none (by omega)]
  · rw [if_neg h]
theorem putE_self {e : Ev} : ∀ {is : List Nat}, putE e is (is.map fun i => (e[i]?).getD none) = e
  | [] => rfl
  | i :: is => by
    rw [List.map_cons, putE_cons, set_self]
    exact putE_self
/-- what holds behind, of the slots named -/
def PutI (env : Ev) (ixs : List Nat) (I : List (Option D) → Sto → Prop) : Ev → Sto → Prop := fun e s => ∃ vs, e = putE env ixs vs ∧ I vs s
theorem for_ix {Φ : Fns} (hΦ : ∀ f, MonoFn (Φ f)) {t : ST} {b : List SS} {keep : Sto → Prop} {items : List D} {nx : Ev → Sto → Prop} {rt : Kd} {u v w} {env : Ev} {st : Sto} (ixs : List Nat) (I : Nat → List (Option D) → Sto → Prop)
    (h0 : I 0 (ixs.map fun i => (env[i]?).getD none) st) (hk : ∀ i vs s, i ≤ items.length → I i vs s → keep s)
    (hs : ∀ i x vs s, items[i]? = some x → I i vs s → xG Φ t x (putE env ixs vs) s (fun env' st' => xSs Φ b (fun e s => xend (PutI env ixs (I (i + 1))) e s ⟨⟩) rt nx (fun e s => xend (PutI env ixs (I (i + 1))) e s ⟨⟩) ⟨⟩ ⟨⟩ ⟨⟩ ⟨⟩ env' st') ⟨⟩)
    (he : ∀ vs s, I items.length vs s → nx (putE env ixs vs) s) : xfor Φ t b keep items nx rt u v w env st :=
  for_inv hΦ (fun i => PutI env ixs (I i)) ⟨_, putE_self.symm, h0⟩ (fun i e s hi ⟨vs, _, h⟩ => hk i vs s hi h) (fun i x e s hx ⟨vs, e1, h⟩ => by subst e1; exact hs i x vs s hx h) (fun e s ⟨vs, e1, h⟩ => by subst e1; exact he vs s h)
theorem wh_ix {Φ : Fns} (hΦ : ∀ f, MonoFn (Φ f)) {c : SB} {b : List SS} {nx : Ev → Sto → Prop} {rt : Kd} {u v} {env : Ev} {st : Sto} (ixs : List Nat) (I : Nat → List (Option D) → Sto → Prop) (n : Nat) (h0 : I n (ixs.map fun i => (env[i]?).getD none) st)
    (hs : ∀ i vs s, I i vs s → xT Φ c (putE env ixs vs) s (fun k st' => xite k (fun _ => xSs Φ b (fun e s => xend (PutI env ixs fun vs s => ∃ j, j < i ∧ I j vs s) e s ⟨⟩) rt nx (fun e s => xend (PutI env ixs fun vs s => ∃ j, j < i ∧ I j vs s) e s ⟨⟩) ⟨⟩ ⟨⟩ ⟨⟩ ⟨⟩ (putE env ixs vs) st') (fun _ => nx (putE env ixs vs) st') ⟨⟩ ⟨⟩) ⟨⟩) : xwh Φ c b nx rt u v env st :=
  wh_inv hΦ (fun i => PutI env ixs (I i)) n ⟨_, putE_self.symm, h0⟩ fun i e s ⟨vs, e1, h⟩ => by
    subst e1
    refine wT_mono hΦ c _ s _ _ (fun k s2 q => ?_) (hs i vs s h)
    have hle : EndsD.Le ⟨PutI env ixs fun vs s => ∃ j, j < i ∧ I j vs s, rt, nx, PutI env ixs fun vs s => ∃ j, j < i ∧ I j vs s⟩ ⟨fun e s => ∃ j, j < i ∧ PutI env ixs (I j) e s, rt, nx, fun e s => ∃ j, j < i ∧ PutI env ixs (I j) e s⟩ :=
      ⟨fun e s ⟨vs, e1, j, hj, h⟩ => ⟨j, hj, vs, e1, h⟩, fun _ _ q => q, fun _ _ q => q, fun e s ⟨vs, e1, j, hj, h⟩ => ⟨j, hj, vs, e1, h⟩⟩
    exact ite_mono (wSs_mono hΦ b _ _ _ s2 hle) id (xite_of q)
theorem ite_ix {Φ : Fns} (hΦ : ∀ f, MonoFn (Φ f)) {c : Bool} {a b : List SS} {K : Ev → Sto → Prop} {rt : Kd} {bk ct : Ev → Sto → Prop} {u1 u2 u3 u4 v1 v2 v3 v4} {env : Ev} {st : Sto} (ixs : List Nat) (I : List (Option D) → Sto → Prop)
    (h1 : c = true → xSs Φ a (fun e s => xend (PutI env ixs I) e s ⟨⟩) rt bk ct ⟨⟩ ⟨⟩ ⟨⟩ ⟨⟩ env st) (h2 : c = false → xSs Φ b (fun e s => xend (PutI env ixs I) e s ⟨⟩) rt bk ct ⟨⟩ ⟨⟩ ⟨⟩ ⟨⟩ env st) (h : ∀ vs st, I vs st → K (putE env ixs vs) st) :
    xite c (fun _ => xSs Φ a K rt bk ct u1 u2 u3 u4 env st) (fun _ => xSs Φ b K rt bk ct v1 v2 v3 v4 env st) ⟨⟩ ⟨⟩ :=
  ite_join hΦ (PutI env ixs I) h1 h2 fun e s ⟨vs, e1, q⟩ => by subst e1; exact h vs s q
/-- an if whose ways meet again: slots ixs change -/
theorem ite_S {Φ : Fns} (hΦ : ∀ f, MonoFn (Φ f)) {c : SB} {a b : List SS} {K : Ev → Sto → Prop} {rt : Kd} {bk ct : Ev → Sto → Prop} {u1 u2 u3 u4} {env : Ev} {st : Sto} (ixs : List Nat) (I : List (Option D) → Sto → Prop)
    (h1 : xT Φ c env st (fun k s => xite k (fun _ => xSs Φ a (fun e s => xend (PutI env ixs I) e s ⟨⟩) rt bk ct ⟨⟩ ⟨⟩ ⟨⟩ ⟨⟩ env s) (fun _ => xSs Φ b (fun e s => xend (PutI env ixs I) e s ⟨⟩) rt bk ct ⟨⟩ ⟨⟩ ⟨⟩ ⟨⟩ env s) ⟨⟩ ⟨⟩) ⟨⟩)
    (h : ∀ vs st, I vs st → K (putE env ixs vs) st) : xS Φ (.ite c a b) K rt bk ct u1 u2 u3 u4 env st := by
  refine wT_mono hΦ c env st _ _ (fun k s q => ?_) h1
  have hle : EndsD.Le ⟨PutI env ixs I, rt, bk, ct⟩ ⟨K, rt, bk, ct⟩ := ⟨fun e s ⟨vs, e1, q⟩ => by subst e1; exact h vs s q, fun _ _ q => q, fun _ _ q => q, fun _ _ q => q⟩
  exact ite_mono (wSs_mono hΦ a _ _ env s hle) (wSs_mono hΦ b _ _ env s hle) (xite_of q)
end MI

set_option maxRecDepth 100000
/-! MI, part 17: == of plain data. -/
namespace MI
open PySem PySem.Spec PyProof.Rows L2

mutual
/-- plain data: no objects that change -/
def plD : D → Bool
  | .non => true
  | .bl _ => true
  | .int _ => true
  | .str x => PyData.strOk x
  | .tup xs => plDs xs
  | .lst xs => plDs xs
  | _ => false
def plDs : List D → Bool
  | [] => true
  | x :: r => plD x && plDs r
end
mutual
def dpD : D → Nat
  | .tup xs => dpDs xs + 1
  | .lst xs => dpDs xs + 1
  | _ => 0
def dpDs : List D → Nat
  | [] => 0
  | x :: r => max (dpD x) (dpDs r)
end
mutual
def eqD : D → D → Bool
  | .non, .non => true
  | .bl a, .bl b => a == b
  | .bl a, .int j => (if a then 1 else 0) == j
  | .int i, .bl b => i == (if b then 1 else 0)
  | .int i, .int j => i == j
  | .str x, .str y => x == y
  | .tup xs, .tup ys => eqDs xs ys
  | .lst xs, .lst ys => eqDs xs ys
  | _, _ => false
def eqDs : List D → List D → Bool
  | [], [] => true
  | x :: xs, y :: ys => eqD x y && eqDs xs ys
  | _, _ => false
end
mutual
theorem plD_py {st : Sto} : ∀ {d : D}, plD d = true → ∃ p, toPy st d = some p ∧ p.canLay0 = true ∧ p.depth = dpD d
  | .non, _ => ⟨.none, rfl, rfl, rfl⟩
  | .bl b, _ => ⟨.bool b, rfl, rfl, rfl⟩
  | .int i, _ => ⟨.int i, rfl, rfl, rfl⟩
  | .str x, h => ⟨.str x, rfl, by simpa only [plD, PyData.canLay0] using h, rfl⟩
  | .tup xs, h => by
    simp only [plD] at h
    obtain ⟨ps, h1, h2, h3⟩ := plDs_py (st := st) h
    exact ⟨.tuple ps, by simp only [toPy, h1, Option.map_some], by simp only [PyData.canLay0, h2], by simp only [PyData.depth, dpD, h3]⟩
  | .lst xs, h => by
    simp only [plD] at h
    obtain ⟨ps, h1, h2, h3⟩ := plDs_py (st := st) h
    exact ⟨.list ps, by simp only [toPy, h1, Option.map_some], by simp only [PyData.canLay0, h2], by simp only [PyData.depth, dpD, h3]⟩
  | .ro _, h => by simp only [plD] at h; cases h
  | .dK _, h => by simp only [plD] at h; cases h
  | .dT _, h => by simp only [plD] at h; cases h
  | .ins _ _, h => by simp only [plD] at h; cases h
  | .loc _, h => by simp only [plD] at h; cases h
  | .lck _, h => by simp only [plD] at h; cases h
  | .rd _, h => by simp only [plD] at h; cases h
theorem plDs_py {st : Sto} : ∀ {ds : List D}, plDs ds = true → ∃ ps, toPys st ds = some ps ∧ PyData.canLayAll0 ps = true ∧ PyData.depthAll ps = dpDs ds
  | [], _ => ⟨[], rfl, rfl, rfl⟩
  | d :: r, h => by
    simp only [plDs, Bool.and_eq_true] at h
    obtain ⟨p, h1, h2, h3⟩ := plD_py (st := st) h.1
    obtain ⟨ps, g1, g2, g3⟩ := plDs_py (st := st) h.2
    exact ⟨p :: ps, by simp only [toPys, h1, g1], by simp only [PyData.canLayAll0, h2, g2, Bool.and_self], by simp only [PyData.depthAll, dpDs, h3, g3]⟩
end
mutual
theorem eqD_py {st st' : Sto} : ∀ {x y : D} {p q : PyData}, plD x = true → plD y = true → toPy st x = some p → toPy st' y = some q → PyData.eqv p q = eqD x y
  | .tup xs, y, p, q, hx, hy, ep, eq => by
    obtain ⟨ps, h1, _⟩ := plDs_py (st := st) (show plDs xs = true by simpa only [plD] using hx)
    simp only [toPy, h1, Option.map_some] at ep
    cases ep
    cases y with
    | tup ys =>
      obtain ⟨qs, g1, _⟩ := plDs_py (st := st') (show plDs ys = true by simpa only [plD] using hy)
      simp only [toPy, g1, Option.map_some] at eq
      cases eq
      simp only [PyData.eqv, eqD]
      exact eqDs_py (by simpa only [plD] using hx) (by simpa only [plD] using hy) h1 g1
    | lst ys =>
      obtain ⟨qs, g1, _⟩ := plDs_py (st := st') (show plDs ys = true by simpa only [plD] using hy)
      simp only [toPy, g1, Option.map_some] at eq
      cases eq
      simp only [PyData.eqv, eqD]
    | non => cases eq; simp only [PyData.eqv, eqD]
    | bl _ => cases eq; simp only [PyData.eqv, eqD]
    | int _ => cases eq; simp only [PyData.eqv, eqD]
    | str _ => cases eq; simp only [PyData.eqv, eqD]
    | _ => simp only [plD] at hy; cases hy
  | .lst xs, y, p, q, hx, hy, ep, eq => by
    obtain ⟨ps, h1, _⟩ := plDs_py (st := st) (show plDs xs = true by simpa only [plD] using hx)
    simp only [toPy, h1, Option.map_some] at ep
    cases ep
    cases y with
    | lst ys =>
      obtain ⟨qs, g1, _⟩ := plDs_py (st := st') (show plDs ys = true by simpa only [plD] using hy)
      simp only [toPy, g1, Option.map_some] at eq
      cases eq
      simp only [PyData.eqv, eqD]
      exact eqDs_py (by simpa only [plD] using hx) (by simpa only [plD] using hy) h1 g1
    | tup ys =>
      obtain ⟨qs, g1, _⟩ := plDs_py (st := st') (show plDs ys = true by simpa only [plD] using hy)
      simp only [toPy, g1, Option.map_some] at eq
      cases eq
      simp only [PyData.eqv, eqD]
    | non => cases eq; simp only [PyData.eqv, eqD]
    | bl _ => cases eq; simp only [PyData.eqv, eqD]
    | int _ => cases eq; simp only [PyData.eqv, eqD]
    | str _ => cases eq; simp only [PyData.eqv, eqD]
    | _ => simp only [plD] at hy; cases hy
  | .non, y, p, q, hx, hy, ep, eq => by
    obtain ⟨q', e, _⟩ := plD_py (st := st') hy
    cases ep
    cases y <;> first | (simp only [plD] at hy; cases hy; done) | (cases eq; simp only [PyData.eqv, eqD]; done) | (rw [eq] at e; cases e; simp only [toPy] at eq; obtain ⟨l, _, rfl⟩ := Option.map_eq_some_iff.mp eq; simp only [PyData.eqv, eqD])
  | .bl _, y, p, q, hx, hy, ep, eq => by
    obtain ⟨q', e, _⟩ := plD_py (st := st') hy
    cases ep
    cases y <;> first | (simp only [plD] at hy; cases hy; done) | (cases eq; simp only [PyData.eqv, eqD]; done) | (rw [eq] at e; cases e; simp only [toPy] at eq; obtain ⟨l, _, rfl⟩ := Option.map_eq_some_iff.mp eq; simp only [PyData.eqv, eqD])
  | .int _, y, p, q, hx, hy, ep, eq => by
    obtain ⟨q', e, _⟩ := plD_py (st := st') hy
    cases ep
    cases y <;> first | (simp only [plD] at hy; cases hy; done) | (cases eq; simp only [PyData.eqv, eqD]; done) | (rw [eq] at e; cases e; simp only [toPy] at eq; obtain ⟨l, _, rfl⟩ := Option.map_eq_some_iff.mp eq; simp only [PyData.eqv, eqD])
  | .str _, y, p, q, hx, hy, ep, eq => by
    obtain ⟨q', e, _⟩ := plD_py (st := st') hy
    cases ep
    cases y <;> first | (simp only [plD] at hy; cases hy; done) | (cases eq; simp only [PyData.eqv, eqD]; done) | (rw [eq] at e; cases e; simp only [toPy] at eq; obtain ⟨l, _, rfl⟩ := Option.map_eq_some_iff.mp eq; simp only [PyData.eqv, eqD])
  | .ro _, _, _, _, h, _, _, _ => by simp only [plD] at h; cases h
  | .dK _, _, _, _, h, _, _, _ => by simp only [plD] at h; cases h
  | .dT _, _, _, _, h, _, _, _ => by simp only [plD] at h; cases h
  | .ins _ _, _, _, _, h, _, _, _ => by simp only [plD] at h; cases h
  | .loc _, _, _, _, h, _, _, _ => by simp only [plD] at h; cases h
  | .lck _, _, _, _, h, _, _, _ => by simp only [plD] at h; cases h
  | .rd _, _, _, _, h, _, _, _ => by simp only [plD] at h; cases h
theorem eqDs_py {st st' : Sto} : ∀ {xs ys : List D} {ps qs : List PyData}, plDs xs = true → plDs ys = true → toPys st xs = some ps → toPys st' ys = some qs → PyData.eqvAll ps qs = eqDs xs ys
  | [], ys, ps, qs, hx, hy, ep, eq => by
    cases ep
    cases ys with
    | nil => cases eq; simp only [PyData.eqvAll, eqDs]
    | cons y r =>
      simp only [plDs, Bool.and_eq_true] at hy
      obtain ⟨q', g1, _⟩ := plD_py (st := st') hy.1
      obtain ⟨qs', g2, _⟩ := plDs_py (st := st') hy.2
      simp only [toPys, g1, g2] at eq
      cases eq
      simp only [PyData.eqvAll, eqDs]
  | x :: xs, ys, ps, qs, hx, hy, ep, eq => by
    simp only [plDs, Bool.and_eq_true] at hx
    obtain ⟨p', h1, _⟩ := plD_py (st := st) hx.1
    obtain ⟨ps', h2, _⟩ := plDs_py (st := st) hx.2
    simp only [toPys, h1, h2] at ep
    cases ep
    cases ys with
    | nil => cases eq; simp only [PyData.eqvAll, eqDs]
    | cons y r =>
      simp only [plDs, Bool.and_eq_true] at hy
      obtain ⟨q', g1, _⟩ := plD_py (st := st') hy.1
      obtain ⟨qs', g2, _⟩ := plDs_py (st := st') hy.2
      simp only [toPys, g1, g2] at eq
      cases eq
      simp only [PyData.eqvAll, eqDs]
      rw [eqD_py hx.1 hy.1 h1 g1, eqDs_py hx.2 hy.2 h2 g2]
end
section
variable {st : Sto} {Q : Bool → Sto → Prop} {u : Tg Q} {n : Bool} {x y : D}
theorem toPyL_pl (h : plD x = true) : toPyL st x = toPy st x := by
  cases x <;> first | rfl | (simp only [plD] at h; cases h)
theorem okEq_pl {p q : PyData} (h1 : p.canLay0 = true) (h2 : q.canLay0 = true) (h3 : min p.depth q.depth ≤ 64) : okEq p q = true := by
  unfold okEq
  rw [h1, h2, decide_eq_true h3]; rfl
theorem xdat_pl (hx : plD x = true) (hy : plD y = true) (hd : min (dpD x) (dpD y) ≤ 64) : xdat n x y st Q u = Q (n ^^ eqD x y) st := by
  obtain ⟨p, p1, p2, p3⟩ := plD_py (st := st) hx
  obtain ⟨q, q1, q2, q3⟩ := plD_py (st := st) hy
  unfold xdat
  rw [toPyL_pl hx, toPyL_pl hy, p1, q1, ← eqD_py hx hy p1 q1]
  exact propext ⟨fun h => h.2, fun h => ⟨okEq_pl p2 q2 (by rw [p3, q3]; exact hd), h⟩⟩
theorem xcmp_eqP (hx : plD x = true) (hy : plD y = true) (hd : min (dpD x) (dpD y) ≤ 64) : xcmp .eq x y st Q u = Q (eqD x y) st := by
  have h := xdat_pl (n := false) (st := st) (Q := Q) (u := ⟨⟩) hx hy hd
  rw [Bool.false_xor] at h
  rw [← h]
  unfold xcmp xdat
  simp only [Bool.false_xor]
  cases x <;> cases y <;> first
    | rfl
    | (simp only [plD] at hx; cases hx; done)
    | (simp only [plD] at hy; cases hy; done)
    | (rename_i a b; exact propext ⟨fun h => ⟨okEq_pl rfl rfl (Nat.zero_le _), h⟩, fun h => h.2⟩)
    | (rename_i a b; exact propext ⟨fun h => ⟨okEq_pl (by simpa only [plD, PyData.canLay0] using hx) (by simpa only [plD, PyData.canLay0] using hy) (Nat.zero_le _), h⟩, fun h => h.2⟩)
theorem xcmp_neP (hx : plD x = true) (hy : plD y = true) (hd : min (dpD x) (dpD y) ≤ 64) : xcmp .ne x y st Q u = Q (!eqD x y) st := by
  have h := xdat_pl (n := true) (st := st) (Q := Q) (u := ⟨⟩) hx hy hd
  rw [Bool.true_xor] at h
  rw [← h]
  unfold xcmp xdat
  simp only [Bool.true_xor]
  cases x <;> cases y <;> first
    | rfl
    | (simp only [plD] at hx; cases hx; done)
    | (simp only [plD] at hy; cases hy; done)
    | (rename_i a b; exact propext ⟨fun h => ⟨okEq_pl rfl rfl (Nat.zero_le _), h⟩, fun h => h.2⟩)
    | (rename_i a b; exact propext ⟨fun h => ⟨okEq_pl (by simpa only [plD, PyData.canLay0] using hx) (by simpa only [plD, PyData.canLay0] using hy) (Nat.zero_le _), h⟩, fun h => h.2⟩)
end
theorem xcmp_eqB {a b : Bool} {st : Sto} {Q : Bool → Sto → Prop} {u} : xcmp .eq (.bl a) (.bl b) st Q u = Q (a == b) st := by
  rw [xcmp_eqP rfl rfl (by simp [dpD])]; simp only [eqD]
theorem xcmp_neB {a b : Bool} {st : Sto} {Q : Bool → Sto → Prop} {u} : xcmp .ne (.bl a) (.bl b) st Q u = Q (!(a == b)) st := by
  rw [xcmp_neP rfl rfl (by simp [dpD])]; simp only [eqD]
theorem plDs_iff : ∀ {xs : List D}, plDs xs = true ↔ ∀ x ∈ xs, plD x = true
  | [] => by simp [plDs]
  | x :: r => by simp [plDs, plDs_iff (xs := r)]
theorem dpDs_le {n : Nat} : ∀ {xs : List D}, dpDs xs ≤ n ↔ ∀ x ∈ xs, dpD x ≤ n
  | [] => by simp [dpDs]
  | x :: r => by simp [dpDs, dpDs_le (xs := r), Nat.max_le]
theorem plDs_ints (f : List Int) : plDs (f.map .int) = true := plDs_iff.mpr fun x hx => by
  obtain ⟨i, _, rfl⟩ := List.mem_map.mp hx
  rfl
theorem dpDs_ints (f : List Int) : dpDs (f.map .int) = 0 := Nat.le_zero.mp (dpDs_le.mpr fun x hx => by
  obtain ⟨i, _, rfl⟩ := List.mem_map.mp hx
  exact Nat.le_refl _)
theorem eqDs_ints : ∀ (f g : List Int), eqDs (f.map .int) (g.map .int) = (f == g)
  | [], [] => rfl
  | [], _ :: _ => rfl
  | _ :: _, [] => rfl
  | a :: f, b :: g => by
    show (a == b && eqDs (f.map .int) (g.map .int)) = _
    rw [eqDs_ints f g]; rfl
mutual
theorem eqD_refl : ∀ {x : D}, plD x = true → eqD x x = true
  | .non, _ => rfl
  | .bl _, _ => by simp [eqD]
  | .int _, _ => by simp [eqD]
  | .str _, _ => by simp [eqD]
  | .tup xs, h => by simp only [eqD]; exact eqDs_refl (by simpa only [plD] using h)
  | .lst xs, h => by simp only [eqD]; exact eqDs_refl (by simpa only [plD] using h)
  | .ro _, h => by simp only [plD] at h; cases h
  | .dK _, h => by simp only [plD] at h; cases h
  | .dT _, h => by simp only [plD] at h; cases h
  | .ins _ _, h => by simp only [plD] at h; cases h
  | .loc _, h => by simp only [plD] at h; cases h
  | .lck _, h => by simp only [plD] at h; cases h
  | .rd _, h => by simp only [plD] at h; cases h
theorem eqDs_refl : ∀ {xs : List D}, plDs xs = true → eqDs xs xs = true
  | [], _ => rfl
  | x :: r, h => by
    simp only [plDs, Bool.and_eq_true] at h
    simp only [eqDs, eqD_refl h.1, eqDs_refl h.2, Bool.and_self]
end
/-! ### constants of the module -/
def ConOk (K : PySem.W.Frag) (mg : Str → Option Value) (x : Str) (d : D) : Prop := ∃ u v, mg x = some u ∧ RelV v u ∧ ∀ C H ι, Rep K C H ι d v
theorem ConOk.at {K : PySem.W.Frag} {mg : Str → Option Value} {x : Str} {d : D} {C : Nat → Addr} (h : ConOk K mg x d) : ∃ u v, mg x = some u ∧ RelV v u ∧ ∀ H ι, Rep K C H ι d v :=
  let ⟨u, v, h1, h2, h3⟩ := h; ⟨u, v, h1, h2, h3 C⟩
section
variable {K : PySem.W.Frag} {mg : Str → Option Value} {x : Str}
theorem con_int {i : Int} {t : Tok} (h : mg x = some (.int i t)) : ConOk K mg x (.int i) := ⟨_, .int i, h, ⟨_, rfl⟩, fun _ _ _ => rep_int⟩
theorem con_str {i : Str} {t : Tok} (h : mg x = some (.str i t)) : ConOk K mg x (.str i) := ⟨_, .str i, h, ⟨_, rfl⟩, fun _ _ _ => rep_str⟩
/-- a written dict from ints to ints, looked at -/
def kdOk (es : Array DictEntry) (kvs : List (Int × Int)) : Bool :=
  (es.toList.all fun e => match e.key with
    | .int x _ => e.hash == hashInt x
    | _ => false) && kvs.all fun kv => match findBy Value.isInt es kv.1 with
    | some (.int v _) => v == kv.2
    | _ => false
theorem lookup_mem {i v : Int} : ∀ {kvs : List (Int × Int)}, kvs.lookup i = some v → (i, v) ∈ kvs
  | [], h => by cases h
  | (a, b) :: r, h => by
    rw [List.lookup_cons] at h
    cases e : i == a with
    | true =>
      rw [e] at h
      have := eq_of_beq e
      cases h
      subst this
      exact List.mem_cons_self
    | false =>
      rw [e] at h
      exact List.mem_cons_of_mem _ (lookup_mem h)
theorem con_dict {a : Addr} {es : Array DictEntry} {n : Nat} {kvs : List (Int × Int)} (h : mg x = some (.ref a)) (hl : K.lookup a = some ⟨.type "dict", none, .dict es n, #[]⟩) (hk : kdOk es kvs = true) : ConOk K mg x (.rd kvs) := by
  unfold kdOk at hk
  rw [Bool.and_eq_true, List.all_eq_true, List.all_eq_true] at hk
  refine ⟨_, .ref a, h, rfl, fun C H ι => ?_⟩
  simp only [Rep]
  refine ⟨a, rfl, es, n, hl, fun e he => ?_, fun i v hv => ?_⟩
  · have := hk.1 e he
    split at this
    · rename_i x t e1
      exact ⟨x, t, e1, eq_of_beq this⟩
    · cases this
  · have := hk.2 _ (lookup_mem hv)
    split at this
    · rename_i v' t e1
      have := eq_of_beq this
      simp only at this e1
      subst this
      exact ⟨t, e1⟩
    · cases this
end
/-- a def that promises nothing -/
theorem fok_false {P : Program} {w : World} {K : PySem.W.Frag} {mg : Str → Option Value} {base : Heap} {C : Nat → Addr} {x : Str} {st : Stmt} {ps : List Str} {n k0 : Nat} {φ : Fn} (D0 : Df K mg x st ps) (h : ∀ {ds st Q}, φ ds st Q → False) : FOk P w K mg base C k0 x n φ := fun k _ => by
  obtain ⟨f, fd, h1, h2, h3⟩ := D0.ex
  exact ⟨f, fd, ps, h1, h2.kp, h3, ⟨fun vs H Q E ⟨ι, st, ds, _, _, _, q⟩ => (h q).elim, fun A outer s H args us vs Q E _ _ _ _ ⟨ι, st, ds, _, _, _, q⟩ => (h q).elim⟩⟩
def f_dead : Fn := fun _ _ _ => False
theorem m_dead : MonoFn f_dead := fun _ _ _ _ _ h => h
end MI

namespace MI
open PySem PySem.Spec PyProof.Rows L2
local macro_rules | `(tactic| simp_wf) => `(tactic| simp -dsimp -failIfUnchanged -implicitDefEqProofs only [xite_t, xite_f, xint_i, xbl_i, xvar_i, xI_chars, xstr_i, recv_join, xmth_join, xslc_s, xtup_i, xtup_l, xtup_r, xtup_o, xE_dnew, xE_ddsp, xinO_l, xinO_k, xinO_t, xcmp_inK, xcmp_inD, xcmp_notInT, xcmp_notInL, xcmp_notInR, xcmp_notInO, xnin_eq, xninO_l, xninO_k, xninO_t, xcmp_notInK, xcmp_notInD, keyOf_i, keyOf_s, tkeyOf_t, keysOf_n, keysOf_i, keysOf_s, omap_some, pairsOf_n, pairsOf_i, pairsOf_s, xidxO_l, xidxO_k, xidxO_t, xidx_dK, xidx_dT, xsetO_l, xsetO_k, xsetO_t, xmth_get1, xmth_get2, xgetO_k, xgetO_t, xmth_dpop1, xpopK_k, xmth_dpop2, xpopO_k, xpopO_t, isDo_k, isDo_t, recv_get1, recv_get2, recv_dpop1, recv_dpop2, xlist_i, xopt_i, xnew_t, xnew_f, xand_t, xE_var, xE_con, xE_bin, xE_neg, xE_cmp, xE_chain, xE_land, xE_lor, xE_lnot, xE_ifx, xE_tup, xE_lst, xE_idx, xE_slc, xE_rev, xE_call, xE_blt, xE_mth, xE_lc, xE_lc2, xEs_nil, xEs_cons, xO_none, xO_some, xC_none, xC_some, xT_land, xT_lor, xT_lnot, xT_cmp, xT_chain, xT_val, xI_seq, xI_rng1, xI_rng2, xI_rng3, xI_enum, xG_nm, xG_tup, xG_sub, xGs_nil, xGs_cons, xBody_eq, xS_set, xS_par, xS_aug, xS_augS, xS_expr, xS_ret, xS_ite, xS_for, xS_while, xS_pass, xS_brk, xS_cont, xSs_nil, xSs_cons, xbin_add, xbin_addS, xbin_addT, xbin_addL, xbin_addO, xbin_sub, xbin_mul, xbin_mulL, xbin_mulT, xbin_mulO, xbin_fdiv, xbin_mod, xbin_pow, xaug_add, xaug_sub, xaug_fdiv, xcmp_eqI, xcmp_eqS, xcmp_neI, xcmp_neS, xcmp_lt, xcmp_le, xcmp_gt, xcmp_ge, xcmp_inS, xcmp_inT, xcmp_inL, xcmp_inR, xcmp_inO, xin_int, xin_str, xcmp_eqT, xcmp_neT, xcmp_eqL, xcmp_neL, xcmp_isN, xcmp_isIN, xcmp_isTN, xcmp_isLN, xcmp_isON, xcmp_isntON, xcmp_isSN, xcmp_isntSN, xcmp_isBN, xcmp_isntBN, xcmp_eqN, xcmp_neN, xdat_NN, xcmp_isB, xcmp_isntN, xcmp_isntIN, xcmp_isntTN, xcmp_isntLN, xcmp_isntB, xtru_b, xtru_i, xtru_n, xtru_t, xtru_l, xtru_o, xidx_t, xidx_l, xidx_r, xidx_k, xidx_o, xidx_s, xidxL_o, xslc_t, xslc_l, xslc_r, xslc_o, xrev_t, xrev_l, xrev_o, xset_o, xblt_len, xblt_int, xblt_intB, xblt_list, xblt_tuple, xblt_sum, xblt_sorted, xblt_sortSet, xblt_lenSet, xblt_str, xblt_max2, xblt_min2, xblt_any, xblt_all, xblt_isTuple_tup, xblt_isTuple_int, xblt_isTuple_bl, xblt_isTuple_str, xblt_isTuple_non, xblt_isInt_tup, xblt_isInt_int, xblt_isInt_bl, xblt_isInt_str, xblt_isInt_non, xblt_isBool_tup, xblt_isBool_int, xblt_isBool_bl, xblt_isBool_str, xblt_isBool_non, xblt_isStr_tup, xblt_isStr_int, xblt_isStr_bl, xblt_isStr_str, xblt_isStr_non, xmth_append, xmth_pop0, xmth_pop1, xmth_extT, xmth_extL, xmth_extO, recv_app, recv_pop0, recv_pop1, recv_ext, asSeq_t, asSeq_l, asSeq_r, asR_l, asR_r, asL_l, asLo_l, asL_oo, asR_oo, asSeq_oo, lenD_oo, lenD_t, lenD_l, lenD_r, List.map_cons, List.map_nil, List.cons_append, List.nil_append, List.getElem?_cons_succ, List.getElem?_cons_zero, List.set_cons_zero, List.set_cons_succ, List.length_cons, List.length_nil, List.length_map, List.length_range, List.length_append, List.length_set, Option.map_some, wipeE, List.replicate_succ, List.replicate_zero, getSet, List.getElem?_map, List.set_set, atI_lit, atI_zero, atI_one, atI_cast, ixN_lit, ixN_zero, ixN_one, ixN_cast, Nat.reduceLT, ↓reduceIte, List.append_assoc, getA, getA0, setA, setA0, Bool.not_true, Bool.not_false, List.isEmpty_cons, List.isEmpty_nil, beq_self_eq_true, Bool.true_xor, Bool.false_xor, decide_true, decide_false, MI.ints_map, MI.bls_map, Nat.reduceAdd, Nat.reduceSub, Nat.reduceLeDiff, Bool.true_eq_false, Bool.false_eq_true, Int.reduceNeg, Int.reduceAdd, Int.reduceSub, Int.reduceMul, Int.reduceLT, Int.reduceLE, Int.reduceEq, Int.reduceBEq, Nat.zero_add, putE_cons, putE_nil, xcmp_eqB, xcmp_neB])
local macro_rules | `(tactic| nomatch $es,*) => `(tactic| simp -dsimp -failIfUnchanged -implicitDefEqProofs only [$[$es:term],*, xite_t, xite_f, xint_i, xbl_i, xvar_i, xI_chars, xstr_i, recv_join, xmth_join, xslc_s, xtup_i, xtup_l, xtup_r, xtup_o, xE_dnew, xE_ddsp, xinO_l, xinO_k, xinO_t, xcmp_inK, xcmp_inD, xcmp_notInT, xcmp_notInL, xcmp_notInR, xcmp_notInO, xnin_eq, xninO_l, xninO_k, xninO_t, xcmp_notInK, xcmp_notInD, keyOf_i, keyOf_s, tkeyOf_t, keysOf_n, keysOf_i, keysOf_s, omap_some, pairsOf_n, pairsOf_i, pairsOf_s, xidxO_l, xidxO_k, xidxO_t, xidx_dK, xidx_dT, xsetO_l, xsetO_k, xsetO_t, xmth_get1, xmth_get2, xgetO_k, xgetO_t, xmth_dpop1, xpopK_k, xmth_dpop2, xpopO_k, xpopO_t, isDo_k, isDo_t, recv_get1, recv_get2, recv_dpop1, recv_dpop2, xlist_i, xopt_i, xnew_t, xnew_f, xand_t, xE_var, xE_con, xE_bin, xE_neg, xE_cmp, xE_chain, xE_land, xE_lor, xE_lnot, xE_ifx, xE_tup, xE_lst, xE_idx, xE_slc, xE_rev, xE_call, xE_blt, xE_mth, xE_lc, xE_lc2, xEs_nil, xEs_cons, xO_none, xO_some, xC_none, xC_some, xT_land, xT_lor, xT_lnot, xT_cmp, xT_chain, xT_val, xI_seq, xI_rng1, xI_rng2, xI_rng3, xI_enum, xG_nm, xG_tup, xG_sub, xGs_nil, xGs_cons, xBody_eq, xS_set, xS_par, xS_aug, xS_augS, xS_expr, xS_ret, xS_ite, xS_for, xS_while, xS_pass, xS_brk, xS_cont, xSs_nil, xSs_cons, xbin_add, xbin_addS, xbin_addT, xbin_addL, xbin_addO, xbin_sub, xbin_mul, xbin_mulL, xbin_mulT, xbin_mulO, xbin_fdiv, xbin_mod, xbin_pow, xaug_add, xaug_sub, xaug_fdiv, xcmp_eqI, xcmp_eqS, xcmp_neI, xcmp_neS, xcmp_lt, xcmp_le, xcmp_gt, xcmp_ge, xcmp_inS, xcmp_inT, xcmp_inL, xcmp_inR, xcmp_inO, xin_int, xin_str, xcmp_eqT, xcmp_neT, xcmp_eqL, xcmp_neL, xcmp_isN, xcmp_isIN, xcmp_isTN, xcmp_isLN, xcmp_isON, xcmp_isntON, xcmp_isSN, xcmp_isntSN, xcmp_isBN, xcmp_isntBN, xcmp_eqN, xcmp_neN, xdat_NN, xcmp_isB, xcmp_isntN, xcmp_isntIN, xcmp_isntTN, xcmp_isntLN, xcmp_isntB, xtru_b, xtru_i, xtru_n, xtru_t, xtru_l, xtru_o, xidx_t, xidx_l, xidx_r, xidx_k, xidx_o, xidx_s, xidxL_o, xslc_t, xslc_l, xslc_r, xslc_o, xrev_t, xrev_l, xrev_o, xset_o, xblt_len, xblt_int, xblt_intB, xblt_list, xblt_tuple, xblt_sum, xblt_sorted, xblt_sortSet, xblt_lenSet, xblt_str, xblt_max2, xblt_min2, xblt_any, xblt_all, xblt_isTuple_tup, xblt_isTuple_int, xblt_isTuple_bl, xblt_isTuple_str, xblt_isTuple_non, xblt_isInt_tup, xblt_isInt_int, xblt_isInt_bl, xblt_isInt_str, xblt_isInt_non, xblt_isBool_tup, xblt_isBool_int, xblt_isBool_bl, xblt_isBool_str, xblt_isBool_non, xblt_isStr_tup, xblt_isStr_int, xblt_isStr_bl, xblt_isStr_str, xblt_isStr_non, xmth_append, xmth_pop0, xmth_pop1, xmth_extT, xmth_extL, xmth_extO, recv_app, recv_pop0, recv_pop1, recv_ext, asSeq_t, asSeq_l, asSeq_r, asR_l, asR_r, asL_l, asLo_l, asL_oo, asR_oo, asSeq_oo, lenD_oo, lenD_t, lenD_l, lenD_r, List.map_cons, List.map_nil, List.cons_append, List.nil_append, List.getElem?_cons_succ, List.getElem?_cons_zero, List.set_cons_zero, List.set_cons_succ, List.length_cons, List.length_nil, List.length_map, List.length_range, List.length_append, List.length_set, Option.map_some, wipeE, List.replicate_succ, List.replicate_zero, getSet, List.getElem?_map, List.set_set, atI_lit, atI_zero, atI_one, atI_cast, ixN_lit, ixN_zero, ixN_one, ixN_cast, Nat.reduceLT, ↓reduceIte, List.append_assoc, getA, getA0, setA, setA0, Bool.not_true, Bool.not_false, List.isEmpty_cons, List.isEmpty_nil, beq_self_eq_true, Bool.true_xor, Bool.false_xor, decide_true, decide_false, MI.ints_map, MI.bls_map, Nat.reduceAdd, Nat.reduceSub, Nat.reduceLeDiff, Bool.true_eq_false, Bool.false_eq_true, Int.reduceNeg, Int.reduceAdd, Int.reduceSub, Int.reduceMul, Int.reduceLT, Int.reduceLE, Int.reduceEq, Int.reduceBEq, Nat.zero_add, putE_cons, putE_nil, xcmp_eqB, xcmp_neB])
local macro_rules | `(tactic| bv_omega) => `(tactic| (simp_wf; repeat (refine xand_mk (by first | omega | decide) fun _ => ?_; simp_wf)))
local macro_rules | `(tactic| array_get_dec) => `(tactic| simp -dsimp -failIfUnchanged -implicitDefEqProofs only [xite_t, xite_f, xint_i, xbl_i, xvar_i, xI_chars, xstr_i, recv_join, xmth_join, xslc_s, xtup_i, xtup_l, xtup_r, xtup_o, xE_dnew, xE_ddsp, xinO_l, xinO_k, xinO_t, xcmp_inK, xcmp_inD, xcmp_notInT, xcmp_notInL, xcmp_notInR, xcmp_notInO, xnin_eq, xninO_l, xninO_k, xninO_t, xcmp_notInK, xcmp_notInD, keyOf_i, keyOf_s, tkeyOf_t, keysOf_n, keysOf_i, keysOf_s, omap_some, pairsOf_n, pairsOf_i, pairsOf_s, xidxO_l, xidxO_k, xidxO_t, xidx_dK, xidx_dT, xsetO_l, xsetO_k, xsetO_t, xmth_get1, xmth_get2, xgetO_k, xgetO_t, xmth_dpop1, xpopK_k, xmth_dpop2, xpopO_k, xpopO_t, isDo_k, isDo_t, recv_get1, recv_get2, recv_dpop1, recv_dpop2, xlist_i, xopt_i, xnew_t, xnew_f, xand_t, xE_var, xE_con, xE_bin, xE_neg, xE_cmp, xE_chain, xE_land, xE_lor, xE_lnot, xE_ifx, xE_tup, xE_lst, xE_idx, xE_slc, xE_rev, xE_call, xE_blt, xE_mth, xE_lc, xE_lc2, xEs_nil, xEs_cons, xO_none, xO_some, xC_none, xC_some, xT_land, xT_lor, xT_lnot, xT_cmp, xT_chain, xT_val, xI_seq, xI_rng1, xI_rng2, xI_rng3, xI_enum, xG_nm, xG_tup, xG_sub, xGs_nil, xGs_cons, xBody_eq, xS_set, xS_par, xS_aug, xS_augS, xS_expr, xS_ret, xS_for, xS_while, xS_pass, xS_brk, xS_cont, xSs_nil, xSs_cons, xbin_add, xbin_addS, xbin_addT, xbin_addL, xbin_addO, xbin_sub, xbin_mul, xbin_mulL, xbin_mulT, xbin_mulO, xbin_fdiv, xbin_mod, xbin_pow, xaug_add, xaug_sub, xaug_fdiv, xcmp_eqI, xcmp_eqS, xcmp_neI, xcmp_neS, xcmp_lt, xcmp_le, xcmp_gt, xcmp_ge, xcmp_inS, xcmp_inT, xcmp_inL, xcmp_inR, xcmp_inO, xin_int, xin_str, xcmp_eqT, xcmp_neT, xcmp_eqL, xcmp_neL, xcmp_isN, xcmp_isIN, xcmp_isTN, xcmp_isLN, xcmp_isON, xcmp_isntON, xcmp_isSN, xcmp_isntSN, xcmp_isBN, xcmp_isntBN, xcmp_eqN, xcmp_neN, xdat_NN, xcmp_isB, xcmp_isntN, xcmp_isntIN, xcmp_isntTN, xcmp_isntLN, xcmp_isntB, xtru_b, xtru_i, xtru_n, xtru_t, xtru_l, xtru_o, xidx_t, xidx_l, xidx_r, xidx_k, xidx_o, xidx_s, xidxL_o, xslc_t, xslc_l, xslc_r, xslc_o, xrev_t, xrev_l, xrev_o, xset_o, xblt_len, xblt_int, xblt_intB, xblt_list, xblt_tuple, xblt_sum, xblt_sorted, xblt_sortSet, xblt_lenSet, xblt_str, xblt_max2, xblt_min2, xblt_any, xblt_all, xblt_isTuple_tup, xblt_isTuple_int, xblt_isTuple_bl, xblt_isTuple_str, xblt_isTuple_non, xblt_isInt_tup, xblt_isInt_int, xblt_isInt_bl, xblt_isInt_str, xblt_isInt_non, xblt_isBool_tup, xblt_isBool_int, xblt_isBool_bl, xblt_isBool_str, xblt_isBool_non, xblt_isStr_tup, xblt_isStr_int, xblt_isStr_bl, xblt_isStr_str, xblt_isStr_non, xmth_append, xmth_pop0, xmth_pop1, xmth_extT, xmth_extL, xmth_extO, recv_app, recv_pop0, recv_pop1, recv_ext, asSeq_t, asSeq_l, asSeq_r, asR_l, asR_r, asL_l, asLo_l, asL_oo, asR_oo, asSeq_oo, lenD_oo, lenD_t, lenD_l, lenD_r, List.map_cons, List.map_nil, List.cons_append, List.nil_append, List.getElem?_cons_succ, List.getElem?_cons_zero, List.set_cons_zero, List.set_cons_succ, List.length_cons, List.length_nil, List.length_map, List.length_range, List.length_append, List.length_set, Option.map_some, wipeE, List.replicate_succ, List.replicate_zero, getSet, List.getElem?_map, List.set_set, atI_lit, atI_zero, atI_one, atI_cast, ixN_lit, ixN_zero, ixN_one, ixN_cast, Nat.reduceLT, ↓reduceIte, List.append_assoc, getA, getA0, setA, setA0, Bool.not_true, Bool.not_false, List.isEmpty_cons, List.isEmpty_nil, beq_self_eq_true, Bool.true_xor, Bool.false_xor, decide_true, decide_false, MI.ints_map, MI.bls_map, Nat.reduceAdd, Nat.reduceSub, Nat.reduceLeDiff, Bool.true_eq_false, Bool.false_eq_true, Int.reduceNeg, Int.reduceAdd, Int.reduceSub, Int.reduceMul, Int.reduceLT, Int.reduceLE, Int.reduceEq, Int.reduceBEq, Nat.zero_add, putE_cons, putE_nil, xcmp_eqB, xcmp_neB])
local macro_rules | `(tactic| exists $es,*) => `(tactic| simp -dsimp -failIfUnchanged -implicitDefEqProofs only [$[$es:term],*, xite_t, xite_f, xint_i, xbl_i, xvar_i, xI_chars, xstr_i, recv_join, xmth_join, xslc_s, xtup_i, xtup_l, xtup_r, xtup_o, xE_dnew, xE_ddsp, xinO_l, xinO_k, xinO_t, xcmp_inK, xcmp_inD, xcmp_notInT, xcmp_notInL, xcmp_notInR, xcmp_notInO, xnin_eq, xninO_l, xninO_k, xninO_t, xcmp_notInK, xcmp_notInD, keyOf_i, keyOf_s, tkeyOf_t, keysOf_n, keysOf_i, keysOf_s, omap_some, pairsOf_n, pairsOf_i, pairsOf_s, xidxO_l, xidxO_k, xidxO_t, xidx_dK, xidx_dT, xsetO_l, xsetO_k, xsetO_t, xmth_get1, xmth_get2, xgetO_k, xgetO_t, xmth_dpop1, xpopK_k, xmth_dpop2, xpopO_k, xpopO_t, isDo_k, isDo_t, recv_get1, recv_get2, recv_dpop1, recv_dpop2, xlist_i, xopt_i, xnew_t, xnew_f, xand_t, xE_var, xE_con, xE_bin, xE_neg, xE_cmp, xE_chain, xE_land, xE_lor, xE_lnot, xE_ifx, xE_tup, xE_lst, xE_idx, xE_slc, xE_rev, xE_call, xE_blt, xE_mth, xE_lc, xE_lc2, xEs_nil, xEs_cons, xO_none, xO_some, xC_none, xC_some, xT_land, xT_lor, xT_lnot, xT_cmp, xT_chain, xT_val, xI_seq, xI_rng1, xI_rng2, xI_rng3, xI_enum, xG_nm, xG_tup, xG_sub, xGs_nil, xGs_cons, xBody_eq, xS_set, xS_par, xS_aug, xS_augS, xS_expr, xS_ret, xS_for, xS_while, xS_pass, xS_brk, xS_cont, xSs_nil, xSs_cons, xbin_add, xbin_addS, xbin_addT, xbin_addL, xbin_addO, xbin_sub, xbin_mul, xbin_mulL, xbin_mulT, xbin_mulO, xbin_fdiv, xbin_mod, xbin_pow, xaug_add, xaug_sub, xaug_fdiv, xcmp_eqI, xcmp_eqS, xcmp_neI, xcmp_neS, xcmp_lt, xcmp_le, xcmp_gt, xcmp_ge, xcmp_inS, xcmp_inT, xcmp_inL, xcmp_inR, xcmp_inO, xin_int, xin_str, xcmp_eqT, xcmp_neT, xcmp_eqL, xcmp_neL, xcmp_isN, xcmp_isIN, xcmp_isTN, xcmp_isLN, xcmp_isON, xcmp_isntON, xcmp_isSN, xcmp_isntSN, xcmp_isBN, xcmp_isntBN, xcmp_eqN, xcmp_neN, xdat_NN, xcmp_isB, xcmp_isntN, xcmp_isntIN, xcmp_isntTN, xcmp_isntLN, xcmp_isntB, xtru_b, xtru_i, xtru_n, xtru_t, xtru_l, xtru_o, xidx_t, xidx_l, xidx_r, xidx_k, xidx_o, xidx_s, xidxL_o, xslc_t, xslc_l, xslc_r, xslc_o, xrev_t, xrev_l, xrev_o, xset_o, xblt_len, xblt_int, xblt_intB, xblt_list, xblt_tuple, xblt_sum, xblt_sorted, xblt_sortSet, xblt_lenSet, xblt_str, xblt_max2, xblt_min2, xblt_any, xblt_all, xblt_isTuple_tup, xblt_isTuple_int, xblt_isTuple_bl, xblt_isTuple_str, xblt_isTuple_non, xblt_isInt_tup, xblt_isInt_int, xblt_isInt_bl, xblt_isInt_str, xblt_isInt_non, xblt_isBool_tup, xblt_isBool_int, xblt_isBool_bl, xblt_isBool_str, xblt_isBool_non, xblt_isStr_tup, xblt_isStr_int, xblt_isStr_bl, xblt_isStr_str, xblt_isStr_non, xmth_append, xmth_pop0, xmth_pop1, xmth_extT, xmth_extL, xmth_extO, recv_app, recv_pop0, recv_pop1, recv_ext, asSeq_t, asSeq_l, asSeq_r, asR_l, asR_r, asL_l, asLo_l, asL_oo, asR_oo, asSeq_oo, lenD_oo, lenD_t, lenD_l, lenD_r, List.map_cons, List.map_nil, List.cons_append, List.nil_append, List.getElem?_cons_succ, List.getElem?_cons_zero, List.set_cons_zero, List.set_cons_succ, List.length_cons, List.length_nil, List.length_map, List.length_range, List.length_append, List.length_set, Option.map_some, wipeE, List.replicate_succ, List.replicate_zero, getSet, List.getElem?_map, List.set_set, atI_lit, atI_zero, atI_one, atI_cast, ixN_lit, ixN_zero, ixN_one, ixN_cast, Nat.reduceLT, ↓reduceIte, List.append_assoc, getA, getA0, setA, setA0, Bool.not_true, Bool.not_false, List.isEmpty_cons, List.isEmpty_nil, beq_self_eq_true, Bool.true_xor, Bool.false_xor, decide_true, decide_false, MI.ints_map, MI.bls_map, Nat.reduceAdd, Nat.reduceSub, Nat.reduceLeDiff, Bool.true_eq_false, Bool.false_eq_true, Int.reduceNeg, Int.reduceAdd, Int.reduceSub, Int.reduceMul, Int.reduceLT, Int.reduceLE, Int.reduceEq, Int.reduceBEq, Nat.zero_add, putE_cons, putE_nil, xcmp_eqB, xcmp_neB])

/-! arithmetic modulo p -/
def ME (p x y : Int) : Prop := x % p = y % p
theorem ME.refl {p : Int} (x : Int) : ME p x x := rfl
theorem ME.symm {p x y : Int} (h : ME p x y) : ME p y x := Eq.symm h
theorem ME.trans {p x y z : Int} (h : ME p x y) (h' : ME p y z) : ME p x z := Eq.trans h h'
theorem ME.add {p x y z w : Int} (h : ME p x y) (h' : ME p z w) : ME p (x + z) (y + w) := by
  unfold ME at *
  rw [Int.add_emod, h, h', ← Int.add_emod]
theorem ME.sub {p x y z w : Int} (h : ME p x y) (h' : ME p z w) : ME p (x - z) (y - w) := by
  unfold ME at *
  rw [Int.sub_emod, h, h', ← Int.sub_emod]
theorem ME.mul {p x y z w : Int} (h : ME p x y) (h' : ME p z w) : ME p (x * z) (y * w) := by
  unfold ME at *
  rw [Int.mul_emod, h, h', ← Int.mul_emod]
theorem ME.neg {p x y : Int} (h : ME p x y) : ME p (-x) (-y) := by
  have := (ME.refl (p := p) 0).sub h
  simpa using this
theorem ME.md {p x : Int} : ME p (x % p) x := Int.emod_emod_of_dvd x (Int.dvd_refl p)
theorem ME.pow {p x y : Int} (h : ME p x y) : ∀ n : Nat, ME p (x ^ n) (y ^ n)
  | 0 => by
    rw [Int.pow_zero, Int.pow_zero]
    exact ME.refl _
  | n + 1 => by
    rw [Int.pow_succ, Int.pow_succ]
    exact (ME.pow h n).mul h
theorem ME.small {p x y : Int} (h : ME p x y) (h1 : 0 ≤ x) (h2 : x < p) : x = y % p := by
  rw [← h, Int.emod_eq_of_lt h1 h2]
theorem ME.uniq {p x y : Int} (h : ME p x y) (h1 : 0 ≤ x) (h2 : x < p) (h3 : 0 ≤ y) (h4 : y < p) : x = y := by
  rw [h.small h1 h2, Int.emod_eq_of_lt h3 h4]
theorem natAbs_lt {i : Int} {n : Nat} (h1 : 0 ≤ i) (h2 : i < (n : Int)) : i.natAbs < n := by omega
theorem mul_small {i j : Int} (h1 : 0 ≤ i) (h2 : i < 2 ^ 64) (h3 : 0 ≤ j) (h4 : j < 2 ^ 64) : CMulW i j :=
  cmulW (by omega) (by omega)
/-! power -/
def b_power : List SS := [.set (.nm 3) (.con (.int 1)),
  .set (.nm 4) (.bin .mod false (.var 1) (.var 0)),
  .while_ (.cmp .gt (.var 2) (.con (.int 0))) [.ite (.cmp .eq (.bin .mod false (.var 2) (.con (.int 2))) (.con (.int 1))) [.set (.nm 3) (.bin .mod false (.bin .mul false (.var 3) (.var 4)) (.var 0))] [],
  .set (.nm 4) (.bin .mod false (.bin .mul false (.var 4) (.var 4)) (.var 0)),
  .aug 2 .fdiv (.con (.int 2))],
  .ret (.var 3)]
def f_power : Fn := fun ds st Q => match ds with
  | [.int p, .int a, .int k] => (1 < p ∧ p < 2 ^ 64 ∧ 0 ≤ k) ∧ Q (.int (a ^ k.toNat % p)) st
  | _ => False
theorem m_power : MonoFn f_power := fun vs st Q Q' h q => by
  unfold f_power at *
  split at q
  · exact ⟨q.1, h _ _ q.2⟩
  · exact q
theorem e_power {p a k : Int} {st : Sto} {Q : Kd} : f_power [.int p, .int a, .int k] st Q = ((1 < p ∧ p < 2 ^ 64 ∧ 0 ≤ k) ∧ Q (.int (a ^ k.toNat % p)) st) := rfl
theorem o_power {Φ : Fns} (hΦ : ∀ f, MonoFn (Φ f)) {ds : List D} {st : Sto} {Q : Kd} (h : f_power ds st Q) : xBody Φ b_power st.length Q ⟨⟩ (ds.map some ++ List.replicate (5 - 3) none) st := by
  unfold f_power at h
  split at h
  · rename_i p a k
    obtain ⟨⟨hp, hp2, hk⟩, q⟩ := h
    unfold b_power
    simp_wf
    refine xand_mk (by omega) fun _ => ?_
    simp_wf
    refine wh_inv hΦ (fun i env s => ∃ k' r f : Int, env = [some (.int p), some (.int a), some (.int k'), some (.int r), some (.int f)] ∧ s = st ∧ 0 ≤ k' ∧ i = k'.toNat ∧ 0 ≤ r ∧ r < p ∧ 0 ≤ f ∧ f < p ∧ ME p (r * f ^ k'.toNat) (a ^ k.toNat)) k.toNat ?_ ?_
    · refine ⟨k, 1, a % p, rfl, rfl, hk, rfl, by omega, by omega, Int.emod_nonneg _ (by omega), Int.emod_lt_of_pos _ (by omega), ?_⟩
      rw [Int.one_mul]
      exact ME.md.pow _
    · rintro i env s ⟨k', r, f, rfl, rfl, hk', rfl, hr, hr2, hf, hf2, hm⟩
      simp_wf
      refine xite_mk (fun hc => ?_) (fun hc => ?_)
      · have hc := of_decide_eq_true hc
        simp_wf
        have hpow : k'.toNat = 2 * (k' / 2).toNat + (k' % 2).toNat := by omega
        have hff : ∀ x y : Int, 0 ≤ x % p ∧ x % p < p := fun x y => ⟨Int.emod_nonneg _ (by omega), Int.emod_lt_of_pos _ (by omega)⟩
        have base : ME p ((f * f % p) ^ (k' / 2).toNat) (f ^ (2 * (k' / 2).toNat)) := by
          have := (ME.md (p := p) (x := f * f)).pow (k' / 2).toNat
          rwa [show (f * f) ^ (k' / 2).toNat = f ^ (2 * (k' / 2).toNat) by rw [Int.pow_mul, Int.pow_succ, Int.pow_succ, Int.pow_zero, Int.one_mul]] at this
        refine xite_mk (fun hc2 => ?_) (fun hc2 => ?_)
        · have hc2 : k' % 2 = 1 := eq_of_beq hc2
          simp_wf
          refine xand_mk (mul_small hr (by omega) hf (by omega)) fun _ => ?_
          simp_wf
          refine xand_mk (by omega) fun _ => ?_
          simp_wf
          refine xand_mk (mul_small hf (by omega) hf (by omega)) fun _ => ?_
          simp_wf
          refine xand_mk (by omega) fun _ => ?_
          simp_wf
          refine xand_mk ⟨by decide, by decide⟩ fun _ => ?_
          refine ⟨_, ?_, k' / 2, r * f % p, f * f % p, rfl, rfl, by omega, rfl, (hff _ 0).1, (hff _ 0).2, (hff _ 0).1, (hff _ 0).2, ?_⟩
          · omega
          · refine ((ME.md (p := p) (x := r * f)).mul base).trans ?_
            rw [hpow, hc2] at hm
            rw [show r * f * f ^ (2 * (k' / 2).toNat) = r * f ^ (2 * (k' / 2).toNat + (1 : Int).toNat) by
              rw [show (1 : Int).toNat = 1 from rfl, Int.pow_succ]; grind]
            exact hm
        · have hc2 : k' % 2 = 0 := by
            have : ¬ k' % 2 = 1 := fun e => by rw [e] at hc2; cases hc2
            omega
          simp_wf
          refine xand_mk (mul_small hf (by omega) hf (by omega)) fun _ => ?_
          simp_wf
          refine xand_mk (by omega) fun _ => ?_
          simp_wf
          refine xand_mk ⟨by decide, by decide⟩ fun _ => ?_
          refine ⟨_, ?_, k' / 2, r, f * f % p, rfl, rfl, by omega, rfl, hr, hr2, (hff _ 0).1, (hff _ 0).2, ?_⟩
          · omega
          · refine ((ME.refl r).mul base).trans ?_
            rw [hpow, hc2] at hm
            exact hm
      · have hc := of_decide_eq_false hc
        have : k' = 0 := by omega
        subst this
        simp_wf
        refine fin_q ?_
        have hm : ME p (r * f ^ 0) (a ^ k.toNat) := hm
        rw [Int.pow_zero, Int.mul_one] at hm
        rw [hm.small hr hr2]
        exact q
  · exact h.elim

/-! the tape of numbers of a law -/
structure Cell where
  s : List Int
  i : Int
  a : Int
  k : Int
  z : Int
def cellD (c : Cell) : D := .lst [.lst (c.s.map .int), .int c.i, .int c.a, .int c.k, .int c.z]
structure Cell.ok (c : Cell) (b : Nat) : Prop where
  ln : c.s.length ≤ 63
  i0 : 0 ≤ c.i
  a0 : 0 ≤ c.a
  k0 : 0 ≤ c.k
  kb : c.k ≤ b
theorem Cell.ok.mono {c : Cell} {b b' : Nat} (h : c.ok b) (hb : b ≤ b') : c.ok b' := ⟨h.ln, h.i0, h.a0, h.k0, by have := h.kb; omega⟩
def b_start : List SS := [.ret (.lst true [(.lc false (.blt .int false [(.var 1)]) (.nm 1) (.seq (.slc false (.var 0) none (some (.con (.int 63))))) none [1]), (.con (.int 0)), (.con (.int 0)), (.con (.int 0)), (.con (.int 20))])]
def f_start : Fn := fun ds st Q => match ds with
  | [.ro xs] => opt (ints? xs) fun ns => ns.length ≤ 63 ∧ Q (.loc st.length) (st ++ [cellD ⟨ns, 0, 0, 0, 20⟩])
  | _ => False
theorem opt_mono' {α : Type} {o : Option α} {k k' : α → Prop} (h : ∀ x, k x → k' x) : opt o k → opt o k' := by
  cases o with
  | none => exact id
  | some x => exact h x
theorem m_start : MonoFn f_start := fun vs st Q Q' h q => by
  unfold f_start at *
  split at q
  · exact opt_mono' (fun _ q => ⟨q.1, h _ _ q.2⟩) q
  · exact q
theorem cut_hi {xs : List D} {k : Nat} (h : xs.length ≤ k) : cutD xs none (some (k : Int)) = xs := by
  unfold cutD
  rw [HT.sIx_none, HT.sIx_nat, Nat.min_eq_right h]
  simp
theorem o_start {Φ : Fns} (hΦ : ∀ f, MonoFn (Φ f)) {ds : List D} {st : Sto} {Q : Kd} (h : f_start ds st Q) : xBody Φ b_start st.length Q ⟨⟩ (ds.map some ++ List.replicate (2 - 1) none) st := by
  unfold f_start at h
  split at h
  · rename_i xs
    cases e : ints? xs with
    | none => rw [e] at h; exact h.elim
    | some ns =>
      rw [e] at h
      obtain ⟨hl, q⟩ := h
      rw [ints_some e]
      unfold b_start
      simp_wf
      rw [show ((63 : Int)) = ((63 : Nat) : Int) from rfl, cut_hi (by simpa using hl)]
      refine lc_mapT hΦ (g := D.int) (β := Int) (by have := sizeLine_ge; simp; omega) rfl (fun x hx => ?_) ?_
      · simp_wf
        exact ⟨rfl, rfl⟩
      · simp_wf
        refine xand_mk (by decide) fun _ => ?_
        simp_wf
        exact fin_q q
  · exact h.elim
def b_fill : List SS := [.set (.sub (.var 0) (.con (.int 3))) (.bin .add false (.idx (.var 0) (.con (.int 3))) (.con (.int 1))),
  .set (.nm 1) (.bin .add false (.bin .mul false (.idx (.var 0) (.con (.int 3))) (.con (.int 69621))) (.con (.int 12345))),
  .ite (.cmp .lt (.idx (.var 0) (.con (.int 1))) (.blt .len false [(.idx (.var 0) (.con (.int 0)))])) [.set (.nm 1) (.idx (.idx (.var 0) (.con (.int 0))) (.idx (.var 0) (.con (.int 1)))),
  .set (.sub (.var 0) (.con (.int 1))) (.bin .add false (.idx (.var 0) (.con (.int 1))) (.con (.int 1))),
  .ite (.cmp .lt (.var 1) (.con (.int 0))) [.set (.nm 1) (.bin .sub false (.bin .sub false (.con (.int 0)) (.con (.int 1))) (.var 1))] [],
  .ite (.cmp .ge (.var 1) (.bin .pow false (.con (.int 10)) (.con (.int 18)))) [.ret (.var 1)] []] [],
  .ite (.land (.val (.idx (.var 0) (.con (.int 0)))) (.cmp .ge (.idx (.var 0) (.con (.int 1))) (.blt .len false [(.idx (.var 0) (.con (.int 0)))]))) [.set (.nm 1) (.bin .add false (.var 1) (.bin .mod false (.blt .int false [(.idx (.idx (.var 0) (.con (.int 0))) (.neg (.con (.int 1))))]) (.con (.int 1000003))))] [],
  .set (.nm 1) (.bin .mod false (.blt .int false [(.bin .add false (.bin .mul false (.var 1) (.con (.int 48271))) (.bin .mul false (.idx (.var 0) (.con (.int 3))) (.con (.int 69621))))]) (.con (.int 2147483647))),
  .ret (.bin .add false (.bin .mod false (.blt .int false [(.bin .add false (.bin .add false (.bin .mul false (.var 1) (.var 1)) (.bin .mul false (.idx (.var 0) (.con (.int 3))) (.con (.int 7919)))) (.con (.int 11)))]) (.con (.int 2305843009213693951))) (.con (.int 2305843009213693951)))]
def f_fill : Fn := fun ds st Q => match ds with
  | [.loc n] => ∃ c b, st[n]? = some (cellD c) ∧ c.ok b ∧ b < 2 ^ 60 ∧ ∀ c' r, c'.ok (b + 1) → c'.z = c.z → c'.a = c.a → 0 ≤ r → Q (.int r) (st.set n (cellD c'))
  | _ => False
theorem m_fill : MonoFn f_fill := fun vs st Q Q' h q => by
  unfold f_fill at *
  split at q
  · obtain ⟨c, b, h1, h2, h3, h4⟩ := q
    exact ⟨c, b, h1, h2, h3, fun c' r a1 a2 a3 a4 => h _ _ (h4 c' r a1 a2 a3 a4)⟩
  · exact q
theorem o_fill {Φ : Fns} (hΦ : ∀ f, MonoFn (Φ f)) {ds : List D} {st : Sto} {Q : Kd} (h : f_fill ds st Q) : xBody Φ b_fill st.length Q ⟨⟩ (ds.map some ++ List.replicate (2 - 1) none) st := by
  unfold f_fill at h
  split at h
  · rename_i n
    obtain ⟨⟨s, i, a, k, z⟩, b, h1, ⟨g1, g2, g3, g4, g5⟩, h3, q⟩ := h
    have q : ∀ (i' : Int) (r : Int), 0 ≤ i' → 0 ≤ r → Q (.int r) (st.set n (.lst [.lst (s.map .int), .int i', .int a, .int (k + 1), .int z])) := fun i' r e1 e2 => q ⟨s, i', a, k + 1, z⟩ r ⟨g1, e1, g3, by simp only at g4 ⊢; omega, by simp only at g5 ⊢; omega⟩ rfl rfl e2
    unfold cellD at h1
    simp only at g1 g2 g3 g4 g5 h1
    have kb : 0 ≤ k + 1 ∧ k + 1 < 2 ^ 62 := by omega
    have last : ∀ (i' : Int), 0 ≤ i' → ∀ (e : Ev) (t : Sto), (∃ m : Int, e = [some (.loc n), some (.int m)] ∧ t = st.set n (.lst [.lst (s.map .int), .int i', .int a, .int (k + 1), .int z]) ∧ 0 ≤ m ∧ m < 2 ^ 101) → xSs Φ [.set (.nm 1) (.bin .mod false (.blt .int false [(.bin .add false (.bin .mul false (.var 1) (.con (.int 48271))) (.bin .mul false (.idx (.var 0) (.con (.int 3))) (.con (.int 69621))))]) (.con (.int 2147483647))),
  .ret (.bin .add false (.bin .mod false (.blt .int false [(.bin .add false (.bin .add false (.bin .mul false (.var 1) (.var 1)) (.bin .mul false (.idx (.var 0) (.con (.int 3))) (.con (.int 7919)))) (.con (.int 11)))]) (.con (.int 2305843009213693951))) (.con (.int 2305843009213693951)))] (fun _ st_1 => MI.Fin st.length Q .non st_1) (fun d st_1 => MI.Fin st.length Q d st_1) (fun _ _ => False) (fun _ _ => False) ⟨⟩ ⟨⟩ ⟨⟩ ⟨⟩ e t := by
      rintro i' hi' _ _ ⟨m, rfl, rfl, hm, hm2⟩
      nomatch h1
      refine xand_mk (cmulW (by omega) (by omega)) fun _ => ?_
      nomatch h1
      refine xand_mk (cmulW (by omega) (by omega)) fun _ => ?_
      nomatch h1
      have hb : 0 ≤ (m * 48271 + (k + 1) * 69621) % 2147483647 ∧ (m * 48271 + (k + 1) * 69621) % 2147483647 < 2147483647 := by omega
      generalize (m * 48271 + (k + 1) * 69621) % 2147483647 = w at hb
      refine xand_mk (cmulW (by omega) (by omega)) fun _ => ?_
      nomatch h1
      refine xand_mk (cmulW (by omega) (by omega)) fun _ => ?_
      nomatch h1
      refine fin_q (q _ _ hi' ?_)
      omega
    unfold b_fill
    nomatch h1
    refine xand_mk (cmulW (by omega) (by omega)) fun _ => ?_
    nomatch h1
    refine ite_join hΦ (fun e t => ∃ m i' : Int, e = [some (.loc n), some (.int m)] ∧ t = st.set n (.lst [.lst (s.map .int), .int i', .int a, .int (k + 1), .int z]) ∧ 0 ≤ i' ∧ 0 ≤ m ∧ m < 2 ^ 100) (fun hc => ?_) (fun hc => ?_) ?_
    · have hc := of_decide_eq_true hc
      nomatch h1, atI_int g2
      have hi : i.toNat < s.length := by omega
      rw [List.getElem?_eq_getElem hi]
      nomatch h1
      generalize s[i.toNat] = x
      refine ite_join hΦ (fun e t => ∃ m : Int, e = [some (.loc n), some (.int m)] ∧ t = st.set n (.lst [.lst (s.map .int), .int (i + 1), .int a, .int (k + 1), .int z]) ∧ 0 ≤ m) (fun hc => ?_) (fun hc => ?_) ?_
      · have hc := of_decide_eq_true hc
        simp_wf
        exact ⟨_, rfl, rfl, by omega⟩
      · have hc := of_decide_eq_false hc
        simp_wf
        exact ⟨_, rfl, rfl, by omega⟩
      · rintro _ _ ⟨m, rfl, rfl, hm⟩
        simp_wf
        refine xand_mk ⟨by decide, by decide, by decide⟩ fun _ => ?_
        simp_wf
        refine xite_mk (fun hc => ?_) (fun hc => ?_)
        · simp_wf
          exact fin_q (q _ _ (by omega) hm)
        · have hc := of_decide_eq_false hc
          simp_wf
          refine ⟨_, _, rfl, rfl, by omega, hm, ?_⟩
          have : m < 10 ^ 18 := by simpa using hc
          omega
    · simp_wf
      exact ⟨_, _, rfl, rfl, g2, by omega, by omega⟩
    · rintro _ _ ⟨m, i', rfl, rfl, hi', hm, hm2⟩
      nomatch h1
      refine xite_mk (fun hc => ?_) (fun hc => ?_)
      · nomatch h1
        refine ite_join hΦ (fun e t => ∃ m : Int, e = [some (.loc n), some (.int m)] ∧ t = st.set n (.lst [.lst (s.map .int), .int i', .int a, .int (k + 1), .int z]) ∧ 0 ≤ m ∧ m < 2 ^ 101) (fun hc2 => ?_) (fun hc2 => ?_) (last i' hi')
        · nomatch h1, atI_m1
          cases e : s[s.length - 1]? with
          | none =>
            exfalso
            have : s.length ≤ s.length - 1 := List.getElem?_eq_none_iff.mp e
            have : s = [] := List.eq_nil_of_length_eq_zero (by omega)
            subst this
            cases hc
          | some x =>
            simp_wf
            exact ⟨_, rfl, rfl, by omega, by omega⟩
        · nomatch h1
          exact ⟨_, rfl, rfl, hm, by omega⟩
      · nomatch h1
        exact last i' hi' _ _ ⟨_, rfl, rfl, hm, by omega⟩
  · exact h.elim
/-! a digit of the tape -/
def b_take (iF : Nat) : List SS := [.ite (.cmp .lt (.idx (.var 0) (.con (.int 2))) (.var 1)) [.set (.sub (.var 0) (.con (.int 2))) (.call iF [(.var 0)])] [],
  .set (.nm 2) (.bin .mod false (.blt .int false [(.idx (.var 0) (.con (.int 2)))]) (.var 1)),
  .set (.sub (.var 0) (.con (.int 2))) (.bin .fdiv false (.idx (.var 0) (.con (.int 2))) (.var 1)),
  .ret (.var 2)]
def f_take : Fn := fun ds st Q => match ds with
  | [.loc n, .int m] => ∃ c b, st[n]? = some (cellD c) ∧ c.ok b ∧ b < 2 ^ 60 ∧ 0 < m ∧ m < 2 ^ 190 ∧ ∀ c' r, c'.ok (b + 1) → c'.z = c.z → 0 ≤ r → r < m → Q (.int r) (st.set n (cellD c'))
  | _ => False
theorem m_take : MonoFn f_take := fun vs st Q Q' h q => by
  unfold f_take at *
  split at q
  · obtain ⟨c, b, h1, h2, h3, h4, h5, h6⟩ := q
    exact ⟨c, b, h1, h2, h3, h4, h5, fun c' r a1 a2 a3 a4 => h _ _ (h6 c' r a1 a2 a3 a4)⟩
  · exact q
theorem xK_fill {Φ : Fns} {i n : Nat} {st : Sto} {Q : Kd} {u} (hi : Φ i = f_fill) {c : Cell} {b : Nat} (h1 : st[n]? = some (cellD c)) (h2 : c.ok b) (h3 : b < 2 ^ 60)
    (h : ∀ c' r, c'.ok (b + 1) → c'.z = c.z → c'.a = c.a → 0 ≤ r → Q (.int r) (st.set n (cellD c'))) : xK Φ i [.loc n] st Q u := by
  unfold xK
  rw [hi]
  exact ⟨c, b, h1, h2, h3, h⟩
theorem o_take {Φ : Fns} (hΦ : ∀ f, MonoFn (Φ f)) {iF : Nat} (hF : Φ iF = f_fill) {ds : List D} {st : Sto} {Q : Kd} (h : f_take ds st Q) : xBody Φ (b_take iF) st.length Q ⟨⟩ (ds.map some ++ List.replicate (3 - 2) none) st := by
  unfold f_take at h
  split at h
  · rename_i n m
    obtain ⟨⟨s, i, a, k, z⟩, b, h1, hok, h3, hm, hm2, q⟩ := h
    unfold b_take
    have h1' := h1
    unfold cellD at h1'
    simp only at h1'
    have hs : n < st.length := (List.getElem?_eq_some_iff.mp h1).1
    nomatch h1'
    refine ite_join hΦ (fun e t => ∃ c' : Cell, e = [some (.loc n), some (.int m), none] ∧ t = st.set n (cellD c') ∧ c'.ok (b + 1) ∧ c'.z = z) (fun hc => ?_) (fun hc => ?_) ?_
    · simp_wf
      refine xK_fill hF h1 hok h3 fun c' r g1 g2 g3 g4 => ?_
      nomatch h1', cellD
      exact ⟨⟨c'.s, c'.i, r, c'.k, c'.z⟩, rfl, rfl, ⟨g1.ln, g1.i0, g4, g1.k0, g1.kb⟩, g2⟩
    · simp_wf
      refine ⟨⟨s, i, a, k, z⟩, rfl, ?_, ⟨hok.ln, hok.i0, hok.a0, hok.k0, by have := hok.kb; simp only at this ⊢; omega⟩, rfl⟩
      have := (List.set_getElem_self hs).symm
      rw [List.getElem?_eq_getElem hs] at h1
      rw [Option.some.inj h1] at this
      exact this
    · rintro _ _ ⟨c', rfl, rfl, g1, g2⟩
      nomatch h1', cellD
      refine xand_mk hm fun _ => ?_
      nomatch h1'
      refine xand_mk (cdivW hm (by omega)) fun _ => ?_
      nomatch h1'
      exact fin_q (q ⟨c'.s, c'.i, c'.a / m, c'.k, c'.z⟩ _ ⟨g1.ln, g1.i0, Int.ediv_nonneg g1.a0 (by omega), g1.k0, g1.kb⟩ g2 (Int.emod_nonneg _ (by omega)) (Int.emod_lt_of_pos _ hm))
  · exact h.elim
theorem xK_take {Φ : Fns} {i n : Nat} {m : Int} {st : Sto} {Q : Kd} {u} (hi : Φ i = f_take) {c : Cell} {b : Nat} (h1 : st[n]? = some (cellD c)) (h2 : c.ok b) (h3 : b < 2 ^ 60) (h4 : 0 < m) (h5 : m < 2 ^ 190)
    (h : ∀ c' r, c'.ok (b + 1) → c'.z = c.z → 0 ≤ r → r < m → Q (.int r) (st.set n (cellD c'))) : xK Φ i [.loc n, .int m] st Q u := by
  unfold xK
  rw [hi]
  exact ⟨c, b, h1, h2, h3, h4, h5, h⟩
theorem xK_start {Φ : Fns} {i : Nat} {ns : List Int} {st : Sto} {Q : Kd} {u} (hi : Φ i = f_start) (hl : ns.length ≤ 63) (h : Q (.loc st.length) (st ++ [cellD ⟨ns, 0, 0, 0, 20⟩])) : xK Φ i [.ro (ns.map .int)] st Q u := by
  unfold xK
  rw [hi]
  show opt (ints? (ns.map .int)) _
  rw [MI.ints_map]
  exact ⟨hl, h⟩

/-! inverse -/
def b_inverse (iP : Nat) : List SS := [.ret (.call iP [(.var 0), (.var 1), (.bin .sub false (.var 0) (.con (.int 2)))])]
def inv (p a : Int) : Int := a ^ (p - 2).toNat % p
def f_inverse : Fn := fun ds st Q => match ds with
  | [.int p, .int a] => (1 < p ∧ p < 2 ^ 64) ∧ Q (.int (inv p a)) st
  | _ => False
theorem m_inverse : MonoFn f_inverse := fun vs st Q Q' h q => by
  unfold f_inverse at *
  split at q
  · exact ⟨q.1, h _ _ q.2⟩
  · exact q
theorem xK_power {Φ : Fns} {i : Nat} {p a k : Int} {st : Sto} {Q : Kd} {u} (hi : Φ i = f_power) (h1 : 1 < p ∧ p < 2 ^ 64 ∧ 0 ≤ k) (h : Q (.int (a ^ k.toNat % p)) st) : xK Φ i [.int p, .int a, .int k] st Q u := by
  unfold xK
  rw [hi]
  exact ⟨h1, h⟩
theorem o_inverse {Φ : Fns} (hΦ : ∀ f, MonoFn (Φ f)) {iP : Nat} (hP : Φ iP = f_power) {ds : List D} {st : Sto} {Q : Kd} (h : f_inverse ds st Q) : xBody Φ (b_inverse iP) st.length Q ⟨⟩ (ds.map some ++ List.replicate (2 - 2) none) st := by
  unfold f_inverse at h
  split at h
  · rename_i p a
    obtain ⟨hp, q⟩ := h
    unfold b_inverse
    simp_wf
    refine xK_power hP (by omega) ?_
    exact fin_q q
  · exact h.elim
theorem xK_inverse {Φ : Fns} {i : Nat} {p a : Int} {st : Sto} {Q : Kd} {u} (hi : Φ i = f_inverse) (h1 : 1 < p ∧ p < 2 ^ 64) (h : Q (.int (inv p a)) st) : xK Φ i [.int p, .int a] st Q u := by
  unfold xK
  rw [hi]
  exact ⟨h1, h⟩
/-! lists of numbers without zeros at the end -/
def trimZ : List Int → List Int
  | [] => []
  | x :: r => match trimZ r with
    | [] => if x = 0 then [] else [x]
    | y :: t => x :: y :: t
theorem trimZ_zero : ∀ (l : List Int), trimZ (l ++ [0]) = trimZ l
  | [] => rfl
  | x :: r => by
    show trimZ (x :: (r ++ [0])) = trimZ (x :: r)
    unfold trimZ
    rw [trimZ_zero r]
theorem trimZ_last {z : Int} (hz : z ≠ 0) : ∀ (l : List Int), trimZ (l ++ [z]) = l ++ [z]
  | [] => by
    show trimZ [z] = [z]
    simp [trimZ, hz]
  | x :: r => by
    show trimZ (x :: (r ++ [z])) = x :: (r ++ [z])
    have := trimZ_last hz r
    unfold trimZ
    rw [this]
    cases r <;> rfl
theorem trimZ_mem {y : Int} : ∀ {l : List Int}, y ∈ trimZ l → y ∈ l
  | [], h => h
  | x :: r, h => by
    unfold trimZ at h
    split at h
    · split at h
      · cases h
      · simp at h; simp [h]
    · rename_i z t e
      rcases List.mem_cons.mp h with h | h
      · simp [h]
      · rw [← e] at h
        exact List.mem_cons_of_mem _ (trimZ_mem h)
theorem trimZ_len : ∀ (l : List Int), (trimZ l).length ≤ l.length
  | [] => Nat.le_refl _
  | x :: r => by
    have := trimZ_len r
    unfold trimZ
    split
    · split <;> simp
    · rename_i z t e
      rw [e] at this
      simp at this ⊢
      omega
theorem trimZ_idem : ∀ (l : List Int), trimZ (trimZ l) = trimZ l := fun l => by
  rcases List.eq_nil_or_concat (trimZ l) with h | ⟨i, z, h⟩
  · rw [h]; rfl
  · rw [h]
    have hz : z ≠ 0 := by
      intro hz
      subst hz
      have key : ∀ (l i : List Int), trimZ l ≠ i ++ [0] := by
        intro l
        induction l with
        | nil => intro i h; simp [trimZ] at h
        | cons x r ih =>
          intro i h
          unfold trimZ at h
          split at h
          · split at h
            · simp at h
            · rename_i hx
              cases i with
              | nil => simp at h; exact hx h
              | cons y t => simp at h
          · rename_i y t e
            cases i with
            | nil => simp at h
            | cons w u =>
              simp at h
              exact ih u (by rw [e]; exact h.2)
      exact key l i (by simpa using h)
    simpa using trimZ_last hz i
def trim (p : Int) (f : List Int) : List Int := trimZ (f.map (· % p))
/-- the value by sums and products -/
def pe (f : List Int) (x : Int) : Int := f.foldr (fun c r => r * x + c) 0
theorem pe_cons {c : Int} {f : List Int} {x : Int} : pe (c :: f) x = pe f x * x + c := rfl
theorem pe_nil {x : Int} : pe [] x = 0 := rfl
theorem pe_trimZ {x : Int} : ∀ (f : List Int), pe (trimZ f) x = pe f x
  | [] => rfl
  | c :: r => by
    have ih := pe_trimZ (x := x) r
    unfold trimZ
    split
    · rename_i e
      rw [e, pe_nil] at ih
      split
      · rename_i hc
        rw [pe_cons, ← ih, hc, pe_nil]; simp
      · rw [pe_cons, pe_cons, ← ih, pe_nil]
    · rename_i y t e
      rw [e] at ih
      rw [pe_cons, ih, ← pe_cons]
theorem pe_map {p x : Int} : ∀ (f : List Int), ME p (pe (f.map (· % p)) x) (pe f x)
  | [] => ME.refl _
  | c :: r => by
    show ME p (pe (r.map (· % p)) x * x + c % p) (pe r x * x + c)
    exact ((pe_map r).mul (ME.refl x)).add ME.md
theorem pe_trim {p x : Int} (f : List Int) : ME p (pe (trim p f) x) (pe f x) := by
  unfold trim
  rw [pe_trimZ]
  exact pe_map f
def b_trimmed : List SS := [.set (.nm 2) (.lc true (.bin .mod false (.var 3) (.var 0)) (.nm 3) (.seq (.var 1)) none [3]),
  .while_ (.land (.val (.var 2)) (.cmp .eq (.idx (.var 2) (.neg (.con (.int 1)))) (.con (.int 0)))) [.expr (.mth .pop0 (.var 2) [])],
  .ret (.blt .tuple false [(.var 2)])]
def b_ltrimmed : List SS := [.set (.nm 2) (.lc true (.bin .mod false (.blt .int false [(.var 3)]) (.var 0)) (.nm 3) (.seq (.var 1)) none [3]),
  .while_ (.land (.val (.var 2)) (.cmp .eq (.idx (.var 2) (.neg (.con (.int 1)))) (.con (.int 0)))) [.expr (.mth .pop0 (.var 2) [])],
  .ret (.blt .tuple false [(.var 2)])]
abbrev iT (f : List Int) : D := .tup (f.map .int)
abbrev iL (f : List Int) : D := .lst (f.map .int)
def f_trimmed : Fn := fun ds st Q => match ds with
  | [.int p, d] => ∃ f : List Int, asSeq st d = some (f.map .int) ∧ (0 < p ∧ f.length ≤ 100000) ∧ Q (iT (trim p f)) st
  | _ => False
theorem m_trimmed : MonoFn f_trimmed := fun vs st Q Q' h q => by
  unfold f_trimmed at *
  split at q
  · obtain ⟨f, h1, h2, q⟩ := q
    exact ⟨f, h1, h2, h _ _ q⟩
  · exact q
/-- the loop of both -/
theorem trim_loop {Φ : Fns} (hΦ : ∀ f, MonoFn (Φ f)) {e0 e1 e3 : Option D} {st : Sto} {Q : Kd} (hst : ∀ d ∈ st, Cl st.length d) (g : List Int) (q : Q (iT (trimZ g)) st) :
    xwh Φ (.land (.val (.var 2)) (.cmp .eq (.idx (.var 2) (.neg (.con (.int 1)))) (.con (.int 0)))) [.expr (.mth .pop0 (.var 2) [])]
      (fun e s => xSs Φ [.ret (.blt .tuple false [(.var 2)])] (fun _ st_1 => MI.Fin st.length Q .non st_1) (fun d st_1 => MI.Fin st.length Q d st_1) (fun _ _ => False) (fun _ _ => False) ⟨⟩ ⟨⟩ ⟨⟩ ⟨⟩ e s)
      (fun d st_1 => MI.Fin st.length Q d st_1) ⟨⟩ ⟨⟩ [e0, e1, some (.loc st.length), e3] (st ++ [iL g]) := by
  refine wh_inv hΦ (fun i e s => ∃ l : List Int, e = [e0, e1, some (.loc st.length), e3] ∧ s = st ++ [iL l] ∧ i = l.length ∧ trimZ l = trimZ g) g.length ⟨g, rfl, rfl, rfl, rfl⟩ ?_
  rintro i _ _ ⟨l, rfl, rfl, rfl, hl⟩
  simp_wf
  refine xite_mk (fun hc => ?_) (fun hc => ?_)
  · nomatch atI_m1
    rcases List.eq_nil_or_concat l with rfl | ⟨t, z, rfl⟩
    · cases hc
    · rw [show ((t.concat z)[(t.concat z).length - 1]?) = some z by simp]
      simp_wf
      refine xite_mk (fun hz => ?_) (fun hz => ?_)
      · have hz : z = 0 := eq_of_beq hz
        subst hz
        simp_wf
        rw [show ((t.concat 0)[(t.concat 0).length - 1]?) = some 0 by simp]
        simp_wf
        refine ⟨t.length, by simp, t, rfl, ?_, rfl, ?_⟩
        · rw [show (List.map D.int (t.concat 0)).dropLast = t.map D.int by simp]
        · rw [← hl]; simp [trimZ_zero]
      · have hz : z ≠ 0 := fun e => by rw [e] at hz; cases hz
        simp_wf
        refine fin_cut hst takeA (cl_tup cl_ints) ?_
        rw [← hl] at q
        rw [List.concat_eq_append, trimZ_last hz] at q
        simpa [iT] using q
  · have : l = [] := by
      cases l with
      | nil => rfl
      | cons _ _ => cases hc
    subst this
    simp_wf
    refine fin_cut hst takeA (cl_tup (cl_ints (f := []))) ?_
    rw [← hl] at q
    exact q
theorem o_trimmed {Φ : Fns} (hΦ : ∀ f, MonoFn (Φ f)) {ds : List D} {st : Sto} {Q : Kd} (hst : ∀ d ∈ st, Cl st.length d) (h : f_trimmed ds st Q) : xBody Φ b_trimmed st.length Q ⟨⟩ (ds.map some ++ List.replicate (4 - 2) none) st := by
  unfold f_trimmed at h
  split at h
  · rename_i p d
    obtain ⟨f, hd, ⟨hp, hl⟩, q⟩ := h
    unfold b_trimmed
    nomatch hd
    refine lc_mapT hΦ (β := Int) (g := fun x => .int (x % p)) (by have := sizeLine_ge; simp; omega) hd (fun x hx => ?_) ?_
    · simp_wf
      refine xand_mk hp fun _ => ?_
      exact ⟨rfl, rfl⟩
    · simp_wf
      rw [show (List.map (fun x => D.int (x % p)) f) = (f.map (· % p)).map .int by simp]
      exact trim_loop hΦ hst _ q
  · exact h.elim
theorem o_ltrimmed {Φ : Fns} (hΦ : ∀ f, MonoFn (Φ f)) {ds : List D} {st : Sto} {Q : Kd} (hst : ∀ d ∈ st, Cl st.length d) (h : f_trimmed ds st Q) : xBody Φ b_ltrimmed st.length Q ⟨⟩ (ds.map some ++ List.replicate (4 - 2) none) st := by
  unfold f_trimmed at h
  split at h
  · rename_i p d
    obtain ⟨f, hd, ⟨hp, hl⟩, q⟩ := h
    unfold b_ltrimmed
    nomatch hd
    refine lc_mapT hΦ (β := Int) (g := fun x => .int (x % p)) (by have := sizeLine_ge; simp; omega) hd (fun x hx => ?_) ?_
    · simp_wf
      refine xand_mk hp fun _ => ?_
      exact ⟨rfl, rfl⟩
    · simp_wf
      rw [show (List.map (fun x => D.int (x % p)) f) = (f.map (· % p)).map .int by simp]
      exact trim_loop hΦ hst _ q
  · exact h.elim
theorem xK_trimmed {Φ : Fns} {i : Nat} {p : Int} {d : D} {f : List Int} {st : Sto} {Q : Kd} {u} (hi : Φ i = f_trimmed) (hd : asSeq st d = some (f.map .int)) (h1 : 0 < p ∧ f.length ≤ 100000) (h : Q (iT (trim p f)) st) : xK Φ i [.int p, d] st Q u := by
  unfold xK
  rw [hi]
  exact ⟨f, hd, h1, h⟩

/-! value -/
def vf (p x : Int) (r c : Int) : Int := (r * x + c) % p
theorem vf_pe {p x : Int} : ∀ (f : List Int), f.reverse.foldl (vf p x) 0 = pe f x % p := fun f => by
  rw [List.foldl_reverse]
  induction f with
  | nil => rfl
  | cons c r ih =>
    show vf p x (List.foldr (fun x_1 y => vf p x y x_1) 0 r) c = pe (c :: r) x % p
    rw [ih, pe_cons]
    show (pe r x % p * x + c) % p = _
    exact ((ME.md (p := p)).mul (ME.refl x)).add (ME.refl c)
theorem foldl_step {α β : Type} {f : β → α → β} {b : β} {l : List α} {i : Nat} {c : α} (h : l[i]? = some c) : (l.take (i + 1)).foldl f b = f ((l.take i).foldl f b) c := by
  rw [List.take_add_one, h, List.foldl_append]; rfl
theorem vf_range {p x : Int} (hp : 0 < p) : ∀ (l : List Int), 0 ≤ l.foldl (vf p x) 0 ∧ l.foldl (vf p x) 0 < p := fun l => by
  rcases List.eq_nil_or_concat l with rfl | ⟨t, z, rfl⟩
  · exact ⟨Int.le_refl _, hp⟩
  · rw [List.concat_eq_append, List.foldl_append]
    exact ⟨Int.emod_nonneg _ (by omega), Int.emod_lt_of_pos _ hp⟩
def b_value : List SS := [.set (.nm 3) (.con (.int 0)),
  .for_ (.nm 4) (.seq (.rev false (.var 1))) [.set (.nm 3) (.bin .mod false (.bin .add false (.bin .mul false (.var 3) (.var 2)) (.var 4)) (.var 0))],
  .ret (.var 3)]
def f_value : Fn := fun ds st Q => match ds with
  | [.int p, .tup xs, .int x] => ∃ f : List Int, xs = f.map .int ∧ (0 < p ∧ p < 2 ^ 64 ∧ x.natAbs < 2 ^ 64) ∧ Q (.int (pe f x % p)) st
  | _ => False
theorem m_value : MonoFn f_value := fun vs st Q Q' h q => by
  unfold f_value at *
  split at q
  · obtain ⟨f, h1, h2, q⟩ := q
    exact ⟨f, h1, h2, h _ _ q⟩
  · exact q
theorem o_value {Φ : Fns} (hΦ : ∀ f, MonoFn (Φ f)) {ds : List D} {st : Sto} {Q : Kd} (h : f_value ds st Q) : xBody Φ b_value st.length Q ⟨⟩ (ds.map some ++ List.replicate (5 - 3) none) st := by
  unfold f_value at h
  split at h
  · rename_i p xs x
    obtain ⟨f, rfl, ⟨hp, hp2, hx⟩, q⟩ := h
    unfold b_value
    simp_wf
    refine for_inv hΦ (fun i e s => ∃ o, e = [some (.int p), some (.tup (f.map .int)), some (.int x), some (.int ((f.reverse.take i).foldl (vf p x) 0)), o] ∧ s = st) ⟨none, rfl, rfl⟩ (fun i e s _ h => ?_) ?_ ?_
    · trivial
    · rintro i c _ _ hc ⟨o, rfl, rfl⟩
      rw [← List.map_reverse, List.getElem?_map] at hc
      cases hc' : f.reverse[i]? with
      | none => rw [hc'] at hc; cases hc
      | some c' =>
        rw [hc'] at hc
        cases hc
        simp_wf
        have hr := vf_range hp (x := x) (f.reverse.take i)
        refine xand_mk (cmulW (by omega) (by omega)) fun _ => ?_
        simp_wf
        refine xand_mk hp fun _ => ?_
        simp_wf
        rw [foldl_step hc']
        exact ⟨_, rfl, rfl⟩
    · rintro _ _ ⟨o, rfl, rfl⟩
      simp_wf
      refine fin_q ?_
      rw [List.take_of_length_le (by simp), vf_pe]
      exact q
  · exact h.elim
theorem xK_value {Φ : Fns} {i : Nat} {p x : Int} {f : List Int} {st : Sto} {Q : Kd} {u} (hi : Φ i = f_value) (h1 : 0 < p ∧ p < 2 ^ 64 ∧ x.natAbs < 2 ^ 64) (h : Q (.int (pe f x % p)) st) : xK Φ i [.int p, .tup (f.map .int), .int x] st Q u := by
  unfold xK
  rw [hi]
  exact ⟨f, rfl, h1, h⟩
/-! the law's own value -/
def b_lvalue : List SS := [.set (.nm 3) (.con (.int 0)),
  .for_ (.nm 4) (.rng3 (.bin .sub false (.blt .len false [(.var 1)]) (.con (.int 1))) (.bin .sub false (.con (.int 0)) (.con (.int 1))) (.bin .sub false (.con (.int 0)) (.con (.int 1)))) [.set (.nm 3) (.bin .mod false (.blt .int false [(.bin .add false (.bin .mul false (.var 3) (.var 2)) (.idx (.var 1) (.var 4)))]) (.var 0))],
  .ret (.var 3)]
def f_lvalue : Fn := fun ds st Q => match ds with
  | [.int p, d, .int x] => ∃ f : List Int, asSeq st d = some (f.map .int) ∧ (d = iT f ∨ d = iL f ∨ ∃ n, d = .loc n) ∧ (0 < p ∧ p < 2 ^ 64 ∧ x.natAbs < 2 ^ 64 ∧ f.length ≤ 100000) ∧ Q (.int (pe f x % p)) st
  | _ => False
theorem m_lvalue : MonoFn f_lvalue := fun vs st Q Q' h q => by
  unfold f_lvalue at *
  split at q
  · obtain ⟨f, h1, h2, h3, q⟩ := q
    exact ⟨f, h1, h2, h3, h _ _ q⟩
  · exact q
theorem rngL_at {lo c : Int} {n i : Nat} {d : D} (h : (rngL lo n c)[i]? = some d) : i < n ∧ d = .int (lo + (i : Int) * c) := by
  unfold rngL at h
  rw [List.getElem?_map] at h
  cases e : (List.range n)[i]? with
  | none => rw [e] at h; cases h
  | some j =>
    rw [e] at h
    obtain ⟨h1, h2⟩ := List.getElem?_eq_some_iff.mp e
    simp at h1 h2
    subst h2
    cases h
    exact ⟨h1, rfl⟩
theorem rngL_len {lo c : Int} {n : Nat} : (rngL lo n c).length = n := by
  unfold rngL; simp
theorem o_lvalue {Φ : Fns} (hΦ : ∀ f, MonoFn (Φ f)) {ds : List D} {st : Sto} {Q : Kd} (h : f_lvalue ds st Q) : xBody Φ b_lvalue st.length Q ⟨⟩ (ds.map some ++ List.replicate (5 - 3) none) st := by
  unfold f_lvalue at h
  split at h
  · rename_i p d x
    obtain ⟨f, hd, hd', ⟨hp, hp2, hx, hl⟩, q⟩ := h
    have hlen : lenD st d = some f.length := by
      rcases hd' with rfl | rfl | ⟨n, rfl⟩
      · simp [lenD, asSeq, asR, asL]
      · simp [lenD, asSeq, asR, asL]
      · show (asSeq st (.loc n)).map List.length = _
        rw [hd]; simp
    have hix : ∀ (i : Int) (Q : Kd) (u), xidx d (.int i) st Q u = xopt (atI (f.map .int) i) (fun d => Q d st) ⟨⟩ := by
      rcases hd' with rfl | rfl | ⟨n, rfl⟩
      · exact fun _ _ _ => rfl
      · exact fun _ _ _ => rfl
      · intro i Q u
        rw [xidx_o, asSeq_inv hd]; rfl
    unfold b_lvalue
    nomatch hlen
    refine rng3_down (by omega) ?_
    simp_wf
    refine for_inv hΦ (fun i e s => ∃ o, e = [some (.int p), some d, some (.int x), some (.int ((f.reverse.take i).foldl (vf p x) 0)), o] ∧ s = st) ⟨none, rfl, rfl⟩ (fun i e s _ h => ?_) ?_ ?_
    · trivial
    · rintro i c _ _ hc ⟨o, rfl, rfl⟩
      obtain ⟨hi, rfl⟩ := rngL_at hc
      have hi : i < f.length := by omega
      have hc' : f.reverse[i]? = some f[f.length - 1 - i] := by
        rw [List.getElem?_reverse hi, List.getElem?_eq_getElem (by omega)]
      have hr := vf_range hp (x := x) (f.reverse.take i)
      simp_wf
      refine xand_mk (cmulW (by omega) (by omega)) fun _ => ?_
      nomatch hix
      rw [show ((f.length : Int) - 1 + (i : Int) * -1) = ((f.length - 1 - i : Nat) : Int) by omega]
      simp_wf
      rw [List.getElem?_eq_getElem (by omega)]
      simp_wf
      refine xand_mk hp fun _ => ?_
      simp_wf
      rw [foldl_step hc']
      exact ⟨_, rfl, rfl⟩
    · rintro _ _ ⟨o, rfl, rfl⟩
      simp_wf
      refine fin_q ?_
      rw [rngL_len, List.take_of_length_le (by simp), vf_pe]
      exact q
  · exact h.elim
theorem xK_lvalueT {Φ : Fns} {i : Nat} {p x : Int} {f : List Int} {st : Sto} {Q : Kd} {u} (hi : Φ i = f_lvalue) (h1 : 0 < p ∧ p < 2 ^ 64 ∧ x.natAbs < 2 ^ 64 ∧ f.length ≤ 100000) (h : Q (.int (pe f x % p)) st) : xK Φ i [.int p, .tup (f.map .int), .int x] st Q u := by
  unfold xK
  rw [hi]
  exact ⟨f, rfl, .inl rfl, h1, h⟩
theorem xK_lvalueL {Φ : Fns} {i : Nat} {p x : Int} {f : List Int} {st : Sto} {Q : Kd} {u} (hi : Φ i = f_lvalue) (h1 : 0 < p ∧ p < 2 ^ 64 ∧ x.natAbs < 2 ^ 64 ∧ f.length ≤ 100000) (h : Q (.int (pe f x % p)) st) : xK Φ i [.int p, .lst (f.map .int), .int x] st Q u := by
  unfold xK
  rw [hi]
  exact ⟨f, rfl, .inr (.inl rfl), h1, h⟩
/-! the law's own power -/
def b_lpower : List SS := [.set (.nm 3) (.con (.int 1)),
  .for_ (.nm 4) (.rng1 (.var 2)) [.set (.nm 3) (.bin .mod false (.blt .int false [(.bin .mul false (.var 3) (.var 1))]) (.var 0))],
  .ret (.var 3)]
def f_lpower : Fn := fun ds st Q => match ds with
  | [.int p, .int a, .int k] => (1 < p ∧ p < 2 ^ 64 ∧ a.natAbs < 2 ^ 64 ∧ 0 ≤ k ∧ k < 2 ^ 62) ∧ Q (.int (a ^ k.toNat % p)) st
  | _ => False
theorem m_lpower : MonoFn f_lpower := fun vs st Q Q' h q => by
  unfold f_lpower at *
  split at q
  · exact ⟨q.1, h _ _ q.2⟩
  · exact q
theorem o_lpower {Φ : Fns} (hΦ : ∀ f, MonoFn (Φ f)) {ds : List D} {st : Sto} {Q : Kd} (h : f_lpower ds st Q) : xBody Φ b_lpower st.length Q ⟨⟩ (ds.map some ++ List.replicate (5 - 3) none) st := by
  unfold f_lpower at h
  split at h
  · rename_i p a k
    obtain ⟨⟨hp, hp2, ha, hk, hk2⟩, q⟩ := h
    unfold b_lpower
    simp_wf
    refine xand_mk (by omega) fun _ => ?_
    refine for_inv hΦ (fun i e s => ∃ o, e = [some (.int p), some (.int a), some (.int k), some (.int (a ^ i % p)), o] ∧ s = st) ⟨none, ?_, rfl⟩ (fun i e s _ h => ?_) ?_ ?_
    · rw [Int.pow_zero, Int.emod_eq_of_lt (by omega) hp]
    · trivial
    · rintro i c _ _ hc ⟨o, rfl, rfl⟩
      simp_wf
      have hb : 0 ≤ a ^ i % p ∧ a ^ i % p < p := ⟨Int.emod_nonneg _ (by omega), Int.emod_lt_of_pos _ (by omega)⟩
      refine xand_mk (cmulW (by omega) (by omega)) fun _ => ?_
      simp_wf
      refine xand_mk (by omega) fun _ => ?_
      simp_wf
      rw [show (a ^ i % p * a) % p = a ^ (i + 1) % p by
        rw [Int.pow_succ]
        exact (ME.md (p := p)).mul (ME.refl a)]
      exact ⟨_, rfl, rfl⟩
    · rintro _ _ ⟨o, rfl, rfl⟩
      simp_wf
      refine fin_q ?_
      rw [rngL_len]
      exact q
  · exact h.elim
theorem xK_lpower {Φ : Fns} {i : Nat} {p a k : Int} {st : Sto} {Q : Kd} {u} (hi : Φ i = f_lpower) (h1 : 1 < p ∧ p < 2 ^ 64 ∧ a.natAbs < 2 ^ 64 ∧ 0 ≤ k ∧ k < 2 ^ 62) (h : Q (.int (a ^ k.toNat % p)) st) : xK Φ i [.int p, .int a, .int k] st Q u := by
  unfold xK
  rw [hi]
  exact ⟨h1, h⟩

/-! sums and products of polynomials -/
def addAt (l : List Int) (n : Nat) (v : Int) : List Int := l.set n (l.getD n 0 + v)
theorem addAt_len {l : List Int} {n : Nat} {v : Int} : (addAt l n v).length = l.length := by unfold addAt; simp
theorem pe_addAt {x v : Int} : ∀ {l : List Int} {n : Nat}, n < l.length → pe (addAt l n v) x = pe l x + v * x ^ n
  | [], _, h => by simp at h
  | c :: r, 0, _ => by
    show pe r x * x + (c + v) = pe r x * x + c + v * x ^ 0
    rw [Int.pow_zero]; omega
  | c :: r, n + 1, h => by
    have ih := pe_addAt (x := x) (v := v) (l := r) (n := n) (by simpa using h)
    show pe (addAt r n v) x * x + c = pe r x * x + c + v * x ^ (n + 1)
    rw [ih, Int.pow_succ]; grind
def addRow : List Int → Nat → List Int → List Int
  | l, _, [] => l
  | l, j, b :: r => addRow (addAt l j b) (j + 1) r
def mulRow (a : Int) (l : List Int) (j : Nat) (g : List Int) : List Int := addRow l j (g.map (a * ·))
def mulAll (g : List Int) : List Int → Nat → List Int → List Int
  | l, _, [] => l
  | l, j, a :: r => mulAll g (mulRow a l j g) (j + 1) r
theorem addRow_snoc : ∀ {l : List Int} {j : Nat} {r : List Int} {b : Int}, addRow l j (r ++ [b]) = addAt (addRow l j r) (j + r.length) b
  | l, j, [], b => rfl
  | l, j, c :: r, b => by
    show addRow (addAt l j c) (j + 1) (r ++ [b]) = addAt (addRow (addAt l j c) (j + 1) r) (j + (r.length + 1)) b
    rw [addRow_snoc, show j + 1 + r.length = j + (r.length + 1) by omega]
theorem mulAll_snoc {g : List Int} : ∀ {l : List Int} {j : Nat} {r : List Int} {b : Int}, mulAll g l j (r ++ [b]) = mulRow b (mulAll g l j r) (j + r.length) g
  | l, j, [], b => rfl
  | l, j, c :: r, b => by
    show mulAll g (mulRow c l j g) (j + 1) (r ++ [b]) = mulRow b (mulAll g (mulRow c l j g) (j + 1) r) (j + (r.length + 1)) g
    rw [mulAll_snoc, show j + 1 + r.length = j + (r.length + 1) by omega]
theorem addRow_len : ∀ {l : List Int} {j : Nat} {r : List Int}, (addRow l j r).length = l.length
  | l, j, [] => rfl
  | l, j, c :: r => by
    show (addRow (addAt l j c) (j + 1) r).length = _
    rw [addRow_len, addAt_len]
theorem mulAll_len {g : List Int} : ∀ {l : List Int} {j : Nat} {r : List Int}, (mulAll g l j r).length = l.length
  | l, j, [] => rfl
  | l, j, c :: r => by
    show (mulAll g (mulRow c l j g) (j + 1) r).length = _
    rw [mulAll_len]; exact addRow_len
theorem pe_addRow {x : Int} : ∀ {l : List Int} {j : Nat} {r : List Int}, j + r.length ≤ l.length → pe (addRow l j r) x = pe l x + pe r x * x ^ j
  | l, j, [], _ => by
    show pe l x = pe l x + 0 * x ^ j
    omega
  | l, j, c :: r, h => by
    rw [List.length_cons] at h
    show pe (addRow (addAt l j c) (j + 1) r) x = pe l x + (pe r x * x + c) * x ^ j
    rw [pe_addRow (by rw [addAt_len]; omega), pe_addAt (by omega), Int.pow_succ]; grind
theorem pe_scale {a x : Int} : ∀ (g : List Int), pe (g.map (a * ·)) x = a * pe g x
  | [] => by rw [List.map_nil, pe_nil]; omega
  | c :: r => by
    show pe (r.map (a * ·)) x * x + a * c = a * (pe r x * x + c)
    rw [pe_scale r]; grind
theorem pe_mulAll {x : Int} {g : List Int} : ∀ {l : List Int} {j : Nat} {r : List Int}, j + r.length + g.length ≤ l.length + 1 → pe (mulAll g l j r) x = pe l x + pe r x * pe g x * x ^ j
  | l, j, [], _ => by
    show pe l x = pe l x + 0 * pe g x * x ^ j
    simp
  | l, j, c :: r, h => by
    rw [List.length_cons] at h
    show pe (mulAll g (mulRow c l j g) (j + 1) r) x = pe l x + (pe r x * x + c) * pe g x * x ^ j
    have hl : (mulRow c l j g).length = l.length := addRow_len
    rw [pe_mulAll (by rw [hl]; omega)]
    unfold mulRow
    rw [pe_addRow (by rw [List.length_map]; omega), pe_scale, Int.pow_succ]; grind
theorem pe_zeros {x : Int} : ∀ (n : Nat), pe (List.replicate n 0) x = 0
  | 0 => rfl
  | n + 1 => by
    show pe (List.replicate n 0) x * x + 0 = 0
    rw [pe_zeros n]; omega
theorem pe_append_zeros {x : Int} {n : Nat} : ∀ (f : List Int), pe (f ++ List.replicate n 0) x = pe f x
  | [] => pe_zeros n
  | c :: r => by
    show pe (r ++ List.replicate n 0) x * x + c = pe r x * x + c
    rw [pe_append_zeros r]
def addL (f g : List Int) : List Int := addRow (f ++ List.replicate (g.length - f.length) 0) 0 g
def mulL (f g : List Int) : List Int := mulAll g (List.replicate (f.length + g.length) 0) 0 f
theorem addL_len (f g : List Int) : (addL f g).length = max f.length g.length := by
  unfold addL
  rw [addRow_len]; simp; omega
theorem mulL_len (f g : List Int) : (mulL f g).length = f.length + g.length := by
  unfold mulL
  rw [mulAll_len]; simp
theorem pe_addL {x : Int} (f g : List Int) : pe (addL f g) x = pe f x + pe g x := by
  unfold addL
  rw [pe_addRow (by simp; omega), pe_append_zeros]; simp
theorem pe_mulL {x : Int} (f g : List Int) : pe (mulL f g) x = pe f x * pe g x := by
  unfold mulL
  rw [pe_mulAll (by simp), pe_zeros]; simp
/-! plus -/
def b_plus (iT : Nat) : List SS := [.set (.nm 3) (.blt .max2 false [(.blt .len false [(.var 1)]), (.blt .len false [(.var 2)])]),
  .set (.nm 4) (.bin .add true (.blt .list false [(.var 1)]) (.bin .mul false (.lst false [(.con (.int 0))]) (.bin .sub false (.var 3) (.blt .len false [(.var 1)])))),
  .for_ (.tup [(.nm 5), (.nm 6)]) (.enum (.var 2)) [.augS (.var 4) (.var 5) .add (.var 6)],
  .ret (.call iT [(.var 0), (.var 4)])]
def f_plus : Fn := fun ds st Q => match ds with
  | [.int p, .tup xs, .tup ys] => ∃ f g : List Int, xs = f.map .int ∧ ys = g.map .int ∧ (0 < p ∧ f.length ≤ 1000 ∧ g.length ≤ 1000) ∧ Q (iT (trim p (addL f g))) st
  | _ => False
theorem m_plus : MonoFn f_plus := fun vs st Q Q' h q => by
  unfold f_plus at *
  split at q
  · obtain ⟨f, g, h1, h2, h3, q⟩ := q
    exact ⟨f, g, h1, h2, h3, h _ _ q⟩
  · exact q
theorem zeros_flat : ∀ (n : Nat), (List.replicate n [D.int 0]).flatten = (List.replicate n (0 : Int)).map .int
  | 0 => rfl
  | n + 1 => by
    show D.int 0 :: (List.replicate n [D.int 0]).flatten = D.int 0 :: (List.replicate n (0 : Int)).map .int
    rw [zeros_flat n]
theorem set_ints {l : List Int} {n : Nat} {v : Int} : (l.map D.int).set n (.int v) = (l.set n v).map .int := List.map_set.symm
theorem enum_at {l : List D} {i : Nat} {d : D} (h : (enumL l)[i]? = some d) : ∃ x, l[i]? = some x ∧ d = .tup [.int (i : Int), x] := by
  have hi : i < l.length := by
    have := (List.getElem?_eq_some_iff.mp h).1
    rwa [enumL_length] at this
  refine ⟨l[i], List.getElem?_eq_getElem hi, ?_⟩
  have := enumL_get (List.getElem?_eq_getElem hi)
  rw [this] at h
  exact (Option.some.inj h).symm
theorem map_at {α : Type} {f : α → D} {l : List α} {i : Nat} {d : D} (h : (l.map f)[i]? = some d) : ∃ x, l[i]? = some x ∧ d = f x := by
  rw [List.getElem?_map] at h
  cases e : l[i]? with
  | none => rw [e] at h; cases h
  | some x => rw [e] at h; cases h; exact ⟨x, rfl, rfl⟩
theorem getD_of {l : List Int} {n : Nat} (h : n < l.length) : l[n]? = some (l.getD n 0) := by
  rw [List.getD_eq_getElem?_getD, List.getElem?_eq_getElem h]; rfl
theorem o_plus {Φ : Fns} (hΦ : ∀ f, MonoFn (Φ f)) {iT : Nat} (hT : Φ iT = f_trimmed) {ds : List D} {st : Sto} {Q : Kd} (hst : ∀ d ∈ st, Cl st.length d) (h : f_plus ds st Q) : xBody Φ (b_plus iT) st.length Q ⟨⟩ (ds.map some ++ List.replicate (7 - 3) none) st := by
  unfold f_plus at h
  split at h
  · rename_i p xs ys
    obtain ⟨f, g, rfl, rfl, ⟨hp, hf, hg⟩, q⟩ := h
    have hz := sizeLine_ge
    unfold b_plus
    simp_wf
    refine xand_mk (by omega) fun _ => ?_
    simp_wf
    have hm : ((if (g.length : Int) > (f.length : Int) then (g.length : Int) else (f.length : Int)) - (f.length : Int)).toNat = g.length - f.length := by
      split <;> omega
    refine xand_mk (by rw [hm]; split <;> omega) fun _ => ?_
    rw [hm, zeros_flat]
    simp_wf
    refine xand_mk (by simp; omega) fun _ => ?_
    rw [← List.map_append]
    simp_wf
    refine for_inv hΦ (fun i e s => ∃ a b, e = [some (.int p), some (.tup (f.map .int)), some (.tup (g.map .int)), some (.int (if (g.length : Int) > (f.length : Int) then (g.length : Int) else (f.length : Int))), some (.loc st.length), a, b] ∧ s = st ++ [iL (addRow (f ++ List.replicate (g.length - f.length) 0) 0 (g.take i))]) ⟨none, none, rfl, rfl⟩ (fun i e s _ h => ?_) ?_ ?_
    · rfl
    · rintro i c _ _ hc ⟨a, b, rfl, rfl⟩
      obtain ⟨d, hd, rfl⟩ := enum_at hc
      obtain ⟨x, hx, rfl⟩ := map_at hd
      have hi : i < g.length := (List.getElem?_eq_some_iff.mp hx).1
      have hl : i < (addRow (f ++ List.replicate (g.length - f.length) 0) 0 (g.take i)).length := by
        rw [addRow_len]; simp; omega
      nomatch getD_of hl
      nomatch hl
      rw [set_ints]
      refine ⟨_, _, rfl, ?_⟩
      rw [List.take_add_one, hx]
      show _ = st ++ [iL (addRow _ 0 (g.take i ++ [x]))]
      rw [addRow_snoc, show 0 + (g.take i).length = i by simp; omega]
      rfl
    · rintro _ _ ⟨a, b, rfl, rfl⟩
      simp_wf
      rw [enumL_length, List.length_map, List.take_of_length_le (Nat.le_refl _)]
      refine xK_trimmed hT (f := addL f g) ?_ ⟨hp, by rw [addL_len]; omega⟩ ?_
      · simp_wf
        rfl
      · exact fin_cut hst takeA (cl_tup cl_ints) q
  · exact h.elim
theorem xK_plus {Φ : Fns} {i : Nat} {p : Int} {f g : List Int} {st : Sto} {Q : Kd} {u} (hi : Φ i = f_plus) (h1 : 0 < p ∧ f.length ≤ 1000 ∧ g.length ≤ 1000) (h : Q (iT (trim p (addL f g))) st) : xK Φ i [.int p, .tup (f.map .int), .tup (g.map .int)] st Q u := by
  unfold xK
  rw [hi]
  exact ⟨f, g, rfl, rfl, h1, h⟩
/-! times -/
def b_times (iT : Nat) : List SS := [.set (.nm 3) (.bin .mul true (.lst false [(.con (.int 0))]) (.bin .add false (.blt .len false [(.var 1)]) (.blt .len false [(.var 2)]))),
  .for_ (.tup [(.nm 4), (.nm 5)]) (.enum (.var 1)) [.for_ (.tup [(.nm 6), (.nm 7)]) (.enum (.var 2)) [.augS (.var 3) (.bin .add false (.var 4) (.var 6)) .add (.bin .mul false (.var 5) (.var 7))]],
  .ret (.call iT [(.var 0), (.var 3)])]
def f_times : Fn := fun ds st Q => match ds with
  | [.int p, .tup xs, .tup ys] => ∃ f g : List Int, xs = f.map .int ∧ ys = g.map .int ∧ (0 < p ∧ f.length ≤ 1000 ∧ g.length ≤ 1000 ∧ (∀ x ∈ f, x.natAbs < 2 ^ 64) ∧ ∀ x ∈ g, x.natAbs < 2 ^ 64) ∧ Q (iT (trim p (mulL f g))) st
  | _ => False
theorem m_times : MonoFn f_times := fun vs st Q Q' h q => by
  unfold f_times at *
  split at q
  · obtain ⟨f, g, h1, h2, h3, q⟩ := q
    exact ⟨f, g, h1, h2, h3, h _ _ q⟩
  · exact q
theorem o_times {Φ : Fns} (hΦ : ∀ f, MonoFn (Φ f)) {iT : Nat} (hT : Φ iT = f_trimmed) {ds : List D} {st : Sto} {Q : Kd} (hst : ∀ d ∈ st, Cl st.length d) (h : f_times ds st Q) : xBody Φ (b_times iT) st.length Q ⟨⟩ (ds.map some ++ List.replicate (8 - 3) none) st := by
  unfold f_times at h
  split at h
  · rename_i p xs ys
    obtain ⟨f, g, rfl, rfl, ⟨hp, hf, hg, hfs, hgs⟩, q⟩ := h
    have hz := sizeLine_ge
    unfold b_times
    simp_wf
    have hm : ((f.length : Int) + (g.length : Int)).toNat = f.length + g.length := by omega
    refine xand_mk (by omega) fun _ => ?_
    simp_wf
    refine xand_mk (by rw [hm]; omega) fun _ => ?_
    rw [hm, zeros_flat]
    simp_wf
    refine for_inv hΦ (fun i e s => ∃ a b c d, e = [some (.int p), some (.tup (f.map .int)), some (.tup (g.map .int)), some (.loc st.length), a, b, c, d] ∧ s = st ++ [iL (mulAll g (List.replicate (f.length + g.length) 0) 0 (f.take i))]) ⟨none, none, none, none, rfl, rfl⟩ (fun i e s _ h => ?_) ?_ ?_
    · rfl
    · rintro i c _ _ hc ⟨a, b, c1, d1, rfl, rfl⟩
      obtain ⟨d, hd, rfl⟩ := enum_at hc
      obtain ⟨x, hx, rfl⟩ := map_at hd
      have hi : i < f.length := (List.getElem?_eq_some_iff.mp hx).1
      simp_wf
      refine for_inv hΦ (fun k e s => ∃ c d, e = [some (.int p), some (.tup (f.map .int)), some (.tup (g.map .int)), some (.loc st.length), some (.int i), some (.int x), c, d] ∧ s = st ++ [iL (mulRow x (mulAll g (List.replicate (f.length + g.length) 0) 0 (f.take i)) i (g.take k))]) ⟨c1, d1, rfl, rfl⟩ (fun i e s _ h => ?_) ?_ ?_
      · rfl
      · rintro k c _ _ hc ⟨a, b, rfl, rfl⟩
        obtain ⟨d, hd, rfl⟩ := enum_at hc
        obtain ⟨y, hy, rfl⟩ := map_at hd
        have hk : k < g.length := (List.getElem?_eq_some_iff.mp hy).1
        have hl : i + k < (mulRow x (mulAll g (List.replicate (f.length + g.length) 0) 0 (f.take i)) i (g.take k)).length := by
          unfold mulRow
          rw [addRow_len, mulAll_len]; simp; omega
        nomatch natAdd, getD_of hl
        refine xand_mk (cmul64 (hfs x (List.mem_of_getElem? hx)) (hgs y (List.mem_of_getElem? hy))) fun _ => ?_
        nomatch natAdd, hl
        rw [set_ints]
        refine ⟨_, _, rfl, ?_⟩
        unfold mulRow
        rw [List.take_add_one, hy, List.map_append]
        show _ = st ++ [iL (addRow _ i ((g.take k).map _ ++ [x * y]))]
        rw [addRow_snoc, show i + ((g.take k).map (x * ·)).length = i + k by simp; omega]
        rfl
      · rintro _ _ ⟨a, b, rfl, rfl⟩
        refine ⟨_, _, _, _, rfl, ?_⟩
        rw [enumL_length, List.length_map, List.take_of_length_le (Nat.le_refl _), List.take_add_one, hx]
        show _ = st ++ [iL (mulAll g _ 0 (f.take i ++ [x]))]
        rw [mulAll_snoc, show 0 + (f.take i).length = i by simp; omega]
    · rintro _ _ ⟨a, b, c, d, rfl, rfl⟩
      simp_wf
      rw [enumL_length, List.length_map, List.take_of_length_le (Nat.le_refl _)]
      refine xK_trimmed hT (f := mulL f g) ?_ ⟨hp, by rw [mulL_len]; omega⟩ ?_
      · simp_wf
        rfl
      · exact fin_cut hst takeA (cl_tup cl_ints) q
  · exact h.elim
theorem xK_times {Φ : Fns} {i : Nat} {p : Int} {f g : List Int} {st : Sto} {Q : Kd} {u} (hi : Φ i = f_times) (h1 : 0 < p ∧ f.length ≤ 1000 ∧ g.length ≤ 1000 ∧ (∀ x ∈ f, x.natAbs < 2 ^ 64) ∧ ∀ x ∈ g, x.natAbs < 2 ^ 64) (h : Q (iT (trim p (mulL f g))) st) : xK Φ i [.int p, .tup (f.map .int), .tup (g.map .int)] st Q u := by
  unfold xK
  rw [hi]
  exact ⟨f, g, rfl, rfl, h1, h⟩

/-- items kept or left out -/
theorem lc_mapF {Φ : Fns} (hΦ : ∀ f, MonoFn (Φ f)) {elt : SE} {tg : ST} {c : Option SB} {env : Ev} {keep : Sto → Prop} {Q : List D → Sto → Prop} {α : Type} {l : List α} {enc : α → D} {g : α → Option D} {acc : List D} {u v} {st : Sto}
    (hl : acc.length + l.length ≤ sizeLine) (hk : keep st)
    (hs : ∀ x ∈ l, xG Φ tg (enc x) env st (fun e s => xC Φ c e s (fun k s2 => xite k (fun _ => xE Φ elt e s2 (fun d s3 => xend (fun d s3 => s3 = st ∧ some d = g x) d s3 ⟨⟩) ⟨⟩) (fun _ => xend (fun s2 (_ : Unit) => s2 = st ∧ g x = none) s2 () ⟨⟩) ⟨⟩ ⟨⟩) ⟨⟩) ⟨⟩)
    (he : Q (acc ++ l.filterMap g) st) : xlc Φ elt tg c env keep Q u v (l.map enc) acc st := by
  refine lc_inv hΦ (fun i a s => s = st ∧ a = acc ++ (l.take i).filterMap g) ⟨rfl, by simp⟩ (by simpa using hl) (fun i a s _ h => h.1 ▸ hk) (fun i x a s hx h => ?_) (fun a s h => ?_)
  · obtain ⟨rfl, rfl⟩ := h
    obtain ⟨y, hy, rfl⟩ := map_at hx
    refine wG_mono hΦ tg _ env _ _ _ (fun e s q => wC_mono hΦ c e s _ _ (fun k s2 q => ?_) q) (hs y (List.mem_of_getElem? hy))
    have eq1 : (l.take (i + 1)).filterMap g = (l.take i).filterMap g ++ (g y).toList := by
      rw [List.take_add_one, hy, List.filterMap_append]
      simp only [Option.toList_some, List.filterMap_cons, List.filterMap_nil]
      cases g y <;> rfl
    refine ite_mono (wE_mono hΦ elt e s2 _ _ fun d s3 q' => ?_) (fun q' => ?_) (xite_of q)
    · refine ⟨q'.1, ?_⟩
      rw [eq1, ← q'.2, List.append_assoc]; rfl
    · refine ⟨q'.1, ?_⟩
      rw [eq1, q'.2]; simp
  · obtain ⟨rfl, rfl⟩ := h
    rw [List.length_map, List.take_length]
    exact he

/-! interpolate -/
theorem trim_mem {p : Int} (hp : 0 < p) {f : List Int} {x : Int} (h : x ∈ trim p f) : 0 ≤ x ∧ x < p := by
  unfold trim at h
  have := trimZ_mem h
  obtain ⟨y, _, rfl⟩ := List.mem_map.mp this
  exact ⟨Int.emod_nonneg _ (by omega), Int.emod_lt_of_pos _ hp⟩
theorem trim_len {p : Int} {f : List Int} : (trim p f).length ≤ f.length := by
  have := trimZ_len (f.map (· % p))
  rwa [List.length_map] at this
theorem inv_range {p a : Int} (hp : 0 < p) : 0 ≤ inv p a ∧ inv p a < p := ⟨Int.emod_nonneg _ (by omega), Int.emod_lt_of_pos _ hp⟩
def tms (p : Int) (f g : List Int) : List Int := trim p (mulL f g)
def pls (p : Int) (f g : List Int) : List Int := trim p (addL f g)
def termS (p x : Int) (k : Nat) (t : List Int) (j : Nat) (o : Int) : List Int := if j = k then t else tms p t [-o * inv p (x - o) % p, inv p (x - o)]
def termL (p x : Int) (k : Nat) : List Int → Nat → List (Int × Int) → List Int
  | t, _, [] => t
  | t, j, q :: r => termL p x k (termS p x k t j q.1) (j + 1) r
def intS (p : Int) (ps : List (Int × Int)) (R : List Int) (k : Nat) (q : Int × Int) : List Int := pls p R (termL p q.1 k [q.2 % p] 0 ps)
def intL (p : Int) (ps : List (Int × Int)) : List Int → Nat → List (Int × Int) → List Int
  | R, _, [] => R
  | R, k, q :: r => intL p ps (intS p ps R k q) (k + 1) r
def interp (p : Int) (ps : List (Int × Int)) : List Int := intL p ps [] 0 ps
theorem termL_snoc {p x : Int} {k : Nat} : ∀ {t : List Int} {j : Nat} {r : List (Int × Int)} {q : Int × Int}, termL p x k t j (r ++ [q]) = termS p x k (termL p x k t j r) (j + r.length) q.1
  | t, j, [], q => rfl
  | t, j, c :: r, q => by
    show termL p x k (termS p x k t j c.1) (j + 1) (r ++ [q]) = termS p x k (termL p x k (termS p x k t j c.1) (j + 1) r) (j + (r.length + 1)) q.1
    rw [termL_snoc, show j + 1 + r.length = j + (r.length + 1) by omega]
theorem intL_snoc {p : Int} {ps : List (Int × Int)} : ∀ {R : List Int} {k : Nat} {r : List (Int × Int)} {q : Int × Int}, intL p ps R k (r ++ [q]) = intS p ps (intL p ps R k r) (k + r.length) q
  | R, k, [], q => rfl
  | R, k, c :: r, q => by
    show intL p ps (intS p ps R k c) (k + 1) (r ++ [q]) = intS p ps (intL p ps (intS p ps R k c) (k + 1) r) (k + (r.length + 1)) q
    rw [intL_snoc, show k + 1 + r.length = k + (r.length + 1) by omega]
/-- in range, and not longer than n -/
def Rg (p : Int) (n : Nat) (f : List Int) : Prop := f.length ≤ n ∧ ∀ x ∈ f, 0 ≤ x ∧ x < p
theorem Rg.mono {p : Int} {n m : Nat} {f : List Int} (h : Rg p n f) (hm : n ≤ m) : Rg p m f := ⟨Nat.le_trans h.1 hm, h.2⟩
theorem Rg.trim {p : Int} (hp : 0 < p) {f : List Int} : Rg p f.length (trim p f) := ⟨trim_len, fun _ h => trim_mem hp h⟩
theorem mulL2_len {p : Int} {f : List Int} {a b : Int} (hp : 0 < p) : Rg p (f.length + 1) (tms p f [a, b]) := by
  have h : ∃ g, mulL f [a, b] = g ++ [0] ∧ g.length = f.length + 1 := by
    have hl := mulL_len f [a, b]
    rcases List.eq_nil_or_concat (mulL f [a, b]) with e | ⟨g, z, e⟩
    · rw [e] at hl; simp at hl
    · refine ⟨g, ?_, ?_⟩
      · rw [List.concat_eq_append] at e
        rw [e]
        congr 1
        have key : ∀ (r l : List Int) (j : Nat), j + r.length + 1 < l.length → (mulAll [a, b] l j r)[l.length - 1]? = l[l.length - 1]? := by
          intro r
          induction r with
          | nil => intro l j _; rfl
          | cons c r ih =>
            intro l j hj
            rw [List.length_cons] at hj
            have hl2 : (mulRow c l j [a, b]).length = l.length := addRow_len
            show (mulAll [a, b] (mulRow c l j [a, b]) (j + 1) r)[l.length - 1]? = _
            rw [← hl2, ih _ _ (by rw [hl2]; omega), hl2]
            show (addAt (addAt l j (c * a)) (j + 1) (c * b))[l.length - 1]? = _
            unfold addAt
            rw [List.getElem?_set_ne (by omega), List.getElem?_set_ne (by omega)]
        have h2 := key f (List.replicate (f.length + [a, b].length) 0) 0 (by simp)
        have h3 : mulL f [a, b] = mulAll [a, b] (List.replicate (f.length + [a, b].length) 0) 0 f := rfl
        rw [← h3, e] at h2
        simp at h2
        have h4 : g.length = f.length + 1 := by
          rw [e] at hl; simp at hl; omega
        rw [← h4] at h2
        simpa using h2
      · rw [e] at hl; simp at hl; omega
  obtain ⟨g, hg, hl⟩ := h
  refine ⟨?_, fun _ h => trim_mem hp h⟩
  unfold tms trim
  rw [hg, List.map_append]
  show (trimZ (g.map (· % p) ++ [0 % p])).length ≤ _
  rw [Int.zero_emod, trimZ_zero]
  have := trimZ_len (g.map (· % p))
  rw [List.length_map] at this
  omega
theorem termS_rg {p x : Int} {k n j : Nat} {t : List Int} {o : Int} (hp : 0 < p) (h : Rg p n t) : Rg p (n + if j = k then 0 else 1) (termS p x k t j o) := by
  unfold termS
  by_cases e : j = k
  · rw [if_pos e, if_pos e]; exact h
  · rw [if_neg e, if_neg e]
    exact (mulL2_len hp).mono (by have := h.1; omega)
theorem termL_rg {p x : Int} {k : Nat} (hp : 0 < p) : ∀ {t : List Int} {j n : Nat} {r : List (Int × Int)}, Rg p n t → Rg p (n + r.length - if j ≤ k ∧ k < j + r.length then 1 else 0) (termL p x k t j r)
  | t, j, n, [], h => by
    show Rg p (n + 0 - if j ≤ k ∧ k < j + 0 then 1 else 0) t
    rw [if_neg (by omega)]; exact h
  | t, j, n, q :: r, h => by
    have h1 := termL_rg hp (t := termS p x k t j q.1) (j := j + 1) (r := r) (k := k) (x := x) (termS_rg (k := k) (j := j) (o := q.1) (x := x) hp h)
    refine Rg.mono h1 ?_
    rw [List.length_cons]
    repeat' split
    all_goals omega
def b_interpolate (iI iX iP : Nat) : List SS := [.set (.nm 2) (.tup []),
  .for_ (.tup [(.nm 3), (.tup [(.nm 4), (.nm 5)])]) (.enum (.var 1)) [.set (.nm 6) (.tup [(.bin .mod false (.var 5) (.var 0))]),
  .for_ (.tup [(.nm 7), (.tup [(.nm 8), (.nm 9)])]) (.enum (.var 1)) [.ite (.cmp .ne (.var 7) (.var 3)) [.set (.nm 10) (.call iI [(.var 0), (.bin .sub false (.var 4) (.var 8))]),
  .set (.nm 6) (.call iX [(.var 0), (.var 6), (.tup [(.bin .mod false (.bin .mul false (.neg (.var 8)) (.var 10)) (.var 0)), (.var 10)])])] []],
  .set (.nm 2) (.call iP [(.var 0), (.var 2), (.var 6)])],
  .ret (.var 2)]
def prD (q : Int × Int) : D := .tup [.int q.1, .int q.2]
def f_interpolate : Fn := fun ds st Q => match ds with
  | [.int p, d] => ∃ ps : List (Int × Int), asSeq st d = some (ps.map prD) ∧ (1 < p ∧ p < 2 ^ 64 ∧ ps.length ≤ 300 ∧ ∀ q ∈ ps, q.1.natAbs < 2 ^ 64) ∧ Q (iT (interp p ps)) st
  | _ => False
theorem m_interpolate : MonoFn f_interpolate := fun vs st Q Q' h q => by
  unfold f_interpolate at *
  split at q
  · obtain ⟨f, h1, h2, q⟩ := q
    exact ⟨f, h1, h2, h _ _ q⟩
  · exact q
theorem interp_rg {p : Int} (hp : 0 < p) {ps : List (Int × Int)} : ∀ {r : List (Int × Int)} {R : List Int} {k : Nat}, Rg p ps.length R → k + r.length ≤ ps.length → Rg p ps.length (intL p ps R k r)
  | [], R, k, h, _ => h
  | q :: r, R, k, h, hk => by
    rw [List.length_cons] at hk
    refine interp_rg hp (r := r) ?_ (by omega)
    have h1 : Rg p (1 + ps.length - if 0 ≤ k ∧ k < 0 + ps.length then 1 else 0) (termL p q.1 k [q.2 % p] 0 ps) := termL_rg hp ⟨Nat.le_refl _, fun x hx => by
      simp at hx; subst hx
      exact ⟨Int.emod_nonneg _ (by omega), Int.emod_lt_of_pos _ hp⟩⟩
    rw [if_pos (by omega)] at h1
    unfold intS pls
    refine Rg.mono (Rg.trim hp) ?_
    rw [addL_len]
    have := h.1
    have := h1.1
    omega
theorem o_interpolate {Φ : Fns} (hΦ : ∀ f, MonoFn (Φ f)) {iI iX iP : Nat} (hI : Φ iI = f_inverse) (hX : Φ iX = f_times) (hP : Φ iP = f_plus) {ds : List D} {st : Sto} {Q : Kd} (h : f_interpolate ds st Q) : xBody Φ (b_interpolate iI iX iP) st.length Q ⟨⟩ (ds.map some ++ List.replicate (11 - 2) none) st := by
  unfold f_interpolate at h
  split at h
  · rename_i p d
    obtain ⟨ps, hd, ⟨hp, hp2, hl, hs⟩, q⟩ := h
    unfold b_interpolate
    nomatch hd
    refine xand_mk (by decide) fun _ => ?_
    nomatch hd
    refine for_inv hΦ (fun i e s => ∃ x3 x4 x5 x6 x7 x8 x9 x10, e = [some (.int p), some d, some (iT (intL p ps [] 0 (ps.take i))), x3, x4, x5, x6, x7, x8, x9, x10] ∧ s = st) ⟨none, none, none, none, none, none, none, none, rfl, rfl⟩ (fun i e s _ h => ?_) ?_ ?_
    · obtain ⟨_, _, _, _, _, _, _, _, _, rfl⟩ := h
      exact hd
    · rintro k c _ st' hc ⟨x3, x4, x5, x6, x7, x8, x9, x10, rfl, rfl⟩
      obtain ⟨c, hc', rfl⟩ := enum_at hc
      obtain ⟨⟨x, y⟩, hq, rfl⟩ := map_at hc'
      have hk : k < ps.length := (List.getElem?_eq_some_iff.mp hq).1
      have hR := interp_rg (p := p) (by omega) (ps := ps) (r := ps.take k) (R := []) (k := 0) ⟨by simp, fun x hx => by cases hx⟩ (by simp; omega)
      nomatch prD
      refine xand_mk (by omega) fun _ => ?_
      nomatch hd
      refine xand_mk (by decide) fun _ => ?_
      nomatch hd
      have h0 : Rg p 1 [y % p] := ⟨Nat.le_refl _, fun x hx => by
        simp at hx; subst hx
        exact ⟨Int.emod_nonneg _ (by omega), Int.emod_lt_of_pos _ (by omega)⟩⟩
      refine for_inv hΦ (fun j e s => ∃ x7 x8 x9 x10, e = [some (.int p), some d, some (iT (intL p ps [] 0 (ps.take k))), some (.int k), some (.int x), some (.int y), some (iT (termL p x k [y % p] 0 (ps.take j))), x7, x8, x9, x10] ∧ s = st') ⟨x7, x8, x9, x10, rfl, rfl⟩ (fun i e s _ h => ?_) ?_ ?_
      · obtain ⟨_, _, _, _, _, rfl⟩ := h
        exact hd
      · rintro j c _ _ hc ⟨x7, x8, x9, x10, rfl, rfl⟩
        obtain ⟨c, hc', rfl⟩ := enum_at hc
        obtain ⟨⟨o, z⟩, hq2, rfl⟩ := map_at hc'
        have hj : j < ps.length := (List.getElem?_eq_some_iff.mp hq2).1
        have ho := hs _ (List.mem_of_getElem? hq2)
        have hT : Rg p (1 + (ps.take j).length) (termL p x k [y % p] 0 (ps.take j)) := Rg.mono (termL_rg (by omega) h0) (by omega)
        have hst : termL p x k [y % p] 0 (ps.take (j + 1)) = termS p x k (termL p x k [y % p] 0 (ps.take j)) j o := by
          rw [List.take_add_one, hq2]
          show termL p x k [y % p] 0 (ps.take j ++ [(o, z)]) = _
          rw [termL_snoc, show 0 + (ps.take j).length = j by simp; omega]
        nomatch prD
        refine xite_mk (fun hc => ?_) (fun hc => ?_)
        · have hjk : j ≠ k := fun e => by subst e; simp at hc
          simp_wf
          refine xK_inverse hI ⟨hp, hp2⟩ ?_
          have hi := inv_range (p := p) (a := x - o) (by omega)
          simp_wf
          refine xand_mk (cmul64 (by simp only at ho; omega) (by omega)) fun _ => ?_
          simp_wf
          refine xand_mk (by omega) fun _ => ?_
          simp_wf
          refine xand_mk (by decide) fun _ => ?_
          simp_wf
          refine xK_times (g := [-o * inv p (x - o) % p, inv p (x - o)]) hX ⟨by omega, ?_, by simp, fun w hx => ?_, fun w hx => ?_⟩ ?_
          · have := hT.1
            simp at this
            omega
          · have := hT.2 w hx
            omega
          · have hm : 0 ≤ -o * inv p (x - o) % p ∧ -o * inv p (x - o) % p < p := ⟨Int.emod_nonneg _ (by omega), Int.emod_lt_of_pos _ (by omega)⟩
            simp at hx
            rcases hx with rfl | rfl <;> omega
          · simp_wf
            rw [hst]
            unfold termS
            rw [if_neg hjk]
            exact ⟨_, _, _, _, rfl, rfl⟩
        · have hjk : j = k := by
            have : (j : Int) = k := by simpa using hc
            omega
          simp_wf
          rw [hst]
          unfold termS
          rw [if_pos hjk]
          exact ⟨_, _, _, _, rfl, rfl⟩
      · rintro _ _ ⟨x7, x8, x9, x10, rfl, rfl⟩
        rw [enumL_length, List.length_map, List.take_of_length_le (Nat.le_refl _)]
        simp_wf
        have h1 : Rg p (1 + ps.length) (termL p x k [y % p] 0 ps) := Rg.mono (termL_rg (by omega) h0) (by omega)
        refine xK_plus hP ⟨by omega, by have := hR.1; omega, by have := h1.1; omega⟩ ?_
        simp_wf
        rw [show intL p ps [] 0 (ps.take (k + 1)) = intS p ps (intL p ps [] 0 (ps.take k)) k (x, y) by
          rw [List.take_add_one, hq]
          show intL p ps [] 0 (ps.take k ++ [(x, y)]) = _
          rw [intL_snoc, show 0 + (ps.take k).length = k by simp; omega]]
        exact ⟨_, _, _, _, _, _, _, _, rfl, rfl⟩
    · rintro _ _ ⟨x3, x4, x5, x6, x7, x8, x9, x10, rfl, rfl⟩
      simp_wf
      rw [enumL_length, List.length_map, List.take_of_length_le (Nat.le_refl _)]
      exact fin_q q
  · exact h.elim
theorem xK_interpolate {Φ : Fns} {i : Nat} {p : Int} {d : D} {ps : List (Int × Int)} {st : Sto} {Q : Kd} {u} (hi : Φ i = f_interpolate) (hd : asSeq st d = some (ps.map prD)) (h1 : 1 < p ∧ p < 2 ^ 64 ∧ ps.length ≤ 300 ∧ ∀ q ∈ ps, q.1.natAbs < 2 ^ 64) (h : Q (iT (interp p ps)) st) : xK Φ i [.int p, d] st Q u := by
  unfold xK
  rw [hi]
  exact ⟨ps, hd, h1, h⟩

/-! == of tuples of numbers -/
theorem plT_ints (f : List Int) : plD (.tup (f.map .int)) = true := by simp only [plD]; exact plDs_ints f
theorem xdat_ints {n : Bool} {f g : List Int} {st : Sto} {Q : Bool → Sto → Prop} {u} : xdat n (.tup (f.map .int)) (.tup (g.map .int)) st Q u = Q (n ^^ (f == g)) st := by
  rw [xdat_pl (plT_ints f) (plT_ints g) (by simp only [dpD, dpDs_ints]; omega)]
  simp only [eqD, eqDs_ints]
/-! numbers modulo the primes of the laws -/
def primes : List Nat := [11, 13, 17, 31, 101]
theorem fermat_tab : (primes.all fun p => (List.range p).all fun a => a == 0 || (((a : Int) ^ (p - 2) % (p : Int) * (a : Int)) % (p : Int) == 1)) = true := by decide +kernel
theorem prime_ge {p : Int} (hp : ∃ n ∈ primes, p = (n : Int)) : 10 < p ∧ p < 102 := by
  obtain ⟨n, hn, rfl⟩ := hp
  simp [primes] at hn
  omega
theorem inv_ok {p a : Int} (hp : ∃ n ∈ primes, p = (n : Int)) (ha : a % p ≠ 0) : ME p (inv p a * a) 1 := by
  obtain ⟨n, hn, rfl⟩ := hp
  have hb := prime_ge ⟨n, hn, rfl⟩
  have h1 := List.all_eq_true.mp fermat_tab n hn
  have hr : 0 ≤ a % (n : Int) ∧ a % (n : Int) < n := ⟨Int.emod_nonneg _ (by omega), Int.emod_lt_of_pos _ (by omega)⟩
  have h2 := List.all_eq_true.mp h1 (a % (n : Int)).toNat (List.mem_range.mpr (by omega))
  simp only [Bool.or_eq_true, beq_iff_eq] at h2
  have h3 : ((a % (n : Int)).toNat : Int) = a % (n : Int) := by omega
  rcases h2 with h2 | h2
  · omega
  · rw [h3] at h2
    unfold inv
    rw [show ((n : Int) - 2).toNat = n - 2 by omega]
    have e1 : ME (n : Int) ((a % n) ^ (n - 2)) (a ^ (n - 2)) := (ME.md (p := (n : Int)) (x := a)).pow (n - 2)
    have e2 : ME (n : Int) (a ^ (n - 2) % n * a) ((a % n) ^ (n - 2) % n * (a % n)) := by
      have e3 : a ^ (n - 2) % n = (a % n) ^ (n - 2) % n := e1.symm
      rw [e3]
      exact (ME.refl _).mul ME.md.symm
    refine e2.trans ?_
    show _ = 1 % (n : Int)
    rw [h2, Int.emod_eq_of_lt (by omega) (by omega)]
theorem inv_pos {p a : Int} (hp : ∃ n ∈ primes, p = (n : Int)) (ha : a % p ≠ 0) : 1 ≤ inv p a ∧ inv p a < p ∧ inv p a * a % p = 1 := by
  have hb := prime_ge hp
  have h1 := inv_ok hp ha
  have h2 := inv_range (p := p) (a := a) (by omega)
  have h3 : inv p a * a % p = 1 := by
    have h4 : inv p a * a % p = 1 % p := h1
    rw [h4, Int.emod_eq_of_lt (by omega) (by omega)]
  refine ⟨?_, h2.2, h3⟩
  by_cases e : inv p a = 0
  · rw [e] at h3; simp at h3
  · omega
/-! what interpolate gives -/
theorem pe_termS {p x z : Int} {k j : Nat} {t : List Int} {o : Int} (h : j ≠ k) : ME p (pe (termS p x k t j o) z) (pe t z * ((z - o) * inv p (x - o))) := by
  unfold termS
  rw [if_neg h]
  unfold tms
  refine (pe_trim _).trans ?_
  rw [pe_mulL]
  refine (ME.refl _).mul ?_
  show ME p ((0 * z + inv p (x - o)) * z + -o * inv p (x - o) % p) _
  refine ((ME.refl _).add ME.md).trans ?_
  rw [show (0 * z + inv p (x - o)) * z + -o * inv p (x - o) = (z - o) * inv p (x - o) by grind]
  exact ME.refl _
theorem termS_at {p x : Int} {k : Nat} {t : List Int} {o : Int} : termS p x k t k o = t := by
  unfold termS
  rw [if_pos rfl]
theorem termL_dead {p x z : Int} {k : Nat} : ∀ {r : List (Int × Int)} {t : List Int} {j : Nat}, ME p (pe t z) 0 → ME p (pe (termL p x k t j r) z) 0
  | [], _, _, h => h
  | q :: r, t, j, h => by
    refine termL_dead (r := r) (j := j + 1) ?_
    by_cases e : j = k
    · subst e; rw [termS_at]; exact h
    · refine (pe_termS e).trans ?_
      have := h.mul (ME.refl ((z - q.1) * inv p (x - q.1)))
      rwa [Int.zero_mul] at this
theorem termL_zero {p x z : Int} {k : Nat} : ∀ {r : List (Int × Int)} {t : List Int} {j i : Nat} {q : Int × Int}, r[i]? = some q → j + i ≠ k → ME p z q.1 → ME p (pe (termL p x k t j r) z) 0
  | [], _, _, _, _, h, _, _ => by simp at h
  | c :: r, t, j, 0, q, h, hk, hz => by
    have : c = q := by simpa using h
    subst this
    refine termL_dead (r := r) (j := j + 1) ?_
    refine (pe_termS (by omega)).trans ?_
    have h1 : ME p (z - c.1) 0 := by
      have := hz.sub (ME.refl c.1)
      rwa [Int.sub_self] at this
    have := (ME.refl (pe t z)).mul (h1.mul (ME.refl (inv p (x - c.1))))
    rwa [Int.zero_mul, Int.mul_zero] at this
  | c :: r, t, j, i + 1, q, h, hk, hz => termL_zero (r := r) (j := j + 1) (i := i) (q := q) (by simpa using h) (by omega) hz
theorem termL_one {p x : Int} {k : Nat} (hp : ∃ n ∈ primes, p = (n : Int)) : ∀ {r : List (Int × Int)} {t : List Int} {j : Nat}, (∀ i q, r[i]? = some q → j + i ≠ k → (x - q.1) % p ≠ 0) → ME p (pe (termL p x k t j r) x) (pe t x)
  | [], _, _, _ => ME.refl _
  | c :: r, t, j, h => by
    refine (termL_one hp (r := r) (j := j + 1) fun i q hq hi => h (i + 1) q (by simpa using hq) (by omega)).trans ?_
    by_cases e : j = k
    · subst e; rw [termS_at]; exact ME.refl _
    · refine (pe_termS e).trans ?_
      have h1 := inv_ok hp (h 0 c rfl (by omega))
      rw [show (x - c.1) * inv p (x - c.1) = inv p (x - c.1) * (x - c.1) by grind]
      have := (ME.refl (pe t x)).mul h1
      rwa [Int.mul_one] at this
theorem intL_pe {p : Int} (hp : ∃ n ∈ primes, p = (n : Int)) {ps : List (Int × Int)} (hd : ∀ (i j : Nat) (a b : Int × Int), ps[i]? = some a → ps[j]? = some b → i ≠ j → (a.1 - b.1) % p ≠ 0) {i : Nat} {q : Int × Int} (hq : ps[i]? = some q) :
    ∀ {r : List (Int × Int)} {R : List Int} {k : Nat}, ps.drop k = r → ME p (pe (intL p ps R k r) q.1) (pe R q.1 + if k ≤ i ∧ i < k + r.length then q.2 else 0)
  | [], R, k, _ => by
    show ME p (pe R q.1) (pe R q.1 + if k ≤ i ∧ i < k + 0 then q.2 else 0)
    rw [if_neg (by omega), Int.add_zero]
    exact ME.refl _
  | c :: r, R, k, h => by
    have hk : ps[k]? = some c := by
      have := List.getElem?_drop (xs := ps) (i := k) (j := 0)
      rw [h] at this
      simpa using this.symm
    have h' : ps.drop (k + 1) = r := by rw [← List.drop_drop, h]; rfl
    refine (intL_pe hp hd hq (r := r) (k := k + 1) h').trans ?_
    have h1 : ME p (pe (intS p ps R k c) q.1) (pe R q.1 + pe (termL p c.1 k [c.2 % p] 0 ps) q.1) := by
      unfold intS pls
      refine (pe_trim _).trans ?_
      rw [pe_addL]
      exact ME.refl _
    rw [List.length_cons]
    by_cases e : i = k
    · subst e
      rw [hk] at hq
      cases hq
      rw [if_neg (by omega), if_pos (by omega), Int.add_zero]
      refine h1.trans ((ME.refl _).add ?_)
      refine (termL_one hp fun i' q' hq' hi' => hd i i' q q' hk hq' (by omega)).trans ?_
      show ME p (0 * q.1 + q.2 % p) q.2
      rw [Int.zero_mul, Int.zero_add]
      exact ME.md
    · have h2 : ME p (pe (termL p c.1 k [c.2 % p] 0 ps) q.1) 0 := termL_zero hq (by omega) (ME.refl _)
      have h3 := (ME.refl (pe R q.1)).add h2
      rw [Int.add_zero] at h3
      refine ((h1.trans h3).add (ME.refl _)).trans ?_
      by_cases e2 : k + 1 ≤ i ∧ i < k + 1 + r.length
      · rw [if_pos e2, if_pos (by omega)]; exact ME.refl _
      · rw [if_neg e2, if_neg (by omega)]; exact ME.refl _
theorem interp_pe {p : Int} (hp : ∃ n ∈ primes, p = (n : Int)) {ps : List (Int × Int)} (hd : ∀ (i j : Nat) (a b : Int × Int), ps[i]? = some a → ps[j]? = some b → i ≠ j → (a.1 - b.1) % p ≠ 0) {i : Nat} {q : Int × Int} (hq : ps[i]? = some q) :
    ME p (pe (interp p ps) q.1) q.2 := by
  have h := intL_pe hp hd hq (r := ps) (R := []) (k := 0) rfl
  have hi := (List.getElem?_eq_some_iff.mp hq).1
  rw [if_pos (by omega), pe_nil, Int.zero_add] at h
  exact h
theorem map_id_rg {p : Int} : ∀ {f : List Int}, (∀ x ∈ f, 0 ≤ x ∧ x < p) → f.map (· % p) = f
  | [], _ => rfl
  | a :: r, h => by
    rw [List.map_cons, map_id_rg fun x hx => h x (List.mem_cons_of_mem _ hx)]
    have := h a List.mem_cons_self
    rw [Int.emod_eq_of_lt this.1 this.2]
theorem trim_trim {p : Int} (hp : 0 < p) (f : List Int) : trim p (trim p f) = trim p f := by
  have h : (trim p f).map (· % p) = trim p f := map_id_rg fun x hx => trim_mem hp hx
  unfold trim at h ⊢
  rw [h, trimZ_idem]
theorem interp_form {p : Int} (hp : 0 < p) (ps : List (Int × Int)) : interp p ps = [] ∨ ∃ f, interp p ps = trim p f := by
  unfold interp
  rcases List.eq_nil_or_concat ps with h | ⟨r, q, h⟩
  · rw [h]; exact .inl rfl
  · refine .inr ?_
    have : intL p ps [] 0 ps = intS p ps (intL p ps [] 0 r) (0 + r.length) q := by
      rw [← intL_snoc]
      congr 1
      rw [h, List.concat_eq_append]
    rw [this]
    exact ⟨_, rfl⟩
theorem interp_canon {p : Int} (hp : 0 < p) (ps : List (Int × Int)) : trim p (interp p ps) = interp p ps := by
  rcases interp_form hp ps with h | ⟨f, h⟩
  · rw [h]; rfl
  · rw [h, trim_trim hp]
theorem addL_get (f g : List Int) : addL f g = (List.range (max f.length g.length)).map fun j => f.getD j 0 + g.getD j 0 := by
  have key : ∀ (r l : List Int) (j i : Nat), (addRow l j r)[i]? = l[i]?.map fun v => if j ≤ i ∧ i < j + r.length then v + r.getD (i - j) 0 else v := by
    intro r
    induction r with
    | nil =>
      intro l j i
      show l[i]? = _
      cases l[i]? with
      | none => rfl
      | some v => simp only [Option.map_some]; rw [if_neg (by simp)]
    | cons c r ih =>
      intro l j i
      show (addRow (addAt l j c) (j + 1) r)[i]? = _
      rw [ih]
      unfold addAt
      rw [List.getElem?_set]
      by_cases e : j = i
      · subst e
        rw [if_pos rfl]
        by_cases hl : j < l.length
        · rw [if_pos hl, getD_of hl]
          simp only [Option.map_some]
          rw [if_neg (by omega), if_pos (by simp)]
          simp
        · rw [if_neg hl, List.getElem?_eq_none (by omega)]; rfl
      · rw [if_neg e]
        cases l[i]? with
        | none => rfl
        | some v =>
          simp only [Option.map_some, List.length_cons]
          by_cases e2 : j + 1 ≤ i ∧ i < j + 1 + r.length
          · rw [if_pos e2, if_pos (by omega)]
            rw [show i - j = (i - (j + 1)) + 1 by omega]
            rfl
          · rw [if_neg e2, if_neg (by omega)]
  apply List.ext_getElem?
  intro i
  unfold addL
  rw [key, List.getElem?_map]
  by_cases hi : i < max f.length g.length
  · rw [List.getElem?_range hi]
    have h1 : (f ++ List.replicate (g.length - f.length) 0)[i]? = some (f.getD i 0) := by
      by_cases hf : i < f.length
      · rw [List.getElem?_append_left hf, getD_of hf]
      · rw [List.getElem?_append_right (by omega), List.getElem?_replicate, if_pos (by omega), List.getD_eq_getElem?_getD, List.getElem?_eq_none (by omega)]; rfl
    rw [h1]
    simp only [Option.map_some, Nat.zero_add, Nat.sub_zero, Nat.zero_le, true_and]
    by_cases hg : i < g.length
    · rw [if_pos hg]
    · rw [if_neg hg, List.getD_eq_getElem?_getD (l := g), List.getElem?_eq_none (by omega)]
      simp
  · rw [List.getElem?_eq_none (l := f ++ _) (by simp; omega), List.getElem?_eq_none (by simp; omega)]
    rfl

/-! values without truth values: numbers, texts, None, tuples -/
mutual
def pvD : D → Bool
  | .non => true
  | .int _ => true
  | .str x => PyData.strOk x && decide (x.length ≤ 1000)
  | .tup xs => pvDs xs
  | _ => false
def pvDs : List D → Bool
  | [] => true
  | x :: r => pvD x && pvDs r
end
mutual
def szD : D → Nat
  | .tup xs => szDs xs + 1
  | _ => 1
def szDs : List D → Nat
  | [] => 0
  | x :: r => szD x + szDs r
end
theorem pvDs_iff : ∀ {xs : List D}, pvDs xs = true ↔ ∀ x ∈ xs, pvD x = true
  | [] => by simp [pvDs]
  | x :: r => by simp [pvDs, pvDs_iff (xs := r)]
theorem pv_tup {xs : List D} : pvD (.tup xs) = true ↔ ∀ x ∈ xs, pvD x = true := by
  simp only [pvD]; exact pvDs_iff
mutual
theorem plD_pv : ∀ {d : D}, pvD d = true → plD d = true
  | .non, _ => rfl
  | .int _, _ => rfl
  | .str x, h => by
    simp only [pvD, Bool.and_eq_true] at h
    simpa only [plD] using h.1
  | .tup xs, h => by
    simp only [pvD] at h
    simp only [plD]
    exact plDs_pv h
  | .bl _, h => by simp only [pvD] at h; cases h
  | .lst _, h => by simp only [pvD] at h; cases h
  | .ro _, h => by simp only [pvD] at h; cases h
  | .dK _, h => by simp only [pvD] at h; cases h
  | .dT _, h => by simp only [pvD] at h; cases h
  | .ins _ _, h => by simp only [pvD] at h; cases h
  | .loc _, h => by simp only [pvD] at h; cases h
  | .lck _, h => by simp only [pvD] at h; cases h
  | .rd _, h => by simp only [pvD] at h; cases h
theorem plDs_pv : ∀ {ds : List D}, pvDs ds = true → plDs ds = true
  | [], _ => rfl
  | d :: r, h => by
    simp only [pvDs, Bool.and_eq_true] at h
    simp only [plDs, plD_pv h.1, plDs_pv h.2, Bool.and_self]
end
theorem pv_cases {d : D} (h : pvD d = true) : d = .non ∨ (∃ i, d = .int i) ∨ (∃ x, d = .str x) ∨ ∃ xs, d = .tup xs ∧ ∀ x ∈ xs, pvD x = true := by
  cases d with
  | non => exact .inl rfl
  | int i => exact .inr (.inl ⟨i, rfl⟩)
  | str x => exact .inr (.inr (.inl ⟨x, rfl⟩))
  | tup xs => exact .inr (.inr (.inr ⟨xs, rfl, pv_tup.mp h⟩))
  | _ => simp only [pvD] at h; cases h
theorem plain_isTuple {d : D} (h : pvD d = true) {m : Bool} {st : Sto} {Q : Kd} {u} : xblt .isTuple m [d] st Q u = Q (.bl (match d with | .tup _ => true | _ => false)) st := by
  rcases pv_cases h with rfl | ⟨i, rfl⟩ | ⟨x, rfl⟩ | ⟨xs, rfl, _⟩ <;> rfl
/-! whole numbers within bounds -/
def isI (d : D) (lo hi : Int) : Bool := match d with
  | .int i => decide (lo ≤ i) && decide (i ≤ hi)
  | _ => false
theorem isI_iff {d : D} {lo hi : Int} : isI d lo hi = true ↔ ∃ i, d = .int i ∧ lo ≤ i ∧ i ≤ hi := by
  unfold isI
  split
  · simp
  · rename_i h
    constructor
    · intro e; cases e
    · rintro ⟨i, rfl, _⟩; exact absurd rfl (h i)
def b_isint : List SS := [.ret (.land (.blt .isInt false [(.var 0)]) (.land (.lnot (.blt .isBool false [(.var 0)])) (.chain .le .le (.var 1) (.var 0) (.var 2))))]
def b_whole : List SS := [.ret (.land (.blt .isInt false [(.var 0)]) (.land (.lnot (.blt .isBool false [(.var 0)])) (.land (.cmp .ge (.var 0) (.var 1)) (.cmp .le (.var 0) (.var 2)))))]
def f_isint : Fn := fun ds st Q => match ds with
  | [d, .int lo, .int hi] => pvD d = true ∧ Q (.bl (isI d lo hi)) st
  | _ => False
theorem m_isint : MonoFn f_isint := fun vs st Q Q' h q => by
  unfold f_isint at *
  split at q
  · exact ⟨q.1, h _ _ q.2⟩
  · exact q
theorem o_isint {Φ : Fns} {ds : List D} {st : Sto} {Q : Kd} (h : f_isint ds st Q) : xBody Φ b_isint st.length Q ⟨⟩ (ds.map some ++ List.replicate (3 - 3) none) st := by
  unfold f_isint at h
  split at h
  · rename_i d lo hi
    obtain ⟨hp, q⟩ := h
    unfold b_isint
    rcases pv_cases hp with rfl | ⟨i, rfl⟩ | ⟨x, rfl⟩ | ⟨xs, rfl, _⟩
    · simp_wf; exact fin_q q
    · simp_wf
      have : isI (.int i) lo hi = (decide (lo ≤ i) && decide (i ≤ hi)) := rfl
      rw [this] at q
      refine xite_mk (fun h => ?_) (fun h => ?_)
      · rw [h, Bool.true_and] at q
        simp_wf; exact fin_q q
      · rw [h, Bool.false_and] at q
        simp_wf; exact fin_q q
    · simp_wf; exact fin_q q
    · simp_wf; exact fin_q q
  · exact h.elim
theorem o_whole {Φ : Fns} {ds : List D} {st : Sto} {Q : Kd} (h : f_isint ds st Q) : xBody Φ b_whole st.length Q ⟨⟩ (ds.map some ++ List.replicate (3 - 3) none) st := by
  unfold f_isint at h
  split at h
  · rename_i d lo hi
    obtain ⟨hp, q⟩ := h
    unfold b_whole
    rcases pv_cases hp with rfl | ⟨i, rfl⟩ | ⟨x, rfl⟩ | ⟨xs, rfl, _⟩
    · simp_wf; exact fin_q q
    · simp_wf
      have : isI (.int i) lo hi = (decide (lo ≤ i) && decide (i ≤ hi)) := rfl
      rw [this] at q
      refine xite_mk (fun h => ?_) (fun h => ?_)
      · rw [h, Bool.true_and] at q
        simp_wf; exact fin_q q
      · rw [h, Bool.false_and] at q
        simp_wf; exact fin_q q
    · simp_wf; exact fin_q q
    · simp_wf; exact fin_q q
  · exact h.elim
theorem xK_isint {Φ : Fns} {i : Nat} {d : D} {lo hi : Int} {st : Sto} {Q : Kd} {u} (hi' : Φ i = f_isint) (h1 : pvD d = true) (h : Q (.bl (isI d lo hi)) st) : xK Φ i [d, .int lo, .int hi] st Q u := by
  unfold xK
  rw [hi']
  exact ⟨h1, h⟩
/-! addresses -/
def setupD (p n t m : Int) : D := .tup [.int p, .int n, .int t, .int m]
/-- what an address is -/
def adr (n t m : Int) (v : D) : Bool := match v with
  | .tup [.int 1, a, b, c, d] => isI a 1 n && isI b 1 n && !(eqD b a) && isI c 0 (m - 1) && isI d 0 t
  | .tup [.int 2, a, b, c, d] => isI a 1 n && isI b 1 n && !(eqD b a) && isI c 1 n && isI d 0 (m - 1)
  | .tup [.int 3, a, b, c, d] => isI a 1 n && isI b 0 0 && isI c 1 n && isI d 1 n && !(eqD d a)
  | .tup [.int 4, a, b, c, d, e] => isI a 1 n && isI b 0 0 && isI c 1 n && isI d 1 n && !(eqD d c) && isI e 0 (m - 1)
  | .tup [.int 5, a, b, c] => isI a 1 n && isI b 0 0 && isI c 1 n
  | .tup [.int 6, a, b, c, d, e] => isI a 1 n && isI b 0 0 && isI c 1 n && isI d 0 (m - 1) && isI e 0 t
  | .tup [.int 7, a, b, c] => isI a 1 n && isI b 0 0 && isI c 1 n
  | .tup [.int 8, a, b, c] => isI a 1 n && isI b 0 0 && isI c 0 (m - 1)
  | _ => false
theorem len4 {xs : List D} (h : xs.length = 4) : ∃ a b c d, xs = [a, b, c, d] := match xs, h with | [a, b, c, d], _ => ⟨a, b, c, d, rfl⟩
theorem len3 {xs : List D} (h : xs.length = 3) : ∃ a b c, xs = [a, b, c] := match xs, h with | [a, b, c], _ => ⟨a, b, c, rfl⟩
theorem len5 {xs : List D} (h : xs.length = 5) : ∃ a b c d e, xs = [a, b, c, d, e] := match xs, h with | [a, b, c, d, e], _ => ⟨a, b, c, d, e, rfl⟩
theorem len2 {xs : List D} (h : xs.length = 2) : ∃ a b, xs = [a, b] := match xs, h with | [a, b], _ => ⟨a, b, rfl⟩
theorem adr_false {n t m : Int} {x : D} {r : List D} (h : isI x 1 8 = false) : adr n t m (.tup (x :: r)) = false := by
  unfold adr
  split <;> first | rfl | (rename_i e; simp only [D.tup.injEq, List.cons.injEq] at e; obtain ⟨rfl, _⟩ := e; cases h)
def lenOf (s : Int) : Int := if s = 4 ∨ s = 6 then 6 else if s = 5 ∨ s = 7 ∨ s = 8 then 4 else 5
theorem adr_len {n t m : Int} {s : Int} {r : List D} (h : ((r.length : Int) + 1) ≠ lenOf s) : adr n t m (.tup (.int s :: r)) = false := by
  unfold adr
  split <;> first | rfl | (rename_i e; simp only [D.tup.injEq, List.cons.injEq, D.int.injEq] at e; obtain ⟨rfl, rfl⟩ := e; exact (h (by simp [lenOf])).elim)

/-! the program's and the law's look at an address -/
def b_isaddr (iI : Nat) : List SS := [.set (.tup [(.nm 2), (.nm 3), (.nm 4), (.nm 5)]) (.var 0),
  .ite (.lor (.lnot (.val (.blt .isTuple false [(.var 1)]))) (.lor (.cmp .eq (.blt .len false [(.var 1)]) (.con (.int 0))) (.lnot (.val (.call iI [(.idx (.var 1) (.con (.int 0))), (.con (.int 1)), (.con (.int 8))]))))) [.ret (.con (.bl false))] [],
  .set (.nm 6) (.idx (.var 1) (.con (.int 0))),
  .ite (.lor (.cmp .ne (.blt .len false [(.var 1)]) (.idx (.con (.rd [(1, 5), (2, 5), (3, 5), (4, 6), (5, 4), (6, 6), (7, 4), (8, 4)])) (.var 6))) (.lnot (.val (.call iI [(.idx (.var 1) (.con (.int 1))), (.con (.int 1)), (.var 3)])))) [.ret (.con (.bl false))] [],
  .ite (.cmp .le (.var 6) (.con (.int 2))) [.ite (.lor (.lnot (.val (.call iI [(.idx (.var 1) (.con (.int 2))), (.con (.int 1)), (.var 3)]))) (.cmp .eq (.idx (.var 1) (.con (.int 2))) (.idx (.var 1) (.con (.int 1))))) [.ret (.con (.bl false))] [],
  .ite (.cmp .eq (.var 6) (.con (.int 1))) [.ret (.land (.call iI [(.idx (.var 1) (.con (.int 3))), (.con (.int 0)), (.bin .sub false (.var 5) (.con (.int 1)))]) (.call iI [(.idx (.var 1) (.con (.int 4))), (.con (.int 0)), (.var 4)]))] [],
  .ret (.land (.call iI [(.idx (.var 1) (.con (.int 3))), (.con (.int 1)), (.var 3)]) (.call iI [(.idx (.var 1) (.con (.int 4))), (.con (.int 0)), (.bin .sub false (.var 5) (.con (.int 1)))]))] [],
  .ite (.lnot (.val (.call iI [(.idx (.var 1) (.con (.int 2))), (.con (.int 0)), (.con (.int 0))]))) [.ret (.con (.bl false))] [],
  .ite (.cmp .eq (.var 6) (.con (.int 8))) [.ret (.call iI [(.idx (.var 1) (.con (.int 3))), (.con (.int 0)), (.bin .sub false (.var 5) (.con (.int 1)))])] [],
  .ite (.lnot (.val (.call iI [(.idx (.var 1) (.con (.int 3))), (.con (.int 1)), (.var 3)]))) [.ret (.con (.bl false))] [],
  .ite (.cmp .eq (.var 6) (.con (.int 3))) [.ret (.land (.call iI [(.idx (.var 1) (.con (.int 4))), (.con (.int 1)), (.var 3)]) (.cmp .ne (.idx (.var 1) (.con (.int 4))) (.idx (.var 1) (.con (.int 1)))))] [],
  .ite (.cmp .eq (.var 6) (.con (.int 4))) [.ret (.land (.call iI [(.idx (.var 1) (.con (.int 4))), (.con (.int 1)), (.var 3)]) (.land (.cmp .ne (.idx (.var 1) (.con (.int 4))) (.idx (.var 1) (.con (.int 3)))) (.call iI [(.idx (.var 1) (.con (.int 5))), (.con (.int 0)), (.bin .sub false (.var 5) (.con (.int 1)))])))] [],
  .ite (.cmp .eq (.var 6) (.con (.int 6))) [.ret (.land (.call iI [(.idx (.var 1) (.con (.int 4))), (.con (.int 0)), (.bin .sub false (.var 5) (.con (.int 1)))]) (.call iI [(.idx (.var 1) (.con (.int 5))), (.con (.int 0)), (.var 4)]))] [],
  .ret (.con (.bl true))]
def f_isaddr : Fn := fun ds st Q => match ds with
  | [.tup [.int _, .int n, .int t, .int m], v] => pvD v = true ∧ Q (.bl (adr n t m v)) st
  | _ => False
theorem m_isaddr : MonoFn f_isaddr := fun vs st Q Q' h q => by
  unfold f_isaddr at *
  split at q
  · exact ⟨q.1, h _ _ q.2⟩
  · exact q
theorem eight {i : Int} (h1 : 1 ≤ i) (h2 : i ≤ 8) : i = 1 ∨ i = 2 ∨ i = 3 ∨ i = 4 ∨ i = 5 ∨ i = 6 ∨ i = 7 ∨ i = 8 := by omega
/-- a fork whose ways all end -/
theorem fin_eq {n : Nat} {Q : Kd} {b c : Bool} {st : Sto} (q : Q (.bl b) st) (h : b = c) : MI.Fin n Q (.bl c) st := h ▸ fin_q q
theorem xK_isintT {Φ : Fns} {i : Nat} {d : D} {lo hi : Int} {st : Sto} {Q : Kd} {u} (hi' : Φ i = f_isint) (h1 : pvD d = true) (h : Q (.bl (isI d lo hi)) st) : xK Φ i [d, .int lo, .int hi] st Q u := xK_isint hi' h1 h
theorem isI_dp {d : D} {lo hi : Int} (h : isI d lo hi = true) : dpD d = 0 := by
  obtain ⟨i, rfl, _⟩ := isI_iff.mp h; rfl
theorem xcmp_eqV {x y : D} {lo hi : Int} {st : Sto} {Q : Bool → Sto → Prop} {u} (hx : pvD x = true) (hy : pvD y = true) (h : isI x lo hi = true) (q : Q (eqD x y) st) : xcmp .eq x y st Q u := by
  rw [xcmp_eqP (plD_pv hx) (plD_pv hy) (by rw [isI_dp h, Nat.zero_min]; omega)]; exact q
theorem xcmp_neV {x y : D} {lo hi : Int} {st : Sto} {Q : Bool → Sto → Prop} {u} (hx : pvD x = true) (hy : pvD y = true) (h : isI x lo hi = true) (q : Q (!eqD x y) st) : xcmp .ne x y st Q u := by
  rw [xcmp_neP (plD_pv hx) (plD_pv hy) (by rw [isI_dp h, Nat.zero_min]; omega)]; exact q
theorem o_isaddr {Φ : Fns} {iI : Nat} (hI : Φ iI = f_isint) {ds : List D} {st : Sto} {Q : Kd} (h : f_isaddr ds st Q) : xBody Φ (b_isaddr iI) st.length Q ⟨⟩ (ds.map some ++ List.replicate (7 - 2) none) st := by
  unfold f_isaddr at h
  split at h
  · rename_i p n t m v
    obtain ⟨hp, q⟩ := h
    unfold b_isaddr
    simp_wf
    rcases pv_cases hp with rfl | ⟨i, rfl⟩ | ⟨x, rfl⟩ | ⟨xs, rfl, hx⟩
    · simp_wf; exact fin_q q
    · simp_wf; exact fin_q q
    · simp_wf; exact fin_q q
    · simp_wf
      cases xs with
      | nil => simp_wf; exact fin_q q
      | cons x r =>
        have hx0 := hx x (by simp)
        rw [show ((((x :: r).length : Nat) : Int) == 0) = false by rw [List.length_cons]; exact beq_eq_false_iff_ne.mpr (by omega)]
        simp_wf
        refine xK_isint hI hx0 ?_
        simp_wf
        cases h0 : isI x 1 8 with
        | false => simp_wf; exact fin_eq q (adr_false h0)
        | true =>
          obtain ⟨s, rfl, h1, h8⟩ := isI_iff.mp h0
          simp_wf
          have hl : List.lookup s [((1 : Int), (5 : Int)), (2, 5), (3, 5), (4, 6), (5, 4), (6, 6), (7, 4), (8, 4)] = some (lenOf s) := by
            rcases eight h1 h8 with rfl | rfl | rfl | rfl | rfl | rfl | rfl | rfl <;> rfl
          nomatch hl
          by_cases hlen : ((r.length : Int) + 1) = lenOf s
          · rw [show (!((r.length + 1 : Nat) : Int) == lenOf s) = false by rw [Bool.not_eq_false', beq_iff_eq]; omega]
            have hr : r.length = 4 ∨ r.length = 5 ∨ r.length = 3 := by unfold lenOf at hlen; (repeat' split at hlen) <;> omega
            obtain ⟨a, r', rfl⟩ : ∃ a r', r = a :: r' := by
              cases r with
              | nil => simp at hr
              | cons a r' => exact ⟨a, r', rfl⟩
            have hxa := hx a (by simp)
            simp_wf
            refine xK_isint hI hxa ?_
            simp_wf
            rcases eight h1 h8 with rfl | rfl | rfl | rfl | rfl | rfl | rfl | rfl
            all_goals first
              | rw [show lenOf 1 = 5 by decide] at hlen
              | rw [show lenOf 2 = 5 by decide] at hlen
              | rw [show lenOf 3 = 5 by decide] at hlen
              | rw [show lenOf 4 = 6 by decide] at hlen
              | rw [show lenOf 5 = 4 by decide] at hlen
              | rw [show lenOf 6 = 6 by decide] at hlen
              | rw [show lenOf 7 = 4 by decide] at hlen
              | rw [show lenOf 8 = 4 by decide] at hlen
            all_goals rw [List.length_cons] at hlen
            all_goals first
              | (have hq : r'.length = 3 := (by omega); obtain ⟨b, c, d, rfl⟩ := len3 hq; have hb := hx b (by simp); have hc := hx c (by simp); have hd := hx d (by simp))
              | (have hq : r'.length = 2 := (by omega); obtain ⟨b, c, rfl⟩ := len2 hq; have hb := hx b (by simp); have hc := hx c (by simp))
              | (have hq : r'.length = 4 := (by omega); obtain ⟨b, c, d, e, rfl⟩ := len4 hq; have hb := hx b (by simp); have hc := hx c (by simp); have hd := hx d (by simp); have he := hx e (by simp))
            all_goals simp_wf
            all_goals repeat' (first
              | (refine xK_isint hI (by assumption) ?_; simp_wf; done)
              | (refine xK_isint hI (by assumption) ?_; simp_wf)
              | (refine xcmp_eqV (by assumption) (by assumption) (by assumption) ?_; simp_wf)
              | (refine xcmp_neV (by assumption) (by assumption) (by assumption) ?_; simp_wf)
              | (refine xite_mk (fun h => ?_) (fun h => ?_) <;> (try rw [Bool.not_eq_true'] at h) <;> (try rw [Bool.not_eq_false'] at h) <;> simp_wf))
            all_goals first
              | (exact fin_eq q (by simp_all [adr]))
              | trace_state
          · rw [show (!((r.length + 1 : Nat) : Int) == lenOf s) = true by rw [Bool.not_eq_true', beq_eq_false_iff_ne]; omega]
            simp_wf
            exact fin_eq q (adr_len hlen)
  · exact h.elim

/-! the law's look at an address -/
def b_ladr (iW : Nat) : List SS := [.set (.tup [(.nm 2), (.nm 3), (.nm 4), (.nm 5)]) (.var 0),
  .ite (.lor (.lnot (.val (.blt .isTuple false [(.var 1)]))) (.lor (.cmp .lt (.blt .len false [(.var 1)]) (.con (.int 4))) (.lor (.lnot (.val (.call iW [(.idx (.var 1) (.con (.int 0))), (.con (.int 1)), (.con (.int 8))]))) (.lnot (.val (.call iW [(.idx (.var 1) (.con (.int 1))), (.con (.int 1)), (.var 3)])))))) [.ret (.con (.bl false))] [],
  .set (.nm 6) (.idx (.var 1) (.con (.int 0))),
  .ite (.lor (.cmp .ne (.blt .len false [(.var 1)]) (.idx (.lst false [(.con (.int 5)), (.con (.int 5)), (.con (.int 5)), (.con (.int 6)), (.con (.int 4)), (.con (.int 6)), (.con (.int 4)), (.con (.int 4))]) (.bin .sub false (.var 6) (.con (.int 1))))) (.lnot (.val (.blt .all false [(.lc false (.call iW [(.var 7), (.con (.int 0)), (.con (.int 1000))]) (.nm 7) (.seq (.var 1)) none [7])])))) [.ret (.con (.bl false))] [],
  .ite (.cmp .lt (.var 6) (.con (.int 3))) [.ite (.lor (.cmp .lt (.idx (.var 1) (.con (.int 2))) (.con (.int 1))) (.lor (.cmp .gt (.idx (.var 1) (.con (.int 2))) (.var 3)) (.cmp .eq (.idx (.var 1) (.con (.int 2))) (.idx (.var 1) (.con (.int 1)))))) [.ret (.con (.bl false))] [],
  .ite (.cmp .eq (.var 6) (.con (.int 1))) [.ret (.land (.cmp .lt (.idx (.var 1) (.con (.int 3))) (.var 5)) (.cmp .le (.idx (.var 1) (.con (.int 4))) (.var 4)))] [],
  .ret (.land (.cmp .gt (.idx (.var 1) (.con (.int 3))) (.con (.int 0))) (.land (.cmp .le (.idx (.var 1) (.con (.int 3))) (.var 3)) (.cmp .lt (.idx (.var 1) (.con (.int 4))) (.var 5))))] [],
  .ite (.cmp .ne (.idx (.var 1) (.con (.int 2))) (.con (.int 0))) [.ret (.con (.bl false))] [],
  .ite (.cmp .eq (.var 6) (.con (.int 8))) [.ret (.cmp .lt (.idx (.var 1) (.con (.int 3))) (.var 5))] [],
  .ite (.lor (.cmp .lt (.idx (.var 1) (.con (.int 3))) (.con (.int 1))) (.cmp .gt (.idx (.var 1) (.con (.int 3))) (.var 3))) [.ret (.con (.bl false))] [],
  .ite (.cmp .eq (.var 6) (.con (.int 3))) [.ret (.land (.cmp .gt (.idx (.var 1) (.con (.int 4))) (.con (.int 0))) (.land (.cmp .le (.idx (.var 1) (.con (.int 4))) (.var 3)) (.cmp .ne (.idx (.var 1) (.con (.int 4))) (.idx (.var 1) (.con (.int 1))))))] [],
  .ite (.cmp .eq (.var 6) (.con (.int 4))) [.ret (.land (.cmp .gt (.idx (.var 1) (.con (.int 4))) (.con (.int 0))) (.land (.cmp .le (.idx (.var 1) (.con (.int 4))) (.var 3)) (.land (.cmp .ne (.idx (.var 1) (.con (.int 4))) (.idx (.var 1) (.con (.int 3)))) (.cmp .lt (.idx (.var 1) (.con (.int 5))) (.var 5)))))] [],
  .ret (.lor (.cmp .ne (.var 6) (.con (.int 6))) (.land (.cmp .lt (.idx (.var 1) (.con (.int 4))) (.var 5)) (.cmp .le (.idx (.var 1) (.con (.int 5))) (.var 4))))]
def f_ladr : Fn := fun ds st Q => match ds with
  | [.tup [.int _, .int n, .int t, .int m], v] => (pvD v = true ∧ n ≤ 1000 ∧ t ≤ 1000 ∧ m ≤ 1000) ∧ Q (.bl (adr n t m v)) st
  | _ => False
theorem m_ladr : MonoFn f_ladr := fun vs st Q Q' h q => by
  unfold f_ladr at *
  split at q
  · exact ⟨q.1, h _ _ q.2⟩
  · exact q
theorem adr_short {n t m : Int} {xs : List D} (h : xs.length < 4) : adr n t m (.tup xs) = false := by
  unfold adr
  split <;> first | rfl | (rename_i e; simp only [D.tup.injEq] at e; subst e; simp at h)
theorem adr_two {n t m : Int} {x a : D} {r : List D} (h : isI a 1 n = false) : adr n t m (.tup (x :: a :: r)) = false := by
  unfold adr
  split <;> first | rfl | (rename_i e; simp only [D.tup.injEq, List.cons.injEq] at e; obtain ⟨rfl, rfl, rfl⟩ := e; rw [h]; simp)
theorem isI_wide {d : D} {lo hi : Int} (h : isI d lo hi = true) (h1 : 0 ≤ lo) (h2 : hi ≤ 1000) : isI d 0 1000 = true := by
  obtain ⟨i, rfl, a, b⟩ := isI_iff.mp h
  exact isI_iff.mpr ⟨i, rfl, by omega, by omega⟩
/-- an address holds small numbers alone -/
theorem adr_small {n t m : Int} {xs : List D} (hn : n ≤ 1000) (ht : t ≤ 1000) (hm : m ≤ 1000) (h : adr n t m (.tup xs) = true) : ∀ x ∈ xs, isI x 0 1000 = true := by
  unfold adr at h
  split at h
  all_goals first
    | (rename_i e; simp only [D.tup.injEq] at e; subst e; simp only [Bool.and_eq_true] at h
       intro x hx
       simp only [List.mem_cons, List.not_mem_nil, or_false] at hx
       have hs : ∀ k : Int, 0 ≤ k → k ≤ 8 → isI (.int k) 0 1000 = true := fun k h1 h2 => isI_iff.mpr ⟨k, rfl, h1, by omega⟩
       rcases hx with rfl | rfl | rfl | rfl | rfl | rfl
       all_goals first
         | exact hs _ (by decide) (by decide)
         | exact isI_wide h.1.1.1.1.1 (by decide) (by omega)
         | exact isI_wide h.1.1.1.1.2 (by decide) (by omega)
         | exact isI_wide h.1.1.1.1 (by decide) (by omega)
         | exact isI_wide h.1.1.1.2 (by decide) (by omega)
         | exact isI_wide h.1.1.1 (by decide) (by omega)
         | exact isI_wide h.1.1.2 (by decide) (by omega)
         | exact isI_wide h.1.1 (by decide) (by omega)
         | exact isI_wide h.1.2 (by decide) (by omega)
         | exact isI_wide h.2 (by decide) (by omega))
    | (rename_i e; simp only [D.tup.injEq] at e; subst e; simp only [Bool.and_eq_true] at h
       intro x hx
       simp only [List.mem_cons, List.not_mem_nil, or_false] at hx
       have hs : ∀ k : Int, 0 ≤ k → k ≤ 8 → isI (.int k) 0 1000 = true := fun k h1 h2 => isI_iff.mpr ⟨k, rfl, h1, by omega⟩
       rcases hx with rfl | rfl | rfl | rfl | rfl
       all_goals first
         | exact hs _ (by decide) (by decide)
         | exact isI_wide h.1.1.1.1.1 (by decide) (by omega)
         | exact isI_wide h.1.1.1.1.2 (by decide) (by omega)
         | exact isI_wide h.1.1.1.1 (by decide) (by omega)
         | exact isI_wide h.1.1.1.2 (by decide) (by omega)
         | exact isI_wide h.1.1.1 (by decide) (by omega)
         | exact isI_wide h.1.1.2 (by decide) (by omega)
         | exact isI_wide h.1.1 (by decide) (by omega)
         | exact isI_wide h.1.2 (by decide) (by omega)
         | exact isI_wide h.2 (by decide) (by omega))
    | (rename_i e; simp only [D.tup.injEq] at e; subst e; simp only [Bool.and_eq_true] at h
       intro x hx
       simp only [List.mem_cons, List.not_mem_nil, or_false] at hx
       have hs : ∀ k : Int, 0 ≤ k → k ≤ 8 → isI (.int k) 0 1000 = true := fun k h1 h2 => isI_iff.mpr ⟨k, rfl, h1, by omega⟩
       rcases hx with rfl | rfl | rfl | rfl
       all_goals first
         | exact hs _ (by decide) (by decide)
         | exact isI_wide h.1.1.1.1.1 (by decide) (by omega)
         | exact isI_wide h.1.1.1.1.2 (by decide) (by omega)
         | exact isI_wide h.1.1.1.1 (by decide) (by omega)
         | exact isI_wide h.1.1.1.2 (by decide) (by omega)
         | exact isI_wide h.1.1.1 (by decide) (by omega)
         | exact isI_wide h.1.1.2 (by decide) (by omega)
         | exact isI_wide h.1.1 (by decide) (by omega)
         | exact isI_wide h.1.2 (by decide) (by omega)
         | exact isI_wide h.2 (by decide) (by omega))
    | cases h
theorem xK_ladr {Φ : Fns} {i : Nat} {p n t m : Int} {v : D} {st : Sto} {Q : Kd} {u} (hi : Φ i = f_ladr) (h1 : pvD v = true) (h2 : n ≤ 1000 ∧ t ≤ 1000 ∧ m ≤ 1000) (h : Q (.bl (adr n t m v)) st) : xK Φ i [.tup [.int p, .int n, .int t, .int m], v] st Q u := by
  unfold xK
  rw [hi]
  exact ⟨⟨h1, h2⟩, h⟩
theorem xK_isaddr {Φ : Fns} {i : Nat} {p n t m : Int} {v : D} {st : Sto} {Q : Kd} {u} (hi : Φ i = f_isaddr) (h1 : pvD v = true) (h : Q (.bl (adr n t m v)) st) : xK Φ i [.tup [.int p, .int n, .int t, .int m], v] st Q u := by
  unfold xK
  rw [hi]
  exact ⟨h1, h⟩
theorem int_of {d : D} (h : isI d 0 1000 = true) : ∃ i, d = .int i ∧ 0 ≤ i := by
  obtain ⟨i, rfl, a, _⟩ := isI_iff.mp h; exact ⟨i, rfl, a⟩
theorem o_ladr {Φ : Fns} (hΦ : ∀ f, MonoFn (Φ f)) {iW : Nat} (hI : Φ iW = f_isint) {ds : List D} {st : Sto} {Q : Kd} (h : f_ladr ds st Q) : xBody Φ (b_ladr iW) st.length Q ⟨⟩ (ds.map some ++ List.replicate (8 - 2) none) st := by
  unfold f_ladr at h
  split at h
  · rename_i p n t m v
    obtain ⟨⟨hp, hn, ht, hm⟩, q⟩ := h
    have hz := sizeLine_ge
    unfold b_ladr
    simp_wf
    rcases pv_cases hp with rfl | ⟨i, rfl⟩ | ⟨x, rfl⟩ | ⟨xs, rfl, hx⟩
    · simp_wf; exact fin_q q
    · simp_wf; exact fin_q q
    · simp_wf; exact fin_q q
    · simp_wf
      by_cases hs : xs.length < 4
      · rw [show decide ((xs.length : Int) < 4) = true by rw [decide_eq_true_eq]; omega]
        simp_wf; exact fin_eq q (adr_short hs)
      rw [show decide ((xs.length : Int) < 4) = false by rw [decide_eq_false_iff_not]; omega]
      obtain ⟨x, a, r, rfl⟩ : ∃ x a r, xs = x :: a :: r := by
        match xs, hs with
        | x :: a :: r, _ => exact ⟨x, a, r, rfl⟩
        | [_], hs => exact absurd (by simp) hs
        | [], hs => exact absurd (by simp) hs
      have hx0 := hx x (by simp)
      have hxa := hx a (by simp)
      simp_wf
      refine xK_isint hI hx0 ?_
      simp_wf
      cases h0 : isI x 1 8 with
      | false => simp_wf; exact fin_eq q (adr_false h0)
      | true =>
        simp_wf
        refine xK_isint hI hxa ?_
        simp_wf
        cases h1 : isI a 1 n with
        | false => simp_wf; exact fin_eq q (adr_two h1)
        | true =>
          simp_wf
          obtain ⟨s, rfl, hs1, hs8⟩ := isI_iff.mp h0
          have hl : atI [D.int 5, D.int 5, D.int 5, D.int 6, D.int 4, D.int 6, D.int 4, D.int 4] (s - 1) = some (.int (lenOf s)) := by
            rcases eight hs1 hs8 with rfl | rfl | rfl | rfl | rfl | rfl | rfl | rfl <;> rfl
          simp_wf
          refine xand_mk (by omega) fun _ => ?_
          nomatch hl
          by_cases hlen : ((r.length : Int) + 1 + 1) = lenOf s
          · rw [show (!((r.length + 1 + 1 : Nat) : Int) == lenOf s) = false by rw [Bool.not_eq_false', beq_iff_eq]; omega]
            have hr : r.length ≤ 4 := by unfold lenOf at hlen; (repeat' split at hlen) <;> omega
            simp_wf
            refine lc_mapX hΦ (l := .int s :: a :: r) (g := fun x => .bl (isI x 0 1000)) (by simp; omega) rfl (fun x hx' => ?_) ?_
            · simp_wf
              refine xK_isint hI (hx x hx') ?_
              exact ⟨rfl, rfl⟩
            simp_wf
            rw [show D.bl (isI (.int s) 0 1000) :: D.bl (isI a 0 1000) :: r.map (fun x => D.bl (isI x 0 1000)) = ((D.int s :: a :: r).map fun x => isI x 0 1000).map .bl by simp]
            rw [bls_map]
            simp_wf
            rw [show (isI (.int s) 0 1000 :: isI a 0 1000 :: r.map fun x => isI x 0 1000) = (D.int s :: a :: r).map fun x => isI x 0 1000 from rfl]
            refine xite_mk (fun hall => ?_) (fun hall => ?_)
            · simp_wf
              refine fin_eq q ?_
              rw [Bool.not_eq_true'] at hall
              cases hA : adr n t m (.tup (.int s :: a :: r)) with
              | false => rfl
              | true =>
                have := adr_small hn ht hm hA
                exfalso
                refine absurd (List.all_eq_true.mpr ?_) (by rw [hall]; exact Bool.false_ne_true)
                intro b hb
                obtain ⟨x, hx', rfl⟩ := List.mem_map.mp hb
                exact this x hx'
            · simp_wf
              rw [Bool.not_eq_false', List.all_eq_true] at hall
              have hall : ∀ x ∈ D.int s :: a :: r, isI x 0 1000 = true := fun x hx' => hall _ (List.mem_map_of_mem hx')
              obtain ⟨a, rfl, ha0⟩ := int_of (hall a (by simp))
              rcases eight hs1 hs8 with rfl | rfl | rfl | rfl | rfl | rfl | rfl | rfl
              all_goals first
                | rw [show lenOf 1 = 5 by decide] at hlen
                | rw [show lenOf 2 = 5 by decide] at hlen
                | rw [show lenOf 3 = 5 by decide] at hlen
                | rw [show lenOf 4 = 6 by decide] at hlen
                | rw [show lenOf 5 = 4 by decide] at hlen
                | rw [show lenOf 6 = 6 by decide] at hlen
                | rw [show lenOf 7 = 4 by decide] at hlen
                | rw [show lenOf 8 = 4 by decide] at hlen
              all_goals first
                | (have hq : r.length = 3 := (by omega); obtain ⟨b, c, d, rfl⟩ := len3 hq; obtain ⟨b, rfl, hb⟩ := int_of (hall b (by simp)); obtain ⟨c, rfl, hc⟩ := int_of (hall c (by simp)); obtain ⟨d, rfl, hd⟩ := int_of (hall d (by simp)))
                | (have hq : r.length = 2 := (by omega); obtain ⟨b, c, rfl⟩ := len2 hq; obtain ⟨b, rfl, hb⟩ := int_of (hall b (by simp)); obtain ⟨c, rfl, hc⟩ := int_of (hall c (by simp)))
                | (have hq : r.length = 4 := (by omega); obtain ⟨b, c, d, e, rfl⟩ := len4 hq; obtain ⟨b, rfl, hb⟩ := int_of (hall b (by simp)); obtain ⟨c, rfl, hc⟩ := int_of (hall c (by simp)); obtain ⟨d, rfl, hd⟩ := int_of (hall d (by simp)); obtain ⟨e, rfl, he⟩ := int_of (hall e (by simp)))
              all_goals simp_wf
              all_goals clear hall hx hp hl hr hx0 hxa
              all_goals simp only [adr, h1, Bool.true_and] at q
              all_goals repeat' (first
                | (refine xite_mk (fun h => ?_) (fun h => ?_) <;> simp_wf))
              all_goals (refine fin_eq q ?_; rw [Bool.eq_iff_iff]; simp [isI, eqD] at *; try omega)
          · rw [show (!((r.length + 1 + 1 : Nat) : Int) == lenOf s) = true by rw [Bool.not_eq_true', beq_eq_false_iff_ne]; omega]
            simp_wf
            exact fin_eq q (adr_len (by rw [List.length_cons]; omega))
  · exact h.elim

/-! changes, foes -/
def chg (p n t m : Int) (v : D) : Bool := match v with
  | .tup [.str k] => k == "drop"
  | .tup [.str k, w] => if k = "copy" then adr n t m w else (k == "is" || k == "add") && isI w 0 (p - 1)
  | _ => false
def b_ischg (iI iA : Nat) : List SS := [.ite (.lor (.lnot (.val (.blt .isTuple false [(.var 1)]))) (.cmp .eq (.blt .len false [(.var 1)]) (.con (.int 0)))) [.ret (.con (.bl false))] [],
  .ite (.cmp .eq (.var 1) (.tup [(.con (.str "drop"))])) [.ret (.con (.bl true))] [],
  .ite (.lor (.cmp .ne (.blt .len false [(.var 1)]) (.con (.int 2))) (.lnot (.val (.blt .isStr false [(.idx (.var 1) (.con (.int 0)))])))) [.ret (.con (.bl false))] [],
  .ite (.cmp .eq (.idx (.var 1) (.con (.int 0))) (.con (.str "copy"))) [.ret (.call iA [(.var 0), (.idx (.var 1) (.con (.int 1)))])] [],
  .ret (.land (.cmp .isIn (.idx (.var 1) (.con (.int 0))) (.tup [(.con (.str "is")), (.con (.str "add"))])) (.call iI [(.idx (.var 1) (.con (.int 1))), (.con (.int 0)), (.bin .sub false (.idx (.var 0) (.con (.int 0))) (.con (.int 1)))]))]
def f_ischg : Fn := fun ds st Q => match ds with
  | [.tup [.int p, .int n, .int t, .int m], v] => pvD v = true ∧ Q (.bl (chg p n t m v)) st
  | _ => False
theorem m_ischg : MonoFn f_ischg := fun vs st Q Q' h q => by
  unfold f_ischg at *
  split at q
  · exact ⟨q.1, h _ _ q.2⟩
  · exact q
theorem drop_pv : pvD (.tup [.str "drop"]) = true := by decide +kernel
theorem xcmp_eqS1 {x y : D} {st : Sto} {Q : Bool → Sto → Prop} {u} (hx : pvD x = true) (hy : pvD y = true) (h : dpD y ≤ 64) (q : Q (eqD x y) st) : xcmp .eq x y st Q u := by
  rw [xcmp_eqP (plD_pv hx) (plD_pv hy) (Nat.le_trans (Nat.min_le_right _ _) h)]; exact q
theorem eqD_drop {xs : List D} : eqD (.tup xs) (.tup [.str "drop"]) = match xs with
    | [.str k] => k == "drop"
    | _ => false := by
  match xs with
  | [] => rfl
  | x :: y :: r => simp [eqD, eqDs]
  | [x] => cases x <;> simp [eqD, eqDs]
theorem eqF_str {a b : Str} : eqF (.str a) (.str b) = (a == b) := rfl
theorem str_beq_symm {a b : Str} : (a == b) = (b == a) := by
  rw [Bool.eq_iff_iff, beq_iff_eq, beq_iff_eq]; exact eq_comm
theorem o_ischg {Φ : Fns} {iI iA : Nat} (hI : Φ iI = f_isint) (hA : Φ iA = f_isaddr) {ds : List D} {st : Sto} {Q : Kd} (h : f_ischg ds st Q) : xBody Φ (b_ischg iI iA) st.length Q ⟨⟩ (ds.map some ++ List.replicate (2 - 2) none) st := by
  unfold f_ischg at h
  split at h
  · rename_i p n t m v
    obtain ⟨hp, q⟩ := h
    have hz := sizeLine_ge
    unfold b_ischg
    simp_wf
    rcases pv_cases hp with rfl | ⟨i, rfl⟩ | ⟨x, rfl⟩ | ⟨xs, rfl, hx⟩
    · simp_wf; exact fin_q q
    · simp_wf; exact fin_q q
    · simp_wf; exact fin_q q
    · simp_wf
      cases xs with
      | nil => simp_wf; exact fin_q q
      | cons x r =>
        rw [show ((((x :: r).length : Nat) : Int) == 0) = false by rw [List.length_cons]; exact beq_eq_false_iff_ne.mpr (by omega)]
        simp_wf
        refine xand_mk (by omega) fun _ => ?_
        refine xcmp_eqS1 hp drop_pv (by decide) ?_
        rw [eqD_drop]
        have hx0 := hx x (by simp)
        by_cases h2 : r.length = 1
        · obtain ⟨w, rfl⟩ : ∃ w, r = [w] := by
            match r, h2 with
            | [w], _ => exact ⟨w, rfl⟩
          have hw := hx w (by simp)
          simp_wf
          rw [show (!(((0 + 1 + 1 : Nat) : Int) == 2)) = false by decide]
          rcases pv_cases hx0 with rfl | ⟨i, rfl⟩ | ⟨k, rfl⟩ | ⟨xs, rfl, _⟩
          · simp_wf; exact fin_q q
          · simp_wf; exact fin_q q
          · simp_wf
            have hq : chg p n t m (.tup [.str k, w]) = if k = "copy" then adr n t m w else (k == "is" || k == "add") && isI w 0 (p - 1) := rfl
            refine xite_mk (fun hc => ?_) (fun hc => ?_)
            · simp_wf
              refine xK_isaddr hA hw ?_
              rw [hq, if_pos (eq_of_beq hc)] at q
              exact fin_q q
            · simp_wf
              rw [hq, if_neg (beq_eq_false_iff_ne.mp hc)] at q
              refine xand_mk (by omega) fun _ => ?_
              simp_wf
              refine xand_mk (by decide) fun _ => ?_
              rw [show (([D.str "is", D.str "add"] : List D).any fun z => eqF z (.str k)) = (k == "is" || k == "add") by
                simp only [List.any_cons, List.any_nil, Bool.or_false, eqF_str]
                rw [str_beq_symm (a := "is"), str_beq_symm (a := "add")]]
              simp_wf
              refine xite_mk (fun hk => ?_) (fun hk => ?_)
              · simp_wf
                refine xK_isint hI hw ?_
                rw [hk, Bool.true_and] at q
                exact fin_q q
              · rw [hk, Bool.false_and] at q
                exact fin_q q
          · simp_wf; exact fin_q q
        · have hch : chg p n t m (.tup (x :: r)) = match x :: r with
              | [.str k] => k == "drop"
              | _ => false := by
            unfold chg
            split
            · rename_i e; simp only [D.tup.injEq, List.cons.injEq] at e; obtain ⟨rfl, rfl⟩ := e; rfl
            · rename_i e; simp only [D.tup.injEq, List.cons.injEq] at e; obtain ⟨rfl, rfl⟩ := e; simp at h2
            · rename_i h1 _
              split
              · rename_i e; simp only [List.cons.injEq] at e; obtain ⟨rfl, rfl⟩ := e; exact absurd rfl (h1 _)
              · rfl
          rw [hch] at q
          refine xite_mk (fun hd => ?_) (fun hd => ?_)
          · simp_wf
            rw [hd] at q
            exact fin_q q
          · simp_wf
            rw [hd] at q
            rw [show (!(((r.length + 1 : Nat) : Int) == 2)) = true by rw [Bool.not_eq_true', beq_eq_false_iff_ne]; omega]
            simp_wf
            exact fin_q q
  · exact h.elim
theorem xK_ischg {Φ : Fns} {i : Nat} {p n t m : Int} {v : D} {st : Sto} {Q : Kd} {u} (hi : Φ i = f_ischg) (h1 : pvD v = true) (h : Q (.bl (chg p n t m v)) st) : xK Φ i [.tup [.int p, .int n, .int t, .int m], v] st Q u := by
  unfold xK
  rw [hi]
  exact ⟨h1, h⟩
/-! foes -/
def asc2 : List D → Bool
  | .int a :: .int b :: r => decide (a < b) && asc2 (.int b :: r)
  | _ => true
theorem asc2_iff : ∀ (ns : List Int), asc2 (ns.map .int) = true ↔ ns.Pairwise (· < ·)
  | [] => by simp [asc2]
  | [a] => by simp [asc2]
  | a :: b :: r => by
    have ih := asc2_iff (b :: r)
    show (decide (a < b) && asc2 ((b :: r).map .int)) = true ↔ _
    rw [Bool.and_eq_true, decide_eq_true_eq, ih, List.pairwise_cons (a := a)]
    constructor
    · rintro ⟨h1, h2⟩
      refine ⟨fun x hx => ?_, h2⟩
      rcases List.mem_cons.mp hx with rfl | hx
      · exact h1
      · have := (List.pairwise_cons.mp h2).1 x hx
        omega
    · rintro ⟨h1, h2⟩
      exact ⟨h1 b (by simp), h2⟩
theorem asc_unique : ∀ {a b : List Int}, a.Pairwise (· < ·) → b.Pairwise (· < ·) → (∀ k, k ∈ a ↔ k ∈ b) → a = b
  | [], [], _, _, _ => rfl
  | [], y :: b, _, _, h => by have := (h y).mpr (by simp); simp at this
  | x :: a, [], _, _, h => by have := (h x).mp (by simp); simp at this
  | x :: a, y :: b, ha, hb, h => by
    obtain ⟨ha1, ha2⟩ := List.pairwise_cons.mp ha
    obtain ⟨hb1, hb2⟩ := List.pairwise_cons.mp hb
    have e : x = y := by
      have h1 := (h x).mp (by simp)
      have h2 := (h y).mpr (by simp)
      rcases List.mem_cons.mp h1 with e | h1
      · exact e
      · rcases List.mem_cons.mp h2 with e | h2
        · exact e.symm
        · have := ha1 y h2
          have := hb1 x h1
          omega
    subst e
    refine congrArg (x :: ·) (asc_unique ha2 hb2 fun k => ?_)
    have hk := h k
    constructor
    · intro q
      rcases List.mem_cons.mp (hk.mp (List.mem_cons_of_mem _ q)) with e | q2
      · subst e; have := ha1 k q; omega
      · exact q2
    · intro q
      rcases List.mem_cons.mp (hk.mpr (List.mem_cons_of_mem _ q)) with e | q2
      · subst e; have := hb1 k q; omega
      · exact q2
def foesOk (n t : Int) (v : D) : Bool := match v with
  | .tup xs => decide ((xs.length : Int) ≤ t) && xs.all (fun x => isI x 1 n) && asc2 xs
  | _ => false
theorem ints_of {lo hi : Int} : ∀ {xs : List D}, (xs.all fun x => isI x lo hi) = true → ∃ ns : List Int, xs = ns.map .int ∧ ∀ k ∈ ns, lo ≤ k ∧ k ≤ hi
  | [], _ => ⟨[], rfl, fun k hk => by cases hk⟩
  | x :: r, h => by
    rw [List.all_cons, Bool.and_eq_true] at h
    obtain ⟨i, rfl, h1, h2⟩ := isI_iff.mp h.1
    obtain ⟨ns, rfl, h3⟩ := ints_of h.2
    refine ⟨i :: ns, rfl, fun k hk => ?_⟩
    rcases List.mem_cons.mp hk with rfl | hk
    · exact ⟨h1, h2⟩
    · exact h3 k hk
theorem all_no {α : Type} {f : α → Bool} {l : List α} {i : Nat} {x : α} (h : l[i]? = some x) (hx : f x = false) : l.all f = false := by
  rw [List.all_eq_false]
  exact ⟨x, List.mem_of_getElem? h, by rw [hx]; exact Bool.false_ne_true⟩
theorem take_all {α : Type} {f : α → Bool} {l : List α} {i : Nat} {x : α} (h : l[i]? = some x) (h1 : (l.take i).all f = true) (hx : f x = true) : (l.take (i + 1)).all f = true := by
  rw [List.take_add_one, h, List.all_append, h1]
  simp [hx]
def b_arefoes (iI : Nat) : List SS := [.ite (.lor (.lnot (.val (.blt .isTuple false [(.var 1)]))) (.cmp .gt (.blt .len false [(.var 1)]) (.idx (.var 0) (.con (.int 2))))) [.ret (.con (.bl false))] [],
  .for_ (.nm 2) (.seq (.var 1)) [.ite (.lnot (.val (.call iI [(.var 2), (.con (.int 1)), (.idx (.var 0) (.con (.int 1)))]))) [.ret (.con (.bl false))] []],
  .ret (.cmp .eq (.blt .list false [(.var 1)]) (.blt .sortSet false [(.var 1)]))]
def f_arefoes : Fn := fun ds st Q => match ds with
  | [.tup [.int _, .int n, .int t, .int _], v] => (pvD v = true ∧ t < 60) ∧ Q (.bl (foesOk n t v)) st
  | _ => False
theorem m_arefoes : MonoFn f_arefoes := fun vs st Q Q' h q => by
  unfold f_arefoes at *
  split at q
  · exact ⟨q.1, h _ _ q.2⟩
  · exact q
theorem plL_ints (f : List Int) : plD (.lst (f.map .int)) = true := by simp only [plD]; exact plDs_ints f
theorem o_arefoes {Φ : Fns} (hΦ : ∀ f, MonoFn (Φ f)) {iI : Nat} (hI : Φ iI = f_isint) {ds : List D} {st : Sto} {Q : Kd} (h : f_arefoes ds st Q) : xBody Φ (b_arefoes iI) st.length Q ⟨⟩ (ds.map some ++ List.replicate (3 - 2) none) st := by
  unfold f_arefoes at h
  split at h
  · rename_i p n t m v
    obtain ⟨⟨hp, ht⟩, q⟩ := h
    unfold b_arefoes
    simp_wf
    rcases pv_cases hp with rfl | ⟨i, rfl⟩ | ⟨x, rfl⟩ | ⟨xs, rfl, hx⟩
    · simp_wf; exact fin_q q
    · simp_wf; exact fin_q q
    · simp_wf; exact fin_q q
    · simp_wf
      have hq : foesOk n t (.tup xs) = (decide ((xs.length : Int) ≤ t) && xs.all (fun x => isI x 1 n) && asc2 xs) := rfl
      rw [hq] at q
      refine xite_mk (fun h => ?_) (fun h => ?_)
      · simp_wf
        have h := of_decide_eq_true h
        rw [decide_eq_false (by omega), Bool.false_and, Bool.false_and] at q
        exact fin_q q
      · have h := of_decide_eq_false h
        rw [decide_eq_true (by omega), Bool.true_and] at q
        simp_wf
        refine for_ix hΦ [2] (fun i vs s => ∃ a, vs = [a] ∧ s = st ∧ (xs.take i).all (fun x => isI x 1 n) = true) ⟨_, rfl, rfl, by simp⟩ (fun i vs s _ h => rfl) ?_ ?_
        · rintro i c vs s hc ⟨a, rfl, rfl, hall⟩
          simp_wf
          refine xK_isint hI (hx c (List.mem_of_getElem? hc)) ?_
          simp_wf
          cases hci : isI c 1 n with
          | true => simp_wf; exact ⟨[_], rfl, _, rfl, rfl, take_all hc hall hci⟩
          | false =>
            simp_wf
            rw [all_no hc hci, Bool.false_and] at q
            exact fin_q q
        · rintro vs s ⟨a, rfl, rfl, hall⟩
          rw [List.take_length] at hall
          rw [hall, Bool.true_and] at q
          obtain ⟨ns, rfl, _⟩ := ints_of hall
          simp_wf
          refine xand_mk (by rw [List.length_map] at h; omega) fun _ => ?_
          refine xsort_mk fun ns' hns => ?_
          simp_wf
          rw [xdat_pl (plL_ints ns) (plL_ints ns') (by simp only [dpD, dpDs_ints]; omega)]
          simp only [eqD, eqDs_ints, Bool.false_xor]
          refine fin_eq q ?_
          rw [Bool.eq_iff_iff, asc2_iff, beq_iff_eq]
          constructor
          · intro h; exact asc_unique h hns.1 fun k => (hns.2 k).symm
          · intro h; rw [h]; exact hns.1
  · exact h.elim
theorem xK_arefoes {Φ : Fns} {i : Nat} {p n t m : Int} {v : D} {st : Sto} {Q : Kd} {u} (hi : Φ i = f_arefoes) (h1 : pvD v = true) (h2 : t < 60) (h : Q (.bl (foesOk n t v)) st) : xK Φ i [.tup [.int p, .int n, .int t, .int m], v] st Q u := by
  unfold xK
  rw [hi]
  exact ⟨⟨h1, h2⟩, h⟩

/-! scripts -/
def sndIn (a : D) (fs : List D) : Bool := match a with
  | .tup (_ :: s :: _) => fs.any fun z => eqF z s
  | _ => false
def ruleOk (p n t m : Int) (fs : List D) (r : D) : Bool := match r with
  | .tup [a, c] => adr n t m a && sndIn a fs && chg p n t m c
  | _ => false
def scrOk (p n t m : Int) (v : D) : Bool := match v with
  | .tup [.tup fs, .tup rs] => foesOk n t (.tup fs) && decide ((rs.length : Int) ≤ 40) && rs.all (ruleOk p n t m fs)
  | _ => false
theorem adr_form {n t m : Int} {a : D} (h : adr n t m a = true) : ∃ s b r, a = .tup (.int s :: .int b :: r) := by
  unfold adr at h
  split at h
  all_goals first
    | (simp only [Bool.and_eq_true] at h
       first
         | (obtain ⟨i, rfl, _⟩ := isI_iff.mp h.1.1.1.1.1; exact ⟨_, _, _, rfl⟩)
         | (obtain ⟨i, rfl, _⟩ := isI_iff.mp h.1.1.1.1; exact ⟨_, _, _, rfl⟩)
         | (obtain ⟨i, rfl, _⟩ := isI_iff.mp h.1.1; exact ⟨_, _, _, rfl⟩))
    | cases h
theorem flat_ints (ns : List Int) : (ns.map D.int).all flat = true := by
  rw [List.all_eq_true]
  intro x hx
  obtain ⟨i, _, rfl⟩ := List.mem_map.mp hx
  rfl
theorem foes_ints {n t : Int} {fs : List D} (h : foesOk n t (.tup fs) = true) : ∃ ns : List Int, fs = ns.map .int ∧ (fs.length : Int) ≤ t := by
  have h : (decide ((fs.length : Int) ≤ t) && fs.all (fun x => isI x 1 n) && asc2 fs) = true := h
  simp only [Bool.and_eq_true, decide_eq_true_eq] at h
  obtain ⟨ns, e, _⟩ := ints_of h.1.2
  exact ⟨ns, e, h.1.1⟩
def b_isscr (iF iA iC : Nat) : List SS := [.ite (.lor (.lnot (.val (.blt .isTuple false [(.var 1)]))) (.lor (.cmp .ne (.blt .len false [(.var 1)]) (.con (.int 2))) (.lnot (.val (.call iF [(.var 0), (.idx (.var 1) (.con (.int 0)))]))))) [.ret (.con (.bl false))] [],
  .set (.tup [(.nm 2), (.nm 3)]) (.var 1),
  .ite (.lor (.lnot (.val (.blt .isTuple false [(.var 3)]))) (.cmp .gt (.blt .len false [(.var 3)]) (.con (.int 40)))) [.ret (.con (.bl false))] [],
  .for_ (.nm 4) (.seq (.var 3)) [.ite (.lor (.lnot (.val (.blt .isTuple false [(.var 4)]))) (.lor (.cmp .ne (.blt .len false [(.var 4)]) (.con (.int 2))) (.lnot (.val (.call iA [(.var 0), (.idx (.var 4) (.con (.int 0)))]))))) [.ret (.con (.bl false))] [],
  .ite (.lor (.cmp .notIn (.idx (.idx (.var 4) (.con (.int 0))) (.con (.int 1))) (.var 2)) (.lnot (.val (.call iC [(.var 0), (.idx (.var 4) (.con (.int 1)))])))) [.ret (.con (.bl false))] []],
  .ret (.con (.bl true))]
def f_isscr : Fn := fun ds st Q => match ds with
  | [.tup [.int p, .int n, .int t, .int m], v] => (pvD v = true ∧ t < 60) ∧ Q (.bl (scrOk p n t m v)) st
  | _ => False
theorem m_isscr : MonoFn f_isscr := fun vs st Q Q' h q => by
  unfold f_isscr at *
  split at q
  · exact ⟨q.1, h _ _ q.2⟩
  · exact q
theorem ruleOk_no {p n t m : Int} {fs : List D} {xs : List D} (h : xs.length ≠ 2) : ruleOk p n t m fs (.tup xs) = false := by
  unfold ruleOk
  split
  · rename_i e; simp only [D.tup.injEq] at e; subst e; exact absurd rfl h
  · rfl
theorem scrOk_no {p n t m : Int} {xs : List D} (h : xs.length ≠ 2) : scrOk p n t m (.tup xs) = false := by
  unfold scrOk
  split
  · rename_i e; simp only [D.tup.injEq] at e; subst e; exact absurd rfl h
  · rfl
theorem xnotIn_mk {x : D} {ys : List D} {st : Sto} {Q : Bool → Sto → Prop} {u} (h1 : flat x = true) (h2 : ys.all flat = true) (q : Q (!ys.any fun z => eqF z x) st) : xcmp .notIn x (.tup ys) st Q u := by
  rw [xcmp_notInT]
  exact ⟨⟨h1, h2⟩, q⟩
theorem o_isscr {Φ : Fns} (hΦ : ∀ f, MonoFn (Φ f)) {iF iA iC : Nat} (hF : Φ iF = f_arefoes) (hA : Φ iA = f_isaddr) (hC : Φ iC = f_ischg) {ds : List D} {st : Sto} {Q : Kd} (h : f_isscr ds st Q) : xBody Φ (b_isscr iF iA iC) st.length Q ⟨⟩ (ds.map some ++ List.replicate (5 - 2) none) st := by
  unfold f_isscr at h
  split at h
  · rename_i p n t m v
    obtain ⟨⟨hp, ht⟩, q⟩ := h
    unfold b_isscr
    simp_wf
    rcases pv_cases hp with rfl | ⟨i, rfl⟩ | ⟨x, rfl⟩ | ⟨xs, rfl, hx⟩
    · simp_wf; exact fin_q q
    · simp_wf; exact fin_q q
    · simp_wf; exact fin_q q
    · simp_wf
      by_cases h2 : xs.length = 2
      · obtain ⟨f, rs, rfl⟩ := len2 h2
        have hf := hx f (by simp)
        have hrs := hx rs (by simp)
        simp_wf
        rw [show (!(((0 + 1 + 1 : Nat) : Int) == 2)) = false by decide]
        simp_wf
        refine xK_arefoes hF hf ht ?_
        simp_wf
        cases hfo : foesOk n t f with
        | false =>
          simp_wf
          refine fin_eq q ?_
          unfold scrOk
          split
          · rename_i e; simp only [D.tup.injEq, List.cons.injEq] at e; obtain ⟨rfl, rfl, _⟩ := e; rw [hfo]; rfl
          · rfl
        | true =>
          obtain ⟨fs, rfl⟩ : ∃ fs, f = .tup fs := by
            unfold foesOk at hfo
            split at hfo
            · exact ⟨_, rfl⟩
            · cases hfo
          simp_wf
          rcases pv_cases hrs with rfl | ⟨i, rfl⟩ | ⟨x, rfl⟩ | ⟨rs, rfl, hr⟩
          · simp_wf; exact fin_q q
          · simp_wf; exact fin_q q
          · simp_wf; exact fin_q q
          have hq : scrOk p n t m (.tup [.tup fs, .tup rs]) = (decide ((rs.length : Int) ≤ 40) && rs.all (ruleOk p n t m fs)) := by
            show (foesOk n t (.tup fs) && _ && _) = _
            rw [hfo, Bool.true_and]
          rw [hq] at q
          obtain ⟨ns, rfl, _⟩ := foes_ints hfo
          simp_wf
          refine xite_mk (fun h => ?_) (fun h => ?_)
          · simp_wf
            have h := of_decide_eq_true h
            rw [decide_eq_false (by omega), Bool.false_and] at q
            exact fin_q q
          · have h := of_decide_eq_false h
            rw [decide_eq_true (by omega), Bool.true_and] at q
            simp_wf
            refine for_ix hΦ [4] (fun i vs s => ∃ a, vs = [a] ∧ s = st ∧ (rs.take i).all (ruleOk p n t m (ns.map .int)) = true) ⟨_, rfl, rfl, by simp⟩ (fun i vs s _ h => rfl) ?_ ?_
            · rintro i c vs s hc ⟨a, rfl, rfl, hall⟩
              have hcp := hr c (List.mem_of_getElem? hc)
              have bad : ruleOk p n t m (ns.map .int) c = false → MI.Fin (List.length s) Q (.bl false) s := fun h => fin_eq q (all_no hc h)
              simp_wf
              rcases pv_cases hcp with rfl | ⟨i, rfl⟩ | ⟨x, rfl⟩ | ⟨cs, rfl, hcs⟩
              · simp_wf; exact bad rfl
              · simp_wf; exact bad rfl
              · simp_wf; exact bad rfl
              simp_wf
              by_cases hc2 : cs.length = 2
              · obtain ⟨a, k, rfl⟩ := len2 hc2
                have ha := hcs a (by simp)
                have hk := hcs k (by simp)
                have hro : ruleOk p n t m (ns.map .int) (.tup [a, k]) = (adr n t m a && sndIn a (ns.map .int) && chg p n t m k) := rfl
                simp_wf
                rw [show (!(((0 + 1 + 1 : Nat) : Int) == 2)) = false by decide]
                simp_wf
                refine xK_isaddr hA ha ?_
                simp_wf
                cases hadr : adr n t m a with
                | false => simp_wf; exact bad (by rw [hro, hadr]; rfl)
                | true =>
                  obtain ⟨s1, b1, r1, rfl⟩ := adr_form hadr
                  simp_wf
                  refine xand_mk ⟨rfl, flat_ints ns⟩ fun _ => ?_
                  have hsn : sndIn (.tup (.int s1 :: .int b1 :: r1)) (ns.map .int) = ((ns.map D.int).any fun z => eqF z (.int b1)) := rfl
                  rw [hadr, hsn, Bool.true_and] at hro
                  cases hin : ((ns.map D.int).any fun z => eqF z (.int b1)) with
                  | false => simp_wf; exact bad (by rw [hro, hin]; rfl)
                  | true =>
                    rw [hin, Bool.true_and] at hro
                    simp_wf
                    refine xK_ischg hC hk ?_
                    simp_wf
                    cases hch : chg p n t m k with
                    | false => simp_wf; exact bad (by rw [hro, hch])
                    | true =>
                      simp_wf
                      exact ⟨[_], rfl, _, rfl, rfl, take_all hc hall (by rw [hro, hch])⟩
              · rw [show (!((cs.length : Int) == 2)) = true by rw [Bool.not_eq_true', beq_eq_false_iff_ne]; omega]
                simp_wf
                exact bad (ruleOk_no hc2)
            · rintro vs s ⟨a, rfl, rfl, hall⟩
              rw [List.take_length] at hall
              simp_wf
              rw [hall] at q
              exact fin_q q
      · rw [show (!((xs.length : Int) == 2)) = true by rw [Bool.not_eq_true', beq_eq_false_iff_ne]; omega]
        simp_wf
        exact fin_eq q (scrOk_no h2)
  · exact h.elim
theorem xK_isscr {Φ : Fns} {i : Nat} {p n t m : Int} {v : D} {st : Sto} {Q : Kd} {u} (hi : Φ i = f_isscr) (h1 : pvD v = true) (h2 : t < 60) (h : Q (.bl (scrOk p n t m v)) st) : xK Φ i [.tup [.int p, .int n, .int t, .int m], v] st Q u := by
  unfold xK
  rw [hi]
  exact ⟨⟨h1, h2⟩, h⟩

/-! the law's look at a script -/
def b_good (iW iA : Nat) : List SS := [.set (.tup [(.nm 2), (.nm 3), (.nm 4), (.nm 5)]) (.var 0),
  .ite (.lor (.lnot (.val (.blt .isTuple false [(.var 1)]))) (.lor (.cmp .ne (.blt .len false [(.var 1)]) (.con (.int 2))) (.lor (.lnot (.val (.blt .isTuple false [(.idx (.var 1) (.con (.int 0)))]))) (.lnot (.val (.blt .isTuple false [(.idx (.var 1) (.con (.int 1)))])))))) [.ret (.con (.bl false))] [],
  .ite (.lor (.cmp .gt (.blt .len false [(.idx (.var 1) (.con (.int 0)))]) (.var 4)) (.lor (.cmp .gt (.blt .len false [(.idx (.var 1) (.con (.int 1)))]) (.con (.int 40))) (.lnot (.val (.blt .all false [(.lc false (.call iW [(.var 10), (.con (.int 1)), (.var 3)]) (.nm 10) (.seq (.idx (.var 1) (.con (.int 0)))) none [10])]))))) [.ret (.con (.bl false))] [],
  .ite (.val (.blt .any false [(.lc false (.cmp .ge (.idx (.idx (.var 1) (.con (.int 0))) (.var 9)) (.idx (.idx (.var 1) (.con (.int 0))) (.bin .add false (.var 9) (.con (.int 1))))) (.nm 9) (.rng1 (.bin .sub false (.blt .len false [(.idx (.var 1) (.con (.int 0)))]) (.con (.int 1)))) none [9])])) [.ret (.con (.bl false))] [],
  .for_ (.nm 6) (.seq (.idx (.var 1) (.con (.int 1)))) [.ite (.lor (.lnot (.val (.blt .isTuple false [(.var 6)]))) (.lor (.cmp .ne (.blt .len false [(.var 6)]) (.con (.int 2))) (.lor (.lnot (.val (.call iA [(.var 0), (.idx (.var 6) (.con (.int 0)))]))) (.cmp .notIn (.idx (.idx (.var 6) (.con (.int 0))) (.con (.int 1))) (.idx (.var 1) (.con (.int 0))))))) [.ret (.con (.bl false))] [],
  .set (.nm 7) (.idx (.var 6) (.con (.int 1))),
  .ite (.lor (.lnot (.val (.blt .isTuple false [(.var 7)]))) (.lor (.cmp .eq (.blt .len false [(.var 7)]) (.con (.int 0))) (.lnot (.val (.blt .isStr false [(.idx (.var 7) (.con (.int 0)))]))))) [.ret (.con (.bl false))] [],
  .set (.nm 8) (.cmp .eq (.var 7) (.tup [(.con (.str "drop"))])),
  .ite (.land (.cmp .eq (.blt .len false [(.var 7)]) (.con (.int 2))) (.cmp .isIn (.idx (.var 7) (.con (.int 0))) (.lst false [(.con (.str "is")), (.con (.str "add"))]))) [.set (.nm 8) (.call iW [(.idx (.var 7) (.con (.int 1))), (.con (.int 0)), (.bin .sub false (.var 2) (.con (.int 1)))])] [],
  .ite (.land (.cmp .eq (.blt .len false [(.var 7)]) (.con (.int 2))) (.cmp .eq (.idx (.var 7) (.con (.int 0))) (.con (.str "copy")))) [.set (.nm 8) (.call iA [(.var 0), (.idx (.var 7) (.con (.int 1)))])] [],
  .ite (.lnot (.val (.var 8))) [.ret (.con (.bl false))] []],
  .ret (.con (.bl true))]
def f_good : Fn := fun ds st Q => match ds with
  | [.tup [.int p, .int n, .int t, .int m], v] => (pvD v = true ∧ n ≤ 1000 ∧ t < 60 ∧ m ≤ 1000) ∧ Q (.bl (scrOk p n t m v)) st
  | _ => False
theorem m_good : MonoFn f_good := fun vs st Q Q' h q => by
  unfold f_good at *
  split at q
  · exact ⟨q.1, h _ _ q.2⟩
  · exact q
theorem asc_any : ∀ (ns : List Int), ((List.range (ns.length - 1)).any fun k => decide (ns.getD (k + 1) 0 ≤ ns.getD k 0)) = !(asc2 (ns.map .int)) := by
  intro ns
  rw [Bool.eq_iff_iff, Bool.not_eq_true', ← Bool.not_eq_true, asc2_iff, List.any_eq_true]
  constructor
  · rintro ⟨k, hk, h⟩ hp
    have hk := List.mem_range.mp hk
    have h := of_decide_eq_true h
    have := List.pairwise_iff_getElem.mp hp k (k + 1) (by omega) (by omega) (by omega)
    rw [List.getD_eq_getElem?_getD, List.getD_eq_getElem?_getD, List.getElem?_eq_getElem (show k < ns.length by omega), List.getElem?_eq_getElem (show k + 1 < ns.length by omega)] at h
    simp only [Option.getD_some] at h
    omega
  · intro hp
    apply Classical.byContradiction
    intro hno
    refine hp ?_
    have step : ∀ k, (h : k + 1 < ns.length) → ns[k] < ns[k + 1] := fun k hk => by
      apply Classical.byContradiction
      intro hlt
      refine hno ⟨k, List.mem_range.mpr (by omega), ?_⟩
      rw [decide_eq_true_eq, List.getD_eq_getElem?_getD, List.getD_eq_getElem?_getD, List.getElem?_eq_getElem (show k < ns.length by omega), List.getElem?_eq_getElem hk]
      simp only [Option.getD_some]
      omega
    have far : ∀ d i, (h : i + d + 1 < ns.length) → ns[i] < ns[i + d + 1] := by
      intro d
      induction d with
      | zero => intro i h; exact step i h
      | succ d ih =>
        intro i h
        have h1 := ih i (by omega)
        have h2 := step (i + d + 1) (by omega)
        have : ns[i + (d + 1) + 1] = ns[i + d + 1 + 1] := rfl
        omega
    rw [List.pairwise_iff_getElem]
    intro i j hi hj hij
    obtain ⟨d, rfl⟩ : ∃ d, j = i + d + 1 := ⟨j - i - 1, by omega⟩
    exact far d i hj
theorem chg_str {p n t m : Int} {k : Str} {r : List D} : chg p n t m (.tup (.str k :: r)) = match r with
    | [] => k == "drop"
    | [w] => if k = "copy" then adr n t m w else (k == "is" || k == "add") && isI w 0 (p - 1)
    | _ => false := by
  match r with
  | [] => rfl
  | [w] => rfl
  | _ :: _ :: _ => rfl
theorem chg_nostr {p n t m : Int} {x : D} {r : List D} (h : ∀ k, x ≠ .str k) : chg p n t m (.tup (x :: r)) = false := by
  unfold chg
  split
  · rename_i e; simp only [D.tup.injEq, List.cons.injEq] at e; exact absurd e.1 (h _)
  · rename_i e; simp only [D.tup.injEq, List.cons.injEq] at e; exact absurd e.1 (h _)
  · rfl
theorem o_good {Φ : Fns} (hΦ : ∀ f, MonoFn (Φ f)) {iW iA : Nat} (hI : Φ iW = f_isint) (hA : Φ iA = f_ladr) {ds : List D} {st : Sto} {Q : Kd} (h : f_good ds st Q) : xBody Φ (b_good iW iA) st.length Q ⟨⟩ (ds.map some ++ List.replicate (11 - 2) none) st := by
  unfold f_good at h
  split at h
  · rename_i p n t m v
    obtain ⟨⟨hp, hn, ht, hm⟩, q⟩ := h
    have hz := sizeLine_ge
    unfold b_good
    simp_wf
    rcases pv_cases hp with rfl | ⟨i, rfl⟩ | ⟨x, rfl⟩ | ⟨xs, rfl, hx⟩
    · simp_wf; exact fin_q q
    · simp_wf; exact fin_q q
    · simp_wf; exact fin_q q
    simp_wf
    by_cases h2 : xs.length = 2
    case neg =>
      rw [show (!((xs.length : Int) == 2)) = true by rw [Bool.not_eq_true', beq_eq_false_iff_ne]; omega]
      simp_wf
      exact fin_eq q (scrOk_no h2)
    obtain ⟨f, rs, rfl⟩ := len2 h2
    have hf := hx f (by simp)
    have hrs := hx rs (by simp)
    simp_wf
    rw [show (!(((0 + 1 + 1 : Nat) : Int) == 2)) = false by decide]
    simp_wf
    rcases pv_cases hf with rfl | ⟨i, rfl⟩ | ⟨x, rfl⟩ | ⟨fs, rfl, hfs⟩
    · simp_wf; exact fin_q q
    · simp_wf; exact fin_q q
    · simp_wf; exact fin_q q
    simp_wf
    rcases pv_cases hrs with rfl | ⟨i, rfl⟩ | ⟨x, rfl⟩ | ⟨rs, rfl, hr⟩
    · simp_wf; exact fin_q q
    · simp_wf; exact fin_q q
    · simp_wf; exact fin_q q
    simp_wf
    have hq : scrOk p n t m (.tup [.tup fs, .tup rs]) = (decide ((fs.length : Int) ≤ t) && fs.all (fun x => isI x 1 n) && asc2 fs && decide ((rs.length : Int) ≤ 40) && rs.all (ruleOk p n t m fs)) := rfl
    rw [hq] at q
    refine xite_mk (fun h => ?_) (fun h => ?_)
    · simp_wf
      have h := of_decide_eq_true h
      rw [decide_eq_false (by omega), Bool.false_and, Bool.false_and, Bool.false_and, Bool.false_and] at q
      exact fin_q q
    have h := of_decide_eq_false h
    rw [decide_eq_true (by omega), Bool.true_and] at q
    simp_wf
    refine xite_mk (fun h40 => ?_) (fun h40 => ?_)
    · simp_wf
      have h40 := of_decide_eq_true h40
      rw [decide_eq_false (p := (rs.length : Int) ≤ 40) (by omega), Bool.and_false, Bool.false_and] at q
      exact fin_q q
    have h40 := of_decide_eq_false h40
    rw [decide_eq_true (p := (rs.length : Int) ≤ 40) (by omega), Bool.and_true] at q
    simp_wf
    refine lc_mapX hΦ (l := fs) (g := fun x => .bl (isI x 1 n)) (by simp; omega) rfl (fun x hx' => ?_) ?_
    · simp_wf
      refine xK_isint hI (hfs x hx') ?_
      exact ⟨rfl, rfl⟩
    simp_wf
    rw [show fs.map (fun x => D.bl (isI x 1 n)) = (fs.map fun x => isI x 1 n).map .bl by rw [List.map_map]; rfl]
    rw [bls_map]
    simp_wf
    rw [show (fs.map fun x => isI x 1 n).all id = fs.all fun x => isI x 1 n by rw [List.all_map]; rfl]
    refine xite_mk (fun hall => ?_) (fun hall => ?_)
    · simp_wf
      rw [Bool.not_eq_true'] at hall
      rw [hall, Bool.false_and, Bool.false_and] at q
      exact fin_q q
    rw [Bool.not_eq_false'] at hall
    rw [hall, Bool.true_and] at q
    obtain ⟨ns, rfl, _⟩ := ints_of hall
    rw [List.length_map] at h
    simp_wf
    refine xand_mk (by omega) fun _ => ?_
    simp_wf
    rw [show ((ns.length : Int) - 1).toNat = ns.length - 1 by omega]
    refine lc_mapT hΦ (β := Unit) (l := List.range (ns.length - 1)) (enc := fun k : Nat => D.int (0 + (k : Int) * 1)) (g := fun k : Nat => .bl (decide (ns.getD (k + 1) 0 ≤ ns.getD k 0))) (by simp; omega) trivial (fun k hk => ?_) ?_
    · have hk := List.mem_range.mp hk
      rw [show (0 + (k : Int) * 1) = (k : Int) by omega]
      simp_wf
      rw [List.getElem?_eq_getElem (show k < ns.length by omega)]
      simp_wf
      rw [show ((k : Int) + 1) = ((k + 1 : Nat) : Int) by omega]
      simp_wf
      rw [List.getElem?_eq_getElem (show k + 1 < ns.length by omega)]
      simp_wf
      refine ⟨rfl, ?_⟩
      rw [List.getD_eq_getElem?_getD, List.getD_eq_getElem?_getD, List.getElem?_eq_getElem (show k < ns.length by omega), List.getElem?_eq_getElem (show k + 1 < ns.length by omega)]
      rfl
    simp_wf
    rw [show (List.range (ns.length - 1)).map (fun k : Nat => D.bl (decide (ns.getD (k + 1) 0 ≤ ns.getD k 0))) = ((List.range (ns.length - 1)).map fun k : Nat => decide (ns.getD (k + 1) 0 ≤ ns.getD k 0)).map .bl by rw [List.map_map]; rfl]
    rw [bls_map]
    simp_wf
    rw [show (((List.range (ns.length - 1)).map fun k : Nat => decide (ns.getD (k + 1) 0 ≤ ns.getD k 0)).any id) = !(asc2 (ns.map .int)) by rw [← asc_any, List.any_map]; rfl]
    refine xite_mk (fun hasc => ?_) (fun hasc => ?_)
    · simp_wf
      rw [Bool.not_eq_true'] at hasc
      rw [hasc, Bool.false_and] at q
      exact fin_q q
    rw [Bool.not_eq_false'] at hasc
    rw [hasc, Bool.true_and] at q
    simp_wf
    refine for_ix hΦ [6, 7, 8] (fun i vs s => ∃ a b c, vs = [a, b, c] ∧ s = st ∧ (rs.take i).all (ruleOk p n t m (ns.map .int)) = true) ⟨_, _, _, rfl, rfl, by simp⟩ (fun i vs s _ h => rfl) ?_ ?_
    · rintro i c vs s hc ⟨a, b, c', rfl, rfl, hal⟩
      have hcp := hr c (List.mem_of_getElem? hc)
      have bad : ruleOk p n t m (ns.map .int) c = false → MI.Fin (List.length s) Q (.bl false) s := fun h => fin_eq q (all_no hc h)
      simp_wf
      rcases pv_cases hcp with rfl | ⟨i, rfl⟩ | ⟨x, rfl⟩ | ⟨cs, rfl, hcs⟩
      · simp_wf; exact bad rfl
      · simp_wf; exact bad rfl
      · simp_wf; exact bad rfl
      simp_wf
      by_cases hc2 : cs.length = 2
      case neg =>
        rw [show (!((cs.length : Int) == 2)) = true by rw [Bool.not_eq_true', beq_eq_false_iff_ne]; omega]
        simp_wf
        exact bad (ruleOk_no hc2)
      obtain ⟨a, k, rfl⟩ := len2 hc2
      have ha := hcs a (by simp)
      have hk := hcs k (by simp)
      have hro : ruleOk p n t m (ns.map .int) (.tup [a, k]) = (adr n t m a && sndIn a (ns.map .int) && chg p n t m k) := rfl
      simp_wf
      rw [show (!(((0 + 1 + 1 : Nat) : Int) == 2)) = false by decide]
      simp_wf
      refine xK_ladr hA ha (by omega) ?_
      simp_wf
      cases hadr : adr n t m a with
      | false => simp_wf; exact bad (by rw [hro, hadr]; rfl)
      | true =>
        obtain ⟨s1, b1, r1, rfl⟩ := adr_form hadr
        simp_wf
        refine xand_mk ⟨rfl, flat_ints ns⟩ fun _ => ?_
        have hsn : sndIn (.tup (.int s1 :: .int b1 :: r1)) (ns.map .int) = ((ns.map D.int).any fun z => eqF z (.int b1)) := rfl
        rw [hadr, hsn, Bool.true_and] at hro
        cases hin : ((ns.map D.int).any fun z => eqF z (.int b1)) with
        | false => simp_wf; exact bad (by rw [hro, hin]; rfl)
        | true =>
          rw [hin, Bool.true_and] at hro
          have good : chg p n t m k = true → (rs.take (i + 1)).all (ruleOk p n t m (ns.map .int)) = true := fun h => take_all hc hal (by rw [hro, h])
          have bad : chg p n t m k = false → MI.Fin (List.length s) Q (.bl false) s := fun h => bad (by rw [hro, h])
          simp_wf
          rcases pv_cases hk with rfl | ⟨i, rfl⟩ | ⟨x, rfl⟩ | ⟨ks, rfl, hks⟩
          · simp_wf; exact bad rfl
          · simp_wf; exact bad rfl
          · simp_wf; exact bad rfl
          simp_wf
          cases ks with
          | nil => simp_wf; exact bad rfl
          | cons x r =>
            rw [show ((((x :: r).length : Nat) : Int) == 0) = false by rw [List.length_cons]; exact beq_eq_false_iff_ne.mpr (by omega)]
            have hx0 := hks x (by simp)
            simp_wf
            rcases pv_cases hx0 with rfl | ⟨i, rfl⟩ | ⟨kk, rfl⟩ | ⟨xs, rfl, _⟩
            · simp_wf; exact bad (chg_nostr fun k e => by cases e)
            · simp_wf; exact bad (chg_nostr fun k e => by cases e)
            · simp_wf
              refine xand_mk (by omega) fun _ => ?_
              refine xcmp_eqS1 hk drop_pv (by decide) ?_
              rw [eqD_drop]
              rw [chg_str] at good bad
              match r, hks with
              | [], hks =>
                simp_wf
                rw [show (((0 + 1 : Nat) : Int) == 2) = false by decide]
                simp_wf
                cases hd : (kk == ("drop" : Str)) with
                | true => simp_wf; exact ⟨[_, _, _], rfl, _, _, _, rfl, rfl, good hd⟩
                | false => simp_wf; exact bad hd
              | [w], hks =>
                have hw := hks w (by simp)
                simp_wf
                rw [show (((0 + 1 + 1 : Nat) : Int) == 2) = true by decide]
                simp_wf
                refine xand_mk (by omega) fun _ => ?_
                simp_wf
                refine xand_mk (by decide) fun _ => ?_
                rw [show (([D.str "is", D.str "add"] : List D).any fun z => eqF z (.str kk)) = (kk == "is" || kk == "add") by
                  simp only [List.any_cons, List.any_nil, Bool.or_false, eqF_str]
                  rw [str_beq_symm (a := "is"), str_beq_symm (a := "add")]]
                by_cases hcp : kk = "copy"
                · subst hcp
                  rw [show ((("copy" : Str) == "is") || (("copy" : Str) == "add")) = false by decide +kernel]
                  simp_wf
                  rw [show (((0 + 1 + 1 : Nat) : Int) == 2) = true by decide]
                  simp_wf
                  refine xK_ladr hA hw (by omega) ?_
                  simp_wf
                  simp only [if_pos] at good bad
                  cases ha : adr n t m w with
                  | true => simp_wf; exact ⟨[_, _, _], rfl, _, _, _, rfl, rfl, good ha⟩
                  | false => simp_wf; exact bad ha
                · simp only [if_neg hcp] at good bad
                  have hcp' : (kk == ("copy" : Str)) = false := beq_eq_false_iff_ne.mpr hcp
                  cases hia : (kk == ("is" : Str) || kk == ("add" : Str)) with
                  | true =>
                    rw [hia, Bool.true_and] at good bad
                    simp_wf
                    refine xK_isint hI hw ?_
                    simp_wf
                    rw [show (((0 + 1 + 1 : Nat) : Int) == 2) = true by decide]
                    simp_wf
                    rw [hcp']
                    simp_wf
                    cases hi : isI w 0 (p - 1) with
                    | true => simp_wf; exact ⟨[_, _, _], rfl, _, _, _, rfl, rfl, good hi⟩
                    | false => simp_wf; exact bad hi
                  | false =>
                    rw [hia, Bool.false_and] at bad
                    simp_wf
                    rw [show (((0 + 1 + 1 : Nat) : Int) == 2) = true by decide]
                    simp_wf
                    rw [hcp']
                    simp_wf
                    exact bad rfl
              | a :: b :: r', hks =>
                have hl : (((r'.length + 1 + 1 + 1 : Nat) : Int) == 2) = false := beq_eq_false_iff_ne.mpr (by omega)
                simp_wf
                rw [hl]
                simp_wf
                rw [hl]
                simp_wf
                exact bad rfl
            · simp_wf; exact bad (chg_nostr fun k e => by cases e)
    · rintro vs s ⟨a, b, c, rfl, rfl, hal⟩
      rw [List.take_length] at hal
      simp_wf
      rw [hal] at q
      exact fin_q q
  · exact h.elim
theorem xK_good {Φ : Fns} {i : Nat} {p n t m : Int} {v : D} {st : Sto} {Q : Kd} {u} (hi : Φ i = f_good) (h1 : pvD v = true) (h2 : n ≤ 1000 ∧ t < 60 ∧ m ≤ 1000) (h : Q (.bl (scrOk p n t m v)) st) : xK Φ i [.tup [.int p, .int n, .int t, .int m], v] st Q u := by
  unfold xK
  rw [hi]
  exact ⟨⟨h1, h2⟩, h⟩

/-! the parts of a value -/
mutual
def nodesD : D → List D
  | .tup xs => .tup xs :: nodesDs xs
  | d => [d]
def nodesDs : List D → List D
  | [] => []
  | x :: r => nodesD x ++ nodesDs r
end
theorem szD_pos : ∀ d : D, 1 ≤ szD d := fun d => by cases d <;> simp [szD]
theorem szDs_len : ∀ xs : List D, xs.length ≤ szDs xs
  | [] => Nat.le_refl _
  | x :: r => by
    have := szDs_len r
    have := szD_pos x
    simp only [szDs, List.length_cons]; omega
theorem nodesDs_mem {y : D} : ∀ {xs : List D}, y ∈ nodesDs xs ↔ ∃ x ∈ xs, y ∈ nodesD x
  | [] => by simp [nodesDs]
  | x :: r => by simp [nodesDs, nodesDs_mem (xs := r)]
/-- what a part keeps -/
def Part (y v : D) : Prop := (pvD v = true → pvD y = true) ∧ szD y ≤ szD v ∧ dpD y ≤ dpD v
theorem Part.refl (v : D) : Part v v := ⟨id, Nat.le_refl _, Nat.le_refl _⟩
theorem Part.trans {x y z : D} (h : Part x y) (h' : Part y z) : Part x z := ⟨fun q => h.1 (h'.1 q), Nat.le_trans h.2.1 h'.2.1, Nat.le_trans h.2.2 h'.2.2⟩
theorem szD_mem {x : D} : ∀ {xs : List D}, x ∈ xs → szD x ≤ szDs xs
  | y :: r, h => by
    simp only [szDs]
    rcases List.mem_cons.mp h with rfl | h
    · omega
    · have := szD_mem h; omega
theorem dpD_mem {x : D} {xs : List D} (h : x ∈ xs) : dpD x ≤ dpDs xs := dpDs_le.mp (Nat.le_refl _) x h
theorem Part.of {x : D} {xs : List D} (h : x ∈ xs) : Part x (.tup xs) := by
  refine ⟨fun q => pv_tup.mp q x h, ?_, ?_⟩
  · have := szD_mem h; simp only [szD]; omega
  · have := dpD_mem h; simp only [dpD]; omega
mutual
theorem cl_pv {n : Nat} : ∀ {d : D}, pvD d = true → Cl n d
  | .non, _ => by simp only [Cl]
  | .int _, _ => by simp only [Cl]
  | .str x, _ => by simp only [Cl]
  | .tup xs, h => by
    simp only [pvD] at h
    simp only [Cl]
    exact cls_pv h
  | .bl _, h => by simp only [pvD] at h; cases h
  | .lst _, h => by simp only [pvD] at h; cases h
  | .ro _, h => by simp only [pvD] at h; cases h
  | .dK _, h => by simp only [pvD] at h; cases h
  | .dT _, h => by simp only [pvD] at h; cases h
  | .ins _ _, h => by simp only [pvD] at h; cases h
  | .loc _, h => by simp only [pvD] at h; cases h
  | .lck _, h => by simp only [pvD] at h; cases h
  | .rd _, h => by simp only [pvD] at h; cases h
theorem cls_pv {n : Nat} : ∀ {ds : List D}, pvDs ds = true → Cls' n ds
  | [], _ => by simp only [Cls']
  | d :: r, h => by
    simp only [pvDs, Bool.and_eq_true] at h
    simp only [Cls']
    exact ⟨cl_pv h.1, cls_pv h.2⟩
end
theorem atI_in {xs : List D} {r : Int} (h0 : 0 ≤ r) (h1 : r < xs.length) : ∃ d ∈ xs, atI xs r = some d := by
  refine ⟨xs[r.toNat]'(by omega), List.getElem_mem _, ?_⟩
  rw [atI_int h0, List.getElem?_eq_getElem (by omega)]
/-! _law_nodes_of -/
def b_nodes (iN : Nat) : List SS := [.ite (.cmp .lt (.blt .len false [(.var 1)]) (.con (.int 3000))) [.expr (.mth .append (.var 1) [(.var 0)])] [],
  .ite (.val (.blt .isTuple false [(.var 0)])) [.for_ (.nm 2) (.seq (.var 0)) [.expr (.call iN [(.var 2), (.var 1)])]] [],
  .ret (.var 1)]
def f_nodes (r : Nat) : Fn := fun ds st Q => match ds with
  | [v, .loc n] => ∃ xs, st[n]? = some (.lst xs) ∧ (pvD v = true ∧ dpD v < r ∧ xs.length ≤ 3000) ∧
      ∀ ys, (∀ y ∈ ys, Part y v) → (xs.length < 3000 → ys ≠ []) → xs.length + ys.length ≤ 3000 → Q (.loc n) (st.set n (.lst (xs ++ ys)))
  | _ => False
theorem m_nodes (r : Nat) : MonoFn (f_nodes r) := fun vs st Q Q' h q => by
  unfold f_nodes at *
  split at q
  · obtain ⟨xs, h1, h2, q⟩ := q
    exact ⟨xs, h1, h2, fun ys g1 g2 g3 => h _ _ (q ys g1 g2 g3)⟩
  · exact q
theorem f_nodes_zero {ds : List D} {st : Sto} {Q : Kd} (h : f_nodes 0 ds st Q) : False := by
  unfold f_nodes at h
  split at h
  · obtain ⟨_, _, h, _⟩ := h; omega
  · exact h
theorem xK_nodes {Φ : Fns} {i n r : Nat} {v : D} {xs : List D} {st : Sto} {Q : Kd} {u} (hi : Φ i = f_nodes r) (h1 : st[n]? = some (.lst xs)) (h2 : pvD v = true ∧ dpD v < r ∧ xs.length ≤ 3000)
    (h : ∀ ys, (∀ y ∈ ys, Part y v) → (xs.length < 3000 → ys ≠ []) → xs.length + ys.length ≤ 3000 → Q (.loc n) (st.set n (.lst (xs ++ ys)))) : xK Φ i [v, .loc n] st Q u := by
  unfold xK
  rw [hi]
  exact ⟨xs, h1, h2, h⟩
theorem set_same {st : Sto} {n : Nat} {d : D} (h : st[n]? = some d) : st.set n d = st := by
  apply List.ext_getElem?
  intro j
  rw [List.getElem?_set]
  by_cases e : n = j
  · subst e; rw [if_pos rfl, if_pos (List.getElem?_eq_some_iff.mp h).1, h]
  · rw [if_neg e]
theorem o_nodes {Φ : Fns} (hΦ : ∀ f, MonoFn (Φ f)) {iN r : Nat} (hN : Φ iN = f_nodes r) {ds : List D} {st : Sto} {Q : Kd} (h : f_nodes (r + 1) ds st Q) : xBody Φ (b_nodes iN) st.length Q ⟨⟩ (ds.map some ++ List.replicate (3 - 2) none) st := by
  unfold f_nodes at h
  split at h
  · rename_i v n
    obtain ⟨xs, hn, ⟨hp, hd, hl⟩, q⟩ := h
    have hz := sizeLine_ge
    unfold b_nodes
    nomatch hn
    -- after the first statement
    refine ite_ix hΦ [] (fun vs s => vs = [] ∧ ∃ ys, (∀ y ∈ ys, Part y v) ∧ (xs.length < 3000 → ys ≠ []) ∧ xs.length + ys.length ≤ 3000 ∧ s = st.set n (.lst (xs ++ ys))) (fun hc => ?_) (fun hc => ?_) ?_
    · have hc := of_decide_eq_true hc
      nomatch hn
      refine xand_mk (by omega) fun _ => ?_
      refine ⟨[], rfl, rfl, [v], fun y hy => ?_, fun _ => by simp, by simp; omega, rfl⟩
      simp at hy; subst hy; exact Part.refl _
    · have hc := of_decide_eq_false hc
      simp_wf
      exact ⟨[], rfl, rfl, [], (fun y hy => by cases hy), fun h => by omega, by simpa using hl, by rw [List.append_nil, set_same hn]⟩
    rintro vs s ⟨rfl, ys, hy1, hy2, hy3, rfl⟩
    simp_wf
    rcases pv_cases hp with rfl | ⟨i, rfl⟩ | ⟨x, rfl⟩ | ⟨zs, rfl, hx⟩
    · simp_wf; exact fin_q (q ys hy1 hy2 hy3)
    · simp_wf; exact fin_q (q ys hy1 hy2 hy3)
    · simp_wf; exact fin_q (q ys hy1 hy2 hy3)
    simp_wf
    refine for_ix hΦ [2] (fun i vs s => ∃ a ys, vs = [a] ∧ (∀ y ∈ ys, Part y (.tup zs)) ∧ (xs.length < 3000 → ys ≠ []) ∧ xs.length + ys.length ≤ 3000 ∧ s = st.set n (.lst (xs ++ ys))) ⟨_, ys, rfl, hy1, hy2, hy3, rfl⟩ (fun i vs s _ h => rfl) ?_ ?_
    · rintro i c vs s hc ⟨a, ys, rfl, hy1, hy2, hy3, rfl⟩
      have hcm := List.mem_of_getElem? hc
      have hcd := dpD_mem hcm
      simp only [dpD] at hd
      simp_wf
      refine xK_nodes hN (xs := xs ++ ys) (by rw [getSet, hn]; rfl) ⟨hx c hcm, by omega, by rw [List.length_append]; omega⟩ fun ws hw1 hw2 hw3 => ?_
      rw [List.length_append] at hw2 hw3
      rw [List.set_set, List.append_assoc]
      refine ⟨[_], rfl, _, ys ++ ws, rfl, fun y hy => ?_, fun h => ?_, by rw [List.length_append]; omega, rfl⟩
      · rcases List.mem_append.mp hy with hy | hy
        · exact hy1 y hy
        · exact (hw1 y hy).trans (Part.of hcm)
      · intro e
        exact hy2 h (List.append_eq_nil_iff.mp e).1
    · rintro vs s ⟨a, ys, rfl, hy1, hy2, hy3, rfl⟩
      simp_wf
      exact fin_q (q ys hy1 hy2 hy3)
  · exact h.elim
/-! _law_changed -/
def b_changed (iC : Nat) : List SS := [.set (.sub (.var 1) (.con (.int 0))) (.bin .sub false (.idx (.var 1) (.con (.int 0))) (.con (.int 1))),
  .ite (.cmp .eq (.idx (.var 1) (.con (.int 0))) (.con (.int 0))) [.ret (.var 2)] [],
  .ite (.lnot (.val (.blt .isTuple false [(.var 0)]))) [.ret (.var 0)] [],
  .ret (.blt .tuple false [(.lc false (.call iC [(.var 3), (.var 1), (.var 2)]) (.nm 3) (.seq (.var 0)) none [3])])]
/-- how a value grows -/
structure Grown (v o v' : D) (b b' : Int) : Prop where
  pv : pvD v' = true
  le : b' ≤ b
  dp : dpD v' ≤ dpD v + dpD o
  sz : szD v' ≤ szD v + (if 0 < b ∧ b' ≤ 0 then szD o else 0)
def f_changed (r : Nat) : Fn := fun ds st Q => match ds with
  | [v, .loc n, o] => ∃ b : Int, st[n]? = some (.lst [.int b]) ∧ (pvD v = true ∧ pvD o = true ∧ dpD v < r ∧ szD v ≤ 900000) ∧
      ∀ v' b', Grown v o v' b b' → Q v' (st.set n (.lst [.int b']))
  | _ => False
theorem m_changed (r : Nat) : MonoFn (f_changed r) := fun vs st Q Q' h q => by
  unfold f_changed at *
  split at q
  · obtain ⟨b, h1, h2, q⟩ := q
    exact ⟨b, h1, h2, fun v' b' g => h _ _ (q v' b' g)⟩
  · exact q
theorem f_changed_zero {ds : List D} {st : Sto} {Q : Kd} (h : f_changed 0 ds st Q) : False := by
  unfold f_changed at h
  split at h
  · obtain ⟨_, _, h, _⟩ := h; omega
  · exact h
theorem xK_changed {Φ : Fns} {i n r : Nat} {v o : D} {b : Int} {st : Sto} {Q : Kd} {u} (hi : Φ i = f_changed r) (h1 : st[n]? = some (.lst [.int b])) (h2 : pvD v = true ∧ pvD o = true ∧ dpD v < r ∧ szD v ≤ 900000)
    (h : ∀ v' b', Grown v o v' b b' → Q v' (st.set n (.lst [.int b']))) : xK Φ i [v, .loc n, o] st Q u := by
  unfold xK
  rw [hi]
  exact ⟨b, h1, h2, h⟩
theorem szDs_append : ∀ (a b : List D), szDs (a ++ b) = szDs a + szDs b
  | [], b => by simp [szDs]
  | x :: a, b => by simp only [List.cons_append, szDs, szDs_append a b]; omega
theorem o_changed {Φ : Fns} (hΦ : ∀ f, MonoFn (Φ f)) {iC r : Nat} (hC : Φ iC = f_changed r) {ds : List D} {st : Sto} {Q : Kd} (h : f_changed (r + 1) ds st Q) : xBody Φ (b_changed iC) st.length Q ⟨⟩ (ds.map some ++ List.replicate (4 - 3) none) st := by
  unfold f_changed at h
  split at h
  · rename_i v n o
    obtain ⟨b, hn, ⟨hp, ho, hd, hs⟩, q⟩ := h
    have hz := sizeLine_ge
    unfold b_changed
    nomatch hn
    refine xite_mk (fun hb => ?_) (fun hb => ?_)
    · have hb : b - 1 = 0 := eq_of_beq hb
      simp_wf
      refine fin_q (q _ _ ⟨ho, by omega, by omega, ?_⟩)
      rw [if_pos (by omega)]; omega
    have hb : b - 1 ≠ 0 := fun e => by rw [e] at hb; cases hb
    simp_wf
    rcases pv_cases hp with rfl | ⟨i, rfl⟩ | ⟨x, rfl⟩ | ⟨zs, rfl, hx⟩
    · simp_wf; exact fin_q (q _ _ ⟨hp, by omega, by omega, by omega⟩)
    · simp_wf; exact fin_q (q _ _ ⟨hp, by omega, by omega, by omega⟩)
    · simp_wf; exact fin_q (q _ _ ⟨hp, by omega, by omega, by omega⟩)
    simp_wf
    have hlen := szDs_len zs
    simp only [szD] at hs
    refine lc_inv hΦ (fun i acc s => ∃ b' : Int, acc.length = i ∧ s = st.set n (.lst [.int b']) ∧ b' ≤ b - 1 ∧ (∀ x ∈ acc, pvD x = true ∧ dpD x ≤ dpDs zs + dpD o) ∧ szDs acc ≤ szDs (zs.take i) + (if 0 < b - 1 ∧ b' ≤ 0 then szD o else 0))
      ⟨b - 1, rfl, rfl, Int.le_refl _, (fun x hx => by cases hx), by simp [szDs]⟩ (by simp; omega) (fun _ _ _ _ _ => rfl) ?_ ?_
    · rintro i c acc s hc ⟨b', hal, rfl, hb', hacc, hsz⟩
      have hcm := List.mem_of_getElem? hc
      have hcd := dpD_mem hcm
      have hcs := szD_mem hcm
      simp only [dpD] at hd
      simp_wf
      refine xK_changed hC (b := b') (by rw [getSet, hn]; rfl) ⟨hx c hcm, ho, by omega, by omega⟩ fun v' b2 g => ?_
      rw [List.set_set]
      have g1 := g.le
      have g2 := g.dp
      have g3 := g.sz
      refine ⟨b2, by rw [List.length_append, hal]; rfl, rfl, by omega, fun x hx' => ?_, ?_⟩
      · rcases List.mem_append.mp hx' with h | h
        · exact hacc x h
        · simp at h; subst h; exact ⟨g.pv, by omega⟩
      · rw [szDs_append, List.take_add_one, hc, szDs_append]
        simp only [Option.toList_some, szDs]
        (repeat' split at hsz) <;> (repeat' split at g3) <;> (repeat' split) <;> omega
    · rintro acc s ⟨b', hal, rfl, hb', hacc, hsz⟩
      rw [List.take_length] at hsz
      simp_wf
      refine fin_q (q _ _ ⟨pv_tup.mpr fun x hx => (hacc x hx).1, by omega, ?_, ?_⟩)
      · have : dpDs acc ≤ dpDs zs + dpD o := dpDs_le.mpr fun x hx => (hacc x hx).2
        simp only [dpD]; omega
      · simp only [szD]
        (repeat' split at hsz) <;> (repeat' split) <;> omega
  · exact h.elim

/-! taking a number, the tape at the first place -/
theorem tk {Φ : Fns} {i : Nat} {m : Int} {c : Cell} {b : Nat} {rest : Sto} {Q : Kd} {u} (hi : Φ i = f_take) (h2 : c.ok b) (h3 : b < 2 ^ 60) (h4 : 0 < m) (h5 : m < 2 ^ 64)
    (h : ∀ c' r, c'.ok (b + 1) → 0 ≤ r → r < m → Q (.int r) (cellD c' :: rest)) : xK Φ i [.loc 0, .int m] (cellD c :: rest) Q u :=
  xK_take hi (c := c) rfl h2 h3 h4 (by omega) fun c' r g1 g2 g3 g4 => h c' r g1 g3 g4
theorem cl_cell {n : Nat} {c : Cell} : Cl n (cellD c) := by
  unfold cellD
  refine cl_lst fun d hd => ?_
  simp only [List.mem_cons, List.not_mem_nil, or_false] at hd
  rcases hd with rfl | rfl | rfl | rfl | rfl
  · exact cl_lst cl_ints
  all_goals exact cl_int
/-- the end of a def that took numbers: what is newer is dropped -/
theorem fin_tk {c c' : Cell} {rest G : Sto} {Q : Kd} {d : D} (hst : ∀ d ∈ cellD c :: rest, Cl (cellD c :: rest).length d) (hd : Cl (rest.length + 1) d) (h : Q d (cellD c' :: rest)) : MI.Fin (cellD c :: rest).length Q d (cellD c' :: (rest ++ G)) := by
  refine fin_cutW (n := rest.length + 1) (st1 := cellD c' :: rest) rfl (fun d h => ?_) (by simp) hd h
  rcases List.mem_cons.mp h with rfl | h
  · exact cl_cell
  · exact hst d (List.mem_cons_of_mem _ h)
/-! _law_high -/
def b_high : List SS := [.set (.nm 1) (.lst false [(.var 0)]),
  .set (.nm 2) (.con (.int 0)),
  .set (.nm 3) (.con (.int 0)),
  .while_ (.land (.val (.var 1)) (.cmp .lt (.var 3) (.con (.int 4000)))) [.set (.nm 2) (.bin .add false (.var 2) (.con (.int 1))),
  .set (.nm 3) (.bin .add false (.var 3) (.blt .len false [(.var 1)])),
  .set (.nm 4) (.lst true []),
  .for_ (.nm 5) (.seq (.var 1)) [.ite (.val (.blt .isTuple false [(.var 5)])) [.expr (.mth .extend (.var 4) [(.var 5)])] []],
  .set (.nm 1) (.var 4)],
  .ite (.val (.var 1)) [.ret (.con (.int 1000))] [],
  .ret (.var 2)]
def f_high : Fn := fun ds st Q => match ds with
  | [v] => (pvD v = true ∧ szD v ≤ 900000) ∧ ∀ r, Q (.int r) st
  | _ => False
theorem m_high : MonoFn f_high := fun vs st Q Q' h q => by
  unfold f_high at *
  split at q
  · exact ⟨q.1, fun r => h _ _ (q.2 r)⟩
  · exact q
/-- a list, by itself or at a newer place -/
def Lv (n : Nat) (s : Sto) (d : D) (L : List D) : Prop := d = .lst L ∨ ∃ m, d = .loc m ∧ n ≤ m ∧ s[m]? = some (.lst L)
theorem Lv.seq {n : Nat} {s : Sto} {d : D} {L : List D} (h : Lv n s d L) : asSeq s d = some L := by
  rcases h with rfl | ⟨m, rfl, _, h⟩
  · rfl
  · exact asSeq_o h
theorem Lv.len {n : Nat} {s : Sto} {d : D} {L : List D} (h : Lv n s d L) : lenD s d = some L.length := by
  rcases h with rfl | ⟨m, rfl, _, h⟩
  · rfl
  · exact lenD_o h
theorem Lv.more {n : Nat} {s l : Sto} {d : D} {L : List D} (h : Lv n s d L) : Lv n (s ++ l) d L := by
  rcases h with rfl | ⟨m, rfl, hm, h⟩
  · exact .inl rfl
  · exact .inr ⟨m, rfl, hm, getOld h⟩
theorem Lv.tru {n : Nat} {s : Sto} {d : D} {L : List D} (h : Lv n s d L) {Q : Bool → Sto → Prop} {u} (q : Q (!L.isEmpty) s) : xtru d s Q u := by
  rcases h with rfl | ⟨m, rfl, _, h⟩
  · exact q
  · rw [xtru_o, asSeq_o h]; exact q
theorem o_high {Φ : Fns} (hΦ : ∀ f, MonoFn (Φ f)) {ds : List D} {st : Sto} {Q : Kd} (hst : ∀ d ∈ st, Cl st.length d) (h : f_high ds st Q) : xBody Φ b_high st.length Q ⟨⟩ (ds.map some ++ List.replicate (6 - 1) none) st := by
  unfold f_high at h
  split at h
  · rename_i v
    obtain ⟨⟨hp, hs⟩, q⟩ := h
    have hz := sizeLine_ge
    unfold b_high
    simp_wf
    refine xand_mk (by omega) fun _ => ?_
    simp_wf
    refine wh_ix hΦ [1, 2, 3, 4, 5] (fun j vs s => ∃ (lv : D) (h c : Int) (x4 x5 : Option D) (L : List D) (G : Sto), vs = [some lv, some (.int h), some (.int c), x4, x5] ∧ s = st ++ G ∧ Lv st.length s lv L ∧ (∀ x ∈ L, pvD x = true) ∧ szDs L = j ∧ j ≤ 900000) (szD v)
      ⟨_, _, _, _, _, [v], [], rfl, by simp, .inl rfl, fun x hx => by simp at hx; subst hx; exact hp, by simp [szDs], hs⟩ ?_
    rintro j vs s ⟨lv, h, c, x4, x5, L, G, rfl, rfl, hL, hpv, hsz, hj⟩
    have hend : ∀ (s : Sto), s = st ++ G → ∀ r, MI.Fin st.length Q (.int r) s := fun s e r => by
      subst e; exact fin_cut hst takeA cl_int (q r)
    simp_wf
    refine hL.tru ?_
    cases hE : (!L.isEmpty) with
    | false =>
      simp_wf
      refine hL.tru ?_
      refine xite_mk (fun _ => ?_) (fun _ => ?_) <;> (simp_wf; exact hend _ rfl _)
    | true =>
      simp_wf
      refine xite_mk (fun hc => ?_) (fun _ => ?_)
      · have hne : 1 ≤ L.length := by cases L with | nil => cases hE | cons _ _ => simp
        nomatch hL.len
        refine xand_mk (by omega) fun _ => ?_
        have hg := (hL.more (l := [D.lst []])).seq
        rw [List.append_assoc] at hg
        nomatch hg
        refine for_ix hΦ [5] (fun i vs s => ∃ a Dp, vs = [a] ∧ s = st ++ (G ++ [.lst Dp]) ∧ (∀ x ∈ Dp, pvD x = true) ∧ szDs Dp + i ≤ szDs (L.take i)) ⟨_, [], rfl, rfl, (fun x hx => by cases hx), by simp [szDs]⟩ (fun i vs s _ h => ?_) ?_ ?_
        · obtain ⟨a, Dp, _, rfl, _⟩ := h
          have := (hL.more (l := [D.lst Dp])).seq
          rwa [List.append_assoc] at this
        · rintro i x vs s hx ⟨a, Dp, rfl, rfl, hDp, hDs⟩
          have hxm := List.mem_of_getElem? hx
          have htk : szDs (L.take (i + 1)) = szDs (L.take i) + szD x := by
            rw [List.take_add_one, hx, szDs_append]; simp [szDs]
          have hle : szDs (L.take (i + 1)) ≤ szDs L := by
            conv => rhs; rw [← List.take_append_drop (i + 1) L]
            rw [szDs_append]; omega
          have hDl := szDs_len Dp
          have hk : (st ++ (G ++ [D.lst Dp]))[st.length + G.length]? = some (.lst Dp) := by
            rw [getA, getA0]; rfl
          have hset : ∀ d : D, (st ++ (G ++ [D.lst Dp])).set (st.length + G.length) d = st ++ (G ++ [d]) := fun d => by
            rw [setA, setA0]; rfl
          simp_wf
          rcases pv_cases (hpv x hxm) with rfl | ⟨k, rfl⟩ | ⟨z, rfl⟩ | ⟨zs, rfl, hz'⟩
          · simp_wf; exact ⟨[_], rfl, _, Dp, rfl, rfl, hDp, by simp only [szD] at htk; omega⟩
          · simp_wf; exact ⟨[_], rfl, _, Dp, rfl, rfl, hDp, by simp only [szD] at htk; omega⟩
          · simp_wf; exact ⟨[_], rfl, _, Dp, rfl, rfl, hDp, by simp only [szD] at htk; omega⟩
          · simp only [szD] at htk
            have hzl := szDs_len zs
            nomatch hk
            refine xand_mk (by omega) fun _ => ?_
            rw [hset]
            refine ⟨[_], rfl, _, Dp ++ zs, rfl, rfl, fun y hy => ?_, by rw [szDs_append]; omega⟩
            rcases List.mem_append.mp hy with hy | hy
            · exact hDp y hy
            · exact hz' y hy
        · rintro vs s ⟨a, Dp, rfl, rfl, hDp, hDs⟩
          rw [List.take_length] at hDs
          simp_wf
          refine ⟨[_, _, _, _, _], rfl, szDs Dp, by omega, _, _, _, _, _, Dp, G ++ [.lst Dp], rfl, rfl, .inr ⟨_, rfl, by omega, ?_⟩, hDp, rfl, by omega⟩
          rw [getA, getA0]; rfl
      · simp_wf
        refine hL.tru ?_
        refine xite_mk (fun _ => ?_) (fun _ => ?_) <;> (simp_wf; exact hend _ rfl _)
  · exact h.elim
theorem xK_high {Φ : Fns} {i : Nat} {v : D} {st : Sto} {Q : Kd} {u} (hi : Φ i = f_high) (h1 : pvD v = true ∧ szD v ≤ 900000) (h : ∀ r, Q (.int r) st) : xK Φ i [v] st Q u := by
  unfold xK
  rw [hi]
  exact ⟨h1, h⟩

/-! _law_spoilt -/
def b_spoilt (iN iT iC iH : Nat) : List SS := [.set (.nm 2) (.call iN [(.var 1), (.lst true [])]),
  .set (.nm 3) (.call iT [(.var 0), (.blt .len false [(.var 2)])]),
  .set (.nm 4) (.idx (.var 2) (.var 3)),
  .set (.nm 5) (.idx (.lst false [(.idx (.var 2) (.call iT [(.var 0), (.blt .len false [(.var 2)])])), (.con .non), (.con (.int 0)), (.con (.int 1)), (.tup []), (.tup [(.tup []), (.con (.int 0))]), (.tup [(.con (.int 0)), (.tup [(.tup []), (.con (.int 0))])]), (.bin .sub false (.con (.int 0)) (.con (.int 1))), (.con (.str "a")), (.con (.int 99))]) (.call iT [(.var 0), (.con (.int 10))])),
  .ite (.land (.val (.blt .isTuple false [(.var 4)])) (.cmp .eq (.call iT [(.var 0), (.con (.int 2))]) (.con (.int 0)))) [.set (.nm 5) (.idx (.lst false [(.slc false (.var 4) (some (.con (.int 1))) none), (.bin .add false (.var 4) (.slc false (.var 4) (some (.neg (.con (.int 1)))) none)), (.rev false (.var 4)), (.slc false (.var 4) none (some (.neg (.con (.int 1)))))]) (.call iT [(.var 0), (.con (.int 4))]))] [],
  .set (.nm 6) (.call iC [(.var 1), (.lst true [(.bin .add false (.var 3) (.con (.int 1)))]), (.var 5)]),
  .ite (.cmp .gt (.call iH [(.var 6)]) (.con (.int 120))) [.ret (.var 1)] [],
  .ret (.var 6)]
/-- what comes out of it -/
structure Spoilt (v v' : D) : Prop where
  pv : pvD v' = true
  dp : dpD v' ≤ 2 * dpD v + 3
  sz : szD v' ≤ 3 * szD v + 10
def f_spoilt (r : Nat) : Fn := fun ds st Q => match ds with
  | [.loc 0, v] => ∃ c b rest, st = cellD c :: rest ∧ (c.ok b ∧ b < 2 ^ 59 ∧ pvD v = true ∧ dpD v < r ∧ szD v ≤ 200000) ∧
      ∀ c' v', c'.ok (b + 5) → Spoilt v v' → Q v' (cellD c' :: rest)
  | _ => False
theorem m_spoilt (r : Nat) : MonoFn (f_spoilt r) := fun vs st Q Q' h q => by
  unfold f_spoilt at *
  split at q
  · obtain ⟨c, b, rest, h1, h2, q⟩ := q
    exact ⟨c, b, rest, h1, h2, fun c' v' g1 g2 => h _ _ (q c' v' g1 g2)⟩
  · exact q
theorem xK_spoilt {Φ : Fns} {i r : Nat} {v : D} {c : Cell} {b : Nat} {rest : Sto} {Q : Kd} {u} (hi : Φ i = f_spoilt r) (h1 : c.ok b) (h2 : b < 2 ^ 59 ∧ pvD v = true ∧ dpD v < r ∧ szD v ≤ 200000)
    (h : ∀ c' v', c'.ok (b + 5) → Spoilt v v' → Q v' (cellD c' :: rest)) : xK Φ i [.loc 0, v] (cellD c :: rest) Q u := by
  unfold xK
  rw [hi]
  exact ⟨c, b, rest, rfl, ⟨h1, h2⟩, h⟩
/-- what may be put in -/
structure Small (v o : D) : Prop where
  pv : pvD o = true
  dp : dpD o ≤ max (dpD v) 3
  sz : szD o ≤ 2 * szD v + 6
theorem cut_mem {xs : List D} {lo hi : Option Int} {x : D} (h : x ∈ cutD xs lo hi) : x ∈ xs := by
  unfold cutD at h
  exact List.mem_of_mem_drop (List.mem_of_mem_take h)
theorem szDs_sub : ∀ {a b : List D}, a.Sublist b → szDs a ≤ szDs b
  | _, _, .slnil => Nat.le_refl _
  | _, _, .cons x h => by have := szDs_sub h; simp only [szDs]; omega
  | _, _, .cons_cons x h => by have := szDs_sub h; simp only [szDs]; omega
theorem cut_sub {xs : List D} {lo hi : Option Int} : (cutD xs lo hi).Sublist xs := (List.take_sublist _ _).trans (List.drop_sublist _ _)
theorem szDs_rev : ∀ (xs : List D), szDs xs.reverse = szDs xs
  | [] => rfl
  | x :: r => by rw [List.reverse_cons, szDs_append, szDs_rev r]; simp only [szDs]; omega
theorem small_tup {v : D} {ys zs : List D} (h : Part (.tup ys) v) (hp : pvD (.tup ys) = true) (hm : ∀ x ∈ zs, x ∈ ys) (hs : szDs zs ≤ 2 * szDs ys) : Small v (.tup zs) := by
  have h2 := h.2.1
  have h3 := h.2.2
  simp only [szD, dpD] at h2 h3
  refine ⟨pv_tup.mpr fun x hx => pv_tup.mp hp x (hm x hx), ?_, ?_⟩
  · have : dpDs zs ≤ dpDs ys := dpDs_le.mpr fun x hx => dpD_mem (hm x hx)
    simp only [dpD]; omega
  · simp only [szD]; omega
theorem o_spoilt {Φ : Fns} (hΦ : ∀ f, MonoFn (Φ f)) {iN iT iC iH r : Nat} (hN : Φ iN = f_nodes r) (hT : Φ iT = f_take) (hC : Φ iC = f_changed r) (hH : Φ iH = f_high) {ds : List D} {st : Sto} {Q : Kd} (hst : ∀ d ∈ st, Cl st.length d) (h : f_spoilt r ds st Q) :
    xBody Φ (b_spoilt iN iT iC iH) st.length Q ⟨⟩ (ds.map some ++ List.replicate (7 - 2) none) st := by
  unfold f_spoilt at h
  split at h
  · rename_i v
    obtain ⟨c, b, rest, rfl, ⟨ok, hb, hp, hd, hs⟩, q⟩ := h
    have hz := sizeLine_ge
    unfold b_spoilt
    simp_wf
    refine xand_mk (by omega) fun _ => ?_
    simp_wf
    refine xK_nodes hN (xs := []) (by nomatch getA0) ⟨hp, hd, by simp⟩ fun ys hy1 hy2 hy3 => ?_
    have hyne : 1 ≤ ys.length := by
      have := hy2 (by simp)
      cases ys with
      | nil => exact absurd rfl this
      | cons _ _ => simp
    simp only [List.length_nil, Nat.zero_add] at hy3
    have hset : (rest ++ [D.lst []]).set rest.length (.lst ys) = rest ++ [.lst ys] := by rw [setA0]; rfl
    nomatch hset
    have hget : (rest ++ [D.lst ys])[rest.length]? = some (.lst ys) := by rw [getA0]; rfl
    nomatch hget
    refine tk hT ok (by omega) (by omega) (by omega) fun c1 r1 ok1 r10 r11 => ?_
    nomatch hget
    obtain ⟨one, hone, e⟩ := atI_in (xs := ys) r10 (by omega)
    have hone := hy1 one hone
    nomatch e
    nomatch hget
    refine tk hT ok1 (by omega) (by omega) (by omega) fun c2 r2 ok2 r20 r21 => ?_
    nomatch hget
    obtain ⟨two, htwo, e2⟩ := atI_in (xs := ys) r20 (by omega)
    have htwo := hy1 two htwo
    nomatch e2
    bv_omega
    refine tk hT ok2 (by omega) (by omega) (by omega) fun c3 r3 ok3 r30 r31 => ?_
    obtain ⟨o, ho, e3⟩ := atI_in (xs := [two, .non, .int 0, .int 1, .tup [], .tup [.tup [], .int 0], .tup [.int 0, .tup [.tup [], .int 0]], .int (-1), .str "a", .int 99]) r30 (by simp; omega)
    have hsm : Small v o := by
      have h1 := htwo.2.1
      have h2 := htwo.2.2
      have := szD_pos v
      simp only [List.mem_cons, List.not_mem_nil, or_false] at ho
      rcases ho with rfl | rfl | rfl | rfl | rfl | rfl | rfl | rfl | rfl | rfl
      · exact ⟨htwo.1 hp, by omega, by omega⟩
      · exact ⟨rfl, by simp [dpD], by simp [szD]⟩
      · exact ⟨rfl, by simp [dpD], by simp [szD]⟩
      · exact ⟨rfl, by simp [dpD], by simp [szD]⟩
      · exact ⟨rfl, by simp [dpD, dpDs]; omega, by simp [szD, szDs]⟩
      · exact ⟨rfl, by simp [dpD, dpDs]; omega, by simp [szD, szDs]⟩
      · exact ⟨rfl, by simp [dpD, dpDs]; omega, by simp [szD, szDs]⟩
      · exact ⟨rfl, by simp [dpD], by simp [szD]⟩
      · exact ⟨by decide +kernel, by simp [dpD], by simp [szD]⟩
      · exact ⟨rfl, by simp [dpD], by simp [szD]⟩
    exists e3
    refine ite_S hΦ [5] (fun vs s => ∃ o c', vs = [some o] ∧ Small v o ∧ s = cellD c' :: (rest ++ [.lst ys]) ∧ c'.ok (b + 5)) ?_ ?_
    · simp_wf
      rcases pv_cases (hone.1 hp) with rfl | ⟨k, rfl⟩ | ⟨z, rfl⟩ | ⟨zs, rfl, hz'⟩
      · simp_wf; exact ⟨[_], rfl, o, c3, rfl, hsm, rfl, ok3.mono (by omega)⟩
      · simp_wf; exact ⟨[_], rfl, o, c3, rfl, hsm, rfl, ok3.mono (by omega)⟩
      · simp_wf; exact ⟨[_], rfl, o, c3, rfl, hsm, rfl, ok3.mono (by omega)⟩
      simp_wf
      refine tk hT ok3 (by omega) (by omega) (by omega) fun c4 r4 ok4 r40 r41 => ?_
      simp_wf
      refine xite_mk (fun _ => ?_) (fun _ => ?_)
      · have hzl := szDs_len zs
        have hzs := hone.2.1
        simp only [szD] at hzs
        have hcl : ∀ lo hi, (cutD zs lo hi).length ≤ zs.length := fun lo hi => (cut_sub (lo := lo) (hi := hi)).length_le
        have hcl1 := hcl (some (-1)) none
        simp_wf
        refine xand_mk (by omega) fun _ => ?_
        simp_wf
        refine xand_mk (by omega) fun _ => ?_
        simp_wf
        refine tk hT ok4 (by omega) (by omega) (by omega) fun c5 r5 ok5 r50 r51 => ?_
        obtain ⟨o2, ho2, e4⟩ := atI_in (xs := [.tup (cutD zs (some 1) none), .tup (zs ++ cutD zs (some (-1)) none), .tup zs.reverse, .tup (cutD zs none (some (-1)))]) r50 (by simp; omega)
        nomatch e4
        have hcs : ∀ lo hi, szDs (cutD zs lo hi) ≤ szDs zs := fun lo hi => szDs_sub cut_sub
        have hcs1 := hcs (some (-1)) none
        refine ⟨[_], rfl, o2, c5, rfl, ?_, rfl, ok5.mono (by omega)⟩
        simp only [List.mem_cons, List.not_mem_nil, or_false] at ho2
        rcases ho2 with rfl | rfl | rfl | rfl
        · exact small_tup hone (hone.1 hp) (fun x hx => cut_mem hx) (by have := hcs (some 1) none; omega)
        · refine small_tup hone (hone.1 hp) (fun x hx => ?_) (by rw [szDs_append]; omega)
          rcases List.mem_append.mp hx with hx | hx
          · exact hx
          · exact cut_mem hx
        · exact small_tup hone (hone.1 hp) (fun x hx => List.mem_reverse.mp hx) (by rw [szDs_rev]; omega)
        · exact small_tup hone (hone.1 hp) (fun x hx => cut_mem hx) (by have := hcs none (some (-1)); omega)
      · simp_wf; exact ⟨[_], rfl, o, c4, rfl, hsm, rfl, ok4.mono (by omega)⟩
    rintro vs s ⟨o, c', rfl, hsm, rfl, ok5⟩
    simp_wf
    refine xand_mk (by omega) fun _ => ?_
    simp_wf
    have hg2 : (rest ++ ([D.lst ys] ++ [D.lst [D.int (r1 + 1)]]))[rest.length + 1]? = some (.lst [.int (r1 + 1)]) := by rw [getA]; rfl
    refine xK_changed hC (b := r1 + 1) (by simpa using hg2) ⟨hp, hsm.pv, hd, by omega⟩ fun v' b' g => ?_
    have g2 := g.dp
    have g3 := g.sz
    have s2 := hsm.dp
    have s3 := hsm.sz
    have hszv : szD v' ≤ 3 * szD v + 6 := by (repeat' split at g3) <;> omega
    obtain ⟨G, hG⟩ : ∃ G, (cellD c' :: (rest ++ [D.lst ys, D.lst [D.int (r1 + 1)]])).set (rest.length + 1 + 1) (.lst [.int b']) = cellD c' :: (rest ++ G) := by
      refine ⟨[D.lst ys] ++ [D.lst [.int b']], ?_⟩
      rw [List.set_cons_succ, setA]; rfl
    rw [hG]
    simp_wf
    refine xK_high hH ⟨g.pv, by omega⟩ fun hr => ?_
    simp_wf
    refine xite_mk (fun _ => ?_) (fun _ => ?_)
    · simp_wf
      exact fin_tk hst (cl_pv hp) (q _ _ ok5 ⟨hp, by omega, by omega⟩)
    · simp_wf
      exact fin_tk hst (cl_pv g.pv) (q _ _ ok5 ⟨g.pv, by omega, by omega⟩)
  · exact h.elim

theorem cut_to {xs : List D} (k : Nat) : cutD xs none (some (k : Int)) = xs.take k := by
  unfold cutD
  rw [HT.sIx_none, HT.sIx_nat, List.drop_zero, Nat.sub_zero]
  exact (List.take_eq_take_min ..).symm
theorem cut_from {xs : List D} (k : Nat) : cutD xs (some (k : Int)) none = xs.drop k := by
  unfold cutD
  rw [HT.sIx_none, HT.sIx_nat]
  by_cases h : k ≤ xs.length
  · rw [Nat.min_eq_left h, List.take_of_length_le (by rw [List.length_drop]; omega)]
  · rw [Nat.min_eq_right (by omega), List.drop_of_length_le (Nat.le_refl _), List.drop_of_length_le (by omega)]; simp
theorem cut_m1 {xs : List D} (h : xs ≠ []) : cutD xs none (some (-1)) = xs.dropLast := by
  have hl : 0 < xs.length := List.length_pos_iff.mpr h
  unfold cutD
  have : HT.sIx xs.length xs.length (some (-1)) = xs.length - 1 := by
    show (if (-1 : Int) < 0 then ((-1 : Int) + (xs.length : Int)).toNat else min (-1 : Int).toNat xs.length) = _
    rw [if_pos (by decide)]; omega
  rw [HT.sIx_none, this, List.drop_zero, Nat.sub_zero, List.dropLast_eq_take]
theorem cut_l1 {ys : List D} {y : D} : cutD (ys ++ [y]) (some (-1)) none = [y] := by
  unfold cutD
  have : HT.sIx (ys ++ [y]).length 0 (some (-1)) = ys.length := by
    show (if (-1 : Int) < 0 then ((-1 : Int) + ((ys ++ [y]).length : Int)).toNat else min (-1 : Int).toNat (ys ++ [y]).length) = _
    rw [if_pos (by decide), List.length_append, List.length_singleton]; omega
  rw [HT.sIx_none, this, List.drop_left]
  exact List.take_of_length_le (by simp)
theorem put_at {xs : List D} {k : Nat} {v : D} (h : k < xs.length) : xs.take k ++ [v] ++ xs.drop (k + 1) = xs.set k v := by
  rw [List.set_eq_take_append_cons_drop, if_pos h, List.append_assoc]; rfl

/-! texts by their signs -/
def ofL (l : List Nat) : Str := ⟨l.toArray⟩
theorem ofL_len (l : List Nat) : (ofL l).length = l.length := by show l.toArray.size = _; simp
theorem ofL_app (a b : List Nat) : ofL a ++ ofL b = ofL (a ++ b) := by
  show (⟨a.toArray ++ b.toArray⟩ : Str) = ⟨(a ++ b).toArray⟩
  simp
theorem ofL_inj {a b : List Nat} (h : ofL a = ofL b) : a = b := by
  have : (ofL a).cps.toList = (ofL b).cps.toList := by rw [h]
  simpa [ofL] using this
theorem cutS_to {l : List Nat} (k : Nat) : cutS (ofL l) none (some (k : Int)) = ofL (l.take k) := by
  unfold cutS
  rw [HT.sIx_none, HT.sIx_nat, List.drop_zero, Nat.sub_zero, ofL_len]
  show (⟨(l.take (min k l.length)).toArray⟩ : Str) = ⟨(l.take k).toArray⟩
  rw [← List.take_eq_take_min]
theorem cutS_from {l : List Nat} (k : Nat) : cutS (ofL l) (some (k : Int)) none = ofL (l.drop k) := by
  unfold cutS
  rw [HT.sIx_none, HT.sIx_nat, ofL_len]
  show (⟨((l.drop (min k l.length)).take (l.length - min k l.length)).toArray⟩ : Str) = ⟨(l.drop k).toArray⟩
  by_cases h : k ≤ l.length
  · rw [Nat.min_eq_left h, List.take_of_length_le (by rw [List.length_drop]; omega)]
  · rw [Nat.min_eq_right (by omega), List.drop_of_length_le (Nat.le_refl _), List.drop_of_length_le (by omega)]; simp
theorem join_signs : ∀ cs : List Nat, Txt.join "" (cs.map fun c => (⟨#[c]⟩ : Str)) = ofL cs
  | [] => by rw [TL.join_eq]; rfl
  | [c] => by rw [TL.join_eq]; rfl
  | c :: d :: r => by
    have ih := join_signs (d :: r)
    rw [TL.join_eq] at ih ⊢
    show (⟨#[c]⟩ : Str) ++ ("" : Str) ++ Str.join "" ((d :: r).map fun c => (⟨#[c]⟩ : Str)) = _
    rw [ih]
    show ofL [c] ++ ofL [] ++ ofL (d :: r) = _
    rw [ofL_app, ofL_app]; rfl
/-- the 62 signs -/
def SG : List Nat := [97, 98, 99, 100, 101, 102, 103, 104, 105, 106, 107, 108, 109, 110, 111, 112, 113, 114, 115, 116, 117, 118, 119, 120, 121, 122, 65, 66, 67, 68, 69, 70, 71, 72, 73, 74, 75, 76, 77, 78, 79, 80, 81, 82, 83, 84, 85, 86, 87, 88, 89, 90, 48, 49, 50, 51, 52, 53, 54, 55, 56, 57]
theorem SG_str : ("abcdefghijklmnopqrstuvwxyzABCDEFGHIJKLMNOPQRSTUVWXYZ0123456789" : Str) = ofL SG := by decide +kernel
theorem SG_len : SG.length = 62 := by decide
theorem SG_nodup : SG.Nodup := by decide +kernel
theorem SG_small : ∀ c ∈ SG, c < 128 := by decide +kernel
def NameOk (x : Str) : Prop := ∃ l : List Nat, x = ofL l ∧ 1 ≤ l.length ∧ l.length ≤ 8 ∧ ∀ c ∈ l, c ∈ SG
structure WordsOk (ws : List Str) : Prop where
  len : ws.length = 12
  nd : ws.Nodup
  ok : ∀ w ∈ ws, NameOk w
/-- the k-th word -/
def word (un : Bool) (stem : List Nat) (cut st k : Nat) : List Nat :=
  let g := SG[(st + 5 * k) % 62]?.getD 0
  if un = true then g :: stem.take ((k + cut) % (stem.length + 1)) else stem.take cut ++ [g] ++ stem.drop cut
theorem sg_at (i : Nat) : SG[i % 62]? = some (SG[i % 62]?.getD 0) ∧ SG[i % 62]?.getD 0 ∈ SG := by
  have h : i % 62 < SG.length := by rw [SG_len]; exact Nat.mod_lt _ (by decide)
  rw [List.getElem?_eq_getElem h]
  exact ⟨rfl, List.getElem_mem h⟩
theorem sg_inj {i j : Nat} (h : SG[i % 62]?.getD 0 = SG[j % 62]?.getD 0) : i % 62 = j % 62 := by
  have hi : i % 62 < SG.length := by rw [SG_len]; exact Nat.mod_lt _ (by decide)
  have hj : j % 62 < SG.length := by rw [SG_len]; exact Nat.mod_lt _ (by decide)
  rw [List.getElem?_eq_getElem hi, List.getElem?_eq_getElem hj] at h
  have hp := List.pairwise_iff_getElem.mp (List.nodup_iff_pairwise_ne.mp SG_nodup)
  rcases Nat.lt_trichotomy (i % 62) (j % 62) with h1 | h1 | h1
  · exact absurd h (hp _ _ hi hj h1)
  · exact h1
  · exact absurd h.symm (hp _ _ hj hi h1)
theorem word_ok {un : Bool} {stem : List Nat} {cut st k : Nat} (h : stem.length ≤ 7) (hs : ∀ c ∈ stem, c ∈ SG) (hc : cut ≤ stem.length) : NameOk (ofL (word un stem cut st k)) := by
  have hg := (sg_at (st + 5 * k)).2
  refine ⟨_, rfl, ?_⟩
  unfold word
  cases un with
  | true =>
    simp only [if_true]
    refine ⟨by simp, by rw [List.length_cons, List.length_take]; omega, fun c hc => ?_⟩
    rcases List.mem_cons.mp hc with rfl | hc
    · exact hg
    · exact hs c (List.mem_of_mem_take hc)
  | false =>
    simp only [Bool.false_eq_true, if_false]
    refine ⟨by simp; omega, by simp; omega, fun c hc => ?_⟩
    simp only [List.mem_append, List.mem_singleton] at hc
    rcases hc with (hc | rfl) | hc
    · exact hs c (List.mem_of_mem_take hc)
    · exact hg
    · exact hs c (List.mem_of_mem_drop hc)
theorem word_inj {un : Bool} {stem : List Nat} {cut st i j : Nat} (h : word un stem cut st i = word un stem cut st j) : (st + 5 * i) % 62 = (st + 5 * j) % 62 := by
  unfold word at h
  cases un with
  | true =>
    simp only [if_true, List.cons.injEq] at h
    exact sg_inj h.1
  | false =>
    simp only [Bool.false_eq_true, if_false, List.append_assoc] at h
    have h := List.append_cancel_left h
    have h := List.append_cancel_right h
    simp only [List.cons.injEq, and_true] at h
    exact sg_inj h
theorem words_ok {un : Bool} {stem : List Nat} {cut st : Nat} (h : stem.length ≤ 7) (hs : ∀ c ∈ stem, c ∈ SG) (hc : cut ≤ stem.length) : WordsOk ((List.range 12).map fun k => ofL (word un stem cut st k)) := by
  refine ⟨by simp, ?_, fun w hw => ?_⟩
  · rw [List.nodup_iff_pairwise_ne, List.pairwise_map]
    refine List.Pairwise.imp_of_mem (fun {a b} ha hb hne e => hne ?_) (List.nodup_iff_pairwise_ne.mp List.nodup_range)
    have := word_inj (ofL_inj e)
    have h1 := List.mem_range.mp ha
    have h2 := List.mem_range.mp hb
    omega
  · obtain ⟨k, _, rfl⟩ := List.mem_map.mp hw
    exact word_ok h hs hc

/-! a tape whose budget is known -/
def Cell.oz (c : Cell) (z : Int) (b : Nat) : Prop := c.ok b ∧ c.z = z
theorem Cell.oz.mono {c : Cell} {z : Int} {b b' : Nat} (h : c.oz z b) (hb : b ≤ b') : c.oz z b' := ⟨h.1.mono hb, h.2⟩
theorem tkz {Φ : Fns} {i : Nat} {m z : Int} {c : Cell} {b : Nat} {rest : Sto} {Q : Kd} {u} (hi : Φ i = f_take) (h2 : c.oz z b) (h3 : b < 2 ^ 60) (h4 : 0 < m) (h5 : m < 2 ^ 64)
    (h : ∀ c' r, c'.oz z (b + 1) → 0 ≤ r → r < m → Q (.int r) (cellD c' :: rest)) : xK Φ i [.loc 0, .int m] (cellD c :: rest) Q u :=
  xK_take hi (c := c) rfl h2.1 h3 h4 (by omega) fun c' r g1 g2 g3 g4 => h c' r ⟨g1, g2.trans h2.2⟩ g3 g4
def b_words (iT : Nat) : List SS := [.set (.nm 1) (.con (.str "abcdefghijklmnopqrstuvwxyzABCDEFGHIJKLMNOPQRSTUVWXYZ0123456789")),
  .set (.nm 2) (.mth .join (.con (.str "")) [(.lc false (.idx (.var 1) (.call iT [(.var 0), (.con (.int 62))])) (.nm 7) (.rng1 (.idx (.lst false [(.con (.int 0)), (.con (.int 0)), (.con (.int 1)), (.con (.int 3)), (.con (.int 7))]) (.call iT [(.var 0), (.con (.int 5))]))) none [7])]),
  .set (.nm 3) (.call iT [(.var 0), (.con (.int 62))]),
  .set (.nm 4) (.call iT [(.var 0), (.bin .add false (.blt .len false [(.var 2)]) (.con (.int 1)))]),
  .set (.nm 5) (.cmp .eq (.call iT [(.var 0), (.con (.int 4))]) (.con (.int 0))),
  .set (.nm 6) (.lst true []),
  .for_ (.nm 7) (.rng1 (.con (.int 12))) [.set (.nm 8) (.idx (.var 1) (.bin .mod false (.blt .int false [(.bin .add false (.var 3) (.bin .mul false (.con (.int 5)) (.var 7)))]) (.con (.int 62)))),
  .ite (.val (.var 5)) [.expr (.mth .append (.var 6) [(.bin .add false (.var 8) (.slc false (.var 2) none (some (.bin .mod false (.blt .int false [(.bin .add false (.var 7) (.var 4))]) (.bin .add false (.blt .len false [(.var 2)]) (.con (.int 1)))))))])] [.expr (.mth .append (.var 6) [(.bin .add false (.bin .add false (.slc false (.var 2) none (some (.var 4))) (.var 8)) (.slc false (.var 2) (some (.var 4)) none))])]],
  .ret (.var 6)]
def f_words : Fn := fun ds st Q => match ds with
  | [.loc 0] => ∃ c b z rest, st = cellD c :: rest ∧ (c.oz z b ∧ b < 2 ^ 59) ∧
      ∀ c' ws, c'.oz z (b + 20) → WordsOk ws → Q (.lst (ws.map .str)) (cellD c' :: rest)
  | _ => False
theorem m_words : MonoFn f_words := fun vs st Q Q' h q => by
  unfold f_words at *
  split at q
  · obtain ⟨c, b, z, rest, h1, h2, q⟩ := q
    exact ⟨c, b, z, rest, h1, h2, fun c' ws g1 g2 => h _ _ (q c' ws g1 g2)⟩
  · exact q
theorem xK_words {Φ : Fns} {i : Nat} {c : Cell} {b : Nat} {z : Int} {rest : Sto} {Q : Kd} {u} (hi : Φ i = f_words) (h1 : c.oz z b) (h2 : b < 2 ^ 59)
    (h : ∀ c' ws, c'.oz z (b + 20) → WordsOk ws → Q (.lst (ws.map .str)) (cellD c' :: rest)) : xK Φ i [.loc 0] (cellD c :: rest) Q u := by
  unfold xK
  rw [hi]
  exact ⟨c, b, z, rest, rfl, ⟨h1, h2⟩, h⟩
theorem strs_map : ∀ l : List Str, strs? (l.map .str) = some l
  | [] => rfl
  | x :: r => by simp only [List.map_cons, strs?, strs_map r, Option.map_some]
theorem o_words {Φ : Fns} (hΦ : ∀ f, MonoFn (Φ f)) {iT : Nat} (hT : Φ iT = f_take) {ds : List D} {st : Sto} {Q : Kd} (hst : ∀ d ∈ st, Cl st.length d) (h : f_words ds st Q) :
    xBody Φ (b_words iT) st.length Q ⟨⟩ (ds.map some ++ List.replicate (9 - 1) none) st := by
  unfold f_words at h
  split at h
  · obtain ⟨c, b, z, rest, rfl, ⟨ok, hb⟩, q⟩ := h
    have hz := sizeLine_ge
    unfold b_words
    rw [SG_str]
    have hSL : (ofL SG).length = 62 := by rw [ofL_len, SG_len]
    have hS : (ofL SG).cps.toList = SG := by simp [ofL]
    bv_omega
    refine tkz hT ok (by omega) (by omega) (by omega) fun c1 r1 ok1 r10 r11 => ?_
    obtain ⟨m, hm0, hm7, e⟩ : ∃ m : Int, 0 ≤ m ∧ m ≤ 7 ∧ atI [D.int 0, D.int 0, D.int 1, D.int 3, D.int 7] r1 = some (.int m) := by
      have : r1 = 0 ∨ r1 = 1 ∨ r1 = 2 ∨ r1 = 3 ∨ r1 = 4 := by omega
      rcases this with rfl | rfl | rfl | rfl | rfl
      · exact ⟨0, by decide, by decide, rfl⟩
      · exact ⟨0, by decide, by decide, rfl⟩
      · exact ⟨1, by decide, by decide, rfl⟩
      · exact ⟨3, by decide, by decide, rfl⟩
      · exact ⟨7, by decide, by decide, rfl⟩
    nomatch e
    refine xand_mk (by omega) fun _ => ?_
    simp_wf
    refine lc_inv hΦ (fun i acc s => ∃ c' cs, acc = (cs.map fun c => (⟨#[c]⟩ : Str)).map .str ∧ cs.length = i ∧ (∀ c ∈ cs, c ∈ SG) ∧ s = cellD c' :: rest ∧ c'.oz z (b + 1 + i)) ⟨c1, [], rfl, rfl, (fun c hc => by cases hc), rfl, ok1⟩ (by rw [rngL_len]; simp; omega) (fun i acc s _ _ => trivial) ?_ ?_
    · rintro i x acc s hx ⟨c', cs, rfl, hcl, hcs, rfl, okc⟩
      obtain ⟨hi, rfl⟩ := rngL_at hx
      simp_wf
      refine tkz hT okc (by omega) (by omega) (by omega) fun c2 r2 ok2 r20 r21 => ?_
      have e2 : atI SG r2 = some (SG[r2.toNat % 62]?.getD 0) := by
        rw [atI_int r20, ← (sg_at r2.toNat).1, Nat.mod_eq_of_lt (by omega)]
      nomatch hSL, hS, e2
      refine xand_mk (by omega) fun _ => ?_
      nomatch hSL, hS, e2
      exact ⟨c2, cs ++ [SG[r2.toNat % 62]?.getD 0], by simp, by simp [hcl], (fun c hc => by
        rcases List.mem_append.mp hc with hc | hc
        · exact hcs c hc
        · simp at hc; subst hc; exact (sg_at r2.toNat).2), rfl, ok2⟩
    rintro acc s ⟨c2, cs, rfl, hcl, hcs, rfl, ok2⟩
    rw [rngL_len] at hcl ok2
    have hsum : ((cs.map fun c => (⟨#[c]⟩ : Str)).map (·.length)).sum = cs.length := by
      clear hcl hcs
      induction cs with
      | nil => rfl
      | cons a r ih => rw [List.map_cons, List.map_cons, List.sum_cons, ih, List.length_cons]; show 1 + r.length = _; omega
    have hjn := join_signs cs
    have hle : ∀ s, lenD s (.str (ofL cs)) = some cs.length := fun s => by
      show (if (ofL cs).length ≤ sizeLine then some (ofL cs).length else none) = _
      rw [ofL_len, if_pos (by omega)]
    have hcl7 : cs.length ≤ 7 := by omega
    nomatch strs_map (cs.map fun c => (⟨#[c]⟩ : Str)), hjn
    refine xand_mk (by rw [hsum, show (Str.ofString "").length = 0 by decide +kernel]; omega) fun _ => ?_
    nomatch hjn
    refine tkz hT ok2 (by omega) (by omega) (by omega) fun c3 sn ok3 sn0 sn1 => ?_
    nomatch hle
    refine tkz hT ok3 (by omega) (by omega) (by omega) fun c4 ct ok4 ct0 ct1 => ?_
    simp_wf
    refine tkz hT ok4 (by omega) (by omega) (by omega) fun c5 ru ok5 ru0 ru1 => ?_
    bv_omega
    have hg1 : ∀ l : List D, (rest ++ l)[rest.length]? = l[0]? := fun l => getA0
    have hs1 : ∀ (l : List D) (d : D), (rest ++ l).set rest.length d = rest ++ l.set 0 d := fun l d => setA0
    refine for_ix hΦ [7, 8] (fun i vs s => ∃ a a2, vs = [a, a2] ∧ s = cellD c5 :: (rest ++ [.lst ((List.range i).map fun k => .str (ofL (word (ru == 0) cs ct.toNat sn.toNat k)))])) ⟨_, _, rfl, rfl⟩ (fun i vs s _ h => trivial) ?_ ?_
    · rintro i x vs s hx ⟨a, a2, rfl, rfl⟩
      obtain ⟨hi, rfl⟩ := rngL_at hx
      simp_wf
      refine xand_mk (cmulW (by omega) (by omega)) fun _ => ?_
      bv_omega
      have e2 : atI SG ((sn + 5 * (0 + (i : Int) * 1)) % 62) = some (SG[(sn.toNat + 5 * i) % 62]?.getD 0) := by
        rw [atI_int (by omega), ← (sg_at (sn.toNat + 5 * i)).1]
        congr 1
        omega
      nomatch hSL, hS, e2
      repeat
        refine xand_mk (by first | omega | decide) fun _ => ?_
        nomatch hSL, hS, e2
      have hcs2 : (ofL cs).length = cs.length := ofL_len cs
      refine xite_mk (fun h => ?_) (fun h => ?_)
      · have f1 : cutS (ofL cs) none (some ((0 + (i : Int) * 1 + ct) % ((cs.length : Int) + 1))) = ofL (cs.take ((i + ct.toNat) % (cs.length + 1))) := by
          rw [← cutS_to, show (0 + (i : Int) * 1 + ct) = ((i + ct.toNat : Nat) : Int) by omega, show ((cs.length : Int) + 1) = ((cs.length + 1 : Nat) : Int) by omega, Int.natCast_emod]
        have f2 : ∀ g : Nat, (⟨#[g]⟩ : Str) = ofL [g] := fun _ => rfl
        nomatch hle, hg1, f1, f2, ofL_app, ofL_len
        repeat
          refine xand_mk (by first | omega | decide | (simp; omega)) fun _ => ?_
          nomatch hle, hg1, f1, f2, ofL_app, ofL_len
        nomatch hs1
        refine ⟨[_, _], rfl, _, _, rfl, ?_⟩
        rw [List.range_succ, List.map_append, List.map_singleton, h]
        rfl
      · have f1 : cutS (ofL cs) none (some ct) = ofL (cs.take ct.toNat) := by rw [← cutS_to, Int.toNat_of_nonneg ct0]
        have f3 : cutS (ofL cs) (some ct) none = ofL (cs.drop ct.toNat) := by rw [← cutS_from, Int.toNat_of_nonneg ct0]
        have f2 : ∀ g : Nat, (⟨#[g]⟩ : Str) = ofL [g] := fun _ => rfl
        nomatch hle, hg1, f1, f2, f3, ofL_app, ofL_len
        repeat
          refine xand_mk (by first | omega | decide | (simp; omega)) fun _ => ?_
          nomatch hle, hg1, f1, f2, f3, ofL_app, ofL_len
        nomatch hs1
        refine ⟨[_, _], rfl, _, _, rfl, ?_⟩
        rw [List.range_succ, List.map_append, List.map_singleton, h, show word false cs ct.toNat sn.toNat i = cs.take ct.toNat ++ SG[(sn.toNat + 5 * i) % 62]?.getD 0 :: cs.drop ct.toNat from List.append_assoc _ _ _]
    · rintro vs s ⟨a, a2, rfl, rfl⟩
      simp_wf
      rw [rngL_len]
      have hw := words_ok (un := (ru == 0)) (stem := cs) (cut := ct.toNat) (st := sn.toNat) hcl7 hcs (by omega)
      refine fin_frz (st1 := cellD c5 :: rest) rfl (fun d hd => ?_) (by simp) (Nat.le_refl _) (xs := ((List.range 12).map fun k => ofL (word (ru == 0) cs ct.toNat sn.toNat k)).map .str) (by
        show (rest ++ _)[rest.length]? = _
        rw [hg1, List.map_map]; rfl) (fun d hd => ?_) (q c5 _ (ok5.mono (by omega)) hw)
      · rcases List.mem_cons.mp hd with rfl | hd
        · exact cl_cell
        · exact hst d (List.mem_cons_of_mem _ hd)
      · obtain ⟨w, _, rfl⟩ := List.mem_map.mp hd
        exact cl_str
  · exact h.elim

/-! lots -/
inductive Lot where
  | sure (x : Str)
  | order (ns : List Str)
  | draw (s : Int) (ns : List Str)
  | set (s : Int) (ns : List Str)
  | again (s : Int) (ns : List Str)
  | prizes (s : Int) (rows : List (Str × Int))
  | seats (s : Int) (rows : List (Str × Int))
  | both (ls : List Lot)
  | among (rows : List (Int × Lot))
def pairD (r : Str × Int) : D := .tup [.str r.1, .int r.2]
mutual
def Lot.d : Lot → D
  | .sure x => .tup [.str "sure", .str x]
  | .order ns => .tup [.str "order", .tup (ns.map .str)]
  | .draw s ns => .tup [.str "draw", .int s, .tup (ns.map .str)]
  | .set s ns => .tup [.str "set", .int s, .tup (ns.map .str)]
  | .again s ns => .tup [.str "again", .int s, .tup (ns.map .str)]
  | .prizes s rows => .tup [.str "prizes", .int s, .tup (rows.map pairD)]
  | .seats s rows => .tup [.str "seats", .int s, .tup (rows.map pairD)]
  | .both ls => .tup [.str "both", .tup (dLots ls)]
  | .among rows => .tup [.str "among", .tup (dRows rows)]
def dLots : List Lot → List D
  | [] => []
  | l :: r => l.d :: dLots r
def dRows : List (Int × Lot) → List D
  | [] => []
  | (w, l) :: r => .tup [.int w, l.d] :: dRows r
end
structure NamesOk (ns : List Str) : Prop where
  l1 : 1 ≤ ns.length
  l12 : ns.length ≤ 12
  nd : ns.Nodup
  ok : ∀ x ∈ ns, NameOk x
mutual
def LotOk : Lot → Prop
  | .sure x => NameOk x
  | .order ns => NamesOk ns
  | .draw s ns => NamesOk ns ∧ 0 ≤ s ∧ s ≤ ns.length
  | .set s ns => NamesOk ns ∧ 0 ≤ s ∧ s ≤ ns.length
  | .again s ns => NamesOk ns ∧ 0 ≤ s ∧ s ≤ 12
  | .prizes s rows => NamesOk (rows.map (·.1)) ∧ rows.length ≤ 5 ∧ 0 ≤ s ∧ s ≤ rows.length ∧ ∀ r ∈ rows, 1 ≤ r.2 ∧ r.2 ≤ 100
  | .seats s rows => NamesOk (rows.map (·.1)) ∧ 0 ≤ s ∧ s ≤ 1000 ∧ 0 < (rows.map (·.2)).sum ∧ ∀ r ∈ rows, 0 ≤ r.2 ∧ r.2 ≤ 100000
  | .both ls => (1 ≤ ls.length ∧ ls.length ≤ 12) ∧ LotsOk ls
  | .among rows => (1 ≤ rows.length ∧ rows.length ≤ 12 ∧ 0 < (rows.map (·.1)).sum ∧ ∀ r ∈ rows, 0 ≤ r.1 ∧ r.1 ≤ 1000) ∧ RowsOk rows
def LotsOk : List Lot → Prop
  | [] => True
  | l :: r => LotOk l ∧ LotsOk r
def RowsOk : List (Int × Lot) → Prop
  | [] => True
  | (_, l) :: r => LotOk l ∧ RowsOk r
end
mutual
def Lot.dep : Lot → Nat
  | .both ls => depLots ls + 1
  | .among rows => depRows rows + 1
  | .sure _ => 1
  | .order _ => 1
  | .draw _ _ => 1
  | .set _ _ => 1
  | .again _ _ => 1
  | .prizes _ _ => 1
  | .seats _ _ => 1
def depLots : List Lot → Nat
  | [] => 0
  | l :: r => max l.dep (depLots r)
def depRows : List (Int × Lot) → Nat
  | [] => 0
  | (_, l) :: r => max l.dep (depRows r)
end
mutual
def Sm : Lot → Prop
  | .sure _ => True
  | .order ns => ns.length ≤ 6
  | .draw _ ns => ns.length ≤ 6
  | .set _ ns => ns.length ≤ 6
  | .again s ns => ns.length ≤ 6 ∧ s ≤ 3
  | .prizes _ _ => True
  | .seats s rows => rows.length ≤ 6 ∧ s ≤ 12 ∧ ∀ r ∈ rows, r.2 ≤ 40
  | .both ls => ls.length ≤ 6 ∧ SmL ls
  | .among rows => rows.length ≤ 6 ∧ SmR rows
def SmL : List Lot → Prop
  | [] => True
  | l :: r => Sm l ∧ SmL r
def SmR : List (Int × Lot) → Prop
  | [] => True
  | (_, l) :: r => Sm l ∧ SmR r
end
theorem smL_iff : ∀ {ls : List Lot}, SmL ls ↔ ∀ l ∈ ls, Sm l
  | [] => by simp [SmL]
  | l :: r => by simp [SmL, smL_iff (ls := r)]
theorem smR_iff : ∀ {ls : List (Int × Lot)}, SmR ls ↔ ∀ r ∈ ls, Sm r.2
  | [] => by simp [SmR]
  | (w, l) :: r => by simp [SmR, smR_iff (ls := r)]
theorem dLots_eq : ∀ ls : List Lot, dLots ls = ls.map Lot.d
  | [] => by simp [dLots]
  | l :: r => by simp only [dLots, List.map_cons, dLots_eq r]
theorem dRows_eq : ∀ ls : List (Int × Lot), dRows ls = ls.map fun r => .tup [.int r.1, r.2.d]
  | [] => by simp [dRows]
  | (w, l) :: r => by simp only [dRows, List.map_cons, dRows_eq r]
theorem lotsOk_iff : ∀ {ls : List Lot}, LotsOk ls ↔ ∀ l ∈ ls, LotOk l
  | [] => by simp [LotsOk]
  | l :: r => by simp [LotsOk, lotsOk_iff (ls := r)]
theorem rowsOk_iff : ∀ {ls : List (Int × Lot)}, RowsOk ls ↔ ∀ r ∈ ls, LotOk r.2
  | [] => by simp [RowsOk]
  | (w, l) :: r => by simp only [RowsOk, rowsOk_iff (ls := r), List.mem_cons, forall_eq_or_imp]
theorem depLots_le {n : Nat} : ∀ {ls : List Lot}, depLots ls ≤ n ↔ ∀ l ∈ ls, l.dep ≤ n
  | [] => by simp [depLots]
  | l :: r => by simp only [depLots, Nat.max_le, depLots_le (ls := r), List.mem_cons, forall_eq_or_imp]
theorem depRows_le {n : Nat} : ∀ {ls : List (Int × Lot)}, depRows ls ≤ n ↔ ∀ r ∈ ls, r.2.dep ≤ n
  | [] => by simp [depRows]
  | (w, l) :: r => by simp only [depRows, Nat.max_le, depRows_le (ls := r), List.mem_cons, forall_eq_or_imp]
theorem WordsOk.names {ws : List Str} (h : WordsOk ws) {k : Nat} (h1 : 1 ≤ k) (h2 : k ≤ 12) : NamesOk (ws.take k) := by
  have hl := h.len
  exact ⟨by rw [List.length_take]; omega, by rw [List.length_take]; omega, h.nd.sublist (List.take_sublist _ _), fun x hx => h.ok x (List.mem_of_mem_take hx)⟩
theorem sum_nn : ∀ {l : List Int}, (∀ x ∈ l, 0 ≤ x) → 0 ≤ l.sum
  | [], _ => by simp
  | a :: r, h => by
    rw [List.sum_cons]
    have h1 := h a (by simp)
    have h2 := sum_nn (l := r) fun x hx => h x (List.mem_cons_of_mem _ hx)
    omega

def b_plain (iT : Nat) : List SS := [.set (.nm 2) (.call iT [(.var 0), (.con (.int 7))]),
  .set (.nm 3) (.bin .add false (.con (.int 1)) (.call iT [(.var 0), (.idx (.lst false [(.con (.int 4)), (.con (.int 4)), (.con (.int 6))]) (.call iT [(.var 0), (.con (.int 3))]))])),
  .set (.nm 4) (.blt .tuple false [(.slc false (.var 1) none (some (.var 3)))]),
  .ite (.cmp .eq (.var 2) (.con (.int 0))) [.ret (.tup [(.con (.str "sure")), (.idx (.var 1) (.call iT [(.var 0), (.con (.int 12))]))])] [],
  .ite (.cmp .eq (.var 2) (.con (.int 1))) [.ret (.tup [(.con (.str "order")), (.var 4)])] [],
  .ite (.cmp .lt (.var 2) (.con (.int 4))) [.ret (.tup [(.idx (.lst false [(.con (.str "draw")), (.con (.str "set"))]) (.bin .sub false (.var 2) (.con (.int 2)))), (.call iT [(.var 0), (.bin .add false (.var 3) (.con (.int 1)))]), (.var 4)])] [],
  .ite (.cmp .eq (.var 2) (.con (.int 4))) [.ret (.tup [(.con (.str "again")), (.call iT [(.var 0), (.con (.int 4))]), (.var 4)])] [],
  .ite (.cmp .eq (.var 2) (.con (.int 5))) [.set (.nm 3) (.blt .min2 false [(.var 3), (.idx (.lst false [(.con (.int 3)), (.con (.int 5))]) (.call iT [(.var 0), (.con (.int 2))]))]),
  .set (.nm 5) (.idx (.lst false [(.con (.int 1)), (.con (.int 3)), (.con (.int 100))]) (.call iT [(.var 0), (.con (.int 3))])),
  .ret (.tup [(.con (.str "prizes")), (.call iT [(.var 0), (.bin .add false (.var 3) (.con (.int 1)))]), (.blt .tuple false [(.lc false (.tup [(.idx (.var 1) (.var 7)), (.bin .add false (.con (.int 1)) (.call iT [(.var 0), (.var 5)]))]) (.nm 7) (.rng1 (.var 3)) none [7])])])] [],
  .set (.nm 6) (.lc true (.tup [(.idx (.var 1) (.var 7)), (.idx (.lst false [(.call iT [(.var 0), (.con (.int 9))]), (.con (.int 0)), (.call iT [(.var 0), (.con (.int 40))])]) (.call iT [(.var 0), (.con (.int 3))]))]) (.nm 7) (.rng1 (.var 3)) none [7]),
  .ite (.cmp .eq (.blt .sum false [(.lc false (.idx (.var 8) (.con (.int 1))) (.nm 8) (.seq (.var 6)) none [8])]) (.con (.int 0))) [.set (.sub (.var 6) (.con (.int 0))) (.tup [(.idx (.var 1) (.con (.int 0))), (.bin .add false (.con (.int 1)) (.call iT [(.var 0), (.con (.int 9))]))])] [],
  .ret (.tup [(.con (.str "seats")), (.call iT [(.var 0), (.con (.int 12))]), (.blt .tuple false [(.var 6)])])]
def f_plain : Fn := fun ds st Q => match ds with
  | [.loc 0, .lst xs] => ∃ c b z rest ws, st = cellD c :: rest ∧ xs = ws.map .str ∧ (c.oz z b ∧ b < 2 ^ 58 ∧ WordsOk ws) ∧
      ∀ c' (l : Lot), c'.oz z (b + 40) → LotOk l → l.dep = 1 → Sm l → Q l.d (cellD c' :: rest)
  | _ => False
theorem m_plain : MonoFn f_plain := fun vs st Q Q' h q => by
  unfold f_plain at *
  split at q
  · obtain ⟨c, b, z, rest, ws, h1, h2, h3, q⟩ := q
    exact ⟨c, b, z, rest, ws, h1, h2, h3, fun c' l g1 g2 g3 g4 => h _ _ (q c' l g1 g2 g3 g4)⟩
  · exact q
theorem xK_plain {Φ : Fns} {i : Nat} {c : Cell} {b : Nat} {z : Int} {rest : Sto} {ws : List Str} {Q : Kd} {u} (hi : Φ i = f_plain) (h1 : c.oz z b) (h2 : b < 2 ^ 58) (h3 : WordsOk ws)
    (h : ∀ c' (l : Lot), c'.oz z (b + 40) → LotOk l → l.dep = 1 → Sm l → Q l.d (cellD c' :: rest)) : xK Φ i [.loc 0, .lst (ws.map .str)] (cellD c :: rest) Q u := by
  unfold xK
  rw [hi]
  exact ⟨c, b, z, rest, ws, rfl, rfl, ⟨h1, h2, h3⟩, h⟩
theorem o_plain {Φ : Fns} (hΦ : ∀ f, MonoFn (Φ f)) {iT : Nat} (hT : Φ iT = f_take) {ds : List D} {st : Sto} {Q : Kd} (hst : ∀ d ∈ st, Cl st.length d) (h : f_plain ds st Q) :
    xBody Φ (b_plain iT) st.length Q ⟨⟩ (ds.map some ++ List.replicate (9 - 2) none) st := by
  unfold f_plain at h
  split at h
  · obtain ⟨c, b, z, rest, ws, rfl, rfl, ⟨ok, hb, wo⟩, q⟩ := h
    have hz := sizeLine_ge
    have hwl := wo.len
    unfold b_plain
    simp_wf
    refine tkz hT ok (by omega) (by omega) (by omega) fun c1 kd ok1 kd0 kd1 => ?_
    bv_omega
    refine tkz hT ok1 (by omega) (by omega) (by omega) fun c2 r2 ok2 r20 r21 => ?_
    obtain ⟨m0, hm, e⟩ : ∃ m0 : Int, 4 ≤ m0 ∧ m0 ≤ 6 ∧ atI [D.int 4, D.int 4, D.int 6] r2 = some (.int m0) := by
      have : r2 = 0 ∨ r2 = 1 ∨ r2 = 2 := by omega
      rcases this with rfl | rfl | rfl
      · exact ⟨4, by decide, by decide, rfl⟩
      · exact ⟨4, by decide, by decide, rfl⟩
      · exact ⟨6, by decide, by decide, rfl⟩
    obtain ⟨hm6, e⟩ := e
    nomatch e
    refine tkz hT ok2 (by omega) (by omega) (by omega) fun c3 r3 ok3 r30 r31 => ?_
    have hcut : cutD (ws.map D.str) none (some (1 + r3)) = (ws.take (1 + r3).toNat).map .str := by
      rw [show 1 + r3 = (((1 + r3).toNat : Nat) : Int) by omega, cut_to, Int.toNat_natCast, List.map_take]
    have hno := wo.names (k := (1 + r3).toNat) (by omega) (by omega)
    have hnl : (ws.take (1 + r3).toNat).length = (1 + r3).toNat := by rw [List.length_take]; omega
    nomatch hcut
    have hk : kd = 0 ∨ kd = 1 ∨ kd = 2 ∨ kd = 3 ∨ kd = 4 ∨ kd = 5 ∨ kd = 6 := by omega
    rcases hk with rfl | rfl | rfl | rfl | rfl | rfl | rfl
    · simp_wf
      refine tkz hT ok3 (by omega) (by omega) (by omega) fun c4 r4 ok4 r40 r41 => ?_
      obtain ⟨d, hd, e4⟩ := atI_in (xs := ws.map D.str) r40 (by rw [List.length_map]; omega)
      obtain ⟨w, hw, rfl⟩ := List.mem_map.mp hd
      nomatch e4
      bv_omega
      exact fin_q (q c4 (.sure w) (ok4.mono (by omega)) (wo.ok w hw) (by simp only [Lot.dep]) trivial)
    · bv_omega
      exact fin_q (q c3 (.order _) (ok3.mono (by omega)) hno (by simp only [Lot.dep]) (show (ws.take (1 + r3).toNat).length ≤ 6 by rw [hnl]; omega))
    · bv_omega
      refine tkz hT ok3 (by omega) (by omega) (by omega) fun c4 r4 ok4 r40 r41 => ?_
      bv_omega
      exact fin_q (q c4 (.draw r4 _) (ok4.mono (by omega)) ⟨hno, r40, by rw [hnl]; omega⟩ (by simp only [Lot.dep]) (show (ws.take (1 + r3).toNat).length ≤ 6 by rw [hnl]; omega))
    · bv_omega
      refine tkz hT ok3 (by omega) (by omega) (by omega) fun c4 r4 ok4 r40 r41 => ?_
      bv_omega
      exact fin_q (q c4 (.set r4 _) (ok4.mono (by omega)) ⟨hno, r40, by rw [hnl]; omega⟩ (by simp only [Lot.dep]) (show (ws.take (1 + r3).toNat).length ≤ 6 by rw [hnl]; omega))
    · bv_omega
      refine tkz hT ok3 (by omega) (by omega) (by omega) fun c4 r4 ok4 r40 r41 => ?_
      bv_omega
      exact fin_q (q c4 (.again r4 _) (ok4.mono (by omega)) ⟨hno, r40, by omega⟩ (by simp only [Lot.dep]) ⟨(show (ws.take (1 + r3).toNat).length ≤ 6 by rw [hnl]; omega), by omega⟩)
    · bv_omega
      refine tkz hT ok3 (by omega) (by omega) (by omega) fun c4 r4 ok4 r40 r41 => ?_
      obtain ⟨w, hw3, hw5, e4⟩ : ∃ w : Int, 3 ≤ w ∧ w ≤ 5 ∧ atI [D.int 3, D.int 5] r4 = some (.int w) := by
        have : r4 = 0 ∨ r4 = 1 := by omega
        rcases this with rfl | rfl
        · exact ⟨3, by decide, by decide, rfl⟩
        · exact ⟨5, by decide, by decide, rfl⟩
      nomatch e4
      obtain ⟨mm, hmm, hm1, hm5⟩ : ∃ mm : Int, mm = (if w < 1 + r3 then w else 1 + r3) ∧ 1 ≤ mm ∧ mm ≤ 5 := ⟨_, rfl, by split <;> omega, by split <;> omega⟩
      rw [← hmm]
      bv_omega
      refine tkz hT ok4 (by omega) (by omega) (by omega) fun c5 r5 ok5 r50 r51 => ?_
      obtain ⟨mo, ho1, ho2, e5⟩ : ∃ mo : Int, 1 ≤ mo ∧ mo ≤ 100 ∧ atI [D.int 1, D.int 3, D.int 100] r5 = some (.int mo) := by
        have : r5 = 0 ∨ r5 = 1 ∨ r5 = 2 := by omega
        rcases this with rfl | rfl | rfl
        · exact ⟨1, by decide, by decide, rfl⟩
        · exact ⟨3, by decide, by decide, rfl⟩
        · exact ⟨100, by decide, by decide, rfl⟩
      nomatch e5
      refine tkz hT ok5 (by omega) (by omega) (by omega) fun c6 r6 ok6 r60 r61 => ?_
      bv_omega
      refine lc_inv hΦ (fun i acc s => ∃ c' rows, acc = List.map pairD rows ∧ rows.map (·.1) = ws.take i ∧ (∀ r ∈ rows, 1 ≤ r.2 ∧ r.2 ≤ 100) ∧ s = cellD c' :: rest ∧ c'.oz z (b + 10 + i)) ⟨c6, [], rfl, rfl, (fun r hr => by cases hr), rfl, ok6.mono (by omega)⟩ (by rw [rngL_len]; simp; omega) (fun i acc s _ _ => trivial) ?_ ?_
      · rintro i x acc s hx ⟨c', rows, rfl, hrw, hrr, rfl, okc⟩
        obtain ⟨hi, rfl⟩ := rngL_at hx
        obtain ⟨w, hw⟩ : ∃ w, ws[i]? = some w := ⟨_, List.getElem?_eq_getElem (by omega)⟩
        have e6 : atI (ws.map D.str) (0 + (i : Int) * 1) = some (.str w) := by
          rw [atI_int (by omega), show (0 + (i : Int) * 1).toNat = i by omega, List.getElem?_map, hw]; rfl
        nomatch e6
        refine tkz hT okc (by omega) (by omega) (by omega) fun c7 r7 ok7 r70 r71 => ?_
        bv_omega
        refine ⟨c7, rows ++ [(w, 1 + r7)], by simp [pairD], ?_, fun r hr => ?_, rfl, ok7⟩
        · rw [List.map_append, hrw, List.take_add_one, hw]; rfl
        · rcases List.mem_append.mp hr with hr | hr
          · exact hrr r hr
          · simp at hr; subst hr; exact ⟨by show 1 ≤ 1 + r7; omega, by show 1 + r7 ≤ 100; omega⟩
      rintro acc s ⟨c7, rows, rfl, hrw, hrr, rfl, ok7⟩
      rw [rngL_len] at hrw ok7
      have hrl : rows.length = mm.toNat := by
        have := congrArg List.length hrw
        rw [List.length_map, List.length_take] at this; omega
      bv_omega
      exact fin_q (q c7 (.prizes r6 rows) (ok7.mono (by omega)) ⟨by rw [hrw]; exact wo.names (by omega) (by omega), by omega, r60, by omega, hrr⟩ (by simp only [Lot.dep]) trivial)
    · bv_omega
      refine lc_inv hΦ (fun i acc s => ∃ c' rows, acc = List.map pairD rows ∧ rows.map (·.1) = ws.take i ∧ (∀ r ∈ rows, 0 ≤ r.2 ∧ r.2 ≤ 40) ∧ s = cellD c' :: rest ∧ c'.oz z (b + 4 + 3 * i)) ⟨c3, [], rfl, rfl, (fun r hr => by cases hr), rfl, ok3.mono (by omega)⟩ (by rw [rngL_len]; simp; omega) (fun i acc s _ _ => trivial) ?_ ?_
      · rintro i x acc s hx ⟨c', rows, rfl, hrw, hrr, rfl, okc⟩
        obtain ⟨hi, rfl⟩ := rngL_at hx
        obtain ⟨w, hw⟩ : ∃ w, ws[i]? = some w := ⟨_, List.getElem?_eq_getElem (by omega)⟩
        have e6 : atI (ws.map D.str) (0 + (i : Int) * 1) = some (.str w) := by
          rw [atI_int (by omega), show (0 + (i : Int) * 1).toNat = i by omega, List.getElem?_map, hw]; rfl
        nomatch e6
        refine tkz hT okc (by omega) (by omega) (by omega) fun c4 r4 ok4 r40 r41 => ?_
        simp_wf
        refine tkz hT ok4 (by omega) (by omega) (by omega) fun c5 r5 ok5 r50 r51 => ?_
        bv_omega
        refine tkz hT ok5 (by omega) (by omega) (by omega) fun c7 r7 ok7 r70 r71 => ?_
        obtain ⟨v, hv0, hv40, e7⟩ : ∃ v : Int, 0 ≤ v ∧ v ≤ 40 ∧ atI [D.int r4, D.int 0, D.int r5] r7 = some (.int v) := by
          have : r7 = 0 ∨ r7 = 1 ∨ r7 = 2 := by omega
          rcases this with rfl | rfl | rfl
          · exact ⟨r4, by omega, by omega, rfl⟩
          · exact ⟨0, by decide, by decide, rfl⟩
          · exact ⟨r5, by omega, by omega, rfl⟩
        nomatch e7
        bv_omega
        refine ⟨c7, rows ++ [(w, v)], by simp [pairD], ?_, fun r hr => ?_, rfl, ok7.mono (by omega)⟩
        · rw [List.map_append, hrw, List.take_add_one, hw]; rfl
        · rcases List.mem_append.mp hr with hr | hr
          · exact hrr r hr
          · simp at hr; subst hr; exact ⟨hv0, hv40⟩
      rintro acc s ⟨c4, rows, rfl, hrw, hrr, rfl, ok4⟩
      rw [rngL_len] at hrw ok4
      have hrl : rows.length = (1 + r3).toNat := by
        have := congrArg List.length hrw
        rw [List.length_map, List.length_take] at this; omega
      have hg1 : ∀ l : List D, (rest ++ l)[rest.length]? = l[0]? := fun l => getA0
      have hs1 : ∀ (l : List D) (d : D), (rest ++ l).set rest.length d = rest ++ l.set 0 d := fun l d => setA0
      exists hg1
      refine ite_S hΦ [] (fun vs s => ∃ c' rows', vs = [] ∧ s = cellD c' :: (rest ++ [.lst (List.map pairD rows')]) ∧ c'.oz z (b + 30) ∧ rows'.map (·.1) = ws.take (1 + r3).toNat ∧ 0 < (rows'.map (·.2)).sum ∧ ∀ r ∈ rows', 0 ≤ r.2 ∧ r.2 ≤ 40) ?_ ?_
      · nomatch hg1
        refine lc_mapT hΦ (β := Unit) (l := rows) (enc := pairD) (g := fun r => .int r.2) (by simp; omega) (asSeq_o (by show (rest ++ _)[rest.length]? = _; rw [hg1]; rfl)) (fun r _ => ?_) ?_
        · nomatch pairD
          exact ⟨rfl, rfl⟩
        have hint : ints? (rows.map fun r => D.int r.2) = some (rows.map (·.2)) := by
          rw [show (rows.map fun r => D.int r.2) = (rows.map (·.2)).map .int by rw [List.map_map]; rfl, MI.ints_map]
        nomatch hint
        refine xite_mk (fun h0 => ?_) (fun h0 => ?_)
        · simp_wf
          obtain ⟨w0, v0, rs, rfl⟩ : ∃ w0 v0 rs, rows = (w0, v0) :: rs := by
            cases rows with
            | nil => simp at hrl; omega
            | cons a r => exact ⟨a.1, a.2, r, rfl⟩
          have hw0 : ws[0]? = some w0 := by
            have h1 := congrArg (fun l : List Str => l[0]?) hrw
            simp only [List.map_cons, List.getElem?_cons_zero] at h1
            rw [List.getElem?_take_of_lt (by omega)] at h1
            exact h1.symm
          have e6 : atI (ws.map D.str) 0 = some (.str w0) := by
            rw [atI_int (by decide), List.getElem?_map]
            show Option.map _ ws[0]? = _
            rw [hw0]; rfl
          have e7 : (ws.map D.str)[0]? = some (.str w0) := by rw [List.getElem?_map, hw0]; rfl
          nomatch e6, e7, hw0
          refine tkz hT ok4 (by omega) (by omega) (by omega) fun c5 r5 ok5 r50 r51 => ?_
          bv_omega
          nomatch hg1
          rw [if_pos (show 0 < rs.length + 1 by omega)]
          nomatch hs1
          have hpos := sum_nn (l := rs.map (·.2)) fun x hx => by
            obtain ⟨r, hr, rfl⟩ := List.mem_map.mp hx
            exact (hrr r (List.mem_cons_of_mem _ hr)).1
          refine ⟨[], rfl, c5, (w0, 1 + r5) :: rs, rfl, rfl, ok5.mono (by omega), by simpa using hrw, by rw [List.map_cons, List.sum_cons]; show 0 < 1 + r5 + _; omega, fun r hr => ?_⟩
          rcases List.mem_cons.mp hr with rfl | hr
          · exact ⟨by show 0 ≤ 1 + r5; omega, by show 1 + r5 ≤ 40; omega⟩
          · exact hrr r (List.mem_cons_of_mem _ hr)
        · simp_wf
          have hpos := sum_nn (l := rows.map (·.2)) fun x hx => by
            obtain ⟨r, hr, rfl⟩ := List.mem_map.mp hx
            exact (hrr r hr).1
          have hne : (rows.map (·.2)).sum ≠ 0 := fun e => by rw [e] at h0; cases h0
          exact ⟨[], rfl, c4, rows, rfl, rfl, ok4.mono (by omega), hrw, by omega, hrr⟩
      rintro vs s ⟨c5, rows', rfl, rfl, ok5, hrw', hsum, hrr'⟩
      have hrl' : rows'.length = (1 + r3).toNat := by
        have := congrArg List.length hrw'
        rw [List.length_map, List.length_take] at this; omega
      simp_wf
      refine tkz hT ok5 (by omega) (by omega) (by omega) fun c6 r6 ok6 r60 r61 => ?_
      nomatch hg1
      bv_omega
      refine fin_tk hst (cl_tup fun d hd => ?_) (q c6 (.seats r6 rows') (ok6.mono (by omega)) ⟨by rw [hrw']; exact wo.names (by omega) (by omega), r60, by omega, hsum, fun r hr => ⟨(hrr' r hr).1, by have := (hrr' r hr).2; omega⟩⟩ (by simp only [Lot.dep]) ⟨by omega, by omega, fun r hr => (hrr' r hr).2⟩)
      simp only [List.mem_cons, List.not_mem_nil, or_false] at hd
      rcases hd with rfl | rfl | rfl
      · exact cl_str
      · exact cl_int
      · refine cl_tup fun d hd => ?_
        obtain ⟨r, _, rfl⟩ := List.mem_map.mp hd
        refine cl_tup fun d hd => ?_
        simp only [List.mem_cons, List.not_mem_nil, or_false] at hd
        rcases hd with rfl | rfl
        · exact cl_str
        · exact cl_int
  · exact h.elim

mutual
def Lot.cnt : Lot → Nat
  | .both ls => cntLs ls + 1
  | .among rows => cntRs rows + 1
  | .sure _ => 1
  | .order _ => 1
  | .draw _ _ => 1
  | .set _ _ => 1
  | .again _ _ => 1
  | .prizes _ _ => 1
  | .seats _ _ => 1
def cntLs : List Lot → Nat
  | [] => 0
  | l :: r => l.cnt + cntLs r
def cntRs : List (Int × Lot) → Nat
  | [] => 0
  | (_, l) :: r => l.cnt + cntRs r
end
theorem cntLs_append : ∀ (a b : List Lot), cntLs (a ++ b) = cntLs a + cntLs b
  | [], b => by simp [cntLs]
  | x :: a, b => by simp only [List.cons_append, cntLs, cntLs_append a b]; omega
theorem cntRs_eq : ∀ (rows : List (Int × Lot)), cntRs rows = cntLs (rows.map (·.2))
  | [] => by simp [cntRs, cntLs]
  | (w, l) :: r => by simp only [cntRs, List.map_cons, cntLs, cntRs_eq r]
theorem cnt_one {l : Lot} (h : l.dep = 1) : l.cnt = 1 := by
  cases l with
  | both ls =>
    cases ls with
    | nil => simp [Lot.cnt, cntLs]
    | cons l r =>
      simp only [Lot.dep, depLots] at h
      have : 1 ≤ l.dep := by cases l <;> simp [Lot.dep]
      omega
  | among ls =>
    cases ls with
    | nil => simp [Lot.cnt, cntRs]
    | cons l r =>
      obtain ⟨w, l⟩ := l
      simp only [Lot.dep, depRows] at h
      have : 1 ≤ l.dep := by cases l <;> simp [Lot.dep]
      omega
  | _ => rfl
/-- how many knots a lot may have, the budget and the depth given -/
def bnd (z : Int) (d : Nat) : Int := if z ≤ 1 then 1 else 6 * d + z
mutual
theorem cl_lot {n : Nat} : ∀ l : Lot, Cl n l.d
  | .sure x => by simp [Lot.d, Cl, Cls'_iff]
  | .order ns => by simp [Lot.d, Cl, Cls'_iff]
  | .draw s ns => by simp [Lot.d, Cl, Cls'_iff]
  | .set s ns => by simp [Lot.d, Cl, Cls'_iff]
  | .again s ns => by simp [Lot.d, Cl, Cls'_iff]
  | .prizes s rows => by
    simp only [Lot.d, Cl, Cls']
    exact ⟨trivial, trivial, Cls'_iff.mpr (by intro d hd; obtain ⟨r, _, rfl⟩ := List.mem_map.mp hd; simp [pairD, Cl, Cls']), trivial⟩
  | .seats s rows => by
    simp only [Lot.d, Cl, Cls']
    exact ⟨trivial, trivial, Cls'_iff.mpr (by intro d hd; obtain ⟨r, _, rfl⟩ := List.mem_map.mp hd; simp [pairD, Cl, Cls']), trivial⟩
  | .both ls => by simp only [Lot.d, Cl, Cls']; exact ⟨trivial, cl_lots ls, trivial⟩
  | .among rows => by simp only [Lot.d, Cl, Cls']; exact ⟨trivial, cl_rowsL rows, trivial⟩
theorem cl_lots {n : Nat} : ∀ ls : List Lot, Cls' n (dLots ls)
  | [] => by simp only [dLots, Cls']
  | l :: r => by simp only [dLots, Cls']; exact ⟨cl_lot l, cl_lots r⟩
theorem cl_rowsL {n : Nat} : ∀ ls : List (Int × Lot), Cls' n (dRows ls)
  | [] => by simp only [dRows, Cls']
  | (w, l) :: r => by simp only [dRows, Cls', Cl]; exact ⟨⟨trivial, cl_lot l, trivial⟩, cl_rowsL r⟩
end
def b_lot (iT iP iL : Nat) : List SS := [.set (.sub (.var 0) (.con (.int 4))) (.bin .sub false (.idx (.var 0) (.con (.int 4))) (.con (.int 1))),
  .set (.nm 3) (.call iT [(.var 0), (.con (.int 6))]),
  .ite (.lor (.cmp .lt (.var 2) (.con (.int 1))) (.lor (.cmp .lt (.idx (.var 0) (.con (.int 4))) (.con (.int 1))) (.cmp .lt (.var 3) (.con (.int 3))))) [.ret (.call iP [(.var 0), (.var 1)])] [],
  .set (.nm 4) (.bin .add false (.con (.int 1)) (.call iT [(.var 0), (.idx (.lst false [(.con (.int 3)), (.con (.int 3)), (.con (.int 6))]) (.call iT [(.var 0), (.con (.int 3))]))])),
  .set (.nm 5) (.lc false (.call iL [(.var 0), (.var 1), (.bin .sub false (.var 2) (.con (.int 1)))]) (.nm 7) (.rng1 (.var 4)) none [7]),
  .ite (.cmp .eq (.var 3) (.con (.int 3))) [.ret (.tup [(.con (.str "both")), (.blt .tuple false [(.var 5)])])] [],
  .set (.nm 6) (.lc true (.call iT [(.var 0), (.idx (.lst false [(.con (.int 5)), (.con (.int 5)), (.con (.int 1001))]) (.call iT [(.var 0), (.con (.int 3))]))]) (.nm 7) (.rng1 (.var 4)) none [7]),
  .ite (.cmp .eq (.blt .sum false [(.var 6)]) (.con (.int 0))) [.set (.sub (.var 6) (.con (.int 0))) (.bin .add false (.con (.int 1)) (.call iT [(.var 0), (.con (.int 9))]))] [],
  .ret (.tup [(.con (.str "among")), (.blt .tuple false [(.lc false (.tup [(.idx (.var 6) (.var 7)), (.idx (.var 5) (.var 7))]) (.nm 7) (.rng1 (.var 4)) none [7])])])]
def f_lot (r : Nat) : Fn := fun ds st Q => match ds with
  | [.loc 0, .lst xs, .int d] => ∃ c b z rest ws, st = cellD c :: rest ∧ xs = ws.map .str ∧ (c.oz z b ∧ b + 100 * 7 ^ d.toNat ≤ 2 ^ 57 ∧ WordsOk ws ∧ 0 ≤ d ∧ d ≤ 3 ∧ d < r) ∧
      ∀ c' (l : Lot), c'.oz (z - l.cnt) (b + 100 * 7 ^ d.toNat) → (l.cnt : Int) ≤ bnd z d.toNat → LotOk l → l.dep ≤ d.toNat + 1 → Sm l → Q l.d (cellD c' :: rest)
  | _ => False
theorem m_lot (r : Nat) : MonoFn (f_lot r) := fun vs st Q Q' h q => by
  unfold f_lot at *
  split at q
  · obtain ⟨c, b, z, rest, ws, h1, h2, h3, q⟩ := q
    exact ⟨c, b, z, rest, ws, h1, h2, h3, fun c' l g1 g2 g3 g4 g5 => h _ _ (q c' l g1 g2 g3 g4 g5)⟩
  · exact q
theorem f_lot_zero {ds : List D} {st : Sto} {Q : Kd} (h : f_lot 0 ds st Q) : False := by
  unfold f_lot at h
  split at h
  · obtain ⟨c, b, z, rest, ws, h1, h2, ⟨_, _, _, h3, _, h4⟩, _⟩ := h
    omega
  · exact h
theorem xK_lot {Φ : Fns} {i r : Nat} {c : Cell} {b : Nat} {z : Int} {rest : Sto} {ws : List Str} {d : Int} {Q : Kd} {u} (hi : Φ i = f_lot r) (h1 : c.oz z b) (h3 : WordsOk ws) (h2 : b + 100 * 7 ^ d.toNat ≤ 2 ^ 57 ∧ 0 ≤ d ∧ d ≤ 3 ∧ d < r)
    (h : ∀ c' (l : Lot), c'.oz (z - l.cnt) (b + 100 * 7 ^ d.toNat) → (l.cnt : Int) ≤ bnd z d.toNat → LotOk l → l.dep ≤ d.toNat + 1 → Sm l → Q l.d (cellD c' :: rest)) : xK Φ i [.loc 0, .lst (ws.map .str), .int d] (cellD c :: rest) Q u := by
  unfold xK
  rw [hi]
  exact ⟨c, b, z, rest, ws, rfl, rfl, ⟨h1, h2.1, h3, h2.2⟩, h⟩
theorem o_lot {Φ : Fns} (hΦ : ∀ f, MonoFn (Φ f)) {iT iP iL r : Nat} (hT : Φ iT = f_take) (hP : Φ iP = f_plain) (hL : Φ iL = f_lot r) {ds : List D} {st : Sto} {Q : Kd} (hst : ∀ d ∈ st, Cl st.length d) (h : f_lot (r + 1) ds st Q) :
    xBody Φ (b_lot iT iP iL) st.length Q ⟨⟩ (ds.map some ++ List.replicate (8 - 3) none) st := by
  unfold f_lot at h
  split at h
  · rename_i _ d
    obtain ⟨c, b, z, rest, ws, rfl, rfl, ⟨ok, hb, wo, hd0, hd3, hdr⟩, q⟩ := h
    have hz := sizeLine_ge
    have hwl := wo.len
    have h7 : 1 ≤ 7 ^ d.toNat := Nat.one_le_pow _ _ (by decide)
    unfold b_lot
    nomatch cellD
    have ok' : Cell.oz ⟨c.s, c.i, c.a, c.k, c.z - 1⟩ (z - 1) b := ⟨⟨ok.1.ln, ok.1.i0, ok.1.a0, ok.1.k0, ok.1.kb⟩, by show c.z - 1 = z - 1; rw [ok.2]⟩
    refine tkz (c := ⟨c.s, c.i, c.a, c.k, c.z - 1⟩) (rest := rest) hT ok' (by omega) (by omega) (by omega) fun c1 kd ok1 kd0 kd1 => ?_
    have plain : ∀ c1 : Cell, c1.oz (z - 1) (b + 1) → ∀ {K : Kd} {u}, (∀ x s, MI.Fin (rest.length + 1) Q x s → K x s) → xK Φ iP [.loc 0, .lst (ws.map .str)] (cellD c1 :: rest) K u := fun c1 ok1 K u hK =>
      xK_plain hP ok1 (by omega) wo fun c' l ok2 hl hd hsm => hK _ _ (fin_q (q c' l (by rw [cnt_one hd]; exact ok2.mono (by omega)) (by rw [cnt_one hd]; unfold bnd; split <;> omega) hl (by rw [hd]; omega) hsm))
    nomatch cellD
    refine xite_mk (fun h1 => ?_) (fun h1 => ?_)
    · simp_wf
      exact plain c1 ok1 fun x s h => h
    have h1 := of_decide_eq_false h1
    nomatch cellD
    refine xite_mk (fun h2 => ?_) (fun h2 => ?_)
    · simp_wf
      exact plain c1 ok1 fun x s h => h
    have h2 := of_decide_eq_false h2
    have hz1 := ok1.2
    simp_wf
    refine xite_mk (fun h3 => ?_) (fun h3 => ?_)
    · simp_wf
      exact plain c1 ok1 fun x s h => h
    have h3 := of_decide_eq_false h3
    bv_omega
    refine tkz (c := c1) (rest := rest) hT ok1 (by omega) (by omega) (by omega) fun c2 r2 ok2 r20 r21 => ?_
    obtain ⟨m0, hm3, hm6, e⟩ : ∃ m0 : Int, 3 ≤ m0 ∧ m0 ≤ 6 ∧ atI [D.int 3, D.int 3, D.int 6] r2 = some (.int m0) := by
      have : r2 = 0 ∨ r2 = 1 ∨ r2 = 2 := by omega
      rcases this with rfl | rfl | rfl
      · exact ⟨3, by decide, by decide, rfl⟩
      · exact ⟨3, by decide, by decide, rfl⟩
      · exact ⟨6, by decide, by decide, rfl⟩
    nomatch e
    refine tkz hT ok2 (by omega) (by omega) (by omega) fun c3 r3 ok3 r30 r31 => ?_
    bv_omega
    obtain ⟨dn, hdn⟩ : ∃ dn : Nat, d = (dn : Int) + 1 := ⟨(d - 1).toNat, by omega⟩
    subst hdn
    have hp : 7 ^ ((dn : Int) + 1).toNat = 7 * 7 ^ dn := by rw [show ((dn : Int) + 1).toNat = dn + 1 by omega, Nat.pow_succ]; omega
    rw [hp] at q h7 hb
    have hp1 : 1 ≤ 7 ^ dn := Nat.one_le_pow _ _ (by decide)
    obtain ⟨X, hX⟩ : ∃ X, X = 100 * 7 ^ dn := ⟨_, rfl⟩
    have hX7 : 100 * (7 * 7 ^ dn) = 7 * X := by omega
    rw [hX7] at q hb
    have hp2 : 7 ^ dn ≤ 49 := Nat.pow_le_pow_right (n := 7) (by decide) (show dn ≤ 2 by omega)
    refine lc_inv hΦ (fun i acc s => ∃ c' ls, acc = List.map Lot.d ls ∧ ls.length = i ∧ (∀ l ∈ ls, LotOk l ∧ Sm l) ∧ (∀ l ∈ ls, l.dep ≤ dn + 1) ∧ s = cellD c' :: rest ∧ c'.oz (z - 1 - (cntLs ls : Int)) (b + 3 + i * X) ∧ (cntLs ls : Int) ≤ 6 * dn + (z - 1) + i) ⟨c3, [], rfl, rfl, (fun r hr => by cases hr), (fun r hr => by cases hr), rfl, ⟨ok3.1.mono (by omega), by rw [ok3.2]; simp [cntLs]⟩, by simp [cntLs]; omega⟩ (by rw [rngL_len]; simp; omega) (fun i acc s _ _ => trivial) ?_ ?_
    · rintro i x acc s hx ⟨c', ls, rfl, hll, hlo, hld, rfl, okc, hcn⟩
      obtain ⟨hi, rfl⟩ := rngL_at hx
      have hib : i * X ≤ 5 * X := Nat.mul_le_mul_right _ (by omega)
      simp_wf
      rw [show ((dn : Int) + 1 - 1) = (dn : Int) by omega]
      refine xK_lot hL okc wo ⟨by rw [Int.toNat_natCast]; omega, by omega, by omega, by omega⟩ fun c4 l ok4 hbn hl hdp hsm => ?_
      rw [Int.toNat_natCast] at ok4 hdp hbn
      have hcl : (cntLs (ls ++ [l]) : Int) = cntLs ls + l.cnt := by rw [cntLs_append]; simp [cntLs]
      rw [← hX] at ok4
      simp_wf
      refine ⟨c4, ls ++ [l], by simp, by simp [hll], fun x hx => ?_, fun x hx => ?_, rfl, ⟨ok4.1.mono (by rw [Nat.add_mul]; omega), by rw [ok4.2, hcl]; omega⟩, by rw [hcl]; unfold bnd at hbn; split at hbn <;> omega⟩
      · rcases List.mem_append.mp hx with hx | hx
        · exact hlo x hx
        · simp at hx; subst hx; exact ⟨hl, hsm⟩
      · rcases List.mem_append.mp hx with hx | hx
        · exact hld x hx
        · simp at hx; subst hx; exact hdp
    rintro acc s ⟨c4, ls, rfl, hll, hlo, hld, rfl, ok4, hcn⟩
    rw [rngL_len] at hll ok4 hcn
    obtain ⟨zz, hzz⟩ : ∃ zz : Int, zz = z - 1 - (cntLs ls : Int) := ⟨_, rfl⟩
    rw [← hzz] at ok4
    have hbnd : (cntLs ls : Int) + 1 ≤ bnd z (dn + 1) := by unfold bnd; rw [if_neg (by omega)]; omega
    have hll6 : ls.length ≤ 6 := by omega
    have hib : (1 + r3).toNat * X ≤ 6 * X := Nat.mul_le_mul_right _ (by omega)
    bv_omega
    refine xite_mk (fun h4 => ?_) (fun h4 => ?_)
    · bv_omega
      have hq := q c4 (.both ls) ⟨ok4.1.mono (by omega), by rw [ok4.2, hzz, Lot.cnt]; omega⟩ (by rw [Lot.cnt, show ((dn : Int) + 1).toNat = dn + 1 by omega]; omega) ⟨⟨by omega, by omega⟩, lotsOk_iff.mpr fun l h => (hlo l h).1⟩ (by simp only [Lot.dep]; have := depLots_le.mpr hld; omega) ⟨hll6, smL_iff.mpr fun l h => (hlo l h).2⟩
      simp only [Lot.d, dLots_eq] at hq
      exact fin_q hq
    bv_omega
    refine lc_inv hΦ (fun i acc s => ∃ c' ns, acc = List.map D.int ns ∧ ns.length = i ∧ (∀ x ∈ ns, 0 ≤ x ∧ x ≤ 1000) ∧ s = cellD c' :: rest ∧ c'.oz zz (b + 3 + 6 * X + 2 * i)) ⟨c4, [], rfl, rfl, (fun r hr => by cases hr), rfl, ok4.mono (by omega)⟩ (by rw [rngL_len]; simp; omega) (fun i acc s _ _ => trivial) ?_ ?_
    · rintro i x acc s hx ⟨c', ns, rfl, hnl, hnb, rfl, okc⟩
      obtain ⟨hi, rfl⟩ := rngL_at hx
      bv_omega
      refine tkz hT okc (by omega) (by omega) (by omega) fun c5 r5 ok5 r50 r51 => ?_
      obtain ⟨mw, hw1, hw2, e5⟩ : ∃ mw : Int, 1 ≤ mw ∧ mw ≤ 1001 ∧ atI [D.int 5, D.int 5, D.int 1001] r5 = some (.int mw) := by
        have : r5 = 0 ∨ r5 = 1 ∨ r5 = 2 := by omega
        rcases this with rfl | rfl | rfl
        · exact ⟨5, by decide, by decide, rfl⟩
        · exact ⟨5, by decide, by decide, rfl⟩
        · exact ⟨1001, by decide, by decide, rfl⟩
      nomatch e5
      refine tkz hT ok5 (by omega) (by omega) (by omega) fun c6 r6 ok6 r60 r61 => ?_
      simp_wf
      refine ⟨c6, ns ++ [r6], by simp, by simp [hnl], fun x hx => ?_, rfl, ok6⟩
      rcases List.mem_append.mp hx with hx | hx
      · exact hnb x hx
      · simp at hx; subst hx; omega
    rintro acc s ⟨c5, ns, rfl, hnl, hnb, rfl, ok5⟩
    rw [rngL_len] at hnl ok5
    have hg1 : ∀ l : List D, (rest ++ l)[rest.length]? = l[0]? := fun l => getA0
    have hs1 : ∀ (l : List D) (d : D), (rest ++ l).set rest.length d = rest ++ l.set 0 d := fun l d => setA0
    exists hg1
    refine ite_S hΦ [] (fun vs s => ∃ c' ns', vs = [] ∧ s = cellD c' :: (rest ++ [.lst (List.map D.int ns')]) ∧ c'.oz zz (b + 20 + 6 * X) ∧ ns'.length = (1 + r3).toNat ∧ 0 < ns'.sum ∧ ∀ x ∈ ns', 0 ≤ x ∧ x ≤ 1000) ?_ ?_
    · nomatch hg1, MI.ints_map
      refine xite_mk (fun h0 => ?_) (fun h0 => ?_)
      · simp_wf
        refine tkz hT ok5 (by omega) (by omega) (by omega) fun c6 r6 ok6 r60 r61 => ?_
        bv_omega
        obtain ⟨a, rs, rfl⟩ : ∃ a rs, ns = a :: rs := by
          cases ns with
          | nil => simp at hnl; omega
          | cons a r => exact ⟨a, r, rfl⟩
        nomatch hg1
        rw [if_pos (show 0 < rs.length + 1 by omega)]
        nomatch hs1
        have hpos := sum_nn (l := rs) fun x hx => (hnb x (List.mem_cons_of_mem _ hx)).1
        refine ⟨[], rfl, c6, (1 + r6) :: rs, rfl, rfl, ok6.mono (by omega), by simpa using hnl, by rw [List.sum_cons]; omega, fun x hx => ?_⟩
        rcases List.mem_cons.mp hx with rfl | hx
        · omega
        · exact hnb x (List.mem_cons_of_mem _ hx)
      · simp_wf
        have hpos := sum_nn (l := ns) fun x hx => (hnb x hx).1
        have hne : ns.sum ≠ 0 := fun e => by rw [e] at h0; cases h0
        exact ⟨[], rfl, c5, ns, rfl, rfl, ok5.mono (by omega), hnl, by omega, hnb⟩
    rintro vs s ⟨c6, ns', rfl, rfl, ok6, hnl', hsum, hnb'⟩
    bv_omega
    have hzl : (ns'.zip ls).length = (1 + r3).toNat := by rw [List.length_zip]; omega
    refine lc_inv hΦ (fun i acc s => acc = ((ns'.zip ls).take i).map (fun r => .tup [.int r.1, r.2.d]) ∧ s = cellD c6 :: (rest ++ [.lst (List.map D.int ns')])) ⟨rfl, rfl⟩ (by rw [rngL_len]; simp; omega) (fun i acc s _ _ => trivial) ?_ ?_
    · rintro i x acc s hx ⟨rfl, rfl⟩
      obtain ⟨hi, rfl⟩ := rngL_at hx
      obtain ⟨w, hw⟩ : ∃ w, ns'[i]? = some w := ⟨_, List.getElem?_eq_getElem (by omega)⟩
      obtain ⟨l, hl⟩ : ∃ l, ls[i]? = some l := ⟨_, List.getElem?_eq_getElem (by omega)⟩
      have e6 : atI (ns'.map D.int) (0 + (i : Int) * 1) = some (.int w) := by
        rw [atI_int (by omega), show (0 + (i : Int) * 1).toNat = i by omega, List.getElem?_map, hw]; rfl
      have e7 : atI (ls.map Lot.d) (0 + (i : Int) * 1) = some l.d := by
        rw [atI_int (by omega), show (0 + (i : Int) * 1).toNat = i by omega, List.getElem?_map, hl]; rfl
      nomatch hg1, e6, e7
      bv_omega
      refine ⟨?_, rfl⟩
      rw [List.take_add_one, List.getElem?_zip_eq_some (z := (w, l)) |>.mpr ⟨hw, hl⟩]
      simp
    rintro acc s ⟨rfl, rfl⟩
    rw [rngL_len, List.take_of_length_le (by omega)]
    bv_omega
    have hcr : cntRs (ns'.zip ls) = cntLs ls := by rw [cntRs_eq, List.map_snd_zip (by omega)]
    have hq := q c6 (.among (ns'.zip ls)) ⟨ok6.1.mono (by omega), by rw [ok6.2, hzz, Lot.cnt, hcr]; omega⟩ (by rw [Lot.cnt, hcr, show ((dn : Int) + 1).toNat = dn + 1 by omega]; omega) ⟨⟨by omega, by omega, by rw [List.map_fst_zip (by omega)]; exact hsum, fun r hr => hnb' r.1 (List.of_mem_zip hr).1⟩, rowsOk_iff.mpr fun r hr => (hlo r.2 (List.of_mem_zip hr).2).1⟩
      (by simp only [Lot.dep]; have := depRows_le.mpr (fun r (hr : r ∈ ns'.zip ls) => hld r.2 (List.of_mem_zip hr).2); omega) ⟨by omega, smR_iff.mpr fun r hr => (hlo r.2 (List.of_mem_zip hr).2).2⟩
    have hcl := cl_lot (n := rest.length + 1) (.among (ns'.zip ls))
    simp only [Lot.d, dRows_eq] at hq hcl
    exact fin_tk hst hcl hq
  · exact h.elim

def b_drawn (iT iW iL : Nat) : List SS := [.set (.sub (.var 0) (.con (.int 4))) (.con (.int 7)),
  .ret (.call iL [(.var 0), (.call iW [(.var 0)]), (.call iT [(.var 0), (.con (.int 4))])])]
def f_drawn : Fn := fun ds st Q => match ds with
  | [.loc 0] => ∃ c b rest, st = cellD c :: rest ∧ (c.ok b ∧ b < 2 ^ 56) ∧
      ∀ c' (l : Lot), c'.ok (b + 40000) → l.cnt ≤ 30 → LotOk l → l.dep ≤ 4 → Sm l → Q l.d (cellD c' :: rest)
  | _ => False
theorem m_drawn : MonoFn f_drawn := fun vs st Q Q' h q => by
  unfold f_drawn at *
  split at q
  · obtain ⟨c, b, rest, h1, h2, q⟩ := q
    exact ⟨c, b, rest, h1, h2, fun c' l g1 g2 g3 g4 g5 => h _ _ (q c' l g1 g2 g3 g4 g5)⟩
  · exact q
theorem xK_drawn {Φ : Fns} {i : Nat} {c : Cell} {b : Nat} {rest : Sto} {Q : Kd} {u} (hi : Φ i = f_drawn) (h1 : c.ok b) (h2 : b < 2 ^ 56)
    (h : ∀ c' (l : Lot), c'.ok (b + 40000) → l.cnt ≤ 30 → LotOk l → l.dep ≤ 4 → Sm l → Q l.d (cellD c' :: rest)) : xK Φ i [.loc 0] (cellD c :: rest) Q u := by
  unfold xK
  rw [hi]
  exact ⟨c, b, rest, rfl, ⟨h1, h2⟩, h⟩
theorem o_drawn {Φ : Fns} {iT iW iL : Nat} (hT : Φ iT = f_take) (hW : Φ iW = f_words) (hL : Φ iL = f_lot 4) {ds : List D} {st : Sto} {Q : Kd} (h : f_drawn ds st Q) :
    xBody Φ (b_drawn iT iW iL) st.length Q ⟨⟩ (ds.map some ++ List.replicate (1 - 1) none) st := by
  unfold f_drawn at h
  split at h
  · obtain ⟨c, b, rest, rfl, ⟨ok, hb⟩, q⟩ := h
    unfold b_drawn
    nomatch cellD
    have ok' : Cell.oz ⟨c.s, c.i, c.a, c.k, 7⟩ 7 b := ⟨⟨ok.ln, ok.i0, ok.a0, ok.k0, ok.kb⟩, rfl⟩
    refine xK_words (c := ⟨c.s, c.i, c.a, c.k, 7⟩) (rest := rest) hW ok' (by omega) fun c1 ws ok1 wo => ?_
    simp_wf
    refine tkz hT ok1 (by omega) (by omega) (by omega) fun c2 d ok2 d0 d3 => ?_
    simp_wf
    have hp : 7 ^ d.toNat ≤ 343 := Nat.pow_le_pow_right (n := 7) (by decide) (show d.toNat ≤ 3 by omega)
    refine xK_lot hL ok2 wo ⟨by omega, by omega, by omega, by omega⟩ fun c3 l ok3 hbn hl hd hsm => ?_
    simp_wf
    exact fin_q (q c3 l (ok3.1.mono (by omega)) (by unfold bnd at hbn; rw [if_neg (by decide)] at hbn; omega) hl (by omega) hsm)
  · exact h.elim

/-! what a lot is -/
theorem strs_all : ∀ {xs : List D}, (∀ x ∈ xs, ∃ k, x = .str k) → ∃ ks, strs? xs = some ks ∧ ks.length = xs.length ∧ xs = ks.map .str
  | [], _ => ⟨[], rfl, rfl, rfl⟩
  | x :: r, h => by
    obtain ⟨k, rfl⟩ := h x (by simp)
    obtain ⟨ks, h1, h2, h3⟩ := strs_all (xs := r) fun y hy => h y (List.mem_cons_of_mem _ hy)
    refine ⟨k :: ks, ?_, by simp [h2], by rw [List.map_cons, ← h3]⟩
    show (strs? r).map (k :: ·) = _
    rw [h1]; rfl
def nameB : D → Bool
  | .str x => decide (1 ≤ (x.length : Int)) && decide ((x.length : Int) ≤ 8) && x.cps.toList.all fun c => decide (c ∈ SG)
  | _ => false
theorem nameB_str {d : D} (h : nameB d = true) : ∃ k, d = .str k := by
  cases d with
  | str k => exact ⟨k, rfl⟩
  | _ => cases h
def rowB (d : D) (lo : Int) : Bool := match d with
  | .tup xs => decide (lo ≤ (xs.length : Int)) && decide ((xs.length : Int) ≤ 12)
  | _ => false
def distB (xs : List D) : Bool := match strs? xs with
  | some ks => ((distN ks ks.length : Nat) : Int) == (xs.length : Int)
  | none => false
def namesB (d : D) : Bool := match d with
  | .tup xs => decide (1 ≤ (xs.length : Int)) && decide ((xs.length : Int) ≤ 12) && xs.all nameB && distB xs
  | _ => false
def pairB (lo hi : Int) (d : D) : Bool := match d with
  | .tup [_, b] => isI b lo hi
  | _ => false
def fstD : D → D
  | .tup (a :: _) => a
  | _ => .non
def sndD : D → D
  | .tup [_, b] => b
  | _ => .non
def intD : D → Int
  | .int i => i
  | _ => 0
def lenT : D → Int
  | .tup xs => (xs.length : Int)
  | _ => 0
def pairsB (d : D) (lo hi top : Int) : Bool := match d with
  | .tup xs => decide (1 ≤ (xs.length : Int)) && decide ((xs.length : Int) ≤ top) && xs.all (pairB lo hi) && namesB (.tup (xs.map fstD))
  | _ => false
def sumS (f : D → D) (d : D) : Int := match d with
  | .tup xs => (xs.map fun x => intD (f x)).sum
  | _ => 0
def simpB (k : Str) (r : List D) : Bool :=
  if k = "sure" then (match r with | [x] => nameB x | _ => false)
  else if k = "order" then (match r with | [x] => namesB x | _ => false)
  else match r with
    | [s, x] =>
      if k = "draw" ∨ k = "set" then namesB x && isI s 0 (lenT x)
      else if k = "again" then namesB x && isI s 0 12
      else if k = "prizes" then pairsB x 1 100 5 && isI s 0 (lenT x)
      else if k = "seats" then pairsB x 0 100000 12 && (decide (0 < sumS sndD x) && isI s 0 1000)
      else false
    | _ => false
def wB (d : D) : Bool := match d with
  | .tup [w, _] => isI w 0 1000
  | _ => false
def amongB (d : D) : Bool := match d with
  | .tup xs => xs.all wB && decide (0 < sumS fstD d)
  | _ => false
def formB (d : D) : Bool := match d with
  | .tup (.str k :: x :: r) =>
    if k = "both" then r.isEmpty && rowB x 1
    else if k = "among" then r.isEmpty && (rowB x 1 && amongB x)
    else simpB k (x :: r)
  | _ => false
def kidsD (d : D) : List D := match d with
  | .tup [.str k, .tup xs] => if k = "among" then xs.map sndD else if k = "both" then xs else []
  | _ => []
def cntD : Nat → D → Nat
  | 0, _ => 1000
  | r + 1, d => if formB d = true then 1 + ((kidsD d).map (cntD r)).sum else 1000
theorem cntD_pos (r : Nat) (d : D) : 1 ≤ cntD r d := by
  cases r with
  | zero => simp [cntD]
  | succ r => simp only [cntD]; split <;> omega
/-! is_name -/
theorem lenD_str {st : Sto} {x : Str} (h : x.length ≤ sizeLine) : lenD st (.str x) = some x.length := by
  unfold lenD
  simp [h]
theorem cps_len {x : Str} : x.cps.toList.length = x.length := by simp [Str.length]
theorem chars_len {x : Str} : (charsD x).length = x.length := by
  show (charsD x).length = x.cps.size
  simp [charsD]
def b_isname : List SS := [.ite (.lor (.lnot (.val (.blt .isStr false [(.var 0)]))) (.lnot (.chain .le .le (.con (.int 1)) (.blt .len false [(.var 0)]) (.con (.int 8))))) [.ret (.con (.bl false))] [],
  .ret (.blt .all false [(.lc false (.cmp .isIn (.var 1) (.con (.str "abcdefghijklmnopqrstuvwxyzABCDEFGHIJKLMNOPQRSTUVWXYZ0123456789"))) (.nm 1) (.chars (.var 0)) none [1])])]
def b_lname : List SS := [.set (.nm 1) (.con (.str "abcdefghijklmnopqrstuvwxyzABCDEFGHIJKLMNOPQRSTUVWXYZ0123456789")),
  .ret (.land (.blt .isStr false [(.var 0)]) (.land (.cmp .gt (.blt .len false [(.var 0)]) (.con (.int 0))) (.land (.cmp .lt (.blt .len false [(.var 0)]) (.con (.int 9))) (.blt .all false [(.lc false (.cmp .isIn (.var 2) (.var 1)) (.nm 2) (.chars (.var 0)) none [2])]))))]
def f_isname : Fn := fun ds st Q => match ds with
  | [d] => pvD d = true ∧ Q (.bl (nameB d)) st
  | _ => False
theorem m_isname : MonoFn f_isname := fun vs st Q Q' h q => by
  unfold f_isname at *
  split at q
  · exact ⟨q.1, h _ _ q.2⟩
  · exact q
theorem xK_isname {Φ : Fns} {i : Nat} {d : D} {st : Sto} {Q : Kd} {u} (hi : Φ i = f_isname) (h1 : pvD d = true) (h : Q (.bl (nameB d)) st) : xK Φ i [d] st Q u := by
  unfold xK
  rw [hi]
  exact ⟨h1, h⟩
theorem all_signs {x : Str} : (x.cps.toList.map fun c => decide (c ∈ (ofL SG).cps.toList)).all id = x.cps.toList.all fun c => decide (c ∈ SG) := by
  rw [List.all_map]; rfl
theorem o_isname {Φ : Fns} (hΦ : ∀ f, MonoFn (Φ f)) {ds : List D} {st : Sto} {Q : Kd} (h : f_isname ds st Q) : xBody Φ b_isname st.length Q ⟨⟩ (ds.map some ++ List.replicate (2 - 1) none) st := by
  unfold f_isname at h
  split at h
  · rename_i d
    obtain ⟨hp, q⟩ := h
    have hz := sizeLine_ge
    unfold b_isname
    rcases pv_cases hp with rfl | ⟨i, rfl⟩ | ⟨x, rfl⟩ | ⟨xs, rfl, _⟩
    · simp_wf; exact fin_q q
    · simp_wf; exact fin_q q
    · simp only [pvD, Bool.and_eq_true, decide_eq_true_eq] at hp
      have hl := lenD_str (st := st) (x := x) (by omega)
      nomatch hl
      refine xite_mk (fun h1 => ?_) (fun h1 => ?_)
      · nomatch hl
        refine xite_mk (fun h2 => ?_) (fun h2 => ?_)
        · simp_wf
          refine fin_eq q ?_
          rw [Bool.not_eq_true'] at h2
          simp only [nameB, h2, Bool.and_false, Bool.false_and]
        · rw [Bool.not_eq_false'] at h2
          simp_wf
          unfold charsD
          refine lc_mapT hΦ (β := Unit) (l := x.cps.toList) (enc := fun c => D.str ⟨#[c]⟩) (g := fun c => .bl (decide (c ∈ SG))) (by rw [cps_len]; simp only [List.length_nil]; omega) trivial (fun c hc => ?_) ?_
          · simp_wf
            rw [SG_str]
            exact ⟨rfl, rfl⟩
          simp_wf
          rw [show x.cps.toList.map (fun c => D.bl (decide (c ∈ SG))) = (x.cps.toList.map fun c => decide (c ∈ SG)).map .bl by simp, bls_map]
          simp_wf
          refine fin_eq q ?_
          simp only [nameB, h1, h2, Bool.true_and]
          rw [List.all_map]; rfl
      · simp_wf
        refine fin_eq q ?_
        simp only [nameB, h1, Bool.false_and]
    · simp_wf; exact fin_q q
  · exact h.elim
theorem o_lname {Φ : Fns} (hΦ : ∀ f, MonoFn (Φ f)) {ds : List D} {st : Sto} {Q : Kd} (h : f_isname ds st Q) : xBody Φ b_lname st.length Q ⟨⟩ (ds.map some ++ List.replicate (3 - 1) none) st := by
  unfold f_isname at h
  split at h
  · rename_i d
    obtain ⟨hp, q⟩ := h
    have hz := sizeLine_ge
    unfold b_lname
    rcases pv_cases hp with rfl | ⟨i, rfl⟩ | ⟨x, rfl⟩ | ⟨xs, rfl, _⟩
    · simp_wf; exact fin_q q
    · simp_wf; exact fin_q q
    · simp only [pvD, Bool.and_eq_true, decide_eq_true_eq] at hp
      have e1 : decide ((0 : Int) < (x.length : Int)) = decide ((1 : Int) ≤ (x.length : Int)) := decide_eq_decide.mpr (by omega)
      have e2 : decide ((x.length : Int) < 9) = decide ((x.length : Int) ≤ 8) := decide_eq_decide.mpr (by omega)
      have hl := lenD_str (st := st) (x := x) (by omega)
      nomatch hl
      rw [e1]
      refine xite_mk (fun h1 => ?_) (fun h1 => ?_)
      · nomatch hl
        rw [e2]
        refine xite_mk (fun h2 => ?_) (fun h2 => ?_)
        · simp_wf
          unfold charsD
          refine lc_mapT hΦ (β := Unit) (l := x.cps.toList) (enc := fun c => D.str ⟨#[c]⟩) (g := fun c => .bl (decide (c ∈ SG))) (by rw [cps_len]; simp only [List.length_nil]; omega) trivial (fun c hc => ?_) ?_
          · simp_wf
            rw [SG_str]
            exact ⟨rfl, rfl⟩
          simp_wf
          rw [show x.cps.toList.map (fun c => D.bl (decide (c ∈ SG))) = (x.cps.toList.map fun c => decide (c ∈ SG)).map .bl by simp, bls_map]
          simp_wf
          refine fin_eq q ?_
          simp only [nameB, h1, h2, Bool.true_and]
          rw [List.all_map]; rfl
        · simp_wf
          refine fin_eq q ?_
          simp only [nameB, h2, Bool.and_false, Bool.false_and]
      · simp_wf
        refine fin_eq q ?_
        simp only [nameB, h1, Bool.false_and]
    · simp_wf; exact fin_q q
  · exact h.elim
/-! is_row -/
def b_isrow : List SS := [.ret (.land (.blt .isTuple false [(.var 0)]) (.chain .le .le (.var 1) (.blt .len false [(.var 0)]) (.con (.int 12))))]
def f_isrow : Fn := fun ds st Q => match ds with
  | [d, .int lo] => pvD d = true ∧ Q (.bl (rowB d lo)) st
  | _ => False
theorem m_isrow : MonoFn f_isrow := fun vs st Q Q' h q => by
  unfold f_isrow at *
  split at q
  · exact ⟨q.1, h _ _ q.2⟩
  · exact q
theorem xK_isrow {Φ : Fns} {i : Nat} {d : D} {lo : Int} {st : Sto} {Q : Kd} {u} (hi : Φ i = f_isrow) (h1 : pvD d = true) (h : Q (.bl (rowB d lo)) st) : xK Φ i [d, .int lo] st Q u := by
  unfold xK
  rw [hi]
  exact ⟨h1, h⟩
theorem o_isrow {Φ : Fns} {ds : List D} {st : Sto} {Q : Kd} (h : f_isrow ds st Q) : xBody Φ b_isrow st.length Q ⟨⟩ (ds.map some ++ List.replicate (2 - 2) none) st := by
  unfold f_isrow at h
  split at h
  · rename_i d lo
    obtain ⟨hp, q⟩ := h
    unfold b_isrow
    rcases pv_cases hp with rfl | ⟨i, rfl⟩ | ⟨x, rfl⟩ | ⟨xs, rfl, _⟩
    · simp_wf; exact fin_q q
    · simp_wf; exact fin_q q
    · simp_wf; exact fin_q q
    · simp_wf
      refine xite_mk (fun h1 => ?_) (fun h1 => ?_)
      · simp_wf
        refine fin_eq q ?_
        simp only [rowB, h1, Bool.true_and]
      · simp_wf
        refine fin_eq q ?_
        simp only [rowB, h1, Bool.false_and]
  · exact h.elim
/-! are_names -/
def b_arenames (iN iR : Nat) : List SS := [.ret (.land (.call iR [(.var 0), (.con (.int 1))]) (.land (.blt .all false [(.lc false (.call iN [(.var 1)]) (.nm 1) (.seq (.var 0)) none [1])]) (.cmp .eq (.blt .lenSet false [(.var 0)]) (.blt .len false [(.var 0)]))))]
def b_lnames (iN : Nat) : List SS := [.ite (.lor (.lnot (.val (.blt .isTuple false [(.var 0)]))) (.lor (.cmp .lt (.blt .len false [(.var 0)]) (.con (.int 1))) (.lor (.cmp .gt (.blt .len false [(.var 0)]) (.con (.int 12))) (.lnot (.val (.blt .all false [(.lc false (.call iN [(.var 1)]) (.nm 1) (.seq (.var 0)) none [1])])))))) [.ret (.con (.bl false))] [],
  .ret (.cmp .eq (.blt .lenSet false [(.var 0)]) (.blt .len false [(.var 0)]))]
def f_arenames : Fn := fun ds st Q => match ds with
  | [d] => pvD d = true ∧ Q (.bl (namesB d)) st
  | _ => False
theorem m_arenames : MonoFn f_arenames := fun vs st Q Q' h q => by
  unfold f_arenames at *
  split at q
  · exact ⟨q.1, h _ _ q.2⟩
  · exact q
theorem xK_arenames {Φ : Fns} {i : Nat} {d : D} {st : Sto} {Q : Kd} {u} (hi : Φ i = f_arenames) (h1 : pvD d = true) (h : Q (.bl (namesB d)) st) : xK Φ i [d] st Q u := by
  unfold xK
  rw [hi]
  exact ⟨h1, h⟩
theorem o_arenames {Φ : Fns} (hΦ : ∀ f, MonoFn (Φ f)) {iN iR : Nat} (hN : Φ iN = f_isname) (hR : Φ iR = f_isrow) {ds : List D} {st : Sto} {Q : Kd} (h : f_arenames ds st Q) : xBody Φ (b_arenames iN iR) st.length Q ⟨⟩ (ds.map some ++ List.replicate (2 - 1) none) st := by
  unfold f_arenames at h
  split at h
  · rename_i d
    obtain ⟨hp, q⟩ := h
    have hz := sizeLine_ge
    unfold b_arenames
    simp_wf
    refine xK_isrow hR hp ?_
    rcases pv_cases hp with rfl | ⟨i, rfl⟩ | ⟨x, rfl⟩ | ⟨xs, rfl, hx⟩
    · nomatch rowB; exact fin_q q
    · nomatch rowB; exact fin_q q
    · nomatch rowB; exact fin_q q
    · simp_wf
      refine xite_mk (fun h1 => ?_) (fun h1 => ?_)
      · have h1' := h1
        simp only [rowB, Bool.and_eq_true, decide_eq_true_eq] at h1'
        simp_wf
        refine lc_mapX hΦ (l := xs) (g := fun x => .bl (nameB x)) (by simp; omega) rfl (fun x hx' => ?_) ?_
        · simp_wf
          refine xK_isname hN (hx x hx') ?_
          exact ⟨rfl, rfl⟩
        simp_wf
        rw [show xs.map (fun x => D.bl (nameB x)) = (xs.map nameB).map .bl by simp, bls_map]
        simp_wf
        refine xite_mk (fun h2 => ?_) (fun h2 => ?_)
        · have h2' : ∀ x ∈ xs, nameB x = true := fun x hx => by
            rw [List.all_map, List.all_eq_true] at h2
            exact h2 x hx
          obtain ⟨ks, g1, g2, g3⟩ := strs_all fun x hx => nameB_str (h2' x hx)
          nomatch g1
          refine xand_mk (by omega) fun _ => ?_
          simp_wf
          refine fin_eq q ?_
          simp only [namesB, distB, g1]
          rw [show (decide (1 ≤ (xs.length : Int)) && decide ((xs.length : Int) ≤ 12)) = true by simpa only [rowB] using h1, List.all_eq_true.mpr h2', Bool.true_and, Bool.true_and]
        · simp_wf
          refine fin_eq q ?_
          rw [List.all_map] at h2
          have h2 : xs.all nameB = false := h2
          simp only [namesB, h2, Bool.and_false, Bool.false_and]
      · simp_wf
        refine fin_eq q ?_
        simp only [rowB] at h1
        simp only [namesB, h1, Bool.false_and]
  · exact h.elim
theorem o_lnames {Φ : Fns} (hΦ : ∀ f, MonoFn (Φ f)) {iN : Nat} (hN : Φ iN = f_isname) {ds : List D} {st : Sto} {Q : Kd} (h : f_arenames ds st Q) : xBody Φ (b_lnames iN) st.length Q ⟨⟩ (ds.map some ++ List.replicate (2 - 1) none) st := by
  unfold f_arenames at h
  split at h
  · rename_i d
    obtain ⟨hp, q⟩ := h
    have hz := sizeLine_ge
    unfold b_lnames
    rcases pv_cases hp with rfl | ⟨i, rfl⟩ | ⟨x, rfl⟩ | ⟨xs, rfl, hx⟩
    · simp_wf; exact fin_q q
    · simp_wf; exact fin_q q
    · simp_wf; exact fin_q q
    · simp_wf
      refine xite_mk (fun h1 => ?_) (fun h1 => ?_)
      · have h1 := of_decide_eq_true h1
        simp_wf
        refine fin_eq q ?_
        simp only [namesB]
        rw [decide_eq_false (show ¬ 1 ≤ (xs.length : Int) by omega)]; simp
      have h1 := of_decide_eq_false h1
      simp_wf
      refine xite_mk (fun h3 => ?_) (fun h3 => ?_)
      · have h3 := of_decide_eq_true h3
        simp_wf
        refine fin_eq q ?_
        simp only [namesB]
        rw [decide_eq_false (show ¬ (xs.length : Int) ≤ 12 by omega)]; simp
      have h3 := of_decide_eq_false h3
      simp_wf
      refine lc_mapX hΦ (l := xs) (g := fun x => .bl (nameB x)) (by simp; omega) rfl (fun x hx' => ?_) ?_
      · simp_wf
        refine xK_isname hN (hx x hx') ?_
        exact ⟨rfl, rfl⟩
      simp_wf
      rw [show xs.map (fun x => D.bl (nameB x)) = (xs.map nameB).map .bl by simp, bls_map]
      simp_wf
      refine xite_mk (fun h2 => ?_) (fun h2 => ?_)
      · rw [Bool.not_eq_true', List.all_map] at h2
        have h2 : xs.all nameB = false := h2
        simp_wf
        refine fin_eq q ?_
        simp only [namesB, h2, Bool.and_false, Bool.false_and]
      · rw [Bool.not_eq_false', List.all_map, List.all_eq_true] at h2
        have h2' : ∀ x ∈ xs, nameB x = true := h2
        obtain ⟨ks, g1, g2, g3⟩ := strs_all fun x hx => nameB_str (h2' x hx)
        nomatch g1
        refine xand_mk (by omega) fun _ => ?_
        simp_wf
        refine fin_eq q ?_
        simp only [namesB, distB, g1]
        rw [decide_eq_true (show 1 ≤ (xs.length : Int) by omega), decide_eq_true (show (xs.length : Int) ≤ 12 by omega), List.all_eq_true.mpr h2', Bool.true_and, Bool.true_and, Bool.true_and]
  · exact h.elim

/-! rows of pairs -/
theorem l22 : (((0 + 1 + 1 : Nat) : Int) == 2) = true := by decide
theorem l23 : (((0 + 1 + 1 : Nat) : Int) == 3) = false := by decide
theorem lg2 {n : Nat} : (((n + 1 + 1 + 1 : Nat) : Int) == 2) = false := beq_eq_false_iff_ne.mpr (by omega)
theorem l33 : (((0 + 1 + 1 + 1 : Nat) : Int) == 3) = true := by decide
theorem lg3 {n : Nat} : (((n + 1 + 1 + 1 + 1 : Nat) : Int) == 3) = false := beq_eq_false_iff_ne.mpr (by omega)
theorem lg02 {n : Nat} (h : n ≠ 2) : ((n : Int) == 2) = false := beq_eq_false_iff_ne.mpr (by omega)
theorem pairB_no {lo hi : Int} {zs : List D} (h : zs.length ≠ 2) : pairB lo hi (.tup zs) = false := by
  unfold pairB
  split
  · rename_i e; simp only [D.tup.injEq] at e; subst e; simp at h
  · rfl
theorem pairB_iff {lo hi : Int} {d : D} (h : pairB lo hi d = true) : ∃ a b, d = .tup [a, b] ∧ isI b lo hi = true := by
  unfold pairB at h
  split at h
  · exact ⟨_, _, rfl, h⟩
  · cases h
def b_arepairs (iI iR iA : Nat) : List SS := [.ite (.lor (.lnot (.val (.call iR [(.var 0), (.con (.int 1))]))) (.cmp .gt (.blt .len false [(.var 0)]) (.var 3))) [.ret (.con (.bl false))] [],
  .ite (.lnot (.val (.blt .all false [(.lc false (.land (.blt .isTuple false [(.var 4)]) (.land (.cmp .eq (.blt .len false [(.var 4)]) (.con (.int 2))) (.call iI [(.idx (.var 4) (.con (.int 1))), (.var 1), (.var 2)]))) (.nm 4) (.seq (.var 0)) none [4])]))) [.ret (.con (.bl false))] [],
  .ret (.call iA [(.blt .tuple false [(.lc false (.idx (.var 4) (.con (.int 0))) (.nm 4) (.seq (.var 0)) none [4])])])]
def b_lpairs (iW iA : Nat) : List SS := [.ite (.lor (.lnot (.val (.blt .isTuple false [(.var 0)]))) (.lor (.cmp .lt (.blt .len false [(.var 0)]) (.con (.int 1))) (.cmp .gt (.blt .len false [(.var 0)]) (.var 3)))) [.ret (.con (.bl false))] [],
  .for_ (.nm 4) (.seq (.var 0)) [.ite (.lor (.lnot (.val (.blt .isTuple false [(.var 4)]))) (.lor (.cmp .ne (.blt .len false [(.var 4)]) (.con (.int 2))) (.lnot (.val (.call iW [(.idx (.var 4) (.con (.int 1))), (.var 1), (.var 2)]))))) [.ret (.con (.bl false))] []],
  .ret (.call iA [(.blt .tuple false [(.lc false (.idx (.var 4) (.con (.int 0))) (.nm 4) (.seq (.var 0)) none [4])])])]
def f_arepairs : Fn := fun ds st Q => match ds with
  | [d, .int lo, .int hi, .int top] => (pvD d = true ∧ top ≤ 12) ∧ Q (.bl (pairsB d lo hi top)) st
  | _ => False
theorem m_arepairs : MonoFn f_arepairs := fun vs st Q Q' h q => by
  unfold f_arepairs at *
  split at q
  · exact ⟨q.1, h _ _ q.2⟩
  · exact q
theorem xK_arepairs {Φ : Fns} {i : Nat} {d : D} {lo hi top : Int} {st : Sto} {Q : Kd} {u} (hi' : Φ i = f_arepairs) (h1 : pvD d = true) (h2 : top ≤ 12) (h : Q (.bl (pairsB d lo hi top)) st) : xK Φ i [d, .int lo, .int hi, .int top] st Q u := by
  unfold xK
  rw [hi']
  exact ⟨⟨h1, h2⟩, h⟩
theorem fst_pv {xs : List D} {lo hi : Int} (hx : ∀ x ∈ xs, pvD x = true) (h : ∀ x ∈ xs, pairB lo hi x = true) : pvD (.tup (xs.map fstD)) = true := by
  refine pv_tup.mpr fun y hy => ?_
  obtain ⟨x, hx', rfl⟩ := List.mem_map.mp hy
  obtain ⟨a, b, rfl, _⟩ := pairB_iff (h x hx')
  exact pv_tup.mp (hx _ hx') a (by simp)
theorem o_arepairs {Φ : Fns} (hΦ : ∀ f, MonoFn (Φ f)) {iI iR iA : Nat} (hI : Φ iI = f_isint) (hR : Φ iR = f_isrow) (hA : Φ iA = f_arenames) {ds : List D} {st : Sto} {Q : Kd} (h : f_arepairs ds st Q) : xBody Φ (b_arepairs iI iR iA) st.length Q ⟨⟩ (ds.map some ++ List.replicate (5 - 4) none) st := by
  unfold f_arepairs at h
  split at h
  · rename_i d lo hi top
    obtain ⟨⟨hp, ht⟩, q⟩ := h
    have hz := sizeLine_ge
    unfold b_arepairs
    simp_wf
    refine xK_isrow hR hp ?_
    rcases pv_cases hp with rfl | ⟨i, rfl⟩ | ⟨x, rfl⟩ | ⟨xs, rfl, hx⟩
    · nomatch rowB; exact fin_q q
    · nomatch rowB; exact fin_q q
    · nomatch rowB; exact fin_q q
    · simp_wf
      refine xite_mk (fun h1 => ?_) (fun h1 => ?_)
      · rw [Bool.not_eq_true'] at h1
        simp_wf
        refine fin_eq q ?_
        simp only [rowB] at h1
        simp only [pairsB, namesB, List.length_map, h1, Bool.false_and, Bool.and_false]
      rw [Bool.not_eq_false'] at h1
      simp only [rowB, Bool.and_eq_true, decide_eq_true_eq] at h1
      simp_wf
      refine xite_mk (fun h2 => ?_) (fun h2 => ?_)
      · have h2 := of_decide_eq_true h2
        simp_wf
        refine fin_eq q ?_
        simp only [pairsB]
        rw [decide_eq_false (show ¬ (xs.length : Int) ≤ top by omega)]; simp
      have h2 := of_decide_eq_false h2
      simp_wf
      refine lc_mapX hΦ (l := xs) (g := fun x => .bl (pairB lo hi x)) (by simp; omega) rfl (fun x hx' => ?_) ?_
      · simp_wf
        have hxp := hx x hx'
        rcases pv_cases hxp with rfl | ⟨i, rfl⟩ | ⟨x, rfl⟩ | ⟨zs, rfl, hzs⟩
        · simp_wf; exact ⟨rfl, rfl⟩
        · simp_wf; exact ⟨rfl, rfl⟩
        · simp_wf; exact ⟨rfl, rfl⟩
        · simp_wf
          by_cases hl2 : zs.length = 2
          · obtain ⟨a, b, rfl⟩ := len2 hl2
            nomatch l22
            refine xK_isint hI (hzs b (by simp)) ?_
            exact ⟨rfl, rfl⟩
          · nomatch lg02 hl2
            exact ⟨rfl, by rw [pairB_no hl2]⟩
      simp_wf
      rw [show xs.map (fun x => D.bl (pairB lo hi x)) = (xs.map (pairB lo hi)).map .bl by simp, bls_map]
      simp_wf
      refine xite_mk (fun h3 => ?_) (fun h3 => ?_)
      · rw [Bool.not_eq_true', List.all_map] at h3
        have h3 : xs.all (pairB lo hi) = false := h3
        simp_wf
        refine fin_eq q ?_
        simp only [pairsB, h3, Bool.and_false, Bool.false_and]
      rw [Bool.not_eq_false', List.all_map] at h3
      have h3 : xs.all (pairB lo hi) = true := h3
      have h3' := List.all_eq_true.mp h3
      simp_wf
      refine lc_mapX hΦ (l := xs) (g := fstD) (by simp; omega) rfl (fun x hx' => ?_) ?_
      · obtain ⟨a, b, rfl, _⟩ := pairB_iff (h3' x hx')
        simp_wf
        exact ⟨rfl, rfl⟩
      simp_wf
      refine xK_arenames hA (fst_pv hx h3') ?_
      refine fin_eq q ?_
      simp only [pairsB]
      rw [decide_eq_true (show 1 ≤ (xs.length : Int) by omega), decide_eq_true (show (xs.length : Int) ≤ top by omega), h3, Bool.true_and, Bool.true_and, Bool.true_and]
  · exact h.elim
theorem o_lpairs {Φ : Fns} (hΦ : ∀ f, MonoFn (Φ f)) {iW iA : Nat} (hI : Φ iW = f_isint) (hA : Φ iA = f_arenames) {ds : List D} {st : Sto} {Q : Kd} (h : f_arepairs ds st Q) : xBody Φ (b_lpairs iW iA) st.length Q ⟨⟩ (ds.map some ++ List.replicate (5 - 4) none) st := by
  unfold f_arepairs at h
  split at h
  · rename_i d lo hi top
    obtain ⟨⟨hp, ht⟩, q⟩ := h
    have hz := sizeLine_ge
    unfold b_lpairs
    rcases pv_cases hp with rfl | ⟨i, rfl⟩ | ⟨x, rfl⟩ | ⟨xs, rfl, hx⟩
    · simp_wf; exact fin_q q
    · simp_wf; exact fin_q q
    · simp_wf; exact fin_q q
    · simp_wf
      refine xite_mk (fun h1 => ?_) (fun h1 => ?_)
      · have h1 := of_decide_eq_true h1
        simp_wf
        refine fin_eq q ?_
        simp only [pairsB]
        rw [decide_eq_false (show ¬ 1 ≤ (xs.length : Int) by omega)]; simp
      have h1 := of_decide_eq_false h1
      simp_wf
      refine xite_mk (fun h2 => ?_) (fun h2 => ?_)
      · have h2 := of_decide_eq_true h2
        simp_wf
        refine fin_eq q ?_
        simp only [pairsB]
        rw [decide_eq_false (show ¬ (xs.length : Int) ≤ top by omega)]; simp
      have h2 := of_decide_eq_false h2
      simp_wf
      refine for_ix hΦ [4] (fun i vs s => ∃ a, vs = [a] ∧ s = st ∧ ∀ x ∈ xs.take i, pairB lo hi x = true) ⟨_, rfl, rfl, fun x hx => by cases hx⟩ (fun i vs s _ h => rfl) ?_ ?_
      · rintro i x vs s hxi ⟨a, rfl, rfl, hall⟩
        have hxm := List.mem_of_getElem? hxi
        have hbad : pairB lo hi x = false → pairsB (.tup xs) lo hi top = false := fun e => by
          have : xs.all (pairB lo hi) = false := List.all_eq_false.mpr ⟨x, hxm, by rw [e]; decide⟩
          simp only [pairsB, this, Bool.and_false, Bool.false_and]
        simp_wf
        rcases pv_cases (hx x hxm) with rfl | ⟨i, rfl⟩ | ⟨x, rfl⟩ | ⟨zs, rfl, hzs⟩
        · simp_wf; exact fin_eq q (hbad rfl)
        · simp_wf; exact fin_eq q (hbad rfl)
        · simp_wf; exact fin_eq q (hbad rfl)
        · simp_wf
          by_cases hl2 : zs.length = 2
          · obtain ⟨a, b, rfl⟩ := len2 hl2
            nomatch l22
            refine xK_isint hI (hzs b (by simp)) ?_
            simp_wf
            refine xite_mk (fun h3 => ?_) (fun h3 => ?_)
            · rw [Bool.not_eq_true'] at h3
              simp_wf; exact fin_eq q (hbad h3)
            · rw [Bool.not_eq_false'] at h3
              simp_wf
              refine ⟨[_], rfl, _, rfl, rfl, fun x hx => ?_⟩
              rw [List.take_add_one, hxi] at hx
              rcases List.mem_append.mp hx with hx | hx
              · exact hall x hx
              · simp at hx; subst hx; exact h3
          · nomatch lg02 hl2
            exact fin_eq q (hbad (pairB_no hl2))
      rintro vs s ⟨a, rfl, rfl, hall⟩
      rw [List.take_length] at hall
      have h3 : xs.all (pairB lo hi) = true := List.all_eq_true.mpr hall
      simp_wf
      refine lc_mapX hΦ (l := xs) (g := fstD) (by simp; omega) rfl (fun x hx' => ?_) ?_
      · obtain ⟨a, b, rfl, _⟩ := pairB_iff (hall x hx')
        simp_wf
        exact ⟨rfl, rfl⟩
      simp_wf
      refine xK_arenames hA (fst_pv hx hall) ?_
      refine fin_eq q ?_
      simp only [pairsB]
      rw [decide_eq_true (show 1 ≤ (xs.length : Int) by omega), decide_eq_true (show (xs.length : Int) ≤ top by omega), h3, Bool.true_and, Bool.true_and, Bool.true_and]
  · exact h.elim
/-! the sums of rows -/
theorem sum_snd {lo hi : Int} {xs : List D} (h : ∀ x ∈ xs, pairB lo hi x = true) : ints? (xs.map sndD) = some (xs.map fun x => intD (sndD x)) := by
  have : xs.map sndD = (xs.map fun x => intD (sndD x)).map .int := by
    rw [List.map_map]
    refine List.map_congr_left fun x hx => ?_
    obtain ⟨a, b, rfl, hb⟩ := pairB_iff (h x hx)
    obtain ⟨i, rfl, _⟩ := isI_iff.mp hb
    rfl
  rw [this, ints_map]
theorem pairsB_iff {xs : List D} {lo hi top : Int} (h : pairsB (.tup xs) lo hi top = true) : 1 ≤ xs.length ∧ (xs.length : Int) ≤ top ∧ ∀ x ∈ xs, pairB lo hi x = true := by
  simp only [pairsB, Bool.and_eq_true, decide_eq_true_eq] at h
  exact ⟨by omega, h.1.1.2, List.all_eq_true.mp h.1.2⟩
theorem pairsB_tup {d : D} {lo hi top : Int} (h : pairsB d lo hi top = true) : ∃ xs, d = .tup xs := by
  cases d with
  | tup xs => exact ⟨xs, rfl⟩
  | _ => cases h
theorem namesB_tup {d : D} (h : namesB d = true) : ∃ xs, d = .tup xs := by
  cases d with
  | tup xs => exact ⟨xs, rfl⟩
  | _ => cases h
/-! is_simple -/
def b_simple (iI iN iA iP : Nat) : List SS := [.set (.nm 1) (.idx (.var 0) (.con (.int 0))),
  .ite (.cmp .eq (.var 1) (.con (.str "sure"))) [.ret (.land (.cmp .eq (.blt .len false [(.var 0)]) (.con (.int 2))) (.call iN [(.idx (.var 0) (.con (.int 1)))]))] [],
  .ite (.cmp .eq (.var 1) (.con (.str "order"))) [.ret (.land (.cmp .eq (.blt .len false [(.var 0)]) (.con (.int 2))) (.call iA [(.idx (.var 0) (.con (.int 1)))]))] [],
  .ite (.cmp .ne (.blt .len false [(.var 0)]) (.con (.int 3))) [.ret (.con (.bl false))] [],
  .ite (.lor (.cmp .eq (.var 1) (.con (.str "draw"))) (.cmp .eq (.var 1) (.con (.str "set")))) [.ret (.land (.call iA [(.idx (.var 0) (.con (.int 2)))]) (.call iI [(.idx (.var 0) (.con (.int 1))), (.con (.int 0)), (.blt .len false [(.idx (.var 0) (.con (.int 2)))])]))] [],
  .ite (.cmp .eq (.var 1) (.con (.str "again"))) [.ret (.land (.call iA [(.idx (.var 0) (.con (.int 2)))]) (.call iI [(.idx (.var 0) (.con (.int 1))), (.con (.int 0)), (.con (.int 12))]))] [],
  .ite (.cmp .eq (.var 1) (.con (.str "prizes"))) [.ret (.land (.call iP [(.idx (.var 0) (.con (.int 2))), (.con (.int 1)), (.con (.int 100)), (.con (.int 5))]) (.call iI [(.idx (.var 0) (.con (.int 1))), (.con (.int 0)), (.blt .len false [(.idx (.var 0) (.con (.int 2)))])]))] [],
  .ite (.lor (.cmp .ne (.var 1) (.con (.str "seats"))) (.lnot (.val (.call iP [(.idx (.var 0) (.con (.int 2))), (.con (.int 0)), (.con (.int 100000)), (.con (.int 12))])))) [.ret (.con (.bl false))] [],
  .ret (.land (.cmp .gt (.blt .sum false [(.lc false (.var 3) (.tup [(.nm 2), (.nm 3)]) (.seq (.idx (.var 0) (.con (.int 2)))) none [2, 3])]) (.con (.int 0))) (.call iI [(.idx (.var 0) (.con (.int 1))), (.con (.int 0)), (.con (.int 1000))]))]
def f_simple : Fn := fun ds st Q => match ds with
  | [.tup (.str k :: x :: r)] => pvD (.tup (.str k :: x :: r)) = true ∧ Q (.bl (simpB k (x :: r))) st
  | _ => False
theorem m_simple : MonoFn f_simple := fun vs st Q Q' h q => by
  unfold f_simple at *
  split at q
  · exact ⟨q.1, h _ _ q.2⟩
  · exact q
theorem xK_simple {Φ : Fns} {i : Nat} {k : Str} {x : D} {r : List D} {st : Sto} {Q : Kd} {u} (hi : Φ i = f_simple) (h1 : pvD (.tup (.str k :: x :: r)) = true) (h : Q (.bl (simpB k (x :: r))) st) : xK Φ i [.tup (.str k :: x :: r)] st Q u := by
  unfold xK
  rw [hi]
  exact ⟨h1, h⟩
theorem bne_of {a b : Str} (h : (a == b) = false) : ¬ a = b := beq_eq_false_iff_ne.mp h
theorem o_simple {Φ : Fns} (hΦ : ∀ f, MonoFn (Φ f)) {iI iN iA iP : Nat} (hI : Φ iI = f_isint) (hN : Φ iN = f_isname) (hA : Φ iA = f_arenames) (hP : Φ iP = f_arepairs) {ds : List D} {st : Sto} {Q : Kd} (h : f_simple ds st Q) :
    xBody Φ (b_simple iI iN iA iP) st.length Q ⟨⟩ (ds.map some ++ List.replicate (4 - 1) none) st := by
  unfold f_simple at h
  split at h
  · rename_i k x r
    obtain ⟨hp, q⟩ := h
    have hz := sizeLine_ge
    have hx := pv_tup.mp hp
    have hx0 := hx x (by simp)
    unfold b_simple
    simp_wf
    refine xite_mk (fun h1 => ?_) (fun h1 => ?_)
    · have h1 := eq_of_beq h1
      subst h1
      simp_wf
      match r with
      | [] =>
        nomatch l22
        refine xK_isname hN hx0 ?_
        refine fin_eq q ?_
        unfold simpB; rw [if_pos rfl]
      | y :: r =>
        nomatch lg2
        refine fin_eq q ?_
        unfold simpB; rw [if_pos rfl]
    simp_wf
    refine xite_mk (fun h2 => ?_) (fun h2 => ?_)
    · have h2 := eq_of_beq h2
      subst h2
      simp_wf
      match r with
      | [] =>
        nomatch l22
        refine xK_arenames hA hx0 ?_
        refine fin_eq q ?_
        unfold simpB; rw [if_neg (bne_of h1), if_pos rfl]
      | y :: r =>
        nomatch lg2
        refine fin_eq q ?_
        unfold simpB; rw [if_neg (bne_of h1), if_pos rfl]
    simp_wf
    match r, hp, hx, q with
    | [], hp, hx, q =>
      nomatch l23
      refine fin_eq q ?_
      unfold simpB; rw [if_neg (bne_of h1), if_neg (bne_of h2)]
    | y :: z :: r, hp, hx, q =>
      nomatch lg3
      refine fin_eq q ?_
      unfold simpB; rw [if_neg (bne_of h1), if_neg (bne_of h2)]
    | [y], hp, hx, q =>
      have hy := hx y (by simp)
      have e0 : simpB k [x, y] = (if k = "draw" ∨ k = "set" then namesB y && isI x 0 (lenT y)
          else if k = "again" then namesB y && isI x 0 12
          else if k = "prizes" then pairsB y 1 100 5 && isI x 0 (lenT y)
          else if k = "seats" then pairsB y 0 100000 12 && (decide (0 < sumS sndD y) && isI x 0 1000)
          else false) := by unfold simpB; rw [if_neg (bne_of h1), if_neg (bne_of h2)]
      rw [e0] at q
      nomatch l33
      have draw : k = "draw" ∨ k = "set" → MI.Fin st.length Q (.bl (namesB y && isI x 0 (lenT y))) st := fun h => by
        rw [if_pos h] at q; exact fin_q q
      have names : (k = "draw" ∨ k = "set") → ∀ {u}, xK Φ iA [y] st (fun x_1 s => xbl x_1 (fun c => xite c (fun _ => xopt (lenD s y) (fun n => xK Φ iI [x, .int 0, .int n] s (MI.Fin st.length Q) ⟨⟩) ⟨⟩) (fun _ => MI.Fin st.length Q (.bl false) s) ⟨⟩ ⟨⟩) ⟨⟩) u := fun h u => by
        have d := draw h
        refine xK_arenames hA hy ?_
        cases hn : namesB y with
        | false => rw [hn, Bool.false_and] at d; simp_wf; exact d
        | true =>
          rw [hn, Bool.true_and] at d
          obtain ⟨xs, rfl⟩ := namesB_tup hn
          simp_wf
          exact xK_isint hI hx0 d
      refine xite_mk (fun h3 => ?_) (fun h3 => ?_)
      · simp_wf
        exact names (.inl (eq_of_beq h3))
      simp_wf
      refine xite_mk (fun h4 => ?_) (fun h4 => ?_)
      · simp_wf
        exact names (.inr (eq_of_beq h4))
      rw [if_neg (fun h => h.elim (bne_of h3) (bne_of h4))] at q
      simp_wf
      refine xite_mk (fun h5 => ?_) (fun h5 => ?_)
      · rw [if_pos (eq_of_beq h5)] at q
        simp_wf
        refine xK_arenames hA hy ?_
        cases hn : namesB y with
        | false => rw [hn, Bool.false_and] at q; simp_wf; exact fin_q q
        | true =>
          rw [hn, Bool.true_and] at q
          simp_wf
          exact xK_isint hI hx0 (fin_q q)
      rw [if_neg (bne_of h5)] at q
      simp_wf
      refine xite_mk (fun h6 => ?_) (fun h6 => ?_)
      · rw [if_pos (eq_of_beq h6)] at q
        simp_wf
        refine xK_arepairs hP hy (by decide) ?_
        cases hn : pairsB y 1 100 5 with
        | false => rw [hn, Bool.false_and] at q; simp_wf; exact fin_q q
        | true =>
          rw [hn, Bool.true_and] at q
          obtain ⟨xs, rfl⟩ := pairsB_tup hn
          simp_wf
          exact xK_isint hI hx0 (fin_q q)
      rw [if_neg (bne_of h6)] at q
      simp_wf
      refine xite_mk (fun h7 => ?_) (fun h7 => ?_)
      · rw [Bool.not_eq_true'] at h7
        rw [if_neg (bne_of h7)] at q
        simp_wf
        exact fin_q q
      rw [Bool.not_eq_false'] at h7
      rw [if_pos (eq_of_beq h7)] at q
      simp_wf
      refine xK_arepairs hP hy (by decide) ?_
      cases hn : pairsB y 0 100000 12 with
      | false => rw [hn, Bool.false_and] at q; simp_wf; exact fin_q q
      | true =>
        rw [hn, Bool.true_and] at q
        obtain ⟨xs, rfl⟩ := pairsB_tup hn
        obtain ⟨g1, g2, g3⟩ := pairsB_iff hn
        simp_wf
        refine lc_mapX hΦ (l := xs) (g := sndD) (by simp; omega) rfl (fun x hx' => ?_) ?_
        · obtain ⟨a, b, rfl, _⟩ := pairB_iff (g3 x hx')
          simp_wf
          exact ⟨rfl, rfl⟩
        nomatch sum_snd g3
        refine xite_mk (fun h8 => ?_) (fun h8 => ?_)
        · replace h8 : decide (0 < sumS sndD (.tup xs)) = true := h8
          rw [h8, Bool.true_and] at q
          simp_wf
          exact xK_isint hI hx0 (fin_q q)
        · replace h8 : decide (0 < sumS sndD (.tup xs)) = false := h8
          rw [h8, Bool.false_and] at q
          simp_wf
          exact fin_q q
  · exact h.elim

/-! the form of a lot -/
theorem wB_iff {d : D} (h : wB d = true) : ∃ i z, d = .tup [.int i, z] ∧ 0 ≤ i ∧ i ≤ 1000 := by
  unfold wB at h
  split at h
  · obtain ⟨i, rfl, h1, h2⟩ := isI_iff.mp h
    exact ⟨i, _, rfl, h1, h2⟩
  · cases h
theorem wB_no {zs : List D} (h : zs.length ≠ 2) : wB (.tup zs) = false := by
  unfold wB
  split
  · rename_i e; simp only [D.tup.injEq] at e; subst e; simp at h
  · rfl
inductive FormD (d : D) : Prop where
  | both (xs : List D) (e : d = .tup [.str "both", .tup xs]) (l1 : 1 ≤ xs.length) (l2 : xs.length ≤ 12)
  | among (xs : List D) (e : d = .tup [.str "among", .tup xs]) (l1 : 1 ≤ xs.length) (l2 : xs.length ≤ 12) (h : ∀ y ∈ xs, wB y = true)
  | simple (k : Str) (x : D) (r : List D) (e : d = .tup (.str k :: x :: r)) (n1 : ¬ k = "both") (n2 : ¬ k = "among")
theorem rowB_iff {d : D} (h : rowB d 1 = true) : ∃ xs, d = .tup xs ∧ 1 ≤ xs.length ∧ xs.length ≤ 12 := by
  cases d with
  | tup xs =>
    simp only [rowB, Bool.and_eq_true, decide_eq_true_eq] at h
    exact ⟨xs, rfl, by omega, by omega⟩
  | _ => cases h
theorem formB_str {k : Str} {x : D} {r : List D} : formB (.tup (.str k :: x :: r)) = if k = "both" then r.isEmpty && rowB x 1
    else if k = "among" then r.isEmpty && (rowB x 1 && amongB x)
    else simpB k (x :: r) := rfl
theorem form_cases {d : D} (h : formB d = true) : FormD d := by
  unfold formB at h
  split at h
  · rename_i k x r
    split at h
    · rename_i hk
      subst hk
      simp only [Bool.and_eq_true] at h
      obtain ⟨h1, h2⟩ := h
      obtain ⟨xs, rfl, h3, h4⟩ := rowB_iff h2
      cases r with
      | nil => exact .both xs rfl h3 h4
      | cons _ _ => cases h1
    · rename_i hk
      split at h
      · rename_i hk2
        subst hk2
        simp only [Bool.and_eq_true] at h
        obtain ⟨h1, h2, h5⟩ := h
        obtain ⟨xs, rfl, h3, h4⟩ := rowB_iff h2
        cases r with
        | nil =>
          simp only [amongB, Bool.and_eq_true] at h5
          exact .among xs rfl h3 h4 (List.all_eq_true.mp h5.1)
        | cons _ _ => cases h1
      · rename_i hk2
        exact .simple k x r rfl hk hk2
  · cases h
theorem kids_both {xs : List D} : kidsD (.tup [.str "both", .tup xs]) = xs := by
  show (if ("both" : Str) = "among" then xs.map sndD else if ("both" : Str) = "both" then xs else []) = xs
  rw [if_neg (by decide +kernel), if_pos rfl]
theorem kids_among {xs : List D} : kidsD (.tup [.str "among", .tup xs]) = xs.map sndD := by
  show (if ("among" : Str) = "among" then xs.map sndD else if ("among" : Str) = "both" then xs else []) = xs.map sndD
  rw [if_pos rfl]
theorem kids_simple {k : Str} {x : D} {r : List D} (n1 : ¬ k = "both") (n2 : ¬ k = "among") : kidsD (.tup (.str k :: x :: r)) = [] := by
  unfold kidsD
  split
  · rename_i e
    simp only [D.tup.injEq, List.cons.injEq, D.str.injEq] at e
    obtain ⟨rfl, rfl, rfl⟩ := e
    rw [if_neg n2, if_neg n1]
  · rfl
theorem kids_len {d : D} (h : FormD d) : (kidsD d).length ≤ 12 := by
  cases h with
  | both xs e l1 l2 => rw [e, kids_both]; exact l2
  | among xs e l1 l2 h => rw [e, kids_among, List.length_map]; exact l2
  | simple k x r e n1 n2 => rw [e, kids_simple n1 n2]; decide
theorem kids_pv {d : D} (h : FormD d) (hp : pvD d = true) : ∀ y ∈ kidsD d, pvD y = true := by
  cases h with
  | both xs e l1 l2 =>
    subst e
    rw [kids_both]
    exact pv_tup.mp (pv_tup.mp hp (.tup xs) (by simp))
  | among xs e l1 l2 h =>
    subst e
    rw [kids_among]
    intro y hy
    obtain ⟨z, hz, rfl⟩ := List.mem_map.mp hy
    obtain ⟨i, w, rfl, _⟩ := wB_iff (h z hz)
    exact pv_tup.mp (pv_tup.mp (pv_tup.mp hp (.tup xs) (by simp)) _ hz) w (by simp)
  | simple k x r e n1 n2 =>
    rw [e, kids_simple n1 n2]
    intro y hy; cases hy
/-! inner -/
def b_inner : List SS := [.ite (.cmp .eq (.idx (.var 0) (.con (.int 0))) (.con (.str "among"))) [.ret (.lc false (.var 2) (.tup [(.nm 1), (.nm 2)]) (.seq (.idx (.var 0) (.con (.int 1)))) none [1, 2])] [],
  .ret (.ifx (.cmp .eq (.idx (.var 0) (.con (.int 0))) (.con (.str "both"))) (.blt .list false [(.idx (.var 0) (.con (.int 1)))]) (.lst false []))]
def f_inner : Fn := fun ds st Q => match ds with
  | [d] => (pvD d = true ∧ formB d = true) ∧ Q (.lst (kidsD d)) st
  | _ => False
theorem m_inner : MonoFn f_inner := fun vs st Q Q' h q => by
  unfold f_inner at *
  split at q
  · exact ⟨q.1, h _ _ q.2⟩
  · exact q
theorem xK_inner {Φ : Fns} {i : Nat} {d : D} {st : Sto} {Q : Kd} {u} (hi : Φ i = f_inner) (h1 : pvD d = true) (h2 : formB d = true) (h : Q (.lst (kidsD d)) st) : xK Φ i [d] st Q u := by
  unfold xK
  rw [hi]
  exact ⟨⟨h1, h2⟩, h⟩
theorem ba : (("both" : Str) == "among") = false := by decide +kernel
theorem bb : (("both" : Str) == "both") = true := by decide +kernel
theorem aa : (("among" : Str) == "among") = true := by decide +kernel
theorem ab : (("among" : Str) == "both") = false := by decide +kernel
theorem bne_mk {a b : Str} (h : ¬ a = b) : (a == b) = false := beq_eq_false_iff_ne.mpr h
theorem o_inner {Φ : Fns} (hΦ : ∀ f, MonoFn (Φ f)) {ds : List D} {st : Sto} {Q : Kd} (h : f_inner ds st Q) : xBody Φ b_inner st.length Q ⟨⟩ (ds.map some ++ List.replicate (3 - 1) none) st := by
  unfold f_inner at h
  split at h
  · rename_i d
    obtain ⟨⟨hp, hf⟩, q⟩ := h
    have hz := sizeLine_ge
    unfold b_inner
    cases form_cases hf with
    | both xs e l1 l2 =>
      subst e
      nomatch ba, bb
      rw [kids_both] at q
      exact fin_q q
    | among xs e l1 l2 h =>
      subst e
      nomatch aa
      rw [kids_among] at q
      refine lc_mapX hΦ (l := xs) (g := sndD) (by simp; omega) rfl (fun x hx' => ?_) ?_
      · obtain ⟨i, z, rfl, _⟩ := wB_iff (h x hx')
        simp_wf
        exact ⟨rfl, rfl⟩
      simp_wf
      exact fin_q q
    | simple k x r e n1 n2 =>
      subst e
      rw [kids_simple n1 n2] at q
      nomatch bne_mk n1, bne_mk n2
      refine xand_mk (by omega) fun _ => ?_
      simp_wf
      exact fin_q q
  · exact h.elim
/-! has_form -/
def b_form (iI iR iS : Nat) : List SS := [.ite (.lor (.lnot (.val (.blt .isTuple false [(.var 0)]))) (.lor (.cmp .lt (.blt .len false [(.var 0)]) (.con (.int 2))) (.lnot (.val (.blt .isStr false [(.idx (.var 0) (.con (.int 0)))]))))) [.ret (.con (.bl false))] [],
  .ite (.cmp .eq (.idx (.var 0) (.con (.int 0))) (.con (.str "both"))) [.ret (.land (.cmp .eq (.blt .len false [(.var 0)]) (.con (.int 2))) (.call iR [(.idx (.var 0) (.con (.int 1))), (.con (.int 1))]))] [],
  .ite (.cmp .ne (.idx (.var 0) (.con (.int 0))) (.con (.str "among"))) [.ret (.call iS [(.var 0)])] [],
  .ite (.lor (.cmp .ne (.blt .len false [(.var 0)]) (.con (.int 2))) (.lnot (.val (.call iR [(.idx (.var 0) (.con (.int 1))), (.con (.int 1))])))) [.ret (.con (.bl false))] [],
  .for_ (.nm 1) (.seq (.idx (.var 0) (.con (.int 1)))) [.ite (.lor (.lnot (.val (.blt .isTuple false [(.var 1)]))) (.lor (.cmp .ne (.blt .len false [(.var 1)]) (.con (.int 2))) (.lnot (.val (.call iI [(.idx (.var 1) (.con (.int 0))), (.con (.int 0)), (.con (.int 1000))]))))) [.ret (.con (.bl false))] []],
  .ret (.cmp .gt (.blt .sum false [(.lc false (.var 2) (.tup [(.nm 2), (.nm 3)]) (.seq (.idx (.var 0) (.con (.int 1)))) none [2, 3])]) (.con (.int 0)))]
def f_form : Fn := fun ds st Q => match ds with
  | [d] => pvD d = true ∧ Q (.bl (formB d)) st
  | _ => False
theorem m_form : MonoFn f_form := fun vs st Q Q' h q => by
  unfold f_form at *
  split at q
  · exact ⟨q.1, h _ _ q.2⟩
  · exact q
theorem xK_form {Φ : Fns} {i : Nat} {d : D} {st : Sto} {Q : Kd} {u} (hi : Φ i = f_form) (h1 : pvD d = true) (h : Q (.bl (formB d)) st) : xK Φ i [d] st Q u := by
  unfold xK
  rw [hi]
  exact ⟨h1, h⟩
theorem formB_nostr {x : D} {r : List D} (h : ∀ k, x ≠ .str k) : formB (.tup (x :: r)) = false := by
  unfold formB
  split
  · rename_i e; simp only [D.tup.injEq, List.cons.injEq] at e; exact absurd e.1 (h _)
  · rfl
theorem sum_fst {xs : List D} (h : ∀ x ∈ xs, wB x = true) : ints? (xs.map fstD) = some (xs.map fun x => intD (fstD x)) := by
  have : xs.map fstD = (xs.map fun x => intD (fstD x)).map .int := by
    rw [List.map_map]
    refine List.map_congr_left fun x hx => ?_
    obtain ⟨i, z, rfl, _⟩ := wB_iff (h x hx)
    rfl
  rw [this, ints_map]
theorem wB_walk {d : D} (hp : pvD d = true) : True := trivial
theorem o_form {Φ : Fns} (hΦ : ∀ f, MonoFn (Φ f)) {iI iR iS : Nat} (hI : Φ iI = f_isint) (hR : Φ iR = f_isrow) (hS : Φ iS = f_simple) {ds : List D} {st : Sto} {Q : Kd} (h : f_form ds st Q) : xBody Φ (b_form iI iR iS) st.length Q ⟨⟩ (ds.map some ++ List.replicate (4 - 1) none) st := by
  unfold f_form at h
  split at h
  · rename_i d
    obtain ⟨hp, q⟩ := h
    have hz := sizeLine_ge
    unfold b_form
    rcases pv_cases hp with rfl | ⟨i, rfl⟩ | ⟨x, rfl⟩ | ⟨ys, rfl, hx⟩
    · simp_wf; exact fin_q q
    · simp_wf; exact fin_q q
    · simp_wf; exact fin_q q
    match ys, hp, hx, q with
    | [], hp, hx, q =>
      simp_wf
      rw [show decide (((0 : Nat) : Int) < 2) = true by decide]
      simp_wf
      exact fin_q q
    | [x], hp, hx, q =>
      simp_wf
      rw [show decide (((0 + 1 : Nat) : Int) < 2) = true by decide]
      simp_wf
      refine fin_eq q ?_
      unfold formB
      split
      · rename_i e; simp at e
      · rfl
    | k0 :: x :: r, hp, hx, q =>
    have hx1 := hx x (by simp)
    simp_wf
    rw [show decide (((r.length + 1 + 1 : Nat) : Int) < 2) = false from decide_eq_false (by omega)]
    simp_wf
    rcases pv_cases (hx k0 (by simp)) with rfl | ⟨i, rfl⟩ | ⟨k, rfl⟩ | ⟨zs, rfl, hzs⟩
    · simp_wf; exact fin_eq q (formB_nostr fun _ e => by cases e)
    · simp_wf; exact fin_eq q (formB_nostr fun _ e => by cases e)
    rotate_left
    · simp_wf; exact fin_eq q (formB_nostr fun _ e => by cases e)
    rw [formB_str] at q
    simp_wf
    refine xite_mk (fun h1 => ?_) (fun h1 => ?_)
    · rw [if_pos (eq_of_beq h1)] at q
      simp_wf
      match r, q with
      | [], q =>
        nomatch l22
        exact xK_isrow hR hx1 (fin_q q)
      | y :: r, q =>
        nomatch lg2
        exact fin_q q
    rw [if_neg (bne_of h1)] at q
    simp_wf
    refine xite_mk (fun h2 => ?_) (fun h2 => ?_)
    · rw [Bool.not_eq_true'] at h2
      rw [if_neg (bne_of h2)] at q
      simp_wf
      exact xK_simple hS hp (fin_q q)
    rw [Bool.not_eq_false'] at h2
    rw [if_pos (eq_of_beq h2)] at q
    simp_wf
    match r, q with
    | y :: r, q =>
      nomatch lg2
      exact fin_q q
    | [], q =>
    replace q : Q (.bl (rowB x 1 && amongB x)) st := q
    nomatch l22
    refine xK_isrow hR hx1 ?_
    simp_wf
    cases hr : rowB x 1 with
    | false => rw [hr, Bool.false_and] at q; simp_wf; exact fin_q q
    | true =>
    rw [hr, Bool.true_and] at q
    obtain ⟨xs, rfl, g1, g2⟩ := rowB_iff hr
    have hxs := pv_tup.mp hx1
    simp_wf
    refine for_ix hΦ [1] (fun i vs s => ∃ a, vs = [a] ∧ s = st ∧ ∀ x ∈ xs.take i, wB x = true) ⟨_, rfl, rfl, fun x hx => by cases hx⟩ (fun i vs s _ h => rfl) ?_ ?_
    · rintro i x vs s hxi ⟨a, rfl, rfl, hall⟩
      have hxm := List.mem_of_getElem? hxi
      have hbad : wB x = false → amongB (.tup xs) = false := fun e => by
        have : xs.all wB = false := List.all_eq_false.mpr ⟨x, hxm, by rw [e]; decide⟩
        simp only [amongB, this, Bool.false_and]
      simp_wf
      rcases pv_cases (hxs x hxm) with rfl | ⟨i, rfl⟩ | ⟨x, rfl⟩ | ⟨zs, rfl, hzs⟩
      · simp_wf; exact fin_eq q (hbad rfl)
      · simp_wf; exact fin_eq q (hbad rfl)
      · simp_wf; exact fin_eq q (hbad rfl)
      · simp_wf
        by_cases hl2 : zs.length = 2
        · obtain ⟨a, b, rfl⟩ := len2 hl2
          nomatch l22
          refine xK_isint hI (hzs a (by simp)) ?_
          simp_wf
          refine xite_mk (fun h3 => ?_) (fun h3 => ?_)
          · rw [Bool.not_eq_true'] at h3
            simp_wf; exact fin_eq q (hbad h3)
          · rw [Bool.not_eq_false'] at h3
            simp_wf
            refine ⟨[_], rfl, _, rfl, rfl, fun x hx => ?_⟩
            rw [List.take_add_one, hxi] at hx
            rcases List.mem_append.mp hx with hx | hx
            · exact hall x hx
            · simp at hx; subst hx; exact h3
        · nomatch lg02 hl2
          exact fin_eq q (hbad (wB_no hl2))
    rintro vs s ⟨a, rfl, rfl, hall⟩
    rw [List.take_length] at hall
    have h3 : xs.all wB = true := List.all_eq_true.mpr hall
    simp_wf
    refine lc_mapX hΦ (l := xs) (g := fstD) (by simp; omega) rfl (fun x hx' => ?_) ?_
    · obtain ⟨i, z, rfl, _⟩ := wB_iff (hall x hx')
      simp_wf
      exact ⟨rfl, rfl⟩
    nomatch sum_fst hall
    refine fin_eq q ?_
    show (xs.all wB && decide (0 < sumS fstD (.tup xs))) = _
    rw [h3, Bool.true_and]; rfl
  · exact h.elim
/-! is_lot -/
def b_islot (iF iK : Nat) : List SS := [.set (.nm 1) (.con (.int 0)),
  .set (.nm 2) (.lst true [(.tup [(.var 0), (.con (.int 1))])]),
  .while_ (.val (.var 2)) [.set (.tup [(.nm 3), (.nm 4)]) (.mth .pop0 (.var 2) []),
  .aug 1 .add (.con (.int 1)),
  .ite (.lor (.cmp .gt (.var 1) (.con (.int 30))) (.lor (.cmp .gt (.var 4) (.con (.int 6))) (.lnot (.val (.call iF [(.var 3)]))))) [.ret (.con (.bl false))] [],
  .expr (.mth .extend (.var 2) [(.lc false (.tup [(.var 5), (.bin .add false (.var 4) (.con (.int 1)))]) (.nm 5) (.seq (.call iK [(.var 3)])) none [5])])],
  .ret (.con (.bl true))]
def f_islot : Fn := fun ds st Q => match ds with
  | [d] => pvD d = true ∧ Q (.bl (decide (cntD 6 d ≤ 30))) st
  | _ => False
theorem m_islot : MonoFn f_islot := fun vs st Q Q' h q => by
  unfold f_islot at *
  split at q
  · exact ⟨q.1, h _ _ q.2⟩
  · exact q
theorem xK_islot {Φ : Fns} {i : Nat} {d : D} {st : Sto} {Q : Kd} {u} (hi : Φ i = f_islot) (h1 : pvD d = true) (h : Q (.bl (decide (cntD 6 d ≤ 30))) st) : xK Φ i [d] st Q u := by
  unfold xK
  rw [hi]
  exact ⟨h1, h⟩
/-- what still waits -/
def enc2 (x : D × Nat) : D := .tup [x.1, .int (x.2 : Int)]
def waits (L : List (D × Nat)) : Nat := (L.map fun x => cntD (7 - x.2) x.1).sum
theorem waits_app (a b : List (D × Nat)) : waits (a ++ b) = waits a + waits b := by simp [waits]
theorem waits_last (a : List (D × Nat)) (x : D × Nat) : waits (a ++ [x]) = waits a + cntD (7 - x.2) x.1 := by simp [waits]
theorem waits_kids (ks : List D) (e : Nat) : waits (ks.map fun k => (k, e)) = (ks.map (cntD (7 - e))).sum := by
  unfold waits
  rw [List.map_map]; rfl
theorem o_islot {Φ : Fns} (hΦ : ∀ f, MonoFn (Φ f)) {iF iK : Nat} (hF : Φ iF = f_form) (hK : Φ iK = f_inner) {ds : List D} {st : Sto} {Q : Kd} (hst : ∀ d ∈ st, Cl st.length d) (h : f_islot ds st Q) :
    xBody Φ (b_islot iF iK) st.length Q ⟨⟩ (ds.map some ++ List.replicate (6 - 1) none) st := by
  unfold f_islot at h
  split at h
  · rename_i d0
    obtain ⟨hp, q⟩ := h
    have hz := sizeLine_ge
    unfold b_islot
    simp_wf
    have hg : ∀ L : List D, (st ++ [D.lst L])[st.length]? = some (.lst L) := fun L => by rw [getA0]; rfl
    have hs : ∀ L : List D, ∀ d : D, (st ++ [D.lst L]).set st.length d = st ++ [d] := fun L d => by rw [setA0]; rfl
    have fin : ∀ (L : List D) (b : Bool), decide (cntD 6 d0 ≤ 30) = b → MI.Fin st.length Q (.bl b) (st ++ [D.lst L]) := fun L b e => by
      subst e; exact fin_cut hst takeA cl_bl q
    bv_omega
    refine wh_ix hΦ [1, 2, 3, 4] (fun j vs s => ∃ (n : Nat) (x3 x4 : Option D) (L : List (D × Nat)), vs = [some (.int (n : Int)), some (.loc st.length), x3, x4] ∧ s = st ++ [D.lst (L.map enc2)] ∧ (∀ x ∈ L, pvD x.1 = true ∧ 1 ≤ x.2 ∧ x.2 ≤ 7) ∧ L.length ≤ 1 + 12 * n ∧ n + waits L = cntD 6 d0 ∧ n ≤ 30 ∧ j = 31 - n) 31
      ⟨0, none, none, [(d0, 1)], rfl, rfl, fun x hx => by simp at hx; subst hx; exact ⟨hp, Nat.le_refl 1, show 1 ≤ 7 by decide⟩, by simp, by simp [waits], by decide, rfl⟩ ?_
    rintro j vs s ⟨n, x3, x4, L, rfl, rfl, hL, hl, hn, hn30, rfl⟩
    generalize cntD 6 d0 = T at hn fin
    simp_wf
    nomatch hg
    rcases List.eq_nil_or_concat L with rfl | ⟨L, ⟨d, e⟩, rfl⟩
    · nomatch hg
      refine fin _ _ (decide_eq_true ?_)
      simp [waits] at hn; omega
    · rw [List.concat_eq_append] at *
      have hd := hL (d, e) (by simp)
      rw [waits_last] at hn
      rw [List.length_append, List.length_singleton] at hl
      have e1 : (!((L ++ [(d, e)]).map enc2).isEmpty) = true := by simp
      have e2 : Option.map enc2 (L ++ [(d, e)])[L.length + 1 - 1]? = some (.tup [d, .int (e : Int)]) := by simp [enc2]
      have e3 : ((L ++ [(d, e)]).map enc2).dropLast = L.map enc2 := by simp
      nomatch hg, e1
      nomatch hg, e2, e3, hs
      refine xite_mk (fun h1 => ?_) (fun h1 => ?_)
      · have h1 := of_decide_eq_true h1
        have := cntD_pos (7 - e) d
        simp_wf
        refine fin _ _ (decide_eq_false ?_)
        simp only at hn; omega
      have h1 := of_decide_eq_false h1
      simp_wf
      refine xite_mk (fun h2 => ?_) (fun h2 => ?_)
      · have h2 := of_decide_eq_true h2
        have h7 : e = 7 := by have := hd.2.2; simp only at this; omega
        subst h7
        simp_wf
        refine fin _ _ (decide_eq_false ?_)
        simp only [Nat.sub_self, cntD] at hn; omega
      have h2 := of_decide_eq_false h2
      obtain ⟨r, hr⟩ : ∃ r, 7 - e = r + 1 := ⟨6 - e, by omega⟩
      simp only [hr, cntD] at hn
      simp_wf
      refine xK_form hF hd.1 ?_
      simp_wf
      cases hf : formB d with
      | false =>
        rw [hf, if_neg (by decide)] at hn
        simp_wf
        exact fin _ _ (decide_eq_false (by omega))
      | true =>
        rw [hf, if_pos rfl] at hn
        have hfd := form_cases hf
        have hkl := kids_len hfd
        have hkp := kids_pv hfd hd.1
        nomatch hg
        refine xK_inner hK hd.1 hf ?_
        nomatch hg
        refine lc_mapX hΦ (l := kidsD d) (g := fun x => .tup [x, .int ((e : Int) + 1)]) (by simp; omega) rfl (fun x hx' => ?_) ?_
        · bv_omega
          exact ⟨rfl, rfl⟩
        simp_wf
        refine xand_mk (by omega) fun _ => ?_
        simp_wf
        nomatch hs
        refine ⟨[_, _, _, _], rfl, 30 - n, by omega, n + 1, _, _, L ++ (kidsD d).map fun k => (k, e + 1), rfl, ?_, fun x hx => ?_, ?_, ?_, by omega, by omega⟩
        · simp [enc2]
        · rcases List.mem_append.mp hx with hx | hx
          · exact hL x (List.mem_append_left _ hx)
          · obtain ⟨k, hk, rfl⟩ := List.mem_map.mp hx
            exact ⟨hkp k hk, by simp, by show e + 1 ≤ 7; omega⟩
        · rw [List.length_append, List.length_map]; omega
        · rw [waits_app, waits_kids, show 7 - (e + 1) = r by omega]; omega
  · exact h.elim

/-! the law's count -/
def twoB : D → Bool
  | .tup [_, _] => true
  | _ => false
theorem twoB_iff {d : D} (h : twoB d = true) : ∃ a b, d = .tup [a, b] := by
  unfold twoB at h
  split at h
  · exact ⟨_, _, rfl⟩
  · cases h
theorem twoB_no {zs : List D} (h : zs.length ≠ 2) : twoB (.tup zs) = false := by
  unfold twoB
  split
  · rename_i e; simp only [D.tup.injEq] at e; subst e; simp at h
  · rfl
theorem wB_two {d : D} (h : twoB d = false) : wB d = false := by
  cases hw : wB d with
  | false => rfl
  | true =>
    obtain ⟨i, z, rfl, _⟩ := wB_iff hw
    cases h
theorem simp2 {k : Str} {x : D} : simpB k [x] = if k = "sure" then nameB x else if k = "order" then namesB x else false := rfl
theorem simp3 {k : Str} {x y : D} : simpB k [x, y] = (if k = "draw" ∨ k = "set" then namesB y && isI x 0 (lenT y)
          else if k = "again" then namesB y && isI x 0 12
          else if k = "prizes" then pairsB y 1 100 5 && isI x 0 (lenT y)
          else if k = "seats" then pairsB y 0 100000 12 && (decide (0 < sumS sndD y) && isI x 0 1000)
          else false) := by
  unfold simpB
  by_cases h1 : k = "sure"
  · subst h1
    rw [if_pos rfl, if_neg (by decide +kernel), if_neg (by decide +kernel), if_neg (by decide +kernel), if_neg (by decide +kernel)]
  rw [if_neg h1]
  by_cases h2 : k = "order"
  · subst h2
    rw [if_pos rfl, if_neg (by decide +kernel), if_neg (by decide +kernel), if_neg (by decide +kernel), if_neg (by decide +kernel)]
  rw [if_neg h2]
theorem simp4 {k : Str} {x y z : D} {r : List D} : simpB k (x :: y :: z :: r) = false := by
  unfold simpB
  split
  · rfl
  · split <;> rfl
theorem form_long {k0 x y z : D} {r : List D} : formB (.tup (k0 :: x :: y :: z :: r)) = false := by
  cases k0 with
  | str k =>
    rw [formB_str, simp4]
    split
    · rfl
    · split <;> rfl
  | _ => rfl
theorem inTwo {a b k : Str} : ([D.str a, D.str b].any fun z => eqF z (.str k)) = (k == a || k == b) := by
  simp only [List.any_cons, List.any_nil, Bool.or_false, eqF_str]
  rw [str_beq_symm (a := a), str_beq_symm (a := b)]
theorem inN {a b k : Str} (h1 : ¬ k = a) (h2 : ¬ k = b) : ([D.str a, D.str b].any fun z => eqF z (.str k)) = false := by
  rw [inTwo, bne_mk h1, bne_mk h2]; rfl
theorem inBoth : ([D.str "both", D.str "among"].any fun z => eqF z (.str "both")) = true := by rw [inTwo, bb]; rfl
theorem inAmong : ([D.str "both", D.str "among"].any fun z => eqF z (.str "among")) = true := by rw [inTwo, aa, Bool.or_true]
def b_count (iW iN iA iP iC : Nat) : List SS := [.ite (.lor (.cmp .gt (.var 1) (.con (.int 6))) (.lor (.lnot (.val (.blt .isTuple false [(.var 0)]))) (.lor (.cmp .lt (.blt .len false [(.var 0)]) (.con (.int 2))) (.lor (.cmp .gt (.blt .len false [(.var 0)]) (.con (.int 3))) (.lnot (.val (.blt .isStr false [(.idx (.var 0) (.con (.int 0)))]))))))) [.ret (.con (.int 1000))] [],
  .set (.nm 2) (.idx (.var 0) (.con (.int 0))),
  .set (.nm 3) (.con (.bl false)),
  .ite (.cmp .isIn (.var 2) (.lst false [(.con (.str "both")), (.con (.str "among"))])) [.ite (.lor (.cmp .ne (.blt .len false [(.var 0)]) (.con (.int 2))) (.lor (.lnot (.val (.blt .isTuple false [(.idx (.var 0) (.con (.int 1)))]))) (.lor (.cmp .lt (.blt .len false [(.idx (.var 0) (.con (.int 1)))]) (.con (.int 1))) (.cmp .gt (.blt .len false [(.idx (.var 0) (.con (.int 1)))]) (.con (.int 12)))))) [.ret (.con (.int 1000))] [],
  .set (.nm 4) (.idx (.var 0) (.con (.int 1))),
  .ite (.cmp .eq (.var 2) (.con (.str "among"))) [.ite (.lnot (.val (.blt .all false [(.lc false (.land (.blt .isTuple false [(.var 5)]) (.cmp .eq (.blt .len false [(.var 5)]) (.con (.int 2)))) (.nm 5) (.seq (.idx (.var 0) (.con (.int 1)))) none [5])]))) [.ret (.con (.int 1000))] [],
  .ite (.lor (.lnot (.val (.blt .all false [(.lc false (.call iW [(.idx (.var 5) (.con (.int 0))), (.con (.int 0)), (.con (.int 1000))]) (.nm 5) (.seq (.idx (.var 0) (.con (.int 1)))) none [5])]))) (.cmp .eq (.blt .sum false [(.lc false (.idx (.var 5) (.con (.int 0))) (.nm 5) (.seq (.idx (.var 0) (.con (.int 1)))) none [5])]) (.con (.int 0)))) [.ret (.con (.int 1000))] [],
  .set (.nm 4) (.lc false (.idx (.var 5) (.con (.int 1))) (.nm 5) (.seq (.idx (.var 0) (.con (.int 1)))) none [5])] [],
  .ret (.bin .add false (.con (.int 1)) (.blt .sum false [(.lc false (.call iC [(.var 6), (.bin .add false (.var 1) (.con (.int 1)))]) (.nm 6) (.seq (.var 4)) none [6])]))] [],
  .ite (.cmp .eq (.blt .len false [(.var 0)]) (.con (.int 2))) [.set (.nm 3) (.lor (.land (.cmp .eq (.var 2) (.con (.str "sure"))) (.call iN [(.idx (.var 0) (.con (.int 1)))])) (.land (.cmp .eq (.var 2) (.con (.str "order"))) (.call iA [(.idx (.var 0) (.con (.int 1)))])))] [.ite (.cmp .isIn (.var 2) (.lst false [(.con (.str "draw")), (.con (.str "set"))])) [.set (.nm 3) (.land (.call iA [(.idx (.var 0) (.con (.int 2)))]) (.call iW [(.idx (.var 0) (.con (.int 1))), (.con (.int 0)), (.blt .len false [(.idx (.var 0) (.con (.int 2)))])]))] [.ite (.cmp .eq (.var 2) (.con (.str "again"))) [.set (.nm 3) (.land (.call iA [(.idx (.var 0) (.con (.int 2)))]) (.call iW [(.idx (.var 0) (.con (.int 1))), (.con (.int 0)), (.con (.int 12))]))] [.ite (.cmp .eq (.var 2) (.con (.str "prizes"))) [.set (.nm 3) (.land (.call iP [(.idx (.var 0) (.con (.int 2))), (.con (.int 1)), (.con (.int 100)), (.con (.int 5))]) (.call iW [(.idx (.var 0) (.con (.int 1))), (.con (.int 0)), (.blt .len false [(.idx (.var 0) (.con (.int 2)))])]))] [.ite (.cmp .eq (.var 2) (.con (.str "seats"))) [.set (.nm 3) (.land (.call iP [(.idx (.var 0) (.con (.int 2))), (.con (.int 0)), (.con (.int 100000)), (.con (.int 12))]) (.land (.call iW [(.idx (.var 0) (.con (.int 1))), (.con (.int 0)), (.con (.int 1000))]) (.cmp .gt (.blt .sum false [(.lc false (.idx (.var 5) (.con (.int 1))) (.nm 5) (.seq (.idx (.var 0) (.con (.int 2)))) none [5])]) (.con (.int 0)))))] []]]]],
  .ret (.idx (.lst false [(.con (.int 1000)), (.con (.int 1))]) (.blt .int false [(.var 3)]))]
def f_count (r : Nat) : Fn := fun ds st Q => match ds with
  | [d, .int e] => (pvD d = true ∧ 1 ≤ e ∧ e ≤ 7 ∧ 7 < e + r) ∧ Q (.int (cntD (7 - e).toNat d : Nat)) st
  | _ => False
theorem m_count (r : Nat) : MonoFn (f_count r) := fun vs st Q Q' h q => by
  unfold f_count at *
  split at q
  · exact ⟨q.1, h _ _ q.2⟩
  · exact q
theorem f_count_zero {ds : List D} {st : Sto} {Q : Kd} (h : f_count 0 ds st Q) : False := by
  unfold f_count at h
  split at h
  · obtain ⟨⟨_, _, _, _⟩, _⟩ := h; omega
  · exact h
theorem xK_count {Φ : Fns} {i r : Nat} {d : D} {e : Int} {st : Sto} {Q : Kd} {u} (hi : Φ i = f_count r) (h1 : pvD d = true) (h2 : 1 ≤ e ∧ e ≤ 7 ∧ 7 < e + r) (h : Q (.int (cntD (7 - e).toNat d : Nat)) st) : xK Φ i [d, .int e] st Q u := by
  unfold xK
  rw [hi]
  exact ⟨⟨h1, h2⟩, h⟩
theorem sum_cnt (m : Nat) (ks : List D) : (ks.map fun x => ((cntD m x : Nat) : Int)).sum = ((ks.map (cntD m)).sum : Nat) := by
  induction ks with
  | nil => rfl
  | cons a r ih => rw [List.map_cons, List.sum_cons, ih, List.map_cons, List.sum_cons]; omega
theorem fin_int {n : Nat} {Q : Kd} {a b : Int} {st : Sto} (q : Q (.int a) st) (h : a = b) : MI.Fin n Q (.int b) st := h ▸ fin_q q
theorem sum_pos {xs : List D} (h : ∀ x ∈ xs, wB x = true) : 0 ≤ (xs.map fun x => intD (fstD x)).sum := sum_nn fun y hy => by
  obtain ⟨x, hx, rfl⟩ := List.mem_map.mp hy
  obtain ⟨i, z, rfl, h0, _⟩ := wB_iff (h x hx)
  exact h0
theorem nil_app {α : Type} {l : List α} : [] ++ l = l := rfl
theorem o_count {Φ : Fns} (hΦ : ∀ f, MonoFn (Φ f)) {iW iN iA iP iC r : Nat} (hW : Φ iW = f_isint) (hN : Φ iN = f_isname) (hA : Φ iA = f_arenames) (hP : Φ iP = f_arepairs) (hC : Φ iC = f_count r) {ds : List D} {st : Sto} {Q : Kd}
    (h : f_count (r + 1) ds st Q) : xBody Φ (b_count iW iN iA iP iC) st.length Q ⟨⟩ (ds.map some ++ List.replicate (7 - 2) none) st := by
  unfold f_count at h
  split at h
  · rename_i d e
    obtain ⟨⟨hp, he1, he7, her⟩, q⟩ := h
    have hz := sizeLine_ge
    unfold b_count
    simp_wf
    refine xite_mk (fun h0 => ?_) (fun h0 => ?_)
    · have h0 := of_decide_eq_true h0
      rw [show (7 - e).toNat = 0 by omega] at q
      simp_wf
      exact fin_q q
    have h0 := of_decide_eq_false h0
    obtain ⟨m, hm⟩ : ∃ m, (7 - e).toNat = m + 1 := ⟨(6 - e).toNat, by omega⟩
    have hm2 : (7 - (e + 1)).toNat = m := by omega
    rw [hm, cntD] at q
    have no : formB d = false → ∀ s, s = st → MI.Fin st.length Q (.int 1000) s := fun h s e => by
      subst e
      rw [if_neg (by rw [h]; decide)] at q; exact fin_q q
    rcases pv_cases hp with rfl | ⟨i, rfl⟩ | ⟨x, rfl⟩ | ⟨ys, rfl, hx⟩
    · simp_wf; exact no rfl _ rfl
    · simp_wf; exact no rfl _ rfl
    · simp_wf; exact no rfl _ rfl
    match ys, hp, hx, q, no with
    | [], hp, hx, q, no =>
      simp_wf
      rw [show decide (((0 : Nat) : Int) < 2) = true by decide]
      simp_wf
      exact no rfl _ rfl
    | [x], hp, hx, q, no =>
      simp_wf
      rw [show decide (((0 + 1 : Nat) : Int) < 2) = true by decide]
      simp_wf
      refine no ?_ _ rfl
      unfold formB
      split
      · rename_i e; simp at e
      · rfl
    | k0 :: x :: y :: z :: r', hp, hx, q, no =>
      simp_wf
      rw [show decide (((r'.length + 1 + 1 + 1 + 1 : Nat) : Int) < 2) = false from decide_eq_false (by omega)]
      simp_wf
      rw [show decide ((3 : Int) < ((r'.length + 1 + 1 + 1 + 1 : Nat) : Int)) = true from decide_eq_true (by omega)]
      simp_wf
      exact no form_long _ rfl
    | [k0, x], hp, hx, q, no =>
      have hx1 := hx x (by simp)
      simp_wf
      rw [show decide (((0 + 1 + 1 : Nat) : Int) < 2) = false by decide]
      simp_wf
      rw [show decide ((3 : Int) < ((0 + 1 + 1 : Nat) : Int)) = false by decide]
      simp_wf
      rcases pv_cases (hx k0 (by simp)) with rfl | ⟨i, rfl⟩ | ⟨k, rfl⟩ | ⟨zs, rfl, hzs⟩
      · simp_wf; exact no (formB_nostr fun _ e => by cases e) _ rfl
      · simp_wf; exact no (formB_nostr fun _ e => by cases e) _ rfl
      rotate_left
      · simp_wf; exact no (formB_nostr fun _ e => by cases e) _ rfl
      bv_omega
      by_cases k1 : k = "both"
      · subst k1
        rw [inBoth]
        nomatch l22
        rw [formB_str, if_pos rfl] at q no
        replace q : Q (.int ((if rowB x 1 = true then 1 + ((kidsD (.tup [.str "both", x])).map (cntD m)).sum else 1000 : Nat) : Int)) st := q
        replace no : rowB x 1 = false → ∀ s, s = st → MI.Fin st.length Q (.int 1000) s := no
        rcases pv_cases hx1 with rfl | ⟨i, rfl⟩ | ⟨x, rfl⟩ | ⟨xs, rfl, hxs⟩
        · simp_wf; exact no rfl _ rfl
        · simp_wf; exact no rfl _ rfl
        · simp_wf; exact no rfl _ rfl
        simp_wf
        refine xite_mk (fun g1 => ?_) (fun g1 => ?_)
        · have g1 := of_decide_eq_true g1
          simp_wf
          refine no ?_ _ rfl
          simp only [rowB]
          rw [decide_eq_false (show ¬ 1 ≤ (xs.length : Int) by omega)]; rfl
        have g1 := of_decide_eq_false g1
        simp_wf
        refine xite_mk (fun g2 => ?_) (fun g2 => ?_)
        · have g2 := of_decide_eq_true g2
          simp_wf
          refine no ?_ _ rfl
          simp only [rowB]
          rw [decide_eq_false (show ¬ (xs.length : Int) ≤ 12 by omega), Bool.and_false]
        have g2 := of_decide_eq_false g2
        nomatch ba
        refine lc_mapX hΦ (l := xs) (g := fun x => .int (cntD m x : Nat)) (by simp; omega) rfl (fun x hx' => ?_) ?_
        · bv_omega
          refine xK_count hC (hxs x hx') ⟨by omega, by omega, by omega⟩ ?_
          rw [hm2]
          exact ⟨rfl, rfl⟩
        simp_wf
        rw [show xs.map (fun x => D.int (cntD m x : Nat)) = (xs.map fun x => ((cntD m x : Nat) : Int)).map .int by simp, ints_map]
        simp_wf
        rw [sum_cnt]
        refine fin_int q ?_
        rw [if_pos, kids_both]
        · omega
        · simp only [rowB]
          rw [decide_eq_true (show 1 ≤ (xs.length : Int) by omega), decide_eq_true (show (xs.length : Int) ≤ 12 by omega)]; rfl
      by_cases k2 : k = "among"
      · subst k2
        rw [inAmong]
        nomatch l22
        rw [formB_str, if_neg k1, if_pos rfl] at q no
        replace q : Q (.int ((if (rowB x 1 && amongB x) = true then 1 + ((kidsD (.tup [.str "among", x])).map (cntD m)).sum else 1000 : Nat) : Int)) st := q
        replace no : (rowB x 1 && amongB x) = false → ∀ s, s = st → MI.Fin st.length Q (.int 1000) s := no
        rcases pv_cases hx1 with rfl | ⟨i, rfl⟩ | ⟨x, rfl⟩ | ⟨xs, rfl, hxs⟩
        · simp_wf; exact no rfl _ rfl
        · simp_wf; exact no rfl _ rfl
        · simp_wf; exact no rfl _ rfl
        simp_wf
        refine xite_mk (fun g1 => ?_) (fun g1 => ?_)
        · have g1 := of_decide_eq_true g1
          simp_wf
          refine no ?_ _ rfl
          simp only [rowB]
          rw [decide_eq_false (show ¬ 1 ≤ (xs.length : Int) by omega)]; rfl
        have g1 := of_decide_eq_false g1
        simp_wf
        refine xite_mk (fun g2 => ?_) (fun g2 => ?_)
        · have g2 := of_decide_eq_true g2
          simp_wf
          refine no ?_ _ rfl
          simp only [rowB]
          rw [decide_eq_false (show ¬ (xs.length : Int) ≤ 12 by omega), Bool.and_false]; rfl
        have g2 := of_decide_eq_false g2
        have hrow : rowB (.tup xs) 1 = true := by
          simp only [rowB]
          rw [decide_eq_true (show 1 ≤ (xs.length : Int) by omega), decide_eq_true (show (xs.length : Int) ≤ 12 by omega)]; rfl
        rw [hrow, Bool.true_and] at q no
        nomatch aa
        refine lc_mapX hΦ (l := xs) (g := fun x => .bl (twoB x)) (by simp; omega) rfl (fun x hx' => ?_) ?_
        · simp_wf
          rcases pv_cases (hxs x hx') with rfl | ⟨i, rfl⟩ | ⟨x, rfl⟩ | ⟨zs, rfl, hzs⟩
          · simp_wf; exact ⟨rfl, rfl⟩
          · simp_wf; exact ⟨rfl, rfl⟩
          · simp_wf; exact ⟨rfl, rfl⟩
          · simp_wf
            by_cases hl2 : zs.length = 2
            · obtain ⟨a, b, rfl⟩ := len2 hl2
              nomatch l22
              exact ⟨rfl, rfl⟩
            · nomatch lg02 hl2
              exact ⟨rfl, by rw [twoB_no hl2]⟩
        simp_wf
        rw [show xs.map (fun x => D.bl (twoB x)) = (xs.map twoB).map .bl by simp, bls_map]
        simp_wf
        have hbad : ∀ x ∈ xs, wB x = false → amongB (.tup xs) = false := fun x hx e => by
          have : xs.all wB = false := List.all_eq_false.mpr ⟨x, hx, by rw [e]; decide⟩
          simp only [amongB, this, Bool.false_and]
        refine xite_mk (fun g3 => ?_) (fun g3 => ?_)
        · rw [Bool.not_eq_true', List.all_map] at g3
          obtain ⟨x, hx', e⟩ := List.all_eq_false.mp g3
          have e : twoB x = false := by simpa using e
          simp_wf
          exact no (hbad x hx' (wB_two e)) _ rfl
        rw [Bool.not_eq_false', List.all_map] at g3
        have g3 : ∀ x ∈ xs, twoB x = true := List.all_eq_true.mp g3
        simp_wf
        refine lc_mapX hΦ (l := xs) (g := fun x => .bl (wB x)) (by simp; omega) rfl (fun x hx' => ?_) ?_
        · obtain ⟨a, b, rfl⟩ := twoB_iff (g3 x hx')
          simp_wf
          refine xK_isint hW (pv_tup.mp (hxs _ hx') a (by simp)) ?_
          exact ⟨rfl, rfl⟩
        simp_wf
        rw [show xs.map (fun x => D.bl (wB x)) = (xs.map wB).map .bl by simp, bls_map]
        simp_wf
        refine xite_mk (fun g4 => ?_) (fun g4 => ?_)
        · rw [Bool.not_eq_true', List.all_map] at g4
          obtain ⟨x, hx', e⟩ := List.all_eq_false.mp g4
          have e : wB x = false := by simpa using e
          simp_wf
          exact no (hbad x hx' e) _ rfl
        rw [Bool.not_eq_false', List.all_map] at g4
        have g4 : ∀ x ∈ xs, wB x = true := List.all_eq_true.mp g4
        have g5 : amongB (.tup xs) = decide (0 < (xs.map fun x => intD (fstD x)).sum) := by
          show (xs.all wB && decide (0 < sumS fstD (.tup xs))) = _
          rw [List.all_eq_true.mpr g4, Bool.true_and]; rfl
        have g6 := sum_pos g4
        simp_wf
        refine lc_mapX hΦ (l := xs) (g := fstD) (by simp; omega) rfl (fun x hx' => ?_) ?_
        · obtain ⟨a, b, rfl⟩ := twoB_iff (g3 x hx')
          simp_wf
          exact ⟨rfl, rfl⟩
        nomatch sum_fst g4
        refine xite_mk (fun g7 => ?_) (fun g7 => ?_)
        · have g7 := eq_of_beq g7
          simp_wf
          exact no (by rw [g5]; exact decide_eq_false (by omega)) _ rfl
        have g7 : ¬ (xs.map fun x => intD (fstD x)).sum = 0 := beq_eq_false_iff_ne.mp g7
        simp_wf
        refine lc_mapX hΦ (l := xs) (g := sndD) (by simp; omega) rfl (fun x hx' => ?_) ?_
        · obtain ⟨a, b, rfl⟩ := twoB_iff (g3 x hx')
          simp_wf
          exact ⟨rfl, rfl⟩
        simp_wf
        refine lc_mapT hΦ (β := Unit) (l := xs) (enc := sndD) (g := fun x => .int (cntD m (sndD x) : Nat)) (by simp; omega) rfl (fun x hx' => ?_) ?_
        · obtain ⟨a, b, rfl⟩ := twoB_iff (g3 x hx')
          bv_omega
          refine xK_count hC (pv_tup.mp (hxs _ hx') b (by simp)) ⟨by omega, by omega, by omega⟩ ?_
          rw [hm2]
          exact ⟨rfl, rfl⟩
        simp_wf
        rw [show xs.map (fun x => D.int (cntD m (sndD x) : Nat)) = ((xs.map sndD).map fun x => ((cntD m x : Nat) : Int)).map .int by simp, ints_map]
        simp_wf
        rw [sum_cnt]
        refine fin_int q ?_
        rw [if_pos, kids_among]
        · omega
        · rw [g5]; exact decide_eq_true (by omega)
      · rw [inN k1 k2]
        rw [kids_simple k1 k2, formB_str, if_neg k1, if_neg k2] at q
        nomatch l22
        have s1 : ("sure" : Str) ≠ "order" := by decide +kernel
        have fin : ∀ b : Bool, simpB k [x] = b → MI.Fin st.length Q (.int (if b = true then 1 else 1000)) st := fun b e => by
          subst e
          refine fin_int q ?_
          split <;> rfl
        have e2 := simp2 (k := k) (x := x)
        refine xite_mk (fun g1 => ?_) (fun g1 => ?_)
        · have g1 := eq_of_beq g1
          subst g1
          rw [if_pos rfl] at e2
          simp_wf
          refine xK_isname hN hx1 ?_
          simp_wf
          refine xite_mk (fun g2 => ?_) (fun g2 => ?_)
          · bv_omega
            exact fin true (e2.trans g2)
          · nomatch bne_mk s1
            bv_omega
            exact fin false (e2.trans g2)
        rw [if_neg (bne_of g1)] at e2
        simp_wf
        refine xite_mk (fun g2 => ?_) (fun g2 => ?_)
        · rw [if_pos (eq_of_beq g2)] at e2
          simp_wf
          refine xK_arenames hA hx1 ?_
          bv_omega
          cases hn : namesB x with
          | true => simp_wf; exact fin true (e2.trans hn)
          | false => simp_wf; exact fin false (e2.trans hn)
        rw [if_neg (bne_of g2)] at e2
        bv_omega
        exact fin false e2
    | [k0, x, y], hp, hx, q, no =>
      have hx1 := hx x (by simp)
      have hx2 := hx y (by simp)
      simp_wf
      rw [show decide (((0 + 1 + 1 + 1 : Nat) : Int) < 2) = false by decide]
      simp_wf
      rw [show decide ((3 : Int) < ((0 + 1 + 1 + 1 : Nat) : Int)) = false by decide]
      simp_wf
      rcases pv_cases (hx k0 (by simp)) with rfl | ⟨i, rfl⟩ | ⟨k, rfl⟩ | ⟨zs, rfl, hzs⟩
      · simp_wf; exact no (formB_nostr fun _ e => by cases e) _ rfl
      · simp_wf; exact no (formB_nostr fun _ e => by cases e) _ rfl
      rotate_left
      · simp_wf; exact no (formB_nostr fun _ e => by cases e) _ rfl
      bv_omega
      rw [formB_str] at no
      by_cases k1 : k = "both"
      · subst k1
        rw [inBoth]
        nomatch lg2
        exact no rfl _ rfl
      by_cases k2 : k = "among"
      · subst k2
        rw [inAmong]
        nomatch lg2
        exact no rfl _ rfl
      rw [inN k1 k2]
      rw [kids_simple k1 k2, formB_str, if_neg k1, if_neg k2] at q
      nomatch lg2
      have fin : ∀ b : Bool, simpB k [x, y] = b → MI.Fin st.length Q (.int (if b = true then 1 else 1000)) st := fun b e => by
        subst e
        refine fin_int q ?_
        split <;> rfl
      rw [simp3] at fin
      refine xand_mk (by omega) fun _ => ?_
      simp_wf
      refine xand_mk (by decide) fun _ => ?_
      rw [inTwo]
      refine xite_mk (fun g1 => ?_) (fun g1 => ?_)
      · rw [Bool.or_eq_true] at g1
        rw [if_pos (g1.imp eq_of_beq eq_of_beq)] at fin
        simp_wf
        refine xK_arenames hA hx2 ?_
        cases hn : namesB y with
        | false => bv_omega; exact fin false (by rw [hn]; rfl)
        | true =>
          obtain ⟨xs, rfl⟩ := namesB_tup hn
          simp_wf
          refine xK_isint hW hx1 ?_
          cases hi : isI x 0 (xs.length : Int) with
          | false => bv_omega; exact fin false (by rw [hn]; exact hi)
          | true => bv_omega; exact fin true (by rw [hn]; exact hi)
      rw [Bool.or_eq_false_iff] at g1
      rw [if_neg (fun h => h.elim (bne_of g1.1) (bne_of g1.2))] at fin
      simp_wf
      refine xite_mk (fun g2 => ?_) (fun g2 => ?_)
      · rw [if_pos (eq_of_beq g2)] at fin
        simp_wf
        refine xK_arenames hA hx2 ?_
        cases hn : namesB y with
        | false => bv_omega; exact fin false (by rw [hn]; rfl)
        | true =>
          simp_wf
          refine xK_isint hW hx1 ?_
          cases hi : isI x 0 12 with
          | false => bv_omega; exact fin false (by rw [hn]; exact hi)
          | true => bv_omega; exact fin true (by rw [hn]; exact hi)
      rw [if_neg (bne_of g2)] at fin
      simp_wf
      refine xite_mk (fun g3 => ?_) (fun g3 => ?_)
      · rw [if_pos (eq_of_beq g3)] at fin
        simp_wf
        refine xK_arepairs hP hx2 (by decide) ?_
        cases hn : pairsB y 1 100 5 with
        | false => bv_omega; exact fin false (by rw [hn]; rfl)
        | true =>
          obtain ⟨xs, rfl⟩ := pairsB_tup hn
          simp_wf
          refine xK_isint hW hx1 ?_
          cases hi : isI x 0 (xs.length : Int) with
          | false => bv_omega; exact fin false (by rw [hn]; exact hi)
          | true => bv_omega; exact fin true (by rw [hn]; exact hi)
      rw [if_neg (bne_of g3)] at fin
      simp_wf
      refine xite_mk (fun g4 => ?_) (fun g4 => ?_)
      · rw [if_pos (eq_of_beq g4)] at fin
        simp_wf
        refine xK_arepairs hP hx2 (by decide) ?_
        cases hn : pairsB y 0 100000 12 with
        | false => bv_omega; exact fin false (by rw [hn]; rfl)
        | true =>
          rw [hn] at fin
          obtain ⟨xs, rfl⟩ := pairsB_tup hn
          obtain ⟨w1, w2, w3⟩ := pairsB_iff hn
          simp_wf
          refine xK_isint hW hx1 ?_
          cases hi : isI x 0 1000 with
          | false => bv_omega; exact fin false (by rw [hi]; simp)
          | true =>
            rw [hi] at fin
            simp_wf
            refine lc_mapX hΦ (l := xs) (g := sndD) (by simp; omega) rfl (fun x hx' => ?_) ?_
            · obtain ⟨a, b, rfl, _⟩ := pairB_iff (w3 x hx')
              simp_wf
              exact ⟨rfl, rfl⟩
            nomatch sum_snd w3
            cases hs : decide (0 < (xs.map fun x => intD (sndD x)).sum) with
            | false =>
              replace hs : decide (0 < sumS sndD (.tup xs)) = false := hs
              bv_omega; exact fin false (by rw [hs]; rfl)
            | true =>
              replace hs : decide (0 < sumS sndD (.tup xs)) = true := hs
              bv_omega; exact fin true (by rw [hs]; rfl)
      rw [if_neg (bne_of g4)] at fin
      bv_omega
      exact fin false rfl
  · exact h.elim

def b_llot (iC : Nat) : List SS := [.ret (.cmp .le (.call iC [(.var 0), (.con (.int 1))]) (.con (.int 30)))]
theorem o_llot {Φ : Fns} {iC : Nat} (hC : Φ iC = f_count 7) {ds : List D} {st : Sto} {Q : Kd} (h : f_islot ds st Q) : xBody Φ (b_llot iC) st.length Q ⟨⟩ (ds.map some ++ List.replicate (1 - 1) none) st := by
  unfold f_islot at h
  split at h
  · rename_i d
    obtain ⟨hp, q⟩ := h
    unfold b_llot
    simp_wf
    refine xK_count hC hp (by decide) ?_
    simp_wf
    refine fin_eq q ?_
    rw [show Int.toNat 6 = 6 by decide]
    exact decide_eq_decide.mpr (by omega)
  · exact h.elim

/-! lots that are drawn are lots -/
/-- bounds of a value -/
structure Bd (p s : Nat) (d : D) : Prop where
  pv : pvD d = true
  dp : dpD d ≤ p
  sz : szD d ≤ s
theorem Bd.mono {p s p' s' : Nat} {d : D} (h : Bd p s d) (h1 : p ≤ p') (h2 : s ≤ s') : Bd p' s' d := ⟨h.pv, Nat.le_trans h.dp h1, Nat.le_trans h.sz h2⟩
theorem bd_int {i : Int} : Bd 0 1 (.int i) := ⟨rfl, by simp [dpD], by simp [szD]⟩
theorem bd_str {k : Str} (h : (PyData.strOk k && decide (k.length ≤ 1000)) = true) : Bd 0 1 (.str k) := ⟨h, by simp [dpD], by simp [szD]⟩
theorem bd_nil : Bd 1 1 (.tup []) := ⟨rfl, by simp [dpD, dpDs], by simp [szD, szDs]⟩
theorem bd_one {p s : Nat} {a : D} (h : Bd p s a) : Bd (p + 1) (s + 1) (.tup [a]) :=
  ⟨pv_tup.mpr fun x hx => by simp at hx; subst hx; exact h.pv, by have := h.dp; simp only [dpD, dpDs]; omega, by have := h.sz; simp only [szD, szDs]; omega⟩
theorem bd_two {p s p' s' : Nat} {a b : D} (h : Bd p s a) (h' : Bd p' s' b) : Bd (max p p' + 1) (s + s' + 1) (.tup [a, b]) :=
  ⟨pv_tup.mpr fun x hx => by simp at hx; exact hx.elim (fun e => e ▸ h.pv) (fun e => e ▸ h'.pv), by have := h.dp; have := h'.dp; simp only [dpD, dpDs]; omega, by have := h.sz; have := h'.sz; simp only [szD, szDs]; omega⟩
theorem bd_three {p s p' s' p2 s2 : Nat} {a b c : D} (h : Bd p s a) (h' : Bd p' s' b) (h2 : Bd p2 s2 c) : Bd (max p (max p' p2) + 1) (s + s' + s2 + 1) (.tup [a, b, c]) :=
  ⟨pv_tup.mpr fun x hx => by simp at hx; exact hx.elim (fun e => e ▸ h.pv) (fun e => e.elim (fun e => e ▸ h'.pv) (fun e => e ▸ h2.pv)), by have := h.dp; have := h'.dp; have := h2.dp; simp only [dpD, dpDs]; omega, by have := h.sz; have := h'.sz; have := h2.sz; simp only [szD, szDs]; omega⟩
theorem szDs_le {s : Nat} : ∀ {xs : List D}, (∀ x ∈ xs, szD x ≤ s) → szDs xs ≤ s * xs.length
  | [], _ => Nat.le_refl _
  | x :: r, h => by
    have h1 := h x (by simp)
    have h2 := szDs_le (xs := r) fun y hy => h y (List.mem_cons_of_mem _ hy)
    simp only [szDs, List.length_cons, Nat.mul_add]; omega
theorem bd_row {p s n : Nat} {xs : List D} (h : ∀ x ∈ xs, Bd p s x) (hl : xs.length ≤ n) : Bd (p + 1) (s * n + 1) (.tup xs) := by
  have h1 : dpDs xs ≤ p := dpDs_le.mpr fun x hx => (h x hx).dp
  have h2 := szDs_le fun x hx => (h x hx).sz
  have h3 : s * xs.length ≤ s * n := Nat.mul_le_mul_left _ hl
  exact ⟨pv_tup.mpr fun x hx => (h x hx).pv, by simp only [dpD]; omega, by simp only [szD]; omega⟩
theorem strOk_signs {l : List Nat} (h : ∀ c ∈ l, c < 128) : PyData.strOk (ofL l) = true := by
  show (ofL l).cps.all _ = true
  unfold ofL
  simp only [List.all_toArray]
  rw [List.all_eq_true]
  intro c hc
  have := h c hc
  exact decide_eq_true (show c < 0x110000 by omega)
theorem NameOk.strOk {x : Str} (h : NameOk x) : PyData.strOk x = true := by
  obtain ⟨l, rfl, _, _, hc⟩ := h
  exact strOk_signs fun c h => SG_small c (hc c h)
theorem name_ok {x : Str} (h : NameOk x) : nameB (.str x) = true ∧ (PyData.strOk x && decide (x.length ≤ 1000)) = true := by
  obtain ⟨l, rfl, h1, h2, h3⟩ := h
  have hl := ofL_len l
  constructor
  · simp only [nameB, hl, Bool.and_eq_true, decide_eq_true_eq, List.all_eq_true]
    refine ⟨⟨by omega, by omega⟩, fun c hc => ?_⟩
    exact h3 c (by simpa [ofL] using hc)
  · rw [Bool.and_eq_true, decide_eq_true_eq, hl]
    exact ⟨strOk_signs fun c h => SG_small c (h3 c h), by omega⟩
theorem bd_name {x : Str} (h : NameOk x) : Bd 0 1 (.str x) := bd_str (name_ok h).2
theorem dist_nodup : ∀ (ks : List Str), ks.Nodup → ∀ i, i ≤ ks.length → distN ks i = i := by
  intro ks h i
  induction i with
  | zero => intro _; rfl
  | succ i ih =>
    intro hi
    have hk : ks[i]? = some (ks[i]'(by omega)) := List.getElem?_eq_getElem (by omega)
    unfold distN
    rw [hk]
    have : ks[i]'(by omega) ∉ ks.take i := fun hm => by
      obtain ⟨j, hj, e⟩ := List.mem_iff_getElem.mp hm
      rw [List.length_take] at hj
      rw [List.getElem_take] at e
      exact List.pairwise_iff_getElem.mp (List.nodup_iff_pairwise_ne.mp h) j i (by omega) (by omega) (by omega) e
    simp only [this, if_false, ih (by omega)]
theorem names_ok {ns : List Str} (h : NamesOk ns) : namesB (.tup (ns.map .str)) = true := by
  have h1 := h.l1
  have h2 := h.l12
  simp only [namesB, List.length_map, distB, strs_map, dist_nodup ns h.nd ns.length (Nat.le_refl _)]
  rw [decide_eq_true (show 1 ≤ (ns.length : Int) by omega), decide_eq_true (show (ns.length : Int) ≤ 12 by omega), Bool.true_and, Bool.true_and, beq_self_eq_true, Bool.and_true, List.all_eq_true]
  intro x hx
  obtain ⟨k, hk, rfl⟩ := List.mem_map.mp hx
  exact (name_ok (h.ok k hk)).1
theorem isI_mk {i lo hi : Int} (h1 : lo ≤ i) (h2 : i ≤ hi) : isI (.int i) lo hi = true := isI_iff.mpr ⟨i, rfl, h1, h2⟩
theorem prows_ok {rows : List (Str × Int)} {lo hi top : Int} (h : NamesOk (rows.map (·.1))) (hr : ∀ r ∈ rows, lo ≤ r.2 ∧ r.2 ≤ hi) (ht : (rows.length : Int) ≤ top) : pairsB (.tup (rows.map pairD)) lo hi top = true := by
  have h1 := h.l1
  rw [List.length_map] at h1
  simp only [pairsB, List.length_map]
  rw [decide_eq_true (show 1 ≤ (rows.length : Int) by omega), decide_eq_true ht, Bool.true_and, Bool.and_eq_true, Bool.true_and]
  constructor
  · rw [List.all_eq_true]
    intro x hx
    obtain ⟨r, hr', rfl⟩ := List.mem_map.mp hx
    exact isI_mk (hr r hr').1 (hr r hr').2
  · have := names_ok h
    rw [List.map_map] at this ⊢
    exact this
theorem sum_pairs (rows : List (Str × Int)) : sumS sndD (.tup (rows.map pairD)) = (rows.map (·.2)).sum := by
  show ((rows.map pairD).map fun x => intD (sndD x)).sum = _
  rw [List.map_map]; rfl
def isBoth : Lot → Bool
  | .both _ => true
  | .among _ => true
  | _ => false
theorem form_lot : ∀ l : Lot, LotOk l → formB l.d = true
  | .sure x, h => by
    simp only [LotOk] at h
    simp only [Lot.d]
    rw [formB_str, if_neg (by decide +kernel), if_neg (by decide +kernel), simp2, if_pos rfl]
    exact (name_ok h).1
  | .order ns, h => by
    simp only [LotOk] at h
    simp only [Lot.d]
    rw [formB_str, if_neg (by decide +kernel), if_neg (by decide +kernel), simp2, if_neg (by decide +kernel), if_pos rfl]
    exact names_ok h
  | .draw s ns, h => by
    simp only [LotOk] at h
    simp only [Lot.d]
    rw [formB_str, if_neg (by decide +kernel), if_neg (by decide +kernel), simp3, if_pos (.inl rfl), names_ok h.1]
    exact isI_mk h.2.1 (by simp only [lenT, List.length_map]; exact h.2.2)
  | .set s ns, h => by
    simp only [LotOk] at h
    simp only [Lot.d]
    rw [formB_str, if_neg (by decide +kernel), if_neg (by decide +kernel), simp3, if_pos (.inr rfl), names_ok h.1]
    exact isI_mk h.2.1 (by simp only [lenT, List.length_map]; exact h.2.2)
  | .again s ns, h => by
    simp only [LotOk] at h
    simp only [Lot.d]
    rw [formB_str, if_neg (by decide +kernel), if_neg (by decide +kernel), simp3, if_neg (by decide +kernel), if_pos rfl, names_ok h.1]
    exact isI_mk h.2.1 h.2.2
  | .prizes s rows, h => by
    simp only [LotOk] at h
    simp only [Lot.d]
    rw [formB_str, if_neg (by decide +kernel), if_neg (by decide +kernel), simp3, if_neg (by decide +kernel), if_neg (by decide +kernel), if_pos rfl, prows_ok h.1 h.2.2.2.2 (by omega)]
    exact isI_mk h.2.2.1 (by simp only [lenT, List.length_map]; exact h.2.2.2.1)
  | .seats s rows, h => by
    simp only [LotOk] at h
    have hl := h.1.l12
    rw [List.length_map] at hl
    simp only [Lot.d]
    rw [formB_str, if_neg (by decide +kernel), if_neg (by decide +kernel), simp3, if_neg (by decide +kernel), if_neg (by decide +kernel), if_neg (by decide +kernel), if_pos rfl, prows_ok h.1 h.2.2.2.2 (by omega), sum_pairs, decide_eq_true h.2.2.2.1]
    exact isI_mk h.2.1 h.2.2.1
  | .both ls, h => by
    simp only [LotOk] at h
    simp only [Lot.d]
    rw [formB_str, if_pos rfl]
    show (true && (decide (1 ≤ ((dLots ls).length : Int)) && decide (((dLots ls).length : Int) ≤ 12))) = true
    rw [dLots_eq, List.length_map, decide_eq_true (by omega), decide_eq_true (by omega)]; rfl
  | .among rows, h => by
    simp only [LotOk] at h
    obtain ⟨⟨h1, h2, h3, h4⟩, h5⟩ := h
    simp only [Lot.d]
    rw [formB_str, if_neg (by decide +kernel), if_pos rfl]
    show (true && ((decide (1 ≤ ((dRows rows).length : Int)) && decide (((dRows rows).length : Int) ≤ 12)) && ((dRows rows).all wB && decide (0 < ((dRows rows).map fun x => intD (fstD x)).sum)))) = true
    rw [dRows_eq, List.length_map, decide_eq_true (show 1 ≤ (rows.length : Int) by omega), decide_eq_true (show (rows.length : Int) ≤ 12 by omega), List.map_map]
    rw [show ((fun x => intD (fstD x)) ∘ fun r : Int × Lot => D.tup [.int r.1, r.2.d]) = (·.1) from rfl, decide_eq_true h3, Bool.and_true, Bool.and_true, Bool.true_and]
    refine List.all_eq_true.mpr fun x hx => ?_
    obtain ⟨r, hr, rfl⟩ := List.mem_map.mp hx
    exact isI_mk (h4 r hr).1 (h4 r hr).2
theorem kids_lot : ∀ l : Lot, kidsD l.d = match l with
    | .both ls => ls.map Lot.d
    | .among rows => rows.map fun r => r.2.d
    | _ => []
  | .both ls => by simp only [Lot.d]; rw [kids_both, dLots_eq]
  | .among rows => by simp only [Lot.d]; rw [kids_among, dRows_eq, List.map_map]; rfl
  | .sure x => rfl
  | .order ns => by simp only [Lot.d]; exact kids_simple (by decide +kernel) (by decide +kernel)
  | .draw s ns => by simp only [Lot.d]; exact kids_simple (by decide +kernel) (by decide +kernel)
  | .set s ns => by simp only [Lot.d]; exact kids_simple (by decide +kernel) (by decide +kernel)
  | .again s ns => by simp only [Lot.d]; exact kids_simple (by decide +kernel) (by decide +kernel)
  | .prizes s rows => by simp only [Lot.d]; exact kids_simple (by decide +kernel) (by decide +kernel)
  | .seats s rows => by simp only [Lot.d]; exact kids_simple (by decide +kernel) (by decide +kernel)
theorem cnt_lot : ∀ (m : Nat) (l : Lot), LotOk l → l.dep ≤ m → cntD m l.d = l.cnt := by
  intro m
  induction m with
  | zero =>
    intro l _ hd
    have : 1 ≤ l.dep := by cases l <;> simp [Lot.dep]
    omega
  | succ m ih =>
    intro l hl hd
    rw [cntD, if_pos (form_lot l hl), kids_lot]
    cases l with
    | both ls =>
      simp only [LotOk] at hl
      simp only [Lot.dep] at hd
      have hd' := depLots_le.mp (show depLots ls ≤ m by omega)
      have hl' := lotsOk_iff.mp hl.2
      have : ∀ ls : List Lot, (∀ l ∈ ls, LotOk l ∧ l.dep ≤ m) → ((ls.map Lot.d).map (cntD m)).sum = cntLs ls := by
        intro ls
        induction ls with
        | nil => intro _; rfl
        | cons a r ih2 =>
          intro h
          simp only [List.map_cons, List.sum_cons, cntLs]
          rw [ih a (h a (by simp)).1 (h a (by simp)).2, ih2 fun l hl => h l (List.mem_cons_of_mem _ hl)]
      simp only [Lot.cnt]
      rw [this ls fun l h => ⟨hl' l h, hd' l h⟩]; omega
    | among rows =>
      simp only [LotOk] at hl
      simp only [Lot.dep] at hd
      have hd' := depRows_le.mp (show depRows rows ≤ m by omega)
      have hl' := rowsOk_iff.mp hl.2
      have : ∀ rows : List (Int × Lot), (∀ r ∈ rows, LotOk r.2 ∧ r.2.dep ≤ m) → ((rows.map fun r => r.2.d).map (cntD m)).sum = cntRs rows := by
        intro rows
        induction rows with
        | nil => intro _; rfl
        | cons a r ih2 =>
          intro h
          obtain ⟨w, a⟩ := a
          simp only [List.map_cons, List.sum_cons, cntRs]
          rw [ih a (h (w, a) (by simp)).1 (h (w, a) (by simp)).2, ih2 fun l hl => h l (List.mem_cons_of_mem _ hl)]
      simp only [Lot.cnt]
      rw [this rows fun l h => ⟨hl' l h, hd' l h⟩]; omega
    | _ => rfl
theorem szDs_lots : ∀ {ls : List Lot}, (∀ l ∈ ls, szD l.d ≤ 25 * l.cnt) → szDs (ls.map Lot.d) ≤ 25 * cntLs ls
  | [], _ => by simp [szDs]
  | l :: r, h => by
    have h1 := h l (by simp)
    have h2 := szDs_lots (ls := r) fun y hy => h y (List.mem_cons_of_mem _ hy)
    simp only [List.map_cons, szDs, cntLs]; omega
theorem szDs_rowsL : ∀ {rows : List (Int × Lot)}, (∀ r ∈ rows, szD r.2.d ≤ 25 * r.2.cnt) → szDs (rows.map fun r => D.tup [.int r.1, r.2.d]) ≤ 25 * cntRs rows + 2 * rows.length
  | [], _ => by simp [szDs]
  | (w, l) :: r, h => by
    have h1 := h (w, l) (by simp)
    have h2 := szDs_rowsL (rows := r) fun y hy => h y (List.mem_cons_of_mem _ hy)
    simp only [List.map_cons, szDs, szD, cntRs, List.length_cons]
    simp only at h1
    omega
theorem bd_names {ns : List Str} (h : NamesOk ns) (h6 : ns.length ≤ 6) : Bd 1 7 (.tup (ns.map .str)) :=
  bd_row (p := 0) (s := 1) (fun x hx => by obtain ⟨k, hk, rfl⟩ := List.mem_map.mp hx; exact bd_name (h.ok k hk)) (by rw [List.length_map]; exact h6)
theorem bd_pairs {rows : List (Str × Int)} (h : NamesOk (rows.map (·.1))) (h6 : rows.length ≤ 6) : Bd 2 19 (.tup (rows.map pairD)) := by
  have hb : ∀ x ∈ rows.map pairD, Bd 1 3 x := fun x hx => by
    obtain ⟨r, hr, rfl⟩ := List.mem_map.mp hx
    exact bd_two (bd_name (h.ok r.1 (List.mem_map_of_mem (f := fun r : Str × Int => r.1) hr))) (bd_int (i := r.2))
  exact bd_row hb (by rw [List.length_map]; exact h6)
theorem bd_lot : ∀ (m : Nat) (l : Lot), LotOk l → Sm l → l.dep ≤ m → Bd (3 * m) (25 * l.cnt) l.d := by
  intro m
  induction m with
  | zero =>
    intro l _ _ hd
    have : 1 ≤ l.dep := by cases l <;> simp [Lot.dep]
    omega
  | succ m ih =>
    intro l hl hs hd
    cases l with
    | sure x =>
      simp only [LotOk] at hl
      simp only [Lot.d, Lot.cnt]
      exact (bd_two (bd_str (by decide +kernel)) (bd_name hl)).mono (by omega) (by omega)
    | order ns =>
      simp only [LotOk] at hl
      simp only [Sm] at hs
      simp only [Lot.d, Lot.cnt]
      exact (bd_two (bd_str (by decide +kernel)) (bd_names hl hs)).mono (by omega) (by omega)
    | draw s ns =>
      simp only [LotOk] at hl
      simp only [Sm] at hs
      simp only [Lot.d, Lot.cnt]
      exact (bd_three (bd_str (by decide +kernel)) bd_int (bd_names hl.1 hs)).mono (by omega) (by omega)
    | set s ns =>
      simp only [LotOk] at hl
      simp only [Sm] at hs
      simp only [Lot.d, Lot.cnt]
      exact (bd_three (bd_str (by decide +kernel)) bd_int (bd_names hl.1 hs)).mono (by omega) (by omega)
    | again s ns =>
      simp only [LotOk] at hl
      simp only [Sm] at hs
      simp only [Lot.d, Lot.cnt]
      exact (bd_three (bd_str (by decide +kernel)) bd_int (bd_names hl.1 hs.1)).mono (by omega) (by omega)
    | prizes s rows =>
      simp only [LotOk] at hl
      simp only [Lot.d, Lot.cnt]
      exact (bd_three (bd_str (by decide +kernel)) bd_int (bd_pairs hl.1 (by omega))).mono (by omega) (by omega)
    | seats s rows =>
      simp only [LotOk] at hl
      simp only [Sm] at hs
      simp only [Lot.d, Lot.cnt]
      exact (bd_three (bd_str (by decide +kernel)) bd_int (bd_pairs hl.1 hs.1)).mono (by omega) (by omega)
    | both ls =>
      simp only [LotOk] at hl
      simp only [Sm] at hs
      simp only [Lot.dep] at hd
      have hd' := depLots_le.mp (show depLots ls ≤ m by omega)
      have hl' := lotsOk_iff.mp hl.2
      have hs' := smL_iff.mp hs.2
      have hb : ∀ l ∈ ls, Bd (3 * m) (25 * l.cnt) l.d := fun l h => ih l (hl' l h) (hs' l h) (hd' l h)
      simp only [Lot.d, Lot.cnt]
      rw [dLots_eq]
      have hz := szDs_lots fun l h => (hb l h).sz
      have hp : dpDs (ls.map Lot.d) ≤ 3 * m := dpDs_le.mpr fun x hx => by
        obtain ⟨l, h, rfl⟩ := List.mem_map.mp hx
        exact (hb l h).dp
      have hin : Bd (3 * m + 1) (25 * cntLs ls + 1) (.tup (ls.map Lot.d)) := ⟨pv_tup.mpr fun x hx => by
        obtain ⟨l, h, rfl⟩ := List.mem_map.mp hx
        exact (hb l h).pv, by simp only [dpD]; omega, by simp only [szD]; omega⟩
      exact (bd_two (bd_str (by decide +kernel)) hin).mono (by omega) (by omega)
    | among rows =>
      simp only [LotOk] at hl
      simp only [Sm] at hs
      simp only [Lot.dep] at hd
      have hd' := depRows_le.mp (show depRows rows ≤ m by omega)
      have hl' := rowsOk_iff.mp hl.2
      have hs' := smR_iff.mp hs.2
      have hb : ∀ r ∈ rows, Bd (3 * m) (25 * r.2.cnt) r.2.d := fun r h => ih r.2 (hl' r h) (hs' r h) (hd' r h)
      simp only [Lot.d, Lot.cnt]
      rw [dRows_eq]
      have hz := szDs_rowsL fun r h => (hb r h).sz
      have hp : dpDs (rows.map fun r => D.tup [.int r.1, r.2.d]) ≤ 3 * m + 1 := dpDs_le.mpr fun x hx => by
        obtain ⟨r, h, rfl⟩ := List.mem_map.mp hx
        exact Nat.le_trans (bd_two (bd_int (i := r.1)) (hb r h)).dp (by omega)
      have hin : Bd (3 * m + 2) (25 * cntRs rows + 13) (.tup (rows.map fun r => D.tup [.int r.1, r.2.d])) := ⟨pv_tup.mpr fun x hx => by
        obtain ⟨r, h, rfl⟩ := List.mem_map.mp hx
        exact (bd_two (bd_int (i := r.1)) (hb r h)).pv, by simp only [dpD]; omega, by simp only [szD]; omega⟩
      exact (bd_two (bd_str (by decide +kernel)) hin).mono (by omega) (by omega)

/-! another lot, or none -/
def b_other (iT iW : Nat) : List SS := [.set (.nm 2) (.call iW [(.var 0)]),
  .set (.nm 3) (.lst false [(.tup [(.con (.str "sure")), (.con (.str "abcdefgh"))]), (.tup [(.con (.str "sure")), (.con (.str "abcdefghi"))]), (.tup [(.con (.str "sure")), (.con (.str ""))]), (.tup [(.con (.str "sure")), (.con (.str "a-b"))]), (.tup [(.con (.str "order")), (.tup [])]), (.tup [(.con (.str "order")), (.tup [(.con (.str "a")), (.con (.str "a"))])])]),
  .set (.nm 3) (.bin .add false (.var 3) (.lst false [(.tup [(.con (.str "order")), (.blt .tuple false [(.var 2)])]), (.tup [(.con (.str "order")), (.bin .add false (.blt .tuple false [(.var 2)]) (.tup [(.con (.str "x_"))]))]), (.tup [(.con (.str "draw")), (.con (.int 13)), (.blt .tuple false [(.var 2)])]), (.tup [(.con (.str "draw")), (.con (.int 12)), (.blt .tuple false [(.var 2)])])])),
  .set (.nm 3) (.bin .add false (.var 3) (.lst false [(.tup [(.con (.str "set")), (.bin .sub false (.con (.int 0)) (.con (.int 1))), (.tup [(.con (.str "a"))])]), (.tup [(.con (.str "again")), (.con (.int 12)), (.tup [(.con (.str "a"))])]), (.tup [(.con (.str "again")), (.con (.int 13)), (.tup [(.con (.str "a"))])]), (.tup [(.con (.str "prizes")), (.con (.int 2)), (.tup [(.tup [(.con (.str "a")), (.con (.int 100))]), (.tup [(.con (.str "b")), (.con (.int 1))])])])])),
  .set (.nm 3) (.bin .add false (.var 3) (.lst false [(.tup [(.con (.str "prizes")), (.con (.int 1)), (.tup [(.tup [(.con (.str "a")), (.con (.int 101))])])]), (.tup [(.con (.str "prizes")), (.con (.int 1)), (.tup [(.tup [(.con (.str "a")), (.con (.int 0))])])]), (.tup [(.con (.str "prizes")), (.con (.int 0)), (.blt .tuple false [(.lc false (.tup [(.var 7), (.con (.int 1))]) (.nm 7) (.seq (.slc false (.var 2) none (some (.con (.int 5))))) none [7])])])])),
  .set (.nm 3) (.bin .add false (.var 3) (.lst false [(.tup [(.con (.str "prizes")), (.con (.int 0)), (.blt .tuple false [(.lc false (.tup [(.var 7), (.con (.int 1))]) (.nm 7) (.seq (.slc false (.var 2) none (some (.con (.int 6))))) none [7])])]), (.tup [(.con (.str "seats")), (.con (.int 1000)), (.tup [(.tup [(.con (.str "a")), (.con (.int 100000))]), (.tup [(.con (.str "b")), (.con (.int 0))])])]), (.tup [(.con (.str "seats")), (.con (.int 1001)), (.tup [(.tup [(.con (.str "a")), (.con (.int 1))])])])])),
  .set (.nm 3) (.bin .add false (.var 3) (.lst false [(.tup [(.con (.str "seats")), (.con (.int 1)), (.tup [(.tup [(.con (.str "a")), (.con (.int 0))])])]), (.tup [(.con (.str "seats")), (.con (.int 1)), (.tup [(.tup [(.con (.str "a")), (.con (.int 100001))])])]), (.tup [(.con (.str "among")), (.tup [(.tup [(.con (.int 0)), (.var 1)])])]), (.tup [(.con (.str "among")), (.tup [(.tup [(.con (.int 1000)), (.var 1)]), (.tup [(.con (.int 0)), (.var 1)])])]), (.tup [(.con (.str "among")), (.tup [(.tup [(.con (.int 1001)), (.var 1)])])])])),
  .set (.nm 3) (.bin .add false (.var 3) (.lst false [(.tup [(.con (.str "both")), (.tup [])]), (.tup [(.con (.str "both")), (.bin .mul false (.tup [(.var 1)]) (.con (.int 12)))]), (.tup [(.con (.str "both")), (.bin .mul false (.tup [(.var 1)]) (.con (.int 13)))]), (.tup [(.con (.str "both")), (.tup [(.tup [(.con (.str "both")), (.tup [(.var 1), (.var 1)])])])]), (.tup [(.con (.str "none")), (.var 1)]), (.tup [(.con (.str "sure")), (.con (.str "a")), (.con (.str "b"))]), (.tup [(.con (.str "order")), (.tup [(.con (.str "a"))]), (.con (.int 1))])])),
  .set (.nm 4) (.bin .add false (.blt .tuple false [(.var 2)]) (.tup [(.con (.str "x9y8z7w6"))])),
  .for_ (.nm 5) (.seq (.lst false [(.con (.str "set")), (.con (.str "again"))])) [.set (.nm 3) (.bin .add false (.var 3) (.lst false [(.tup [(.var 5), (.con (.int 2)), (.var 4)]), (.tup [(.var 5), (.con (.int 2)), (.slc false (.var 4) none (some (.con (.int 12))))])]))],
  .set (.nm 6) (.blt .tuple false [(.lc false (.tup [(.var 7), (.con (.int 1))]) (.nm 7) (.seq (.var 4)) none [7])]),
  .set (.nm 3) (.bin .add false (.var 3) (.lst false [(.tup [(.con (.str "seats")), (.con (.int 2)), (.var 6)]), (.tup [(.con (.str "seats")), (.con (.int 2)), (.slc false (.var 6) none (some (.con (.int 12))))]), (.tup [(.con (.str "among")), (.bin .mul false (.tup [(.tup [(.con (.int 1)), (.var 1)])]) (.con (.int 13)))]), (.tup [(.con (.str "among")), (.bin .mul false (.tup [(.tup [(.con (.int 1)), (.tup [(.con (.str "sure")), (.con (.str "a"))])])]) (.con (.int 12)))])])),
  .set (.nm 3) (.bin .add false (.var 3) (.lst false [(.tup [(.con (.str "both")), (.bin .mul false (.tup [(.tup [(.con (.str "sure")), (.con (.str "a"))])]) (.con (.int 13)))]), (.tup [(.con (.str "prizes")), (.con (.int 1)), (.slc false (.var 6) none (some (.con (.int 5))))]), (.tup [(.con (.str "prizes")), (.con (.int 1)), (.slc false (.var 6) none (some (.con (.int 6))))])])),
  .ret (.idx (.var 3) (.call iT [(.var 0), (.blt .len false [(.var 3)])]))]
def b_deep (iT iL : Nat) : List SS := [.set (.nm 1) (.idx (.lst false [(.tup [(.con (.str "both")), (.tup [(.tup [(.con (.str "sure")), (.con (.str "a"))])])]), (.tup [(.con (.int 1)), (.con (.int 2))]), (.tup [(.con (.str "sure"))])]) (.call iT [(.var 0), (.con (.int 3))])),
  .set (.nm 2) (.call iT [(.var 0), (.con (.int 3))]),
  .for_ (.nm 3) (.rng1 (.bin .add false (.con (.int 1500)) (.call iT [(.var 0), (.con (.int 500))]))) [.set (.nm 1) (.idx (.lst false [(.tup [(.con (.str "both")), (.tup [(.var 1)])]), (.tup [(.con (.int 1)), (.var 1)]), (.tup [(.con (.str "among")), (.tup [(.tup [(.con (.int 1)), (.var 1)])])])]) (.var 2))],
  .ret (.cmp .is_ (.call iL [(.var 1)]) (.con (.bl false)))]
theorem xat_mk {xs : List D} {r : Int} {Q : D → Prop} {u} (h0 : 0 ≤ r) (h1 : r < xs.length) (h : ∀ d ∈ xs, Q d) : xopt (atI xs r) Q u := by
  obtain ⟨d, hd, e⟩ := atI_in h0 h1
  rw [e]
  exact h d hd
def f_other : Fn := fun ds st Q => match ds with
  | [.loc 0, v] => ∃ c b rest, st = cellD c :: rest ∧ (c.ok b ∧ b < 2 ^ 58 ∧ Bd 12 750 v) ∧
      ∀ c' o, c'.ok (b + 30) → Bd 20 10500 o → Q o (cellD c' :: rest)
  | _ => False
theorem m_other : MonoFn f_other := fun vs st Q Q' h q => by
  unfold f_other at *
  split at q
  · obtain ⟨c, b, rest, h1, h2, q⟩ := q
    exact ⟨c, b, rest, h1, h2, fun c' o g1 g2 => h _ _ (q c' o g1 g2)⟩
  · exact q
theorem xK_other {Φ : Fns} {i : Nat} {c : Cell} {b : Nat} {rest : Sto} {v : D} {Q : Kd} {u} (hi : Φ i = f_other) (h1 : c.ok b) (h2 : b < 2 ^ 58) (h3 : Bd 12 750 v)
    (h : ∀ c' o, c'.ok (b + 30) → Bd 20 10500 o → Q o (cellD c' :: rest)) : xK Φ i [.loc 0, v] (cellD c :: rest) Q u := by
  unfold xK
  rw [hi]
  exact ⟨c, b, rest, rfl, ⟨h1, h2, h3⟩, h⟩
theorem bd_rep {p s n : Nat} {v : D} (h : Bd p s v) (hn : n ≤ 13) : Bd (p + 1) (s * 13 + 1) (.tup (List.replicate n [v]).flatten) :=
  bd_row (fun x hx => by
    obtain ⟨l, hl, hx⟩ := List.mem_flatten.mp hx
    rw [(List.mem_replicate.mp hl).2] at hx
    simp at hx; subst hx; exact h) (by rw [List.length_flatten, List.map_replicate, List.sum_replicate_nat]; simpa using hn)
theorem o_other {Φ : Fns} (hΦ : ∀ f, MonoFn (Φ f)) {iT iW : Nat} (hT : Φ iT = f_take) (hW : Φ iW = f_words) {ds : List D} {st : Sto} {Q : Kd} (h : f_other ds st Q) :
    xBody Φ (b_other iT iW) st.length Q ⟨⟩ (ds.map some ++ List.replicate (8 - 2) none) st := by
  unfold f_other at h
  split at h
  · rename_i v
    obtain ⟨c, b, rest, rfl, ⟨ok, hb, hv⟩, q⟩ := h
    have hz := sizeLine_ge
    unfold b_other
    simp_wf
    refine xK_words (c := c) (z := c.z) (rest := rest) hW ⟨ok, rfl⟩ (by omega) fun c1 ws ok1 wo => ?_
    replace ok1 := ok1.1
    obtain ⟨W, hWe⟩ : ∃ W, W = ws.map D.str := ⟨_, rfl⟩
    have hWl : W.length = 12 := by rw [hWe, List.length_map]; exact wo.len
    have hWb : ∀ x ∈ W, Bd 0 1 x := fun x hx => by
      rw [hWe] at hx
      obtain ⟨k, hk, rfl⟩ := List.mem_map.mp hx
      exact bd_name (wo.ok k hk)
    rw [← hWe]
    clear hWe
    bv_omega
    have hcl : ∀ (L : List D) lo hi, (cutD L lo hi).length ≤ L.length := fun L lo hi => cut_sub.length_le
    have c5 := hcl W none (some 5)
    have c6 := hcl W none (some 6)
    have w0 : Bd 1 13 (.tup W) := bd_row hWb (n := 12) (by omega)
    have hX : ∀ k : Str, (PyData.strOk k && decide (k.length ≤ 1000)) = true → ∀ x ∈ W ++ [.str k], Bd 0 1 x := fun k hk x hx => by
      rcases List.mem_append.mp hx with hx | hx
      · exact hWb x hx
      · simp at hx; subst hx; exact bd_str hk
    have w1 : Bd 1 14 (.tup (W ++ [.str "x_"])) := bd_row (hX _ (by decide +kernel)) (n := 13) (by simp; omega)
    have hX9 := hX "x9y8z7w6" (by decide +kernel)
    have hrow : ∀ L : List D, (∀ x ∈ L, Bd 0 1 x) → ∀ x ∈ L.map (fun x => D.tup [x, .int 1]), Bd 1 3 x := fun L hL x hx => by
      obtain ⟨y, hy, rfl⟩ := List.mem_map.mp hx
      exact bd_two (hL y hy) bd_int
    have w5 : Bd 2 40 (.tup ((cutD W none (some 5)).map fun x => D.tup [x, .int 1])) := bd_row (hrow _ fun x hx => hWb x (cut_mem hx)) (n := 13) (by rw [List.length_map]; omega)
    have w6 : Bd 2 40 (.tup ((cutD W none (some 6)).map fun x => D.tup [x, .int 1])) := bd_row (hrow _ fun x hx => hWb x (cut_mem hx)) (n := 13) (by rw [List.length_map]; omega)
    have m12 := bd_rep (n := 12) hv (by decide)
    have m13 := bd_rep (n := 13) hv (by decide)
    refine lc_mapX hΦ (l := cutD W none (some 5)) (g := fun x => .tup [x, .int 1]) (by simp; omega) rfl (fun x hx' => ?_) ?_
    · bv_omega
      exact ⟨rfl, rfl⟩
    bv_omega
    refine lc_mapX hΦ (l := cutD W none (some 6)) (g := fun x => .tup [x, .int 1]) (by simp; omega) rfl (fun x hx' => ?_) ?_
    · bv_omega
      exact ⟨rfl, rfl⟩
    bv_omega
    refine xand_mk (by simp) fun _ => ?_
    bv_omega
    have rep12 : ∀ l : List D, (List.replicate (Int.toNat 12) l).flatten = (List.replicate 12 l).flatten := fun l => rfl
    have rep13 : ∀ l : List D, (List.replicate (Int.toNat 13) l).flatten = (List.replicate 13 l).flatten := fun l => rfl
    nomatch rep12, rep13
    have w9 : Bd 1 14 (.tup (W ++ [.str "x9y8z7w6"])) := bd_row hX9 (n := 13) (by simp; omega)
    obtain ⟨X, hXe⟩ : ∃ X, X = W ++ [D.str "x9y8z7w6"] := ⟨_, rfl⟩
    rw [← hXe] at w9 hX9 ⊢
    have hXl : X.length = 13 := by rw [hXe, List.length_append, hWl]; rfl
    clear hXe
    have wc : Bd 1 14 (.tup (cutD X none (some 12))) := bd_row (fun x hx => hX9 x (cut_mem hx)) (n := 13) (by have := hcl X none (some 12); omega)
    refine for_ix hΦ [3, 5] (fun i vs s => ∃ L a, vs = [some (.lst L), a] ∧ s = cellD c1 :: rest ∧ L.length ≤ 40 + 2 * i ∧ ∀ d ∈ L, Bd 20 10500 d) ⟨_, _, rfl, rfl, by simp, ?_⟩ (fun i vs s _ h => rfl) ?_ ?_
    · simp only [List.forall_mem_cons]
      repeat' apply And.intro
      all_goals first
        | exact fun _ h => by cases h
        | (apply Bd.mono
           · repeat (first
             | assumption
             | exact bd_int
             | exact bd_nil
             | exact bd_str (by decide +kernel)
             | apply bd_two
             | apply bd_three
             | apply bd_one)
           all_goals omega)
    · rintro i x vs s hx ⟨L, a, rfl, rfl, hll, hL⟩
      obtain ⟨k, hk, rfl⟩ : ∃ k : Str, (PyData.strOk k && decide (k.length ≤ 1000)) = true ∧ x = .str k := by
        have := List.mem_of_getElem? hx
        simp at this
        rcases this with rfl | rfl
        · exact ⟨"set", by decide +kernel, rfl⟩
        · exact ⟨"again", by decide +kernel, rfl⟩
      have hi : i < 2 := by
        have := (List.getElem?_eq_some_iff.mp hx).1
        exact this
      have hkb := bd_str hk
      bv_omega
      refine ⟨[_, _], rfl, _, _, rfl, rfl, by rw [List.length_append]; simp; omega, fun d hd => ?_⟩
      rcases List.mem_append.mp hd with hd | hd
      · exact hL d hd
      · simp only [List.mem_cons, List.not_mem_nil, or_false] at hd
        rcases hd with rfl | rfl
        · (apply Bd.mono
           · repeat (first
             | assumption
             | exact bd_int
             | exact bd_nil
             | exact bd_str (by decide +kernel)
             | apply bd_two
             | apply bd_three
             | apply bd_one)
           all_goals omega)
        · (apply Bd.mono
           · repeat (first
             | assumption
             | exact bd_int
             | exact bd_nil
             | exact bd_str (by decide +kernel)
             | apply bd_two
             | apply bd_three
             | apply bd_one)
           all_goals omega)
    rintro vs s ⟨L, a, rfl, rfl, hll, hL⟩
    replace hll : L.length ≤ 44 := hll
    simp_wf
    refine lc_mapX hΦ (l := X) (g := fun x => .tup [x, .int 1]) (by simp; omega) rfl (fun x hx' => ?_) ?_
    · bv_omega
      exact ⟨rfl, rfl⟩
    obtain ⟨R, hRe⟩ : ∃ R, R = X.map (fun x => D.tup [x, .int 1]) := ⟨_, rfl⟩
    have hR := hrow X hX9
    rw [← hRe] at hR
    have hRl : R.length = 13 := by rw [hRe, List.length_map]; exact hXl
    simp_wf
    rw [← hRe]
    clear hRe
    have r0 : Bd 2 40 (.tup R) := bd_row hR (n := 13) (by omega)
    have rc : ∀ lo hi, Bd 2 40 (.tup (cutD R lo hi)) := fun lo hi => bd_row (fun x hx => hR x (cut_mem hx)) (n := 13) (by have := hcl R lo hi; omega)
    have rc12 := rc none (some 12)
    have rc5 := rc none (some 5)
    have rc6 := rc none (some 6)
    have hsa : Bd 1 3 (.tup [.str "sure", .str "a"]) := bd_two (bd_str (by decide +kernel)) (bd_str (by decide +kernel))
    have h1v : Bd 13 752 (.tup [.int 1, v]) := (bd_two bd_int hv).mono (by omega) (by omega)
    have h1s : Bd 2 5 (.tup [.int 1, .tup [.str "sure", .str "a"]]) := (bd_two bd_int hsa).mono (by omega) (by omega)
    have m13v := bd_rep (n := 13) h1v (by decide)
    have m12s := bd_rep (n := 12) h1s (by decide)
    have m13s := bd_rep (n := 13) hsa (by decide)
    bv_omega
    repeat
      refine xand_mk (by simp) fun _ => ?_
      bv_omega
    nomatch rep12, rep13
    refine tk hT ok1 (by omega) (by simp; omega) (by simp; omega) fun c2 r2 ok2 r20 r21 => ?_
    simp_wf
    refine xat_mk r20 (by simpa using r21) fun d hd => ?_
    refine fin_q (q c2 d (ok2.mono (by omega)) ?_)
    refine (List.mem_append.mp hd).elim (hL d) ?_
    · clear hd
      revert d
      simp only [List.forall_mem_cons]
      repeat' apply And.intro
      all_goals first
        | exact fun _ h => by cases h
        | (apply Bd.mono
           · repeat (first
             | assumption
             | exact bd_int
             | exact bd_nil
             | exact bd_str (by decide +kernel)
             | apply bd_two
             | apply bd_three
             | apply bd_one)
           all_goals omega)
  · exact h.elim

/-! a value of many storeys -/
theorem cnt_bad {d : D} (h : formB d = false) (m : Nat) : 30 < cntD m d := by
  cases m with
  | zero => simp [cntD]
  | succ m => rw [cntD, if_neg (by rw [h]; decide)]; decide
theorem cnt_wrap {d d' : D} {i : Nat} (h : ∀ m, m ≤ i → 30 < cntD m d) (hk : kidsD d' = [d]) : ∀ m, m ≤ i + 1 → 30 < cntD m d' := fun m hm => by
  cases m with
  | zero => simp [cntD]
  | succ m =>
    have := h m (by omega)
    rw [cntD, hk]
    split
    · simp; omega
    · decide
def f_deep : Fn := fun ds st Q => match ds with
  | [.loc 0] => ∃ c b rest, st = cellD c :: rest ∧ (c.ok b ∧ b < 2 ^ 58) ∧ ∀ c', Q (.bl true) (cellD c' :: rest)
  | _ => False
theorem m_deep : MonoFn f_deep := fun vs st Q Q' h q => by
  unfold f_deep at *
  split at q
  · obtain ⟨c, b, rest, h1, h2, q⟩ := q
    exact ⟨c, b, rest, h1, h2, fun c' => h _ _ (q c')⟩
  · exact q
theorem xK_deep {Φ : Fns} {i : Nat} {c : Cell} {b : Nat} {rest : Sto} {Q : Kd} {u} (hi : Φ i = f_deep) (h1 : c.ok b) (h2 : b < 2 ^ 58)
    (h : ∀ c', Q (.bl true) (cellD c' :: rest)) : xK Φ i [.loc 0] (cellD c :: rest) Q u := by
  unfold xK
  rw [hi]
  exact ⟨c, b, rest, rfl, ⟨h1, h2⟩, h⟩
theorem o_deep {Φ : Fns} (hΦ : ∀ f, MonoFn (Φ f)) {iT iL : Nat} (hT : Φ iT = f_take) (hL : Φ iL = f_islot) {ds : List D} {st : Sto} {Q : Kd} (h : f_deep ds st Q) :
    xBody Φ (b_deep iT iL) st.length Q ⟨⟩ (ds.map some ++ List.replicate (4 - 1) none) st := by
  unfold f_deep at h
  split at h
  · obtain ⟨c, b, rest, rfl, ⟨ok, hb⟩, q⟩ := h
    have hz := sizeLine_ge
    unfold b_deep
    bv_omega
    refine tk hT ok (by omega) (by omega) (by omega) fun c1 r1 ok1 r10 r11 => ?_
    simp_wf
    refine xat_mk r10 (by simp; omega) fun d0 hd0 => ?_
    have hp0 : pvD d0 = true := by
      simp only [List.mem_cons, List.not_mem_nil, or_false] at hd0
      rcases hd0 with rfl | rfl | rfl <;> decide +kernel
    simp_wf
    refine tk hT ok1 (by omega) (by omega) (by omega) fun c2 r2 ok2 r20 r21 => ?_
    simp_wf
    refine tk hT ok2 (by omega) (by omega) (by omega) fun c3 r3 ok3 r30 r31 => ?_
    bv_omega
    refine for_ix hΦ [1, 3] (fun i vs s => ∃ d a, vs = [some d, a] ∧ s = cellD c3 :: rest ∧ pvD d = true ∧ ∀ m, m ≤ i → 30 < cntD m d) ⟨_, _, rfl, rfl, hp0, fun m hm => by rw [Nat.le_zero.mp hm]; simp [cntD]⟩ (fun i vs s _ h => trivial) ?_ ?_
    · rintro i x vs s hx ⟨d, a, rfl, rfl, hp, hd⟩
      have hi : pvD (.int 1) = true := rfl
      have hp1 : pvD (.tup [.int 1, d]) = true := pv_tup.mpr fun y hy => by simp at hy; rcases hy with rfl | rfl <;> assumption
      bv_omega
      refine xat_mk r20 (by simp; omega) fun d' hd' => ?_
      simp_wf
      refine ⟨[_, _], rfl, d', _, rfl, rfl, ?_, ?_⟩
      · simp only [List.mem_cons, List.not_mem_nil, or_false] at hd'
        rcases hd' with rfl | rfl | rfl
        · refine pv_tup.mpr fun y hy => ?_
          simp at hy
          rcases hy with rfl | rfl
          · decide +kernel
          · exact pv_tup.mpr fun z hz => by simp at hz; subst hz; exact hp
        · exact hp1
        · refine pv_tup.mpr fun y hy => ?_
          simp at hy
          rcases hy with rfl | rfl
          · decide +kernel
          · exact pv_tup.mpr fun z hz => by simp at hz; subst hz; exact hp1
      · simp only [List.mem_cons, List.not_mem_nil, or_false] at hd'
        rcases hd' with rfl | rfl | rfl
        · exact cnt_wrap hd kids_both
        · exact fun m _ => cnt_bad (formB_nostr fun _ e => by cases e) m
        · exact cnt_wrap hd kids_among
    · rintro vs s ⟨d, a, rfl, rfl, hp, hd⟩
      simp_wf
      refine xK_islot hL hp ?_
      have := hd 6 (by rw [rngL_len]; omega)
      rw [decide_eq_false (by omega)]
      simp_wf
      exact fin_q (q c3)
  · exact h.elim

def topS (i : Nat) : Stmt := PySem.Challenge.pw_sortes_k30_lots.main.body.getD i (.Pass ⟨0, 0, 0, 0⟩)
abbrev s_q_is_integer : Stmt := topS 6
def G_q_is_integer : Gam := ⟨["n", "least", "most"], defScope s_q_is_integer, fun _ => true, [], ["isinstance", "int", "bool"], []⟩
theorem sc_q_is_integer : FnScope ["n", "least", "most"] ["n", "least", "most"] (defScope s_q_is_integer) := ⟨rfl, rfl, rfl, by decide +kernel, rfl, by decide +kernel, by decide +kernel⟩
def p_q_is_integer : List SS := b_isint
theorem c_q_is_integer : cSs 60 G_q_is_integer (defBody s_q_is_integer) = some p_q_is_integer := rfl
abbrev s_q_is_name : Stmt := topS 7
def G_q_is_name : Gam := ⟨["x", "character"], defScope s_q_is_name, fun _ => true, [("MOST_CHARACTERS", .con (.int 8)), ("CHARACTERS", .con (.str "abcdefghijklmnopqrstuvwxyzABCDEFGHIJKLMNOPQRSTUVWXYZ0123456789"))], ["all", "isinstance", "str", "len"], []⟩
theorem sc_q_is_name : FnScope ["x", "character"] ["x"] (defScope s_q_is_name) := ⟨rfl, rfl, rfl, by decide +kernel, rfl, by decide +kernel, by decide +kernel⟩
def p_q_is_name : List SS := b_isname
theorem c_q_is_name : cSs 60 G_q_is_name (defBody s_q_is_name) = some p_q_is_name := rfl
abbrev s_q_is_row : Stmt := topS 8
def G_q_is_row : Gam := ⟨["value", "least"], defScope s_q_is_row, fun _ => true, [("MOST_ENTRIES", .con (.int 12))], ["isinstance", "tuple", "len"], []⟩
theorem sc_q_is_row : FnScope ["value", "least"] ["value", "least"] (defScope s_q_is_row) := ⟨rfl, rfl, rfl, by decide +kernel, rfl, by decide +kernel, by decide +kernel⟩
def p_q_is_row : List SS := b_isrow
theorem c_q_is_row : cSs 60 G_q_is_row (defBody s_q_is_row) = some p_q_is_row := rfl
abbrev s_q_are_names : Stmt := topS 9
def G_q_are_names : Gam := ⟨["names", "x"], defScope s_q_are_names, fun _ => true, [("is_row", .fn 2 2), ("is_name", .fn 1 1)], ["all", "len"], []⟩
theorem sc_q_are_names : FnScope ["names", "x"] ["names"] (defScope s_q_are_names) := ⟨rfl, rfl, rfl, by decide +kernel, rfl, by decide +kernel, by decide +kernel⟩
def p_q_are_names : List SS := b_arenames 1 2
theorem c_q_are_names : cSs 60 G_q_are_names (defBody s_q_are_names) = some p_q_are_names := rfl
abbrev s_q_are_pairs : Stmt := topS 10
def G_q_are_pairs : Gam := ⟨["rows", "least", "most", "entries", "row"], defScope s_q_are_pairs, fun _ => true, [("are_names", .fn 3 1), ("is_row", .fn 2 2), ("is_integer", .fn 0 3)], ["all", "tuple", "len", "isinstance"], []⟩
theorem sc_q_are_pairs : FnScope ["rows", "least", "most", "entries", "row"] ["rows", "least", "most", "entries"] (defScope s_q_are_pairs) := ⟨rfl, rfl, rfl, by decide +kernel, rfl, by decide +kernel, by decide +kernel⟩
def p_q_are_pairs : List SS := b_arepairs 0 2 3
theorem c_q_are_pairs : cSs 60 G_q_are_pairs (defBody s_q_are_pairs) = some p_q_are_pairs := rfl
abbrev s_q_inner : Stmt := topS 11
def G_q_inner : Gam := ⟨["e", "_", "lot"], defScope s_q_inner, fun _ => true, [], ["list"], []⟩
theorem sc_q_inner : FnScope ["e", "_", "lot"] ["e"] (defScope s_q_inner) := ⟨rfl, rfl, rfl, by decide +kernel, rfl, by decide +kernel, by decide +kernel⟩
def p_q_inner : List SS := b_inner
theorem c_q_inner : cSs 60 G_q_inner (defBody s_q_inner) = some p_q_inner := rfl
abbrev s_q_is_simple : Stmt := topS 12
def G_q_is_simple : Gam := ⟨["value", "kind", "_", "votes"], defScope s_q_is_simple, fun _ => true, [("is_integer", .fn 0 3), ("is_name", .fn 1 1), ("are_names", .fn 3 1), ("are_pairs", .fn 4 4), ("MOST_ENTRIES", .con (.int 12))], ["len", "sum"], []⟩
theorem sc_q_is_simple : FnScope ["value", "kind", "_", "votes"] ["value"] (defScope s_q_is_simple) := ⟨rfl, rfl, rfl, by decide +kernel, rfl, by decide +kernel, by decide +kernel⟩
def p_q_is_simple : List SS := b_simple 0 1 3 4
theorem c_q_is_simple : cSs 60 G_q_is_simple (defBody s_q_is_simple) = some p_q_is_simple := rfl
abbrev s_q_has_form : Stmt := topS 13
def G_q_has_form : Gam := ⟨["value", "row", "weight", "_"], defScope s_q_has_form, fun _ => true, [("is_simple", .fn 6 1), ("is_row", .fn 2 2), ("is_integer", .fn 0 3)], ["sum", "isinstance", "tuple", "len", "str"], []⟩
theorem sc_q_has_form : FnScope ["value", "row", "weight", "_"] ["value"] (defScope s_q_has_form) := ⟨rfl, rfl, rfl, by decide +kernel, rfl, by decide +kernel, by decide +kernel⟩
def p_q_has_form : List SS := b_form 0 2 6
theorem c_q_has_form : cSs 60 G_q_has_form (defBody s_q_has_form) = some p_q_has_form := rfl
abbrev s_q_is_lot : Stmt := topS 14
def G_q_is_lot : Gam := ⟨["value", "count", "left", "one", "depth", "lot"], defScope s_q_is_lot, fun _ => true, [("has_form", .fn 7 1), ("inner", .fn 5 1), ("MOST_LOTS", .con (.int 30)), ("MOST_DEPTH", .con (.int 6))], [], [(59, 11, 23)]⟩
theorem sc_q_is_lot : FnScope ["value", "count", "left", "one", "depth", "lot"] ["value"] (defScope s_q_is_lot) := ⟨rfl, rfl, rfl, by decide +kernel, rfl, by decide +kernel, by decide +kernel⟩
def p_q_is_lot : List SS := b_islot 7 5
theorem c_q_is_lot : cSs 60 G_q_is_lot (defBody s_q_is_lot) = some p_q_is_lot := rfl
abbrev s_l_start : Stmt := topS 16
def G_l_start : Gam := ⟨["_law_script", "_law_cell"], defScope s_l_start, fun _ => true, [], ["int"], [(69, 11, 76)]⟩
theorem sc_l_start : FnScope ["_law_script", "_law_cell"] ["_law_script"] (defScope s_l_start) := ⟨rfl, rfl, rfl, by decide +kernel, rfl, by decide +kernel, by decide +kernel⟩
def p_l_start : List SS := b_start
theorem c_l_start : cSs 60 G_l_start (defBody s_l_start) = some p_l_start := rfl
abbrev s_l_fill : Stmt := topS 17
def G_l_fill : Gam := ⟨["_law_c", "_law_number"], defScope s_l_fill, fun _ => true, [], ["len", "int"], []⟩
theorem sc_l_fill : FnScope ["_law_c", "_law_number"] ["_law_c"] (defScope s_l_fill) := ⟨rfl, rfl, rfl, by decide +kernel, rfl, by decide +kernel, by decide +kernel⟩
def p_l_fill : List SS := b_fill
theorem c_l_fill : cSs 60 G_l_fill (defBody s_l_fill) = some p_l_fill := rfl
abbrev s_l_take : Stmt := topS 18
def G_l_take : Gam := ⟨["_law_c", "_law_many", "_law_digit"], defScope s_l_take, fun _ => true, [("_law_fill", .fn 10 1)], ["int"], []⟩
theorem sc_l_take : FnScope ["_law_c", "_law_many", "_law_digit"] ["_law_c", "_law_many"] (defScope s_l_take) := ⟨rfl, rfl, rfl, by decide +kernel, rfl, by decide +kernel, by decide +kernel⟩
def p_l_take : List SS := b_take 10
theorem c_l_take : cSs 60 G_l_take (defBody s_l_take) = some p_l_take := rfl
abbrev s_l_words : Stmt := topS 19
def G_l_words : Gam := ⟨["_law_c", "_law_signs", "_law_stem", "_law_start_here", "_law_cut", "_law_unlike", "_law_found", "_law_k", "_law_sign"], defScope s_l_words, fun _ => true, [("_law_take", .fn 11 2)], ["range", "len", "int"], [(96, 17, 19)]⟩
theorem sc_l_words : FnScope ["_law_c", "_law_signs", "_law_stem", "_law_start_here", "_law_cut", "_law_unlike", "_law_found", "_law_k", "_law_sign"] ["_law_c"] (defScope s_l_words) := ⟨rfl, rfl, rfl, by decide +kernel, rfl, by decide +kernel, by decide +kernel⟩
def p_l_words : List SS := b_words 11
theorem c_l_words : cSs 60 G_l_words (defBody s_l_words) = some p_l_words := rfl
abbrev s_l_plain : Stmt := topS 20
def G_l_plain : Gam := ⟨["_law_c", "_law_words_here", "_law_kind", "_law_many", "_law_names", "_law_most", "_law_rows", "_law_k", "_law_row"], defScope s_l_plain, fun _ => true, [("_law_take", .fn 11 2)], ["tuple", "min", "sum", "range"], [(120, 16, 146)]⟩
theorem sc_l_plain : FnScope ["_law_c", "_law_words_here", "_law_kind", "_law_many", "_law_names", "_law_most", "_law_rows", "_law_k", "_law_row"] ["_law_c", "_law_words_here"] (defScope s_l_plain) := ⟨rfl, rfl, rfl, by decide +kernel, rfl, by decide +kernel, by decide +kernel⟩
def p_l_plain : List SS := b_plain 11
theorem c_l_plain : cSs 60 G_l_plain (defBody s_l_plain) = some p_l_plain := rfl
abbrev s_l_lot : Stmt := topS 21
def G_l_lot : Gam := ⟨["_law_c", "_law_words_here", "_law_depth", "_law_kind", "_law_many", "_law_lots", "_law_weights", "_law_k"], defScope s_l_lot, fun _ => true, [("_law_take", .fn 11 2), ("_law_plain", .fn 13 2), ("_law_lot", .fn 14 3)], ["sum", "tuple", "range"], [(133, 19, 105)]⟩
theorem sc_l_lot : FnScope ["_law_c", "_law_words_here", "_law_depth", "_law_kind", "_law_many", "_law_lots", "_law_weights", "_law_k"] ["_law_c", "_law_words_here", "_law_depth"] (defScope s_l_lot) := ⟨rfl, rfl, rfl, by decide +kernel, rfl, by decide +kernel, by decide +kernel⟩
def p_l_lot : List SS := b_lot 11 13 14
theorem c_l_lot : cSs 60 G_l_lot (defBody s_l_lot) = some p_l_lot := rfl
abbrev s_l_drawn_lot : Stmt := topS 22
def G_l_drawn_lot : Gam := ⟨["_law_c"], defScope s_l_drawn_lot, fun _ => true, [("_law_lot", .fn 14 3), ("_law_words", .fn 12 1), ("_law_take", .fn 11 2)], [], []⟩
theorem sc_l_drawn_lot : FnScope ["_law_c"] ["_law_c"] (defScope s_l_drawn_lot) := ⟨rfl, rfl, rfl, by decide +kernel, rfl, by decide +kernel, by decide +kernel⟩
def p_l_drawn_lot : List SS := b_drawn 11 12 14
theorem c_l_drawn_lot : cSs 60 G_l_drawn_lot (defBody s_l_drawn_lot) = some p_l_drawn_lot := rfl
abbrev s_l_whole : Stmt := topS 23
def G_l_whole : Gam := ⟨["_law_n", "_law_least", "_law_most"], defScope s_l_whole, fun _ => true, [], ["isinstance", "int", "bool"], []⟩
theorem sc_l_whole : FnScope ["_law_n", "_law_least", "_law_most"] ["_law_n", "_law_least", "_law_most"] (defScope s_l_whole) := ⟨rfl, rfl, rfl, by decide +kernel, rfl, by decide +kernel, by decide +kernel⟩
def p_l_whole : List SS := b_whole
theorem c_l_whole : cSs 60 G_l_whole (defBody s_l_whole) = some p_l_whole := rfl
abbrev s_l_is_name : Stmt := topS 24
def G_l_is_name : Gam := ⟨["_law_x", "_law_signs", "_law_y"], defScope s_l_is_name, fun _ => true, [], ["isinstance", "str", "all", "len"], []⟩
theorem sc_l_is_name : FnScope ["_law_x", "_law_signs", "_law_y"] ["_law_x"] (defScope s_l_is_name) := ⟨rfl, rfl, rfl, by decide +kernel, rfl, by decide +kernel, by decide +kernel⟩
def p_l_is_name : List SS := b_lname
theorem c_l_is_name : cSs 60 G_l_is_name (defBody s_l_is_name) = some p_l_is_name := rfl
abbrev s_l_are_names : Stmt := topS 25
def G_l_are_names : Gam := ⟨["_law_row", "_law_x"], defScope s_l_are_names, fun _ => true, [("_law_is_name", .fn 17 1)], ["len", "isinstance", "tuple", "all", "set"], []⟩
theorem sc_l_are_names : FnScope ["_law_row", "_law_x"] ["_law_row"] (defScope s_l_are_names) := ⟨rfl, rfl, rfl, by decide +kernel, rfl, by decide +kernel, by decide +kernel⟩
def p_l_are_names : List SS := b_lnames 17
theorem c_l_are_names : cSs 60 G_l_are_names (defBody s_l_are_names) = some p_l_are_names := rfl
abbrev s_l_are_pairs : Stmt := topS 26
def G_l_are_pairs : Gam := ⟨["_law_rows", "_law_least", "_law_most", "_law_entries", "_law_row"], defScope s_l_are_pairs, fun _ => true, [("_law_are_names", .fn 18 1), ("_law_whole", .fn 16 3)], ["tuple", "isinstance", "len"], []⟩
theorem sc_l_are_pairs : FnScope ["_law_rows", "_law_least", "_law_most", "_law_entries", "_law_row"] ["_law_rows", "_law_least", "_law_most", "_law_entries"] (defScope s_l_are_pairs) := ⟨rfl, rfl, rfl, by decide +kernel, rfl, by decide +kernel, by decide +kernel⟩
def p_l_are_pairs : List SS := b_lpairs 16 18
theorem c_l_are_pairs : cSs 60 G_l_are_pairs (defBody s_l_are_pairs) = some p_l_are_pairs := rfl
abbrev s_l_count : Stmt := topS 27
def G_l_count : Gam := ⟨["_law_e", "_law_depth", "_law_kind", "_law_good", "_law_lots", "_law_row", "_law_lot_here"], defScope s_l_count, fun _ => true, [("_law_is_name", .fn 17 1), ("_law_are_names", .fn 18 1), ("_law_whole", .fn 16 3), ("_law_count", .fn 20 2), ("_law_are_pairs", .fn 19 4)], ["len", "int", "isinstance", "tuple", "str", "sum", "all"], []⟩
theorem sc_l_count : FnScope ["_law_e", "_law_depth", "_law_kind", "_law_good", "_law_lots", "_law_row", "_law_lot_here"] ["_law_e", "_law_depth"] (defScope s_l_count) := ⟨rfl, rfl, rfl, by decide +kernel, rfl, by decide +kernel, by decide +kernel⟩
def p_l_count : List SS := b_count 16 17 18 19 20
theorem c_l_count : cSs 60 G_l_count (defBody s_l_count) = some p_l_count := rfl
abbrev s_l_is_lot : Stmt := topS 28
def G_l_is_lot : Gam := ⟨["_law_e"], defScope s_l_is_lot, fun _ => true, [("_law_count", .fn 20 2)], [], []⟩
theorem sc_l_is_lot : FnScope ["_law_e"] ["_law_e"] (defScope s_l_is_lot) := ⟨rfl, rfl, rfl, by decide +kernel, rfl, by decide +kernel, by decide +kernel⟩
def p_l_is_lot : List SS := b_llot 20
theorem c_l_is_lot : cSs 60 G_l_is_lot (defBody s_l_is_lot) = some p_l_is_lot := rfl
abbrev s_l_nodes_of : Stmt := topS 29
def G_l_nodes_of : Gam := ⟨["_law_value", "_law_found", "_law_part"], defScope s_l_nodes_of, fun _ => true, [("_law_nodes_of", .fn 22 2)], ["isinstance", "tuple", "len"], []⟩
theorem sc_l_nodes_of : FnScope ["_law_value", "_law_found", "_law_part"] ["_law_value", "_law_found"] (defScope s_l_nodes_of) := ⟨rfl, rfl, rfl, by decide +kernel, rfl, by decide +kernel, by decide +kernel⟩
def p_l_nodes_of : List SS := b_nodes 22
theorem c_l_nodes_of : cSs 60 G_l_nodes_of (defBody s_l_nodes_of) = some p_l_nodes_of := rfl
abbrev s_l_changed : Stmt := topS 30
def G_l_changed : Gam := ⟨["_law_value", "_law_box", "_law_other_here", "_law_part"], defScope s_l_changed, fun _ => true, [("_law_changed", .fn 23 3)], ["tuple", "isinstance"], []⟩
theorem sc_l_changed : FnScope ["_law_value", "_law_box", "_law_other_here", "_law_part"] ["_law_value", "_law_box", "_law_other_here"] (defScope s_l_changed) := ⟨rfl, rfl, rfl, by decide +kernel, rfl, by decide +kernel, by decide +kernel⟩
def p_l_changed : List SS := b_changed 23
theorem c_l_changed : cSs 60 G_l_changed (defBody s_l_changed) = some p_l_changed := rfl
abbrev s_l_high : Stmt := topS 31
def G_l_high : Gam := ⟨["_law_value", "_law_level", "_law_high_here", "_law_count_here", "_law_deeper", "_law_one"], defScope s_l_high, fun _ => true, [], ["len", "isinstance", "tuple"], [(206, 22, 24)]⟩
theorem sc_l_high : FnScope ["_law_value", "_law_level", "_law_high_here", "_law_count_here", "_law_deeper", "_law_one"] ["_law_value"] (defScope s_l_high) := ⟨rfl, rfl, rfl, by decide +kernel, rfl, by decide +kernel, by decide +kernel⟩
def p_l_high : List SS := b_high
theorem c_l_high : cSs 60 G_l_high (defBody s_l_high) = some p_l_high := rfl
abbrev s_l_spoilt : Stmt := topS 32
def G_l_spoilt : Gam := ⟨["_law_c", "_law_value", "_law_found", "_law_at", "_law_one", "_law_other_here", "_law_changed_here"], defScope s_l_spoilt, fun _ => true, [("_law_nodes_of", .fn 22 2), ("_law_take", .fn 11 2), ("_law_changed", .fn 23 3), ("_law_high", .fn 24 1)], ["len", "isinstance", "tuple"], [(215, 43, 45), (221, 49, 62)]⟩
theorem sc_l_spoilt : FnScope ["_law_c", "_law_value", "_law_found", "_law_at", "_law_one", "_law_other_here", "_law_changed_here"] ["_law_c", "_law_value"] (defScope s_l_spoilt) := ⟨rfl, rfl, rfl, by decide +kernel, rfl, by decide +kernel, by decide +kernel⟩
def p_l_spoilt : List SS := b_spoilt 22 11 23 24
theorem c_l_spoilt : cSs 60 G_l_spoilt (defBody s_l_spoilt) = some p_l_spoilt := rfl
abbrev s_l_other : Stmt := topS 33
def G_l_other : Gam := ⟨["_law_c", "_law_e", "_law_words_here", "_law_rows", "_law_more", "_law_name", "_law_ones", "_law_x"], defScope s_l_other, fun _ => true, [("_law_words", .fn 12 1), ("_law_take", .fn 11 2)], ["tuple", "len"], []⟩
theorem sc_l_other : FnScope ["_law_c", "_law_e", "_law_words_here", "_law_rows", "_law_more", "_law_name", "_law_ones", "_law_x"] ["_law_c", "_law_e"] (defScope s_l_other) := ⟨rfl, rfl, rfl, by decide +kernel, rfl, by decide +kernel, by decide +kernel⟩
def p_l_other : List SS := b_other 11 12
theorem c_l_other : cSs 60 G_l_other (defBody s_l_other) = some p_l_other := rfl
abbrev s_l_deep : Stmt := topS 34
def G_l_deep : Gam := ⟨["_law_c", "_law_deep_here", "_law_kind", "_law_k"], defScope s_l_deep, fun _ => true, [("_law_take", .fn 11 2), ("is_lot", .fn 8 1)], ["range"], []⟩
theorem sc_l_deep : FnScope ["_law_c", "_law_deep_here", "_law_kind", "_law_k"] ["_law_c"] (defScope s_l_deep) := ⟨rfl, rfl, rfl, by decide +kernel, rfl, by decide +kernel, by decide +kernel⟩
def p_l_deep : List SS := b_deep 11 8
theorem c_l_deep : cSs 60 G_l_deep (defBody s_l_deep) = some p_l_deep := rfl
abbrev s_law : Stmt := topS 35
def G_law : Gam := ⟨["_law_script", "_law_c", "_law_e", "_law_k", "_law_other_here", "_law_j", "_law_told"], defScope s_law, fun _ => true, [("_law_start", .fn 9 1), ("_law_drawn_lot", .fn 15 1), ("_law_take", .fn 11 2), ("_law_deep", .fn 27 1), ("is_lot", .fn 8 1), ("_law_is_lot", .fn 21 1), ("_law_other", .fn 26 2), ("_law_spoilt", .fn 25 2)], ["range", "isinstance", "bool"], []⟩
theorem sc_law : FnScope ["_law_script", "_law_c", "_law_e", "_law_k", "_law_other_here", "_law_j", "_law_told"] ["_law_script"] (defScope s_law) := ⟨rfl, rfl, rfl, by decide +kernel, rfl, by decide +kernel, by decide +kernel⟩
def p_law : List SS := [.set (.nm 1) (.call 9 [(.var 0)]),
  .ite (.cmp .eq (.call 11 [(.var 1), (.con (.int 20))]) (.con (.int 0))) [.ret (.call 27 [(.var 1)])] [],
  .set (.nm 2) (.call 15 [(.var 1)]),
  .ite (.lor (.cmp .isnt (.call 8 [(.var 2)]) (.con (.bl true))) (.lnot (.val (.call 21 [(.var 2)])))) [.ret (.con (.bl false))] [],
  .for_ (.nm 3) (.rng1 (.con (.int 6))) [.set (.nm 4) (.var 2),
  .ite (.cmp .eq (.call 11 [(.var 1), (.con (.int 2))]) (.con (.int 0))) [.set (.nm 4) (.call 26 [(.var 1), (.var 2)]),
  .for_ (.nm 5) (.rng1 (.idx (.lst false [(.con (.int 0)), (.call 11 [(.var 1), (.con (.int 7))])]) (.call 11 [(.var 1), (.con (.int 2))]))) [.set (.nm 4) (.idx (.lst false [(.tup [(.con (.str "both")), (.tup [(.var 4)])]), (.tup [(.con (.str "among")), (.tup [(.tup [(.con (.int 1)), (.var 4)]), (.tup [(.con (.int 0)), (.var 2)])])])]) (.call 11 [(.var 1), (.con (.int 2))]))]] [],
  .for_ (.nm 5) (.rng1 (.idx (.lst false [(.con (.int 0)), (.con (.int 0)), (.con (.int 1)), (.con (.int 2))]) (.call 11 [(.var 1), (.con (.int 4))]))) [.set (.nm 4) (.call 25 [(.var 1), (.var 4)])],
  .set (.nm 6) (.call 8 [(.var 4)]),
  .ite (.lor (.lnot (.val (.blt .isBool false [(.var 6)]))) (.cmp .ne (.var 6) (.call 21 [(.var 4)]))) [.ret (.con (.bl false))] []],
  .ret (.con (.bl true))]
theorem c_law : cSs 60 G_law (defBody s_law) = some p_law := rfl
def PHI : Fns := fun i => match i with
  | 0 => f_isint
  | 1 => f_isname
  | 2 => f_isrow
  | 3 => f_arenames
  | 4 => f_arepairs
  | 5 => f_inner
  | 6 => f_simple
  | 7 => f_form
  | 8 => f_islot
  | 9 => f_start
  | 10 => f_fill
  | 11 => f_take
  | 12 => f_words
  | 13 => f_plain
  | 14 => (f_lot 4)
  | 15 => f_drawn
  | 16 => f_isint
  | 17 => f_isname
  | 18 => f_arenames
  | 19 => f_arepairs
  | 20 => (f_count 7)
  | 21 => f_islot
  | 22 => (f_nodes 200)
  | 23 => (f_changed 200)
  | 24 => f_high
  | 25 => (f_spoilt 200)
  | 26 => f_other
  | 27 => f_deep
  | 28 => f_law
  | _ => fun _ _ _ => False
theorem mono : ∀ f, MonoFn (PHI f) := fun f => by
  unfold PHI
  split
  · exact m_isint
  · exact m_isname
  · exact m_isrow
  · exact m_arenames
  · exact m_arepairs
  · exact m_inner
  · exact m_simple
  · exact m_form
  · exact m_islot
  · exact m_start
  · exact m_fill
  · exact m_take
  · exact m_words
  · exact m_plain
  · exact m_lot 4
  · exact m_drawn
  · exact m_isint
  · exact m_isname
  · exact m_arenames
  · exact m_arepairs
  · exact m_count 7
  · exact m_islot
  · exact m_nodes 200
  · exact m_changed 200
  · exact m_high
  · exact (m_spoilt 200)
  · exact m_other
  · exact m_deep
  · exact m_law
  · exact fun _ _ _ _ _ h => h
theorem o_law {ds : List D} {st : Sto} {Q : Kd} (h : f_law ds st Q) : xBody PHI p_law st.length Q ⟨⟩ (ds.map some ++ List.replicate (7 - 1) none) st := by
  obtain ⟨ns, rfl, rfl, hl, q⟩ := h
  have hz := sizeLine_ge
  unfold p_law
  simp_wf
  refine xK_start rfl hl ?_
  have ok0 : (⟨ns, 0, 0, 0, 20⟩ : Cell).ok 0 := ⟨hl, Int.le_refl _, Int.le_refl _, Int.le_refl _, Int.le_refl _⟩
  simp_wf
  refine tk rfl ok0 (by omega) (by omega) (by omega) fun c0 r0 okz r00 r01 => ?_
  simp_wf
  refine xite_mk (fun _ => ?_) (fun _ => ?_)
  · simp_wf
    refine xK_deep rfl okz (by decide) fun c' => ?_
    exact fin_q (q _)
  simp_wf
  refine xK_drawn rfl okz (by decide) fun c1 l ok1 lc lo ld ls => ?_
  have hB : Bd 12 750 l.d := (bd_lot 4 l lo ls ld).mono (by decide) (by omega)
  have hC : decide (cntD 6 l.d ≤ 30) = true := decide_eq_true (by rw [cnt_lot 6 l lo (by omega)]; exact lc)
  generalize l.d = v at hB hC ⊢
  simp_wf
  refine xK_islot rfl hB.pv ?_
  rw [hC]
  simp_wf
  refine xK_islot rfl hB.pv ?_
  rw [hC]
  bv_omega
  refine for_ix mono [3, 4, 5, 6] (fun i vs s => ∃ a b d e c', vs = [a, b, d, e] ∧ s = [cellD c'] ∧ c'.ok (50000 + 100 * i)) ⟨_, _, _, _, c1, rfl, rfl, ok1.mono (by omega)⟩ (fun i vs s _ h => trivial) ?_ ?_
  · rintro i x vs s hx ⟨a, b, d, e, c', rfl, rfl, okc⟩
    obtain ⟨hi, rfl⟩ := rngL_at hx
    array_get_dec
    refine ite_S mono [4, 5] (fun vs s => ∃ o a c'', vs = [some o, a] ∧ s = [cellD c''] ∧ c''.ok (50000 + 100 * i + 60) ∧ Bd 38 15500 o) ?_ ?_
    · simp_wf
      refine tk rfl okc (by omega) (by omega) (by omega) fun c2 r2 ok2 r20 r21 => ?_
      simp_wf
      refine xite_mk (fun _ => ?_) (fun _ => ?_)
      · simp_wf
        refine xK_other rfl ok2 (by omega) hB fun c3 o ok3 ho => ?_
        bv_omega
        refine tk rfl ok3 (by omega) (by omega) (by omega) fun c4 r4 ok4 r40 r41 => ?_
        bv_omega
        refine tk rfl ok4 (by omega) (by omega) (by omega) fun c5 r5 ok5 r50 r51 => ?_
        obtain ⟨n, hn0, hn6, e⟩ : ∃ n : Int, 0 ≤ n ∧ n ≤ 6 ∧ atI [D.int 0, .int r4] r5 = some (.int n) := by
          have : r5 = 0 ∨ r5 = 1 := by omega
          rcases this with rfl | rfl
          · exact ⟨0, by decide, by decide, rfl⟩
          · exact ⟨r4, by omega, by omega, rfl⟩
        nomatch e
        bv_omega
        refine for_ix mono [4, 5] (fun j vs s => ∃ o a c'', vs = [some o, a] ∧ s = [cellD c''] ∧ c''.ok (50000 + 100 * i + 34 + j) ∧ Bd (20 + 3 * j) (10500 + 770 * j) o) ⟨_, _, _, rfl, rfl, ok5.mono (by omega), ho⟩ (fun i vs s _ h => trivial) ?_ ?_
        · rintro j x vs s hx ⟨o, a, c6, rfl, rfl, ok6, ho⟩
          obtain ⟨hj, rfl⟩ := rngL_at hx
          bv_omega
          refine tk rfl ok6 (by omega) (by omega) (by omega) fun c7 r7 ok7 r70 r71 => ?_
          simp_wf
          refine xat_mk r70 (by simp; omega) fun o' ho' => ?_
          simp_wf
          refine ⟨[_, _], rfl, o', _, c7, rfl, rfl, ok7.mono (by omega), ?_⟩
          simp only [List.mem_cons, List.not_mem_nil, or_false] at ho'
          rcases ho' with rfl | rfl
          · exact (bd_two (bd_str (by decide +kernel)) (bd_one ho)).mono (by omega) (by omega)
          · exact (bd_two (bd_str (by decide +kernel)) (bd_two (bd_two bd_int ho) (bd_two bd_int hB))).mono (by omega) (by omega)
        · rintro vs s ⟨o, a, c6, rfl, rfl, ok6, ho⟩
          rw [rngL_len] at ok6 ho
          simp_wf
          exact ⟨[_, _], rfl, o, _, c6, rfl, rfl, ok6.mono (by omega), ho.mono (by omega) (by omega)⟩
      · simp_wf
        exact ⟨[_, _], rfl, v, _, c2, rfl, rfl, ok2.mono (by omega), hB.mono (by omega) (by omega)⟩
    rintro vs s ⟨o, a, c3, rfl, rfl, ok3, ho⟩
    bv_omega
    refine tk rfl ok3 (by omega) (by omega) (by omega) fun c4 r4 ok4 r40 r41 => ?_
    obtain ⟨n, hn0, hn2, e⟩ : ∃ n : Int, 0 ≤ n ∧ n ≤ 2 ∧ atI [D.int 0, .int 0, .int 1, .int 2] r4 = some (.int n) := by
      have : r4 = 0 ∨ r4 = 1 ∨ r4 = 2 ∨ r4 = 3 := by omega
      rcases this with rfl | rfl | rfl | rfl
      · exact ⟨0, by decide, by decide, rfl⟩
      · exact ⟨0, by decide, by decide, rfl⟩
      · exact ⟨1, by decide, by decide, rfl⟩
      · exact ⟨2, by decide, by decide, rfl⟩
    nomatch e
    bv_omega
    refine for_ix mono [4, 5] (fun j vs s => ∃ o a c'' p z, vs = [some o, a] ∧ s = [cellD c''] ∧ c''.ok (50000 + 100 * i + 61 + 5 * j) ∧ Bd p z o ∧ ((j = 0 ∧ p = 38 ∧ z = 15500) ∨ (j = 1 ∧ p = 79 ∧ z = 46510) ∨ (j = 2 ∧ p = 161 ∧ z = 139540))) ⟨_, _, _, _, _, rfl, rfl, ok4.mono (by omega), ho, .inl ⟨rfl, rfl, rfl⟩⟩ (fun i vs s _ h => trivial) ?_ ?_
    · rintro j x vs s hx ⟨o, a, c5, p, z, rfl, rfl, ok5, ho, hc⟩
      obtain ⟨hj, rfl⟩ := rngL_at hx
      simp_wf
      have h1 := ho.dp
      have h2 := ho.sz
      refine xK_spoilt rfl ok5 ⟨by omega, ho.pv, by omega, by omega⟩ fun c6 o' ok6 sp => ?_
      have h3 := sp.dp
      have h4 := sp.sz
      simp_wf
      refine ⟨[_, _], rfl, o', _, c6, if j = 0 then 79 else 161, if j = 0 then 46510 else 139540, rfl, rfl, ok6.mono (by omega), ⟨sp.pv, ?_, ?_⟩, ?_⟩
      · split <;> omega
      · split <;> omega
      · by_cases hj0 : j = 0
        · rw [if_pos hj0, if_pos hj0]; exact .inr (.inl ⟨by omega, rfl, rfl⟩)
        · rw [if_neg hj0, if_neg hj0]; exact .inr (.inr ⟨by omega, rfl, rfl⟩)
    · rintro vs s ⟨o, a, c5, p, z, rfl, rfl, ok5, ho, _⟩
      rw [rngL_len] at ok5
      simp_wf
      refine xK_islot rfl ho.pv ?_
      simp_wf
      refine xK_islot rfl ho.pv ?_
      generalize decide (cntD 6 o ≤ 30) = w
      cases w
      · simp_wf
        exact ⟨[_, _, _, _], rfl, _, _, _, _, c5, rfl, rfl, ok5.mono (by omega)⟩
      · simp_wf
        exact ⟨[_, _, _, _], rfl, _, _, _, _, c5, rfl, rfl, ok5.mono (by omega)⟩
  · rintro vs s ⟨a, b, d, e, c', rfl, rfl, okc⟩
    simp_wf
    exact fin_q (q _)

def PHI_l_lot (r : Nat) : Fns := fun i => if i = 14 then f_lot r else PHI i
theorem mono_l_lot (r : Nat) : ∀ f, MonoFn (PHI_l_lot r f) := fun f => by
  unfold PHI_l_lot
  split
  · exact m_lot r
  · exact mono f
def PHI_l_count (r : Nat) : Fns := fun i => if i = 20 then f_count r else PHI i
theorem mono_l_count (r : Nat) : ∀ f, MonoFn (PHI_l_count r f) := fun f => by
  unfold PHI_l_count
  split
  · exact m_count r
  · exact mono f
def PHI_l_nodes_of (r : Nat) : Fns := fun i => if i = 22 then f_nodes r else PHI i
theorem mono_l_nodes_of (r : Nat) : ∀ f, MonoFn (PHI_l_nodes_of r f) := fun f => by
  unfold PHI_l_nodes_of
  split
  · exact m_nodes r
  · exact mono f
def PHI_l_changed (r : Nat) : Fns := fun i => if i = 23 then f_changed r else PHI i
theorem mono_l_changed (r : Nat) : ∀ f, MonoFn (PHI_l_changed r f) := fun f => by
  unfold PHI_l_changed
  split
  · exact m_changed r
  · exact mono f
section
variable {P : Program} {w : World} {K : PySem.W.Frag} {mg : Str → Option Value} {base : Heap} {C : Nat → Addr}
structure Fcts (K : PySem.W.Frag) (mg : Str → Option Value) : Prop where
  d_q_is_integer : Df K mg "is_integer" s_q_is_integer ["n", "least", "most"]
  d_q_is_name : Df K mg "is_name" s_q_is_name ["x"]
  d_q_is_row : Df K mg "is_row" s_q_is_row ["value", "least"]
  d_q_are_names : Df K mg "are_names" s_q_are_names ["names"]
  d_q_are_pairs : Df K mg "are_pairs" s_q_are_pairs ["rows", "least", "most", "entries"]
  d_q_inner : Df K mg "inner" s_q_inner ["e"]
  d_q_is_simple : Df K mg "is_simple" s_q_is_simple ["value"]
  d_q_has_form : Df K mg "has_form" s_q_has_form ["value"]
  d_q_is_lot : Df K mg "is_lot" s_q_is_lot ["value"]
  d_l_start : Df K mg "_law_start" s_l_start ["_law_script"]
  d_l_fill : Df K mg "_law_fill" s_l_fill ["_law_c"]
  d_l_take : Df K mg "_law_take" s_l_take ["_law_c", "_law_many"]
  d_l_words : Df K mg "_law_words" s_l_words ["_law_c"]
  d_l_plain : Df K mg "_law_plain" s_l_plain ["_law_c", "_law_words_here"]
  d_l_lot : Df K mg "_law_lot" s_l_lot ["_law_c", "_law_words_here", "_law_depth"]
  d_l_drawn_lot : Df K mg "_law_drawn_lot" s_l_drawn_lot ["_law_c"]
  d_l_whole : Df K mg "_law_whole" s_l_whole ["_law_n", "_law_least", "_law_most"]
  d_l_is_name : Df K mg "_law_is_name" s_l_is_name ["_law_x"]
  d_l_are_names : Df K mg "_law_are_names" s_l_are_names ["_law_row"]
  d_l_are_pairs : Df K mg "_law_are_pairs" s_l_are_pairs ["_law_rows", "_law_least", "_law_most", "_law_entries"]
  d_l_count : Df K mg "_law_count" s_l_count ["_law_e", "_law_depth"]
  d_l_is_lot : Df K mg "_law_is_lot" s_l_is_lot ["_law_e"]
  d_l_nodes_of : Df K mg "_law_nodes_of" s_l_nodes_of ["_law_value", "_law_found"]
  d_l_changed : Df K mg "_law_changed" s_l_changed ["_law_value", "_law_box", "_law_other_here"]
  d_l_high : Df K mg "_law_high" s_l_high ["_law_value"]
  d_l_spoilt : Df K mg "_law_spoilt" s_l_spoilt ["_law_c", "_law_value"]
  d_l_other : Df K mg "_law_other" s_l_other ["_law_c", "_law_e"]
  d_l_deep : Df K mg "_law_deep" s_l_deep ["_law_c"]
  d_law : Df K mg "law" s_law ["_law_script"]
  z_isinstance : mg "isinstance" = none
  z_int : mg "int" = none
  z_bool : mg "bool" = none
  z_all : mg "all" = none
  z_str : mg "str" = none
  z_len : mg "len" = none
  z_tuple : mg "tuple" = none
  z_list : mg "list" = none
  z_sum : mg "sum" = none
  z_range : mg "range" = none
  z_min : mg "min" = none
  z_set : mg "set" = none
  k_MOST_CHARACTERS : ConOk K mg "MOST_CHARACTERS" (.int 8)
  k_CHARACTERS : ConOk K mg "CHARACTERS" (.str "abcdefghijklmnopqrstuvwxyzABCDEFGHIJKLMNOPQRSTUVWXYZ0123456789")
  k_MOST_ENTRIES : ConOk K mg "MOST_ENTRIES" (.int 12)
  k_MOST_LOTS : ConOk K mg "MOST_LOTS" (.int 30)
  k_MOST_DEPTH : ConOk K mg "MOST_DEPTH" (.int 6)
theorem ok_q_is_integer (X : Fcts K mg) : FOk P w K mg base C 1 "is_integer" 3 f_isint :=
  fok (Φ := PHI) (k0 := 0) X.d_q_is_integer sc_q_is_integer rfl rfl rfl rfl c_q_is_integer mono m_isint trivial (show ∀ x ∈ (["isinstance", "int", "bool"] : List Str), mg x = none from fun x hx => by
    simp only [List.mem_cons, List.not_mem_nil, or_false] at hx
    rcases hx with rfl | rfl | rfl
    · exact X.z_isinstance
    · exact X.z_int
    · exact X.z_bool)
    (fun ds st Q hl hst hds h => o_isint h)
theorem ok_q_is_name (X : Fcts K mg) : FOk P w K mg base C 1 "is_name" 1 f_isname :=
  fok (Φ := PHI) (k0 := 0) X.d_q_is_name sc_q_is_name rfl rfl rfl rfl c_q_is_name mono m_isname ⟨X.k_MOST_CHARACTERS.at, X.k_CHARACTERS.at, trivial⟩ (show ∀ x ∈ (["all", "isinstance", "str", "len"] : List Str), mg x = none from fun x hx => by
    simp only [List.mem_cons, List.not_mem_nil, or_false] at hx
    rcases hx with rfl | rfl | rfl | rfl
    · exact X.z_all
    · exact X.z_isinstance
    · exact X.z_str
    · exact X.z_len)
    (fun ds st Q hl hst hds h => o_isname mono h)
theorem ok_q_is_row (X : Fcts K mg) : FOk P w K mg base C 1 "is_row" 2 f_isrow :=
  fok (Φ := PHI) (k0 := 0) X.d_q_is_row sc_q_is_row rfl rfl rfl rfl c_q_is_row mono m_isrow ⟨X.k_MOST_ENTRIES.at, trivial⟩ (show ∀ x ∈ (["isinstance", "tuple", "len"] : List Str), mg x = none from fun x hx => by
    simp only [List.mem_cons, List.not_mem_nil, or_false] at hx
    rcases hx with rfl | rfl | rfl
    · exact X.z_isinstance
    · exact X.z_tuple
    · exact X.z_len)
    (fun ds st Q hl hst hds h => o_isrow h)
theorem ok_q_inner (X : Fcts K mg) : FOk P w K mg base C 1 "inner" 1 f_inner :=
  fok (Φ := PHI) (k0 := 0) X.d_q_inner sc_q_inner rfl rfl rfl rfl c_q_inner mono m_inner trivial (show ∀ x ∈ (["list"] : List Str), mg x = none from fun x hx => by
    simp only [List.mem_cons, List.not_mem_nil, or_false] at hx
    subst hx
    exact X.z_list)
    (fun ds st Q hl hst hds h => o_inner mono h)
theorem ok_l_start (X : Fcts K mg) : FOk P w K mg base C 1 "_law_start" 1 f_start :=
  fok (Φ := PHI) (k0 := 0) X.d_l_start sc_l_start rfl rfl rfl rfl c_l_start mono m_start trivial (show ∀ x ∈ (["int"] : List Str), mg x = none from fun x hx => by
    simp only [List.mem_cons, List.not_mem_nil, or_false] at hx
    subst hx
    exact X.z_int)
    (fun ds st Q hl hst hds h => o_start mono h)
theorem ok_l_fill (X : Fcts K mg) : FOk P w K mg base C 1 "_law_fill" 1 f_fill :=
  fok (Φ := PHI) (k0 := 0) X.d_l_fill sc_l_fill rfl rfl rfl rfl c_l_fill mono m_fill trivial (show ∀ x ∈ (["len", "int"] : List Str), mg x = none from fun x hx => by
    simp only [List.mem_cons, List.not_mem_nil, or_false] at hx
    rcases hx with rfl | rfl
    · exact X.z_len
    · exact X.z_int)
    (fun ds st Q hl hst hds h => o_fill mono h)
theorem ok_l_whole (X : Fcts K mg) : FOk P w K mg base C 1 "_law_whole" 3 f_isint :=
  fok (Φ := PHI) (k0 := 0) X.d_l_whole sc_l_whole rfl rfl rfl rfl c_l_whole mono m_isint trivial (show ∀ x ∈ (["isinstance", "int", "bool"] : List Str), mg x = none from fun x hx => by
    simp only [List.mem_cons, List.not_mem_nil, or_false] at hx
    rcases hx with rfl | rfl | rfl
    · exact X.z_isinstance
    · exact X.z_int
    · exact X.z_bool)
    (fun ds st Q hl hst hds h => o_whole h)
theorem ok_l_is_name (X : Fcts K mg) : FOk P w K mg base C 1 "_law_is_name" 1 f_isname :=
  fok (Φ := PHI) (k0 := 0) X.d_l_is_name sc_l_is_name rfl rfl rfl rfl c_l_is_name mono m_isname trivial (show ∀ x ∈ (["isinstance", "str", "all", "len"] : List Str), mg x = none from fun x hx => by
    simp only [List.mem_cons, List.not_mem_nil, or_false] at hx
    rcases hx with rfl | rfl | rfl | rfl
    · exact X.z_isinstance
    · exact X.z_str
    · exact X.z_all
    · exact X.z_len)
    (fun ds st Q hl hst hds h => o_lname mono h)
theorem ok_l_high (X : Fcts K mg) : FOk P w K mg base C 1 "_law_high" 1 f_high :=
  fok (Φ := PHI) (k0 := 0) X.d_l_high sc_l_high rfl rfl rfl rfl c_l_high mono m_high trivial (show ∀ x ∈ (["len", "isinstance", "tuple"] : List Str), mg x = none from fun x hx => by
    simp only [List.mem_cons, List.not_mem_nil, or_false] at hx
    rcases hx with rfl | rfl | rfl
    · exact X.z_len
    · exact X.z_isinstance
    · exact X.z_tuple)
    (fun ds st Q hl hst hds h => o_high mono hst h)
theorem ok_q_are_names (X : Fcts K mg) : FOk P w K mg base C 2 "are_names" 1 f_arenames :=
  fok (Φ := PHI) (k0 := 1) X.d_q_are_names sc_q_are_names rfl rfl rfl rfl c_q_are_names mono m_arenames ⟨(ok_q_is_row X).up (by decide), (ok_q_is_name X).up (by decide), trivial⟩ (show ∀ x ∈ (["all", "len"] : List Str), mg x = none from fun x hx => by
    simp only [List.mem_cons, List.not_mem_nil, or_false] at hx
    rcases hx with rfl | rfl
    · exact X.z_all
    · exact X.z_len)
    (fun ds st Q hl hst hds h => o_arenames mono (iN := 1) (iR := 2) rfl rfl h)
theorem ok_l_take (X : Fcts K mg) : FOk P w K mg base C 2 "_law_take" 2 f_take :=
  fok (Φ := PHI) (k0 := 1) X.d_l_take sc_l_take rfl rfl rfl rfl c_l_take mono m_take ⟨(ok_l_fill X).up (by decide), trivial⟩ (show ∀ x ∈ (["int"] : List Str), mg x = none from fun x hx => by
    simp only [List.mem_cons, List.not_mem_nil, or_false] at hx
    subst hx
    exact X.z_int)
    (fun ds st Q hl hst hds h => o_take mono (iF := 10) rfl h)
theorem ok_l_are_names (X : Fcts K mg) : FOk P w K mg base C 2 "_law_are_names" 1 f_arenames :=
  fok (Φ := PHI) (k0 := 1) X.d_l_are_names sc_l_are_names rfl rfl rfl rfl c_l_are_names mono m_arenames ⟨(ok_l_is_name X).up (by decide), trivial⟩ (show ∀ x ∈ (["len", "isinstance", "tuple", "all", "set"] : List Str), mg x = none from fun x hx => by
    simp only [List.mem_cons, List.not_mem_nil, or_false] at hx
    rcases hx with rfl | rfl | rfl | rfl | rfl
    · exact X.z_len
    · exact X.z_isinstance
    · exact X.z_tuple
    · exact X.z_all
    · exact X.z_set)
    (fun ds st Q hl hst hds h => o_lnames mono (iN := 17) rfl h)
theorem ok_q_are_pairs (X : Fcts K mg) : FOk P w K mg base C 3 "are_pairs" 4 f_arepairs :=
  fok (Φ := PHI) (k0 := 2) X.d_q_are_pairs sc_q_are_pairs rfl rfl rfl rfl c_q_are_pairs mono m_arepairs ⟨(ok_q_are_names X).up (by decide), (ok_q_is_row X).up (by decide), (ok_q_is_integer X).up (by decide), trivial⟩ (show ∀ x ∈ (["all", "tuple", "len", "isinstance"] : List Str), mg x = none from fun x hx => by
    simp only [List.mem_cons, List.not_mem_nil, or_false] at hx
    rcases hx with rfl | rfl | rfl | rfl
    · exact X.z_all
    · exact X.z_tuple
    · exact X.z_len
    · exact X.z_isinstance)
    (fun ds st Q hl hst hds h => o_arepairs mono (iI := 0) (iR := 2) (iA := 3) rfl rfl rfl h)
theorem ok_l_words (X : Fcts K mg) : FOk P w K mg base C 3 "_law_words" 1 f_words :=
  fok (Φ := PHI) (k0 := 2) X.d_l_words sc_l_words rfl rfl rfl rfl c_l_words mono m_words ⟨(ok_l_take X).up (by decide), trivial⟩ (show ∀ x ∈ (["range", "len", "int"] : List Str), mg x = none from fun x hx => by
    simp only [List.mem_cons, List.not_mem_nil, or_false] at hx
    rcases hx with rfl | rfl | rfl
    · exact X.z_range
    · exact X.z_len
    · exact X.z_int)
    (fun ds st Q hl hst hds h => o_words mono (iT := 11) rfl hst h)
theorem ok_l_plain (X : Fcts K mg) : FOk P w K mg base C 3 "_law_plain" 2 f_plain :=
  fok (Φ := PHI) (k0 := 2) X.d_l_plain sc_l_plain rfl rfl rfl rfl c_l_plain mono m_plain ⟨(ok_l_take X).up (by decide), trivial⟩ (show ∀ x ∈ (["tuple", "min", "sum", "range"] : List Str), mg x = none from fun x hx => by
    simp only [List.mem_cons, List.not_mem_nil, or_false] at hx
    rcases hx with rfl | rfl | rfl | rfl
    · exact X.z_tuple
    · exact X.z_min
    · exact X.z_sum
    · exact X.z_range)
    (fun ds st Q hl hst hds h => o_plain mono (iT := 11) rfl hst h)
theorem ok_l_are_pairs (X : Fcts K mg) : FOk P w K mg base C 3 "_law_are_pairs" 4 f_arepairs :=
  fok (Φ := PHI) (k0 := 2) X.d_l_are_pairs sc_l_are_pairs rfl rfl rfl rfl c_l_are_pairs mono m_arepairs ⟨(ok_l_are_names X).up (by decide), (ok_l_whole X).up (by decide), trivial⟩ (show ∀ x ∈ (["tuple", "isinstance", "len"] : List Str), mg x = none from fun x hx => by
    simp only [List.mem_cons, List.not_mem_nil, or_false] at hx
    rcases hx with rfl | rfl | rfl
    · exact X.z_tuple
    · exact X.z_isinstance
    · exact X.z_len)
    (fun ds st Q hl hst hds h => o_lpairs mono (iW := 16) (iA := 18) rfl rfl h)
theorem ok_q_is_simple (X : Fcts K mg) : FOk P w K mg base C 4 "is_simple" 1 f_simple :=
  fok (Φ := PHI) (k0 := 3) X.d_q_is_simple sc_q_is_simple rfl rfl rfl rfl c_q_is_simple mono m_simple ⟨(ok_q_is_integer X).up (by decide), (ok_q_is_name X).up (by decide), (ok_q_are_names X).up (by decide), (ok_q_are_pairs X).up (by decide), X.k_MOST_ENTRIES.at, trivial⟩ (show ∀ x ∈ (["len", "sum"] : List Str), mg x = none from fun x hx => by
    simp only [List.mem_cons, List.not_mem_nil, or_false] at hx
    rcases hx with rfl | rfl
    · exact X.z_len
    · exact X.z_sum)
    (fun ds st Q hl hst hds h => o_simple mono (iI := 0) (iN := 1) (iA := 3) (iP := 4) rfl rfl rfl rfl h)
theorem ok_l_other (X : Fcts K mg) : FOk P w K mg base C 4 "_law_other" 2 f_other :=
  fok (Φ := PHI) (k0 := 3) X.d_l_other sc_l_other rfl rfl rfl rfl c_l_other mono m_other ⟨(ok_l_words X).up (by decide), (ok_l_take X).up (by decide), trivial⟩ (show ∀ x ∈ (["tuple", "len"] : List Str), mg x = none from fun x hx => by
    simp only [List.mem_cons, List.not_mem_nil, or_false] at hx
    rcases hx with rfl | rfl
    · exact X.z_tuple
    · exact X.z_len)
    (fun ds st Q hl hst hds h => o_other mono (iT := 11) (iW := 12) rfl rfl h)
theorem ok_q_has_form (X : Fcts K mg) : FOk P w K mg base C 5 "has_form" 1 f_form :=
  fok (Φ := PHI) (k0 := 4) X.d_q_has_form sc_q_has_form rfl rfl rfl rfl c_q_has_form mono m_form ⟨(ok_q_is_simple X).up (by decide), (ok_q_is_row X).up (by decide), (ok_q_is_integer X).up (by decide), trivial⟩ (show ∀ x ∈ (["sum", "isinstance", "tuple", "len", "str"] : List Str), mg x = none from fun x hx => by
    simp only [List.mem_cons, List.not_mem_nil, or_false] at hx
    rcases hx with rfl | rfl | rfl | rfl | rfl
    · exact X.z_sum
    · exact X.z_isinstance
    · exact X.z_tuple
    · exact X.z_len
    · exact X.z_str)
    (fun ds st Q hl hst hds h => o_form mono (iI := 0) (iR := 2) (iS := 6) rfl rfl rfl h)
theorem ok_q_is_lot (X : Fcts K mg) : FOk P w K mg base C 6 "is_lot" 1 f_islot :=
  fok (Φ := PHI) (k0 := 5) X.d_q_is_lot sc_q_is_lot rfl rfl rfl rfl c_q_is_lot mono m_islot ⟨(ok_q_has_form X).up (by decide), (ok_q_inner X).up (by decide), X.k_MOST_LOTS.at, X.k_MOST_DEPTH.at, trivial⟩ (show ∀ x ∈ ([] : List Str), mg x = none from fun x hx => nomatch hx)
    (fun ds st Q hl hst hds h => o_islot mono (iF := 7) (iK := 5) rfl rfl hst h)
theorem okr_l_lot (X : Fcts K mg) : ∀ r, FOk P w K mg base C (3 + r) "_law_lot" 3 (f_lot r)
  | 0 => fok_false X.d_l_lot f_lot_zero
  | r + 1 => have ih := okr_l_lot X r
    fok (Φ := PHI_l_lot r) (k0 := 3 + r) X.d_l_lot sc_l_lot rfl rfl rfl rfl c_l_lot (mono_l_lot r) (m_lot (r + 1)) ⟨(ok_l_take X).up (by omega), (ok_l_plain X).up (by omega), ih, trivial⟩ (show ∀ x ∈ (["sum", "tuple", "range"] : List Str), mg x = none from fun x hx => by
    simp only [List.mem_cons, List.not_mem_nil, or_false] at hx
    rcases hx with rfl | rfl | rfl
    · exact X.z_sum
    · exact X.z_tuple
    · exact X.z_range)
    (fun ds st Q hl hst hds h => o_lot (mono_l_lot r) (iT := 11) (iP := 13) (iL := 14) rfl rfl rfl hst h)
theorem ok_l_lot (X : Fcts K mg) : FOk P w K mg base C 7 "_law_lot" 3 (f_lot 4) := okr_l_lot X 4
theorem ok_l_deep (X : Fcts K mg) : FOk P w K mg base C 7 "_law_deep" 1 f_deep :=
  fok (Φ := PHI) (k0 := 6) X.d_l_deep sc_l_deep rfl rfl rfl rfl c_l_deep mono m_deep ⟨(ok_l_take X).up (by decide), (ok_q_is_lot X).up (by decide), trivial⟩ (show ∀ x ∈ (["range"] : List Str), mg x = none from fun x hx => by
    simp only [List.mem_cons, List.not_mem_nil, or_false] at hx
    subst hx
    exact X.z_range)
    (fun ds st Q hl hst hds h => o_deep mono (iT := 11) (iL := 8) rfl rfl h)
theorem ok_l_drawn_lot (X : Fcts K mg) : FOk P w K mg base C 8 "_law_drawn_lot" 1 f_drawn :=
  fok (Φ := PHI) (k0 := 7) X.d_l_drawn_lot sc_l_drawn_lot rfl rfl rfl rfl c_l_drawn_lot mono m_drawn ⟨(ok_l_lot X).up (by decide), (ok_l_words X).up (by decide), (ok_l_take X).up (by decide), trivial⟩ (show ∀ x ∈ ([] : List Str), mg x = none from fun x hx => nomatch hx)
    (fun ds st Q hl hst hds h => o_drawn (iT := 11) (iW := 12) (iL := 14) rfl rfl rfl h)
theorem okr_l_count (X : Fcts K mg) : ∀ r, FOk P w K mg base C (3 + r) "_law_count" 2 (f_count r)
  | 0 => fok_false X.d_l_count f_count_zero
  | r + 1 => have ih := okr_l_count X r
    fok (Φ := PHI_l_count r) (k0 := 3 + r) X.d_l_count sc_l_count rfl rfl rfl rfl c_l_count (mono_l_count r) (m_count (r + 1)) ⟨(ok_l_is_name X).up (by omega), (ok_l_are_names X).up (by omega), (ok_l_whole X).up (by omega), ih, (ok_l_are_pairs X).up (by omega), trivial⟩ (show ∀ x ∈ (["len", "int", "isinstance", "tuple", "str", "sum", "all"] : List Str), mg x = none from fun x hx => by
    simp only [List.mem_cons, List.not_mem_nil, or_false] at hx
    rcases hx with rfl | rfl | rfl | rfl | rfl | rfl | rfl
    · exact X.z_len
    · exact X.z_int
    · exact X.z_isinstance
    · exact X.z_tuple
    · exact X.z_str
    · exact X.z_sum
    · exact X.z_all)
    (fun ds st Q hl hst hds h => o_count (mono_l_count r) (iW := 16) (iN := 17) (iA := 18) (iP := 19) (iC := 20) rfl rfl rfl rfl rfl h)
theorem ok_l_count (X : Fcts K mg) : FOk P w K mg base C 10 "_law_count" 2 (f_count 7) := okr_l_count X 7
theorem ok_l_is_lot (X : Fcts K mg) : FOk P w K mg base C 11 "_law_is_lot" 1 f_islot :=
  fok (Φ := PHI) (k0 := 10) X.d_l_is_lot sc_l_is_lot rfl rfl rfl rfl c_l_is_lot mono m_islot ⟨(ok_l_count X).up (by decide), trivial⟩ (show ∀ x ∈ ([] : List Str), mg x = none from fun x hx => nomatch hx)
    (fun ds st Q hl hst hds h => o_llot (iC := 20) rfl h)
theorem okr_l_nodes_of (X : Fcts K mg) : ∀ r, FOk P w K mg base C (0 + r) "_law_nodes_of" 2 (f_nodes r)
  | 0 => fok_false X.d_l_nodes_of f_nodes_zero
  | r + 1 => have ih := okr_l_nodes_of X r
    fok (Φ := PHI_l_nodes_of r) (k0 := 0 + r) X.d_l_nodes_of sc_l_nodes_of rfl rfl rfl rfl c_l_nodes_of (mono_l_nodes_of r) (m_nodes (r + 1)) ⟨ih, trivial⟩ (show ∀ x ∈ (["isinstance", "tuple", "len"] : List Str), mg x = none from fun x hx => by
    simp only [List.mem_cons, List.not_mem_nil, or_false] at hx
    rcases hx with rfl | rfl | rfl
    · exact X.z_isinstance
    · exact X.z_tuple
    · exact X.z_len)
    (fun ds st Q hl hst hds h => o_nodes (mono_l_nodes_of r) (iN := 22) rfl h)
theorem ok_l_nodes_of (X : Fcts K mg) : FOk P w K mg base C 200 "_law_nodes_of" 2 (f_nodes 200) := okr_l_nodes_of X 200
theorem okr_l_changed (X : Fcts K mg) : ∀ r, FOk P w K mg base C (0 + r) "_law_changed" 3 (f_changed r)
  | 0 => fok_false X.d_l_changed f_changed_zero
  | r + 1 => have ih := okr_l_changed X r
    fok (Φ := PHI_l_changed r) (k0 := 0 + r) X.d_l_changed sc_l_changed rfl rfl rfl rfl c_l_changed (mono_l_changed r) (m_changed (r + 1)) ⟨ih, trivial⟩ (show ∀ x ∈ (["tuple", "isinstance"] : List Str), mg x = none from fun x hx => by
    simp only [List.mem_cons, List.not_mem_nil, or_false] at hx
    rcases hx with rfl | rfl
    · exact X.z_tuple
    · exact X.z_isinstance)
    (fun ds st Q hl hst hds h => o_changed (mono_l_changed r) (iC := 23) rfl h)
theorem ok_l_changed (X : Fcts K mg) : FOk P w K mg base C 200 "_law_changed" 3 (f_changed 200) := okr_l_changed X 200
theorem ok_l_spoilt (X : Fcts K mg) : FOk P w K mg base C 201 "_law_spoilt" 2 (f_spoilt 200) :=
  fok (Φ := PHI) (k0 := 200) X.d_l_spoilt sc_l_spoilt rfl rfl rfl rfl c_l_spoilt mono (m_spoilt 200) ⟨(ok_l_nodes_of X).up (by decide), (ok_l_take X).up (by decide), (ok_l_changed X).up (by decide), (ok_l_high X).up (by decide), trivial⟩ (show ∀ x ∈ (["len", "isinstance", "tuple"] : List Str), mg x = none from fun x hx => by
    simp only [List.mem_cons, List.not_mem_nil, or_false] at hx
    rcases hx with rfl | rfl | rfl
    · exact X.z_len
    · exact X.z_isinstance
    · exact X.z_tuple)
    (fun ds st Q hl hst hds h => o_spoilt mono (iN := 22) (iT := 11) (iC := 23) (iH := 24) rfl rfl rfl rfl hst h)
theorem ok_law (X : Fcts K mg) {f : Addr} {fd : FuncData} (F : Fun K "law" "law" s_law f fd) : FnOk P w K mg base CX0 202 f fd ["_law_script"] (spD K C 1 f_law) :=
  fokF (Φ := PHI) (k0 := 201) F sc_law rfl rfl rfl rfl c_law mono m_law ⟨(ok_l_start X).up (by decide), (ok_l_drawn_lot X).up (by decide), (ok_l_take X).up (by decide), (ok_l_deep X).up (by decide), (ok_q_is_lot X).up (by decide), (ok_l_is_lot X).up (by decide), (ok_l_other X).up (by decide), (ok_l_spoilt X).up (by decide), trivial⟩ (show ∀ x ∈ (["range", "isinstance", "bool"] : List Str), mg x = none from fun x hx => by
    simp only [List.mem_cons, List.not_mem_nil, or_false] at hx
    rcases hx with rfl | rfl | rfl
    · exact X.z_range
    · exact X.z_isinstance
    · exact X.z_bool)
    (fun ds st Q hl hst hds h => o_law h)
end
theorem all_mk {l : PySem.W.OpenLaw} {w : World} {K : PySem.W.Frag} {h : Heap} {mg : Str → Option Value} {fa f0 f1 f2 f3 f4 f5 f6 f7 f8 f9 f10 f11 f12 f13 f14 f15 f16 f17 f18 f19 f20 f21 f22 f23 f24 f25 f26 f27 f28 : Addr} (X : K.In h) (G : h.Ns mainGlobals mg) (hfa : mg "law" = some (.ref fa))
    {od0 an0 : Option Addr} {sl0 : Array (Option Value)} {oc0 kV0 dc0 pm0 cd0 ct0 : Value}
    (a0 : PySem.W.nsIn K mainGlobals "is_integer" = some (some (.ref f0))) (l0 : K.lookup f0 = some ⟨oc0, od0, .func (PySem.W.fnOf "is_integer" "is_integer" (defArgs s_q_is_integer) (defBody s_q_is_integer) (defScope s_q_is_integer) .none kV0 dc0 pm0 an0 cd0 ct0), sl0⟩) (c0 : PySem.W.codeIn K cd0 "is_integer" = true) (k0 : PySem.W.keepIn K (.ref f0) = true)
    {od1 an1 : Option Addr} {sl1 : Array (Option Value)} {oc1 kV1 dc1 pm1 cd1 ct1 : Value}
    (a1 : PySem.W.nsIn K mainGlobals "is_name" = some (some (.ref f1))) (l1 : K.lookup f1 = some ⟨oc1, od1, .func (PySem.W.fnOf "is_name" "is_name" (defArgs s_q_is_name) (defBody s_q_is_name) (defScope s_q_is_name) .none kV1 dc1 pm1 an1 cd1 ct1), sl1⟩) (c1 : PySem.W.codeIn K cd1 "is_name" = true) (k1 : PySem.W.keepIn K (.ref f1) = true)
    {od2 an2 : Option Addr} {sl2 : Array (Option Value)} {oc2 kV2 dc2 pm2 cd2 ct2 : Value}
    (a2 : PySem.W.nsIn K mainGlobals "is_row" = some (some (.ref f2))) (l2 : K.lookup f2 = some ⟨oc2, od2, .func (PySem.W.fnOf "is_row" "is_row" (defArgs s_q_is_row) (defBody s_q_is_row) (defScope s_q_is_row) .none kV2 dc2 pm2 an2 cd2 ct2), sl2⟩) (c2 : PySem.W.codeIn K cd2 "is_row" = true) (k2 : PySem.W.keepIn K (.ref f2) = true)
    {od3 an3 : Option Addr} {sl3 : Array (Option Value)} {oc3 kV3 dc3 pm3 cd3 ct3 : Value}
    (a3 : PySem.W.nsIn K mainGlobals "are_names" = some (some (.ref f3))) (l3 : K.lookup f3 = some ⟨oc3, od3, .func (PySem.W.fnOf "are_names" "are_names" (defArgs s_q_are_names) (defBody s_q_are_names) (defScope s_q_are_names) .none kV3 dc3 pm3 an3 cd3 ct3), sl3⟩) (c3 : PySem.W.codeIn K cd3 "are_names" = true) (k3 : PySem.W.keepIn K (.ref f3) = true)
    {od4 an4 : Option Addr} {sl4 : Array (Option Value)} {oc4 kV4 dc4 pm4 cd4 ct4 : Value}
    (a4 : PySem.W.nsIn K mainGlobals "are_pairs" = some (some (.ref f4))) (l4 : K.lookup f4 = some ⟨oc4, od4, .func (PySem.W.fnOf "are_pairs" "are_pairs" (defArgs s_q_are_pairs) (defBody s_q_are_pairs) (defScope s_q_are_pairs) .none kV4 dc4 pm4 an4 cd4 ct4), sl4⟩) (c4 : PySem.W.codeIn K cd4 "are_pairs" = true) (k4 : PySem.W.keepIn K (.ref f4) = true)
    {od5 an5 : Option Addr} {sl5 : Array (Option Value)} {oc5 kV5 dc5 pm5 cd5 ct5 : Value}
    (a5 : PySem.W.nsIn K mainGlobals "inner" = some (some (.ref f5))) (l5 : K.lookup f5 = some ⟨oc5, od5, .func (PySem.W.fnOf "inner" "inner" (defArgs s_q_inner) (defBody s_q_inner) (defScope s_q_inner) .none kV5 dc5 pm5 an5 cd5 ct5), sl5⟩) (c5 : PySem.W.codeIn K cd5 "inner" = true) (k5 : PySem.W.keepIn K (.ref f5) = true)
    {od6 an6 : Option Addr} {sl6 : Array (Option Value)} {oc6 kV6 dc6 pm6 cd6 ct6 : Value}
    (a6 : PySem.W.nsIn K mainGlobals "is_simple" = some (some (.ref f6))) (l6 : K.lookup f6 = some ⟨oc6, od6, .func (PySem.W.fnOf "is_simple" "is_simple" (defArgs s_q_is_simple) (defBody s_q_is_simple) (defScope s_q_is_simple) .none kV6 dc6 pm6 an6 cd6 ct6), sl6⟩) (c6 : PySem.W.codeIn K cd6 "is_simple" = true) (k6 : PySem.W.keepIn K (.ref f6) = true)
    {od7 an7 : Option Addr} {sl7 : Array (Option Value)} {oc7 kV7 dc7 pm7 cd7 ct7 : Value}
    (a7 : PySem.W.nsIn K mainGlobals "has_form" = some (some (.ref f7))) (l7 : K.lookup f7 = some ⟨oc7, od7, .func (PySem.W.fnOf "has_form" "has_form" (defArgs s_q_has_form) (defBody s_q_has_form) (defScope s_q_has_form) .none kV7 dc7 pm7 an7 cd7 ct7), sl7⟩) (c7 : PySem.W.codeIn K cd7 "has_form" = true) (k7 : PySem.W.keepIn K (.ref f7) = true)
    {od8 an8 : Option Addr} {sl8 : Array (Option Value)} {oc8 kV8 dc8 pm8 cd8 ct8 : Value}
    (a8 : PySem.W.nsIn K mainGlobals "is_lot" = some (some (.ref f8))) (l8 : K.lookup f8 = some ⟨oc8, od8, .func (PySem.W.fnOf "is_lot" "is_lot" (defArgs s_q_is_lot) (defBody s_q_is_lot) (defScope s_q_is_lot) .none kV8 dc8 pm8 an8 cd8 ct8), sl8⟩) (c8 : PySem.W.codeIn K cd8 "is_lot" = true) (k8 : PySem.W.keepIn K (.ref f8) = true)
    {od9 an9 : Option Addr} {sl9 : Array (Option Value)} {oc9 kV9 dc9 pm9 cd9 ct9 : Value}
    (a9 : PySem.W.nsIn K mainGlobals "_law_start" = some (some (.ref f9))) (l9 : K.lookup f9 = some ⟨oc9, od9, .func (PySem.W.fnOf "_law_start" "_law_start" (defArgs s_l_start) (defBody s_l_start) (defScope s_l_start) .none kV9 dc9 pm9 an9 cd9 ct9), sl9⟩) (c9 : PySem.W.codeIn K cd9 "_law_start" = true) (k9 : PySem.W.keepIn K (.ref f9) = true)
    {od10 an10 : Option Addr} {sl10 : Array (Option Value)} {oc10 kV10 dc10 pm10 cd10 ct10 : Value}
    (a10 : PySem.W.nsIn K mainGlobals "_law_fill" = some (some (.ref f10))) (l10 : K.lookup f10 = some ⟨oc10, od10, .func (PySem.W.fnOf "_law_fill" "_law_fill" (defArgs s_l_fill) (defBody s_l_fill) (defScope s_l_fill) .none kV10 dc10 pm10 an10 cd10 ct10), sl10⟩) (c10 : PySem.W.codeIn K cd10 "_law_fill" = true) (k10 : PySem.W.keepIn K (.ref f10) = true)
    {od11 an11 : Option Addr} {sl11 : Array (Option Value)} {oc11 kV11 dc11 pm11 cd11 ct11 : Value}
    (a11 : PySem.W.nsIn K mainGlobals "_law_take" = some (some (.ref f11))) (l11 : K.lookup f11 = some ⟨oc11, od11, .func (PySem.W.fnOf "_law_take" "_law_take" (defArgs s_l_take) (defBody s_l_take) (defScope s_l_take) .none kV11 dc11 pm11 an11 cd11 ct11), sl11⟩) (c11 : PySem.W.codeIn K cd11 "_law_take" = true) (k11 : PySem.W.keepIn K (.ref f11) = true)
    {od12 an12 : Option Addr} {sl12 : Array (Option Value)} {oc12 kV12 dc12 pm12 cd12 ct12 : Value}
    (a12 : PySem.W.nsIn K mainGlobals "_law_words" = some (some (.ref f12))) (l12 : K.lookup f12 = some ⟨oc12, od12, .func (PySem.W.fnOf "_law_words" "_law_words" (defArgs s_l_words) (defBody s_l_words) (defScope s_l_words) .none kV12 dc12 pm12 an12 cd12 ct12), sl12⟩) (c12 : PySem.W.codeIn K cd12 "_law_words" = true) (k12 : PySem.W.keepIn K (.ref f12) = true)
    {od13 an13 : Option Addr} {sl13 : Array (Option Value)} {oc13 kV13 dc13 pm13 cd13 ct13 : Value}
    (a13 : PySem.W.nsIn K mainGlobals "_law_plain" = some (some (.ref f13))) (l13 : K.lookup f13 = some ⟨oc13, od13, .func (PySem.W.fnOf "_law_plain" "_law_plain" (defArgs s_l_plain) (defBody s_l_plain) (defScope s_l_plain) .none kV13 dc13 pm13 an13 cd13 ct13), sl13⟩) (c13 : PySem.W.codeIn K cd13 "_law_plain" = true) (k13 : PySem.W.keepIn K (.ref f13) = true)
    {od14 an14 : Option Addr} {sl14 : Array (Option Value)} {oc14 kV14 dc14 pm14 cd14 ct14 : Value}
    (a14 : PySem.W.nsIn K mainGlobals "_law_lot" = some (some (.ref f14))) (l14 : K.lookup f14 = some ⟨oc14, od14, .func (PySem.W.fnOf "_law_lot" "_law_lot" (defArgs s_l_lot) (defBody s_l_lot) (defScope s_l_lot) .none kV14 dc14 pm14 an14 cd14 ct14), sl14⟩) (c14 : PySem.W.codeIn K cd14 "_law_lot" = true) (k14 : PySem.W.keepIn K (.ref f14) = true)
    {od15 an15 : Option Addr} {sl15 : Array (Option Value)} {oc15 kV15 dc15 pm15 cd15 ct15 : Value}
    (a15 : PySem.W.nsIn K mainGlobals "_law_drawn_lot" = some (some (.ref f15))) (l15 : K.lookup f15 = some ⟨oc15, od15, .func (PySem.W.fnOf "_law_drawn_lot" "_law_drawn_lot" (defArgs s_l_drawn_lot) (defBody s_l_drawn_lot) (defScope s_l_drawn_lot) .none kV15 dc15 pm15 an15 cd15 ct15), sl15⟩) (c15 : PySem.W.codeIn K cd15 "_law_drawn_lot" = true) (k15 : PySem.W.keepIn K (.ref f15) = true)
    {od16 an16 : Option Addr} {sl16 : Array (Option Value)} {oc16 kV16 dc16 pm16 cd16 ct16 : Value}
    (a16 : PySem.W.nsIn K mainGlobals "_law_whole" = some (some (.ref f16))) (l16 : K.lookup f16 = some ⟨oc16, od16, .func (PySem.W.fnOf "_law_whole" "_law_whole" (defArgs s_l_whole) (defBody s_l_whole) (defScope s_l_whole) .none kV16 dc16 pm16 an16 cd16 ct16), sl16⟩) (c16 : PySem.W.codeIn K cd16 "_law_whole" = true) (k16 : PySem.W.keepIn K (.ref f16) = true)
    {od17 an17 : Option Addr} {sl17 : Array (Option Value)} {oc17 kV17 dc17 pm17 cd17 ct17 : Value}
    (a17 : PySem.W.nsIn K mainGlobals "_law_is_name" = some (some (.ref f17))) (l17 : K.lookup f17 = some ⟨oc17, od17, .func (PySem.W.fnOf "_law_is_name" "_law_is_name" (defArgs s_l_is_name) (defBody s_l_is_name) (defScope s_l_is_name) .none kV17 dc17 pm17 an17 cd17 ct17), sl17⟩) (c17 : PySem.W.codeIn K cd17 "_law_is_name" = true) (k17 : PySem.W.keepIn K (.ref f17) = true)
    {od18 an18 : Option Addr} {sl18 : Array (Option Value)} {oc18 kV18 dc18 pm18 cd18 ct18 : Value}
    (a18 : PySem.W.nsIn K mainGlobals "_law_are_names" = some (some (.ref f18))) (l18 : K.lookup f18 = some ⟨oc18, od18, .func (PySem.W.fnOf "_law_are_names" "_law_are_names" (defArgs s_l_are_names) (defBody s_l_are_names) (defScope s_l_are_names) .none kV18 dc18 pm18 an18 cd18 ct18), sl18⟩) (c18 : PySem.W.codeIn K cd18 "_law_are_names" = true) (k18 : PySem.W.keepIn K (.ref f18) = true)
    {od19 an19 : Option Addr} {sl19 : Array (Option Value)} {oc19 kV19 dc19 pm19 cd19 ct19 : Value}
    (a19 : PySem.W.nsIn K mainGlobals "_law_are_pairs" = some (some (.ref f19))) (l19 : K.lookup f19 = some ⟨oc19, od19, .func (PySem.W.fnOf "_law_are_pairs" "_law_are_pairs" (defArgs s_l_are_pairs) (defBody s_l_are_pairs) (defScope s_l_are_pairs) .none kV19 dc19 pm19 an19 cd19 ct19), sl19⟩) (c19 : PySem.W.codeIn K cd19 "_law_are_pairs" = true) (k19 : PySem.W.keepIn K (.ref f19) = true)
    {od20 an20 : Option Addr} {sl20 : Array (Option Value)} {oc20 kV20 dc20 pm20 cd20 ct20 : Value}
    (a20 : PySem.W.nsIn K mainGlobals "_law_count" = some (some (.ref f20))) (l20 : K.lookup f20 = some ⟨oc20, od20, .func (PySem.W.fnOf "_law_count" "_law_count" (defArgs s_l_count) (defBody s_l_count) (defScope s_l_count) .none kV20 dc20 pm20 an20 cd20 ct20), sl20⟩) (c20 : PySem.W.codeIn K cd20 "_law_count" = true) (k20 : PySem.W.keepIn K (.ref f20) = true)
    {od21 an21 : Option Addr} {sl21 : Array (Option Value)} {oc21 kV21 dc21 pm21 cd21 ct21 : Value}
    (a21 : PySem.W.nsIn K mainGlobals "_law_is_lot" = some (some (.ref f21))) (l21 : K.lookup f21 = some ⟨oc21, od21, .func (PySem.W.fnOf "_law_is_lot" "_law_is_lot" (defArgs s_l_is_lot) (defBody s_l_is_lot) (defScope s_l_is_lot) .none kV21 dc21 pm21 an21 cd21 ct21), sl21⟩) (c21 : PySem.W.codeIn K cd21 "_law_is_lot" = true) (k21 : PySem.W.keepIn K (.ref f21) = true)
    {od22 an22 : Option Addr} {sl22 : Array (Option Value)} {oc22 kV22 dc22 pm22 cd22 ct22 : Value}
    (a22 : PySem.W.nsIn K mainGlobals "_law_nodes_of" = some (some (.ref f22))) (l22 : K.lookup f22 = some ⟨oc22, od22, .func (PySem.W.fnOf "_law_nodes_of" "_law_nodes_of" (defArgs s_l_nodes_of) (defBody s_l_nodes_of) (defScope s_l_nodes_of) .none kV22 dc22 pm22 an22 cd22 ct22), sl22⟩) (c22 : PySem.W.codeIn K cd22 "_law_nodes_of" = true) (k22 : PySem.W.keepIn K (.ref f22) = true)
    {od23 an23 : Option Addr} {sl23 : Array (Option Value)} {oc23 kV23 dc23 pm23 cd23 ct23 : Value}
    (a23 : PySem.W.nsIn K mainGlobals "_law_changed" = some (some (.ref f23))) (l23 : K.lookup f23 = some ⟨oc23, od23, .func (PySem.W.fnOf "_law_changed" "_law_changed" (defArgs s_l_changed) (defBody s_l_changed) (defScope s_l_changed) .none kV23 dc23 pm23 an23 cd23 ct23), sl23⟩) (c23 : PySem.W.codeIn K cd23 "_law_changed" = true) (k23 : PySem.W.keepIn K (.ref f23) = true)
    {od24 an24 : Option Addr} {sl24 : Array (Option Value)} {oc24 kV24 dc24 pm24 cd24 ct24 : Value}
    (a24 : PySem.W.nsIn K mainGlobals "_law_high" = some (some (.ref f24))) (l24 : K.lookup f24 = some ⟨oc24, od24, .func (PySem.W.fnOf "_law_high" "_law_high" (defArgs s_l_high) (defBody s_l_high) (defScope s_l_high) .none kV24 dc24 pm24 an24 cd24 ct24), sl24⟩) (c24 : PySem.W.codeIn K cd24 "_law_high" = true) (k24 : PySem.W.keepIn K (.ref f24) = true)
    {od25 an25 : Option Addr} {sl25 : Array (Option Value)} {oc25 kV25 dc25 pm25 cd25 ct25 : Value}
    (a25 : PySem.W.nsIn K mainGlobals "_law_spoilt" = some (some (.ref f25))) (l25 : K.lookup f25 = some ⟨oc25, od25, .func (PySem.W.fnOf "_law_spoilt" "_law_spoilt" (defArgs s_l_spoilt) (defBody s_l_spoilt) (defScope s_l_spoilt) .none kV25 dc25 pm25 an25 cd25 ct25), sl25⟩) (c25 : PySem.W.codeIn K cd25 "_law_spoilt" = true) (k25 : PySem.W.keepIn K (.ref f25) = true)
    {od26 an26 : Option Addr} {sl26 : Array (Option Value)} {oc26 kV26 dc26 pm26 cd26 ct26 : Value}
    (a26 : PySem.W.nsIn K mainGlobals "_law_other" = some (some (.ref f26))) (l26 : K.lookup f26 = some ⟨oc26, od26, .func (PySem.W.fnOf "_law_other" "_law_other" (defArgs s_l_other) (defBody s_l_other) (defScope s_l_other) .none kV26 dc26 pm26 an26 cd26 ct26), sl26⟩) (c26 : PySem.W.codeIn K cd26 "_law_other" = true) (k26 : PySem.W.keepIn K (.ref f26) = true)
    {od27 an27 : Option Addr} {sl27 : Array (Option Value)} {oc27 kV27 dc27 pm27 cd27 ct27 : Value}
    (a27 : PySem.W.nsIn K mainGlobals "_law_deep" = some (some (.ref f27))) (l27 : K.lookup f27 = some ⟨oc27, od27, .func (PySem.W.fnOf "_law_deep" "_law_deep" (defArgs s_l_deep) (defBody s_l_deep) (defScope s_l_deep) .none kV27 dc27 pm27 an27 cd27 ct27), sl27⟩) (c27 : PySem.W.codeIn K cd27 "_law_deep" = true) (k27 : PySem.W.keepIn K (.ref f27) = true)
    {od28 an28 : Option Addr} {sl28 : Array (Option Value)} {oc28 kV28 dc28 pm28 cd28 ct28 : Value}
    (a28 : PySem.W.nsIn K mainGlobals "law" = some (some (.ref f28))) (l28 : K.lookup f28 = some ⟨oc28, od28, .func (PySem.W.fnOf "law" "law" (defArgs s_law) (defBody s_law) (defScope s_law) .none kV28 dc28 pm28 an28 cd28 ct28), sl28⟩) (c28 : PySem.W.codeIn K cd28 "law" = true) (k28 : PySem.W.keepIn K (.ref f28) = true)
    (z0 : PySem.W.nsIn K mainGlobals "isinstance" = some none)
    (z1 : PySem.W.nsIn K mainGlobals "int" = some none)
    (z2 : PySem.W.nsIn K mainGlobals "bool" = some none)
    (z3 : PySem.W.nsIn K mainGlobals "all" = some none)
    (z4 : PySem.W.nsIn K mainGlobals "str" = some none)
    (z5 : PySem.W.nsIn K mainGlobals "len" = some none)
    (z6 : PySem.W.nsIn K mainGlobals "tuple" = some none)
    (z7 : PySem.W.nsIn K mainGlobals "list" = some none)
    (z8 : PySem.W.nsIn K mainGlobals "sum" = some none)
    (z9 : PySem.W.nsIn K mainGlobals "range" = some none)
    (z10 : PySem.W.nsIn K mainGlobals "min" = some none)
    (z11 : PySem.W.nsIn K mainGlobals "set" = some none)
    {t_MOST_CHARACTERS : Tok} (q_MOST_CHARACTERS : PySem.W.nsIn K mainGlobals "MOST_CHARACTERS" = some (some (.int 8 t_MOST_CHARACTERS)))
    {t_CHARACTERS : Tok} (q_CHARACTERS : PySem.W.nsIn K mainGlobals "CHARACTERS" = some (some (.str "abcdefghijklmnopqrstuvwxyzABCDEFGHIJKLMNOPQRSTUVWXYZ0123456789" t_CHARACTERS)))
    {t_MOST_ENTRIES : Tok} (q_MOST_ENTRIES : PySem.W.nsIn K mainGlobals "MOST_ENTRIES" = some (some (.int 12 t_MOST_ENTRIES)))
    {t_MOST_LOTS : Tok} (q_MOST_LOTS : PySem.W.nsIn K mainGlobals "MOST_LOTS" = some (some (.int 30 t_MOST_LOTS)))
    {t_MOST_DEPTH : Tok} (q_MOST_DEPTH : PySem.W.nsIn K mainGlobals "MOST_DEPTH" = some (some (.int 6 t_MOST_DEPTH)))
    : ∃ fd : FuncData, (∀ (s : Shared) (v : Value), BindsTo s fd ⟨[v], []⟩ [("_law_script", v)]) ∧ ∀ base : Heap, K.In base → base.Ns mainGlobals mg → FnOk l.prog w K mg base CX0 202 fa fd ["_law_script"] (spD K (fun _ => 0) 1 f_law) := by
  have e := hfa.symm.trans (PySem.W.mg_of X G a28)
  cases e
  have F0 := fun_mk (st := s_q_is_integer) l0 c0 k0
  have b0 := F0.binds (ps := ["n", "least", "most"]) fun _ _ _ _ _ _ us hl => match us, hl with | [_, _, _], _ => rfl
  have F1 := fun_mk (st := s_q_is_name) l1 c1 k1
  have b1 := F1.binds (ps := ["x"]) fun _ _ _ _ _ _ us hl => match us, hl with | [_], _ => rfl
  have F2 := fun_mk (st := s_q_is_row) l2 c2 k2
  have b2 := F2.binds (ps := ["value", "least"]) fun _ _ _ _ _ _ us hl => match us, hl with | [_, _], _ => rfl
  have F3 := fun_mk (st := s_q_are_names) l3 c3 k3
  have b3 := F3.binds (ps := ["names"]) fun _ _ _ _ _ _ us hl => match us, hl with | [_], _ => rfl
  have F4 := fun_mk (st := s_q_are_pairs) l4 c4 k4
  have b4 := F4.binds (ps := ["rows", "least", "most", "entries"]) fun _ _ _ _ _ _ us hl => match us, hl with | [_, _, _, _], _ => rfl
  have F5 := fun_mk (st := s_q_inner) l5 c5 k5
  have b5 := F5.binds (ps := ["e"]) fun _ _ _ _ _ _ us hl => match us, hl with | [_], _ => rfl
  have F6 := fun_mk (st := s_q_is_simple) l6 c6 k6
  have b6 := F6.binds (ps := ["value"]) fun _ _ _ _ _ _ us hl => match us, hl with | [_], _ => rfl
  have F7 := fun_mk (st := s_q_has_form) l7 c7 k7
  have b7 := F7.binds (ps := ["value"]) fun _ _ _ _ _ _ us hl => match us, hl with | [_], _ => rfl
  have F8 := fun_mk (st := s_q_is_lot) l8 c8 k8
  have b8 := F8.binds (ps := ["value"]) fun _ _ _ _ _ _ us hl => match us, hl with | [_], _ => rfl
  have F9 := fun_mk (st := s_l_start) l9 c9 k9
  have b9 := F9.binds (ps := ["_law_script"]) fun _ _ _ _ _ _ us hl => match us, hl with | [_], _ => rfl
  have F10 := fun_mk (st := s_l_fill) l10 c10 k10
  have b10 := F10.binds (ps := ["_law_c"]) fun _ _ _ _ _ _ us hl => match us, hl with | [_], _ => rfl
  have F11 := fun_mk (st := s_l_take) l11 c11 k11
  have b11 := F11.binds (ps := ["_law_c", "_law_many"]) fun _ _ _ _ _ _ us hl => match us, hl with | [_, _], _ => rfl
  have F12 := fun_mk (st := s_l_words) l12 c12 k12
  have b12 := F12.binds (ps := ["_law_c"]) fun _ _ _ _ _ _ us hl => match us, hl with | [_], _ => rfl
  have F13 := fun_mk (st := s_l_plain) l13 c13 k13
  have b13 := F13.binds (ps := ["_law_c", "_law_words_here"]) fun _ _ _ _ _ _ us hl => match us, hl with | [_, _], _ => rfl
  have F14 := fun_mk (st := s_l_lot) l14 c14 k14
  have b14 := F14.binds (ps := ["_law_c", "_law_words_here", "_law_depth"]) fun _ _ _ _ _ _ us hl => match us, hl with | [_, _, _], _ => rfl
  have F15 := fun_mk (st := s_l_drawn_lot) l15 c15 k15
  have b15 := F15.binds (ps := ["_law_c"]) fun _ _ _ _ _ _ us hl => match us, hl with | [_], _ => rfl
  have F16 := fun_mk (st := s_l_whole) l16 c16 k16
  have b16 := F16.binds (ps := ["_law_n", "_law_least", "_law_most"]) fun _ _ _ _ _ _ us hl => match us, hl with | [_, _, _], _ => rfl
  have F17 := fun_mk (st := s_l_is_name) l17 c17 k17
  have b17 := F17.binds (ps := ["_law_x"]) fun _ _ _ _ _ _ us hl => match us, hl with | [_], _ => rfl
  have F18 := fun_mk (st := s_l_are_names) l18 c18 k18
  have b18 := F18.binds (ps := ["_law_row"]) fun _ _ _ _ _ _ us hl => match us, hl with | [_], _ => rfl
  have F19 := fun_mk (st := s_l_are_pairs) l19 c19 k19
  have b19 := F19.binds (ps := ["_law_rows", "_law_least", "_law_most", "_law_entries"]) fun _ _ _ _ _ _ us hl => match us, hl with | [_, _, _, _], _ => rfl
  have F20 := fun_mk (st := s_l_count) l20 c20 k20
  have b20 := F20.binds (ps := ["_law_e", "_law_depth"]) fun _ _ _ _ _ _ us hl => match us, hl with | [_, _], _ => rfl
  have F21 := fun_mk (st := s_l_is_lot) l21 c21 k21
  have b21 := F21.binds (ps := ["_law_e"]) fun _ _ _ _ _ _ us hl => match us, hl with | [_], _ => rfl
  have F22 := fun_mk (st := s_l_nodes_of) l22 c22 k22
  have b22 := F22.binds (ps := ["_law_value", "_law_found"]) fun _ _ _ _ _ _ us hl => match us, hl with | [_, _], _ => rfl
  have F23 := fun_mk (st := s_l_changed) l23 c23 k23
  have b23 := F23.binds (ps := ["_law_value", "_law_box", "_law_other_here"]) fun _ _ _ _ _ _ us hl => match us, hl with | [_, _, _], _ => rfl
  have F24 := fun_mk (st := s_l_high) l24 c24 k24
  have b24 := F24.binds (ps := ["_law_value"]) fun _ _ _ _ _ _ us hl => match us, hl with | [_], _ => rfl
  have F25 := fun_mk (st := s_l_spoilt) l25 c25 k25
  have b25 := F25.binds (ps := ["_law_c", "_law_value"]) fun _ _ _ _ _ _ us hl => match us, hl with | [_, _], _ => rfl
  have F26 := fun_mk (st := s_l_other) l26 c26 k26
  have b26 := F26.binds (ps := ["_law_c", "_law_e"]) fun _ _ _ _ _ _ us hl => match us, hl with | [_, _], _ => rfl
  have F27 := fun_mk (st := s_l_deep) l27 c27 k27
  have b27 := F27.binds (ps := ["_law_c"]) fun _ _ _ _ _ _ us hl => match us, hl with | [_], _ => rfl
  have F28 := fun_mk (st := s_law) l28 c28 k28
  have b28 := F28.binds (ps := ["_law_script"]) fun _ _ _ _ _ _ us hl => match us, hl with | [_], _ => rfl
  have XX : Fcts K mg := ⟨⟨_, _, PySem.W.mg_of X G a0, F0, b0⟩, ⟨_, _, PySem.W.mg_of X G a1, F1, b1⟩, ⟨_, _, PySem.W.mg_of X G a2, F2, b2⟩, ⟨_, _, PySem.W.mg_of X G a3, F3, b3⟩, ⟨_, _, PySem.W.mg_of X G a4, F4, b4⟩, ⟨_, _, PySem.W.mg_of X G a5, F5, b5⟩, ⟨_, _, PySem.W.mg_of X G a6, F6, b6⟩, ⟨_, _, PySem.W.mg_of X G a7, F7, b7⟩, ⟨_, _, PySem.W.mg_of X G a8, F8, b8⟩, ⟨_, _, PySem.W.mg_of X G a9, F9, b9⟩, ⟨_, _, PySem.W.mg_of X G a10, F10, b10⟩, ⟨_, _, PySem.W.mg_of X G a11, F11, b11⟩, ⟨_, _, PySem.W.mg_of X G a12, F12, b12⟩, ⟨_, _, PySem.W.mg_of X G a13, F13, b13⟩, ⟨_, _, PySem.W.mg_of X G a14, F14, b14⟩, ⟨_, _, PySem.W.mg_of X G a15, F15, b15⟩, ⟨_, _, PySem.W.mg_of X G a16, F16, b16⟩, ⟨_, _, PySem.W.mg_of X G a17, F17, b17⟩, ⟨_, _, PySem.W.mg_of X G a18, F18, b18⟩, ⟨_, _, PySem.W.mg_of X G a19, F19, b19⟩, ⟨_, _, PySem.W.mg_of X G a20, F20, b20⟩, ⟨_, _, PySem.W.mg_of X G a21, F21, b21⟩, ⟨_, _, PySem.W.mg_of X G a22, F22, b22⟩, ⟨_, _, PySem.W.mg_of X G a23, F23, b23⟩, ⟨_, _, PySem.W.mg_of X G a24, F24, b24⟩, ⟨_, _, PySem.W.mg_of X G a25, F25, b25⟩, ⟨_, _, PySem.W.mg_of X G a26, F26, b26⟩, ⟨_, _, PySem.W.mg_of X G a27, F27, b27⟩, ⟨_, _, PySem.W.mg_of X G a28, F28, b28⟩, PySem.W.mg_none_of X G z0, PySem.W.mg_none_of X G z1, PySem.W.mg_none_of X G z2, PySem.W.mg_none_of X G z3, PySem.W.mg_none_of X G z4, PySem.W.mg_none_of X G z5, PySem.W.mg_none_of X G z6, PySem.W.mg_none_of X G z7, PySem.W.mg_none_of X G z8, PySem.W.mg_none_of X G z9, PySem.W.mg_none_of X G z10, PySem.W.mg_none_of X G z11, con_int (PySem.W.mg_of X G q_MOST_CHARACTERS), con_str (PySem.W.mg_of X G q_CHARACTERS), con_int (PySem.W.mg_of X G q_MOST_ENTRIES), con_int (PySem.W.mg_of X G q_MOST_LOTS), con_int (PySem.W.mg_of X G q_MOST_DEPTH)⟩
  exact ⟨PySem.W.fnOf "law" "law" (defArgs s_law) (defBody s_law) (defScope s_law) .none kV28 dc28 pm28 an28 cd28 ct28, fun s v => .of_eq rfl, fun base _ _ => ok_law XX F28⟩
end MI
open PySem PySem.W PyProof.Rows
set_option maxHeartbeats 0 in
theorem PySem.Challenge.cw_sortes_k30_lots_holds : PySem.Challenge.rw_sortes_k30_lots.Holds := by
  w_on; o_law; k_head; (case hw => w_witness2)
  k_fill
  refine L2.walk_of (l := PySem.Challenge.rw_sortes_k30_lots) (n := 63) (k := 202) (x := "_law_script") (CX := fun _ => L2.CX0) (sp := fun w => MI.spD _ (fun _ => 0) 1 MI.f_law) rfl (by decide) rfl ⟨rfl, by decide, by decide⟩ (fun w h Y => PySem.W.kIn_of Y) ?F (fun _ _ a ns hl _ hS => MI.law_start hl hS) (fun _ _ _ _ _ h => h)
  case F =>
    intro w mg fa h KX G hmg
    refine' MI.all_mk KX G hmg ?a0 ?l0 ?c0 ?k0 ?a1 ?l1 ?c1 ?k1 ?a2 ?l2 ?c2 ?k2 ?a3 ?l3 ?c3 ?k3 ?a4 ?l4 ?c4 ?k4 ?a5 ?l5 ?c5 ?k5 ?a6 ?l6 ?c6 ?k6 ?a7 ?l7 ?c7 ?k7 ?a8 ?l8 ?c8 ?k8 ?a9 ?l9 ?c9 ?k9 ?a10 ?l10 ?c10 ?k10 ?a11 ?l11 ?c11 ?k11 ?a12 ?l12 ?c12 ?k12 ?a13 ?l13 ?c13 ?k13 ?a14 ?l14 ?c14 ?k14 ?a15 ?l15 ?c15 ?k15 ?a16 ?l16 ?c16 ?k16 ?a17 ?l17 ?c17 ?k17 ?a18 ?l18 ?c18 ?k18 ?a19 ?l19 ?c19 ?k19 ?a20 ?l20 ?c20 ?k20 ?a21 ?l21 ?c21 ?k21 ?a22 ?l22 ?c22 ?k22 ?a23 ?l23 ?c23 ?k23 ?a24 ?l24 ?c24 ?k24 ?a25 ?l25 ?c25 ?k25 ?a26 ?l26 ?c26 ?k26 ?a27 ?l27 ?c27 ?k27 ?a28 ?l28 ?c28 ?k28 ?z0 ?z1 ?z2 ?z3 ?z4 ?z5 ?z6 ?z7 ?z8 ?z9 ?z10 ?z11 ?q_MOST_CHARACTERS ?q_CHARACTERS ?q_MOST_ENTRIES ?q_MOST_LOTS ?q_MOST_DEPTH
    (case a0 => k_is); (case l0 => k_is); (case c0 => k_is); (case k0 => k_is); (case a1 => k_is); (case l1 => k_is); (case c1 => k_is); (case k1 => k_is); (case a2 => k_is); (case l2 => k_is); (case c2 => k_is); (case k2 => k_is); (case a3 => k_is); (case l3 => k_is); (case c3 => k_is); (case k3 => k_is); (case a4 => k_is); (case l4 => k_is); (case c4 => k_is); (case k4 => k_is); (case a5 => k_is); (case l5 => k_is); (case c5 => k_is); (case k5 => k_is); (case a6 => k_is); (case l6 => k_is); (case c6 => k_is); (case k6 => k_is); (case a7 => k_is); (case l7 => k_is); (case c7 => k_is); (case k7 => k_is); (case a8 => k_is); (case l8 => k_is); (case c8 => k_is); (case k8 => k_is); (case a9 => k_is); (case l9 => k_is); (case c9 => k_is); (case k9 => k_is); (case a10 => k_is); (case l10 => k_is); (case c10 => k_is); (case k10 => k_is); (case a11 => k_is); (case l11 => k_is); (case c11 => k_is); (case k11 => k_is); (case a12 => k_is); (case l12 => k_is); (case c12 => k_is); (case k12 => k_is); (case a13 => k_is); (case l13 => k_is); (case c13 => k_is); (case k13 => k_is); (case a14 => k_is); (case l14 => k_is); (case c14 => k_is); (case k14 => k_is); (case a15 => k_is); (case l15 => k_is); (case c15 => k_is); (case k15 => k_is); (case a16 => k_is); (case l16 => k_is); (case c16 => k_is); (case k16 => k_is); (case a17 => k_is); (case l17 => k_is); (case c17 => k_is); (case k17 => k_is); (case a18 => k_is); (case l18 => k_is); (case c18 => k_is); (case k18 => k_is); (case a19 => k_is); (case l19 => k_is); (case c19 => k_is); (case k19 => k_is); (case a20 => k_is); (case l20 => k_is); (case c20 => k_is); (case k20 => k_is); (case a21 => k_is); (case l21 => k_is); (case c21 => k_is); (case k21 => k_is); (case a22 => k_is); (case l22 => k_is); (case c22 => k_is); (case k22 => k_is); (case a23 => k_is); (case l23 => k_is); (case c23 => k_is); (case k23 => k_is); (case a24 => k_is); (case l24 => k_is); (case c24 => k_is); (case k24 => k_is); (case a25 => k_is); (case l25 => k_is); (case c25 => k_is); (case k25 => k_is); (case a26 => k_is); (case l26 => k_is); (case c26 => k_is); (case k26 => k_is); (case a27 => k_is); (case l27 => k_is); (case c27 => k_is); (case k27 => k_is); (case a28 => k_is); (case l28 => k_is); (case c28 => k_is); (case k28 => k_is); (case z0 => k_is); (case z1 => k_is); (case z2 => k_is); (case z3 => k_is); (case z4 => k_is); (case z5 => k_is); (case z6 => k_is); (case z7 => k_is); (case z8 => k_is); (case z9 => k_is); (case z10 => k_is); (case z11 => k_is); (case q_MOST_CHARACTERS => k_is); (case q_CHARACTERS => k_is); (case q_MOST_ENTRIES => k_is); (case q_MOST_LOTS => k_is); (case q_MOST_DEPTH => k_is)
