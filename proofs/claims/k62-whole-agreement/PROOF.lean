import PyProof.Rows.All
import Wide.All
import OpenK.AllK
import Wide.FinOn
import KE.KDictDisplayH
import PyProof.Rows.SortShellAny
import HandS.ForMost
import HandS.Exc
import HandS.ExcOwn
import HandS.TryOnly
import HandS.WordsExc
import HandS.Deep
import HandS.Conv
import HandS.Strs
import HandS.TupAny
import HandS.TupMul
import HandS.Defaults
import HandS.MakeKwOnly
import HandS.Codes
import PyProof.Rows.SetFrom
import HandS.SetFor
import HandS.HeadHook1
import HandS.HeadHook2
import PySem.Challenge.RW_covernets_k62_whole_agreement
import KE.KStateDown
import Lean
import HandS.More
import HandS.Head0
import HandS.Head1
import HandS.Head2
import HandS.HeadEnd
set_option Elab.async false
set_option linter.all false
set_option maxRecDepth 100000
set_option maxHeartbeats 4000000
/-! rules of the hand layer that this law wants besides -/
namespace C62
open PySem PySem.Spec PyProof.Rows L2
section
variable {X : Cx}
/-- xs[j], read by values at a place from the left, for xs[j] += e -/
def rGetN (K : PySem.W.Frag) : V → V → Hp → VK → Prop := fun o i H Q => ∃ (p : Addr) (xs : List V) (j : Nat) (v : V), o = .ref p ∧ i = .int (j : Nat) ∧ SqL K H p xs ∧ xs[j]? = some v ∧ Q v H
theorem get_list : PGet X (rGetN X.K) := by
  rintro pins s σ H o i ov iv Q I ro ri ⟨p, xs, j, z, rfl, rfl, hq, hz, q⟩
  cases ro
  obtain ⟨tk, rfl⟩ := ri
  obtain ⟨its, rv, pl, hlen⟩ := I.list hq
  obtain ⟨w, ew, rw'⟩ := rv.get hz
  have hj : j < xs.length := (List.getElem?_eq_some_iff.mp hz).1
  have hs := sizeLine_eq
  refine wpAny_getItem_list pl.isList (by omega) (by omega) (by simpa using ew) ⟨z, H, I, rw', q⟩
/-- what is walked is a list or a tuple -/
def iSeq (K : PySem.W.Frag) (tl : TE) : TI := fun σ H R => iList K tl σ H R ∨ iTup K tl σ H R
theorem pi_seq {tg l : Expr} {tl : TE} (hl : PE X l tl) : PI X tg l (iSeq X.K tl) := by
  refine ⟨fun pins s σ H R I h => ?_⟩
  rcases h with h | h
  · exact (pi_list hl).run pins s σ H R I h
  · exact (pi_tup hl).run pins s σ H R I h
end

/-! ### a tuple times a number, none, one or more -/
section
open AutoSeq1 (wpAny_loadPart')
theorem tup_mul_none (l : Addr) (items : Array Value) (n : Nat) (dd : Option Addr) (sl : Array (Option Value)) (u : Tok) (hne : items.isEmpty = false) :
    Meets (Builtin.«tuple.__mul__» ⟨[.ref l, .int 0 u], []⟩) (fun _ R s => s.heap.get? l = some { cls := .type "tuple", dict := dd, data := .seq items n, slots := sl } ∧
      R (.ok (.ret (Value.ref s.heap.objs.size))) { s with heap := s.heap.push { cls := Value.type "tuple", data := Data.seq #[] }, toks := s.toks }) :=
  .of_wp fun prog w A R s hyp => by
    obtain ⟨hp, gs, dr, tk, os⟩ := s
    obtain ⟨hl, hyp⟩ := hyp
    have idx := AutoSeq1.idx_int
    have c1 : (items.isEmpty || (0 : Int) == 1) = false := by rw [hne]; rfl
    have c2 : (decide ((0 : Int) ≤ 0) || items.isEmpty) = true := rfl
    wp_walk using wpAny_loadPart' hl
    repeat (first
      | (refine wpAny_ite_false (decide_eq_false (by rw [c1]; exact Bool.false_ne_true)) ?_; wp_walk using wpAny_loadPart' hl)
      | (refine wpAny_ite_true (decide_eq_true c2) ?_; wp_walk using wpAny_loadPart' hl))
    exact ⟨_, rfl, hyp⟩
theorem tup_mul_same (l : Addr) (items : Array Value) (n : Nat) (dd : Option Addr) (sl : Array (Option Value)) (u : Tok) :
    Meets (Builtin.«tuple.__mul__» ⟨[.ref l, .int 1 u], []⟩) (fun _ R s => s.heap.get? l = some { cls := .type "tuple", dict := dd, data := .seq items n, slots := sl } ∧
      R (.ok (.ret (Value.ref l))) s) :=
  .of_wp fun prog w A R s hyp => by
    obtain ⟨hp, gs, dr, tk, os⟩ := s
    obtain ⟨hl, hyp⟩ := hyp
    have idx := AutoSeq1.idx_int
    have c1 : (items.isEmpty || (1 : Int) == 1) = true := by cases items.isEmpty <;> rfl
    wp_walk using wpAny_loadPart' hl
    repeat (first
      | (refine wpAny_ite_true (decide_eq_true c1) ?_; wp_walk using wpAny_loadPart' hl))
    exact ⟨_, rfl, hyp⟩
end

section
variable {X : Cx}
/-- t * k, t a tuple that is not empty, k from 0 to 1000 -/
def rRepT0 (K : PySem.W.Frag) : R2 := fun x y H Q => ∃ (l : Addr) (k : Int) (xs : List V), x = .ref l ∧ y = .int k ∧ SqT K H l xs ∧ xs ≠ [] ∧ 0 ≤ k ∧ k ≤ 1000 ∧ xs.length ≤ 1000 ∧
  (k = 1 → Q (.ref l) H) ∧ (k ≠ 1 → ∀ p, H p = none → Q (.ref p) (upd H p (.tup (List.replicate k.toNat xs).flatten)))
theorem op_repT0 : OpR X (binaryOp .Mult) (rRepT0 X.K) := by
  rintro pins s σ H x y v u Q I rx ry ⟨l, k, xs, rfl, rfl, hT, hne, k0, k1, hz, q1, q2⟩
  by_cases k2 : 2 ≤ k
  · exact op_repT pins s σ H _ _ v u Q I rx ry ⟨l, k, xs, rfl, rfl, hT, hne, k2, k1, hz, q2 (by omega)⟩
  cases rx
  obtain ⟨tk, rfl⟩ := ry
  obtain ⟨its, rv, ⟨⟨cls, dd, data, sl⟩, ho, hc, n, hd⟩, hs⟩ := I.tuple hT
  simp only at hc hd
  subst hc hd
  have hle := rv.length
  have hi : its.toArray.isEmpty = false := by
    cases its with
    | nil => exact absurd (List.eq_nil_of_length_eq_zero hle) hne
    | cons a b => rfl
  by_cases e1 : k = 1
  · subst e1
    exact wpAny_binaryOp_repeat_ref (T := "tuple") (U := "int") (by decide) ⟨_, ho, rfl⟩ (fun s' => typeIs_int s' 1 tk) noFill_tuple_mul F.fills_int_mul F.slot_int_rmul repeat_tuple F.slot_int_index.lookup
      (call_meets F.slot_int_rmul (typeIs_int s 1 tk) F.entry_int_rmul (F.args_int_rmul_2 _ _) (int_rmul_tuple 1 tk l its.toArray n dd sl)
        ⟨ho, rfl, ⟨_, ho, rfl⟩, call_meets F.slot_tuple_mul ⟨_, ho, rfl⟩ F.entry_tuple_mul (F.args_tuple_mul_2 _ _) (tup_mul_same l its.toArray n dd sl tk) ⟨ho, ⟨.ref l, H, I, rfl, q1 rfl⟩⟩⟩)
  · obtain rfl : k = 0 := by omega
    refine wpAny_binaryOp_repeat_ref (T := "tuple") (U := "int") (by decide) ⟨_, ho, rfl⟩ (fun s' => typeIs_int s' 0 tk) noFill_tuple_mul F.fills_int_mul F.slot_int_rmul repeat_tuple F.slot_int_index.lookup
      (call_meets F.slot_int_rmul (typeIs_int s 0 tk) F.entry_int_rmul (F.args_int_rmul_2 _ _) (int_rmul_tuple 0 tk l its.toArray n dd sl)
        ⟨ho, rfl, ⟨_, ho, rfl⟩, call_meets F.slot_tuple_mul ⟨_, ho, rfl⟩ F.entry_tuple_mul (F.args_tuple_mul_2 _ _) (tup_mul_none l its.toArray n dd sl tk hi) ⟨ho, ?_⟩⟩)
    refine ⟨.ref s.heap.objs.size, _, I.laid (t' := s.toks) (o := .tup []) (fun b ob q => Heap.get?_push_of_some _ q) (Nat.le_refl _) ?_, rfl, q2 (by decide) _ (I.hok.fresh (Nat.le_refl _))⟩
    exact ⟨Nat.zero_le _, [], .nil, IsTup.new _ _⟩
end

/-! ### len(set(xs)) -/
section
variable {prog : Program} {w : World} {A : Around} {R : Result → Shared → Prop} {I : Addr} {fp wr : List Addr} {G : Array GenState → Array GenState → Prop} {n : Nat} {P : Nat → Value → Prop} {St : Nat → Shared → Prop}
theorem any_take_succ {xs : List Str} {i : Nat} (hi : i < xs.length) (k' : Str) : ((xs.take i).any (· == k') || decide (k' = xs.getD i Str.empty)) = (xs.take (i + 1)).any (· == k') := by
  have e : xs.getD i Str.empty = xs[i] := by rw [List.getD_eq_getElem?_getD, List.getElem?_eq_getElem hi] <;> rfl
  rw [e, List.take_succ, List.getElem?_eq_getElem hi, List.any_append]
  congr 1
  show decide (k' = xs[i]) = (xs[i] == k' || false)
  rw [Bool.or_false]
  by_cases h : k' = xs[i]
  · rw [decide_eq_true h, h]; exact (beq_self_eq_true _).symm
  · rw [decide_eq_false h]; exact (beq_eq_false_iff_ne.mpr fun z => h z.symm).symm
theorem not_any_take {xs : List Str} (nd : xs.Nodup) {i : Nat} (hi : i < xs.length) : (xs.take i).any (· == xs.getD i Str.empty) = false := by
  have e : xs.getD i Str.empty = xs[i] := by rw [List.getD_eq_getElem?_getD, List.getElem?_eq_getElem hi] <;> rfl
  rw [e]
  cases q : (xs.take i).any (· == xs[i]) with
  | false => rfl
  | true =>
    obtain ⟨y, hy, ey⟩ := List.any_eq_true.mp q
    obtain ⟨j, hj, ej⟩ := List.getElem_of_mem hy
    have hji : j < i := by rw [List.length_take] at hj; omega
    have e4 : xs[j]'(by omega) = xs[i] := by rw [← beq_iff_eq.mp ey, ← ej, List.getElem_take]
    exact absurd e4 (List.pairwise_iff_getElem.mp nd j i (by omega) hi hji)
/-- texts that differ go into a set one by one -/
theorem set_of_texts (W : WalksS prog w A.in1 I fp wr G n P St) (a : Addr) (haf : a ∉ fp) (xs : List Str) (hsz : xs.length = n) (nd : xs.Nodup) (hb : n + 1 < scanBound)
    (hval : ∀ i v, P i v → ∃ t, v = .str (xs.getD i Str.empty) t) :
    ∀ (m i : Nat) (s : Shared), n - i = m → i ≤ n → St i s → s.heap.SetOf (PySem.strKind prog w) a (fun k' => (xs.take i).any (· == k')) i →
      (∀ s', Moved (a :: wr) G s s' → s'.heap.SetOf (PySem.strKind prog w) a (fun k' => (xs.take n).any (· == k')) n → R (.ok (.ret .none)) s') →
      codeAny (model prog w) A (.builtin "set.update.loop" ⟨[.ref a, .ref I], []⟩) R s := by
  have haw : a ∉ wr := fun z => haf (W.sub _ z)
  have more : ∀ b ∈ wr, b ∈ a :: wr := fun b z => List.mem_cons_of_mem _ z
  intro m
  induction m with
  | zero =>
    intro i s hm hi st hS goal
    obtain rfl : i = n := by omega
    refine codeAny_builtin PyProof.Rows.F.entry_set_update_loop ?_
    rw [Around.under_plainId PyProof.Rows.F.plain_set_update_loop _]
    show wpAny _ A.in1 (pyNext (.ref I) >>= _) _ _ s
    refine wpAny_bind (W.done s _ _ st fun s' mv => ?_)
    show wpAny _ A.in1 (ret Value.none) _ _ s'
    refine wpAny_pure (goal s' (mv.mono more) ?_)
    obtain ⟨o, es, ep, t, ho, r⟩ := hS
    exact ⟨o, es, ep, t, mv.heap a _ haw ho, r⟩
  | succ m ih =>
    intro i s hm hi st hS goal
    have hlt : i < n := by omega
    refine codeAny_builtin PyProof.Rows.F.entry_set_update_loop ?_
    rw [Around.under_plainId PyProof.Rows.F.plain_set_update_loop _]
    show wpAny _ A.in1 (pyNext (.ref I) >>= _) _ _ s
    refine wpAny_bind (W.item i s _ _ hlt st fun v s' pv st' mv => ?_)
    obtain ⟨t, rfl⟩ := hval i v pv
    have hS' : s'.heap.SetOf (PySem.strKind prog w) a (fun k' => (xs.take i).any (· == k')) i := by
      obtain ⟨o, es, ep, tb, ho, r⟩ := hS
      exact ⟨o, es, ep, tb, mv.heap a _ haw ho, r⟩
    show wpAny _ A.in1 (holding [Value.str (xs.getD i Str.empty) t] (setAdd a (.str (xs.getD i Str.empty) t)) >>= _) _ _ s'
    refine wpAny_bind (wpAny_holding ?_)
    unfold setAdd
    refine wpAny_holding (wpAny_bind ((PySem.strKind prog w).pyHash (k := xs.getD i Str.empty) (strKind_is _ _ _ _) ?_))
    refine wpAny_setAddHashed_of (knd := PySem.strKind prog w) (s := { s' with toks := s'.toks + 1 }) (strKind_is _ _ _ _) rfl hS' (by omega) fun g' sb hS2 => ?_
    have hSi : g'.SetOf (PySem.strKind prog w) a (fun k' => (xs.take (i + 1)).any (· == k')) (i + 1) :=
      SetOf_congr hS2 (fun k' => any_take_succ (by omega) k') (by rw [not_any_take nd (by omega)]; rfl)
    refine wpAny_pure ⟨plainId_quiet PyProof.Rows.F.plain_set_update_loop _, ih (i + 1) _ (by omega) hlt (W.frame _ s' _ _ st' (Nat.le_succ _) fun b hbf o e => ?_) hSi fun s2 mv2 hS3 => ?_⟩
    · rw [sb.2 b fun z => haf (z ▸ hbf)]; exact e
    · refine goal s2 (Moved.trans W.gtrans ((mv.mono more).then_heap (Nat.le_succ _) fun b o hbw e => ?_) mv2) hS3
      rw [sb.2 b fun z => hbw (z ▸ List.mem_cons_self)]; exact e
end
section
variable {prog : Program} {w : World} {A : Around} {E : Value → Shared → Prop} {s : Shared}
abbrev newSet (lg : Bool) : Obj := { cls := .type "set", dict := none, data := .set #[] 0 (.fresh 0 0 lg) }
theorem call_set_texts {l : Addr} {items : Array Value} {xs : List Str} {Q : Value → Shared → Prop}
    (hh : A.handled = none) (hl : s.heap.IsList l items) (hi : PyProof.Rows.StrsAre items.toList xs) (nd : xs.Nodup) (hb : xs.length + 1 < scanBound)
    (goal : ∀ (g' : Heap) (tk : Nat), g'.SetOf (PySem.strKind prog w) s.heap.objs.size (fun k' => (xs.take items.size).any (· == k')) items.size →
      (∀ b o, b < s.heap.objs.size → s.heap.get? b = some o → g'.get? b = some o) → Q (.ref s.heap.objs.size) { s with heap := g', toks := tk }) :
    wpAny (model prog w) A (call (.type "set") [.ref l]) Q E s := by
  obtain ⟨c, tl, hmro⟩ := PySem.F.called_set.mro
  have w1 := PySem.F.called_set.made
  have w2 := PySem.F.called_set.sub
  refine wpAny_call (codeAny_of_tree ?_)
  show wpAny _ _ (callAny (.type "set") _) _ _ _
  refine wpAny_pure ⟨Code.quiet_builtin _ (by decide +kernel), codeAny_builtin PySem.F.entry_type_call ?_⟩
  rw [Around.under_plain (weight_type_call_type "set" [.ref l] []) rfl]
  have w3 := PySem.F.called_set.notType
  have w4 := PySem.F.called_set.canCreate
  have w5 := PySem.F.typeCall_set_1 (.ref l)
  repeat (any_goals (first | assumption | wp_step))
  refine codeAny_mono (code_set_new_1 (.ref l) (E := E) (Q₁ := fun ob s₁ => ∃ lg : Bool, ob = .ref s.heap.objs.size ∧ s₁ = { s with heap := s.heap.push (newSet lg) }) fun lg => ⟨lg, rfl, rfl⟩) fun r s₁ hr => ?_
  rcases r with er | fl
  · exact hr
  cases fl with
  | ret ob =>
    obtain ⟨lg, rfl, rfl⟩ := hr
    have hS : (s.heap.push (newSet lg)).get? s.heap.objs.size = some (newSet lg) := Heap.get?_push_size _ rfl
    have hT : Shared.TypeIs { s with heap := s.heap.push (newSet lg) } (.ref s.heap.objs.size) "set" := ⟨_, hS, rfl⟩
    have w6 := PySem.F.called_set.init.lookup
    have w7 := PySem.F.called_set.init.bind (.ref s.heap.objs.size)
    repeat (any_goals (first | assumption | wp_step))
    refine codeAny_mono (codeAny_call_builtin (R := wants (fun r s₂ => r = .none ∧ ∃ g' tk, s₂ = { s with heap := g', toks := tk } ∧ g'.SetOf (PySem.strKind prog w) s.heap.objs.size (fun k' => (xs.take items.size).any (· == k')) items.size ∧
        (∀ b o, b < s.heap.objs.size → s.heap.get? b = some o → g'.get? b = some o)) E) PySem.F.called_set.init.plain PySem.F.entry_set_init (check_set_init_1 hT ?_)) fun r₂ s₂ hr₂ => ?_
    · obtain ⟨⟨ocls, od, odt, osl⟩, hol, hcl, nl, hdl⟩ := hl
      simp only at hcl hdl
      subst hcl; subst hdl
      have hol' : (s.heap.push (newSet lg)).get? l = some { cls := .type "list", dict := od, data := .seq items nl, slots := osl } := Heap.get?_push_of_some _ hol
      have w8 := PySem.F.sub_list_set
      have w9 := PySem.F.sub_list_frozenset
      have wa : (Value.type "list" == Value.type "dict") = false := by decide
      have hl1 : (s.heap.push (newSet lg)).IsList l items := ⟨_, hol', rfl, nl, rfl⟩
      unfold Builtin.«set.__init__» noKeywords Builtin.Frozenset.updateFrom
      generalize hPI : pyIter = PI
      wp_walk
      subst hPI
      refine wpAny_pyIter_list hl1 (wpAny_bind (wpAny_runValue ?_))
      have hlS : l < s.heap.objs.size := Heap.lt_size hol
      have hh3 : A.in1.in1.in1.handled = none := by simp [hh]
      have sz : (s.heap.push (newSet lg)).objs.size = s.heap.objs.size + 1 := Heap.size_push _ _
      have hneI : l ≠ (s.heap.push (newSet lg)).objs.size := by
        rw [sz]; exact Nat.ne_of_lt (Nat.lt_succ_of_lt hlS)
      have hSf : s.heap.objs.size ∉ [(s.heap.push (newSet lg)).objs.size, l] := by
        rw [sz]
        intro z
        rcases List.mem_cons.mp z with z | z
        · exact absurd z (Nat.ne_of_lt (Nat.lt_succ_self _))
        · exact absurd (List.mem_singleton.mp z) (Nat.ne_of_gt hlS)
      have hsz : xs.length = items.size := by rw [← StrsAre.len_eq hi, Array.length_toList]
      have hval : ∀ (i : Nat) (v : Value), items[i]? = some v → ∃ t, v = .str (xs.getD i Str.empty) t := fun i v hv => SS.strs_at hi i v (by rw [Array.getElem?_toList]; exact hv)
      refine set_of_texts ((Walks.list hh3 _ l hneI items).toS) s.heap.objs.size hSf xs hsz nd (by rw [← hsz]; exact hb) hval (items.size - 0) 0 _ (by omega) (Nat.zero_le _) ⟨⟨_, Heap.get?_push_size _ rfl, rfl, rfl⟩, (hl1.push _)⟩ ?start ?fin
      case start =>
        have hget : ((s.heap.push (newSet lg)).push { cls := .type "list_iterator", data := .fields #[.ref l, .int 0 0] }).get? s.heap.objs.size = some (newSet lg) := Heap.get?_push_of_some _ hS
        exact PyProof.Rows.SetOf_congr ((PyProof.Rows.setObjOf_fresh (knd := PySem.strKind prog w) lg).setOf hget (by unfold scanBound; omega)) (fun _ => rfl) rfl
      case fin =>
        rintro ⟨g', gs', dr', tk', os'⟩ hm hS'
        obtain rfl : gs' = s.gens := hm.gens
        obtain rfl : dr' = s.drawn := hm.drawn
        obtain rfl : os' = s.os := hm.os
        show wpAny _ _ _ _ _ _
        refine wpAny_pure ?_
        show wpAny _ _ (ret Value.none) _ _ _
        refine wpAny_pure ⟨rfl, g', tk', rfl, hS', fun b o hlt e => hm.heap b o (fun z => ?_) (Heap.get?_push_of_some _ (Heap.get?_push_of_some _ e))⟩
        rcases List.mem_cons.mp z with z | z
        · exact absurd z (Nat.ne_of_lt hlt)
        · rw [List.mem_singleton.mp z, sz] at hlt
          omega
    · rcases r₂ with er | fl₂
      · exact hr₂
      cases fl₂ with
      | ret r =>
        obtain ⟨rfl, g', tk, rfl, hS', kept⟩ := hr₂
        repeat (any_goals (first | assumption | wp_step))
        exact goal _ _ hS' kept
      | _ => exact hr₂.elim
  | _ => exact hr.elim
end
end C62
set_option Elab.async false
set_option linter.all false
set_option maxRecDepth 100000
set_option maxHeartbeats 4000000
/-! a tuple of the heap whose object is known to hold no dict, for t.index(x) -/
namespace C62
open PySem PySem.Spec PyProof.Rows L2
/-- a new tuple, its object known -/
def BareT (H : Hp) (a : Addr) (xs : List V) : Prop := ∃ o : Obj, H a = some (.frz o (.tup xs)) ∧ o.cls = .type "tuple" ∧ o.dict = none
theorem BareT.sqT {K : PySem.W.Frag} {H : Hp} {a : Addr} {xs : List V} (h : BareT H a xs) : SqT K H a xs := by
  obtain ⟨o, h, _⟩ := h
  exact .inl (.inr ⟨o, h⟩)
section
variable {X : Cx}
theorem call_tuple_bare : CallR X (.type "tuple") (fun xs H Q => ∃ p ys, xs = [.ref p] ∧ SqL X.K H p ys ∧ ∀ l o, H l = none → o.cls = .type "tuple" → o.dict = none → Q (.ref l) (upd H l (.frz o (.tup ys)))) := by
  intro pins s σ H xs us Q I r h
  obtain ⟨p, ys, rfl, hq, q⟩ := h
  obtain ⟨u, rfl, rx⟩ := vals1 r
  cases rx
  obtain ⟨its, r', pl, hz⟩ := I.list hq
  have hlen := r'.length
  refine call_tuple_list pl.isList (fun h' kp => ?_) (by simp only [List.size_toArray] <;> omega)
  have I1 : Inv X pins σ H { s with heap := h' } := I.kept (t' := s.toks) kp
  have I2 : Inv X pins σ (upd H h'.objs.size (.frz { cls := .type "tuple", data := .seq its.toArray } (.tup ys))) { s with heap := h'.push { cls := .type "tuple", data := .seq its.toArray } } :=
    I1.laid (t' := s.toks) (fun b o e => Heap.get?_push_of_some _ e) (Nat.le_refl _) (show ObjOk X.prog X.w _ _ _ (.frz _ (.tup ys)) from ⟨Heap.get?_push_size _ rfl, hz, its, r', IsTup.new _ _⟩)
  exact ⟨.ref h'.objs.size, _, I2, rfl, q _ _ (I1.hok.fresh (Nat.le_refl _)) rfl rfl⟩
/-- t.m(e) of such a tuple -/
def tBT (r : V → List V → Hp → VK → Prop) (to : TE) (t : TA) : TE := fun σ H Q => to σ H fun x H1 => (∃ a xs, x = .ref a ∧ BareT H1 a xs) ∧ t σ H1 fun vs H2 => r x vs H2 Q
variable {o e : Expr} {es : List Expr} {to : TE} {t : TA} {name : Str} {apos cpos : Pos} {id : String} {r : V → List V → Hp → VK → Prop}
theorem pe_bmT (slot : Slot "tuple" name id) (hty : typeOf (.builtin id) = pure (.type "method_descriptor")) (hm : MtR X id r) (ho : PE X o to) (ha : PA X (e :: es) t)
    (hbase : attributeBase o name X.env (eval o X.env) = eval o X.env := by rfl)
    (hfew : ((backTo cpos (starEach (e :: es) X.env)).all (fun x => !x.1) && (backToKw cpos (keywordEach [] X.env)).all (fun x => x.1.isSome)
      && decide ((e :: es).length + ([] : List Keyword).length + (if ([] : List Keyword).isEmpty then 0 else 1) < 30)) = true := by rfl)
    (hline : (apos.endLine == cpos.line) = true := by rfl) (hs : starEach (e :: es) X.env = (false, eval e X.env) :: starEach es X.env := by rfl) (hplain : (backTo cpos (starEach es X.env)).any (·.1) = false := by rfl) :
    PE X (.Call (.Attribute o name apos) (e :: es) [] cpos) (tBT r to t) := by
  refine ⟨fun pins s σ H Q I h => ?_⟩
  refine wpAny_Call_method_late hbase hfew hline rfl (thn (ho.run pins s σ H _ I h) fun v s1 ⟨x, H1, I1, r1, ⟨a, xs, ex, ob, hob, hc, hd⟩, q1⟩ => ?_)
  subst ex
  cases r1
  obtain ⟨hg, _⟩ := (show ObjOk X.prog X.w H1 s1.heap a (.frz ob (.tup xs)) from I1.hok a _ hob)
  refine ⟨"tuple", id, PySem.F.plainAttrs_tuple, slot, hty, ⟨ob, hg, hc⟩, fun b eb => by cases eb; exact ⟨ob, hg, hd⟩, ?_⟩
  have hA := ha.run cpos pins s1 σ H1 _ I1 q1
  rw [hs] at hA ⊢
  refine Calls.callWith_builtin (by show (false || (backTo cpos (starEach es X.env)).any (·.1)) = false; rw [hplain] <;> rfl) (Calls.evalArgs_plain ?_)
  exact thn hA fun us s2 ⟨vs, H2, I2, r2, q2⟩ => hm pins s2 σ H2 (.ref a) vs _ us Q I2 rfl r2 q2
end
end C62
set_option linter.all false
namespace C62
/-! ### lists without doubles -/
section
variable {α : Type} [DecidableEq α]
theorem len_le_of_sub : ∀ {L M : List α}, L.Nodup → (∀ x ∈ L, x ∈ M) → L.length ≤ M.length
  | [], _, _, _ => Nat.zero_le _
  | a :: L, M, nd, sub => by
    obtain ⟨h1, h2⟩ := List.nodup_cons.mp nd
    have ha : a ∈ M := sub a List.mem_cons_self
    have ih := len_le_of_sub (L := L) (M := M.erase a) h2 fun x hx => by
      have hne : x ≠ a := fun e => h1 (e ▸ hx)
      exact (List.mem_erase_of_ne hne).mpr (sub x (List.mem_cons_of_mem _ hx))
    rw [List.length_erase_of_mem ha] at ih
    have hp : 0 < M.length := List.length_pos_of_mem ha
    rw [List.length_cons]
    omega
theorem len_eq_iff {L M : List α} (nd : L.Nodup) (h : ∀ x, x ∈ L ↔ x ∈ M) : L.length = M.length ↔ M.Nodup := by
  constructor
  · intro e
    refine Classical.byContradiction fun hn => ?_
    have : ∀ {N : List α}, ¬ N.Nodup → ∃ N' : List α, N'.length + 1 = N.length ∧ ∀ x, x ∈ N ↔ x ∈ N' := by
      intro N
      induction N with
      | nil => intro z; exact absurd List.nodup_nil z
      | cons a r ih =>
        intro z
        by_cases ha : a ∈ r
        · exact ⟨r, rfl, fun x => ⟨fun q => (List.mem_cons.mp q).elim (fun e => e ▸ ha) id, List.mem_cons_of_mem _⟩⟩
        · obtain ⟨r', e1, e2⟩ := ih fun nd => z (List.nodup_cons.mpr ⟨ha, nd⟩)
          exact ⟨a :: r', by simp [e1], fun x => by simp [e2 x]⟩
    obtain ⟨N', e1, e2⟩ := this hn
    have := len_le_of_sub nd fun x hx => (e2 x).mp ((h x).mp hx)
    omega
  · intro nm
    have a := len_le_of_sub nd fun x hx => (h x).mp hx
    have b := len_le_of_sub nm fun x hx => (h x).mpr hx
    omega
end
end C62
set_option Elab.async false
set_option linter.all false
set_option maxRecDepth 100000
set_option maxHeartbeats 4000000
namespace C62
open PySem PySem.Spec PyProof.Rows L2
section
variable {X : Cx}
/-- len(set(xs)), xs a list of texts that differ -/
def tLenSetS (K : PySem.W.Frag) (ta : TE) : TE := fun σ H Q => ta σ H fun x H1 => ∃ (l : Addr) (zs : List Str), x = V.ref l ∧ SqL K H1 l (zs.map V.str) ∧ zs.length < 64 ∧ zs.Nodup ∧ Q (.int zs.length) H1
theorem pe_lenSetS {a : Expr} {ta : TE} {p p2 q pos : Pos} (hc : X.calm = true) (hg : Gl X "len") (hm : X.mg "len" = none) (hg2 : Gl X "set") (hm2 : X.mg "set" = none) (ha : PE X a ta)
    (na : starEach [a] X.env = (false, eval a X.env) :: starEach [] X.env := by rfl) : PE X (.Call (.Name "len" p) [.Call (.Name "set" p2) [a] [] q] [] pos) (tLenSetS X.K ta) := by
  refine ⟨fun pins s σ H Q I hw => ?_⟩
  refine Call_ (ld_blt I hg hm PySem.boot_len (PyProof.Rows.callWith_builtin1 (PyProof.Rows.args_cons ?_ rfl) rfl rfl))
  refine Call_ (ld_blt I hg2 hm2 PyProof.Rows.boot_set (PyProof.Rows.callWith_type1 (PyProof.Rows.args_cons (thn (ha.run pins s σ H _ I hw) fun v s1 ⟨x, H1, I1, r1, q1⟩ => PyProof.Rows.args_nil ?_) na) na rfl))
  obtain ⟨l, zs, rfl, hq, h64, hnd, goal⟩ := q1
  cases r1
  obtain ⟨its, rv, pl, hz⟩ := I1.list hq
  have hl : its.toArray.size = zs.length := by rw [List.size_toArray, ← rv.length, List.length_map]
  refine call_set_texts (I1.ok.hd hc) pl.isList (xs := zs) (by simpa using strsAre_of rv) hnd (by unfold scanBound; omega) fun g' tk hS kept => ?_
  rw [hl] at hS
  refine PyProof.Rows.args_nil ?_
  obtain ⟨o, es, ep, t, ho, hex, hd, _, _, _, hf, hn⟩ := hS
  have I2 : Inv X pins σ H1 { s1 with heap := g', toks := tk } := I1.kept fun b o e => kept b o (Heap.lt_size e) e
  exact call_len_set ho hex hd hf (by rw [hn] <;> omega) ⟨.int zs.length, H1, I2.tok _, ⟨_, by rw [hn]⟩, goal⟩
/-- len(set(t)), t a tuple of ints -/
def tLenSetJ (K : PySem.W.Frag) (ta : TE) : TE := fun σ H Q => ta σ H fun x H1 => ∃ (l : Addr) (ns : List Int), x = V.ref l ∧ SqT K H1 l (ns.map V.int) ∧ ns.length < 64 ∧ ∀ m : Nat, (m = ns.length ↔ ns.Nodup) → Q (.int m) H1
theorem pe_lenSetI {a : Expr} {ta : TE} {p p2 q pos : Pos} (hc : X.calm = true) (hg : Gl X "len") (hm : X.mg "len" = none) (hg2 : Gl X "set") (hm2 : X.mg "set" = none) (ha : PE X a ta)
    (na : starEach [a] X.env = (false, eval a X.env) :: starEach [] X.env := by rfl) : PE X (.Call (.Name "len" p) [.Call (.Name "set" p2) [a] [] q] [] pos) (tLenSetJ X.K ta) := by
  refine ⟨fun pins s σ H Q I hw => ?_⟩
  refine Call_ (ld_blt I hg hm PySem.boot_len (PyProof.Rows.callWith_builtin1 (PyProof.Rows.args_cons ?_ rfl) rfl rfl))
  refine Call_ (ld_blt I hg2 hm2 PyProof.Rows.boot_set (PyProof.Rows.callWith_type1 (PyProof.Rows.args_cons (thn (ha.run pins s σ H _ I hw) fun v s1 ⟨x, H1, I1, r1, q1⟩ => PyProof.Rows.args_nil ?_) na) na rfl))
  obtain ⟨l, ns, rfl, hq, h64, goal⟩ := q1
  cases r1
  obtain ⟨its, rv, pl, hz⟩ := I1.tuple hq
  refine call_set_tupI ns (I1.ok.hd hc) (show s1.heap.IsTuple l its.toArray from pl) (by simpa using rv.ints) (by unfold scanBound; omega) fun g' tk c hS hcl kept => ?_
  refine PyProof.Rows.args_nil ?_
  obtain ⟨o, es, ep, t, ho, hex, hd, hgood, hnd, hmem, hbd, hf, hn, _⟩ := hS
  have I2 : Inv X pins σ H1 { s1 with heap := g', toks := tk } := I1.kept kept
  have hlen : (es.toList.map keyOf).length = c := by rw [List.length_map, Array.length_toList, hn]
  refine call_len_set ho hex hd hf (by rw [hn] <;> omega) ⟨.int c, H1, I2.tok _, ⟨_, by rw [hn]⟩, goal c ?_⟩
  rw [← hlen]
  exact len_eq_iff hnd fun x => ⟨fun z => of_decide_eq_true ((hmem x).mpr z), fun z => (hmem x).mp (decide_eq_true z)⟩
end
section
open PyProof.Rows
variable {prog : Program} {w : World} {A : Around} {E : Value → Shared → Prop} {s : Shared}
/-- the items of a tuple, collected -/
theorem collect_tup {l : Addr} {vs : List Value} {Q : List Value → Shared → Prop} (hl : s.heap.IsTuple l vs.toArray) (hsz : vs.length ≤ sizeLine)
    (goal : Q vs { s with heap := (s.heap.push (seqObj "list" #[] 0)).update s.heap.objs.size (Obj.mapSeq (· ++ vs.toArray)) }) :
    wpAny (model prog w) A (collect (.ref l)) Q E s := by
  obtain ⟨o, ho, hc, n, hd⟩ := id hl
  unfold collect
  refine wpAny_bind (wpAny_runValue (codeAny_builtin entry_proto_collect' ?_))
  show wpAny _ _ (do again (.builtin "list.__iadd__" ⟨[← newList [], .ref l], []⟩)) _ _ s
  refine wpAny_bind (wpAny_newList (wpAny_pure ⟨Code.quiet_builtin _ (by decide +kernel), codeAny_builtin entry_list_iadd' ?_⟩))
  show wpAny _ _ (Builtin.List.listExtendWith (.ref s.heap.objs.size) (.ref l) (.ref s.heap.objs.size)) _ _ { s with heap := s.heap.push (seqObj "list" #[] 0) }
  unfold Builtin.List.listExtendWith
  have ho2 : (s.heap.push (seqObj "list" #[] 0)).get? l = some o := Heap.get?_push_of_some _ ho
  have hn2 : (s.heap.push (seqObj "list" #[] 0)).get? s.heap.objs.size = some (seqObj "list" #[] 0) := Heap.get?_push_size _ rfl
  refine wpAny_bind (wpAny_typeOf (T := "tuple") ⟨o, ho2, hc⟩ ?_)
  have ht : (Value.type "tuple" == Value.type "tuple") = true := by rfl
  rw [if_pos (by rw [ht]; simp)]
  refine wpAny_bind (listItems_at ho2 hd (wpAny_bind (listItems_at (xs := #[]) (n := 0) hn2 rfl ?_)))
  rw [if_neg (by simp)]
  refine wpAny_bind (listUpdate_at (xs := #[]) (n := 0) hn2 rfl ?_ (Nat.zero_le _) (by show (#[] ++ vs.toArray).size ≤ sizeLine + 1; simp only [Array.size_append, List.size_toArray, List.length_nil]; omega))
  refine wpAny_pure ?_
  show wpAny (model prog w) A (do
      let o ← load s.heap.objs.size
      match o.data with
      | .seq xs _ => pure xs.toList
      | _ => unsupported "internal:collect") Q E { s with heap := (s.heap.push (seqObj "list" #[] 0)).update s.heap.objs.size (Obj.mapSeq (· ++ vs.toArray)) }
  refine wpAny_bind (wpAny_load (get?_update_seq hn2 _) ?_)
  show wpAny _ _ (pure ((#[] : Array Value) ++ vs.toArray).toList) Q E _
  have e0 : ((#[] : Array Value) ++ vs.toArray).toList = vs := by simp
  rw [e0]
  exact wpAny_pure goal
theorem sorted_tupS {l : Addr} {vs : List Value} {ss : List Str} {Q : Value → Shared → Prop} (hl : s.heap.IsTuple l vs.toArray) (hS : StrsAre vs ss) (hL : vs.length ≤ sizeLine)
    (goal : ∀ (out : Array Value) (ss' : List Str), StrsAre out.toList ss' → ss'.Perm ss → sortedS ss' = true → Q (.ref (s.heap.objs.size + 1)) { s with heap := sortedAll s.heap vs out }) :
    wpAny (model prog w) A (call (.builtin "sorted") [.ref l]) Q E s := by
  refine Calls.call_function_entry kind_sorted plain_sorted entry_sorted (args_sorted1 _) ?_
  unfold Builtin.«sorted»
  refine wpAny_bind (m := checkCount "sorted" 1 1 _) (wpAny_pure ?_)
  refine wpAny_bind (collect_tup hl hL (wpAny_bind (wpAny_newList ?_)))
  have hz : ((s.heap.push (seqObj "list" #[] 0)).update s.heap.objs.size (Obj.mapSeq (· ++ vs.toArray))).objs.size = s.heap.objs.size + 1 := by
    rw [Heap.size_update, size_push']
  have hoL : (((s.heap.push (seqObj "list" #[] 0)).update s.heap.objs.size (Obj.mapSeq (· ++ vs.toArray))).push (seqObj "list" vs.toArray 0)).get? (s.heap.objs.size + 1) = some (seqObj "list" vs.toArray 0) := by
    rw [← hz]; exact Heap.get?_push_size _ rfl
  show wpAny _ _ _ _ _ { s with heap := ((s.heap.push (seqObj "list" #[] 0)).update s.heap.objs.size (Obj.mapSeq (· ++ vs.toArray))).push (seqObj "list" vs.toArray 0) }
  rw [hz]
  refine wpAny_bind (wpAny_holding (wpAny_call_entry slot_list_sort ⟨_, hoL, rfl⟩ entry_list_sort (list_sort_treeKAny strKind_oneLt hoL hS.keysOf (fun v₁ v₂ rest e => keyKind_strs (by rw [← e]; exact hS)) hL fun st' a1 a2 => ⟨_, rfl, ?_⟩) (args_list_sort _)))
  obtain ⟨ss', b1, b2, b3⟩ := sorted_out_str hS a1 a2
  exact wpAny_pure ⟨_, rfl, goal _ ss' b1 b2 b3⟩
end
section
variable {X : Cx}
/-- sorted(t), t a tuple of texts, of any length -/
def rSortedTS (K : PySem.W.Frag) : List V → Hp → VK → Prop := fun vs H Q => ∃ (a : Addr) (zs : List Str), vs = [V.ref a] ∧ SqT K H a (zs.map V.str) ∧
  ∀ (ys : List Str) (p : Addr), ys.Perm zs → sortedS ys = true → H p = none → Q (.ref p) (upd H p (.lst (ys.map V.str)))
theorem cr_sortedTS : CallR X (.builtin "sorted") (rSortedTS X.K) := by
  rintro pins s σ H vs us Q I r ⟨a, zs, rfl, hs, q⟩
  obtain ⟨its, rv, pl, hz⟩ := I.tuple hs
  rw [Vals.ref1 r]
  refine sorted_tupS (show s.heap.IsTuple a its.toArray from pl) rv.strs (by rw [← rv.length]; exact hz) fun out ys h1 h2 h3 => ?_
  obtain ⟨ep, he⟩ := PyProof.Rows.sortedAll_at s.heap its out
  have hlen : (ys.map V.str).length ≤ sizeLine := by
    rw [List.length_map, h2.length_eq]
    rw [List.length_map] at hz
    exact hz
  exact ⟨.ref _, upd H (s.heap.objs.size + 1) (.lst (ys.map V.str)), I.laid (t' := s.toks) (fun _ _ => PyProof.Rows.sortedAll_old) (Nat.le_succ _) ⟨hlen, out.toList, ep, vals_of_strs h1, he⟩, rfl, q ys _ h2 h3 (I.hok.fresh (Nat.le_succ _))⟩
/-- {k: v}, k a tuple of ints and texts -/
def tDisp1T (tk tv : TE) : TE := fun σ H Q => ∀ p, H p = none → tk σ (upd H p (.dT [])) fun x H1 => tv σ H1 fun y H2 => H2 p = some (.dT []) ∧ ∃ (b : Addr) (k : List Key), x = .ref b ∧ H2 b = some (.tup (k.map kV)) ∧ Q (.ref p) (upd H2 p (.dT [(k, y)]))
theorem pe_disp1T {k v : Expr} {tk tv : TE} {pos : Pos} (hu : X.A.units + 1 < cLine) (hk : PE X k tk) (hv : PE X v tv) : PE X (.Dict [some k] [v] pos) (tDisp1T tk tv) := by
  refine ⟨fun pins s σ H Q I hw => ?_⟩
  have hn := I.hok.fresh (Nat.le_refl s.heap.objs.size)
  have I1 := I.laid (a := s.heap.objs.size) (o := .dT []) (h' := s.heap.push { cls := .type "dict", data := .dict #[] }) (t' := s.toks) (fun _ _ q => Heap.get?_push_of_some _ q) (Nat.le_refl _) (dt_empty s.heap I.big)
  rw [arm_eval_Dict, zip_pairTrees [some k] [v] X.env pos rfl rfl, dictDisplay_pairs _ (by simp [pairTrees]) (by simp [pairTrees])]
  refine wpAny_bind (wpAny_standAt (wpAny_bind (wpAny_subDictH (knd := tupleKind (mixKind X.prog X.w)) (Q := fun d s' => wpAny (model X.prog X.w) X.A (pure (Value.ref d)) (EP X pins σ Q) X.xe s') (show X.A.units < cLine from by omega) (by simp [pairTrees]) ?_)))
  refine pairTrees_cons_walk (thn (hk.run pins _ σ _ _ I1 (hw _ hn)) fun u s1 ⟨x, H1, I2, rx, q1⟩ => thn (hv.run pins s1 σ H1 _ I2 q1) fun w2 s2 ⟨y, H2, I3, ry, e, b, ks, ex, eb, q2⟩ => pairTrees_nil_walk ?_)
  subst ex
  obtain rfl : u = Value.ref b := rx
  obtain ⟨z, hd, xs, rel, dd⟩ := dt_of I3.hok e
  cases rel
  refine ⟨[(ks, b, w2)], ⟨rfl, rfl, key_of I3.hok eb, trivial⟩, dd, fun h' tk' hm hs => wpAny_pure ⟨.ref s.heap.objs.size, _, ?_, rfl, q2⟩⟩
  obtain ⟨o, es, ep, ho, h2, h3, h4, h5, h6⟩ := hm
  refine d_write (t' := tk') I3 (by rw [e]; exact True.intro) hs ⟨o, ho⟩ ⟨by show 1 ≤ sizeLine; decide, hd, _, .cons ⟨rfl, ?_, ry⟩ .nil, o, es, ep, ho, h2, h3, h4, h6⟩
  show upd H2 s.heap.objs.size _ b = _
  rw [upd_ne (ne_of eb e (fun z => nomatch z))]
  exact eb
end

/-! ### the same rules with the written part named (within a comprehension) -/
section
variable {X : Cx} {a b e : Expr} {ta tb : TE} {pos : Pos}
def rTupleOf (K : PySem.W.Frag) : List V → Hp → VK → Prop := fun xs H Q => ∃ p ys, xs = [.ref p] ∧ ((SqL K H p ys ∧ ∀ l, H l = none → Q (.ref l) (upd H l (.tup ys))) ∨ (SqT K H p ys ∧ Q (.ref p) H))
theorem call_tuple_ofK (K : PySem.W.Frag) (h : X.K = K := by rfl) : CallR X (.type "tuple") (rTupleOf K) := by subst h; exact call_tuple_of
def rListOf (K : PySem.W.Frag) : List V → Hp → VK → Prop := fun xs H Q => ∃ p ys, xs = [.ref p] ∧ (SqL K H p ys ∨ SqT K H p ys) ∧ ∀ l, H l = none → Q (.ref l) (upd H l (.lst ys))
theorem call_list_ofK (K : PySem.W.Frag) (h : X.K = K := by rfl) : CallR X (.type "list") (rListOf K) := by subst h; exact call_list_of
def rLenSeq (K : PySem.W.Frag) : List V → Hp → VK → Prop := fun xs H Q => ∃ p ys, xs = [.ref p] ∧ (SqL K H p ys ∨ SqT K H p ys) ∧ Q (.int ys.length) H
theorem call_len_seqK (K : PySem.W.Frag) (h : X.K = K := by rfl) : CallR X (.builtin "len") (rLenSeq K) := by subst h; exact call_len_seq
theorem ix_listK (K : PySem.W.Frag) (h : X.K = K := by rfl) : IxR X (rIxL K) := by subst h; exact ix_list
theorem ix_tupK (K : PySem.W.Frag) (h : X.K = K := by rfl) : IxR X (rIxT K) := by subst h; exact ix_tup
theorem op_in_seqK (K : PySem.W.Frag) (h : X.K = K := by rfl) : OpR X (compareOp .In) (rIn K false) := by subst h; exact op_in_seq
theorem op_notIn_seqK (K : PySem.W.Frag) (h : X.K = K := by rfl) : OpR X (compareOp .NotIn) (rIn K true) := by subst h; exact op_notIn_seq
theorem pe_fldK (K : PySem.W.Frag) {f : Str} (he : PE X e ta) (hb : attributeBase e f X.env (eval e X.env) = eval e X.env) (h : X.K = K := by rfl) : PE X (.Attribute e f pos) (tFld K ta f) := by subst h; exact pe_fld he hb
theorem pi_listK (K : PySem.W.Frag) {tg : Expr} (hl : PE X e ta) (h : X.K = K := by rfl) : PI X tg e (iList K ta) := by subst h; exact pi_list hl
theorem pi_tupK (K : PySem.W.Frag) {tg : Expr} (hl : PE X e ta) (h : X.K = K := by rfl) : PI X tg e (iTup K ta) := by subst h; exact pi_tup hl
end
end C62
set_option Elab.async false
set_option linter.all false
set_option maxRecDepth 100000
set_option maxHeartbeats 4000000
namespace C62
open PySem PySem.Spec PyProof.Rows L2
open He (ga ma)
/-! ### the text by places -/
def top (i : Nat) : Stmt := PySem.Challenge.pw_covernets_k62_whole_agreement.main.body.getD i (.Pass ⟨0, 0, 0, 0⟩)
abbrev s_covers : Stmt := top 7
/-- 0 first, 1 second, 2 k -/
abbrev nm_covers : List Str := ["first", "second", "k"]
theorem sc_covers : FnScope nm_covers ["first", "second"] (defScope s_covers) := ⟨rfl, rfl, rfl, by decide +kernel, rfl, by decide +kernel, by decide +kernel⟩
abbrev s_all_from : Stmt := top 13
/-- 0 numbers, 1 low, 2 high, 3 number -/
abbrev nm_all_from : List Str := ["numbers", "low", "high", "number"]
theorem sc_all_from : FnScope nm_all_from ["numbers", "low", "high"] (defScope s_all_from) := ⟨rfl, rfl, rfl, by decide +kernel, rfl, by decide +kernel, by decide +kernel⟩
abbrev s_fits : Stmt := top 14
/-- 0 transition, 1 places, 2 takes, 3 gives, 4 moves, 5 part -/
abbrev nm_fits : List Str := ["transition", "places", "takes", "gives", "moves", "part"]
theorem sc_fits : FnScope nm_fits ["transition", "places"] (defScope s_fits) := ⟨rfl, rfl, rfl, by decide +kernel, rfl, by decide +kernel, by decide +kernel⟩
abbrev s_Net_init : Stmt := inClass (top 15) 0
/-- 0 self, 1 places, 2 transitions, 3 valid, 4 transition, 5 takes, 6 gives, 7 moves -/
abbrev nm_Net_init : List Str := ["self", "places", "transitions", "valid", "transition", "takes", "gives", "moves"]
theorem sc_Net_init : FnScope nm_Net_init ["self", "places", "transitions"] (defScope s_Net_init) := ⟨rfl, rfl, rfl, by decide +kernel, rfl, by decide +kernel, by decide +kernel⟩
abbrev s_enabled : Stmt := top 16
/-- 0 net, 1 index, 2 marking -/
abbrev nm_enabled : List Str := ["net", "index", "marking"]
theorem sc_enabled : FnScope nm_enabled ["net", "index", "marking"] (defScope s_enabled) := ⟨rfl, rfl, rfl, by decide +kernel, rfl, by decide +kernel, by decide +kernel⟩
abbrev s_fire : Stmt := top 17
/-- 0 net, 1 index, 2 marking, 3 takes, 4 gives, 5 moves, 6 found, 7 place -/
abbrev nm_fire : List Str := ["net", "index", "marking", "takes", "gives", "moves", "found", "place"]
theorem sc_fire : FnScope nm_fire ["net", "index", "marking"] (defScope s_fire) := ⟨rfl, rfl, rfl, by decide +kernel, rfl, by decide +kernel, by decide +kernel⟩
abbrev s_right_pairs : Stmt := top 21
/-- 0 pairs, 1 channels, 2 channel, 3 letter, 4 _ -/
abbrev nm_right_pairs : List Str := ["pairs", "channels", "channel", "letter", "_"]
theorem sc_right_pairs : FnScope nm_right_pairs ["pairs", "channels"] (defScope s_right_pairs) := ⟨rfl, rfl, rfl, by decide +kernel, rfl, by decide +kernel, by decide +kernel⟩
abbrev s_MailNet_init : Stmt := inClass (top 22) 0
/-- 0 self, 1 net, 2 channels, 3 actions, 4 valid, 5 number, 6 hears, 7 sends -/
abbrev nm_MailNet_init : List Str := ["self", "net", "channels", "actions", "valid", "number", "hears", "sends"]
theorem sc_MailNet_init : FnScope nm_MailNet_init ["self", "net", "channels", "actions"] (defScope s_MailNet_init) := ⟨rfl, rfl, rfl, by decide +kernel, rfl, by decide +kernel, by decide +kernel⟩
abbrev s_pairs_of_mail : Stmt := top 23
/-- 0 pairs, 1 channel, 2 letter -/
abbrev nm_pairs_of_mail : List Str := ["pairs", "channel", "letter"]
theorem sc_pairs_of_mail : FnScope nm_pairs_of_mail ["pairs"] (defScope s_pairs_of_mail) := ⟨rfl, rfl, rfl, by decide +kernel, rfl, by decide +kernel, by decide +kernel⟩
abbrev s_is_name : Stmt := top 30
/-- 0 word, 1 char -/
abbrev nm_is_name : List Str := ["word", "char"]
theorem sc_is_name : FnScope nm_is_name ["word"] (defScope s_is_name) := ⟨rfl, rfl, rfl, by decide +kernel, rfl, by decide +kernel, by decide +kernel⟩
abbrev s_pairs_of_protocols : Stmt := top 31
/-- 0 pairs, 1 first, 2 second -/
abbrev nm_pairs_of_protocols : List Str := ["pairs", "first", "second"]
theorem sc_pairs_of_protocols : FnScope nm_pairs_of_protocols ["pairs"] (defScope s_pairs_of_protocols) := ⟨rfl, rfl, rfl, by decide +kernel, rfl, by decide +kernel, by decide +kernel⟩
abbrev s_Rule_init : Stmt := inClass (top 33) 0
/-- 0 self, 1 name, 2 actors, 3 everyone, 4 born, 5 conditions, 6 effects, 7 hears, 8 sends -/
abbrev nm_Rule_init : List Str := ["self", "name", "actors", "everyone", "born", "conditions", "effects", "hears", "sends"]
theorem sc_Rule_init : FnScope nm_Rule_init ["self", "name", "actors", "everyone", "born", "conditions", "effects", "hears", "sends"] (defScope s_Rule_init) := ⟨rfl, rfl, rfl, by decide +kernel, rfl, by decide +kernel, by decide +kernel⟩
abbrev s_are_different : Stmt := top 34
/-- 0 names -/
abbrev nm_are_different : List Str := ["names"]
theorem sc_are_different : FnScope nm_are_different ["names"] (defScope s_are_different) := ⟨rfl, rfl, rfl, by decide +kernel, rfl, by decide +kernel, by decide +kernel⟩
abbrev s_are_names : Stmt := top 35
/-- 0 words, 1 word -/
abbrev nm_are_names : List Str := ["words", "word"]
theorem sc_are_names : FnScope nm_are_names ["words"] (defScope s_are_names) := ⟨rfl, rfl, rfl, by decide +kernel, rfl, by decide +kernel, by decide +kernel⟩
abbrev s_right_moves : Stmt := top 36
/-- 0 pairs, 1 states, 2 first, 3 second -/
abbrev nm_right_moves : List Str := ["pairs", "states", "first", "second"]
theorem sc_right_moves : FnScope nm_right_moves ["pairs", "states"] (defScope s_right_moves) := ⟨rfl, rfl, rfl, by decide +kernel, rfl, by decide +kernel, by decide +kernel⟩
abbrev s_right_values : Stmt := top 37
/-- 0 pairs, 1 variables, 2 name*, 3 value, 4 known, 5 variable, 6 values, 7 _ -/
abbrev nm_right_values : List Str := ["pairs", "variables", "name", "value", "known", "variable", "values", "_"]
theorem sc_right_values : FnScope nm_right_values ["pairs", "variables"] (defScope s_right_values) := ⟨rfl, rfl, rfl, by decide +kernel, rfl, by decide +kernel, by decide +kernel⟩
abbrev s_right_states : Stmt := top 38
/-- 0 states, 1 start -/
abbrev nm_right_states : List Str := ["states", "start"]
theorem sc_right_states : FnScope nm_right_states ["states", "start"] (defScope s_right_states) := ⟨rfl, rfl, rfl, by decide +kernel, rfl, by decide +kernel, by decide +kernel⟩
abbrev s_right_variable : Stmt := top 39
/-- 0 states, 1 earlier, 2 name, 3 values, 4 variable, 5 _ -/
abbrev nm_right_variable : List Str := ["states", "earlier", "name", "values", "variable", "_"]
theorem sc_right_variable : FnScope nm_right_variable ["states", "earlier", "name", "values"] (defScope s_right_variable) := ⟨rfl, rfl, rfl, by decide +kernel, rfl, by decide +kernel, by decide +kernel⟩
abbrev s_right_rule : Stmt := top 41
/-- 0 states, 1 variables, 2 channels, 3 earlier, 4 rule, 5 state, 6 other, 7 first, 8 _ -/
abbrev nm_right_rule : List Str := ["states", "variables", "channels", "earlier", "rule", "state", "other", "first", "_"]
theorem sc_right_rule : FnScope nm_right_rule ["states", "variables", "channels", "earlier", "rule"] (defScope s_right_rule) := ⟨rfl, rfl, rfl, by decide +kernel, rfl, by decide +kernel, by decide +kernel⟩
abbrev s_right_pattern : Stmt := top 42
/-- 0 states, 1 variables, 2 earlier, 3 pattern, 4 counts, 5 values, 6 state, 7 number, 8 _ -/
abbrev nm_right_pattern : List Str := ["states", "variables", "earlier", "pattern", "counts", "values", "state", "number", "_"]
theorem sc_right_pattern : FnScope nm_right_pattern ["states", "variables", "earlier", "pattern"] (defScope s_right_pattern) := ⟨rfl, rfl, rfl, by decide +kernel, rfl, by decide +kernel, by decide +kernel⟩
abbrev s_System_init : Stmt := inClass (top 43) 0
/-- 0 self, 1 states, 2 start, 3 variables, 4 rules, 5 bad, 6 channels, 7 valid, 8 k, 9 name, 10 letters, 11 values, 12 counts -/
abbrev nm_System_init : List Str := ["self", "states", "start", "variables", "rules", "bad", "channels", "valid", "k", "name", "letters", "values", "counts"]
theorem sc_System_init : FnScope nm_System_init ["self", "states", "start", "variables", "rules", "bad", "channels"] (defScope s_System_init) := ⟨rfl, rfl, rfl, by decide +kernel, rfl, by decide +kernel, by decide +kernel⟩
abbrev s_place_names : Stmt := top 45
/-- 0 protocol, 1 found, 2 name*, 3 values, 4 state, 5 value -/
abbrev nm_place_names : List Str := ["protocol", "found", "name", "values", "state", "value"]
theorem sc_place_names : FnScope nm_place_names ["protocol"] (defScope s_place_names) := ⟨rfl, rfl, rfl, by decide +kernel, rfl, by decide +kernel, by decide +kernel⟩
abbrev s_counted : Stmt := top 46
/-- 0 places, 1 names, 2 found, 3 name -/
abbrev nm_counted : List Str := ["places", "names", "found", "name"]
theorem sc_counted : FnScope nm_counted ["places", "names"] (defScope s_counted) := ⟨rfl, rfl, rfl, by decide +kernel, rfl, by decide +kernel, by decide +kernel⟩
abbrev s_taken_names : Stmt := top 47
/-- 0 rule, 1 first, 2 _ -/
abbrev nm_taken_names : List Str := ["rule", "first", "_"]
theorem sc_taken_names : FnScope nm_taken_names ["rule"] (defScope s_taken_names) := ⟨rfl, rfl, rfl, by decide +kernel, rfl, by decide +kernel, by decide +kernel⟩
abbrev s_given_names : Stmt := top 48
/-- 0 rule, 1 found, 2 changed*, 3 tested*, 4 _, 5 second, 6 name, 7 state, 8 pair -/
abbrev nm_given_names : List Str := ["rule", "found", "changed", "tested", "_", "second", "name", "state", "pair"]
theorem sc_given_names : FnScope nm_given_names ["rule"] (defScope s_given_names) := ⟨rfl, rfl, rfl, by decide +kernel, rfl, by decide +kernel, by decide +kernel⟩
abbrev s_moves_of : Stmt := top 49
/-- 0 places, 1 rule, 2 found, 3 first, 4 second, 5 tested, 6 name, 7 value, 8 k, 9 _ -/
abbrev nm_moves_of : List Str := ["places", "rule", "found", "first", "second", "tested", "name", "value", "k", "_"]
theorem sc_moves_of : FnScope nm_moves_of ["places", "rule"] (defScope s_moves_of) := ⟨rfl, rfl, rfl, by decide +kernel, rfl, by decide +kernel, by decide +kernel⟩
abbrev s_letters_of : Stmt := top 50
/-- 0 protocol, 1 pairs, 2 found, 3 name, 4 letter, 5 k -/
abbrev nm_letters_of : List Str := ["protocol", "pairs", "found", "name", "letter", "k"]
theorem sc_letters_of : FnScope nm_letters_of ["protocol", "pairs"] (defScope s_letters_of) := ⟨rfl, rfl, rfl, by decide +kernel, rfl, by decide +kernel, by decide +kernel⟩
abbrev s_goal_of : Stmt := top 51
/-- 0 protocol, 1 places, 2 pattern, 3 found, 4 state, 5 number -/
abbrev nm_goal_of : List Str := ["protocol", "places", "pattern", "found", "state", "number"]
theorem sc_goal_of : FnScope nm_goal_of ["protocol", "places", "pattern"] (defScope s_goal_of) := ⟨rfl, rfl, rfl, by decide +kernel, rfl, by decide +kernel, by decide +kernel⟩
abbrev s_compile_protocol : Stmt := top 52
/-- 0 protocol*, 1 places*, 2 transitions, 3 actions, 4 rule, 5 takes, 6 base, 7 start, 8 goals, 9 channels, 10 pattern, 11 _, 12 letters, 13 name, 14 values -/
abbrev nm_compile_protocol : List Str := ["protocol", "places", "transitions", "actions", "rule", "takes", "base", "start", "goals", "channels", "pattern", "_", "letters", "name", "values"]
theorem sc_compile_protocol : FnScope nm_compile_protocol ["protocol"] (defScope s_compile_protocol) := ⟨rfl, rfl, rfl, by decide +kernel, rfl, by decide +kernel, by decide +kernel⟩
abbrev s_start_marking : Stmt := top 54
/-- 0 start, 1 count, 2 base, 3 free, 4 found -/
abbrev nm_start_marking : List Str := ["start", "count", "base", "free", "found"]
theorem sc_start_marking : FnScope nm_start_marking ["start", "count"] (defScope s_start_marking) := ⟨rfl, rfl, rfl, by decide +kernel, rfl, by decide +kernel, by decide +kernel⟩
abbrev s_Graph_init : Stmt := inClass (top 57) 0
/-- 0 self, 1 markings, 2 moves, 3 marking, 4 row -/
abbrev nm_Graph_init : List Str := ["self", "markings", "moves", "marking", "row"]
theorem sc_Graph_init : FnScope nm_Graph_init ["self", "markings", "moves"] (defScope s_Graph_init) := ⟨rfl, rfl, rfl, by decide +kernel, rfl, by decide +kernel, by decide +kernel⟩
abbrev s_explore : Stmt := top 58
/-- 0 net, 1 marking, 2 limit, 3 found, 4 numbers, 5 moves, 6 at, 7 row, 8 index, 9 after -/
abbrev nm_explore : List Str := ["net", "marking", "limit", "found", "numbers", "moves", "at", "row", "index", "after"]
theorem sc_explore : FnScope nm_explore ["net", "marking", "limit"] (defScope s_explore) := ⟨rfl, rfl, rfl, by decide +kernel, rfl, by decide +kernel, by decide +kernel⟩
abbrev s_reversed_edges : Stmt := top 59
/-- 0 graph, 1 found, 2 number, 3 target, 4 _ -/
abbrev nm_reversed_edges : List Str := ["graph", "found", "number", "target", "_"]
theorem sc_reversed_edges : FnScope nm_reversed_edges ["graph"] (defScope s_reversed_edges) := ⟨rfl, rfl, rfl, by decide +kernel, rfl, by decide +kernel, by decide +kernel⟩
abbrev s_reaching : Stmt := top 60
/-- 0 edges, 1 goals, 2 seen, 3 stack, 4 goal, 5 target -/
abbrev nm_reaching : List Str := ["edges", "goals", "seen", "stack", "goal", "target"]
theorem sc_reaching : FnScope nm_reaching ["edges", "goals"] (defScope s_reaching) := ⟨rfl, rfl, rfl, by decide +kernel, rfl, by decide +kernel, by decide +kernel⟩
abbrev s_final_markings : Stmt := top 62
/-- 0 graph, 1 edges, 2 forward, 3 found, 4 number, 5 back*, 6 ahead*, 7 row, 8 target, 9 k -/
abbrev nm_final_markings : List Str := ["graph", "edges", "forward", "found", "number", "back", "ahead", "row", "target", "k"]
theorem sc_final_markings : FnScope nm_final_markings ["graph"] (defScope s_final_markings) := ⟨rfl, rfl, rfl, by decide +kernel, rfl, by decide +kernel, by decide +kernel⟩
abbrev s_all_zero : Stmt := top 63
/-- 0 marking, 1 places, 2 place -/
abbrev nm_all_zero : List Str := ["marking", "places", "place"]
theorem sc_all_zero : FnScope nm_all_zero ["marking", "places"] (defScope s_all_zero) := ⟨rfl, rfl, rfl, by decide +kernel, rfl, by decide +kernel, by decide +kernel⟩
abbrev s_agreement : Stmt := top 64
/-- 0 protocol*, 1 ones*, 2 count, 3 limit, 4 mail, 5 start, 6 _, 7 graph, 8 final, 9 inside*, 10 outside*, 11 k, 12 marking -/
abbrev nm_agreement : List Str := ["protocol", "ones", "count", "limit", "mail", "start", "_", "graph", "final", "inside", "outside", "k", "marking"]
theorem sc_agreement : FnScope nm_agreement ["protocol", "ones", "count", "limit"] (defScope s_agreement) := ⟨rfl, rfl, rfl, by decide +kernel, rfl, by decide +kernel, by decide +kernel⟩
abbrev s_law_draws : Stmt := top 66
/-- 0 _law_script, 1 _law_count, 2 _law_cells, 3 _law_found, 4 _law_mixed, 5 _law_k, 6 _law_j, 7 _law_cell, 8 _law_again -/
abbrev nm_law_draws : List Str := ["_law_script", "_law_count", "_law_cells", "_law_found", "_law_mixed", "_law_k", "_law_j", "_law_cell", "_law_again"]
theorem sc_law_draws : FnScope nm_law_draws ["_law_script", "_law_count"] (defScope s_law_draws) := ⟨rfl, rfl, rfl, by decide +kernel, rfl, by decide +kernel, by decide +kernel⟩
abbrev s_law_take : Stmt := top 67
/-- 0 _law_draws_here, 1 _law_limit -/
abbrev nm_law_take : List Str := ["_law_draws_here", "_law_limit"]
theorem sc_law_take : FnScope nm_law_take ["_law_draws_here", "_law_limit"] (defScope s_law_take) := ⟨rfl, rfl, rfl, by decide +kernel, rfl, by decide +kernel, by decide +kernel⟩
abbrev s_law_target : Stmt := top 68
/-- 0 _law_draws_here, 1 _law_states -/
abbrev nm_law_target : List Str := ["_law_draws_here", "_law_states"]
theorem sc_law_target : FnScope nm_law_target ["_law_draws_here", "_law_states"] (defScope s_law_target) := ⟨rfl, rfl, rfl, by decide +kernel, rfl, by decide +kernel, by decide +kernel⟩
abbrev s_law_values : Stmt := top 69
/-- 0 _law_draws_here, 1 _law_pairs, 2 _law_share, 3 _law_found, 4 _law_pair -/
abbrev nm_law_values : List Str := ["_law_draws_here", "_law_pairs", "_law_share", "_law_found", "_law_pair"]
theorem sc_law_values : FnScope nm_law_values ["_law_draws_here", "_law_pairs", "_law_share"] (defScope s_law_values) := ⟨rfl, rfl, rfl, by decide +kernel, rfl, by decide +kernel, by decide +kernel⟩
abbrev s_law_rule : Stmt := top 70
/-- 0 _law_draws_here*, 1 _law_name, 2 _law_states*, 3 _law_variables, 4 _law_channels, 5 _law_actors, 6 _law_k, 7 _law_first_here, 8 _law_everyone, 9 _law_state, 10 _law_born, 11 _law_conditions, 12 _law_effects, 13 _law_hears -/
abbrev nm_law_rule : List Str := ["_law_draws_here", "_law_name", "_law_states", "_law_variables", "_law_channels", "_law_actors", "_law_k", "_law_first_here", "_law_everyone", "_law_state", "_law_born", "_law_conditions", "_law_effects", "_law_hears"]
theorem sc_law_rule : FnScope nm_law_rule ["_law_draws_here", "_law_name", "_law_states", "_law_variables", "_law_channels"] (defScope s_law_rule) := ⟨rfl, rfl, rfl, by decide +kernel, rfl, by decide +kernel, by decide +kernel⟩
abbrev s_law_pattern : Stmt := top 71
/-- 0 _law_draws_here, 1 _law_states, 2 _law_variables, 3 _law_counts, 4 _law_state, 5 _law_values_here -/
abbrev nm_law_pattern : List Str := ["_law_draws_here", "_law_states", "_law_variables", "_law_counts", "_law_state", "_law_values_here"]
theorem sc_law_pattern : FnScope nm_law_pattern ["_law_draws_here", "_law_states", "_law_variables"] (defScope s_law_pattern) := ⟨rfl, rfl, rfl, by decide +kernel, rfl, by decide +kernel, by decide +kernel⟩
abbrev s_law_system : Stmt := top 72
/-- 0 _law_draws_here*, 1 _law_most, 2 _law_mail, 3 _law_states*, 4 _law_variables*, 5 _law_channels, 6 _law_rules, 7 _law_k, 8 _law_bad -/
abbrev nm_law_system : List Str := ["_law_draws_here", "_law_most", "_law_mail", "_law_states", "_law_variables", "_law_channels", "_law_rules", "_law_k", "_law_bad"]
theorem sc_law_system : FnScope nm_law_system ["_law_draws_here", "_law_most", "_law_mail"] (defScope s_law_system) := ⟨rfl, rfl, rfl, by decide +kernel, rfl, by decide +kernel, by decide +kernel⟩
abbrev s_law_made : Stmt := top 73
/-- 0 _law_parts, 1 _law_states, 2 _law_start, 3 _law_variables, 4 _law_channels, 5 _law_rules, 6 _law_bad, 7 _law_made_here, 8 _law_rule_here, 9 _law_name, 10 _law_actors, 11 _law_everyone, 12 _law_born, 13 _law_conditions, 14 _law_effects, 15 _law_hears, 16 _law_sends, 17 _law_patterns, 18 _law_names, 19 _law_boxes, 20 _law_pattern_here, 21 _law_pair -/
abbrev nm_law_made : List Str := ["_law_parts", "_law_states", "_law_start", "_law_variables", "_law_channels", "_law_rules", "_law_bad", "_law_made_here", "_law_rule_here", "_law_name", "_law_actors", "_law_everyone", "_law_born", "_law_conditions", "_law_effects", "_law_hears", "_law_sends", "_law_patterns", "_law_names", "_law_boxes", "_law_pattern_here", "_law_pair"]
theorem sc_law_made : FnScope nm_law_made ["_law_parts"] (defScope s_law_made) := ⟨rfl, rfl, rfl, by decide +kernel, rfl, by decide +kernel, by decide +kernel⟩
abbrev s_law_first : Stmt := top 74
/-- 0 _law_parts, 1 _law_count, 2 _law_states, 3 _law_start, 4 _law_variables, 5 _law_channels, 6 _law_rules, 7 _law_bad, 8 _law_pair -/
abbrev nm_law_first : List Str := ["_law_parts", "_law_count", "_law_states", "_law_start", "_law_variables", "_law_channels", "_law_rules", "_law_bad", "_law_pair"]
theorem sc_law_first : FnScope nm_law_first ["_law_parts", "_law_count"] (defScope s_law_first) := ⟨rfl, rfl, rfl, by decide +kernel, rfl, by decide +kernel, by decide +kernel⟩
abbrev s_law_place_of : Stmt := top 75
/-- 0 _law_pairs, 1 _law_name, 2 _law_k -/
abbrev nm_law_place_of : List Str := ["_law_pairs", "_law_name", "_law_k"]
theorem sc_law_place_of : FnScope nm_law_place_of ["_law_pairs", "_law_name"] (defScope s_law_place_of) := ⟨rfl, rfl, rfl, by decide +kernel, rfl, by decide +kernel, by decide +kernel⟩
abbrev s_law_acts : Stmt := top 76
/-- 0 _law_parts, 1 _law_state, 2 _law_index, 3 _law_acting, 4 _law_parties, 5 _law_values_here, 6 _law_words, 7 _law_rule_here, 8 _law_k, 9 _law_pair -/
abbrev nm_law_acts : List Str := ["_law_parts", "_law_state", "_law_index", "_law_acting", "_law_parties", "_law_values_here", "_law_words", "_law_rule_here", "_law_k", "_law_pair"]
theorem sc_law_acts : FnScope nm_law_acts ["_law_parts", "_law_state", "_law_index", "_law_acting"] (defScope s_law_acts) := ⟨rfl, rfl, rfl, by decide +kernel, rfl, by decide +kernel, by decide +kernel⟩
abbrev s_law_party_after : Stmt := top 77
/-- 0 _law_rule_here, 1 _law_acting, 2 _law_k, 3 _law_state, 4 _law_pair -/
abbrev nm_law_party_after : List Str := ["_law_rule_here", "_law_acting", "_law_k", "_law_state", "_law_pair"]
theorem sc_law_party_after : FnScope nm_law_party_after ["_law_rule_here", "_law_acting", "_law_k", "_law_state"] (defScope s_law_party_after) := ⟨rfl, rfl, rfl, by decide +kernel, rfl, by decide +kernel, by decide +kernel⟩
abbrev s_law_step : Stmt := top 78
/-- 0 _law_parts, 1 _law_state, 2 _law_step_here*, 3 _law_parties*, 4 _law_values_here, 5 _law_words, 6 _law_word, 7 _law_rule_here*, 8 _law_found, 9 _law_after, 10 _law_pair, 11 _law_k, 12 _law_boxes, 13 _law_party -/
abbrev nm_law_step : List Str := ["_law_parts", "_law_state", "_law_step_here", "_law_parties", "_law_values_here", "_law_words", "_law_word", "_law_rule_here", "_law_found", "_law_after", "_law_pair", "_law_k", "_law_boxes", "_law_party"]
theorem sc_law_step : FnScope nm_law_step ["_law_parts", "_law_state", "_law_step_here"] (defScope s_law_step) := ⟨rfl, rfl, rfl, by decide +kernel, rfl, by decide +kernel, by decide +kernel⟩
abbrev s_law_outcome : Stmt := top 79
/-- 0 _law_protocol, 1 _law_ones, 2 _law_count, 3 _law_limit -/
abbrev nm_law_outcome : List Str := ["_law_protocol", "_law_ones", "_law_count", "_law_limit"]
theorem sc_law_outcome : FnScope nm_law_outcome ["_law_protocol", "_law_ones", "_law_count", "_law_limit"] (defScope s_law_outcome) := ⟨rfl, rfl, rfl, by decide +kernel, rfl, by decide +kernel, by decide +kernel⟩
abbrev s_law_all_after : Stmt := top 80
/-- 0 _law_parts, 1 _law_state*, 2 _law_found, 3 _law_index, 4 _law_acting*, 5 _law_pair*, 6 _law_fits, 7 _law_after, 8 _law_k -/
abbrev nm_law_all_after : List Str := ["_law_parts", "_law_state", "_law_found", "_law_index", "_law_acting", "_law_pair", "_law_fits", "_law_after", "_law_k"]
theorem sc_law_all_after : FnScope nm_law_all_after ["_law_parts", "_law_state"] (defScope s_law_all_after) := ⟨rfl, rfl, rfl, by decide +kernel, rfl, by decide +kernel, by decide +kernel⟩
abbrev s_law_graph : Stmt := top 81
/-- 0 _law_parts, 1 _law_first_here, 2 _law_limit, 3 _law_found, 4 _law_rows, 5 _law_at, 6 _law_row, 7 _law_after -/
abbrev nm_law_graph : List Str := ["_law_parts", "_law_first_here", "_law_limit", "_law_found", "_law_rows", "_law_at", "_law_row", "_law_after"]
theorem sc_law_graph : FnScope nm_law_graph ["_law_parts", "_law_first_here", "_law_limit"] (defScope s_law_graph) := ⟨rfl, rfl, rfl, by decide +kernel, rfl, by decide +kernel, by decide +kernel⟩
abbrev s_law_ahead : Stmt := top 82
/-- 0 _law_rows, 1 _law_first_here, 2 _law_seen, 3 _law_at, 4 _law_target_here -/
abbrev nm_law_ahead : List Str := ["_law_rows", "_law_first_here", "_law_seen", "_law_at", "_law_target_here"]
theorem sc_law_ahead : FnScope nm_law_ahead ["_law_rows", "_law_first_here"] (defScope s_law_ahead) := ⟨rfl, rfl, rfl, by decide +kernel, rfl, by decide +kernel, by decide +kernel⟩
abbrev s_law : Stmt := top 83
/-- 0 _law_script, 1 _law_draws_here*, 2 _law_parts, 3 _law_ones*, 4 _law_count, 5 _law_limit, 6 _law_answer, 7 _law_found, 8 _law_rows*, 9 _law_ahead_here*, 10 _law_yes, 11 _law_no, 12 _law_k*, 13 _law_inside, 14 _law_state, 15 _law_party, 16 _law_j -/
abbrev nm_law : List Str := ["_law_script", "_law_draws_here", "_law_parts", "_law_ones", "_law_count", "_law_limit", "_law_answer", "_law_found", "_law_rows", "_law_ahead_here", "_law_yes", "_law_no", "_law_k", "_law_inside", "_law_state", "_law_party", "_law_j"]
theorem sc_law : FnScope nm_law ["_law_script"] (defScope s_law) := ⟨rfl, rfl, rfl, by decide +kernel, rfl, by decide +kernel, by decide +kernel⟩
/-! ### what the top has written -/
/-- a def of the module, under its name -/
structure FnG (K : PySem.W.Frag) (mg : Str → Option Value) (g x : Str) (st : Stmt) : Prop where
  fn : ∃ fd, Fun K x x st (ga K g) fd
  at_ : mg g = some (.ref (ga K g))
/-- a class of the module with its __init__ -/
structure ClsG (K : PySem.W.Frag) (mg : Str → Option Value) (x q : Str) (st : Stmt) (fs : List Str) : Prop where
  cl : Cls K (ga K x)
  na : ∀ f ∈ fs, NoAttr K (ga K x) f
  mker : Mk K (ga K x) (ma K (ga K x) "__init__")
  fn : ∃ fd, Fun K "__init__" q st (ma K (ga K x) "__init__") fd
  at_ : mg x = some (.ref (ga K x))
structure Txt (K : PySem.W.Frag) (mg : Str → Option Value) : Prop where
  f_covers : FnG K mg "covers" "covers" s_covers
  f_all_from : FnG K mg "all_from" "all_from" s_all_from
  f_fits : FnG K mg "fits" "fits" s_fits
  f_enabled : FnG K mg "enabled" "enabled" s_enabled
  f_fire : FnG K mg "fire" "fire" s_fire
  f_right_pairs : FnG K mg "right_pairs" "right_pairs" s_right_pairs
  f_pairs_of_mail : FnG K mg "pairs_of_mail" "pairs_of" s_pairs_of_mail
  f_is_name : FnG K mg "is_name" "is_name" s_is_name
  f_pairs_of_protocols : FnG K mg "pairs_of_protocols" "pairs_of" s_pairs_of_protocols
  f_are_different : FnG K mg "are_different" "are_different" s_are_different
  f_are_names : FnG K mg "are_names" "are_names" s_are_names
  f_right_moves : FnG K mg "right_moves" "right_moves" s_right_moves
  f_right_values : FnG K mg "right_values" "right_values" s_right_values
  f_right_states : FnG K mg "right_states" "right_states" s_right_states
  f_right_variable : FnG K mg "right_variable" "right_variable" s_right_variable
  f_right_rule : FnG K mg "right_rule" "right_rule" s_right_rule
  f_right_pattern : FnG K mg "right_pattern" "right_pattern" s_right_pattern
  f_place_names : FnG K mg "place_names" "place_names" s_place_names
  f_counted : FnG K mg "counted" "counted" s_counted
  f_taken_names : FnG K mg "taken_names" "taken_names" s_taken_names
  f_given_names : FnG K mg "given_names" "given_names" s_given_names
  f_moves_of : FnG K mg "moves_of" "moves_of" s_moves_of
  f_letters_of : FnG K mg "letters_of" "letters_of" s_letters_of
  f_goal_of : FnG K mg "goal_of" "goal_of" s_goal_of
  f_compile_protocol : FnG K mg "compile_protocol" "compile_protocol" s_compile_protocol
  f_start_marking : FnG K mg "start_marking" "start_marking" s_start_marking
  f_explore : FnG K mg "explore" "explore" s_explore
  f_reversed_edges : FnG K mg "reversed_edges" "reversed_edges" s_reversed_edges
  f_reaching : FnG K mg "reaching" "reaching" s_reaching
  f_final_markings : FnG K mg "final_markings" "final_markings" s_final_markings
  f_all_zero : FnG K mg "all_zero" "all_zero" s_all_zero
  f_agreement : FnG K mg "agreement" "agreement" s_agreement
  f_law_draws : FnG K mg "_law_draws" "_law_draws" s_law_draws
  f_law_take : FnG K mg "_law_take" "_law_take" s_law_take
  f_law_target : FnG K mg "_law_target" "_law_target" s_law_target
  f_law_values : FnG K mg "_law_values" "_law_values" s_law_values
  f_law_rule : FnG K mg "_law_rule" "_law_rule" s_law_rule
  f_law_pattern : FnG K mg "_law_pattern" "_law_pattern" s_law_pattern
  f_law_system : FnG K mg "_law_system" "_law_system" s_law_system
  f_law_made : FnG K mg "_law_made" "_law_made" s_law_made
  f_law_first : FnG K mg "_law_first" "_law_first" s_law_first
  f_law_place_of : FnG K mg "_law_place_of" "_law_place_of" s_law_place_of
  f_law_acts : FnG K mg "_law_acts" "_law_acts" s_law_acts
  f_law_party_after : FnG K mg "_law_party_after" "_law_party_after" s_law_party_after
  f_law_step : FnG K mg "_law_step" "_law_step" s_law_step
  f_law_outcome : FnG K mg "_law_outcome" "_law_outcome" s_law_outcome
  f_law_all_after : FnG K mg "_law_all_after" "_law_all_after" s_law_all_after
  f_law_graph : FnG K mg "_law_graph" "_law_graph" s_law_graph
  f_law_ahead : FnG K mg "_law_ahead" "_law_ahead" s_law_ahead
  f_law : FnG K mg "law" "law" s_law
  k_Net : ClsG K mg "Net" "Net.__init__" s_Net_init ["places", "transitions"]
  k_MailNet : ClsG K mg "MailNet" "MailNet.__init__" s_MailNet_init ["net", "channels", "actions"]
  k_Rule : ClsG K mg "Rule" "Rule.__init__" s_Rule_init ["name", "actors", "everyone", "born", "conditions", "effects", "hears", "sends"]
  k_System : ClsG K mg "System" "System.__init__" s_System_init ["states", "start", "variables", "channels", "rules", "bad"]
  k_Graph : ClsG K mg "Graph" "Graph.__init__" s_Graph_init ["markings", "moves"]
  b_len : mg "len" = none
  b_list : mg "list" = none
  b_tuple : mg "tuple" = none
  b_int : mg "int" = none
  b_str : mg "str" = none
  b_set : mg "set" = none
  b_sorted : mg "sorted" = none
  b_range : mg "range" = none
  g_MOST_PLACES : ∃ u, mg "MOST_PLACES" = some u ∧ RelV (.int 12) u
  g_MOST_TRANSITIONS : ∃ u, mg "MOST_TRANSITIONS" = some u ∧ RelV (.int 24) u
  g_MOST_WEIGHT : ∃ u, mg "MOST_WEIGHT" = some u ∧ RelV (.int 9) u
  g_LOST : ∃ u, mg "LOST" = some u ∧ RelV (.int (-1)) u
  g_NONE : ∃ u, mg "NONE" = some u ∧ RelV (.int (-1)) u
  g_MOST_CHANNELS : ∃ u, mg "MOST_CHANNELS" = some u ∧ RelV (.int 2) u
  g_MOST_LETTERS : ∃ u, mg "MOST_LETTERS" = some u ∧ RelV (.int 4) u
  g_LOWER : ∃ u, mg "LOWER" = some u ∧ RelV (.str "abcdefghijklmnopqrstuvwxyz") u
  g_DIGITS : ∃ u, mg "DIGITS" = some u ∧ RelV (.str "0123456789") u
  g_GONE : ∃ u, mg "GONE" = some u ∧ RelV (.str "gone") u
  g_RESERVED : ∃ u, mg "RESERVED" = some u ∧ RelV (.ref (ga K "RESERVED")) u
  t_RESERVED : ∀ H, SqT K H (ga K "RESERVED") ((["all", "new", "if", "set", "hear", "send", "lose", "gone"] : List Str).map V.str)
  x_TooMany : PySem.W.excIn K (ga K "TooMany") He.veBase "ValueError.__new__" = true ∧ PySem.W.keepIn K (.ref (ga K "TooMany")) = true ∧ PySem.W.subIn K (.ref (ga K "TooMany")) (.type "BaseException") = some true ∧ PySem.W.typeIn K (.ref (ga K "TooMany")) = some (.type "type")
  xg_TooMany : mg "TooMany" = some (.ref (ga K "TooMany"))
  xm_TooMany : PySem.W.exmOne K (.ref (ga K "TooMany")) (.ref (ga K "TooMany")) = some true
/-! ### a def that may be called by its name -/
section
variable {P : Program} {w : World} {K : PySem.W.Frag} {mg : Str → Option Value} {base : Heap}
structure Cal (P : Program) (w : World) (K : PySem.W.Frag) (mg : Str → Option Value) (base : Heap) (k : Nat) (x : Str) (sp : Sp) : Prop where
  ex : ∃ (f : Addr) (fd : FuncData) (ps : List Str), FnOk P w K mg base CX0 k f fd ps sp ∧ mg x = some (.ref f) ∧ PySem.W.keepIn K (.ref f) = true ∧ Binds K fd ps []
/-- a def by its body -/
theorem FnG.cal {g x : Str} {st : Stmt} {N ps : List Str} {k : Nat} {sp : Sp} (T : FnG K mg g x st) (S : FnScope N ps (defScope st))
    (hb : ∀ (kV doc pm : Value) (an : Option Addr) (cdv ct : Value) (us : List Value), us.length = ps.length → bindArgs (PySem.W.fnOf x x (defArgs st) (defBody st) (defScope st) .none kV doc pm an cdv ct) ⟨us, []⟩ = pure (ps.zip us))
    (len : ∀ vs H Q E, sp vs H Q E → vs.length = ps.length)
    (body : ∀ (f : Addr) (cdv : Value) (A : Around) (outer : List Env) (s : Shared) (H : Hp) (vs : List V) (Q : VK) (E : XK), Room k (A.deeper (envOfC x (defScope st) s.heap.objs.size f cdv)) → sp vs H Q E →
      ∃ t, PSs (cxOf CX0 P w K mg base N x (defScope st) f cdv A outer s H E).nox (defBody st) t ∧ t { nx := fun _ H' => Q .non H', rt := Q } (start N vs) H) : Cal P w K mg base (k + 1) g sp := by
  obtain ⟨fd, F⟩ := T.fn
  exact ⟨_, fd, ps, F.ok S len (body _), T.at_, F.kp, F.binds hb⟩
/-- a class's __init__ by its body -/
structure Ini (P : Program) (w : World) (K : PySem.W.Frag) (mg : Str → Option Value) (base : Heap) (k : Nat) (x : Str) (sp : Sp) : Prop where
  ex : ∃ (f : Addr) (fd : FuncData) (ps : List Str), Mk K (ga K x) f ∧ FnOk P w K mg base CX0 k f fd ps sp ∧ mg x = some (.ref (ga K x)) ∧ Binds K fd ps []
theorem ClsG.ini {x q : Str} {st : Stmt} {fs : List Str} {N ps : List Str} {k : Nat} {sp : Sp} (T : ClsG K mg x q st fs) (S : FnScope N ps (defScope st))
    (hb : ∀ (kV doc pm : Value) (an : Option Addr) (cdv ct : Value) (us : List Value), us.length = ps.length → bindArgs (PySem.W.fnOf "__init__" q (defArgs st) (defBody st) (defScope st) .none kV doc pm an cdv ct) ⟨us, []⟩ = pure (ps.zip us))
    (len : ∀ vs H Q E, sp vs H Q E → vs.length = ps.length)
    (body : ∀ (f : Addr) (cdv : Value) (A : Around) (outer : List Env) (s : Shared) (H : Hp) (vs : List V) (Q : VK) (E : XK), Room k (A.deeper (envOfC q (defScope st) s.heap.objs.size f cdv)) → sp vs H Q E →
      ∃ t, PSs (cxOf CX0 P w K mg base N q (defScope st) f cdv A outer s H E).nox (defBody st) t ∧ t { nx := fun _ H' => Q .non H', rt := Q } (start N vs) H) : Ini P w K mg base (k + 1) x sp := by
  obtain ⟨fd, F⟩ := T.fn
  exact ⟨_, fd, ps, T.mker, F.ok S len (body _), T.at_, F.binds hb⟩
end
section
variable {X : Cx} {k j : Nat} {x : Str} {sp : Sp} {p pos : Pos} {e : Expr} {es : List Expr} {t : TA}
theorem pe_c (c : Cal X.prog X.w X.K X.mg X.base k x sp) (hr : Room j X.A) (hk : k ≤ j) (hg : Gl X x) (ha : PA X (e :: es) t)
    (hdb : (x == ("__debug__" : Str)) = false := by decide) (he : starEach (e :: es) X.env = (false, eval e X.env) :: starEach es X.env := by rfl) (hpl : (backTo pos (starEach es X.env)).any (·.1) = false := by rfl) :
    PE X (.Call (.Name x p) (e :: es) [] pos) (tCall sp [] E0 t) := by
  obtain ⟨f, fd, ps, F, hm, kp, b⟩ := c.ex
  exact pe_call F (hr.mono hk) hg hm kp b .nil pass0 ha hdb he hpl
theorem pe_mk (c : Ini X.prog X.w X.K X.mg X.base k x sp) (hr : Room j X.A) (hk : k + 1 ≤ j) (hg : Gl X x) (ha : PA X (e :: es) t)
    (hdb : (x == ("__debug__" : Str)) = false := by decide) (he : starEach (e :: es) X.env = (false, eval e X.env) :: starEach es X.env := by rfl) (hpl : (backTo pos (starEach es X.env)).any (·.1) = false := by rfl) :
    PE X (.Call (.Name x p) (e :: es) [] pos) (tMake (ga X.K x) sp [] E0 t) := by
  obtain ⟨f, fd, ps, M, F, hm, b⟩ := c.ex
  exact pe_make M F (hr.mono hk) hg hm b .nil pass0 ha hdb he hpl
/-- a module's name by its value -/
theorem pe_gc {v : V} (hg : Gl X x) (h : ∃ u, X.mg x = some u ∧ RelV v u) (hd : (x == ("__debug__" : Str)) = false := by decide) : PE X (.Name x pos) (tC v) := by
  obtain ⟨u, hm, r⟩ := h
  exact pe_glob hg hm r hd
end
theorem hu65_of {A : Around} {k : Nat} (hr : Room k A) : A.units + 65 < cLine := by have := hr.un; omega
namespace PyB
theorem boot_len : bootBuiltins "len" = some (.builtin "len") := PySem.boot_len
theorem boot_list : bootBuiltins "list" = some (.type "list") := PyProof.Rows.boot_list
theorem boot_tuple : bootBuiltins "tuple" = some (.type "tuple") := PyProof.Rows.boot_tuple
theorem boot_int : bootBuiltins "int" = some (.type "int") := PyProof.Rows.boot_int
theorem boot_str : bootBuiltins "str" = some (.type "str") := PyProof.Rows.boot_str
theorem boot_sorted : bootBuiltins "sorted" = some (.builtin "sorted") := PyProof.Rows.boot_sorted
end PyB
end C62
set_option Elab.async false
set_option linter.all false
set_option maxRecDepth 100000
set_option maxHeartbeats 4000000
namespace C62
open PySem PySem.Spec PyProof.Rows L2
open He (ga ma)
/-! ### data read off the heap -/
section
variable {K : PySem.W.Frag} {H H' : Hp}
theorem Same.sqT {a : Addr} {xs : List V} (e : Same H H') (h : SqT K H a xs) : SqT K H' a xs := by
  rcases h with (h | ⟨o, h⟩) | h
  · exact .inl (.inl (e _ _ h))
  · exact .inl (.inr ⟨o, e _ _ h⟩)
  · exact .inr h
mutual
theorem Dp.same (e : Same H H') : ∀ {v : V} {d : PyData}, Dp K H v d → Dp K H' v d
  | _, _, .non => .non
  | _, _, .bl b => .bl b
  | _, _, .int i => .int i
  | _, _, .str x => .str x
  | _, _, .lst h hs => .lst (e.seq h) (DpAll.same e hs)
  | _, _, .tup h hs => .tup (Same.sqT e h) (DpAll.same e hs)
theorem DpAll.same (e : Same H H') : ∀ {vs : List V} {ds : List PyData}, DpAll K H vs ds → DpAll K H' vs ds
  | _, _, .nil => .nil
  | _, _, .cons h t => .cons (Dp.same e h) (DpAll.same e t)
end
theorem Dp.tupI {v : V} {ds : List PyData} (h : Dp K H v (.tuple ds)) : ∃ a xs, v = .ref a ∧ SqT K H a xs ∧ DpAll K H xs ds := by
  cases h with
  | tup h t => exact ⟨_, _, rfl, h, t⟩
theorem Dp.lstI {v : V} {ds : List PyData} (h : Dp K H v (.list ds)) : ∃ a xs, v = .ref a ∧ SqL K H a xs ∧ DpAll K H xs ds := by
  cases h with
  | lst h t => exact ⟨_, _, rfl, h, t⟩
theorem Dp.strI {v : V} {x : Str} (h : Dp K H v (.str x)) : v = .str x := by cases h; rfl
theorem Dp.intI {v : V} {x : Int} (h : Dp K H v (.int x)) : v = .int x := by cases h; rfl
theorem DpAll.len : ∀ {vs : List V} {ds : List PyData}, DpAll K H vs ds → vs.length = ds.length
  | _, _, .nil => rfl
  | _, _, .cons _ t => congrArg Nat.succ (DpAll.len t)
theorem DpAll.getR : ∀ {vs : List V} {ds : List PyData} {i : Nat} {d : PyData}, DpAll K H vs ds → ds[i]? = some d → ∃ v, vs[i]? = some v ∧ Dp K H v d
  | _, _, _, _, .nil, e => by simp at e
  | _, _, 0, _, .cons h _, e => by simp at e; subst e; exact ⟨_, rfl, h⟩
  | _, _, i + 1, _, .cons _ t, e => by
    obtain ⟨v, h1, h2⟩ := DpAll.getR (i := i) t (by simpa using e)
    exact ⟨v, by simpa using h1, h2⟩
theorem DpAll.getL : ∀ {vs : List V} {ds : List PyData} {i : Nat} {v : V}, DpAll K H vs ds → vs[i]? = some v → ∃ d, ds[i]? = some d ∧ Dp K H v d
  | _, _, _, _, .nil, e => by simp at e
  | _, _, 0, _, .cons h _, e => by simp at e; subst e; exact ⟨_, rfl, h⟩
  | _, _, i + 1, _, .cons _ t, e => by
    obtain ⟨v, h1, h2⟩ := DpAll.getL (i := i) t (by simpa using e)
    exact ⟨v, by simpa using h1, h2⟩
theorem DpAll.app : ∀ {vs ws : List V} {ds es : List PyData}, DpAll K H vs ds → DpAll K H ws es → DpAll K H (vs ++ ws) (ds ++ es)
  | _, _, _, _, .nil, h => h
  | _, _, _, _, .cons h t, h2 => .cons h (DpAll.app t h2)
theorem DpAll.one {v : V} {d : PyData} (h : Dp K H v d) : DpAll K H [v] [d] := .cons h .nil
theorem DpAll.ints : ∀ {ns : List Int} {vs : List V}, DpAll K H vs (ns.map .int) → vs = ns.map V.int
  | [], _, .nil => rfl
  | n :: ns, _, .cons h t => by rw [Dp.intI h, DpAll.ints t]; rfl
theorem DpAll.strs : ∀ {ns : List Str} {vs : List V}, DpAll K H vs (ns.map .str) → vs = ns.map V.str
  | [], _, .nil => rfl
  | n :: ns, _, .cons h t => by rw [Dp.strI h, DpAll.strs t]; rfl
theorem DpAll.ofInts : ∀ ns : List Int, DpAll K H (ns.map V.int) (ns.map .int)
  | [] => .nil
  | n :: ns => .cons (.int n) (DpAll.ofInts ns)
theorem DpAll.ofStrs : ∀ ns : List Str, DpAll K H (ns.map V.str) (ns.map .str)
  | [] => .nil
  | n :: ns => .cons (.str n) (DpAll.ofStrs ns)
theorem DpAll.take : ∀ {vs : List V} {ds : List PyData} (i : Nat), DpAll K H vs ds → DpAll K H (vs.take i) (ds.take i)
  | _, _, 0, _ => .nil
  | _, _, _ + 1, .nil => .nil
  | _, _, i + 1, .cons h t => .cons h (DpAll.take i t)
/-- ints in a tuple, texts in a tuple or a list -/
abbrev dInts (ns : List Int) : PyData := .tuple (ns.map .int)
abbrev dStrs (zs : List Str) : PyData := .list (zs.map .str)
abbrev dStrT (zs : List Str) : PyData := .tuple (zs.map .str)
theorem Dp.intsI {v : V} {ns : List Int} (h : Dp K H v (dInts ns)) : ∃ a, v = .ref a ∧ SqT K H a (ns.map V.int) := by
  obtain ⟨a, xs, rfl, hs, ha⟩ := Dp.tupI h
  exact ⟨a, rfl, by rw [← DpAll.ints ha]; exact hs⟩
theorem Dp.strsI {v : V} {ns : List Str} (h : Dp K H v (dStrs ns)) : ∃ a, v = .ref a ∧ SqL K H a (ns.map V.str) := by
  obtain ⟨a, xs, rfl, hs, ha⟩ := Dp.lstI h
  exact ⟨a, rfl, by rw [← DpAll.strs ha]; exact hs⟩
theorem Dp.strTI {v : V} {ns : List Str} (h : Dp K H v (dStrT ns)) : ∃ a, v = .ref a ∧ SqT K H a (ns.map V.str) := by
  obtain ⟨a, xs, rfl, hs, ha⟩ := Dp.tupI h
  exact ⟨a, rfl, by rw [← DpAll.strs ha]; exact hs⟩
theorem Dp.ofInts {a : Addr} {ns : List Int} (h : SqT K H a (ns.map V.int)) : Dp K H (.ref a) (dInts ns) := .tup h (DpAll.ofInts ns)
theorem Dp.ofStrs {a : Addr} {ns : List Str} (h : SqL K H a (ns.map V.str)) : Dp K H (.ref a) (dStrs ns) := .lst h (DpAll.ofStrs ns)
theorem Dp.ofStrT {a : Addr} {ns : List Str} (h : SqT K H a (ns.map V.str)) : Dp K H (.ref a) (dStrT ns) := .tup h (DpAll.ofStrs ns)
theorem DpAll.i1 {vs : List V} {d : PyData} (h : DpAll K H vs [d]) : ∃ v, vs = [v] ∧ Dp K H v d := by
  cases h with
  | cons h t => cases t; exact ⟨_, rfl, h⟩
theorem DpAll.i2 {vs : List V} {d e : PyData} (h : DpAll K H vs [d, e]) : ∃ v w, vs = [v, w] ∧ Dp K H v d ∧ Dp K H w e := by
  cases h with
  | cons h t =>
    obtain ⟨w, rfl, hw⟩ := DpAll.i1 t
    exact ⟨_, _, rfl, h, hw⟩
theorem DpAll.i3 {vs : List V} {d e f : PyData} (h : DpAll K H vs [d, e, f]) : ∃ u v w, vs = [u, v, w] ∧ Dp K H u d ∧ Dp K H v e ∧ Dp K H w f := by
  cases h with
  | cons h t =>
    obtain ⟨v, w, rfl, hv, hw⟩ := DpAll.i2 t
    exact ⟨_, _, _, rfl, h, hv, hw⟩
/-- a pair of texts, a text and a number -/
abbrev dPr (p : Str × Str) : PyData := .tuple [.str p.1, .str p.2]
abbrev dCp (p : Str × Int) : PyData := .tuple [.str p.1, .int p.2]
theorem Dp.prI {v : V} {p : Str × Str} (h : Dp K H v (dPr p)) : ∃ a, v = .ref a ∧ SqT K H a [.str p.1, .str p.2] := by
  obtain ⟨a, xs, rfl, hs, ha⟩ := Dp.tupI h
  obtain ⟨x, y, rfl, hx, hy⟩ := DpAll.i2 ha
  rw [Dp.strI hx, Dp.strI hy] at hs
  exact ⟨a, rfl, hs⟩
theorem Dp.cpI {v : V} {p : Str × Int} (h : Dp K H v (dCp p)) : ∃ a, v = .ref a ∧ SqT K H a [.str p.1, .int p.2] := by
  obtain ⟨a, xs, rfl, hs, ha⟩ := Dp.tupI h
  obtain ⟨x, y, rfl, hx, hy⟩ := DpAll.i2 ha
  rw [Dp.strI hx, Dp.intI hy] at hs
  exact ⟨a, rfl, hs⟩
/-- a new object -/
theorem Same.upd {p : Addr} {o : HO} (h : H p = none) : Same H (upd H p o) := fun b u e => by rw [upd_ne (ne_of_none e h)]; exact e
/-- a list or a tuple of data -/
def Sq (K : PySem.W.Frag) (H : Hp) (v : V) (ds : List PyData) : Prop := Dp K H v (.list ds) ∨ Dp K H v (.tuple ds)
theorem Sq.same {v : V} {ds : List PyData} (e : Same H H') : Sq K H v ds → Sq K H' v ds
  | .inl h => .inl (Dp.same e h)
  | .inr h => .inr (Dp.same e h)
end
/-- an if whose test is known -/
theorem ifT {c : Bool} {A B : Prop} (hc : c = true) (h : A) : if c = true then A else B := (if_pos hc).symm ▸ h
theorem ifF {c : Bool} {A B : Prop} (hc : c = false) (h : B) : if c = true then A else B := (if_neg (hc ▸ Bool.false_ne_true)).symm ▸ h
theorem map_get {α β : Type} {f : α → β} {l : List α} {i : Nat} {y : β} (h : (l.map f)[i]? = some y) : ∃ x, l[i]? = some x ∧ y = f x := by
  rw [List.getElem?_map] at h
  cases e : l[i]? with
  | none => rw [e] at h; cases h
  | some x => rw [e] at h; exact ⟨x, rfl, (Option.some.inj h).symm⟩
theorem get_lt {α : Type} {l : List α} {i : Nat} {x : α} (h : l[i]? = some x) : i < l.length := (List.getElem?_eq_some_iff.mp h).1
theorem take_snoc {α : Type} {l : List α} {i : Nat} {x : α} (h : l[i]? = some x) : l.take (i + 1) = l.take i ++ [x] := by
  rw [List.take_succ, h]; rfl
end C62
set_option Elab.async false
set_option linter.all false
set_option maxRecDepth 100000
set_option maxHeartbeats 4000000
namespace C62
open PySem PySem.Spec PyProof.Rows L2
open He (ga ma)
/-! ### covers -/
def coversB (ms ns : List Int) : Bool := (List.range ms.length).all fun i => decide (ns.getD i 0 ≤ ms.getD i 0)
theorem coversB_t {ms ns : List Int} (h : ∀ j, j < ms.length → ns.getD j 0 ≤ ms.getD j 0) : coversB ms ns = true :=
  List.all_eq_true.mpr fun i hi => decide_eq_true (h i (List.mem_range.mp hi))
theorem coversB_f {ms ns : List Int} {j : Nat} (hj : j < ms.length) (h : ms.getD j 0 < ns.getD j 0) : coversB ms ns = false := by
  cases e : coversB ms ns with
  | false => rfl
  | true =>
    have := of_decide_eq_true (List.all_eq_true.mp e j (List.mem_range.mpr hj))
    omega
theorem getD_int {ns : List Int} {j : Nat} (h : j < ns.length) : (ns.map V.int)[j]? = some (V.int (ns.getD j 0)) := by
  rw [List.getElem?_map, List.getElem?_eq_getElem h, List.getD_eq_getElem?_getD, List.getElem?_eq_getElem h]; rfl
def spCovers (K : PySem.W.Frag) : Sp := fun vs H Q _ => ∃ (x y : V) (ms ns : List Int), vs = [x, y] ∧ Dp K H x (dInts ms) ∧ Dp K H y (dInts ns) ∧ ms.length = ns.length ∧ ms.length ≤ 1000 ∧ Q (.bl (coversB ms ns)) H
section
variable {P : Program} {w : World} {K : PySem.W.Frag} {mg : Str → Option Value} {base : Heap}
theorem c_covers (T : Txt K mg) : Cal P w K mg base 1 "covers" (spCovers K) := by
  refine T.f_covers.cal sc_covers (fun _ _ _ _ _ _ us hl => match us, hl with | [_, _], _ => rfl) (fun vs H Q E h => ?_) (fun f cdv A outer s H vs Q E hr h => ?_)
  · obtain ⟨x, y, ms, ns, rfl, _⟩ := h
    rfl
  · obtain ⟨x, y, ms, ns, rfl, hx, hy, hl, hz, q⟩ := h
    obtain ⟨a, rfl, ha⟩ := Dp.intsI hx
    obtain ⟨b, rfl, hb⟩ := Dp.intsI hy
    refine ⟨_, (pss_cons (ps_for PassesOwn.never rfl (pi_range1 rfl T.b_range (pa_cons (pe_callB call_len_seq (by rfl) T.b_len PyB.boot_len (pa_cons (pv 0) pa_nil)) pa_nil)) (pg_name (i := 2) sc_covers.nd rfl (Or.inl rfl)) (pss_one (ps_if (pt_cmpR op_lt (pe_ix ix_tup (pv 0) (pv 2) (fun _ _ => rfl)) (pe_ix ix_tup (pv 1) (pv 2) (fun _ _ => rfl)) (nomark _)) (pss_one (ps_ret pe_bl)) pss_nil)))
  (pss_one (ps_ret pe_bl))), ?_⟩
    have hlen : (ms.map V.int).length = ms.length := List.length_map ..
    refine ⟨_, rfl, a, _, rfl, .inr ha, _, rfl, by omega, by omega, for_range (fun i σ H' => ∃ v, σ = [some (.ref a), some (.ref b), v] ∧ H = H' ∧ ∀ j, j < i → ns.getD j 0 ≤ ms.getD j 0) ⟨none, rfl, rfl, fun j hj => absurd hj (Nat.not_lt_zero _)⟩ ?_ ?_⟩
    · rintro i σ _ hi ⟨v, rfl, rfl, ih⟩
      have hi' : i < ms.length := by omega
      refine ⟨_, rfl, _, rfl, a, _, _, _, rfl, rfl, ha, at_of (j := i) (by omega) (getD_int hi'), _, rfl, _, rfl, b, _, _, _, rfl, rfl, hb, at_of (j := i) (by omega) (getD_int (by omega)), _, _, rfl, rfl, _, rfl, ?_⟩
      refine ite2 (fun c => ?_) (fun c => ?_)
      · have := of_decide_eq_true c
        rw [coversB_f hi' this] at q
        exact q
      · have := of_decide_eq_false (eq_false_of_ne_true c)
        refine ⟨_, rfl, rfl, fun j hj => ?_⟩
        by_cases e : j = i
        · subst e; omega
        · exact ih j (by omega)
    · rintro σ _ ⟨v, rfl, rfl, ih⟩
      rw [coversB_t fun j hj => ih j (by omega)] at q
      exact q

/-! ### numbers between bounds, a transition that fits -/
end
abbrev TrD := List Int × List Int × List Int
abbrev dTr (t : TrD) : PyData := .tuple [dInts t.1, dInts t.2.1, dInts t.2.2]
structure TrOk (n : Nat) (t : TrD) : Prop where
  l1 : t.1.length = n
  l2 : t.2.1.length = n
  l3 : t.2.2.length = n
  b1 : ∀ z ∈ t.1, 0 ≤ z ∧ z ≤ 9
  b2 : ∀ z ∈ t.2.1, 0 ≤ z ∧ z ≤ 9
  b3 : ∀ z ∈ t.2.2, -1 ≤ z ∧ z ≤ (n : Int) - 1
def spAllFrom (K : PySem.W.Frag) : Sp := fun vs H Q _ => ∃ (x : V) (ns : List Int) (lo hi : Int), vs = [x, .int lo, .int hi] ∧ Dp K H x (dInts ns) ∧ (∀ z ∈ ns, lo ≤ z ∧ z ≤ hi) ∧ Q (.bl true) H
def spFits (K : PySem.W.Frag) : Sp := fun vs H Q _ => ∃ (x : V) (t : TrD) (n : Nat), vs = [x, .int n] ∧ Dp K H x (dTr t) ∧ TrOk n t ∧ Q (.bl true) H
section
variable {P : Program} {w : World} {K : PySem.W.Frag} {mg : Str → Option Value} {base : Heap}
theorem c_all_from (T : Txt K mg) : Cal P w K mg base 1 "all_from" (spAllFrom K) := by
  refine T.f_all_from.cal sc_all_from (fun _ _ _ _ _ _ us hl => match us, hl with | [_, _, _], _ => rfl) (fun vs H Q E h => ?_) (fun f cdv A outer s H vs Q E hr h => ?_)
  · obtain ⟨x, ns, lo, hi, rfl, _⟩ := h
    rfl
  · obtain ⟨x, ns, lo, hi, rfl, hx, hb, q⟩ := h
    obtain ⟨a, rfl, ha⟩ := Dp.intsI hx
    refine ⟨_, (pss_cons (ps_for PassesOwn.never rfl (pi_tup (pv 0)) (pg_name (i := 3) sc_all_from.nd rfl (Or.inl rfl)) (pss_one (ps_if (PW.pt (pw_or (pt_cmpR op_lt (pv 3) (pv 1) (nomark _)) (pw_or1 (pt_cmpR op_gt (pv 3) (pv 2) (nomark _))))) (pss_one (ps_ret pe_bl)) pss_nil)))
  (pss_one (ps_ret pe_bl))), ?_⟩
    refine ⟨_, rfl, a, rfl, ⟨_, ha⟩, for_tup (K := K) (a := a) (xs := ns.map V.int) (fun i σ H' => ∃ v, σ = [some (.ref a), some (.int lo), some (.int hi), v] ∧ H = H') ⟨none, rfl, rfl⟩ (fun i σ H' _ ⟨v, _, e⟩ => e ▸ ha) ?_ ?_⟩
    · rintro i y σ _ hi' ⟨v, rfl, rfl⟩
      obtain ⟨z, hz, rfl⟩ := map_get hi'
      obtain ⟨b1, b2⟩ := hb z (List.mem_of_getElem? hz)
      refine ⟨_, rfl, _, rfl, _, _, rfl, rfl, _, rfl, ?_⟩
      refine ite2 (fun c => absurd (of_decide_eq_true c) (by omega)) (fun _ => ?_)
      refine ⟨_, rfl, _, rfl, _, _, rfl, rfl, _, rfl, ?_⟩
      refine ite2 (fun c => absurd (of_decide_eq_true c) (by omega)) (fun _ => ?_)
      exact ⟨_, rfl, rfl⟩
    · rintro σ _ ⟨v, rfl, rfl⟩
      exact q
theorem c_fits (T : Txt K mg) : Cal P w K mg base 2 "fits" (spFits K) := by
  refine T.f_fits.cal sc_fits (fun _ _ _ _ _ _ us hl => match us, hl with | [_, _], _ => rfl) (fun vs H Q E h => ?_) (fun f cdv A outer s H vs Q E hr h => ?_)
  · obtain ⟨x, t, n, rfl, _⟩ := h
    rfl
  · obtain ⟨x, t, n, rfl, hx, ok, q⟩ := h
    obtain ⟨a, xs, rfl, ha, hs⟩ := Dp.tupI hx
    obtain ⟨u1, u2, u3, rfl, d1, d2, d3⟩ := DpAll.i3 hs
    refine ⟨_, (pss_cons (ps_asg (pv 0) (pg_tup rfl (pgs_cons (pg_name (i := 2) sc_fits.nd rfl (Or.inl rfl)) (pgs_cons (pg_name (i := 3) sc_fits.nd rfl (Or.inl rfl)) (pgs_cons (pg_name (i := 4) sc_fits.nd rfl (Or.inl rfl)) pgs_nil)))))
  (pss_cons (ps_for PassesOwn.never rfl (pi_tup (pv 0)) (pg_name (i := 5) sc_fits.nd rfl (Or.inl rfl)) (pss_one (ps_if (pt_cmpR op_ne (pe_callB call_len_seq (by rfl) T.b_len PyB.boot_len (pa_cons (pv 5) pa_nil)) (pv 1) (nomark _)) (pss_one (ps_ret pe_bl)) pss_nil)))
  (pss_cons (ps_if (PW.pt (pw_or (pt_not (pt_val (pe_c (c_all_from T) hr (by decide) (by rfl) (pa_cons (pv 2) (pa_cons pe_int (pa_cons (pe_gc rfl T.g_MOST_WEIGHT) pa_nil)))))) (pw_or1 (pt_not (pt_val (pe_c (c_all_from T) hr (by decide) (by rfl) (pa_cons (pv 3) (pa_cons pe_int (pa_cons (pe_gc rfl T.g_MOST_WEIGHT) pa_nil))))))))) (pss_one (ps_ret pe_bl)) pss_nil)
  (pss_one (ps_ret (pe_c (c_all_from T) hr (by decide) (by rfl) (pa_cons (pv 4) (pa_cons (pe_gc rfl T.g_LOST) (pa_cons (pe_op op_sub (pv 1) pe_int) pa_nil))))))))), ?_⟩
    refine ⟨_, rfl, a, _, rfl, ha, rfl, _, _, rfl, _, _, rfl, _, _, rfl, rfl, ?_⟩
    refine ⟨_, rfl, a, rfl, ⟨_, ha⟩, for_tup (K := K) (a := a) (xs := [u1, u2, u3]) (fun i σ H' => ∃ v, σ = [some (.ref a), some (.int n), some u1, some u2, some u3, v] ∧ H = H') ⟨none, rfl, rfl⟩ (fun i σ H' _ ⟨v, _, e⟩ => e ▸ ha) ?_ ?_⟩
    · rintro i y σ _ hi ⟨v, rfl, rfl⟩
      have : ∃ zs : List Int, zs.length = n ∧ Dp K H y (dInts zs) := by
        match i, hi with
        | 0, e => cases e; exact ⟨_, ok.l1, d1⟩
        | 1, e => cases e; exact ⟨_, ok.l2, d2⟩
        | 2, e => cases e; exact ⟨_, ok.l3, d3⟩
        | (j + 3), e => cases e
      obtain ⟨zs, hn, hd⟩ := this
      obtain ⟨b, rfl, hb⟩ := Dp.intsI hd
      refine ⟨_, rfl, b, _, rfl, .inr hb, _, rfl, rfl, _, rfl, ?_⟩
      refine iteNS (by rw [List.length_map, hn]) ?_
      exact ⟨_, rfl, rfl⟩
    · rintro σ _ ⟨v, rfl, rfl⟩
      refine ⟨_, rfl, u1, _, _, _, rfl, d1, ok.b1, _, rfl, ?_⟩
      refine iteF ?_
      refine ⟨_, rfl, u2, _, _, _, rfl, d2, ok.b2, _, rfl, ?_⟩
      refine iteF ?_
      refine ⟨_, rfl, _, rfl, _, _, rfl, rfl, u3, _, _, _, rfl, d3, ok.b3, q⟩
end
/-! ### nets -/
structure NetD where
  n : Nat
  trs : List TrD
structure NetOk (N : NetD) : Prop where
  n1 : 1 ≤ N.n
  n2 : N.n ≤ 12
  ts : N.trs.length ≤ 24
  ok : ∀ t ∈ N.trs, TrOk N.n t
/-- the instance at v -/
def NetAt (K : PySem.W.Frag) (H : Hp) (v : V) (N : NetD) : Prop := ∃ (a dx : Addr) (fs : List (Str × V)) (u : V), v = .ref a ∧ H a = some (.ins (ga K "Net") dx fs) ∧ fs.lookup ("places" : Str) = some (.int N.n) ∧ fs.lookup ("transitions" : Str) = some u ∧ Dp K H u (.tuple (N.trs.map dTr))
theorem NetAt.same {K : PySem.W.Frag} {H H' : Hp} {v : V} {N : NetD} (e : Same H H') : NetAt K H v N → NetAt K H' v N
  | ⟨a, dx, fs, u, h1, h2, h3, h4, h5⟩ => ⟨a, dx, fs, u, h1, e _ _ h2, h3, h4, Dp.same e h5⟩
/-- all but the instances stands -/
def SamD (H H' : Hp) : Prop := ∀ b o, H b = some o → (∀ C dx fs, o ≠ .ins C dx fs) → H' b = some o
section
variable {K : PySem.W.Frag} {H H' : Hp}
theorem SamD.sqL {a : Addr} {xs : List V} (e : SamD H H') (h : SqL K H a xs) : SqL K H' a xs := by
  rcases h with (h | ⟨o, h⟩) | h
  · exact .inl (.inl (e _ _ h fun _ _ _ z => nomatch z))
  · exact .inl (.inr ⟨o, e _ _ h fun _ _ _ z => nomatch z⟩)
  · exact .inr h
theorem SamD.sqT {a : Addr} {xs : List V} (e : SamD H H') (h : SqT K H a xs) : SqT K H' a xs := by
  rcases h with (h | ⟨o, h⟩) | h
  · exact .inl (.inl (e _ _ h fun _ _ _ z => nomatch z))
  · exact .inl (.inr ⟨o, e _ _ h fun _ _ _ z => nomatch z⟩)
  · exact .inr h
mutual
theorem Dp.samD (e : SamD H H') : ∀ {v : V} {d : PyData}, Dp K H v d → Dp K H' v d
  | _, _, .non => .non
  | _, _, .bl b => .bl b
  | _, _, .int i => .int i
  | _, _, .str x => .str x
  | _, _, .lst h hs => .lst (e.sqL h) (DpAll.samD e hs)
  | _, _, .tup h hs => .tup (e.sqT h) (DpAll.samD e hs)
theorem DpAll.samD (e : SamD H H') : ∀ {vs : List V} {ds : List PyData}, DpAll K H vs ds → DpAll K H' vs ds
  | _, _, .nil => .nil
  | _, _, .cons h t => .cons (Dp.samD e h) (DpAll.samD e t)
end
theorem Same.samD (e : Same H H') : SamD H H' := fun b o h _ => e b o h
theorem SamD.trans {H1 H2 H3 : Hp} (a : SamD H1 H2) (b : SamD H2 H3) : SamD H1 H3 := fun c o h n => b c o (a c o h n) n
theorem SamD.put {p : Addr} {C dx : Addr} {fs fs' : List (Str × V)} (h : H p = some (.ins C dx fs)) : SamD H (upd H p (.ins C dx fs')) := fun b o e n => by
  by_cases hb : b = p
  · subst hb; rw [h] at e; exact absurd (Option.some.inj e).symm (n _ _ _)
  · rw [upd_ne hb]; exact e
/-- all but p stands -/
def But (p : Addr) (H H' : Hp) : Prop := ∀ b o, H b = some o → b ≠ p → H' b = some o
theorem But.same {p dx C : Addr} (hp : H p = none) (hd : H dx = none) (b : But p (upd (upd H dx (.own p)) p (.ins C dx [])) H') : Same H H' := fun c o e => by
  have h1 : c ≠ p := ne_of_none e hp
  refine b c o ?_ h1
  rw [upd_ne h1, upd_ne (ne_of_none e hd)]
  exact e
end
theorem putF_len (f : Str) (v : V) : ∀ fs : List (Str × V), (putF f v fs).length ≤ fs.length + 1
  | [] => by simp [putF]
  | (g, u) :: r => by
    have := putF_len f v r
    unfold putF
    split
    · simp
    · simp only [List.length_cons]; omega
end C62
set_option Elab.async false
set_option linter.all false
set_option maxRecDepth 100000
set_option maxHeartbeats 4000000
namespace C62
open PySem PySem.Spec PyProof.Rows L2
open He (ga ma)
/-! ### enabled, fire -/
def spEnabled (K : PySem.W.Frag) : Sp := fun vs H Q _ => ∃ (x y : V) (N : NetD) (t : Nat) (tr : TrD) (ms : List Int), vs = [x, .int t, y] ∧ NetAt K H x N ∧ N.trs[t]? = some tr ∧ TrOk N.n tr ∧ N.n ≤ 12 ∧
  Dp K H y (dInts ms) ∧ ms.length = N.n ∧ Q (.bl (coversB ms tr.1)) H
def fireStep (ms tk mv : List Int) (g : List Int) (p : Nat) : List Int := if mv.getD p 0 = -1 then g else g.set (mv.getD p 0).toNat (g.getD (mv.getD p 0).toNat 0 + (ms.getD p 0 - tk.getD p 0))
def fireM (n : Nat) (ms : List Int) (t : TrD) : List Int := (List.range n).foldl (fireStep ms t.1 t.2.2) t.2.1
def spFire (K : PySem.W.Frag) : Sp := fun vs H Q _ => ∃ (x y : V) (N : NetD) (t : Nat) (tr : TrD) (ms : List Int), vs = [x, .int t, y] ∧ NetAt K H x N ∧ N.trs[t]? = some tr ∧ TrOk N.n tr ∧ N.n ≤ 12 ∧
  Dp K H y (dInts ms) ∧ ms.length = N.n ∧ coversB ms tr.1 = true ∧ ∀ p H', Same H H' → H p = none → H' p = some (.tup ((fireM N.n ms tr).map V.int)) → Q (.ref p) H'
theorem fireStep_len {ms tk mv g : List Int} {p : Nat} : (fireStep ms tk mv g p).length = g.length := by
  unfold fireStep
  split
  · rfl
  · exact List.length_set
theorem fireFold_len {ms tk mv : List Int} : ∀ (l : List Nat) (g : List Int), (l.foldl (fireStep ms tk mv) g).length = g.length
  | [], g => rfl
  | p :: l, g => by rw [List.foldl_cons, fireFold_len l, fireStep_len]
theorem ixN_nat {n j : Nat} (h : j < n) : ixN n (j : Int) = some j := by
  unfold ixN
  rw [if_pos (by omega), if_pos (by omega), Int.toNat_natCast]
theorem map_set_int {g : List Int} {j : Nat} {z : Int} : (g.map V.int).set j (.int z) = (g.set j z).map V.int := (List.map_set ..).symm
theorem getD_mem {ns : List Int} {j : Nat} (h : j < ns.length) : ns.getD j 0 ∈ ns := by
  rw [List.getD_eq_getElem?_getD, List.getElem?_eq_getElem h]
  exact List.getElem_mem h
section
variable {P : Program} {w : World} {K : PySem.W.Frag} {mg : Str → Option Value} {base : Heap}
theorem c_enabled (T : Txt K mg) : Cal P w K mg base 2 "enabled" (spEnabled K) := by
  refine T.f_enabled.cal sc_enabled (fun _ _ _ _ _ _ us hl => match us, hl with | [_, _, _], _ => rfl) (fun vs H Q E h => ?_) (fun f cdv A outer s H vs Q E hr h => ?_)
  · obtain ⟨x, y, N, t, tr, ms, rfl, _⟩ := h
    rfl
  · obtain ⟨x, y, N, t, tr, ms, rfl, ⟨a, dx, fs, u, rfl, ha, f1, f2, hu⟩, ht, ok, n12, hm, hl, q⟩ := h
    obtain ⟨b, xs, rfl, hb, hs⟩ := Dp.tupI hu
    obtain ⟨z, hz, dz⟩ := DpAll.getR hs (i := t) (by rw [List.getElem?_map, ht]; rfl)
    obtain ⟨c, ys, rfl, hc, hcs⟩ := Dp.tupI dz
    obtain ⟨u1, u2, u3, rfl, d1, d2, d3⟩ := DpAll.i3 hcs
    refine ⟨_, (pss_one (ps_ret (pe_c (c_covers T) hr (by decide) (by rfl) (pa_cons (pv 2) (pa_cons (pe_ix ix_tup (pe_ix ix_tup (pe_fld (pv 0) rfl) (pv 1) (fun _ _ => rfl)) pe_int (fun _ _ => rfl)) pa_nil))))), ?_⟩
    refine ⟨_, rfl, _, rfl, a, _, dx, fs, _, rfl, ha, T.k_Net.cl, T.k_Net.na _ (by simp), f2, _, rfl, b, _, _, _, rfl, rfl, hb, at_of (j := t) rfl hz, c, _, _, u1, rfl, rfl, hc, rfl, ?_⟩
    exact ⟨y, u1, ms, tr.1, rfl, hm, d1, by rw [hl, ok.l1], by omega, q⟩
theorem c_fire (T : Txt K mg) : Cal P w K mg base 3 "fire" (spFire K) := by
  refine T.f_fire.cal sc_fire (fun _ _ _ _ _ _ us hl => match us, hl with | [_, _, _], _ => rfl) (fun vs H Q E h => ?_) (fun f cdv A outer s H vs Q E hr h => ?_)
  · obtain ⟨x, y, N, t, tr, ms, rfl, _⟩ := h
    rfl
  · obtain ⟨x, y, N, t, tr, ms, rfl, NA, ht, ok, n12, hm, hl, hcov, q⟩ := h
    obtain ⟨a, dx, fs, u, rfl, ha, f1, f2, hu⟩ := id NA
    obtain ⟨b, xs, rfl, hb, hs⟩ := Dp.tupI hu
    obtain ⟨z, hz, dz⟩ := DpAll.getR hs (i := t) (by rw [List.getElem?_map, ht]; rfl)
    obtain ⟨c, ys, rfl, hc, hcs⟩ := Dp.tupI dz
    obtain ⟨u1, u2, u3, rfl, d1, d2, d3⟩ := DpAll.i3 hcs
    obtain ⟨m, rfl, hm'⟩ := Dp.intsI hm
    obtain ⟨k1, rfl, h1⟩ := Dp.intsI d1
    obtain ⟨k2, rfl, h2⟩ := Dp.intsI d2
    obtain ⟨k3, rfl, h3⟩ := Dp.intsI d3
    have e1 := ok.l1
    have e2 := ok.l2
    have e3 := ok.l3
    refine ⟨_, (pss_cons (ps_if (pt_not (pt_val (pe_c (c_enabled T) hr (by decide) (by rfl) (pa_cons (pv 0) (pa_cons (pv 1) (pa_cons (pv 2) pa_nil)))))) pss_never pss_nil)
  (pss_cons (ps_asg (pe_ix ix_tup (pe_fld (pv 0) rfl) (pv 1) (fun _ _ => rfl)) (pg_tup rfl (pgs_cons (pg_name (i := 3) sc_fire.nd rfl (Or.inl rfl)) (pgs_cons (pg_name (i := 4) sc_fire.nd rfl (Or.inl rfl)) (pgs_cons (pg_name (i := 5) sc_fire.nd rfl (Or.inl rfl)) pgs_nil)))))
  (pss_cons (ps_set (i := 6) sc_fire.nd rfl (Or.inl rfl) (pe_callTy call_list_of (by rfl) T.b_list PyB.boot_list (pa_cons (pv 4) pa_nil)))
  (pss_cons (ps_for PassesOwn.never rfl (pi_range1 rfl T.b_range (pa_cons (pe_fld (pv 0) rfl) pa_nil)) (pg_name (i := 7) sc_fire.nd rfl (Or.inl rfl)) (pss_one (ps_if (pt_cmpR op_ne (pe_ix ix_tup (pv 5) (pv 7) (fun _ _ => rfl)) (pe_gc rfl T.g_LOST) (nomark _)) (pss_one (ps_augS (pv 6) (pe_ix ix_tup (pv 5) (pv 7) (fun _ _ => rfl)) get_list (pe_op op_sub (pe_ix ix_tup (pv 2) (pv 7) (fun _ _ => rfl)) (pe_ix ix_tup (pv 3) (pv 7) (fun _ _ => rfl))) ip_add set_list)) pss_nil)))
  (pss_one (ps_ret (pe_callTy call_tuple_of (by rfl) T.b_tuple PyB.boot_tuple (pa_cons (pv 6) pa_nil)))))))), ?_⟩
    -- the test
    refine ⟨_, rfl, _, rfl, _, rfl, _, _, N, t, tr, ms, rfl, NA, ht, ok, n12, hm, hl, _, rfl, ?_⟩
    rw [hcov]
    refine iteF ?_
    -- takes, gives, moves
    refine ⟨_, rfl, a, _, dx, fs, _, rfl, ha, T.k_Net.cl, T.k_Net.na _ (by simp), f2, _, rfl, b, _, _, _, rfl, rfl, hb, at_of (j := t) rfl hz, c, _, rfl, hc, rfl, _, _, rfl, _, _, rfl, _, _, rfl, rfl, ?_⟩
    -- found
    refine ⟨_, rfl, k2, _, rfl, .inr h2, fun l hl0 => ?_⟩
    have S1 : Same H (upd H l (.lst (tr.2.1.map V.int))) := Same.upd hl0
    -- the loop
    refine ⟨_, rfl, a, _, dx, fs, _, rfl, S1 _ _ ha, T.k_Net.cl, T.k_Net.na _ (by simp), f1, _, rfl, by omega, by omega, for_range (fun i σ H' => ∃ v, σ = [some (.ref a), some (.int t), some (.ref m), some (.ref k1), some (.ref k2), some (.ref k3), some (.ref l), v] ∧
      H' = upd H l (.lst (((List.range i).foldl (fireStep ms tr.1 tr.2.2) tr.2.1).map V.int))) ⟨none, rfl, rfl⟩ ?_ ?_⟩
    · rintro i σ H1 hi ⟨v, rfl, rfl⟩
      have hi' : i < N.n := by omega
      have S2 : Same H (upd H l (.lst (((List.range i).foldl (fireStep ms tr.1 tr.2.2) tr.2.1).map V.int))) := Same.upd hl0
      have gl : ((List.range i).foldl (fireStep ms tr.1 tr.2.2) tr.2.1).length = N.n := by rw [fireFold_len, e2]
      have mb := ok.b3 _ (getD_mem (ns := tr.2.2) (j := i) (by omega))
      have nx : (List.range (i + 1)).foldl (fireStep ms tr.1 tr.2.2) tr.2.1 = fireStep ms tr.1 tr.2.2 ((List.range i).foldl (fireStep ms tr.1 tr.2.2) tr.2.1) i := by
        rw [List.range_succ, List.foldl_append]; rfl
      generalize hg : (List.range i).foldl (fireStep ms tr.1 tr.2.2) tr.2.1 = g at *
      refine ⟨_, rfl, _, rfl, k3, _, _, _, rfl, rfl, Same.sqT S2 h3, at_of (j := i) (by omega) (getD_int (by omega)), rfl, _, rfl, ?_⟩
      by_cases em : tr.2.2.getD i 0 = -1
      · refine ifF (by rw [em]; rfl) ?_
        refine ⟨_, rfl, ?_⟩
        rw [nx]
        unfold fireStep
        rw [if_pos em]
      · refine ifT (by
          have : ¬ V.int (tr.2.2.getD i 0) = V.int (-1) := fun z => em (V.int.inj z)
          rw [decide_eq_false this]; rfl) ?_
        obtain ⟨j, hj⟩ : ∃ j : Nat, tr.2.2.getD i 0 = (j : Int) := ⟨(tr.2.2.getD i 0).toNat, by omega⟩
        have hjn : j < N.n := by omega
        refine ⟨_, rfl, _, rfl, _, rfl, k3, _, _, _, rfl, rfl, Same.sqT S2 h3, at_of (j := i) (by omega) (getD_int (by omega)), ?_⟩
        refine ⟨l, _, j, _, rfl, (by rw [hj]), SqL.of upd_same, getD_int (by omega), ?_⟩
        refine ⟨_, rfl, _, rfl, m, _, _, _, rfl, rfl, Same.sqT S2 hm', at_of (j := i) (by omega) (getD_int (by omega)), _, rfl, _, rfl, k1, _, _, _, rfl, rfl, Same.sqT S2 h1, at_of (j := i) (by omega) (getD_int (by omega)), _, _, rfl, rfl, ?_⟩
        refine ⟨_, _, rfl, rfl, ?_⟩
        refine ⟨l, _, _, j, rfl, rfl, upd_same, (by rw [hj]; exact ixN_nat (by rw [List.length_map]; omega)), ?_⟩
        refine ⟨_, rfl, ?_⟩
        rw [upd_upd, nx, map_set_int]
        unfold fireStep
        rw [if_neg em, hj]
        rfl
    · rintro σ H1 ⟨v, rfl, rfl⟩
      refine ⟨_, rfl, l, _, rfl, .inl ⟨SqL.of upd_same, fun p hp => ?_⟩⟩
      have hpn : H p = none := (Same.upd hl0).free hp
      refine q p _ (fun b o e => ?_) hpn upd_same
      rw [upd_ne (ne_of_none e hpn), upd_ne (ne_of_none e hl0)]
      exact e
end
end C62
set_option Elab.async false
set_option linter.all false
set_option maxRecDepth 100000
set_option maxHeartbeats 4000000
namespace C62
open PySem PySem.Spec PyProof.Rows L2
open He (ga ma)
/-! ### a list comprehension that makes data of data -/
def del (H : Hp) (D : Addr) : Hp := fun b => if b = D then none else H b
theorem del_ne {H : Hp} {D b : Addr} (h : b ≠ D) : del H D b = H b := if_neg h
theorem Same.del {H0 H : Hp} {D : Addr} (h : H0 D = none) (e : Same H0 H) : Same H0 (del H D) := fun b o q => by
  rw [del_ne (ne_of_none q h)]; exact e b o q
theorem Same.delUpd {H : Hp} {D : Addr} {o : HO} : Same (C62.del H D) (L2.upd H D o) := fun b u q => by
  by_cases hb : b = D
  · subst hb; unfold C62.del at q; rw [if_pos rfl] at q; cases q
  · rw [upd_ne hb]; rw [del_ne hb] at q; exact q
theorem del_upd {H : Hp} {D : Addr} {o : HO} : del (upd H D o) D = del H D := by
  funext b; unfold del; split
  · rfl
  · rename_i hb; exact upd_ne hb
theorem Same.delDel {H H' : Hp} {D : Addr} (e : Same H H') : Same (C62.del H D) (C62.del H' D) := fun b o q => by
  by_cases hb : b = D
  · subst hb; unfold C62.del at q; rw [if_pos rfl] at q; cases q
  · rw [del_ne hb] at q ⊢; exact e b o q
theorem Same.ofDel {H : Hp} {D : Addr} : Same (C62.del H D) H := fun b o q => by
  by_cases hb : b = D
  · subst hb; unfold C62.del at q; rw [if_pos rfl] at q; cases q
  · rw [del_ne hb] at q; exact q
section
variable {K : PySem.W.Frag} {a D : Addr} {xs : List V} {g : TG} {te : TE} {vs : List Nat} {σ : L2.St} {H : Hp} {Qd : Hp → Prop}
/-- what stands while the list at D grows: behind the items ds -/
def Grown (K : PySem.W.Frag) (H : Hp) (D : Addr) (ds : List PyData) (H' : Hp) : Prop := Same H H' ∧ ∃ acc, H' D = some (.lst acc) ∧ acc.length = ds.length ∧ DpAll K (del H' D) acc ds
theorem Grown.start (hD : H D = none) : Grown K H D [] (upd H D (.lst [])) := ⟨Same.upd hD, [], upd_same, rfl, .nil⟩
theorem Grown.more {ds : List PyData} {H' H4 : Hp} {y : V} {d : PyData} (hD : H D = none) (h : Grown K H D ds H') (e : Same H' H4) (hy : Dp K (del H4 D) y d) (hz : ds.length < 1000) :
    ∃ acc, H4 D = some (.lst acc) ∧ acc.length < sizeLine ∧ Grown K H D (ds ++ [d]) (upd H4 D (.lst (acc ++ [y]))) := by
  obtain ⟨s, acc, h1, h2, h3⟩ := h
  refine ⟨acc, e _ _ h1, small1000 (by omega), ?_, acc ++ [y], upd_same, by simp [h2], ?_⟩
  · intro b o q
    rw [upd_ne (ne_of_none q hD)]
    exact e _ _ (s _ _ q)
  · rw [del_upd]
    exact DpAll.app (DpAll.same (Same.delDel e) h3) (DpAll.one hy)
theorem Grown.fin {ds : List PyData} {H' : Hp} (h : Grown K H D ds H') : Dp K H' (.ref D) (.list ds) := by
  obtain ⟨s, acc, h1, h2, h3⟩ := h
  exact .lst (SqL.of h1) (DpAll.same Same.ofDel h3)
theorem lc_data (hD : H D = none) (ha : SqL K H a xs) (fs : List PyData) (hl : fs.length = xs.length) (hz : xs.length ≤ 1000)
    (turn : ∀ (i : Nat) (x : V) (d : PyData) (Hi : Hp) (R : V → Hp → Prop), xs[i]? = some x → fs[i]? = some d → Same H Hi → Hi D ≠ none → (∀ y H4, Same Hi H4 → Dp K (del H4 D) y d → R y H4) →
      g x (wipe σ vs) Hi fun σ2 H2 => wipe σ2 vs = wipe σ vs ∧ te σ2 H2 R)
    (fin : ∀ H', Same H H' → Dp K H' (.ref D) (.list fs) → Qd H') :
    ∃ W : Nat → Nat → Hp → Prop, (∃ m, W 0 m (upd H D (.lst []))) ∧ ∀ i m H, W i m H →
      ((Itl K a).stop i H ∧ Qd H) ∨ ((Itl K a).go i H ∧ ∃ Nx : Hp → Prop, (∀ H', Nx H' → ∃ m', m' < m ∧ W (i + 1) m' H') ∧ ∀ x H', (Itl K a).yld i H x H' → g x (wipe σ vs) H' fun σ2 H2 => wipe σ2 vs = wipe σ vs ∧ tYes σ2 H2 fun b H3 =>
        if b = true then te σ2 H3 fun y H4 => ∃ acc, H4 D = some (.lst acc) ∧ acc.length < sizeLine ∧ Nx (upd H4 D (.lst (acc ++ [y]))) else Nx H3) := by
  refine lc_list (K := K) (a := a) (xs := xs) (fun i H' => Grown K H D (fs.take i) H') (by rw [List.take_zero]; exact Grown.start hD) (fun i H' _ h => h.1.seq ha) (fun i x H' hi h => ?_) (fun H' h => fin H' h.1 ?_)
  · have hlt := get_lt hi
    have e : fs[i]? = some fs[i] := List.getElem?_eq_getElem (by omega)
    have ne : H' D ≠ none := by obtain ⟨_, acc, q, _⟩ := h; rw [q]; exact fun z => nomatch z
    refine turn i x fs[i] H' (fun y H4 => ∃ acc, H4 D = some (.lst acc) ∧ acc.length < sizeLine ∧ Grown K H D (fs.take (i + 1)) (upd H4 D (.lst (acc ++ [y])))) hi e h.1 ne fun y H4 s hy => ?_
    rw [take_snoc e]
    exact h.more hD s hy (by rw [List.length_take]; omega)
  · have e : fs.take xs.length = fs := by rw [← hl]; exact List.take_length
    rw [← e]
    exact h.fin
theorem lc_dataT (hD : H D = none) (ha : SqT K H a xs) (fs : List PyData) (hl : fs.length = xs.length) (hz : xs.length ≤ 1000)
    (turn : ∀ (i : Nat) (x : V) (d : PyData) (Hi : Hp) (R : V → Hp → Prop), xs[i]? = some x → fs[i]? = some d → Same H Hi → Hi D ≠ none → (∀ y H4, Same Hi H4 → Dp K (del H4 D) y d → R y H4) →
      g x (wipe σ vs) Hi fun σ2 H2 => wipe σ2 vs = wipe σ vs ∧ te σ2 H2 R)
    (fin : ∀ H', Same H H' → Dp K H' (.ref D) (.list fs) → Qd H') :
    ∃ W : Nat → Nat → Hp → Prop, (∃ m, W 0 m (upd H D (.lst []))) ∧ ∀ i m H, W i m H →
      ((Itt K a).stop i H ∧ Qd H) ∨ ((Itt K a).go i H ∧ ∃ Nx : Hp → Prop, (∀ H', Nx H' → ∃ m', m' < m ∧ W (i + 1) m' H') ∧ ∀ x H', (Itt K a).yld i H x H' → g x (wipe σ vs) H' fun σ2 H2 => wipe σ2 vs = wipe σ vs ∧ tYes σ2 H2 fun b H3 =>
        if b = true then te σ2 H3 fun y H4 => ∃ acc, H4 D = some (.lst acc) ∧ acc.length < sizeLine ∧ Nx (upd H4 D (.lst (acc ++ [y]))) else Nx H3) := by
  refine lc_tup (K := K) (a := a) (xs := xs) (fun i H' => Grown K H D (fs.take i) H') (by rw [List.take_zero]; exact Grown.start hD) (fun i H' _ h => Same.sqT h.1 ha) (fun i x H' hi h => ?_) (fun H' h => fin H' h.1 ?_)
  · have hlt := get_lt hi
    have e : fs[i]? = some fs[i] := List.getElem?_eq_getElem (by omega)
    have ne : H' D ≠ none := by obtain ⟨_, acc, q, _⟩ := h; rw [q]; exact fun z => nomatch z
    refine turn i x fs[i] H' (fun y H4 => ∃ acc, H4 D = some (.lst acc) ∧ acc.length < sizeLine ∧ Grown K H D (fs.take (i + 1)) (upd H4 D (.lst (acc ++ [y])))) hi e h.1 ne fun y H4 s hy => ?_
    rw [take_snoc e]
    exact h.more hD s hy (by rw [List.length_take]; omega)
  · have e : fs.take xs.length = fs := by rw [← hl]; exact List.take_length
    rw [← e]
    exact h.fin
end
end C62
set_option Elab.async false
set_option linter.all false
set_option maxRecDepth 100000
set_option maxHeartbeats 4000000
namespace C62
open PySem PySem.Spec PyProof.Rows L2
open He (ga ma)
theorem But.samD {H H' : Hp} {p C dx : Addr} {fs : List (Str × V)} (h : H p = some (.ins C dx fs)) (e : But p H H') : SamD H H' := fun b o q n => e b o q fun z => by
  subst z; rw [h] at q; exact absurd (Option.some.inj q).symm (n _ _ _)
theorem But.refl (p : Addr) (H : Hp) : But p H H := fun _ _ h _ => h
theorem But.trans {H1 H2 H3 : Hp} {p : Addr} (a : But p H1 H2) (b : But p H2 H3) : But p H1 H3 := fun c o h n => b c o (a c o h n) n
theorem But.put {H : Hp} {p : Addr} {o : HO} : But p H (upd H p o) := fun b u h n => by rw [upd_ne n]; exact h
theorem Same.but {H H' : Hp} (p : Addr) (e : Same H H') : But p H H' := fun b o h _ => e b o h
theorem sv_true {c : Bool} (h : c = true) : V.bl c = V.bl true := congrArg V.bl h
/-! ### start_marking -/
def spStartM (K : PySem.W.Frag) : Sp := fun vs H Q _ => ∃ (x : V) (bs : List Int) (j : Nat) (c : Int), vs = [x, .int c] ∧ Dp K H x (.tuple [dInts bs, .int (j : Nat)]) ∧ j < bs.length ∧
  ∀ p H', Same H H' → H' p = some (.tup ((bs.set j (bs.getD j 0 + c)).map V.int)) → Q (.ref p) H'
def spNetInit (K : PySem.W.Frag) : Sp := fun vs H Q _ => ∃ (p dx : Addr) (y : V) (N : NetD), vs = [.ref p, .int N.n, y] ∧ H p = some (.ins (ga K "Net") dx []) ∧ Dp K H y (.list (N.trs.map dTr)) ∧ NetOk N ∧
  ∀ H', But p H H' → NetAt K H' (.ref p) N → Q .non H'
section
variable {P : Program} {w : World} {K : PySem.W.Frag} {mg : Str → Option Value} {base : Heap}
theorem c_start_marking (T : Txt K mg) : Cal P w K mg base 1 "start_marking" (spStartM K) := by
  refine T.f_start_marking.cal sc_start_marking (fun _ _ _ _ _ _ us hl => match us, hl with | [_, _], _ => rfl) (fun vs H Q E h => ?_) (fun f cdv A outer s H vs Q E hr h => ?_)
  · obtain ⟨x, bs, j, c, rfl, _⟩ := h
    rfl
  · obtain ⟨x, bs, j, c, rfl, hx, hj, q⟩ := h
    obtain ⟨a, xs, rfl, ha, hs⟩ := Dp.tupI hx
    obtain ⟨u1, u2, rfl, d1, d2⟩ := DpAll.i2 hs
    obtain ⟨b, rfl, hb⟩ := Dp.intsI d1
    obtain rfl := Dp.intI d2
    refine ⟨_, (pss_cons (ps_asg (pv 0) (pg_tup rfl (pgs_cons (pg_name (i := 2) sc_start_marking.nd rfl (Or.inl rfl)) (pgs_cons (pg_name (i := 3) sc_start_marking.nd rfl (Or.inl rfl)) pgs_nil))))
  (pss_cons (ps_set (i := 4) sc_start_marking.nd rfl (Or.inl rfl) (pe_callTy call_list_of (by rfl) T.b_list PyB.boot_list (pa_cons (pv 2) pa_nil)))
  (pss_cons (ps_if (pt_cmpR op_ge (pv 3) pe_int (nomark _)) (pss_one (ps_augS (pv 4) (pv 3) get_list (pv 1) ip_add set_list)) pss_nil)
  (pss_one (ps_ret (pe_callTy call_tuple_of (by rfl) T.b_tuple PyB.boot_tuple (pa_cons (pv 4) pa_nil))))))), ?_⟩
    refine ⟨_, rfl, a, _, rfl, ha, rfl, _, _, rfl, _, _, rfl, rfl, ?_⟩
    refine ⟨_, rfl, b, _, rfl, .inr hb, fun l hl => ?_⟩
    refine ⟨_, rfl, _, _, rfl, rfl, _, rfl, ?_⟩
    refine ifT (decide_eq_true (by omega)) ?_
    refine ⟨_, rfl, _, rfl, l, _, j, _, rfl, rfl, SqL.of upd_same, getD_int hj, _, rfl, _, _, rfl, rfl, l, _, _, j, rfl, rfl, upd_same, ixN_nat (by rw [List.length_map]; exact hj), ?_⟩
    rw [upd_upd, map_set_int]
    refine ⟨_, rfl, l, _, rfl, .inl ⟨SqL.of upd_same, fun p hp => ?_⟩⟩
    refine q p _ (fun b o e => ?_) upd_same
    have S1 := Same.upd (H := H) (o := .lst ((bs.set j (bs.getD j 0 + c)).map V.int)) hl
    exact Same.upd hp _ _ (S1 _ _ e)
theorem c_Net (T : Txt K mg) : Ini P w K mg base 3 "Net" (spNetInit K) := by
  refine T.k_Net.ini sc_Net_init (fun _ _ _ _ _ _ us hl => match us, hl with | [_, _, _], _ => rfl) (fun vs H Q E h => ?_) (fun f cdv A outer s H vs Q E hr h => ?_)
  · obtain ⟨p, dx, y, N, rfl, _⟩ := h
    rfl
  · obtain ⟨p, dx, y, N, rfl, hp, hy, ok, q⟩ := h
    obtain ⟨a, xs, rfl, ha, hs⟩ := Dp.lstI hy
    have hlen := DpAll.len hs
    rw [List.length_map] at hlen
    have o1 := ok.n1
    have o2 := ok.n2
    have o3 := ok.ts
    refine ⟨_, (pss_cons (ps_set (i := 3) sc_Net_init.nd rfl (Or.inl rfl) (pe_and (pe_chain op_le op_le pe_int (pv 1) (pe_gc rfl T.g_MOST_PLACES)) (pe_one (pe_cmpR op_le (pe_callB call_len_seq (by rfl) T.b_len PyB.boot_len (pa_cons (pv 2) pa_nil)) (pe_gc rfl T.g_MOST_TRANSITIONS) (nomark _)))))
  (pss_cons (ps_for PassesOwn.never rfl (pi_list (pv 2)) (pg_name (i := 4) sc_Net_init.nd rfl (Or.inl rfl)) (pss_one (ps_set (i := 3) sc_Net_init.nd rfl (Or.inl rfl) (pe_and (pv 3) (pe_one (pe_c (c_fits T) hr (by decide) (by rfl) (pa_cons (pv 4) (pa_cons (pv 1) pa_nil))))))))
  (pss_cons (ps_if (pt_not (pt_val (pv 3))) (pss_one ps_never) pss_nil)
  (pss_cons (ps_fld (pv 0) (pv 1) rfl)
  (pss_one (ps_fld (pv 0) (pe_callTy call_tuple_of (by rfl) T.b_tuple PyB.boot_tuple (pa_cons (pe_lc (own := [("takes", 5), ("gives", 6), ("moves", 7)]) (g := gTup K 3 (gCons (gName 5) (gCons (gName 6) (gCons (gName 7) (gNil))))) rfl sc_Net_init.nd (pi_list (pv 2)) (blkOk_by (own := [("takes", 5), ("gives", 6), ("moves", 7)]) (N := nm_Net_init) (sc := defScope s_Net_init) (by decide +kernel)) (fun _ _ _ _ _ => (pg_tup rfl (pgs_cons (pg_name (i := 5) sc_Net_init.nd rfl (Or.inl rfl)) (pgs_cons (pg_name (i := 6) sc_Net_init.nd rfl (Or.inl rfl)) (pgs_cons (pg_name (i := 7) sc_Net_init.nd rfl (Or.inl rfl)) pgs_nil))))) (fun _ _ _ _ _ => pts_nil) (fun _ _ _ _ _ => (pe_tup (pa_cons (pe_callTy (call_tuple_ofK K) (by rfl) T.b_tuple PyB.boot_tuple (pa_cons (pv 5) pa_nil)) (pa_cons (pe_callTy (call_tuple_ofK K) (by rfl) T.b_tuple PyB.boot_tuple (pa_cons (pv 6) pa_nil)) (pa_cons (pe_callTy (call_tuple_ofK K) (by rfl) T.b_tuple PyB.boot_tuple (pa_cons (pv 7) pa_nil)) pa_nil)))))) pa_nil)) rfl)))))), ?_⟩
    refine ⟨_, rfl, _, _, rfl, rfl, _, rfl, ?_⟩
    refine ifT (decide_eq_true (by omega)) ?_
    refine ⟨_, _, rfl, rfl, _, rfl, ?_⟩
    refine ifT (decide_eq_true (by omega)) ?_
    refine ⟨_, rfl, a, _, rfl, .inl ha, _, _, rfl, rfl, ?_⟩
    -- for transition in transitions
    refine ⟨_, rfl, a, rfl, ⟨_, ha⟩, for_list (K := K) (a := a) (xs := xs) (fun i σ H' => ∃ v, σ = [some (.ref p), some (.int N.n), some (.ref a), some (.bl true), v, none, none, none] ∧ H = H')
      ⟨none, congrArg (fun c => [some (V.ref p), some (V.int N.n), some (V.ref a), some (V.bl c), none, none, none, none]) (decide_eq_true (p := ((xs.length : Nat) : Int) ≤ 24) (by omega)), rfl⟩ (fun i σ H' _ ⟨v, _, e⟩ => e ▸ ha) ?_ ?_⟩
    · rintro i z σ _ hi ⟨v, rfl, rfl⟩
      obtain ⟨d, hd, dz⟩ := DpAll.getL hs hi
      obtain ⟨tr, htr, rfl⟩ := map_get hd
      refine ⟨_, rfl, _, rfl, ?_⟩
      refine iteT ?_
      refine ⟨_, rfl, _, rfl, z, tr, N.n, rfl, dz, ok.ok tr (List.mem_of_getElem? htr), ?_⟩
      exact ⟨_, rfl, rfl⟩
    · rintro σ _ ⟨v, rfl, rfl⟩
      refine ⟨_, rfl, _, rfl, ?_⟩
      refine iteF ?_
      -- self.places
      refine ⟨_, rfl, _, rfl, p, _, dx, [], rfl, hp, T.k_Net.cl, T.k_Net.na _ (by simp), (by decide), ?_⟩
      generalize hf1 : putF ("places" : Str) (V.int N.n) [] = f1
      have l1 : f1.length ≤ 1 := by rw [← hf1]; exact putF_len _ _ _
      have S1 : SamD H (upd H p (.ins (ga K "Net") dx f1)) := SamD.put hp
      have B1 : But p H (upd H p (.ins (ga K "Net") dx f1)) := But.put
      have p1 : (upd H p (.ins (ga K "Net") dx f1)) p = some (.ins (ga K "Net") dx f1) := upd_same
      generalize upd H p (.ins (ga K "Net") dx f1) = H1 at *
      have ha1 := S1.sqL ha
      have hs1 := DpAll.samD S1 hs
      -- self.transitions
      refine ⟨_, rfl, a, rfl, ⟨_, ha1⟩, fun D hD => lc_data hD ha1 (N.trs.map dTr) (by rw [List.length_map, hlen]) (by omega) ?_ ?_⟩
      · intro i z d Hi R hi hd s1 nD hR
        obtain ⟨tr, htr, rfl⟩ := map_get hd
        obtain ⟨d', hd', dz⟩ := DpAll.getL hs1 hi
        rw [hd] at hd'
        cases hd'
        obtain ⟨c, ys, rfl, hc, hcs⟩ := Dp.tupI dz
        obtain ⟨u1, u2, u3, rfl, d1, d2, d3⟩ := DpAll.i3 hcs
        obtain ⟨k1, rfl, h1⟩ := Dp.intsI d1
        obtain ⟨k2, rfl, h2⟩ := Dp.intsI d2
        obtain ⟨k3, rfl, h3⟩ := Dp.intsI d3
        refine ⟨c, _, rfl, Same.sqT s1 hc, rfl, _, _, rfl, _, _, rfl, _, _, rfl, rfl, rfl, ?_⟩
        refine ⟨_, rfl, k1, _, rfl, .inr ⟨Same.sqT s1 h1, ?_⟩⟩
        refine ⟨_, rfl, k2, _, rfl, .inr ⟨Same.sqT s1 h2, ?_⟩⟩
        refine ⟨_, rfl, k3, _, rfl, .inr ⟨Same.sqT s1 h3, ?_⟩⟩
        refine ⟨by show 3 ≤ sizeLine; decide, fun t ht => ?_⟩
        have tD : t ≠ D := fun e => nD (e ▸ ht)
        have s2 : Same H1 (del (upd Hi t (.tup [.ref k1, .ref k2, .ref k3])) D) := Same.del hD (s1.trans (Same.upd ht))
        refine hR _ _ (Same.upd ht) (.tup (SqT.of (by rw [del_ne tD]; exact upd_same)) (DpAll.same s2 (.cons d1 (.cons d2 (.cons d3 .nil)))))
      · intro H2 s2 dd
        obtain ⟨_, ys, e, hD2, hys⟩ := Dp.lstI dd
        cases e
        refine ⟨D, _, rfl, .inl ⟨hD2, fun l hl => ?_⟩⟩
        have s3 : Same H1 (upd H2 l (.tup ys)) := s2.trans (Same.upd hl)
        refine ⟨_, rfl, p, _, dx, f1, rfl, s3 _ _ p1, T.k_Net.cl, T.k_Net.na _ (by simp), by omega, ?_⟩
        have pl : p ≠ l := ne_of_none (s2 _ _ p1) hl
        refine q _ (B1.trans ((Same.but p s3).trans But.put)) ⟨p, dx, _, .ref l, rfl, upd_same, ?_, ?_, ?_⟩
        · rw [lookup_putF, if_neg (by decide +kernel), ← hf1, lookup_putF, if_pos rfl]
        · rw [lookup_putF, if_pos rfl]
        · exact Dp.samD (SamD.put (s3 _ _ p1)) (.tup (SqT.of upd_same) (DpAll.same (Same.upd hl) hys))
end
end C62
set_option Elab.async false
set_option linter.all false
set_option maxRecDepth 100000
set_option maxHeartbeats 4000000
namespace C62
open PySem PySem.Spec PyProof.Rows L2
open He (ga ma)
/-! ### loops over data -/
section
variable {α : Type} {K : PySem.W.Frag} {v : V} {enc : α → PyData} {l : List α} {g : TG} {tb : TS} {D : Ends} {σ : L2.St} {H : Hp}
theorem DpAll.item {H : Hp} {xs : List V} {k : Nat} {x : V} (h : DpAll K H xs (l.map enc)) (e : xs[k]? = some x) : ∃ y, l[k]? = some y ∧ Dp K H x (enc y) := by
  obtain ⟨d, h1, h2⟩ := DpAll.getL h e
  obtain ⟨y, h3, rfl⟩ := map_get h1
  exact ⟨y, h3, h2⟩
theorem DpAll.mapLen {H : Hp} {xs : List V} (h : DpAll K H xs (l.map enc)) : xs.length = l.length := (DpAll.len h).trans (List.length_map ..)
theorem dl_uniq {H : Hp} {a : Addr} {xs : List V} (h : Dp K H (.ref a) (.list (l.map enc))) (I : ∀ ys, SqL K H a ys → ys = xs) : SqL K H a xs ∧ DpAll K H xs (l.map enc) := by
  obtain ⟨_, ys, e, hs, ha⟩ := Dp.lstI h
  cases e
  rw [← I ys hs]
  exact ⟨hs, ha⟩
theorem for_dl (h : Dp K H v (.list (l.map enc))) (Pv : Nat → L2.St → Hp → Prop) (h0 : Pv 0 σ H) (hl : ∀ k σ' H', k ≤ l.length → Pv k σ' H' → Same H H' ∨ SamD H H')
    (turn : ∀ k x y σ' H', l[k]? = some y → Dp K H' x (enc y) → Pv k σ' H' → g x σ' H' fun σ2 H2 => tb { D with nx := Pv (k + 1), ct := Pv (k + 1), bk := D.nx } σ2 H2)
    (done : ∀ σ' H', Pv l.length σ' H' → D.nx σ' H') :
    ∃ a, v = .ref a ∧ (∃ xs, SqL K H a xs) ∧ ∃ W : Nat → Nat → L2.St → Hp → Prop, (∃ m, W 0 m σ H) ∧ ∀ i m σ H, W i m σ H →
      ((Itl K a).stop i H ∧ D.nx σ H) ∨ ((Itl K a).go i H ∧ ∃ N : L2.St → Hp → Prop, (∀ σ' H', N σ' H' → ∃ m', m' < m ∧ W (i + 1) m' σ' H') ∧ ∀ x H', (Itl K a).yld i H x H' → g x σ H' fun σ2 H2 => tb { D with nx := N, ct := N, bk := D.nx } σ2 H2) := by
  obtain ⟨a, xs, rfl, hs, ha⟩ := Dp.lstI h
  have ln := DpAll.mapLen ha
  refine ⟨a, rfl, ⟨xs, hs⟩, for_list (K := K) (a := a) (xs := xs) Pv h0 (fun k σ' H' hk p => ?_) (fun k x σ' H' hx p => ?_) (fun σ' H' p => done σ' H' (ln ▸ p))⟩
  · rcases hl k σ' H' (ln ▸ hk) p with e | e
    · exact e.seq hs
    · exact e.sqL hs
  · obtain ⟨y, h1, h2⟩ := DpAll.item ha hx
    refine turn k x y σ' H' h1 ?_ p
    rcases hl k σ' H' (ln ▸ Nat.le_of_lt (get_lt hx)) p with e | e
    · exact Dp.same e h2
    · exact Dp.samD e h2
theorem for_dt (h : Dp K H v (.tuple (l.map enc))) (Pv : Nat → L2.St → Hp → Prop) (h0 : Pv 0 σ H) (hl : ∀ k σ' H', k ≤ l.length → Pv k σ' H' → Same H H' ∨ SamD H H')
    (turn : ∀ k x y σ' H', l[k]? = some y → Dp K H' x (enc y) → Pv k σ' H' → g x σ' H' fun σ2 H2 => tb { D with nx := Pv (k + 1), ct := Pv (k + 1), bk := D.nx } σ2 H2)
    (done : ∀ σ' H', Pv l.length σ' H' → D.nx σ' H') :
    ∃ a, v = .ref a ∧ (∃ xs, SqT K H a xs) ∧ ∃ W : Nat → Nat → L2.St → Hp → Prop, (∃ m, W 0 m σ H) ∧ ∀ i m σ H, W i m σ H →
      ((Itt K a).stop i H ∧ D.nx σ H) ∨ ((Itt K a).go i H ∧ ∃ N : L2.St → Hp → Prop, (∀ σ' H', N σ' H' → ∃ m', m' < m ∧ W (i + 1) m' σ' H') ∧ ∀ x H', (Itt K a).yld i H x H' → g x σ H' fun σ2 H2 => tb { D with nx := N, ct := N, bk := D.nx } σ2 H2) := by
  obtain ⟨a, xs, rfl, hs, ha⟩ := Dp.tupI h
  have ln := DpAll.mapLen ha
  refine ⟨a, rfl, ⟨xs, hs⟩, for_tup (K := K) (a := a) (xs := xs) Pv h0 (fun k σ' H' hk p => ?_) (fun k x σ' H' hx p => ?_) (fun σ' H' p => done σ' H' (ln ▸ p))⟩
  · rcases hl k σ' H' (ln ▸ hk) p with e | e
    · exact Same.sqT e hs
    · exact e.sqT hs
  · obtain ⟨y, h1, h2⟩ := DpAll.item ha hx
    refine turn k x y σ' H' h1 ?_ p
    rcases hl k σ' H' (ln ▸ Nat.le_of_lt (get_lt hx)) p with e | e
    · exact Dp.same e h2
    · exact Dp.samD e h2
/-- for x in v, v a list or a tuple -/
theorem for_ds {i : Nat} (h : Sq K H v (l.map enc)) (hv : σ[i]? = some (some v)) (Pv : Nat → L2.St → Hp → Prop) (h0 : Pv 0 σ H) (hl : ∀ k σ' H', k ≤ l.length → Pv k σ' H' → Same H H' ∨ SamD H H')
    (turn : ∀ k x y σ' H', l[k]? = some y → Dp K H' x (enc y) → Pv k σ' H' → g x σ' H' fun σ2 H2 => tb { D with nx := Pv (k + 1), ct := Pv (k + 1), bk := D.nx } σ2 H2)
    (done : ∀ σ' H', Pv l.length σ' H' → D.nx σ' H') : tFor (iSeq K (tVar i)) g tb D σ H := by
  rcases h with h | h
  · exact .inl ⟨v, hv, for_dl h Pv h0 hl turn done⟩
  · exact .inr ⟨v, hv, for_dt h Pv h0 hl turn done⟩
theorem for_str {x : Str} (Pv : Nat → L2.St → Hp → Prop) (h0 : Pv 0 σ H) (turn : ∀ (k c : Nat) σ' H', x.cps[k]? = some c → Pv k σ' H' → g (.str ⟨#[c]⟩) σ' H' fun σ2 H2 => tb { D with nx := Pv (k + 1), ct := Pv (k + 1), bk := D.nx } σ2 H2)
    (done : ∀ σ' H', Pv x.cps.size σ' H' → D.nx σ' H') :
    ∃ W : Nat → Nat → L2.St → Hp → Prop, (∃ m, W 0 m σ H) ∧ ∀ i m σ H, W i m σ H →
      ((Its x).stop i H ∧ D.nx σ H) ∨ ((Its x).go i H ∧ ∃ N : L2.St → Hp → Prop, (∀ σ' H', N σ' H' → ∃ m', m' < m ∧ W (i + 1) m' σ' H') ∧ ∀ y H', (Its x).yld i H y H' → g y σ H' fun σ2 H2 => tb { D with nx := N, ct := N, bk := D.nx } σ2 H2) := by
  refine ⟨fun i m σ H => m = x.cps.size - i ∧ i ≤ x.cps.size ∧ Pv i σ H, ⟨_, rfl, Nat.zero_le _, h0⟩, ?_⟩
  rintro i m σ H ⟨rfl, hi, p⟩
  by_cases hlt : i < x.cps.size
  · refine .inr ⟨hlt, Pv (i + 1), fun σ' H' p' => ⟨x.cps.size - (i + 1), by omega, rfl, hlt, p'⟩, fun y H' q => ?_⟩
    obtain ⟨rfl, c, hc, rfl⟩ := q
    exact turn i c σ _ hc p
  · obtain rfl : i = x.cps.size := by omega
    exact .inl ⟨Nat.le_refl _, done σ H p⟩
end
/-! ### comprehensions that make data -/
section
variable {α : Type} {K : PySem.W.Frag} {v : V} {enc : α → PyData} {l : List α} {g : TG} {tt : TT} {te : TE} {vs : List Nat} {σ : L2.St} {H : Hp} {Qd : Addr → Hp → Prop} {f : α → Option PyData}
theorem fm_snoc {i : Nat} {y : α} (h : l[i]? = some y) : (l.take (i + 1)).filterMap f = (l.take i).filterMap f ++ (f y).toList := by
  rw [take_snoc h, List.filterMap_append]
  cases e : f y <;> simp [e]
theorem fm_len {i : Nat} : ((l.take i).filterMap f).length ≤ l.length :=
  Nat.le_trans (List.length_filterMap_le _ _) (by rw [List.length_take]; omega)
abbrev CompTurn (K : PySem.W.Frag) (H : Hp) (D : Addr) (g : TG) (tt : TT) (te : TE) (vs : List Nat) (σ : L2.St) (x : V) (fy : Option PyData) : Prop := ∀ (Hi : Hp) (R : V → Hp → Prop) (N : Hp → Prop), Same H Hi → Hi D ≠ none →
  (∀ d y H4, fy = some d → Same Hi H4 → Dp K (del H4 D) y d → R y H4) → (∀ H4, fy = none → Same Hi H4 → N H4) →
  g x (wipe σ vs) Hi fun σ2 H2 => wipe σ2 vs = wipe σ vs ∧ tt σ2 H2 fun b H3 => if b = true then te σ2 H3 R else N H3
theorem Grown.turn {D : Addr} {i : Nat} {x : V} {y : α} {Hi : Hp} (hD : H D = none) (hz : l.length < 1000) (hy : l[i]? = some y) (h : Grown K H D ((l.take i).filterMap f) Hi) (t : CompTurn K H D g tt te vs σ x (f y)) :
    g x (wipe σ vs) Hi fun σ2 H2 => wipe σ2 vs = wipe σ vs ∧ tt σ2 H2 fun b H3 =>
      if b = true then te σ2 H3 fun y H4 => ∃ acc, H4 D = some (.lst acc) ∧ acc.length < sizeLine ∧ Grown K H D ((l.take (i + 1)).filterMap f) (upd H4 D (.lst (acc ++ [y]))) else Grown K H D ((l.take (i + 1)).filterMap f) H3 := by
  have ne : Hi D ≠ none := by obtain ⟨_, acc, q, _⟩ := h; rw [q]; exact fun z => nomatch z
  refine t Hi _ _ h.1 ne (fun d z H4 e s dz => ?_) (fun H4 e s => ?_)
  · rw [fm_snoc hy, e]
    exact h.more hD s dz (Nat.lt_of_le_of_lt fm_len hz)
  · rw [fm_snoc hy, e]
    obtain ⟨s0, acc, q1, q2, q3⟩ := h
    exact ⟨s0.trans s, acc, s _ _ q1, by simpa using q2, by simpa using DpAll.same (Same.delDel s) q3⟩
theorem lc_dlG (h : Dp K H v (.list (l.map enc))) (hz : l.length < 1000) (f : α → Option PyData)
    (turn : ∀ D, H D = none → ∀ (i : Nat) x y, l[i]? = some y → Dp K H x (enc y) → CompTurn K H D g tt te vs σ x (f y))
    (fin : ∀ D H', Grown K H D (l.filterMap f) H' → H D = none → Qd D H') :
    ∃ a, v = .ref a ∧ (∃ xs, SqL K H a xs) ∧ ∀ D, H D = none → ∃ W : Nat → Nat → Hp → Prop, (∃ m, W 0 m (upd H D (.lst []))) ∧ ∀ i m H, W i m H →
      ((Itl K a).stop i H ∧ Qd D H) ∨ ((Itl K a).go i H ∧ ∃ Nx : Hp → Prop, (∀ H', Nx H' → ∃ m', m' < m ∧ W (i + 1) m' H') ∧ ∀ x H', (Itl K a).yld i H x H' → g x (wipe σ vs) H' fun σ2 H2 => wipe σ2 vs = wipe σ vs ∧ tt σ2 H2 fun b H3 =>
        if b = true then te σ2 H3 fun y H4 => ∃ acc, H4 D = some (.lst acc) ∧ acc.length < sizeLine ∧ Nx (upd H4 D (.lst (acc ++ [y]))) else Nx H3) := by
  obtain ⟨a, xs, rfl, hs, ha⟩ := Dp.lstI h
  have ln := DpAll.mapLen ha
  refine ⟨a, rfl, ⟨xs, hs⟩, fun D hD => lc_list (K := K) (a := a) (xs := xs) (fun i H' => Grown K H D ((l.take i).filterMap f) H') (Grown.start hD) (fun i H' _ p => p.1.seq hs) (fun i x Hi hi p => ?_) (fun H' p => fin D H' ?_ hD)⟩
  · obtain ⟨y, h1, h2⟩ := DpAll.item ha hi
    exact p.turn hD hz h1 (turn D hD i x y h1 h2)
  · have q := p
    rw [ln, List.take_length] at q
    exact q
theorem lc_dl (h : Dp K H v (.list (l.map enc))) (hz : l.length < 1000) (f : α → Option PyData)
    (turn : ∀ D, H D = none → ∀ (i : Nat) x y, l[i]? = some y → Dp K H x (enc y) → CompTurn K H D g tt te vs σ x (f y))
    (fin : ∀ D H', Same H H' → H D = none → Dp K H' (.ref D) (.list (l.filterMap f)) → Qd D H') :
    ∃ a, v = .ref a ∧ (∃ xs, SqL K H a xs) ∧ ∀ D, H D = none → ∃ W : Nat → Nat → Hp → Prop, (∃ m, W 0 m (upd H D (.lst []))) ∧ ∀ i m H, W i m H →
      ((Itl K a).stop i H ∧ Qd D H) ∨ ((Itl K a).go i H ∧ ∃ Nx : Hp → Prop, (∀ H', Nx H' → ∃ m', m' < m ∧ W (i + 1) m' H') ∧ ∀ x H', (Itl K a).yld i H x H' → g x (wipe σ vs) H' fun σ2 H2 => wipe σ2 vs = wipe σ vs ∧ tt σ2 H2 fun b H3 =>
        if b = true then te σ2 H3 fun y H4 => ∃ acc, H4 D = some (.lst acc) ∧ acc.length < sizeLine ∧ Nx (upd H4 D (.lst (acc ++ [y]))) else Nx H3) :=
  lc_dlG h hz f turn fun D H' p hD => fin D H' p.1 hD p.fin
theorem lc_dtG (h : Dp K H v (.tuple (l.map enc))) (hz : l.length < 1000) (f : α → Option PyData)
    (turn : ∀ D, H D = none → ∀ (i : Nat) x y, l[i]? = some y → Dp K H x (enc y) → CompTurn K H D g tt te vs σ x (f y))
    (fin : ∀ D H', Grown K H D (l.filterMap f) H' → H D = none → Qd D H') :
    ∃ a, v = .ref a ∧ (∃ xs, SqT K H a xs) ∧ ∀ D, H D = none → ∃ W : Nat → Nat → Hp → Prop, (∃ m, W 0 m (upd H D (.lst []))) ∧ ∀ i m H, W i m H →
      ((Itt K a).stop i H ∧ Qd D H) ∨ ((Itt K a).go i H ∧ ∃ Nx : Hp → Prop, (∀ H', Nx H' → ∃ m', m' < m ∧ W (i + 1) m' H') ∧ ∀ x H', (Itt K a).yld i H x H' → g x (wipe σ vs) H' fun σ2 H2 => wipe σ2 vs = wipe σ vs ∧ tt σ2 H2 fun b H3 =>
        if b = true then te σ2 H3 fun y H4 => ∃ acc, H4 D = some (.lst acc) ∧ acc.length < sizeLine ∧ Nx (upd H4 D (.lst (acc ++ [y]))) else Nx H3) := by
  obtain ⟨a, xs, rfl, hs, ha⟩ := Dp.tupI h
  have ln := DpAll.mapLen ha
  refine ⟨a, rfl, ⟨xs, hs⟩, fun D hD => lc_tup (K := K) (a := a) (xs := xs) (fun i H' => Grown K H D ((l.take i).filterMap f) H') (Grown.start hD) (fun i H' _ p => Same.sqT p.1 hs) (fun i x Hi hi p => ?_) (fun H' p => fin D H' ?_ hD)⟩
  · obtain ⟨y, h1, h2⟩ := DpAll.item ha hi
    exact p.turn hD hz h1 (turn D hD i x y h1 h2)
  · have q := p
    rw [ln, List.take_length] at q
    exact q
theorem lc_dt (h : Dp K H v (.tuple (l.map enc))) (hz : l.length < 1000) (f : α → Option PyData)
    (turn : ∀ D, H D = none → ∀ (i : Nat) x y, l[i]? = some y → Dp K H x (enc y) → CompTurn K H D g tt te vs σ x (f y))
    (fin : ∀ D H', Same H H' → H D = none → Dp K H' (.ref D) (.list (l.filterMap f)) → Qd D H') :
    ∃ a, v = .ref a ∧ (∃ xs, SqT K H a xs) ∧ ∀ D, H D = none → ∃ W : Nat → Nat → Hp → Prop, (∃ m, W 0 m (upd H D (.lst []))) ∧ ∀ i m H, W i m H →
      ((Itt K a).stop i H ∧ Qd D H) ∨ ((Itt K a).go i H ∧ ∃ Nx : Hp → Prop, (∀ H', Nx H' → ∃ m', m' < m ∧ W (i + 1) m' H') ∧ ∀ x H', (Itt K a).yld i H x H' → g x (wipe σ vs) H' fun σ2 H2 => wipe σ2 vs = wipe σ vs ∧ tt σ2 H2 fun b H3 =>
        if b = true then te σ2 H3 fun y H4 => ∃ acc, H4 D = some (.lst acc) ∧ acc.length < sizeLine ∧ Nx (upd H4 D (.lst (acc ++ [y]))) else Nx H3) :=
  lc_dtG h hz f turn fun D H' p hD => fin D H' p.1 hD p.fin
theorem lc_rgG {n : Nat} (hz : n < 1000) (f : Nat → Option PyData)
    (turn : ∀ D, H D = none → ∀ i, i < n → CompTurn K H D g tt te vs σ (.int (0 + (i : Nat))) (f i))
    (fin : ∀ D H', Grown K H D ((List.range n).filterMap f) H' → H D = none → Qd D H') :
    ∀ D, H D = none → ∃ W : Nat → Nat → Hp → Prop, (∃ m, W 0 m (upd H D (.lst []))) ∧ ∀ i m H, W i m H →
      ((Itr 0 n).stop i H ∧ Qd D H) ∨ ((Itr 0 n).go i H ∧ ∃ Nx : Hp → Prop, (∀ H', Nx H' → ∃ m', m' < m ∧ W (i + 1) m' H') ∧ ∀ x H', (Itr 0 n).yld i H x H' → g x (wipe σ vs) H' fun σ2 H2 => wipe σ2 vs = wipe σ vs ∧ tt σ2 H2 fun b H3 =>
        if b = true then te σ2 H3 fun y H4 => ∃ acc, H4 D = some (.lst acc) ∧ acc.length < sizeLine ∧ Nx (upd H4 D (.lst (acc ++ [y]))) else Nx H3) := by
  have hl : (List.range n).length = n := List.length_range
  refine fun D hD => lc_range (lo := 0) (n := n) (fun i H' => Grown K H D (((List.range n).take i).filterMap f) H') (Grown.start hD) (fun i Hi hi p => ?_) (fun H' p => fin D H' ?_ hD)
  · have e : (List.range n)[i]? = some i := by rw [List.getElem?_range hi]
    exact p.turn hD (by rw [hl]; exact hz) e (turn D hD i hi)
  · have q := p
    rw [show (List.range n).take n = List.range n by rw [List.take_of_length_le (by rw [hl]; exact Nat.le_refl _)]] at q
    exact q
theorem lc_rg {n : Nat} (hz : n < 1000) (f : Nat → Option PyData)
    (turn : ∀ D, H D = none → ∀ i, i < n → CompTurn K H D g tt te vs σ (.int (0 + (i : Nat))) (f i))
    (fin : ∀ D H', Same H H' → H D = none → Dp K H' (.ref D) (.list ((List.range n).filterMap f)) → Qd D H') :
    ∀ D, H D = none → ∃ W : Nat → Nat → Hp → Prop, (∃ m, W 0 m (upd H D (.lst []))) ∧ ∀ i m H, W i m H →
      ((Itr 0 n).stop i H ∧ Qd D H) ∨ ((Itr 0 n).go i H ∧ ∃ Nx : Hp → Prop, (∀ H', Nx H' → ∃ m', m' < m ∧ W (i + 1) m' H') ∧ ∀ x H', (Itr 0 n).yld i H x H' → g x (wipe σ vs) H' fun σ2 H2 => wipe σ2 vs = wipe σ vs ∧ tt σ2 H2 fun b H3 =>
        if b = true then te σ2 H3 fun y H4 => ∃ acc, H4 D = some (.lst acc) ∧ acc.length < sizeLine ∧ Nx (upd H4 D (.lst (acc ++ [y]))) else Nx H3) :=
  lc_rgG hz f turn fun D H' p hD => fin D H' p.1 hD p.fin
end
/-! ### membership -/
theorem inV_str (x : Str) : ∀ zs : List Str, inV (.str x) (zs.map V.str) = decide (x ∈ zs)
  | [] => rfl
  | z :: zs => by
    have ih := inV_str x zs
    show ((z == x) || inV (.str x) (zs.map V.str)) = _
    rw [ih]
    by_cases h : x = z
    · subst h; simp
    · have : (z == x) = false := beq_eq_false_iff_ne.mpr fun e => h e.symm
      rw [this, Bool.false_or]
      simp [h]
theorem inV_int (x : Int) : ∀ zs : List Int, inV (.int x) (zs.map V.int) = decide (x ∈ zs)
  | [] => rfl
  | z :: zs => by
    have ih := inV_int x zs
    show ((z == x) || inV (.int x) (zs.map V.int)) = _
    rw [ih]
    by_cases h : x = z
    · subst h; simp
    · have : (z == x) = false := beq_eq_false_iff_ne.mpr fun e => h e.symm
      rw [this, Bool.false_or]
      simp [h]
theorem flat_ints (ys : List Int) : (ys.map V.int).all flatV = true := by
  rw [List.all_map]
  exact List.all_eq_true.mpr fun _ _ => rfl
theorem dec_str {x y : Str} : decide (V.str x = V.str y) = decide (x = y) := by
  by_cases h : x = y
  · subst h; simp
  · rw [decide_eq_false h]; exact decide_eq_false fun z => h (V.str.inj z)
theorem dec_int {x y : Int} : decide (V.int x = V.int y) = decide (x = y) := by
  by_cases h : x = y
  · subst h; simp
  · rw [decide_eq_false h]; exact decide_eq_false fun z => h (V.int.inj z)
/-! ### data without lists leans on no list -/
mutual
def noL : PyData → Bool
  | .list _ => false
  | .tuple ds => noLs ds
  | _ => true
def noLs : List PyData → Bool
  | [] => true
  | d :: ds => noL d && noLs ds
end
section
variable {K : PySem.W.Frag} {H : Hp} {l : Addr} {ys : List V}
theorem sqT_del {a : Addr} {xs : List V} (hl : H l = some (.lst ys)) (h : SqT K H a xs) : SqT K (del H l) a xs := by
  rcases h with (h | ⟨o, h⟩) | h
  · exact .inl (.inl ((del_ne (ne_of h hl (fun z => nomatch z))).trans h))
  · exact .inl (.inr ⟨o, (del_ne (ne_of h hl (fun z => nomatch z))).trans h⟩)
  · exact .inr h
mutual
theorem Dp.delL (hl : H l = some (.lst ys)) : ∀ {v : V} {d : PyData}, Dp K H v d → noL d = true → Dp K (del H l) v d
  | _, _, .non, _ => .non
  | _, _, .bl b, _ => .bl b
  | _, _, .int i, _ => .int i
  | _, _, .str x, _ => .str x
  | _, _, .lst h hs, n => by cases n
  | _, _, .tup h hs, n => .tup (sqT_del hl h) (DpAll.delL hl hs n)
theorem DpAll.delL (hl : H l = some (.lst ys)) : ∀ {vs : List V} {ds : List PyData}, DpAll K H vs ds → noLs ds = true → DpAll K (del H l) vs ds
  | _, _, .nil, _ => .nil
  | _, _, .cons h t, n => .cons (Dp.delL hl h ((Bool.and_eq_true _ _ ▸ n).1)) (DpAll.delL hl t ((Bool.and_eq_true _ _ ▸ n).2))
end
end
end C62
set_option Elab.async false
set_option linter.all false
set_option maxRecDepth 100000
set_option maxHeartbeats 4000000
namespace C62
open PySem PySem.Spec PyProof.Rows L2
open He (ga ma)
/-! ### names, checks of a protocol's parts -/
def lowerS : Str := "abcdefghijklmnopqrstuvwxyz"
def digitS : Str := "0123456789"
def resvS : List Str := ["all", "new", "if", "set", "hear", "send", "lose", "gone"]
def nameB (x : Str) : Bool := match x.cps.toList with
  | [] => false
  | c :: r => decide (c ∈ lowerS.cps.toList) && decide (r.length ≤ 100) && !decide (x ∈ resvS) && (c :: r).all fun c => decide (c ∈ lowerS.cps.toList) || decide (c ∈ digitS.cps.toList)
structure NameOk (x : Str) : Prop where
  ne : ¬ x = ("" : Str)
  len : x.length ≤ 1000
  c0 : ∃ c, x.cps.toList[0]? = some c ∧ c ∈ lowerS.cps.toList
  res : ¬ x ∈ resvS
  all : ∀ k c : Nat, x.cps[k]? = some c → c ∈ lowerS.cps.toList ∨ c ∈ digitS.cps.toList
theorem nameOk {x : Str} (h : nameB x = true) : NameOk x := by
  unfold nameB at h
  cases e : x.cps.toList with
  | nil => rw [e] at h; cases h
  | cons c r =>
    rw [e] at h
    simp only [Bool.and_eq_true, decide_eq_true_eq, Bool.not_eq_true', decide_eq_false_iff_not, List.all_eq_true, Bool.or_eq_true] at h
    obtain ⟨⟨⟨h1, h2⟩, h3⟩, h4⟩ := h
    refine ⟨fun z => ?_, ?_, ⟨c, by rw [e]; rfl, h1⟩, h3, fun k d hd => h4 d ?_⟩
    · rw [z] at e; cases e
    · show x.cps.size ≤ 1000
      rw [← Array.length_toList, e, List.length_cons]; omega
    · rw [← e]; exact List.mem_of_getElem? (by rw [Array.getElem?_toList]; exact hd)
abbrev dVar (v : Str × List Str) : PyData := .tuple [.str v.1, dStrs v.2]
theorem Dp.varI {K : PySem.W.Frag} {H : Hp} {v : V} {p : Str × List Str} (h : Dp K H v (dVar p)) : ∃ a b, v = .ref a ∧ SqT K H a [.str p.1, .ref b] ∧ SqL K H b (p.2.map V.str) := by
  obtain ⟨a, xs, rfl, hs, ha⟩ := Dp.tupI h
  obtain ⟨x, y, rfl, hx, hy⟩ := DpAll.i2 ha
  obtain ⟨b, rfl, hb⟩ := Dp.strsI hy
  rw [Dp.strI hx] at hs
  exact ⟨a, b, rfl, hs, hb⟩
/-- conditions, effects: one variable at most -/
structure ValsOk (vars : List (Str × List Str)) (ps : List (Str × Str)) : Prop where
  at_ : ∀ p ∈ ps, ∃ zs, vars = [(p.1, zs)] ∧ p.2 ∈ zs
  nd : (ps.map (·.1)).Nodup
  len : ps.length ≤ 60
def spIsName : Sp := fun vs H Q _ => ∃ x : Str, vs = [.str x] ∧ NameOk x ∧ Q (.bl true) H
def spDiff (K : PySem.W.Frag) : Sp := fun vs H Q _ => ∃ (x : V) (zs : List Str), vs = [x] ∧ Dp K H x (dStrs zs) ∧ zs.length < 64 ∧ zs.Nodup ∧ Q (.bl true) H
def spNames (K : PySem.W.Frag) : Sp := fun vs H Q _ => ∃ (x : V) (zs : List Str), vs = [x] ∧ Dp K H x (dStrs zs) ∧ zs.length < 64 ∧ zs.Nodup ∧ (∀ z ∈ zs, NameOk z) ∧ Q (.bl true) H
def spMoves (K : PySem.W.Frag) : Sp := fun vs H Q _ => ∃ (x y : V) (ps : List (Str × Str)) (ss : List Str), vs = [x, y] ∧ Dp K H x (.tuple (ps.map dPr)) ∧ Dp K H y (dStrs ss) ∧ (∀ p ∈ ps, p.1 ∈ ss ∧ (p.2 ∈ ss ∨ p.2 = "gone")) ∧ Q (.bl true) H
def spValues (K : PySem.W.Frag) : Sp := fun vs H Q _ => ∃ (x y : V) (ps : List (Str × Str)) (vars : List (Str × List Str)), vs = [x, y] ∧ Sq K H x (ps.map dPr) ∧ Dp K H y (.list (vars.map dVar)) ∧ ValsOk vars ps ∧ ∀ H', Same H H' → Q (.bl true) H'
def spStates (K : PySem.W.Frag) : Sp := fun vs H Q _ => ∃ (x : V) (z : Str) (ss : List Str), vs = [x, .str z] ∧ Dp K H x (dStrs ss) ∧ 1 ≤ ss.length ∧ ss.length ≤ 6 ∧ ss.Nodup ∧ (∀ z ∈ ss, NameOk z) ∧ z ∈ ss ∧ Q (.bl true) H
def spVariable (K : PySem.W.Frag) : Sp := fun vs H Q _ => ∃ (x y u : V) (z : Str) (ss zs : List Str), vs = [x, y, .str z, u] ∧ Dp K H x (dStrs ss) ∧ Dp K H y (.list []) ∧ Dp K H u (dStrs zs) ∧ NameOk z ∧ z ∉ ss ∧ 2 ≤ zs.length ∧ zs.length ≤ 3 ∧ zs.Nodup ∧
  (∀ z ∈ zs, NameOk z) ∧ ∀ H', Same H H' → Q (.bl true) H'
section
variable {P : Program} {w : World} {K : PySem.W.Frag} {mg : Str → Option Value} {base : Heap}
theorem c_is_name (T : Txt K mg) : Cal P w K mg base 1 "is_name" spIsName := by
  refine T.f_is_name.cal sc_is_name (fun _ _ _ _ _ _ us hl => match us, hl with | [_], _ => rfl) (fun vs H Q E h => ?_) (fun f cdv A outer s H vs Q E hr h => ?_)
  · obtain ⟨x, rfl, _⟩ := h
    rfl
  · obtain ⟨x, rfl, ok, q⟩ := h
    obtain ⟨c, hc, hcl⟩ := ok.c0
    refine ⟨_, (pss_cons (ps_if (PW.pt (pw_or (pt_cmpR op_eq (pv 0) pe_str (nomark _)) (pw_or (pt_cmpR op_notIn_sign (pe_ix ix_str (pv 0) pe_int (fun _ _ => rfl)) (pe_gc rfl T.g_LOWER) rfl) (pw_or1 (pt_cmpR op_in_seq (pv 0) (pe_gc rfl T.g_RESERVED) rfl))))) (pss_one (ps_ret pe_bl)) pss_nil)
  (pss_cons (ps_for PassesOwn.never rfl (pi_str (pv 0)) (pg_name (i := 1) sc_is_name.nd rfl (Or.inl rfl)) (pss_one (ps_if (PW.pt (pw_and (pt_cmpR op_notIn_sign (pv 1) (pe_gc rfl T.g_LOWER) rfl) (pw_and1 (pt_cmpR op_notIn_sign (pv 1) (pe_gc rfl T.g_DIGITS) rfl)))) (pss_one (ps_ret pe_bl)) pss_nil)))
  (pss_one (ps_ret pe_bl)))), ?_⟩
    refine ⟨_, rfl, rfl, _, rfl, ?_⟩
    refine ifF (dec_str.trans (decide_eq_false ok.ne)) ?_
    refine ⟨_, rfl, x, 0, c, rfl, rfl, Nat.le_trans ok.len (by decide), (show atI x.cps.toList ((0 : Nat) : Int) = some c from atI_nat hc), c, lowerS, rfl, rfl, _, rfl, ?_⟩
    refine ifF (by rw [decide_eq_true hcl]; rfl) ?_
    refine ⟨_, rfl, _, _, rfl, .inr (T.t_RESERVED _), rfl, flat_strs _, _, rfl, ?_⟩
    refine ifF ((inV_str x resvS).trans (decide_eq_false ok.res)) ?_
    refine ⟨_, rfl, x, rfl, for_str (fun i σ H' => ∃ v, σ = [some (.str x), v] ∧ H = H') ⟨none, rfl, rfl⟩ ?_ ?_⟩
    · rintro k d σ _ hd ⟨v, rfl, rfl⟩
      rcases ok.all k d hd with h1 | h1
      · refine ⟨_, rfl, d, lowerS, rfl, rfl, _, rfl, ?_⟩
        refine ifF (by rw [decide_eq_true h1]; rfl) ?_
        exact ⟨_, rfl, rfl⟩
      · refine ⟨_, rfl, d, lowerS, rfl, rfl, _, rfl, ?_⟩
        refine ite2 (fun _ => ?_) (fun _ => ⟨_, rfl, rfl⟩)
        refine ⟨_, rfl, d, digitS, rfl, rfl, _, rfl, ?_⟩
        refine ifF (by rw [decide_eq_true h1]; rfl) ?_
        exact ⟨_, rfl, rfl⟩
    · rintro σ _ ⟨v, rfl, rfl⟩
      exact q
theorem c_are_different (T : Txt K mg) : Cal P w K mg base 1 "are_different" (spDiff K) := by
  refine T.f_are_different.cal sc_are_different (fun _ _ _ _ _ _ us hl => match us, hl with | [_], _ => rfl) (fun vs H Q E h => ?_) (fun f cdv A outer s H vs Q E hr h => ?_)
  · obtain ⟨x, zs, rfl, _⟩ := h
    rfl
  · obtain ⟨x, zs, rfl, hx, h64, nd, q⟩ := h
    obtain ⟨a, rfl, ha⟩ := Dp.strsI hx
    refine ⟨_, (pss_one (ps_ret (pe_cmpR op_eq (pe_lenSetS rfl (by rfl) T.b_len (by rfl) T.b_set (pv 0)) (pe_callB call_len_seq (by rfl) T.b_len PyB.boot_len (pa_cons (pv 0) pa_nil)) (nomark _)))), ?_⟩
    refine ⟨_, rfl, a, zs, rfl, ha, h64, nd, _, rfl, a, _, rfl, .inl ha, rfl, ?_⟩
    show Q (.bl (decide (V.int zs.length = V.int (zs.map V.str).length))) H
    rw [List.length_map, decide_eq_true rfl]
    exact q
theorem c_are_names (T : Txt K mg) : Cal P w K mg base 2 "are_names" (spNames K) := by
  refine T.f_are_names.cal sc_are_names (fun _ _ _ _ _ _ us hl => match us, hl with | [_], _ => rfl) (fun vs H Q E h => ?_) (fun f cdv A outer s H vs Q E hr h => ?_)
  · obtain ⟨x, zs, rfl, _⟩ := h
    rfl
  · obtain ⟨x, zs, rfl, hx, h64, nd, ok, q⟩ := h
    refine ⟨_, (pss_cons (ps_for PassesOwn.never rfl (pi_list (pv 0)) (pg_name (i := 1) sc_are_names.nd rfl (Or.inl rfl)) (pss_one (ps_if (pt_not (pt_val (pe_c (c_is_name T) hr (by decide) (by rfl) (pa_cons (pv 1) pa_nil)))) (pss_one (ps_ret pe_bl)) pss_nil)))
  (pss_one (ps_ret (pe_c (c_are_different T) hr (by decide) (by rfl) (pa_cons (pv 0) pa_nil))))), ?_⟩
    refine ⟨_, rfl, for_dl hx (fun i σ H' => ∃ v, σ = [some x, v] ∧ H = H') ⟨none, rfl, rfl⟩ (fun _ _ _ _ ⟨_, _, e⟩ => .inl (e ▸ Same.refl _)) ?_ ?_⟩
    · rintro k y z σ _ hz dz ⟨v, rfl, rfl⟩
      obtain rfl := Dp.strI dz
      refine ⟨_, rfl, z, rfl, ok z (List.mem_of_getElem? hz), _, rfl, ?_⟩
      refine iteF ?_
      exact ⟨_, rfl, rfl⟩
    · rintro σ _ ⟨v, rfl, rfl⟩
      exact ⟨_, rfl, x, zs, rfl, hx, h64, nd, q⟩
theorem c_right_moves (T : Txt K mg) : Cal P w K mg base 1 "right_moves" (spMoves K) := by
  refine T.f_right_moves.cal sc_right_moves (fun _ _ _ _ _ _ us hl => match us, hl with | [_, _], _ => rfl) (fun vs H Q E h => ?_) (fun f cdv A outer s H vs Q E hr h => ?_)
  · obtain ⟨x, y, ps, ss, rfl, _⟩ := h
    rfl
  · obtain ⟨x, y, ps, ss, rfl, hx, hy, ok, q⟩ := h
    obtain ⟨a, rfl, ha⟩ := Dp.strsI hy
    refine ⟨_, (pss_cons (ps_for PassesOwn.never rfl (pi_tup (pv 0)) (pg_tup rfl (pgs_cons (pg_name (i := 2) sc_right_moves.nd rfl (Or.inl rfl)) (pgs_cons (pg_name (i := 3) sc_right_moves.nd rfl (Or.inl rfl)) pgs_nil))) (pss_one (ps_if (PW.pt (pw_or (pt_cmpR op_notIn_seq (pv 2) (pv 1) rfl) (pw_or1 (PW.pt (pw_and (pt_cmpR op_notIn_seq (pv 3) (pv 1) rfl) (pw_and1 (pt_cmpR op_ne (pv 3) (pe_gc rfl T.g_GONE) (nomark _)))))))) (pss_one (ps_ret pe_bl)) pss_nil)))
  (pss_one (ps_ret pe_bl))), ?_⟩
    refine ⟨_, rfl, for_dt hx (fun i σ H' => ∃ v1 v2, σ = [some x, some (.ref a), v1, v2] ∧ H = H') ⟨none, none, rfl, rfl⟩ (fun _ _ _ _ ⟨_, _, _, e⟩ => .inl (e ▸ Same.refl _)) ?_ ?_⟩
    · rintro k y p σ _ hp dp ⟨v1, v2, rfl, rfl⟩
      obtain ⟨b, rfl, hb⟩ := Dp.prI dp
      obtain ⟨o1, o2⟩ := ok p (List.mem_of_getElem? hp)
      refine ⟨b, _, rfl, hb, rfl, _, _, rfl, _, _, rfl, rfl, ?_⟩
      refine ⟨_, rfl, _, rfl, a, _, rfl, .inl ha, rfl, flat_strs _, _, rfl, ?_⟩
      refine ifF (by show (!inV _ _) = false; rw [inV_str, decide_eq_true o1]; rfl) ?_
      rcases o2 with o2 | o2
      · refine ⟨_, rfl, _, rfl, a, _, rfl, .inl ha, rfl, flat_strs _, _, rfl, ?_⟩
        refine ifF (by show (!inV _ _) = false; rw [inV_str, decide_eq_true o2]; rfl) ?_
        exact ⟨_, _, rfl, rfl⟩
      · refine ⟨_, rfl, _, rfl, a, _, rfl, .inl ha, rfl, flat_strs _, _, rfl, ?_⟩
        refine ite2 (fun _ => ?_) (fun _ => ⟨_, _, rfl, rfl⟩)
        refine ⟨_, rfl, rfl, _, rfl, ?_⟩
        refine ifF (by rw [dec_str, decide_eq_true o2]; rfl) ?_
        exact ⟨_, _, rfl, rfl⟩
    · rintro σ _ ⟨v1, v2, rfl, rfl⟩
      exact q
end
end C62
set_option Elab.async false
set_option linter.all false
set_option maxRecDepth 100000
set_option maxHeartbeats 4000000
namespace C62
open PySem PySem.Spec PyProof.Rows L2
open He (ga ma)
theorem fm_map {α β : Type} (f : α → β) (l : List α) : l.filterMap (fun x => some (f x)) = l.map f := by
  induction l with
  | nil => rfl
  | cons a r ih => rw [List.filterMap_cons]; simp [ih]
theorem map_map' {α β γ : Type} (f : α → β) (g : β → γ) (l : List α) : l.map (fun x => g (f x)) = (l.map f).map g := (List.map_map ..).symm
section
variable {K : PySem.W.Frag} {H : Hp}
theorem yesT {te : TE} {σ : L2.St} {H : Hp} {R : V → Hp → Prop} {N : Hp → Prop} (h : te σ H R) : tYes σ H fun b H3 => if b = true then te σ H3 R else N H3 := by
  show if true = true then te σ H R else N H
  rw [if_pos rfl]
  exact h
theorem Dp.ofDel {H : Hp} {D : Addr} {v : V} {d : PyData} (h : Dp K (del H D) v d) : Dp K H v d := Dp.same Same.ofDel h
end
section
variable {P : Program} {w : World} {K : PySem.W.Frag} {mg : Str → Option Value} {base : Heap}
theorem c_right_values (T : Txt K mg) : Cal P w K mg base 2 "right_values" (spValues K) := by
  refine T.f_right_values.cal sc_right_values (fun _ _ _ _ _ _ us hl => match us, hl with | [_, _], _ => rfl) (fun vs H Q E h => ?_) (fun f cdv A outer s H vs Q E hr h => ?_)
  · obtain ⟨x, y, ps, vars, rfl, _⟩ := h
    rfl
  · obtain ⟨x, y, ps, vars, rfl, hx, hy, ok, q⟩ := h
    refine ⟨_, (pss_cons (ps_for PassesOwn.never rfl (pi_seq (pv 0)) (pg_tup rfl (pgs_cons (pg_name (i := 2) sc_right_values.nd rfl (Or.inr rfl)) (pgs_cons (pg_name (i := 3) sc_right_values.nd rfl (Or.inl rfl)) pgs_nil))) (pss_cons (ps_setLc (i := 4) (own := [("variable", 5), ("values", 6)]) (g := gTup K 2 (gCons (gName 5) (gCons (gName 6) (gNil)))) rfl sc_right_values.nd rfl rfl (sw_true rfl rfl rfl (by decide +kernel)) (pi_list (pv 1)) (blkOk_by (own := [("variable", 5), ("values", 6)]) (N := nm_right_values) (sc := defScope s_right_values) (by decide +kernel)) (fun _ _ _ _ _ => (pg_tup rfl (pgs_cons (pg_name (i := 5) sc_right_values.nd rfl (Or.inl rfl)) (pgs_cons (pg_name (i := 6) sc_right_values.nd rfl (Or.inl rfl)) pgs_nil)))) (fun _ _ _ _ _ => pts_one (pt_cmpR op_eq (pv 5) (pv 2) (nomark _))) (fun _ _ _ _ _ => (pv 6)))
  (pss_one (ps_if (PW.pt (pw_or (pt_cmpR op_eq (pe_callB call_len_seq (by rfl) T.b_len PyB.boot_len (pa_cons (pv 4) pa_nil)) pe_int (nomark _)) (pw_or1 (pt_cmpR op_notIn_seq (pv 3) (pe_ix ix_list (pv 4) pe_int (fun _ _ => rfl)) rfl)))) (pss_one (ps_ret pe_bl)) pss_nil))))
  (pss_one (ps_ret (pe_c (c_are_different T) hr (by decide) (by rfl) (pa_cons (pe_lc (own := [("name", 2), ("_", 7)]) (g := gTup K 2 (gCons (gName 2) (gCons (gName 7) (gNil)))) rfl sc_right_values.nd (pi_seq (pv 0)) (blkOk_by (own := [("name", 2), ("_", 7)]) (N := nm_right_values) (sc := defScope s_right_values) (by decide +kernel)) (fun _ _ _ _ _ => (pg_tup rfl (pgs_cons (pg_name (i := 2) sc_right_values.nd rfl (Or.inl rfl)) (pgs_cons (pg_name (i := 7) sc_right_values.nd rfl (Or.inl rfl)) pgs_nil)))) (fun _ _ _ _ _ => pts_nil) (fun _ _ _ _ _ => (pv 2))) pa_nil))))), ?_⟩
    refine for_ds (i := 0) hx rfl (fun i σ H' => ∃ v1 v2 v3, σ = [some x, some y, v1, v2, v3, none, none, none] ∧ Same H H') ⟨none, none, none, rfl, Same.refl _⟩ (fun _ _ _ _ ⟨_, _, _, _, e⟩ => .inl e) ?_ ?_
    · rintro k y' p σ H1 hp dp ⟨v1, v2, v3, rfl, s1⟩
      obtain ⟨b, rfl, hb⟩ := Dp.prI dp
      obtain ⟨zs, hvars, hmem⟩ := ok.at_ p (List.mem_of_getElem? hp)
      subst hvars
      refine ⟨b, _, rfl, hb, rfl, _, _, rfl, _, _, rfl, rfl, ?_⟩
      obtain ⟨c, ws, rfl, hc, hws⟩ := Dp.lstI (Dp.same s1 hy)
      obtain ⟨u, rfl, du⟩ := DpAll.i1 hws
      obtain ⟨d, e, rfl, hd, he⟩ := Dp.varI du
      refine ⟨_, rfl, c, rfl, ⟨_, hc⟩, fun D hD => lc_list (K := K) (a := c) (xs := [.ref d]) (fun i H' => H' = upd H1 D (.lst (([.ref e] : List V).take i))) rfl (fun i H' _ e => e ▸ (Same.upd hD).seq hc) ?_ ?_⟩
      · rintro i z Hi hi rfl
        have s2 : Same H1 (upd H1 D (.lst (([.ref e] : List V).take i))) := Same.upd hD
        obtain ⟨rfl, rfl⟩ : i = 0 ∧ z = .ref d := by
          match i, hi with
          | 0, e => exact ⟨rfl, (Option.some.inj e).symm⟩
          | (j + 1), e => simp at e
        refine ⟨d, _, rfl, Same.sqT s2 hd, rfl, _, _, rfl, _, _, rfl, rfl, rfl, ?_⟩
        refine ⟨_, rfl, _, rfl, rfl, _, rfl, ?_⟩
        refine ifT (by rw [decide_eq_true rfl]) ?_
        exact ⟨_, rfl, [], upd_same, by decide, by rw [upd_upd]; rfl⟩
      · rintro H2 rfl
        have s2 : Same H1 (upd H1 D (.lst (([.ref e] : List V).take ([.ref d] : List V).length))) := Same.upd hD
        refine ⟨_, rfl, D, _, rfl, .inl (SqL.of upd_same), rfl, _, rfl, ?_⟩
        refine ifF rfl ?_
        refine ⟨_, rfl, _, rfl, D, _, (0 : Int), _, rfl, rfl, SqL.of upd_same, at_of (z := (0 : Int)) (j := 0) rfl rfl, e, _, rfl, .inl (s2.seq he), rfl, flat_strs _, _, rfl, ?_⟩
        refine ifF (by show (!inV _ _) = false; rw [inV_str, decide_eq_true hmem]; rfl) ?_
        exact ⟨_, _, _, rfl, s1.trans s2⟩
    · rintro σ H1 ⟨v1, v2, v3, rfl, s1⟩
      have fin : ∀ D H2, Same H1 H2 → H1 D = none → Dp K H2 (.ref D) (.list (ps.filterMap fun p => some (.str p.1))) → (spDiff K) [V.ref D] H2 Q E := fun D H2 s2 _ hd => by
        rw [fm_map, map_map' Prod.fst PyData.str] at hd
        exact ⟨_, _, rfl, hd, Nat.lt_of_le_of_lt (Nat.le_of_eq (List.length_map ..)) (Nat.lt_of_le_of_lt ok.len (by decide)), ok.nd, q _ (s1.trans s2)⟩
      have turn : ∀ D, H1 D = none → ∀ (i : Nat) z p, ps[i]? = some p → Dp K H1 z (dPr p) → CompTurn K H1 D (gTup K 2 (gCons (gName 2) (gCons (gName 7) (gNil)))) tYes (tVar 2) [2, 7] [some x, some y, v1, v2, v3, none, none, none] z (some (.str p.1)) := fun D hD i z p hp dp Hi R N s2 nD hR _ => by
        obtain ⟨b, rfl, hb⟩ := Dp.prI dp
        refine ⟨b, _, rfl, Same.sqT s2 hb, rfl, _, _, rfl, _, _, rfl, rfl, rfl, ?_⟩
        refine yesT ?_
        exact ⟨_, rfl, hR _ _ _ rfl (Same.refl _) (.str _)⟩
      have hz : ps.length < 1000 := by have := ok.len; omega
      rcases hx with hx | hx
      · refine .inl ⟨_, rfl, lc_dl (K := K) (vs := [2, 7]) (Dp.same s1 hx) hz (fun p => some (.str p.1)) (fun D hD i z p hp dp => ?_) fin⟩
        exact turn D hD i z p hp dp
      · refine .inr ⟨_, rfl, lc_dt (K := K) (vs := [2, 7]) (Dp.same s1 hx) hz (fun p => some (.str p.1)) (fun D hD i z p hp dp => ?_) fin⟩
        exact turn D hD i z p hp dp
end
end C62
set_option Elab.async false
set_option linter.all false
set_option maxRecDepth 100000
set_option maxHeartbeats 4000000
namespace C62
open PySem PySem.Spec PyProof.Rows L2
open He (ga ma)
/-! ### a protocol's data -/
structure RuleD where
  name : Str
  actors : List (Str × Str)
  everyone : List (Str × Str)
  born : List Str
  conds : List (Str × Str)
  effs : List (Str × Str)
abbrev PatD := List (Str × Int) × List (Str × Str)
abbrev dPat (b : PatD) : PyData := .tuple [.list (b.1.map dCp), .list (b.2.map dPr)]
structure RuleOk (ss : List Str) (vars : List (Str × List Str)) (r : RuleD) : Prop where
  name : NameOk r.name
  a1 : 1 ≤ r.actors.length
  a3 : r.actors.length ≤ 3
  am : ∀ p ∈ r.actors, p.1 ∈ ss ∧ (p.2 ∈ ss ∨ p.2 = "gone")
  em : ∀ p ∈ r.everyone, p.1 ∈ ss ∧ (p.2 ∈ ss ∨ p.2 = "gone")
  en : (r.everyone.map (·.1)).Nodup
  el : r.everyone.length ≤ 60
  bl : r.born.length ≤ 2
  bm : ∀ s ∈ r.born, s ∈ ss
  co : ValsOk vars r.conds
  ef : ValsOk vars r.effs
structure PatOk (ss : List Str) (vars : List (Str × List Str)) (b : PatD) : Prop where
  ne : 1 ≤ b.1.length + b.2.length
  cm : ∀ p ∈ b.1, p.1 ∈ ss ∧ 1 ≤ p.2 ∧ p.2 ≤ 9
  cn : (b.1.map (·.1)).Nodup
  cl : b.1.length ≤ 60
  vo : ValsOk vars b.2
/-- a Rule's fields -/
structure RuleFs (K : PySem.W.Frag) (H : Hp) (fs : List (Str × V)) (r : RuleD) : Prop where
  name : fs.lookup ("name" : Str) = some (.str r.name)
  actors : ∃ u, fs.lookup ("actors" : Str) = some u ∧ Dp K H u (.tuple (r.actors.map dPr))
  everyone : ∃ u, fs.lookup ("everyone" : Str) = some u ∧ Dp K H u (.tuple (r.everyone.map dPr))
  born : ∃ u, fs.lookup ("born" : Str) = some u ∧ Dp K H u (dStrT r.born)
  conds : ∃ u, fs.lookup ("conditions" : Str) = some u ∧ Dp K H u (.tuple (r.conds.map dPr))
  effs : ∃ u, fs.lookup ("effects" : Str) = some u ∧ Dp K H u (.tuple (r.effs.map dPr))
  hears : ∃ u, fs.lookup ("hears" : Str) = some u ∧ Dp K H u (.tuple [])
  sends : ∃ u, fs.lookup ("sends" : Str) = some u ∧ Dp K H u (.tuple [])
theorem RuleFs.samD {K : PySem.W.Frag} {H H' : Hp} {fs : List (Str × V)} {r : RuleD} (e : SamD H H') (h : RuleFs K H fs r) : RuleFs K H' fs r :=
  have f : ∀ {x : Str} {d : PyData}, (∃ u, fs.lookup x = some u ∧ Dp K H u d) → ∃ u, fs.lookup x = some u ∧ Dp K H' u d := fun ⟨u, a, b⟩ => ⟨u, a, Dp.samD e b⟩
  ⟨h.name, f h.actors, f h.everyone, f h.born, f h.conds, f h.effs, f h.hears, f h.sends⟩
def RuleAt (K : PySem.W.Frag) (H : Hp) (v : V) (r : RuleD) : Prop := ∃ (a dx : Addr) (fs : List (Str × V)), v = .ref a ∧ H a = some (.ins (ga K "Rule") dx fs) ∧ RuleFs K H fs r
theorem RuleAt.same {K : PySem.W.Frag} {H H' : Hp} {v : V} {r : RuleD} (e : Same H H') : RuleAt K H v r → RuleAt K H' v r
  | ⟨a, dx, fs, h1, h2, h3⟩ => ⟨a, dx, fs, h1, e _ _ h2, h3.samD (Same.samD e)⟩
/-- a row of Rules -/
inductive RulesAt (K : PySem.W.Frag) (H : Hp) : List V → List RuleD → Prop
  | nil : RulesAt K H [] []
  | cons {v : V} {r : RuleD} {vs : List V} {rs : List RuleD} : RuleAt K H v r → RulesAt K H vs rs → RulesAt K H (v :: vs) (r :: rs)
theorem RulesAt.same {K : PySem.W.Frag} {H H' : Hp} (e : Same H H') : ∀ {vs : List V} {rs : List RuleD}, RulesAt K H vs rs → RulesAt K H' vs rs
  | _, _, .nil => .nil
  | _, _, .cons h t => .cons (h.same e) (t.same e)
theorem RulesAt.len {K : PySem.W.Frag} {H : Hp} : ∀ {vs : List V} {rs : List RuleD}, RulesAt K H vs rs → vs.length = rs.length
  | _, _, .nil => rfl
  | _, _, .cons _ t => congrArg Nat.succ t.len
theorem RulesAt.get {K : PySem.W.Frag} {H : Hp} : ∀ {vs : List V} {rs : List RuleD} {i : Nat} {v : V}, RulesAt K H vs rs → vs[i]? = some v → ∃ r, rs[i]? = some r ∧ RuleAt K H v r
  | _, _, _, _, .nil, e => by simp at e
  | _, _, 0, _, .cons h _, e => by simp at e; subst e; exact ⟨_, rfl, h⟩
  | _, _, i + 1, _, .cons _ t, e => by
    obtain ⟨r, h1, h2⟩ := RulesAt.get (i := i) t (by simpa using e)
    exact ⟨r, by simpa using h1, h2⟩
theorem RulesAt.getR {K : PySem.W.Frag} {H : Hp} : ∀ {vs : List V} {rs : List RuleD} {i : Nat} {r : RuleD}, RulesAt K H vs rs → rs[i]? = some r → ∃ v, vs[i]? = some v ∧ RuleAt K H v r
  | _, _, _, _, .nil, e => by simp at e
  | _, _, 0, _, .cons h _, e => by simp at e; subst e; exact ⟨_, rfl, h⟩
  | _, _, i + 1, _, .cons _ t, e => by
    obtain ⟨r, h1, h2⟩ := RulesAt.getR (i := i) t (by simpa using e)
    exact ⟨r, by simpa using h1, h2⟩
theorem RulesAt.take {K : PySem.W.Frag} {H : Hp} : ∀ {vs : List V} {rs : List RuleD} (i : Nat), RulesAt K H vs rs → RulesAt K H (vs.take i) (rs.take i)
  | _, _, 0, _ => .nil
  | _, _, _ + 1, .nil => .nil
  | _, _, i + 1, .cons h t => .cons h (t.take i)
theorem RulesAt.app {K : PySem.W.Frag} {H : Hp} : ∀ {vs ws : List V} {rs qs : List RuleD}, RulesAt K H vs rs → RulesAt K H ws qs → RulesAt K H (vs ++ ws) (rs ++ qs)
  | _, _, _, _, .nil, h => h
  | _, _, _, _, .cons h t, h2 => .cons h (t.app h2)
def spRightRule (K : PySem.W.Frag) : Sp := fun vs H Q _ => ∃ (x y u z : V) (c : Addr) (ss : List Str) (vars : List (Str × List Str)) (ws : List V) (rs : List RuleD) (r : RuleD), vs = [x, y, u, .ref c, z] ∧ Dp K H x (dStrs ss) ∧ Dp K H y (.list (vars.map dVar)) ∧
  Dp K H u (.list []) ∧ SqL K H c ws ∧ RulesAt K H ws rs ∧ rs.length < 8 ∧ r.name ∉ rs.map (·.name) ∧ RuleAt K H z r ∧ RuleOk ss vars r ∧ ∀ H', Same H H' → Q (.bl true) H'
def spRightPat (K : PySem.W.Frag) : Sp := fun vs H Q _ => ∃ (x y u z : V) (ss : List Str) (vars : List (Str × List Str)) (es : List PyData) (b : PatD), vs = [x, y, u, z] ∧ Dp K H x (dStrs ss) ∧ Dp K H y (.list (vars.map dVar)) ∧
  Dp K H u (.list es) ∧ es.length < 4 ∧ Dp K H z (dPat b) ∧ PatOk ss vars b ∧ ∀ H', Same H H' → Q (.bl true) H'
section
variable {P : Program} {w : World} {K : PySem.W.Frag} {mg : Str → Option Value} {base : Heap}
theorem c_right_states (T : Txt K mg) : Cal P w K mg base 3 "right_states" (spStates K) := by
  refine T.f_right_states.cal sc_right_states (fun _ _ _ _ _ _ us hl => match us, hl with | [_, _], _ => rfl) (fun vs H Q E h => ?_) (fun f cdv A outer s H vs Q E hr h => ?_)
  · obtain ⟨x, z, ss, rfl, _⟩ := h
    rfl
  · obtain ⟨x, z, ss, rfl, hx, h1, h6, nd, ok, hz, q⟩ := h
    obtain ⟨a, rfl, ha⟩ := Dp.strsI hx
    have hl : (ss.map V.str).length = ss.length := List.length_map ..
    refine ⟨_, (pss_one (ps_ret (pe_and (pe_chain op_le op_le pe_int (pe_callB call_len_seq (by rfl) T.b_len PyB.boot_len (pa_cons (pv 0) pa_nil)) pe_int) (pe_and (pe_c (c_are_names T) hr (by decide) (by rfl) (pa_cons (pv 0) pa_nil)) (pe_one (pe_cmpR op_in_seq (pv 1) (pv 0) rfl)))))), ?_⟩
    refine ⟨_, rfl, a, _, rfl, .inl ha, _, _, rfl, rfl, _, rfl, ?_⟩
    refine ifT (decide_eq_true (by omega)) ?_
    refine ⟨_, _, rfl, rfl, _, rfl, ?_⟩
    refine ifT (decide_eq_true (by omega)) ?_
    refine ⟨_, rfl, _, ss, rfl, hx, by omega, nd, ok, _, rfl, ?_⟩
    refine iteT ?_
    refine ⟨_, rfl, _, rfl, a, _, rfl, .inl ha, rfl, flat_strs _, ?_⟩
    show Q (.bl (inV (.str z) (ss.map V.str))) H
    rw [inV_str, decide_eq_true hz]
    exact q
theorem c_right_variable (T : Txt K mg) : Cal P w K mg base 3 "right_variable" (spVariable K) := by
  refine T.f_right_variable.cal sc_right_variable (fun _ _ _ _ _ _ us hl => match us, hl with | [_, _, _, _], _ => rfl) (fun vs H Q E h => ?_) (fun f cdv A outer s H vs Q E hr h => ?_)
  · obtain ⟨x, y, u, z, ss, zs, rfl, _⟩ := h
    rfl
  · obtain ⟨x, y, u, z, ss, zs, rfl, hx, hy, hu, ok, hn, h2, h3, nd, oks, q⟩ := h
    obtain ⟨a, rfl, ha⟩ := Dp.strsI hx
    obtain ⟨b, ys, rfl, hb, hys⟩ := Dp.lstI hy
    cases hys
    obtain ⟨c, rfl, hc⟩ := Dp.strsI hu
    have hl : (zs.map V.str).length = zs.length := List.length_map ..
    refine ⟨_, (pss_cons (ps_if (PW.pt (pw_or (pt_cmpR op_ge (pe_callB call_len_seq (by rfl) T.b_len PyB.boot_len (pa_cons (pv 1) pa_nil)) pe_int (nomark _)) (pw_or (pt_not (pt_val (pe_c (c_is_name T) hr (by decide) (by rfl) (pa_cons (pv 2) pa_nil)))) (pw_or1 (pt_cmpR op_in_seq (pv 2) (pv 0) rfl))))) (pss_one (ps_ret pe_bl)) pss_nil)
  (pss_cons (ps_if (pt_cmpR op_in_seq (pv 2) (pe_lc (own := [("variable", 4), ("_", 5)]) (g := gTup K 2 (gCons (gName 4) (gCons (gName 5) (gNil)))) rfl sc_right_variable.nd (pi_list (pv 1)) (blkOk_by (own := [("variable", 4), ("_", 5)]) (N := nm_right_variable) (sc := defScope s_right_variable) (by decide +kernel)) (fun _ _ _ _ _ => (pg_tup rfl (pgs_cons (pg_name (i := 4) sc_right_variable.nd rfl (Or.inl rfl)) (pgs_cons (pg_name (i := 5) sc_right_variable.nd rfl (Or.inl rfl)) pgs_nil)))) (fun _ _ _ _ _ => pts_nil) (fun _ _ _ _ _ => (pv 4))) rfl) (pss_one (ps_ret pe_bl)) pss_nil)
  (pss_one (ps_ret (pe_and (pe_chain op_le op_le pe_int (pe_callB call_len_seq (by rfl) T.b_len PyB.boot_len (pa_cons (pv 3) pa_nil)) pe_int) (pe_one (pe_c (c_are_names T) hr (by decide) (by rfl) (pa_cons (pv 3) pa_nil)))))))), ?_⟩
    refine ⟨_, rfl, b, _, rfl, .inl hb, _, _, rfl, rfl, _, rfl, ?_⟩
    refine ifF rfl ?_
    refine ⟨_, rfl, z, rfl, ok, _, rfl, ?_⟩
    refine iteF ?_
    refine ⟨_, rfl, _, rfl, a, _, rfl, .inl ha, rfl, flat_strs _, _, rfl, ?_⟩
    refine ifF (by show inV _ _ = false; rw [inV_str, decide_eq_false hn]) ?_
    refine ⟨_, rfl, _, rfl, b, rfl, ⟨_, hb⟩, fun D hD => lc_list (K := K) (a := b) (xs := []) (fun i H' => H' = upd H D (.lst [])) rfl (fun i H' _ e => e ▸ (Same.upd hD).seq hb) (fun i z Hi hi => by simp at hi) ?_⟩
    rintro H1 rfl
    have s1 : Same H (upd H D (.lst [])) := Same.upd hD
    refine ⟨D, _, rfl, .inl (SqL.of upd_same), rfl, rfl, _, rfl, ?_⟩
    refine ifF rfl ?_
    refine ⟨_, rfl, c, _, rfl, .inl (s1.seq hc), _, _, rfl, rfl, _, rfl, ?_⟩
    refine ifT (decide_eq_true (by omega)) ?_
    refine ⟨_, _, rfl, rfl, _, rfl, ?_⟩
    refine ifT (decide_eq_true (by omega)) ?_
    exact ⟨_, rfl, _, zs, rfl, Dp.same s1 hu, by omega, nd, oks, q _ s1⟩
theorem c_right_pattern (T : Txt K mg) : Cal P w K mg base 3 "right_pattern" (spRightPat K) := by
  refine T.f_right_pattern.cal sc_right_pattern (fun _ _ _ _ _ _ us hl => match us, hl with | [_, _, _, _], _ => rfl) (fun vs H Q E h => ?_) (fun f cdv A outer s H vs Q E hr h => ?_)
  · obtain ⟨x, y, u, z, ss, vars, es, b, rfl, _⟩ := h
    rfl
  · obtain ⟨x, y, u, z, ss, vars, es, b, rfl, hx, hy, hu, h4, hz, ok, q⟩ := h
    obtain ⟨a, rfl, ha⟩ := Dp.strsI hx
    obtain ⟨e, ys, rfl, he, hys⟩ := Dp.lstI hu
    obtain ⟨c, xs, rfl, hc, hcs⟩ := Dp.tupI hz
    obtain ⟨u1, u2, rfl, d1, d2⟩ := DpAll.i2 hcs
    obtain ⟨k1, xs1, rfl, hk1, hx1⟩ := Dp.lstI d1
    obtain ⟨k2, xs2, rfl, hk2, hx2⟩ := Dp.lstI d2
    have l0 := DpAll.len hys
    have l1 := DpAll.mapLen hx1
    have l2 := DpAll.mapLen hx2
    have ne := ok.ne
    refine ⟨_, (pss_cons (ps_asg (pv 3) (pg_tup rfl (pgs_cons (pg_name (i := 4) sc_right_pattern.nd rfl (Or.inl rfl)) (pgs_cons (pg_name (i := 5) sc_right_pattern.nd rfl (Or.inl rfl)) pgs_nil))))
  (pss_cons (ps_if (PW.pt (pw_or (pt_cmpR op_ge (pe_callB call_len_seq (by rfl) T.b_len PyB.boot_len (pa_cons (pv 2) pa_nil)) pe_int (nomark _)) (pw_or1 (pt_cmpR op_eq (pe_op op_add (pe_callB call_len_seq (by rfl) T.b_len PyB.boot_len (pa_cons (pv 4) pa_nil)) (pe_callB call_len_seq (by rfl) T.b_len PyB.boot_len (pa_cons (pv 5) pa_nil))) pe_int (nomark _))))) (pss_one (ps_ret pe_bl)) pss_nil)
  (pss_cons (ps_for PassesOwn.never rfl (pi_list (pv 4)) (pg_tup rfl (pgs_cons (pg_name (i := 6) sc_right_pattern.nd rfl (Or.inl rfl)) (pgs_cons (pg_name (i := 7) sc_right_pattern.nd rfl (Or.inl rfl)) pgs_nil))) (pss_one (ps_if (PW.pt (pw_or (pt_cmpR op_notIn_seq (pv 6) (pv 0) rfl) (pw_or1 (pt_not (pt_chain op_le op_le pe_int (pv 7) pe_int))))) (pss_one (ps_ret pe_bl)) pss_nil)))
  (pss_one (ps_ret (pe_and (pe_c (c_are_different T) hr (by decide) (by rfl) (pa_cons (pe_lc (own := [("state", 6), ("_", 8)]) (g := gTup K 2 (gCons (gName 6) (gCons (gName 8) (gNil)))) rfl sc_right_pattern.nd (pi_list (pv 4)) (blkOk_by (own := [("state", 6), ("_", 8)]) (N := nm_right_pattern) (sc := defScope s_right_pattern) (by decide +kernel)) (fun _ _ _ _ _ => (pg_tup rfl (pgs_cons (pg_name (i := 6) sc_right_pattern.nd rfl (Or.inl rfl)) (pgs_cons (pg_name (i := 8) sc_right_pattern.nd rfl (Or.inl rfl)) pgs_nil)))) (fun _ _ _ _ _ => pts_nil) (fun _ _ _ _ _ => (pv 6))) pa_nil)) (pe_one (pe_c (c_right_values T) hr (by decide) (by rfl) (pa_cons (pv 5) (pa_cons (pv 1) pa_nil)))))))))), ?_⟩
    refine ⟨_, rfl, c, _, rfl, hc, rfl, _, _, rfl, _, _, rfl, rfl, ?_⟩
    refine ⟨_, rfl, e, _, rfl, .inl he, _, _, rfl, rfl, _, rfl, ?_⟩
    refine ifF (decide_eq_false (by omega)) ?_
    refine ⟨_, rfl, k1, _, rfl, .inl hk1, _, rfl, k2, _, rfl, .inl hk2, _, _, rfl, rfl, rfl, _, rfl, ?_⟩
    refine ifF (dec_int.trans (decide_eq_false (by omega))) ?_
    refine ⟨_, rfl, for_dl d1 (fun i σ H' => ∃ v1 v2, σ = [some (.ref a), some y, some (.ref e), some (.ref c), some (.ref k1), some (.ref k2), v1, v2, none] ∧ H = H') ⟨none, none, rfl, rfl⟩ (fun _ _ _ _ ⟨_, _, _, e⟩ => .inl (e ▸ Same.refl _)) ?_ ?_⟩
    · rintro k y' p σ _ hp dp ⟨v1, v2, rfl, rfl⟩
      obtain ⟨g, rfl, hg⟩ := Dp.cpI dp
      obtain ⟨o1, o2, o3⟩ := ok.cm p (List.mem_of_getElem? hp)
      refine ⟨g, _, rfl, hg, rfl, _, _, rfl, _, _, rfl, rfl, ?_⟩
      refine ⟨_, rfl, _, rfl, a, _, rfl, .inl ha, rfl, flat_strs _, _, rfl, ?_⟩
      refine ifF (by show (!inV _ _) = false; rw [inV_str, decide_eq_true o1]; rfl) ?_
      refine ⟨_, rfl, _, _, rfl, rfl, _, rfl, ?_⟩
      refine ifT (decide_eq_true o2) ?_
      refine ⟨_, _, rfl, rfl, _, rfl, ?_⟩
      refine ifF (by rw [decide_eq_true o3]; rfl) ?_
      exact ⟨_, _, rfl, rfl⟩
    · rintro σ _ ⟨v1, v2, rfl, rfl⟩
      refine ⟨_, rfl, lc_dl (K := K) (vs := [6, 8]) d1 (Nat.lt_of_le_of_lt ok.cl (by decide)) (fun p => some (.str p.1)) ?_ ?_⟩
      · intro D hD i z p hp dp Hi R N s2 nD hR _
        obtain ⟨g, rfl, hg⟩ := Dp.cpI dp
        refine ⟨g, _, rfl, Same.sqT s2 hg, rfl, _, _, rfl, _, _, rfl, rfl, rfl, ?_⟩
        refine yesT ?_
        exact ⟨_, rfl, hR _ _ _ rfl (Same.refl _) (.str _)⟩
      · intro D H1 s1 hD hd
        rw [fm_map, map_map' Prod.fst PyData.str] at hd
        refine ⟨_, _, rfl, hd, Nat.lt_of_le_of_lt (Nat.le_of_eq (List.length_map ..)) (Nat.lt_of_le_of_lt ok.cl (by decide)), ok.cn, _, rfl, ?_⟩
        refine iteT ?_
        exact ⟨_, rfl, _, rfl, _, _, b.2, vars, rfl, .inl (Dp.same s1 d2), Dp.same s1 hy, ok.vo, fun H' s2 => q _ (s1.trans s2)⟩
end
end C62
set_option Elab.async false
set_option linter.all false
set_option maxRecDepth 100000
set_option maxHeartbeats 4000000
namespace C62
open PySem PySem.Spec PyProof.Rows L2
open He (ga ma)
/-- a text or a number -/
def flatD : PyData → Bool
  | .str _ => true
  | .int _ => true
  | _ => false
theorem Dp.flat {K : PySem.W.Frag} {H : Hp} {v : V} {d : PyData} (h : Dp K H v d) (f : flatD d = true) (H' : Hp) : Dp K H' v d := by
  cases h with
  | str x => exact .str x
  | int i => exact .int i
  | _ => cases f
/-- what is new in H' -/
def fresh (H H' : Hp) : Hp := fun b => match H b with
  | none => H' b
  | some _ => none
theorem fresh_at {H H' : Hp} {b : Addr} (h : H b = none) : fresh H H' b = H' b := by unfold fresh; rw [h]
theorem fresh_old {H H' : Hp} {b : Addr} {o : HO} (h : H b = some o) : fresh H H' b = none := by unfold fresh; rw [h]
theorem Same.ofFresh {H H' : Hp} : Same (fresh H H') H' := fun b o e => by
  cases q : H b with
  | none => rw [fresh_at q] at e; exact e
  | some u => rw [fresh_old q] at e; cases e
theorem Same.freshDel {H H' : Hp} {D : Addr} (h : H D ≠ none) : Same (fresh H H') (C62.del H' D) := fun b o e => by
  have n : b ≠ D := fun z => by
    subst z
    cases q : H b with
    | none => exact h q
    | some u => rw [fresh_old q] at e; cases e
  rw [del_ne n]; exact Same.ofFresh b o e
theorem DpAll.ofGet {K : PySem.W.Frag} {H : Hp} : ∀ {vs : List V} {ds : List PyData}, vs.length = ds.length → (∀ (k : Nat) v d, vs[k]? = some v → ds[k]? = some d → Dp K H v d) → DpAll K H vs ds
  | [], [], _, _ => .nil
  | [], _ :: _, h, _ => by simp at h
  | _ :: _, [], h, _ => by simp at h
  | v :: vs, d :: ds, h, f => .cons (f 0 v d rfl rfl) (DpAll.ofGet (by simpa using h) fun k a b e1 e2 => f (k + 1) a b (by simpa using e1) (by simpa using e2))
def spPairs (K : PySem.W.Frag) : Sp := fun vs H Q _ => ∃ (x : V) (ds : List PyData), vs = [x] ∧ Dp K H x (.list ds) ∧ (∀ d ∈ ds, ∃ e f, d = .tuple [e, f] ∧ flatD e = true ∧ flatD f = true) ∧ ds.length < 1000 ∧
  ∀ p H', Same H H' → H p = none → Dp K (fresh H H') (.ref p) (.tuple ds) → Q (.ref p) H'
def spPairsM (K : PySem.W.Frag) : Sp := fun vs H Q _ => ∃ (x : V), vs = [x] ∧ Dp K H x (.tuple []) ∧ ∀ p H', Same H H' → H p = none → Dp K H' (.ref p) (.tuple []) → Q (.ref p) H'
def spRightPairs (K : PySem.W.Frag) : Sp := fun vs H Q _ => ∃ (x y : V), vs = [x, y] ∧ Dp K H x (.tuple []) ∧ ∀ H', Same H H' → Q (.bl true) H'
def spRuleInit (K : PySem.W.Frag) : Sp := fun vs H Q _ => ∃ (p dx : Addr) (r : RuleD) (a1 a2 a3 a4 a5 a6 a7 : V), vs = [.ref p, .str r.name, a1, a2, a3, a4, a5, a6, a7] ∧ H p = some (.ins (ga K "Rule") dx []) ∧
  Dp K H a1 (.list (r.actors.map dPr)) ∧ Dp K H a2 (.list (r.everyone.map dPr)) ∧ Dp K H a3 (dStrs r.born) ∧ Dp K H a4 (.list (r.conds.map dPr)) ∧ Dp K H a5 (.list (r.effs.map dPr)) ∧ Dp K H a6 (.list []) ∧ Dp K H a7 (.list []) ∧
  r.actors.length < 1000 ∧ r.everyone.length < 1000 ∧ r.conds.length < 1000 ∧ r.effs.length < 1000 ∧ ∀ H', But p H H' → RuleAt K H' (.ref p) r → Q .non H'
theorem allPr (l : List (Str × Str)) : ∀ d ∈ l.map dPr, ∃ e f, d = .tuple [e, f] ∧ flatD e = true ∧ flatD f = true := fun d hd => by
  obtain ⟨p, _, rfl⟩ := List.mem_map.mp hd
  exact ⟨_, _, rfl, rfl, rfl⟩
theorem allCp (l : List (Str × Int)) : ∀ d ∈ l.map dCp, ∃ e f, d = .tuple [e, f] ∧ flatD e = true ∧ flatD f = true := fun d hd => by
  obtain ⟨p, _, rfl⟩ := List.mem_map.mp hd
  exact ⟨_, _, rfl, rfl, rfl⟩
/-- a field more -/
structure Held (K : PySem.W.Frag) (H : Hp) (p C dx : Addr) (fs : List (Str × V)) (H' : Hp) : Prop where
  at_ : H' p = some (.ins C dx fs)
  but : But p H H'
theorem Held.put {K : PySem.W.Frag} {H H1 H2 : Hp} {p C dx : Addr} {fs fs' : List (Str × V)} (h : Held K H p C dx fs H1) (s : Same H1 H2) : Held K H p C dx fs' (upd H2 p (.ins C dx fs')) :=
  ⟨upd_same, h.but.trans ((Same.but p s).trans But.put)⟩
theorem Held.samD {K : PySem.W.Frag} {H H1 H2 : Hp} {p C dx : Addr} {fs fs' : List (Str × V)} (h : Held K H p C dx fs H1) (s : Same H1 H2) : SamD H1 (upd H2 p (.ins C dx fs')) :=
  (Same.samD s).trans (SamD.put (s _ _ h.at_))
theorem lk_ne {f g : Str} {v : V} {fs : List (Str × V)} (h : ¬ f = g) : (putF g v fs).lookup f = fs.lookup f := by rw [lookup_putF, if_neg h]
theorem lk_eq {f : Str} {v : V} {fs : List (Str × V)} : (putF f v fs).lookup f = some v := by rw [lookup_putF, if_pos rfl]
section
variable {P : Program} {w : World} {K : PySem.W.Frag} {mg : Str → Option Value} {base : Heap}
theorem c_right_rule (T : Txt K mg) : Cal P w K mg base 3 "right_rule" (spRightRule K) := by
  refine T.f_right_rule.cal sc_right_rule (fun _ _ _ _ _ _ us hl => match us, hl with | [_, _, _, _, _], _ => rfl) (fun vs H Q E h => ?_) (fun f cdv A outer s H vs Q E hr h => ?_)
  · obtain ⟨x, y, u, z, c, ss, vars, ws, rs, r, rfl, _⟩ := h
    rfl
  · obtain ⟨x, y, u, z, c, ss, vars, ws, rs, r, rfl, hx, hy, hu, hc, hws, h8, hnn, hz, ok, q⟩ := h
    obtain ⟨a, rfl, ha⟩ := Dp.strsI hx
    obtain ⟨p, dx, fs, rfl, hp, F⟩ := id hz
    have lw := hws.len
    obtain ⟨u1, f1, d1⟩ := F.actors
    obtain ⟨u2, f2, d2⟩ := F.everyone
    obtain ⟨u3, f3, d3⟩ := F.born
    obtain ⟨u4, f4, d4⟩ := F.conds
    obtain ⟨u5, f5, d5⟩ := F.effs
    obtain ⟨u6, f6, d6⟩ := F.hears
    obtain ⟨u7, f7, d7⟩ := F.sends
    have C := T.k_Rule.cl
    refine ⟨_, (pss_cons (ps_if (PW.pt (pw_or (pt_cmpR op_ge (pe_callB call_len_seq (by rfl) T.b_len PyB.boot_len (pa_cons (pv 3) pa_nil)) pe_int (nomark _)) (pw_or (pt_not (pt_val (pe_c (c_is_name T) hr (by decide) (by rfl) (pa_cons (pe_fld (pv 4) rfl) pa_nil)))) (pw_or1 (pt_cmpR op_in_seq (pe_fld (pv 4) rfl) (pe_lc (own := [("other", 6)]) (g := gName 6) rfl sc_right_rule.nd (pi_list (pv 3)) (blkOk_by (own := [("other", 6)]) (N := nm_right_rule) (sc := defScope s_right_rule) (by decide +kernel)) (fun _ _ _ _ _ => (pg_name (i := 6) sc_right_rule.nd rfl (Or.inl rfl))) (fun _ _ _ _ _ => pts_nil) (fun _ _ _ _ _ => (pe_fldK K (pv 6) rfl))) rfl))))) (pss_one (ps_ret pe_bl)) pss_nil)
  (pss_cons (ps_if (PW.pt (pw_or (pt_not (pt_chain op_le op_le pe_int (pe_callB call_len_seq (by rfl) T.b_len PyB.boot_len (pa_cons (pe_fld (pv 4) rfl) pa_nil)) pe_int)) (pw_or1 (pt_not (pt_val (pe_c (c_right_moves T) hr (by decide) (by rfl) (pa_cons (pe_fld (pv 4) rfl) (pa_cons (pv 0) pa_nil)))))))) (pss_one (ps_ret pe_bl)) pss_nil)
  (pss_cons (ps_if (PW.pt (pw_or (pt_not (pt_val (pe_c (c_right_moves T) hr (by decide) (by rfl) (pa_cons (pe_fld (pv 4) rfl) (pa_cons (pv 0) pa_nil))))) (pw_or1 (pt_not (pt_val (pe_c (c_are_different T) hr (by decide) (by rfl) (pa_cons (pe_lc (own := [("first", 7), ("_", 8)]) (g := gTup K 2 (gCons (gName 7) (gCons (gName 8) (gNil)))) rfl sc_right_rule.nd (pi_tup (pe_fld (pv 4) rfl)) (blkOk_by (own := [("first", 7), ("_", 8)]) (N := nm_right_rule) (sc := defScope s_right_rule) (by decide +kernel)) (fun _ _ _ _ _ => (pg_tup rfl (pgs_cons (pg_name (i := 7) sc_right_rule.nd rfl (Or.inl rfl)) (pgs_cons (pg_name (i := 8) sc_right_rule.nd rfl (Or.inl rfl)) pgs_nil)))) (fun _ _ _ _ _ => pts_nil) (fun _ _ _ _ _ => (pv 7))) pa_nil))))))) (pss_one (ps_ret pe_bl)) pss_nil)
  (pss_cons (ps_if (pt_cmpR op_gt (pe_callB call_len_seq (by rfl) T.b_len PyB.boot_len (pa_cons (pe_fld (pv 4) rfl) pa_nil)) pe_int (nomark _)) (pss_one (ps_ret pe_bl)) pss_nil)
  (pss_cons (ps_for PassesOwn.never rfl (pi_tup (pe_fld (pv 4) rfl)) (pg_name (i := 5) sc_right_rule.nd rfl (Or.inl rfl)) (pss_one (ps_if (pt_cmpR op_notIn_seq (pv 5) (pv 0) rfl) (pss_one (ps_ret pe_bl)) pss_nil)))
  (pss_cons (ps_if (PW.pt (pw_or (pt_not (pt_val (pe_c (c_right_values T) hr (by decide) (by rfl) (pa_cons (pe_fld (pv 4) rfl) (pa_cons (pv 1) pa_nil))))) (pw_or1 (pt_not (pt_val (pe_c (c_right_values T) hr (by decide) (by rfl) (pa_cons (pe_fld (pv 4) rfl) (pa_cons (pv 1) pa_nil)))))))) (pss_one (ps_ret pe_bl)) pss_nil)
  (pss_one (ps_ret (pe_and (pe_c (c_right_values T) hr (by decide) (by rfl) (pa_cons (pe_fld (pv 4) rfl) (pa_cons (pv 2) pa_nil))) (pe_one (pe_c (c_right_values T) hr (by decide) (by rfl) (pa_cons (pe_fld (pv 4) rfl) (pa_cons (pv 2) pa_nil))))))))))))), ?_⟩
    -- the first test
    refine ⟨_, rfl, c, _, rfl, .inl hc, _, _, rfl, rfl, _, rfl, ?_⟩
    refine ifF (decide_eq_false (by omega)) ?_
    refine ⟨_, rfl, p, _, dx, fs, _, rfl, hp, C, T.k_Rule.na _ (by simp), F.name, r.name, rfl, ok.name, _, rfl, ?_⟩
    refine iteF ?_
    refine ⟨_, rfl, p, _, dx, fs, _, rfl, hp, C, T.k_Rule.na _ (by simp), F.name, _, rfl, c, rfl, ⟨_, hc⟩, fun D hD => lc_list (K := K) (a := c) (xs := ws) (fun i H' => H' = upd H D (.lst (((rs.take i).map (·.name)).map V.str))) rfl (fun i H' _ e => e ▸ (Same.upd hD).seq hc) ?_ ?_⟩
    · rintro i v Hi hi rfl
      have s2 : Same H (upd H D (.lst (((rs.take i).map (·.name)).map V.str))) := Same.upd hD
      obtain ⟨ri, hri, b, dy, gs, rfl, hb, G⟩ := hws.get hi
      refine ⟨rfl, ?_⟩
      refine yesT ?_
      refine ⟨_, rfl, b, _, dy, gs, _, rfl, s2 _ _ hb, C, T.k_Rule.na _ (by simp), G.name, _, upd_same, ?_, ?_⟩
      · rw [List.length_map, List.length_map, List.length_take]; exact small1000 (by omega)
      · rw [upd_upd, take_snoc hri, List.map_append, List.map_append]; rfl
    rintro H1 rfl
    have e0 : rs.take ws.length = rs := by rw [lw]; exact List.take_length
    rw [e0]
    have s1 : Same H (upd H D (.lst ((rs.map (·.name)).map V.str))) := Same.upd hD
    have D1 : (upd H D (.lst ((rs.map (·.name)).map V.str))) D = some (.lst ((rs.map (·.name)).map V.str)) := upd_same
    generalize upd H D (.lst ((rs.map (·.name)).map V.str)) = H1 at *
    refine ⟨D, _, rfl, .inl (SqL.of D1), rfl, flat_strs _, _, rfl, ?_⟩
    refine ifF (by show inV _ _ = false; rw [inV_str, decide_eq_false hnn]) ?_
    have hp1 := s1 _ _ hp
    have hx1 := Dp.same s1 hx
    have hy1 := Dp.same s1 hy
    have hu1 := Dp.same s1 hu
    have ha1 := s1.seq ha
    have e1 := Dp.same s1 d1
    have e2 := Dp.same s1 d2
    have e3 := Dp.same s1 d3
    have e4 := Dp.same s1 d4
    have e5 := Dp.same s1 d5
    have e6 := Dp.same s1 d6
    have e7 := Dp.same s1 d7
    -- the actors
    obtain ⟨k1, xs1, rfl, hk1, hx1s⟩ := Dp.tupI e1
    have l1 := DpAll.mapLen hx1s
    have o1 := ok.a1
    have o3 := ok.a3
    refine ⟨_, rfl, p, _, dx, fs, _, rfl, hp1, C, T.k_Rule.na _ (by simp), f1, k1, _, rfl, .inr hk1, _, _, rfl, rfl, _, rfl, ?_⟩
    refine ifT (decide_eq_true (by omega)) ?_
    refine ⟨_, _, rfl, rfl, _, rfl, ?_⟩
    refine ifF (by rw [decide_eq_true (by omega)]; rfl) ?_
    refine ⟨_, rfl, p, _, dx, fs, _, rfl, hp1, C, T.k_Rule.na _ (by simp), f1, _, rfl, _, _, r.actors, ss, rfl, e1, hx1, ok.am, _, rfl, ?_⟩
    refine iteF ?_
    -- everyone
    refine ⟨_, rfl, p, _, dx, fs, _, rfl, hp1, C, T.k_Rule.na _ (by simp), f2, _, rfl, _, _, r.everyone, ss, rfl, e2, hx1, ok.em, _, rfl, ?_⟩
    refine iteF ?_
    refine ⟨_, rfl, p, _, dx, fs, _, rfl, hp1, C, T.k_Rule.na _ (by simp), f2, lc_dt (K := K) (vs := [7, 8]) e2 (Nat.lt_of_le_of_lt ok.el (by decide)) (fun p => some (.str p.1)) ?_ ?_⟩
    · intro D hD i z p hp dp Hi R N s2 nD hR _
      obtain ⟨g, rfl, hg⟩ := Dp.prI dp
      refine ⟨g, _, rfl, Same.sqT s2 hg, rfl, _, _, rfl, _, _, rfl, rfl, rfl, ?_⟩
      refine yesT ?_
      exact ⟨_, rfl, hR _ _ _ rfl (Same.refl _) (.str _)⟩
    intro D2 H2 s2 hD2 hd
    rw [fm_map, map_map' Prod.fst PyData.str] at hd
    refine ⟨_, _, rfl, hd, Nat.lt_of_le_of_lt (Nat.le_of_eq (List.length_map ..)) (Nat.lt_of_le_of_lt ok.el (by decide)), ok.en, _, rfl, ?_⟩
    refine iteF ?_
    have hp2 := s2 _ _ hp1
    -- born
    obtain ⟨k3, rfl, hk3⟩ := Dp.strTI (Dp.same s2 e3)
    have lb : (r.born.map V.str).length = r.born.length := List.length_map ..
    have bl := ok.bl
    refine ⟨_, rfl, p, _, dx, fs, _, rfl, hp2, C, T.k_Rule.na _ (by simp), f3, k3, _, rfl, .inr hk3, _, _, rfl, rfl, _, rfl, ?_⟩
    refine ifF (decide_eq_false (by omega)) ?_
    refine ⟨_, rfl, p, _, dx, fs, _, rfl, hp2, C, T.k_Rule.na _ (by simp), f3, for_dt (Dp.same s2 e3) (fun i σ H' => ∃ v, σ = [some (.ref a), some y, some u, some (.ref c), some (.ref p), v, none, none, none] ∧ H2 = H') ⟨none, rfl, rfl⟩ (fun _ _ _ _ ⟨_, _, e⟩ => .inl (e ▸ Same.refl _)) ?_ ?_⟩
    · rintro k y' b σ _ hb db ⟨v, rfl, rfl⟩
      obtain rfl := Dp.strI db
      refine ⟨_, rfl, _, rfl, a, _, rfl, .inl (s2.seq ha1), rfl, flat_strs _, _, rfl, ?_⟩
      refine ifF (by show (!inV _ _) = false; rw [inV_str, decide_eq_true (ok.bm b (List.mem_of_getElem? hb))]; rfl) ?_
      exact ⟨_, rfl, rfl⟩
    · rintro σ _ ⟨v, rfl, rfl⟩
      refine ⟨_, rfl, p, _, dx, fs, _, rfl, hp2, C, T.k_Rule.na _ (by simp), f4, _, rfl, _, _, r.conds, vars, rfl, .inr (Dp.same s2 e4), Dp.same s2 hy1, ok.co, fun H3 s3 => ⟨_, rfl, ?_⟩⟩
      refine iteF ?_
      refine ⟨_, rfl, p, _, dx, fs, _, rfl, s3 _ _ hp2, C, T.k_Rule.na _ (by simp), f5, _, rfl, _, _, r.effs, vars, rfl, .inr (Dp.same s3 (Dp.same s2 e5)), Dp.same s3 (Dp.same s2 hy1), ok.ef, fun H4 s4 => ⟨_, rfl, ?_⟩⟩
      refine iteF ?_
      have s34 := s3.trans s4
      have no : ValsOk [] [] := ⟨fun _ h => absurd h (List.not_mem_nil), List.nodup_nil, Nat.zero_le _⟩
      refine ⟨_, rfl, p, _, dx, fs, _, rfl, s34 _ _ hp2, C, T.k_Rule.na _ (by simp), f6, _, rfl, _, _, [], [], rfl, .inr (Dp.same s34 (Dp.same s2 e6)), Dp.same s34 (Dp.same s2 hu1), no, fun H5 s5 => ⟨_, rfl, ?_⟩⟩
      refine iteT ?_
      have s35 := s34.trans s5
      exact ⟨_, rfl, p, _, dx, fs, _, rfl, s35 _ _ hp2, C, T.k_Rule.na _ (by simp), f7, _, rfl, _, _, [], [], rfl, .inr (Dp.same s35 (Dp.same s2 e7)), Dp.same s35 (Dp.same s2 hu1), no, fun H6 s6 => q _ (s1.trans (s2.trans (s35.trans s6)))⟩
end
end C62
set_option Elab.async false
set_option linter.all false
set_option maxRecDepth 100000
set_option maxHeartbeats 4000000
namespace C62
open PySem PySem.Spec PyProof.Rows L2
open He (ga ma)
theorem fld_step {K : PySem.W.Frag} {H H1 H2 : Hp} {p C dx : Addr} {fs : List (Str × V)} {u : V} (h : Held K H p C dx fs H1) (s : Same H1 H2) (f : Str) :
    Held K H p C dx (putF f u fs) (upd H2 p (.ins C dx (putF f u fs))) ∧ SamD H1 (upd H2 p (.ins C dx (putF f u fs))) ∧ SamD H2 (upd H2 p (.ins C dx (putF f u fs))) :=
  ⟨h.put s, h.samD s, SamD.put (s _ _ h.at_)⟩
section
variable {P : Program} {w : World} {K : PySem.W.Frag} {mg : Str → Option Value} {base : Heap}
/-! ### a class made with keywords -/
structure IniK (P : Program) (w : World) (K : PySem.W.Frag) (mg : Str → Option Value) (base : Heap) (k : Nat) (x : Str) (sp : Sp) (n : Nat) (ks : List Str) : Prop where
  ex : ∃ (f : Addr) (fd : FuncData) (ps : List Str), Mk K (ga K x) f ∧ FnOk P w K mg base CX0 k f fd ps sp ∧ mg x = some (.ref (ga K x)) ∧ KBn K fd ps (n + 1) ks (fun us ws => us ++ ws) (fun vs zs => vs ++ zs)
theorem ClsG.iniK {x q : Str} {st : Stmt} {fs : List Str} {N ps : List Str} {k n : Nat} {ks : List Str} {sp : Sp} (T : ClsG K mg x q st fs) (S : FnScope N ps (defScope st))
    (hb : ∀ (kV doc pm : Value) (an : Option Addr) (cdv ct : Value) (us ws : List Value), us.length = n + 1 → ws.length = ks.length → bindArgs (PySem.W.fnOf "__init__" q (defArgs st) (defBody st) (defScope st) .none kV doc pm an cdv ct) ⟨us, ks.zip ws⟩ = pure (ps.zip (us ++ ws)))
    (len : ∀ vs H Q E, sp vs H Q E → vs.length = ps.length)
    (body : ∀ (f : Addr) (cdv : Value) (A : Around) (outer : List Env) (s : Shared) (H : Hp) (vs : List V) (Q : VK) (E : XK), Room k (A.deeper (envOfC q (defScope st) s.heap.objs.size f cdv)) → sp vs H Q E →
      ∃ t, PSs (cxOf CX0 P w K mg base N q (defScope st) f cdv A outer s H E).nox (defBody st) t ∧ t { nx := fun _ H' => Q .non H', rt := Q } (start N vs) H) : IniK P w K mg base (k + 1) x sp n ks := by
  obtain ⟨fd, F⟩ := T.fn
  refine ⟨_, fd, ps, T.mker, F.ok S len (body _), T.at_, ⟨fun s us ws _ l1 l2 => ?_, fun r1 r2 => r1.append r2⟩⟩
  obtain ⟨oc, od, kV, doc, pm, an, cdv, ct, osl, rfl, lk, hcd⟩ := F.ex
  exact .of_eq (hb kV doc pm an cdv ct us ws l1 l2)
end
section
variable {X : Cx} {k j n : Nat} {x : Str} {sp : Sp} {p pos : Pos} {e : Expr} {es : List Expr} {kws : List Keyword} {ks : List Str} {t tk : TA}
theorem pe_mkK (c : IniK X.prog X.w X.K X.mg X.base k x sp n ks) (hr : Room j X.A) (hk : k + 1 ≤ j) (hg : Gl X x) (ha : PA X (e :: es) t) (hkw : PK X kws tk)
    (hall : (backToKw pos (keywordEach kws X.env)).all (·.1.isSome) = true := by rfl) (hks : (backToKw pos (keywordEach kws X.env)).filterMap (·.1) = ks := by rfl) (hdb : (x == ("__debug__" : Str)) = false := by decide)
    (he : starEach (e :: es) X.env = (false, eval e X.env) :: starEach es X.env := by rfl) (hpl : ((backTo pos (starEach (e :: es) X.env)).any (·.1) || (backToKw pos (keywordEach kws X.env)).any (·.1.isNone)) = false := by rfl) :
    PE X (.Call (.Name x p) (e :: es) kws pos) (tMakeK (ga X.K x) n ks.length sp (fun vs zs => vs ++ zs) E0 t tk) := by
  obtain ⟨f, fd, ps, M, F, hm, b⟩ := c.ex
  exact pe_makeK M F (hr.mono hk) hg hm b pass0 ha hkw hall hks hdb he hpl
end
section
variable {P : Program} {w : World} {K : PySem.W.Frag} {mg : Str → Option Value} {base : Heap}
theorem c_pairs_of_protocols (T : Txt K mg) : Cal P w K mg base 1 "pairs_of_protocols" (spPairs K) := by
  refine T.f_pairs_of_protocols.cal sc_pairs_of_protocols (fun _ _ _ _ _ _ us hl => match us, hl with | [_], _ => rfl) (fun vs H Q E h => ?_) (fun f cdv A outer s H vs Q E hr h => ?_)
  · obtain ⟨x, ds, rfl, _⟩ := h
    rfl
  · obtain ⟨x, ds, rfl, hx, hd, hz, q⟩ := h
    obtain ⟨a, xs, rfl, ha, hs⟩ := Dp.lstI hx
    have ln := DpAll.len hs
    refine ⟨_, (pss_one (ps_ret (pe_callTy call_tuple_of (by rfl) T.b_tuple PyB.boot_tuple (pa_cons (pe_lc (own := [("first", 1), ("second", 2)]) (g := gTup K 2 (gCons (gName 1) (gCons (gName 2) (gNil)))) rfl sc_pairs_of_protocols.nd (pi_list (pv 0)) (blkOk_by (own := [("first", 1), ("second", 2)]) (N := nm_pairs_of_protocols) (sc := defScope s_pairs_of_protocols) (by decide +kernel)) (fun _ _ _ _ _ => (pg_tup rfl (pgs_cons (pg_name (i := 1) sc_pairs_of_protocols.nd rfl (Or.inl rfl)) (pgs_cons (pg_name (i := 2) sc_pairs_of_protocols.nd rfl (Or.inl rfl)) pgs_nil)))) (fun _ _ _ _ _ => pts_nil) (fun _ _ _ _ _ => (pe_tup (pa_cons (pv 1) (pa_cons (pv 2) pa_nil))))) pa_nil)))), ?_⟩
    refine ⟨_, rfl, a, rfl, ⟨_, ha⟩, fun D hD => lc_list (K := K) (a := a) (xs := xs) (fun i H' => Same H H' ∧ ∃ ts : List Addr, H' D = some (.lst (ts.map V.ref)) ∧ ts.length = i ∧
      ∀ (k : Nat) t d, ts[k]? = some t → ds[k]? = some d → H t = none ∧ t ≠ D ∧ ∃ v w e g, H' t = some (.tup [v, w]) ∧ d = .tuple [e, g] ∧ ∀ Hx, Dp K Hx v e ∧ Dp K Hx w g) ⟨Same.upd hD, [], upd_same, rfl, fun k t d e => by simp at e⟩ (fun i H' _ h => h.1.seq ha) ?_ ?_⟩
    · rintro i z Hi hi ⟨s1, ts, hts, htl, all⟩
      obtain ⟨d, hd', dz⟩ := DpAll.getL hs hi
      obtain ⟨e, g, rfl, fe, fg⟩ := hd d (List.mem_of_getElem? hd')
      obtain ⟨b, ys, rfl, hb, hys⟩ := Dp.tupI dz
      obtain ⟨u1, u2, rfl, d1, d2⟩ := DpAll.i2 hys
      refine ⟨b, _, rfl, Same.sqT s1 hb, rfl, _, _, rfl, _, _, rfl, rfl, rfl, ?_⟩
      refine yesT ?_
      have hlt := get_lt hi
      refine ⟨_, rfl, _, rfl, by show 2 ≤ sizeLine; decide, fun t ht => ⟨_, (upd_ne (fun e => by rw [← e, hts] at ht; cases ht)).trans hts, ?_, ?_, ts ++ [t], ?_, by simp [htl], ?_⟩⟩
      · rw [List.length_map, htl]; exact small1000 (by omega)
      · intro c o q
        rw [upd_ne (ne_of_none q hD)]
        exact Same.upd ht _ _ (s1 _ _ q)
      · rw [upd_same, List.map_append]; rfl
      · intro k t' d' e1 e2
        have tD : t ≠ D := fun e => by rw [e, hts] at ht; cases ht
        by_cases hk : k < ts.length
        · rw [List.getElem?_append_left hk] at e1
          obtain ⟨n1, n2, v, w', e', g', q1, q2, q3⟩ := all k t' d' e1 e2
          refine ⟨n1, n2, v, w', e', g', ?_, q2, q3⟩
          rw [upd_ne n2]
          exact Same.upd ht _ _ q1
        · have hk2 : k = ts.length := by
            have := get_lt e1
            rw [List.length_append, List.length_singleton] at this
            omega
          subst hk2
          rw [List.getElem?_append_right (Nat.le_refl _), Nat.sub_self] at e1
          cases e1
          rw [htl, hd'] at e2
          cases e2
          refine ⟨s1.free ht, tD, u1, u2, e, g, ?_, rfl, fun Hx => ⟨Dp.flat d1 fe Hx, Dp.flat d2 fg Hx⟩⟩
          rw [upd_ne tD]
          exact upd_same
    · rintro H1 ⟨s1, ts, hts, htl, all⟩
      refine ⟨D, _, rfl, .inl ⟨SqL.of hts, fun l hl => ?_⟩⟩
      have s2 : Same H (upd H1 l (.tup (ts.map V.ref))) := s1.trans (Same.upd hl)
      refine q _ _ s2 (s1.free hl) (.tup (SqT.of ((fresh_at (s1.free hl)).trans upd_same)) (DpAll.ofGet (by rw [List.length_map, htl, ln]) fun k v d e1 e2 => ?_))
      obtain ⟨t, ht, rfl⟩ := map_get e1
      obtain ⟨n1, n2, v, w', e', g', q1, rfl, q3⟩ := all k t d ht e2
      have tl : t ≠ l := fun e => by rw [← e, q1] at hl; cases hl
      refine .tup (SqT.of ((fresh_at n1).trans ((upd_ne tl).trans q1))) (.cons (q3 _).1 (.cons (q3 _).2 .nil))
theorem c_pairs_of_mail (T : Txt K mg) : Cal P w K mg base 1 "pairs_of_mail" (spPairsM K) := by
  refine T.f_pairs_of_mail.cal sc_pairs_of_mail (fun _ _ _ _ _ _ us hl => match us, hl with | [_], _ => rfl) (fun vs H Q E h => ?_) (fun f cdv A outer s H vs Q E hr h => ?_)
  · obtain ⟨x, rfl, _⟩ := h
    rfl
  · obtain ⟨x, rfl, hx, q⟩ := h
    refine ⟨_, (pss_one (ps_ret (pe_callTy call_tuple_of (by rfl) T.b_tuple PyB.boot_tuple (pa_cons (pe_lc (own := [("channel", 1), ("letter", 2)]) (g := gTup K 2 (gCons (gName 1) (gCons (gName 2) (gNil)))) rfl sc_pairs_of_mail.nd (pi_tup (pv 0)) (blkOk_by (own := [("channel", 1), ("letter", 2)]) (N := nm_pairs_of_mail) (sc := defScope s_pairs_of_mail) (by decide +kernel)) (fun _ _ _ _ _ => (pg_tup rfl (pgs_cons (pg_name (i := 1) sc_pairs_of_mail.nd rfl (Or.inl rfl)) (pgs_cons (pg_name (i := 2) sc_pairs_of_mail.nd rfl (Or.inl rfl)) pgs_nil)))) (fun _ _ _ _ _ => pts_nil) (fun _ _ _ _ _ => (pe_tup (pa_cons (pv 1) (pa_cons (pv 2) pa_nil))))) pa_nil)))), ?_⟩
    refine ⟨_, rfl, lc_dt (K := K) (vs := [1, 2]) (l := ([] : List PyData)) (enc := fun d => d) hx (by decide) (fun d => some d) (fun D hD i z d hd' => by simp at hd') ?_⟩
    · intro D H1 s1 hD hd1
      obtain ⟨_, ys, e, hD2, hys⟩ := Dp.lstI hd1
      cases e
      refine ⟨D, _, rfl, .inl ⟨hD2, fun l hl => ?_⟩⟩
      exact q _ _ (s1.trans (Same.upd hl)) (s1.free hl) (.tup (SqT.of upd_same) (DpAll.same (Same.upd hl) hys))
theorem c_right_pairs (T : Txt K mg) : Cal P w K mg base 1 "right_pairs" (spRightPairs K) := by
  refine T.f_right_pairs.cal sc_right_pairs (fun _ _ _ _ _ _ us hl => match us, hl with | [_, _], _ => rfl) (fun vs H Q E h => ?_) (fun f cdv A outer s H vs Q E hr h => ?_)
  · obtain ⟨x, y, rfl, _⟩ := h
    rfl
  · obtain ⟨x, y, rfl, hx, q⟩ := h
    obtain ⟨a, xs, rfl, ha, has⟩ := Dp.tupI hx
    cases has
    refine ⟨_, (pss_cons (ps_for PassesOwn.never rfl (pi_tup (pv 0)) (pg_tup rfl (pgs_cons (pg_name (i := 2) sc_right_pairs.nd rfl (Or.inl rfl)) (pgs_cons (pg_name (i := 3) sc_right_pairs.nd rfl (Or.inl rfl)) pgs_nil))) pss_never)
  (pss_one (ps_ret (pe_cmpR op_eq (pe_lenSetS rfl (by rfl) T.b_len (by rfl) T.b_set (pe_lc (own := [("channel", 2), ("_", 4)]) (g := gTup K 2 (gCons (gName 2) (gCons (gName 4) (gNil)))) rfl sc_right_pairs.nd (pi_tup (pv 0)) (blkOk_by (own := [("channel", 2), ("_", 4)]) (N := nm_right_pairs) (sc := defScope s_right_pairs) (by decide +kernel)) (fun _ _ _ _ _ => (pg_tup rfl (pgs_cons (pg_name (i := 2) sc_right_pairs.nd rfl (Or.inl rfl)) (pgs_cons (pg_name (i := 4) sc_right_pairs.nd rfl (Or.inl rfl)) pgs_nil)))) (fun _ _ _ _ _ => pts_nil) (fun _ _ _ _ _ => (pv 2)))) (pe_callB call_len_seq (by rfl) T.b_len PyB.boot_len (pa_cons (pv 0) pa_nil)) (nomark _))))), ?_⟩
    refine ⟨_, rfl, for_dt (K := K) (l := ([] : List PyData)) (enc := fun d => d) hx (fun i σ H' => σ = [some (.ref a), some y, none, none, none] ∧ H = H') ⟨rfl, rfl⟩ (fun _ _ _ _ ⟨_, e⟩ => .inl (e ▸ Same.refl _)) (fun k y' b σ H' hb => by simp at hb) ?_⟩
    rintro σ _ ⟨rfl, rfl⟩
    refine ⟨_, rfl, lc_dt (K := K) (vs := [2, 4]) (l := ([] : List PyData)) (enc := fun d => d) hx (by decide) (fun d => some d) (fun D hD i z d hd' => by simp at hd') ?_⟩
    intro D H1 s1 hD hd1
    obtain ⟨_, ys, e, hD2, hys⟩ := Dp.lstI hd1
    cases e
    cases hys
    refine ⟨D, [], rfl, hD2, by decide, List.nodup_nil, _, rfl, a, _, rfl, .inr (Same.sqT s1 ha), rfl, q _ s1⟩
theorem mk_Rule (T : Txt K mg) : IniK P w K mg base 2 "Rule" (spRuleInit K) 2 ["everyone", "born", "conditions", "effects", "hears", "sends"] := by
  refine T.k_Rule.iniK sc_Rule_init (fun _ _ _ _ _ _ us ws h1 h2 => match us, h1, ws, h2 with | [_, _, _], _, [_, _, _, _, _, _], _ => rfl) (fun vs H Q E h => ?_) (fun f cdv A outer s H vs Q E hr h => ?_)
  · obtain ⟨p, dx, r, a1, a2, a3, a4, a5, a6, a7, rfl, _⟩ := h
    rfl
  · obtain ⟨p, dx, r, a1, a2, a3, a4, a5, a6, a7, rfl, hp, d1, d2, d3, d4, d5, d6, d7, b1, b2, b4, b5, kq⟩ := h
    have C := T.k_Rule.cl
    have h0 : Held K H p (ga K "Rule") dx [] H := ⟨hp, But.refl _ _⟩
    refine ⟨_, (pss_cons (ps_fld (pv 0) (pv 1) rfl)
  (pss_cons (ps_fld (pv 0) (pe_c (c_pairs_of_protocols T) hr (by decide) (by rfl) (pa_cons (pv 2) pa_nil)) rfl)
  (pss_cons (ps_fld (pv 0) (pe_c (c_pairs_of_protocols T) hr (by decide) (by rfl) (pa_cons (pv 3) pa_nil)) rfl)
  (pss_cons (ps_fld (pv 0) (pe_callTy call_tuple_of (by rfl) T.b_tuple PyB.boot_tuple (pa_cons (pv 4) pa_nil)) rfl)
  (pss_cons (ps_fld (pv 0) (pe_c (c_pairs_of_protocols T) hr (by decide) (by rfl) (pa_cons (pv 5) pa_nil)) rfl)
  (pss_cons (ps_fld (pv 0) (pe_c (c_pairs_of_protocols T) hr (by decide) (by rfl) (pa_cons (pv 6) pa_nil)) rfl)
  (pss_cons (ps_fld (pv 0) (pe_c (c_pairs_of_protocols T) hr (by decide) (by rfl) (pa_cons (pv 7) pa_nil)) rfl)
  (pss_one (ps_fld (pv 0) (pe_c (c_pairs_of_protocols T) hr (by decide) (by rfl) (pa_cons (pv 8) pa_nil)) rfl))))))))), ?_⟩
    refine ⟨_, rfl, _, rfl, p, _, dx, [], rfl, hp, C, T.k_Rule.na _ (by simp), (by decide), ?_⟩
    obtain ⟨h1, m1, _⟩ := fld_step h0 (u := .str r.name) (Same.refl H) ("name" : Str)
    have z1 : (putF ("name" : Str) (V.str r.name) []).length ≤ 1 := putF_len ("name" : Str) (V.str r.name) []
    generalize upd H p (.ins (ga K "Rule") dx (putF ("name" : Str) (V.str r.name) [])) = H1 at *
    have n1 : (putF ("name" : Str) (V.str r.name) []).lookup ("name" : Str) = some (V.str r.name) := lk_eq
    generalize putF ("name" : Str) (V.str r.name) [] = fs1 at *
    refine ⟨_, rfl, _, _, rfl, Dp.samD m1 d1, allPr _, (by rw [List.length_map]; exact b1), fun t1 G1 s1 ht1 e1 => ?_⟩
    have e1 := Dp.same Same.ofFresh e1
    refine ⟨_, rfl, p, _, dx, fs1, rfl, s1 _ _ h1.at_, C, T.k_Rule.na _ (by simp), (by omega), ?_⟩
    obtain ⟨h2, q2, w2⟩ := fld_step h1 (u := .ref t1) s1 ("actors" : Str)
    have m2 := m1.trans q2
    have e1 := Dp.samD w2 e1
    have z2 := putF_len ("actors" : Str) (V.ref t1) fs1
    generalize upd G1 p (.ins (ga K "Rule") dx (putF ("actors" : Str) (V.ref t1) fs1)) = H2 at *
    have g1 : (putF ("actors" : Str) (V.ref t1) fs1).lookup ("actors" : Str) = some (V.ref t1) := lk_eq
    have n2 : (putF ("actors" : Str) (V.ref t1) fs1).lookup ("name" : Str) = some (V.str r.name) := (lk_ne (by decide +kernel)).trans n1
    generalize putF ("actors" : Str) (V.ref t1) fs1 = fs2 at *
    refine ⟨_, rfl, _, _, rfl, Dp.samD m2 d2, allPr _, (by rw [List.length_map]; exact b2), fun t2 G2 s2 ht2 e2 => ?_⟩
    have e2 := Dp.same Same.ofFresh e2
    refine ⟨_, rfl, p, _, dx, fs2, rfl, s2 _ _ h2.at_, C, T.k_Rule.na _ (by simp), (by omega), ?_⟩
    obtain ⟨h3, q3, w3⟩ := fld_step h2 (u := .ref t2) s2 ("everyone" : Str)
    have m3 := m2.trans q3
    have e2 := Dp.samD w3 e2
    have e1 := Dp.samD q3 e1
    have z3 := putF_len ("everyone" : Str) (V.ref t2) fs2
    generalize upd G2 p (.ins (ga K "Rule") dx (putF ("everyone" : Str) (V.ref t2) fs2)) = H3 at *
    have g2 : (putF ("everyone" : Str) (V.ref t2) fs2).lookup ("everyone" : Str) = some (V.ref t2) := lk_eq
    have n3 : (putF ("everyone" : Str) (V.ref t2) fs2).lookup ("name" : Str) = some (V.str r.name) := (lk_ne (by decide +kernel)).trans n2
    have g1 : (putF ("everyone" : Str) (V.ref t2) fs2).lookup ("actors" : Str) = some (V.ref t1) := (lk_ne (by decide +kernel)).trans g1
    generalize putF ("everyone" : Str) (V.ref t2) fs2 = fs3 at *
    obtain ⟨k3, rfl, hk3⟩ := Dp.strsI (Dp.samD m3 d3)
    refine ⟨_, rfl, k3, _, rfl, .inl ⟨hk3, fun t3 ht3 => ?_⟩⟩
    have s3 : Same H3 (upd H3 t3 (.tup (r.born.map V.str))) := Same.upd ht3
    have e3 : Dp K (upd H3 t3 (.tup (r.born.map V.str))) (.ref t3) (dStrT r.born) := Dp.ofStrT (SqT.of upd_same)
    generalize upd H3 t3 (.tup (r.born.map V.str)) = G3 at *
    refine ⟨_, rfl, p, _, dx, fs3, rfl, s3 _ _ h3.at_, C, T.k_Rule.na _ (by simp), (by omega), ?_⟩
    obtain ⟨h4, q4, w4⟩ := fld_step h3 (u := .ref t3) s3 ("born" : Str)
    have m4 := m3.trans q4
    have e3 := Dp.samD w4 e3
    have e1 := Dp.samD q4 e1
    have e2 := Dp.samD q4 e2
    have z4 := putF_len ("born" : Str) (V.ref t3) fs3
    generalize upd G3 p (.ins (ga K "Rule") dx (putF ("born" : Str) (V.ref t3) fs3)) = H4 at *
    have g3 : (putF ("born" : Str) (V.ref t3) fs3).lookup ("born" : Str) = some (V.ref t3) := lk_eq
    have n4 : (putF ("born" : Str) (V.ref t3) fs3).lookup ("name" : Str) = some (V.str r.name) := (lk_ne (by decide +kernel)).trans n3
    have g1 : (putF ("born" : Str) (V.ref t3) fs3).lookup ("actors" : Str) = some (V.ref t1) := (lk_ne (by decide +kernel)).trans g1
    have g2 : (putF ("born" : Str) (V.ref t3) fs3).lookup ("everyone" : Str) = some (V.ref t2) := (lk_ne (by decide +kernel)).trans g2
    generalize putF ("born" : Str) (V.ref t3) fs3 = fs4 at *
    refine ⟨_, rfl, _, _, rfl, Dp.samD m4 d4, allPr _, (by rw [List.length_map]; exact b4), fun t4 G4 s4 ht4 e4 => ?_⟩
    have e4 := Dp.same Same.ofFresh e4
    refine ⟨_, rfl, p, _, dx, fs4, rfl, s4 _ _ h4.at_, C, T.k_Rule.na _ (by simp), (by omega), ?_⟩
    obtain ⟨h5, q5, w5⟩ := fld_step h4 (u := .ref t4) s4 ("conditions" : Str)
    have m5 := m4.trans q5
    have e4 := Dp.samD w5 e4
    have e1 := Dp.samD q5 e1
    have e2 := Dp.samD q5 e2
    have e3 := Dp.samD q5 e3
    have z5 := putF_len ("conditions" : Str) (V.ref t4) fs4
    generalize upd G4 p (.ins (ga K "Rule") dx (putF ("conditions" : Str) (V.ref t4) fs4)) = H5 at *
    have g4 : (putF ("conditions" : Str) (V.ref t4) fs4).lookup ("conditions" : Str) = some (V.ref t4) := lk_eq
    have n5 : (putF ("conditions" : Str) (V.ref t4) fs4).lookup ("name" : Str) = some (V.str r.name) := (lk_ne (by decide +kernel)).trans n4
    have g1 : (putF ("conditions" : Str) (V.ref t4) fs4).lookup ("actors" : Str) = some (V.ref t1) := (lk_ne (by decide +kernel)).trans g1
    have g2 : (putF ("conditions" : Str) (V.ref t4) fs4).lookup ("everyone" : Str) = some (V.ref t2) := (lk_ne (by decide +kernel)).trans g2
    have g3 : (putF ("conditions" : Str) (V.ref t4) fs4).lookup ("born" : Str) = some (V.ref t3) := (lk_ne (by decide +kernel)).trans g3
    generalize putF ("conditions" : Str) (V.ref t4) fs4 = fs5 at *
    refine ⟨_, rfl, _, _, rfl, Dp.samD m5 d5, allPr _, (by rw [List.length_map]; exact b5), fun t5 G5 s5 ht5 e5 => ?_⟩
    have e5 := Dp.same Same.ofFresh e5
    refine ⟨_, rfl, p, _, dx, fs5, rfl, s5 _ _ h5.at_, C, T.k_Rule.na _ (by simp), (by omega), ?_⟩
    obtain ⟨h6, q6, w6⟩ := fld_step h5 (u := .ref t5) s5 ("effects" : Str)
    have m6 := m5.trans q6
    have e5 := Dp.samD w6 e5
    have e1 := Dp.samD q6 e1
    have e2 := Dp.samD q6 e2
    have e3 := Dp.samD q6 e3
    have e4 := Dp.samD q6 e4
    have z6 := putF_len ("effects" : Str) (V.ref t5) fs5
    generalize upd G5 p (.ins (ga K "Rule") dx (putF ("effects" : Str) (V.ref t5) fs5)) = H6 at *
    have g5 : (putF ("effects" : Str) (V.ref t5) fs5).lookup ("effects" : Str) = some (V.ref t5) := lk_eq
    have n6 : (putF ("effects" : Str) (V.ref t5) fs5).lookup ("name" : Str) = some (V.str r.name) := (lk_ne (by decide +kernel)).trans n5
    have g1 : (putF ("effects" : Str) (V.ref t5) fs5).lookup ("actors" : Str) = some (V.ref t1) := (lk_ne (by decide +kernel)).trans g1
    have g2 : (putF ("effects" : Str) (V.ref t5) fs5).lookup ("everyone" : Str) = some (V.ref t2) := (lk_ne (by decide +kernel)).trans g2
    have g3 : (putF ("effects" : Str) (V.ref t5) fs5).lookup ("born" : Str) = some (V.ref t3) := (lk_ne (by decide +kernel)).trans g3
    have g4 : (putF ("effects" : Str) (V.ref t5) fs5).lookup ("conditions" : Str) = some (V.ref t4) := (lk_ne (by decide +kernel)).trans g4
    generalize putF ("effects" : Str) (V.ref t5) fs5 = fs6 at *
    refine ⟨_, rfl, _, _, rfl, Dp.samD m6 d6, (fun d hd => absurd hd (List.not_mem_nil)), (by decide), fun t6 G6 s6 ht6 e6 => ?_⟩
    have e6 := Dp.same Same.ofFresh e6
    refine ⟨_, rfl, p, _, dx, fs6, rfl, s6 _ _ h6.at_, C, T.k_Rule.na _ (by simp), (by omega), ?_⟩
    obtain ⟨h7, q7, w7⟩ := fld_step h6 (u := .ref t6) s6 ("hears" : Str)
    have m7 := m6.trans q7
    have e6 := Dp.samD w7 e6
    have e1 := Dp.samD q7 e1
    have e2 := Dp.samD q7 e2
    have e3 := Dp.samD q7 e3
    have e4 := Dp.samD q7 e4
    have e5 := Dp.samD q7 e5
    have z7 := putF_len ("hears" : Str) (V.ref t6) fs6
    generalize upd G6 p (.ins (ga K "Rule") dx (putF ("hears" : Str) (V.ref t6) fs6)) = H7 at *
    have g6 : (putF ("hears" : Str) (V.ref t6) fs6).lookup ("hears" : Str) = some (V.ref t6) := lk_eq
    have n7 : (putF ("hears" : Str) (V.ref t6) fs6).lookup ("name" : Str) = some (V.str r.name) := (lk_ne (by decide +kernel)).trans n6
    have g1 : (putF ("hears" : Str) (V.ref t6) fs6).lookup ("actors" : Str) = some (V.ref t1) := (lk_ne (by decide +kernel)).trans g1
    have g2 : (putF ("hears" : Str) (V.ref t6) fs6).lookup ("everyone" : Str) = some (V.ref t2) := (lk_ne (by decide +kernel)).trans g2
    have g3 : (putF ("hears" : Str) (V.ref t6) fs6).lookup ("born" : Str) = some (V.ref t3) := (lk_ne (by decide +kernel)).trans g3
    have g4 : (putF ("hears" : Str) (V.ref t6) fs6).lookup ("conditions" : Str) = some (V.ref t4) := (lk_ne (by decide +kernel)).trans g4
    have g5 : (putF ("hears" : Str) (V.ref t6) fs6).lookup ("effects" : Str) = some (V.ref t5) := (lk_ne (by decide +kernel)).trans g5
    generalize putF ("hears" : Str) (V.ref t6) fs6 = fs7 at *
    refine ⟨_, rfl, _, _, rfl, Dp.samD m7 d7, (fun d hd => absurd hd (List.not_mem_nil)), (by decide), fun t7 G7 s7 ht7 e7 => ?_⟩
    have e7 := Dp.same Same.ofFresh e7
    refine ⟨_, rfl, p, _, dx, fs7, rfl, s7 _ _ h7.at_, C, T.k_Rule.na _ (by simp), (by omega), ?_⟩
    obtain ⟨h8, q8, w8⟩ := fld_step h7 (u := .ref t7) s7 ("sends" : Str)
    have m8 := m7.trans q8
    have e7 := Dp.samD w8 e7
    have e1 := Dp.samD q8 e1
    have e2 := Dp.samD q8 e2
    have e3 := Dp.samD q8 e3
    have e4 := Dp.samD q8 e4
    have e5 := Dp.samD q8 e5
    have e6 := Dp.samD q8 e6
    have z8 := putF_len ("sends" : Str) (V.ref t7) fs7
    generalize upd G7 p (.ins (ga K "Rule") dx (putF ("sends" : Str) (V.ref t7) fs7)) = H8 at *
    have g7 : (putF ("sends" : Str) (V.ref t7) fs7).lookup ("sends" : Str) = some (V.ref t7) := lk_eq
    have n8 : (putF ("sends" : Str) (V.ref t7) fs7).lookup ("name" : Str) = some (V.str r.name) := (lk_ne (by decide +kernel)).trans n7
    have g1 : (putF ("sends" : Str) (V.ref t7) fs7).lookup ("actors" : Str) = some (V.ref t1) := (lk_ne (by decide +kernel)).trans g1
    have g2 : (putF ("sends" : Str) (V.ref t7) fs7).lookup ("everyone" : Str) = some (V.ref t2) := (lk_ne (by decide +kernel)).trans g2
    have g3 : (putF ("sends" : Str) (V.ref t7) fs7).lookup ("born" : Str) = some (V.ref t3) := (lk_ne (by decide +kernel)).trans g3
    have g4 : (putF ("sends" : Str) (V.ref t7) fs7).lookup ("conditions" : Str) = some (V.ref t4) := (lk_ne (by decide +kernel)).trans g4
    have g5 : (putF ("sends" : Str) (V.ref t7) fs7).lookup ("effects" : Str) = some (V.ref t5) := (lk_ne (by decide +kernel)).trans g5
    have g6 : (putF ("sends" : Str) (V.ref t7) fs7).lookup ("hears" : Str) = some (V.ref t6) := (lk_ne (by decide +kernel)).trans g6
    generalize putF ("sends" : Str) (V.ref t7) fs7 = fs8 at *
    exact kq H8 h8.but ⟨p, dx, fs8, rfl, h8.at_, ⟨n8, ⟨_, g1, e1⟩, ⟨_, g2, e2⟩, ⟨_, g3, e3⟩, ⟨_, g4, e4⟩, ⟨_, g5, e5⟩, ⟨_, g6, e6⟩, ⟨_, g7, e7⟩⟩⟩
end
end C62
set_option Elab.async false
set_option linter.all false
set_option maxRecDepth 100000
set_option maxHeartbeats 4000000
namespace C62
open PySem PySem.Spec PyProof.Rows L2
open He (ga ma)
/-! ### a whole protocol -/
structure PartsD where
  states : List Str
  start : Str
  vars : List (Str × List Str)
  rules : List RuleD
  bad : List PatD
structure PartsOk (S : PartsD) : Prop where
  s2 : 2 ≤ S.states.length
  s4 : S.states.length ≤ 4
  nd : S.states.Nodup
  nm : ∀ z ∈ S.states, NameOk z
  st : S.start ∈ S.states
  v1 : S.vars = [] ∨ ∃ z zs, S.vars = [(z, zs)] ∧ NameOk z ∧ z ∉ S.states ∧ 2 ≤ zs.length ∧ zs.length ≤ 3 ∧ zs.Nodup ∧ ∀ y ∈ zs, NameOk y
  r1 : 1 ≤ S.rules.length
  r3 : S.rules.length ≤ 3
  rn : (S.rules.map (·.name)).Nodup
  rs : ∀ r ∈ S.rules, RuleOk S.states S.vars r
  b4 : S.bad.length ≤ 4
  bad : ∀ b ∈ S.bad, PatOk S.states S.vars b
abbrev dVarT (v : Str × List Str) : PyData := .tuple [.str v.1, dStrT v.2]
abbrev dPatT (b : PatD) : PyData := .tuple [.tuple (b.1.map dCp), .tuple (b.2.map dPr)]
theorem BareT.samD {H H' : Hp} {a : Addr} {xs : List V} (e : SamD H H') : BareT H a xs → BareT H' a xs
  | ⟨o, h, c⟩ => ⟨o, e _ _ h (fun _ _ _ z => by cases z), c⟩
structure SysFs (K : PySem.W.Frag) (H : Hp) (fs : List (Str × V)) (S : PartsD) : Prop where
  states : ∃ t, fs.lookup ("states" : Str) = some (.ref t) ∧ BareT H t (S.states.map V.str)
  start : fs.lookup ("start" : Str) = some (.str S.start)
  vars : ∃ u, fs.lookup ("variables" : Str) = some u ∧ Dp K H u (.tuple (S.vars.map dVarT))
  chans : ∃ u, fs.lookup ("channels" : Str) = some u ∧ Dp K H u (.tuple [])
  rules : ∃ b vs, fs.lookup ("rules" : Str) = some (.ref b) ∧ SqT K H b vs ∧ RulesAt K H vs S.rules
  bad : ∃ u, fs.lookup ("bad" : Str) = some u ∧ Dp K H u (.tuple (S.bad.map dPatT))
theorem SysFs.same {K : PySem.W.Frag} {H H' : Hp} {fs : List (Str × V)} {S : PartsD} (e : Same H H') (h : SysFs K H fs S) : SysFs K H' fs S :=
  have f : ∀ {x : Str} {d : PyData}, (∃ u, fs.lookup x = some u ∧ Dp K H u d) → ∃ u, fs.lookup x = some u ∧ Dp K H' u d := fun ⟨u, a, b⟩ => ⟨u, a, Dp.same e b⟩
  ⟨let ⟨t, q1, q2⟩ := h.states; ⟨t, q1, q2.samD (Same.samD e)⟩, h.start, f h.vars, f h.chans, let ⟨b, vs, q1, q2, q3⟩ := h.rules; ⟨b, vs, q1, Same.sqT e q2, q3.same e⟩, f h.bad⟩
theorem SysFs.statesD {K : PySem.W.Frag} {H : Hp} {fs : List (Str × V)} {S : PartsD} (h : SysFs K H fs S) : ∃ u, fs.lookup ("states" : Str) = some u ∧ Dp K H u (dStrT S.states) :=
  let ⟨t, q1, q2⟩ := h.states
  ⟨.ref t, q1, Dp.ofStrT q2.sqT⟩
def SysAt (K : PySem.W.Frag) (H : Hp) (v : V) (S : PartsD) : Prop := ∃ (a dx : Addr) (fs : List (Str × V)), v = .ref a ∧ H a = some (.ins (ga K "System") dx fs) ∧ SysFs K H fs S
theorem SysAt.same {K : PySem.W.Frag} {H H' : Hp} {v : V} {S : PartsD} (e : Same H H') : SysAt K H v S → SysAt K H' v S
  | ⟨a, dx, fs, h1, h2, h3⟩ => ⟨a, dx, fs, h1, e _ _ h2, h3.same e⟩
theorem RuleAt.but {K : PySem.W.Frag} {H H' : Hp} {p C dx : Addr} (hp : H p = some (.ins C dx [])) (e : But p H H') {v : V} {r : RuleD} : RuleAt K H v r → RuleAt K H' v r
  | ⟨a, dy, fs, h1, h2, h3⟩ => ⟨a, dy, fs, h1, e _ _ h2 (fun z => by
      subst z
      rw [hp] at h2
      cases h2
      have := h3.name
      cases this), h3.samD (But.samD hp e)⟩
theorem RulesAt.but {K : PySem.W.Frag} {H H' : Hp} {p C dx : Addr} (hp : H p = some (.ins C dx [])) (e : But p H H') : ∀ {vs : List V} {rs : List RuleD}, RulesAt K H vs rs → RulesAt K H' vs rs
  | _, _, .nil => .nil
  | _, _, .cons h t => .cons (h.but hp e) (t.but hp e)
theorem cutV_to {xs : List V} {k : Nat} (h : k ≤ xs.length) : cutV xs none (some (k : Int)) = xs.take k := by
  unfold cutV
  rw [HT.sIx_none, HT.sIx_nat, Nat.min_eq_left h, List.drop_zero, Nat.sub_zero]
def spSysInit (K : PySem.W.Frag) : Sp := fun vs H Q _ => ∃ (p dx : Addr) (S : PartsD) (a1 a3 a5 a6 : V) (c : Addr) (ws : List V), vs = [.ref p, a1, .str S.start, a3, .ref c, a5, a6] ∧ H p = some (.ins (ga K "System") dx []) ∧
  Dp K H a1 (dStrs S.states) ∧ Dp K H a3 (.list (S.vars.map dVar)) ∧ SqL K H c ws ∧ RulesAt K H ws S.rules ∧ Dp K H a5 (.list (S.bad.map dPat)) ∧ Dp K H a6 (.list []) ∧ PartsOk S ∧ ∀ H', But p H H' → SysAt K H' (.ref p) S → Q .non H'
section
variable {P : Program} {w : World} {K : PySem.W.Frag} {mg : Str → Option Value} {base : Heap}
theorem mk_System (T : Txt K mg) : IniK P w K mg base 4 "System" (spSysInit K) 5 ["channels"] := by
  refine T.k_System.iniK sc_System_init (fun _ _ _ _ _ _ us ws h1 h2 => match us, h1, ws, h2 with | [_, _, _, _, _, _], _, [_], _ => rfl) (fun vs H Q E h => ?_) (fun f cdv A outer s H vs Q E hr h => ?_)
  · obtain ⟨p, dx, S, a1, a3, a5, a6, c, ws, rfl, _⟩ := h
    rfl
  · obtain ⟨p, dx, S, a1, a3, a5, a6, c, ws, rfl, hp, d1, d3, hc, hws, d5, d6, ok, kq⟩ := h
    have C := T.k_System.cl
    have lw := hws.len
    have o2 := ok.s2
    have o4 := ok.s4
    have r3 := ok.r3
    have b4 := ok.b4
    have lv : S.vars.length ≤ 1 := by
      rcases ok.v1 with e | ⟨z, zs, e, _⟩ <;> rw [e] <;> simp
    obtain ⟨av, xv, rfl, hav, hxv⟩ := Dp.lstI d3
    obtain ⟨ab, xb, rfl, hab, hxb⟩ := Dp.lstI d5
    obtain ⟨ac, xc, rfl, hac, hxc⟩ := Dp.lstI d6
    cases hxc
    have lxv := DpAll.mapLen hxv
    have lxb := DpAll.mapLen hxb
    refine ⟨_, (pss_cons (ps_set (i := 7) sc_System_init.nd rfl (Or.inl rfl) (pe_c (c_right_states T) hr (by decide) (by rfl) (pa_cons (pv 1) (pa_cons (pv 2) pa_nil))))
  (pss_cons (ps_for PassesOwn.never rfl (pi_range1 rfl T.b_range (pa_cons (pe_callB call_len_seq (by rfl) T.b_len PyB.boot_len (pa_cons (pv 3) pa_nil)) pa_nil)) (pg_name (i := 8) sc_System_init.nd rfl (Or.inl rfl)) (pss_one (ps_set (i := 7) sc_System_init.nd rfl (Or.inl rfl) (pe_and (pv 7) (pe_one (pe_c (c_right_variable T) hr (by decide) (by rfl) (pa_cons (pv 1) (pa_cons (pe_slice sl_list (pv 3) po_none (po_some (pv 8))) (pa_cons (pe_ix ix_tup (pe_ix ix_list (pv 3) (pv 8) (fun _ _ => rfl)) pe_int (fun _ _ => rfl)) (pa_cons (pe_ix ix_tup (pe_ix ix_list (pv 3) (pv 8) (fun _ _ => rfl)) pe_int (fun _ _ => rfl)) pa_nil))))))))))
  (pss_cons (ps_for PassesOwn.never rfl (pi_range1 rfl T.b_range (pa_cons (pe_callB call_len_seq (by rfl) T.b_len PyB.boot_len (pa_cons (pv 6) pa_nil)) pa_nil)) (pg_name (i := 8) sc_System_init.nd rfl (Or.inl rfl)) pss_never)
  (pss_cons (ps_for PassesOwn.never rfl (pi_range1 rfl T.b_range (pa_cons (pe_callB call_len_seq (by rfl) T.b_len PyB.boot_len (pa_cons (pv 4) pa_nil)) pa_nil)) (pg_name (i := 8) sc_System_init.nd rfl (Or.inl rfl)) (pss_one (ps_set (i := 7) sc_System_init.nd rfl (Or.inl rfl) (pe_and (pv 7) (pe_one (pe_c (c_right_rule T) hr (by decide) (by rfl) (pa_cons (pv 1) (pa_cons (pv 3) (pa_cons (pv 6) (pa_cons (pe_slice sl_list (pv 4) po_none (po_some (pv 8))) (pa_cons (pe_ix ix_list (pv 4) (pv 8) (fun _ _ => rfl)) pa_nil)))))))))))
  (pss_cons (ps_for PassesOwn.never rfl (pi_range1 rfl T.b_range (pa_cons (pe_callB call_len_seq (by rfl) T.b_len PyB.boot_len (pa_cons (pv 5) pa_nil)) pa_nil)) (pg_name (i := 8) sc_System_init.nd rfl (Or.inl rfl)) (pss_one (ps_set (i := 7) sc_System_init.nd rfl (Or.inl rfl) (pe_and (pv 7) (pe_one (pe_c (c_right_pattern T) hr (by decide) (by rfl) (pa_cons (pv 1) (pa_cons (pv 3) (pa_cons (pe_slice sl_list (pv 5) po_none (po_some (pv 8))) (pa_cons (pe_ix ix_list (pv 5) (pv 8) (fun _ _ => rfl)) pa_nil))))))))))
  (pss_cons (ps_if (pt_not (pt_val (pv 7))) (pss_one ps_never) pss_nil)
  (pss_cons (ps_fld (pv 0) (pe_callTy call_tuple_bare (by rfl) T.b_tuple PyB.boot_tuple (pa_cons (pv 1) pa_nil)) rfl)
  (pss_cons (ps_fld (pv 0) (pv 2) rfl)
  (pss_cons (ps_fld (pv 0) (pe_callTy call_tuple_of (by rfl) T.b_tuple PyB.boot_tuple (pa_cons (pe_lc (own := [("name", 9), ("values", 11)]) (g := gTup K 2 (gCons (gName 9) (gCons (gName 11) (gNil)))) rfl sc_System_init.nd (pi_list (pv 3)) (blkOk_by (own := [("name", 9), ("values", 11)]) (N := nm_System_init) (sc := defScope s_System_init) (by decide +kernel)) (fun _ _ _ _ _ => (pg_tup rfl (pgs_cons (pg_name (i := 9) sc_System_init.nd rfl (Or.inl rfl)) (pgs_cons (pg_name (i := 11) sc_System_init.nd rfl (Or.inl rfl)) pgs_nil)))) (fun _ _ _ _ _ => pts_nil) (fun _ _ _ _ _ => (pe_tup (pa_cons (pv 9) (pa_cons (pe_callTy (call_tuple_ofK K) (by rfl) T.b_tuple PyB.boot_tuple (pa_cons (pv 11) pa_nil)) pa_nil))))) pa_nil)) rfl)
  (pss_cons (ps_fld (pv 0) (pe_callTy call_tuple_of (by rfl) T.b_tuple PyB.boot_tuple (pa_cons (pe_lc (own := [("name", 9), ("letters", 10)]) (g := gTup K 2 (gCons (gName 9) (gCons (gName 10) (gNil)))) rfl sc_System_init.nd (pi_list (pv 6)) (blkOk_by (own := [("name", 9), ("letters", 10)]) (N := nm_System_init) (sc := defScope s_System_init) (by decide +kernel)) (fun _ _ _ _ _ => (pg_tup rfl (pgs_cons (pg_name (i := 9) sc_System_init.nd rfl (Or.inl rfl)) (pgs_cons (pg_name (i := 10) sc_System_init.nd rfl (Or.inl rfl)) pgs_nil)))) (fun _ _ _ _ _ => pts_nil) (fun _ _ _ _ _ => (pe_tup (pa_cons (pv 9) (pa_cons (pe_callTy (call_tuple_ofK K) (by rfl) T.b_tuple PyB.boot_tuple (pa_cons (pv 10) pa_nil)) pa_nil))))) pa_nil)) rfl)
  (pss_cons (ps_fld (pv 0) (pe_callTy call_tuple_of (by rfl) T.b_tuple PyB.boot_tuple (pa_cons (pv 4) pa_nil)) rfl)
  (pss_one (ps_fld (pv 0) (pe_callTy call_tuple_of (by rfl) T.b_tuple PyB.boot_tuple (pa_cons (pe_lc (own := [("counts", 12), ("values", 11)]) (g := gTup K 2 (gCons (gName 12) (gCons (gName 11) (gNil)))) rfl sc_System_init.nd (pi_list (pv 5)) (blkOk_by (own := [("counts", 12), ("values", 11)]) (N := nm_System_init) (sc := defScope s_System_init) (by decide +kernel)) (fun _ _ _ _ _ => (pg_tup rfl (pgs_cons (pg_name (i := 12) sc_System_init.nd rfl (Or.inl rfl)) (pgs_cons (pg_name (i := 11) sc_System_init.nd rfl (Or.inl rfl)) pgs_nil)))) (fun _ _ _ _ _ => pts_nil) (fun _ _ _ _ _ => (pe_tup (pa_cons (pe_c (c_pairs_of_protocols T) hr (by decide) (by rfl) (pa_cons (pv 12) pa_nil)) (pa_cons (pe_c (c_pairs_of_protocols T) hr (by decide) (by rfl) (pa_cons (pv 11) pa_nil)) pa_nil))))) pa_nil)) rfl))))))))))))), ?_⟩
    refine ⟨_, rfl, _, rfl, _, _, S.states, rfl, d1, by omega, by omega, ok.nd, ok.nm, ok.st, ?_⟩
    -- the variables
    refine ⟨_, rfl, av, _, rfl, .inl hav, _, rfl, by omega, by omega, for_range (lo := 0) (fun i σ H' => ∃ v, σ = [some (.ref p), some a1, some (.str S.start), some (.ref av), some (.ref c), some (.ref ab), some (.ref ac), some (.bl true), v, none, none, none, none] ∧ Same H H') ⟨none, rfl, Same.refl _⟩ ?_ ?_⟩
    · rintro i σ H1 hi ⟨v, rfl, s1⟩
      have hi' : i < S.vars.length := by omega
      obtain ⟨z, zs, ev, n1, n2, n3, n4, n5, n6⟩ : ∃ z zs, S.vars = [(z, zs)] ∧ NameOk z ∧ z ∉ S.states ∧ 2 ≤ zs.length ∧ zs.length ≤ 3 ∧ zs.Nodup ∧ ∀ y ∈ zs, NameOk y := by
        rcases ok.v1 with e | h
        · rw [e] at hi'; exact absurd hi' (Nat.not_lt_zero _)
        · exact h
      obtain rfl : i = 0 := by omega
      obtain ⟨x0, hx0, dz⟩ := DpAll.getR hxv (i := 0) (d := dVar (z, zs)) (by rw [ev]; rfl)
      obtain ⟨g, gl, rfl, hg, hgl⟩ := Dp.varI dz
      refine ⟨_, rfl, _, rfl, ?_⟩
      refine iteT ?_
      refine ⟨_, rfl, _, rfl, _, rfl, _, rfl, av, xv, rfl, s1.seq hav, fun t ht => ?_⟩
      have s2 : Same H1 (upd H1 t (.lst (cutV xv none (some (0 + ((0 : Nat) : Int)))))) := Same.upd ht
      have e0 : cutV xv none (some (0 + ((0 : Nat) : Int))) = [] := cutV_to (k := 0) (Nat.zero_le _)
      have s12 := s1.trans s2
      refine ⟨_, rfl, _, rfl, av, _, _, _, rfl, rfl, s12.seq hav, at_of (j := 0) (by omega) hx0, g, _, (0 : Int), _, rfl, rfl, Same.sqT s12 hg, at_of (z := (0 : Int)) (j := 0) rfl rfl, ?_⟩
      refine ⟨_, rfl, _, rfl, av, _, _, _, rfl, rfl, s12.seq hav, at_of (j := 0) (by omega) hx0, g, _, (1 : Int), _, rfl, rfl, Same.sqT s12 hg, at_of (z := (1 : Int)) (j := 1) rfl rfl, ?_⟩
      refine ⟨_, _, _, z, S.states, zs, rfl, Dp.same s12 d1, .lst (SqL.of (by rw [← e0]; exact upd_same)) .nil, Dp.ofStrs (s12.seq hgl), n1, n2, n3, n4, n5, n6, fun H3 s3 => ?_⟩
      exact ⟨_, rfl, s12.trans s3⟩
    rintro σ H1 ⟨v, rfl, s1⟩
    -- no channels
    refine ⟨_, rfl, ac, _, rfl, .inl (s1.seq hac), _, rfl, by decide, by decide, for_range (lo := 0) (n := 0) (fun i σ H' => ∃ v, σ = [some (.ref p), some a1, some (.str S.start), some (.ref av), some (.ref c), some (.ref ab), some (.ref ac), some (.bl true), v, none, none, none, none] ∧ Same H H') ⟨v, rfl, s1⟩ (fun i σ H' hi => absurd hi (Nat.not_lt_zero _)) ?_⟩
    rintro σ H2 ⟨v, rfl, s2⟩
    -- the rules
    refine ⟨_, rfl, c, _, rfl, .inl (s2.seq hc), _, rfl, by omega, by omega, for_range (lo := 0) (fun i σ H' => ∃ v, σ = [some (.ref p), some a1, some (.str S.start), some (.ref av), some (.ref c), some (.ref ab), some (.ref ac), some (.bl true), v, none, none, none, none] ∧ Same H H') ⟨v, rfl, s2⟩ ?_ ?_⟩
    · rintro i σ H1 hi ⟨v, rfl, s1⟩
      have hi' : i < ws.length := by omega
      obtain ⟨r, hri, hrat⟩ := hws.get (i := i) (v := ws[i]) (List.getElem?_eq_getElem hi')
      refine ⟨_, rfl, _, rfl, ?_⟩
      refine iteT ?_
      refine ⟨_, rfl, _, rfl, _, rfl, _, rfl, _, rfl, _, rfl, c, ws, rfl, s1.seq hc, fun t ht => ?_⟩
      have e0 : cutV ws none (some (0 + (i : Int))) = ws.take i := by rw [Int.zero_add]; exact cutV_to (Nat.le_of_lt hi')
      have s2 : Same H1 (upd H1 t (.lst (cutV ws none (some (0 + (i : Int)))))) := Same.upd ht
      have s12 := s1.trans s2
      refine ⟨_, rfl, _, rfl, c, _, _, _, rfl, rfl, s12.seq hc, at_of (j := i) (by omega) (List.getElem?_eq_getElem hi'), ?_⟩
      have nn : r.name ∉ (S.rules.take i).map (·.name) := by
        intro hm
        obtain ⟨q, hq, eq⟩ := List.mem_map.mp hm
        obtain ⟨j, hj, ej⟩ := List.getElem_of_mem hq
        rw [List.length_take] at hj
        have hji : j < i := by omega
        have e1 : (S.rules.map (·.name))[j]? = some r.name := by
          rw [List.getElem?_map, List.getElem?_eq_getElem (by omega), Option.map_some, ← eq, ← ej, List.getElem_take]
        have e2 : (S.rules.map (·.name))[i]? = some r.name := by rw [List.getElem?_map, hri]; rfl
        have := nd_ix ok.rn e1 e2
        omega
      refine ⟨_, _, _, _, t, S.states, S.vars, ws.take i, S.rules.take i, r, rfl, Dp.same s12 d1, Dp.same s12 d3, Dp.same s12 d6, SqL.of (by rw [← e0]; exact upd_same), (hws.same s12).take i, by rw [List.length_take]; omega, nn, hrat.same s12, ok.rs r (List.mem_of_getElem? hri), fun H3 s3 => ?_⟩
      exact ⟨_, rfl, s12.trans s3⟩
    rintro σ H3 ⟨v, rfl, s3⟩
    -- the patterns
    refine ⟨_, rfl, ab, _, rfl, .inl (s3.seq hab), _, rfl, by omega, by omega, for_range (lo := 0) (fun i σ H' => ∃ v, σ = [some (.ref p), some a1, some (.str S.start), some (.ref av), some (.ref c), some (.ref ab), some (.ref ac), some (.bl true), v, none, none, none, none] ∧ Same H H') ⟨v, rfl, s3⟩ ?_ ?_⟩
    · rintro i σ H1 hi ⟨v, rfl, s1⟩
      have hi' : i < xb.length := by omega
      obtain ⟨b, hbi, dz⟩ := DpAll.item hxb (k := i) (x := xb[i]) (List.getElem?_eq_getElem hi')
      refine ⟨_, rfl, _, rfl, ?_⟩
      refine iteT ?_
      refine ⟨_, rfl, _, rfl, _, rfl, _, rfl, _, rfl, ab, xb, rfl, s1.seq hab, fun t ht => ?_⟩
      have e0 : cutV xb none (some (0 + (i : Int))) = xb.take i := by rw [Int.zero_add]; exact cutV_to (Nat.le_of_lt hi')
      have s2 : Same H1 (upd H1 t (.lst (cutV xb none (some (0 + (i : Int)))))) := Same.upd ht
      have s12 := s1.trans s2
      refine ⟨_, rfl, _, rfl, ab, _, _, _, rfl, rfl, s12.seq hab, at_of (j := i) (by omega) (List.getElem?_eq_getElem hi'), ?_⟩
      refine ⟨_, _, _, _, S.states, S.vars, (S.bad.map dPat).take i, b, rfl, Dp.same s12 d1, Dp.same s12 d3, .lst (SqL.of (by rw [← e0]; exact upd_same)) (DpAll.take i (DpAll.same s12 hxb)), by rw [List.length_take, List.length_map]; omega, Dp.same s12 dz, ok.bad b (List.mem_of_getElem? hbi), fun H3 s3 => ?_⟩
      exact ⟨_, rfl, s12.trans s3⟩
    rintro σ J0 ⟨v, rfl, x0⟩
    refine ⟨_, rfl, _, rfl, ?_⟩
    refine iteF ?_
    have h0 : Held K H p (ga K "System") dx [] J0 := ⟨x0 _ _ hp, Same.but p x0⟩
    have m0 : SamD H J0 := Same.samD x0
    have z0 : ([] : List (Str × V)).length ≤ 0 := Nat.le_refl _
    generalize ([] : List (Str × V)) = fs0 at h0 z0
    obtain ⟨k1, rfl, hk1⟩ := Dp.strsI (Dp.samD m0 d1)
    refine ⟨_, rfl, k1, _, rfl, hk1, fun t0 o0 ht0 oc0 od0 => ?_⟩
    have s0 : Same J0 (upd J0 t0 (.frz o0 (.tup (S.states.map V.str)))) := Same.upd ht0
    have e0 : BareT (upd J0 t0 (.frz o0 (.tup (S.states.map V.str)))) t0 (S.states.map V.str) := ⟨o0, upd_same, oc0, od0⟩
    generalize upd J0 t0 (.frz o0 (.tup (S.states.map V.str))) = G0 at *
    refine ⟨_, rfl, p, _, dx, fs0, rfl, s0 _ _ h0.at_, C, T.k_System.na _ (by simp), (by omega), ?_⟩
    obtain ⟨h1, q1, w1⟩ := fld_step h0 (u := .ref t0) s0 ("states" : Str)
    have m1 := m0.trans q1
    have z1 := putF_len ("states" : Str) (.ref t0) fs0
    have e0 := e0.samD w1
    generalize upd G0 p (.ins (ga K "System") dx (putF ("states" : Str) (V.ref t0) fs0)) = J1 at *
    have g0 : (putF ("states" : Str) (V.ref t0) fs0).lookup ("states" : Str) = some (V.ref t0) := lk_eq
    generalize putF ("states" : Str) (V.ref t0) fs0 = fs1 at *
    refine ⟨_, rfl, ?_⟩
    refine ⟨_, rfl, p, _, dx, fs1, rfl, (Same.refl J1) _ _ h1.at_, C, T.k_System.na _ (by simp), (by omega), ?_⟩
    obtain ⟨h2, q2, w2⟩ := fld_step h1 (u := .str S.start) (Same.refl J1) ("start" : Str)
    have m2 := m1.trans q2
    have z2 := putF_len ("start" : Str) (.str S.start) fs1
    have e0 := e0.samD q2
    generalize upd J1 p (.ins (ga K "System") dx (putF ("start" : Str) (V.str S.start) fs1)) = J2 at *
    have g1 : (putF ("start" : Str) (V.str S.start) fs1).lookup ("start" : Str) = some (V.str S.start) := lk_eq
    have g0 : (putF ("start" : Str) (V.str S.start) fs1).lookup ("states" : Str) = some (V.ref t0) := (lk_ne (by decide +kernel)).trans g0
    generalize putF ("start" : Str) (V.str S.start) fs1 = fs2 at *
    refine ⟨_, rfl, lc_dl (K := K) (vs := [9, 11]) (Dp.samD m2 d3) (by omega) (fun v => some (dVarT v)) ?turnV ?_⟩
    case turnV =>
      intro D hD i z v hv dz Hi R N s2 nD hR _
      obtain ⟨b, c, rfl, hb, hc⟩ := Dp.varI dz
      refine ⟨b, _, rfl, Same.sqT s2 hb, rfl, _, _, rfl, _, _, rfl, rfl, rfl, ?_⟩
      refine yesT ?_
      refine ⟨_, rfl, _, rfl, c, _, rfl, .inl ⟨s2.seq hc, fun t ht => ?_⟩⟩
      have s3 : Same Hi (upd Hi t (.tup (v.2.map V.str))) := Same.upd ht
      refine ⟨by show 2 ≤ sizeLine; decide, fun t' ht' => hR _ _ _ rfl (s3.trans (Same.upd ht')) ?_⟩
      have tD : t ≠ D := fun e => nD (e ▸ ht)
      have tD' : t' ≠ D := fun e => nD (e ▸ s3.free ht')
      have tt : t ≠ t' := fun e => by rw [← e, upd_same] at ht'; cases ht'
      exact .tup (SqT.of (by rw [del_ne tD']; exact upd_same)) (.cons (.str _) (.cons (Dp.ofStrT (SqT.of (by rw [del_ne tD, upd_ne tt]; exact upd_same))) .nil))
    intro D2 X2 x2 hD2 dd2
    rw [fm_map] at dd2
    obtain ⟨_, ys2, ee2, hh2, hys2⟩ := Dp.lstI dd2
    cases ee2
    refine ⟨D2, _, rfl, .inl ⟨hh2, fun t2 ht2 => ?_⟩⟩
    have s2 : Same J2 (upd X2 t2 (.tup ys2)) := x2.trans (Same.upd ht2)
    have e2 : Dp K (upd X2 t2 (.tup ys2)) (.ref t2) (.tuple (S.vars.map dVarT)) := .tup (SqT.of upd_same) (DpAll.same (Same.upd ht2) hys2)
    generalize upd X2 t2 (.tup ys2) = G2 at *
    refine ⟨_, rfl, p, _, dx, fs2, rfl, s2 _ _ h2.at_, C, T.k_System.na _ (by simp), (by omega), ?_⟩
    obtain ⟨h3, q3, w3⟩ := fld_step h2 (u := .ref t2) s2 ("variables" : Str)
    have m3 := m2.trans q3
    have z3 := putF_len ("variables" : Str) (.ref t2) fs2
    have e2 := Dp.samD w3 e2
    have e0 := e0.samD q3
    generalize upd G2 p (.ins (ga K "System") dx (putF ("variables" : Str) (V.ref t2) fs2)) = J3 at *
    have g2 : (putF ("variables" : Str) (V.ref t2) fs2).lookup ("variables" : Str) = some (V.ref t2) := lk_eq
    have g0 : (putF ("variables" : Str) (V.ref t2) fs2).lookup ("states" : Str) = some (V.ref t0) := (lk_ne (by decide +kernel)).trans g0
    have g1 : (putF ("variables" : Str) (V.ref t2) fs2).lookup ("start" : Str) = some (V.str S.start) := (lk_ne (by decide +kernel)).trans g1
    generalize putF ("variables" : Str) (V.ref t2) fs2 = fs3 at *
    refine ⟨_, rfl, lc_dl (K := K) (vs := [9, 10]) (l := ([] : List PyData)) (enc := fun d => d) (Dp.samD m3 d6) (by decide) (fun d => some d) (fun D hD i z d hd' => by simp at hd') ?_⟩
    intro D3 X3 x3 hD3 dd3
    obtain ⟨_, ys3, ee3, hh3, hys3⟩ := Dp.lstI dd3
    cases ee3
    refine ⟨D3, _, rfl, .inl ⟨hh3, fun t3 ht3 => ?_⟩⟩
    have s3 : Same J3 (upd X3 t3 (.tup ys3)) := x3.trans (Same.upd ht3)
    have e3 : Dp K (upd X3 t3 (.tup ys3)) (.ref t3) (.tuple []) := .tup (SqT.of upd_same) (DpAll.same (Same.upd ht3) hys3)
    generalize upd X3 t3 (.tup ys3) = G3 at *
    refine ⟨_, rfl, p, _, dx, fs3, rfl, s3 _ _ h3.at_, C, T.k_System.na _ (by simp), (by omega), ?_⟩
    obtain ⟨h4, q4, w4⟩ := fld_step h3 (u := .ref t3) s3 ("channels" : Str)
    have m4 := m3.trans q4
    have z4 := putF_len ("channels" : Str) (.ref t3) fs3
    have e3 := Dp.samD w4 e3
    have e0 := e0.samD q4
    have e2 := Dp.samD q4 e2
    generalize upd G3 p (.ins (ga K "System") dx (putF ("channels" : Str) (V.ref t3) fs3)) = J4 at *
    have g3 : (putF ("channels" : Str) (V.ref t3) fs3).lookup ("channels" : Str) = some (V.ref t3) := lk_eq
    have g0 : (putF ("channels" : Str) (V.ref t3) fs3).lookup ("states" : Str) = some (V.ref t0) := (lk_ne (by decide +kernel)).trans g0
    have g1 : (putF ("channels" : Str) (V.ref t3) fs3).lookup ("start" : Str) = some (V.str S.start) := (lk_ne (by decide +kernel)).trans g1
    have g2 : (putF ("channels" : Str) (V.ref t3) fs3).lookup ("variables" : Str) = some (V.ref t2) := (lk_ne (by decide +kernel)).trans g2
    generalize putF ("channels" : Str) (V.ref t3) fs3 = fs4 at *
    refine ⟨_, rfl, c, _, rfl, .inl ⟨m4.sqL hc, fun t4 ht4 => ?_⟩⟩
    have s4 : Same J4 (upd J4 t4 (.tup ws)) := Same.upd ht4
    have e4 : SqT K (upd J4 t4 (.tup ws)) t4 ws := SqT.of upd_same
    generalize upd J4 t4 (.tup ws) = G4 at *
    refine ⟨_, rfl, p, _, dx, fs4, rfl, s4 _ _ h4.at_, C, T.k_System.na _ (by simp), (by omega), ?_⟩
    obtain ⟨h5, q5, w5⟩ := fld_step h4 (u := .ref t4) s4 ("rules" : Str)
    have m5 := m4.trans q5
    have z5 := putF_len ("rules" : Str) (.ref t4) fs4
    have e4 := w5.sqT e4
    have e0 := e0.samD q5
    have e2 := Dp.samD q5 e2
    have e3 := Dp.samD q5 e3
    generalize upd G4 p (.ins (ga K "System") dx (putF ("rules" : Str) (V.ref t4) fs4)) = J5 at *
    have g4 : (putF ("rules" : Str) (V.ref t4) fs4).lookup ("rules" : Str) = some (V.ref t4) := lk_eq
    have g0 : (putF ("rules" : Str) (V.ref t4) fs4).lookup ("states" : Str) = some (V.ref t0) := (lk_ne (by decide +kernel)).trans g0
    have g1 : (putF ("rules" : Str) (V.ref t4) fs4).lookup ("start" : Str) = some (V.str S.start) := (lk_ne (by decide +kernel)).trans g1
    have g2 : (putF ("rules" : Str) (V.ref t4) fs4).lookup ("variables" : Str) = some (V.ref t2) := (lk_ne (by decide +kernel)).trans g2
    have g3 : (putF ("rules" : Str) (V.ref t4) fs4).lookup ("channels" : Str) = some (V.ref t3) := (lk_ne (by decide +kernel)).trans g3
    generalize putF ("rules" : Str) (V.ref t4) fs4 = fs5 at *
    refine ⟨_, rfl, lc_dl (K := K) (vs := [12, 11]) (Dp.samD m5 d5) (by omega) (fun b => some (dPatT b)) ?turnB ?_⟩
    case turnB =>
      intro D hD i z b hb dz Hi R N s2 nD hR _
      obtain ⟨g, xs, rfl, hg, hxs⟩ := Dp.tupI dz
      obtain ⟨u1, u2, rfl, y1, y2⟩ := DpAll.i2 hxs
      have ob := ok.bad b (List.mem_of_getElem? hb)
      refine ⟨g, _, rfl, Same.sqT s2 hg, rfl, _, _, rfl, _, _, rfl, rfl, rfl, ?_⟩
      refine yesT ?_
      refine ⟨_, rfl, u1, _, rfl, Dp.same s2 y1, allCp _, by rw [List.length_map]; exact Nat.lt_of_le_of_lt ob.cl (by decide), fun t H5 s5 ht e5 => ?_⟩
      refine ⟨_, rfl, u2, _, rfl, Dp.same (s2.trans s5) y2, allPr _, by rw [List.length_map]; exact Nat.lt_of_le_of_lt ob.vo.len (by decide), fun t' H6 s6 ht' e6 => ?_⟩
      refine ⟨by show 2 ≤ sizeLine; decide, fun t2 ht2 => hR _ _ _ rfl (s5.trans (s6.trans (Same.upd ht2))) ?_⟩
      have tD2 : t2 ≠ D := fun e => nD (e ▸ s5.free (s6.free ht2))
      have nD5 : H5 D ≠ none := fun z => nD (s5.free z)
      have x5 : Dp K (del (upd H6 t2 (.tup [.ref t, .ref t'])) D) (.ref t) (.tuple (b.1.map dCp)) := Dp.same (Same.delDel (s6.trans (Same.upd ht2))) (Dp.same (Same.freshDel nD) e5)
      have x6 : Dp K (del (upd H6 t2 (.tup [.ref t, .ref t'])) D) (.ref t') (.tuple (b.2.map dPr)) := Dp.same (Same.delDel (Same.upd ht2)) (Dp.same (Same.freshDel nD5) e6)
      exact .tup (SqT.of (by rw [del_ne tD2]; exact upd_same)) (.cons x5 (.cons x6 .nil))
    intro D5 X5 x5 hD5 dd5
    rw [fm_map] at dd5
    obtain ⟨_, ys5, ee5, hh5, hys5⟩ := Dp.lstI dd5
    cases ee5
    refine ⟨D5, _, rfl, .inl ⟨hh5, fun t5 ht5 => ?_⟩⟩
    have s5 : Same J5 (upd X5 t5 (.tup ys5)) := x5.trans (Same.upd ht5)
    have e5 : Dp K (upd X5 t5 (.tup ys5)) (.ref t5) (.tuple (S.bad.map dPatT)) := .tup (SqT.of upd_same) (DpAll.same (Same.upd ht5) hys5)
    generalize upd X5 t5 (.tup ys5) = G5 at *
    refine ⟨_, rfl, p, _, dx, fs5, rfl, s5 _ _ h5.at_, C, T.k_System.na _ (by simp), (by omega), ?_⟩
    obtain ⟨h6, q6, w6⟩ := fld_step h5 (u := .ref t5) s5 ("bad" : Str)
    have m6 := m5.trans q6
    have z6 := putF_len ("bad" : Str) (.ref t5) fs5
    have e4 := q6.sqT e4
    have e5 := Dp.samD w6 e5
    have e0 := e0.samD q6
    have e2 := Dp.samD q6 e2
    have e3 := Dp.samD q6 e3
    generalize upd G5 p (.ins (ga K "System") dx (putF ("bad" : Str) (V.ref t5) fs5)) = J6 at *
    have g5 : (putF ("bad" : Str) (V.ref t5) fs5).lookup ("bad" : Str) = some (V.ref t5) := lk_eq
    have g0 : (putF ("bad" : Str) (V.ref t5) fs5).lookup ("states" : Str) = some (V.ref t0) := (lk_ne (by decide +kernel)).trans g0
    have g1 : (putF ("bad" : Str) (V.ref t5) fs5).lookup ("start" : Str) = some (V.str S.start) := (lk_ne (by decide +kernel)).trans g1
    have g2 : (putF ("bad" : Str) (V.ref t5) fs5).lookup ("variables" : Str) = some (V.ref t2) := (lk_ne (by decide +kernel)).trans g2
    have g3 : (putF ("bad" : Str) (V.ref t5) fs5).lookup ("channels" : Str) = some (V.ref t3) := (lk_ne (by decide +kernel)).trans g3
    have g4 : (putF ("bad" : Str) (V.ref t5) fs5).lookup ("rules" : Str) = some (V.ref t4) := (lk_ne (by decide +kernel)).trans g4
    generalize putF ("bad" : Str) (V.ref t5) fs5 = fs6 at *
    exact kq J6 h6.but ⟨p, dx, fs6, rfl, h6.at_, ⟨⟨_, g0, e0⟩, g1, ⟨_, g2, e2⟩, ⟨_, g3, e3⟩, ⟨_, ws, g4, e4, hws.but hp h6.but⟩, ⟨_, g5, e5⟩⟩⟩
end
end C62
set_option Elab.async false
set_option linter.all false
set_option maxRecDepth 100000
set_option maxHeartbeats 4000000
namespace C62
open PySem PySem.Spec PyProof.Rows L2
open He (ga ma)
abbrev Pr := Str × Str
def placesOf (S : PartsD) : List Pr := S.states.map (fun s => (("" : Str), s)) ++ S.vars.flatMap fun v => v.2.map fun x => (v.1, x)
def cnt (ps ns : List Pr) : List Int := ps.map fun q => (ns.count q : Int)
def takenN (r : RuleD) : List Pr := r.actors.map (fun p => (("" : Str), p.1)) ++ r.conds
def givenN (r : RuleD) : List Pr := (r.actors.filter fun p => !decide (p.2 = ("gone" : Str))).map (fun p => (("" : Str), p.2)) ++ r.born.map (fun s => (("" : Str), s)) ++ r.conds.filter (fun p => !decide (p.1 ∈ r.effs.map (·.1))) ++ r.effs.filter (fun p => decide (p.1 ∈ r.conds.map (·.1)))
/-! ### loops over data while lists change -/
section
variable {α : Type} {K : PySem.W.Frag} {v : V} {enc : α → PyData} {l : List α} {g : TG} {tb : TS} {D : Ends} {σ : L2.St} {H : Hp}
theorem for_dtM (h : Dp K H v (.tuple (l.map enc))) (Pv : Nat → L2.St → Hp → Prop) (h0 : Pv 0 σ H) (hl : ∀ k σ' H', k ≤ l.length → Pv k σ' H' → Dp K H' v (.tuple (l.map enc)))
    (turn : ∀ k x y σ' H', l[k]? = some y → Dp K H' x (enc y) → Pv k σ' H' → g x σ' H' fun σ2 H2 => tb { D with nx := Pv (k + 1), ct := Pv (k + 1), bk := D.nx } σ2 H2)
    (done : ∀ σ' H', Pv l.length σ' H' → D.nx σ' H') :
    ∃ a, v = .ref a ∧ (∃ xs, SqT K H a xs) ∧ ∃ W : Nat → Nat → L2.St → Hp → Prop, (∃ m, W 0 m σ H) ∧ ∀ i m σ H, W i m σ H →
      ((Itt K a).stop i H ∧ D.nx σ H) ∨ ((Itt K a).go i H ∧ ∃ N : L2.St → Hp → Prop, (∀ σ' H', N σ' H' → ∃ m', m' < m ∧ W (i + 1) m' σ' H') ∧ ∀ x H', (Itt K a).yld i H x H' → g x σ H' fun σ2 H2 => tb { D with nx := N, ct := N, bk := D.nx } σ2 H2) := by
  obtain ⟨a, xs0, rfl, hs0, ha0⟩ := Dp.tupI h
  refine ⟨a, rfl, ⟨xs0, hs0⟩, fun i m σ H => m = l.length - i ∧ i ≤ l.length ∧ Pv i σ H, ⟨_, rfl, Nat.zero_le _, h0⟩, ?_⟩
  rintro i m σ H ⟨rfl, hi, p⟩
  obtain ⟨_, xs, e, hs, ha⟩ := Dp.tupI (hl i σ H hi p)
  cases e
  have ln := DpAll.mapLen ha
  by_cases hlt : i < l.length
  · refine .inr ⟨⟨xs, xs[i], hs, by simp [ln, hlt]⟩, Pv (i + 1), fun σ' H' p' => ⟨l.length - (i + 1), by omega, rfl, hlt, p'⟩, fun x H' y => ?_⟩
    obtain ⟨rfl, y⟩ := y
    obtain ⟨z, h1, h2⟩ := DpAll.item ha (y xs hs)
    exact turn i x z σ _ h1 h2 p
  · obtain rfl : i = l.length := by omega
    exact .inl ⟨⟨xs, hs, Nat.le_of_eq ln⟩, done σ H p⟩
theorem for_dlM (h : Dp K H v (.list (l.map enc))) (Pv : Nat → L2.St → Hp → Prop) (h0 : Pv 0 σ H) (hl : ∀ k σ' H', k ≤ l.length → Pv k σ' H' → Dp K H' v (.list (l.map enc)))
    (turn : ∀ k x y σ' H', l[k]? = some y → Dp K H' x (enc y) → Pv k σ' H' → g x σ' H' fun σ2 H2 => tb { D with nx := Pv (k + 1), ct := Pv (k + 1), bk := D.nx } σ2 H2)
    (done : ∀ σ' H', Pv l.length σ' H' → D.nx σ' H') :
    ∃ a, v = .ref a ∧ (∃ xs, SqL K H a xs) ∧ ∃ W : Nat → Nat → L2.St → Hp → Prop, (∃ m, W 0 m σ H) ∧ ∀ i m σ H, W i m σ H →
      ((Itl K a).stop i H ∧ D.nx σ H) ∨ ((Itl K a).go i H ∧ ∃ N : L2.St → Hp → Prop, (∀ σ' H', N σ' H' → ∃ m', m' < m ∧ W (i + 1) m' σ' H') ∧ ∀ x H', (Itl K a).yld i H x H' → g x σ H' fun σ2 H2 => tb { D with nx := N, ct := N, bk := D.nx } σ2 H2) := by
  obtain ⟨a, xs0, rfl, hs0, ha0⟩ := Dp.lstI h
  refine ⟨a, rfl, ⟨xs0, hs0⟩, fun i m σ H => m = l.length - i ∧ i ≤ l.length ∧ Pv i σ H, ⟨_, rfl, Nat.zero_le _, h0⟩, ?_⟩
  rintro i m σ H ⟨rfl, hi, p⟩
  obtain ⟨_, xs, e, hs, ha⟩ := Dp.lstI (hl i σ H hi p)
  cases e
  have ln := DpAll.mapLen ha
  by_cases hlt : i < l.length
  · refine .inr ⟨⟨xs, xs[i], hs, by simp [ln, hlt]⟩, Pv (i + 1), fun σ' H' p' => ⟨l.length - (i + 1), by omega, rfl, hlt, p'⟩, fun x H' y => ?_⟩
    obtain ⟨rfl, y⟩ := y
    obtain ⟨z, h1, h2⟩ := DpAll.item ha (y xs hs)
    exact turn i x z σ _ h1 h2 p
  · obtain rfl : i = l.length := by omega
    exact .inl ⟨⟨xs, hs, Nat.le_of_eq ln⟩, done σ H p⟩
/-- for x in v, v a list or a tuple, while lists change -/
theorem for_dsM {H0 : Hp} {i : Nat} (h : Sq K H0 v (l.map enc)) (s : Same H0 H) (hv : σ[i]? = some (some v)) (Pv : Nat → L2.St → Hp → Prop) (h0 : Pv 0 σ H) (hl : ∀ k σ' H', k ≤ l.length → Pv k σ' H' → Same H0 H')
    (turn : ∀ k x y σ' H', l[k]? = some y → Dp K H' x (enc y) → Pv k σ' H' → g x σ' H' fun σ2 H2 => tb { D with nx := Pv (k + 1), ct := Pv (k + 1), bk := D.nx } σ2 H2)
    (done : ∀ σ' H', Pv l.length σ' H' → D.nx σ' H') : tFor (iSeq K (tVar i)) g tb D σ H := by
  rcases h with h | h
  · exact .inl ⟨v, hv, for_dlM (Dp.same s h) Pv h0 (fun k σ' H' hk p => Dp.same (hl k σ' H' hk p) h) turn done⟩
  · exact .inr ⟨v, hv, for_dtM (Dp.same s h) Pv h0 (fun k σ' H' hk p => Dp.same (hl k σ' H' hk p) h) turn done⟩
end
theorem noLs_map {α : Type} (f : α → PyData) (h : ∀ x, noL (f x) = true) : ∀ l : List α, noLs (l.map f) = true
  | [] => rfl
  | x :: l => by
    show (noL (f x) && noLs (l.map f)) = true
    rw [h x, noLs_map f h l]; rfl
theorem noL_pr (p : Pr) : noL (dPr p) = true := rfl
section
variable {K : PySem.W.Frag} {H : Hp}
/-- a new pair of texts -/
theorem prNew {Hi : Hp} {D t : Addr} {a b : Str} (nD : Hi D ≠ none) (ht : Hi t = none) : Dp K (del (upd Hi t (.tup [.str a, .str b])) D) (.ref t) (dPr (a, b)) := by
  have tD : t ≠ D := fun e => nD (e ▸ ht)
  exact .tup (SqT.of (by rw [del_ne tD]; exact upd_same)) (.cons (.str _) (.cons (.str _) .nil))
theorem Grown.ext {l : Addr} {ds es : List PyData} {H' H2 : Hp} {ys : List V} (hD : H l = none) (h : Grown K H l ds H') (s : Same H' H2) (hy : DpAll K (del H2 l) ys es) :
    ∃ acc, H2 l = some (.lst acc) ∧ acc.length = ds.length ∧ Grown K H l (ds ++ es) (upd H2 l (.lst (acc ++ ys))) := by
  obtain ⟨s0, acc, h1, h2, h3⟩ := h
  have hl := DpAll.len hy
  refine ⟨acc, s _ _ h1, h2, fun b o q => ?_, acc ++ ys, upd_same, by simp [h2, hl], ?_⟩
  · rw [upd_ne (ne_of_none q hD)]
    exact s _ _ (s0 _ _ q)
  · rw [del_upd]
    exact DpAll.app (DpAll.same (Same.delDel s) h3) hy
/-- the list of a comprehension put behind another -/
theorem Grown.ext2 {l D : Addr} {ds es : List PyData} {H' H2 : Hp} (hD : H l = none) (h : Grown K H l ds H') (g : Grown K H' D es H2) (n : noLs es = true) (hz : ds.length + es.length ≤ 1000) :
    ∃ acc ys, H2 l = some (.lst acc) ∧ H2 D = some (.lst ys) ∧ acc.length + ys.length ≤ sizeLine ∧ Grown K H l (ds ++ es) (upd H2 l (.lst (acc ++ ys))) := by
  obtain ⟨s, ys, hy, yl, hys⟩ := g
  obtain ⟨acc, h1, h2, h3⟩ := h.ext hD s (DpAll.delL (s _ _ h.2.choose_spec.1) (DpAll.same Same.ofDel hys) n)
  exact ⟨acc, ys, h1, hy, Nat.le_of_lt (small1000 (by omega)), h3⟩
end
def spPlaceNames (K : PySem.W.Frag) : Sp := fun vs H Q _ => ∃ (x : V) (S : PartsD), vs = [x] ∧ SysAt K H x S ∧ PartsOk S ∧ ∀ p H', Same H H' → H p = none → Dp K H' (.ref p) (.list ((placesOf S).map dPr)) → Q (.ref p) H'
def spTaken (K : PySem.W.Frag) : Sp := fun vs H Q _ => ∃ (x : V) (r : RuleD), vs = [x] ∧ RuleAt K H x r ∧ r.actors.length ≤ 60 ∧ r.conds.length ≤ 60 ∧ ∀ p H', Same H H' → H p = none → Dp K H' (.ref p) (.list ((takenN r).map dPr)) → Q (.ref p) H'
def spGiven (K : PySem.W.Frag) : Sp := fun vs H Q _ => ∃ (x : V) (r : RuleD), vs = [x] ∧ RuleAt K H x r ∧ r.actors.length ≤ 60 ∧ r.conds.length ≤ 60 ∧ r.born.length ≤ 60 ∧ r.effs.length ≤ 60 ∧ ∀ p H', Same H H' → H p = none → Dp K H' (.ref p) (.list ((givenN r).map dPr)) → Q (.ref p) H'
theorem vars_le {S : PartsD} (ok : PartsOk S) : S.vars.length ≤ 1 := by
  rcases ok.v1 with e | ⟨z, zs, e, _⟩ <;> rw [e] <;> simp
theorem vals_le {S : PartsD} (ok : PartsOk S) {i : Nat} {v : Str × List Str} (h : S.vars[i]? = some v) : v.2.length ≤ 3 := by
  rcases ok.v1 with e | ⟨z, zs, e, _, _, _, h3, _⟩
  · rw [e] at h; simp at h
  · rw [e] at h
    match i, h with
    | 0, h => cases h; exact h3
section
variable {P : Program} {w : World} {K : PySem.W.Frag} {mg : Str → Option Value} {base : Heap}
theorem c_place_names (T : Txt K mg) : Cal P w K mg base 1 "place_names" (spPlaceNames K) := by
  refine T.f_place_names.cal sc_place_names (fun _ _ _ _ _ _ us hl => match us, hl with | [_], _ => rfl) (fun vs H Q E h => ?_) (fun f cdv A outer s H vs Q E hr h => ?_)
  · obtain ⟨x, S, rfl, _⟩ := h
    rfl
  · obtain ⟨x, S, rfl, ⟨p, dx, fs, rfl, hp, F⟩, ok, q⟩ := h
    obtain ⟨u1, f1, d1⟩ := F.statesD
    obtain ⟨u2, f2, d2⟩ := F.vars
    have C := T.k_System.cl
    have o4 := ok.s4
    refine ⟨_, (pss_cons (ps_setLc (i := 1) (own := [("state", 4)]) (g := gName 4) rfl sc_place_names.nd rfl rfl (sw_true rfl rfl rfl (by decide +kernel)) (pi_tup (pe_fld (pv 0) rfl)) (blkOk_by (own := [("state", 4)]) (N := nm_place_names) (sc := defScope s_place_names) (by decide +kernel)) (fun _ _ _ _ _ => (pg_name (i := 4) sc_place_names.nd rfl (Or.inl rfl))) (fun _ _ _ _ _ => pts_nil) (fun _ _ _ _ _ => (pe_tup (pa_cons pe_str (pa_cons (pv 4) pa_nil)))))
  (pss_cons (ps_for PassesOwn.never rfl (pi_tup (pe_fld (pv 0) rfl)) (pg_tup rfl (pgs_cons (pg_name (i := 2) sc_place_names.nd rfl (Or.inr rfl)) (pgs_cons (pg_name (i := 3) sc_place_names.nd rfl (Or.inl rfl)) pgs_nil))) (pss_one (ps_expr (pe_bm PySem.F.plainAttrs_list PySem.F.slot_list_extend PySem.F.type_list_extend mt_extend (pv 1) (pa_cons (pe_lc (own := [("value", 5)]) (g := gName 5) rfl sc_place_names.nd (pi_tup (pv 3)) (blkOk_by (own := [("value", 5)]) (N := nm_place_names) (sc := defScope s_place_names) (by decide +kernel)) (fun _ _ _ _ _ => (pg_name (i := 5) sc_place_names.nd rfl (Or.inl rfl))) (fun _ _ _ _ _ => pts_nil) (fun _ _ _ _ _ => (pe_tup (pa_cons (pv 2) (pa_cons (pv 5) pa_nil))))) pa_nil)))))
  (pss_one (ps_ret (pv 1))))), ?_⟩
    refine ⟨_, rfl, p, _, dx, fs, _, rfl, hp, C, T.k_System.na _ (by simp), f1, lc_dtG (K := K) (vs := [4]) d1 (by omega) (fun s => some (dPr (("" : Str), s))) ?_ ?_⟩
    · intro D hD i z s hs dz Hi R N s2 nD hR _
      obtain rfl := Dp.strI dz
      refine ⟨rfl, ?_⟩
      refine yesT ?_
      exact ⟨_, rfl, by show 2 ≤ sizeLine; decide, fun t ht => hR _ _ _ rfl (Same.upd ht) (prNew nD ht)⟩
    intro l H1 G1 hl
    rw [fm_map, map_map' (fun s => (("" : Str), s)) dPr] at G1
    have hp1 := G1.1 _ _ hp
    refine ⟨_, rfl, p, _, dx, fs, _, rfl, hp1, C, T.k_System.na _ (by simp), f2, for_dtM (K := K) (Dp.same G1.1 d2) (fun i σ H' => ∃ v1 v2, σ = [some (.ref p), some (.ref l), v1, v2, none, none] ∧
      Grown K H l ((S.states.map (fun s => (("" : Str), s)) ++ (S.vars.take i).flatMap fun v => v.2.map fun x => (v.1, x)).map dPr) H') ⟨none, none, rfl, (by rw [List.take_zero, List.flatMap_nil, List.append_nil]; exact G1)⟩ (fun i σ H' _ ⟨_, _, _, h⟩ => Dp.same h.1 d2) ?_ ?_⟩
    · rintro i z v σ H2 hv dz ⟨v1, v2, rfl, G2⟩
      obtain ⟨a, xs, rfl, ha, hxs⟩ := Dp.tupI dz
      obtain ⟨n, y, rfl, dn, dy⟩ := DpAll.i2 hxs
      obtain rfl := Dp.strI dn
      have l3 := vals_le ok hv
      have l1 := vars_le ok
      obtain ⟨b, rfl, hb⟩ := Dp.strTI dy
      refine ⟨a, _, rfl, ha, rfl, _, _, rfl, _, _, rfl, rfl, ?_⟩
      obtain ⟨acc, hacc, _⟩ := G2.2
      refine ⟨_, rfl, .inl ⟨rfl, _, SqL.of hacc⟩, _, rfl, lc_dtG (K := K) (vs := [5]) dy (by omega) (fun x => some (dPr (v.1, x))) ?_ ?_⟩
      · intro D hD i z s hs dz Hi R N s2 nD hR _
        obtain rfl := Dp.strI dz
        refine ⟨rfl, ?_⟩
        refine yesT ?_
        exact ⟨_, rfl, _, rfl, by show 2 ≤ sizeLine; decide, fun t ht => hR _ _ _ rfl (Same.upd ht) (prNew nD ht)⟩
      · intro D H3 G3 hD
        rw [fm_map, map_map' (fun x => (v.1, x)) dPr] at G3
        have hlen : (S.vars.take i).length = 0 := by
          have := get_lt hv
          rw [List.length_take]; omega
        rw [List.eq_nil_of_length_eq_zero hlen, List.flatMap_nil, List.append_nil] at G2
        obtain ⟨acc', ys, q1, q2, q3, G4⟩ := G2.ext2 hl G3 (noLs_map _ noL_pr _) (by rw [List.length_map, List.length_map, List.length_map, List.length_map]; omega)
        refine ⟨l, D, acc', ys, rfl, rfl, q1, q2, q3, ?_⟩
        refine ⟨_, _, rfl, ?_⟩
        rw [take_snoc hv, List.eq_nil_of_length_eq_zero hlen, List.nil_append, List.flatMap_singleton, List.map_append]
        exact G4
    · rintro σ H2 ⟨v1, v2, rfl, G2⟩
      rw [List.take_length] at G2
      exact ⟨_, rfl, q _ _ G2.1 hl G2.fin⟩
end
end C62
set_option Elab.async false
set_option linter.all false
set_option maxRecDepth 100000
set_option maxHeartbeats 4000000
namespace C62
open PySem PySem.Spec PyProof.Rows L2
open He (ga ma)
/-! ### places by their names -/
theorem eqv_pr (p q : Pr) : PyData.eqv (dPr p) (dPr q) = decide (p = q) := by
  obtain ⟨a, b⟩ := p
  obtain ⟨c, d⟩ := q
  have e : PyData.eqv (dPr (a, b)) (dPr (c, d)) = ((a == c) && ((b == d) && true)) := by simp only [dPr, PyData.eqv, PyData.eqvAll]
  rw [e]
  by_cases h1 : a = c
  · by_cases h2 : b = d
    · subst h1; subst h2; simp
    · have : (b == d) = false := beq_eq_false_iff_ne.mpr h2
      rw [this, Bool.false_and, Bool.and_false]
      exact (decide_eq_false fun z => h2 (congrArg Prod.snd z)).symm
  · have : (a == c) = false := beq_eq_false_iff_ne.mpr h1
    rw [this, Bool.false_and]
    exact (decide_eq_false fun z => h1 (congrArg Prod.fst z)).symm
def prOk (p : Pr) : Prop := PyData.strOk p.1 = true ∧ PyData.strOk p.2 = true
theorem pr_lay {p : Pr} (h : prOk p) : (dPr p).canLay0 = true := by simp [dPr, PyData.canLay0, PyData.canLayAll0, h.1, h.2]
theorem pr_depth (p : Pr) : (dPr p).depth = 1 := by simp [dPr, PyData.depth, PyData.depthAll]
theorem pr_shaped {p : Pr} (h : prOk p) : SeqAt.shaped (dPr p) = true := by
  show ((dPr p).canLay0 && decide ((dPr p).depth ≤ 64)) = true
  rw [pr_lay h, pr_depth]; rfl
theorem prs_lay : ∀ {ps : List Pr}, (∀ p ∈ ps, prOk p) → PyData.canLayAll0 (ps.map dPr) = true
  | [], _ => by simp [PyData.canLayAll0]
  | p :: ps, h => by
    rw [List.map_cons]
    unfold PyData.canLayAll0
    rw [pr_lay (h p List.mem_cons_self), prs_lay fun q hq => h q (List.mem_cons_of_mem _ hq)]; rfl
theorem prs_depth : ∀ ps : List Pr, PyData.depthAll (ps.map dPr) ≤ 1
  | [] => by simp [PyData.depthAll]
  | p :: ps => by
    have h1 := prs_depth ps
    have h2 := pr_depth p
    simp only [List.map_cons, PyData.depthAll]
    omega
theorem prs_shaped {ps : List Pr} (h : ∀ p ∈ ps, prOk p) : SeqAt.shaped (.list (ps.map dPr)) = true := by
  have h1 := prs_depth ps
  show (PyData.canLay0 (.list (ps.map dPr)) && decide (PyData.depth (.list (ps.map dPr)) ≤ 64)) = true
  have e1 : PyData.canLay0 (.list (ps.map dPr)) = true := by simp only [PyData.canLay0]; exact prs_lay h
  have e2 : PyData.depth (.list (ps.map dPr)) ≤ 64 := by simp only [PyData.depth]; omega
  rw [e1, decide_eq_true e2]; rfl
theorem tNil_ {σ : L2.St} {H : Hp} {Q : List V → Hp → Prop} (h : Q [] H) : tNil σ H Q := h
/-- places.index(q) -/
theorem ix_pr {K : PySem.W.Frag} {H : Hp} {a : Addr} {y : V} {ps : List Pr} {q : Pr} {j : Nat} {Q : VK} (h : Dp K H (.ref a) (.list (ps.map dPr))) (hy : Dp K H y (dPr q)) (nd : ps.Nodup) (ok : ∀ p ∈ ps, prOk p) (hj : ps[j]? = some q) (k : Q (.int j) H) :
    rIndexD K (.ref a) [y] H Q := by
  refine ⟨a, y, dPr q, ps.map dPr, j, dPr q, rfl, rfl, h, hy, prs_shaped ok, pr_shaped (ok q (List.mem_of_getElem? hj)), by rw [List.getElem?_map, hj]; rfl, by rw [eqv_pr]; exact decide_eq_true rfl, fun m z hm hz => ?_, k⟩
  obtain ⟨p, hp, rfl⟩ := map_get hz
  rw [eqv_pr]
  refine decide_eq_false fun e => ?_
  subst e
  have := nd_ix nd hp hj
  omega
theorem ix_of {ps : List Pr} {q : Pr} (h : q ∈ ps) : ∃ j : Nat, ps[j]? = some q ∧ j < ps.length := by
  obtain ⟨j, hj, e⟩ := List.getElem_of_mem h
  exact ⟨j, by rw [List.getElem?_eq_getElem hj, e], hj⟩
theorem cnt_snoc {ps ns : List Pr} {q : Pr} {j : Nat} (nd : ps.Nodup) (hj : ps[j]? = some q) : cnt ps (ns ++ [q]) = (cnt ps ns).set j ((cnt ps ns).getD j 0 + 1) := by
  have hlt := get_lt hj
  apply List.ext_getElem?
  intro i
  unfold cnt
  rw [List.getElem?_map]
  by_cases hi : i = j
  · subst hi
    rw [List.getElem?_set_self (by rw [List.length_map]; exact hlt), hj, List.getD_eq_getElem?_getD, List.getElem?_map, hj]
    simp [List.count_append]
  · rw [List.getElem?_set_ne (Ne.symm hi), List.getElem?_map]
    cases e : ps[i]? with
    | none => rfl
    | some p =>
      have : p ≠ q := fun z => hi (nd_ix nd e (z ▸ hj))
      simp [List.count_append, List.count_singleton, this.symm]
def spCounted (K : PySem.W.Frag) : Sp := fun vs H Q _ => ∃ (x y : V) (ps ns : List Pr), vs = [x, y] ∧ Dp K H x (.list (ps.map dPr)) ∧ Sq K H y (ns.map dPr) ∧ ps.Nodup ∧ (∀ p ∈ ps, prOk p) ∧ ps.length ≤ 100 ∧ (∀ n ∈ ns, n ∈ ps) ∧
  ∀ p H', Same H H' → H p = none → H' p = some (.tup ((cnt ps ns).map V.int)) → Q (.ref p) H'
section
variable {P : Program} {w : World} {K : PySem.W.Frag} {mg : Str → Option Value} {base : Heap}
theorem rep_zero (n : Nat) : (List.replicate n [V.int 0]).flatten = (List.replicate n (0 : Int)).map V.int := by
  induction n with
  | zero => rfl
  | succ n ih => rw [List.replicate_succ, List.flatten_cons, ih]; rfl
theorem cnt_nil (ps : List Pr) : cnt ps [] = List.replicate ps.length 0 := by
  unfold cnt
  induction ps with
  | nil => rfl
  | cons p r ih => rw [List.map_cons, ih]; rfl
theorem c_counted (T : Txt K mg) : Cal P w K mg base 1 "counted" (spCounted K) := by
  refine T.f_counted.cal sc_counted (fun _ _ _ _ _ _ us hl => match us, hl with | [_, _], _ => rfl) (fun vs H Q E h => ?_) (fun f cdv A outer s H vs Q E hr h => ?_)
  · obtain ⟨x, y, ps, ns, rfl, _⟩ := h
    rfl
  · obtain ⟨x, y, ps, ns, rfl, hx, hy, nd, pok, h100, hin, q⟩ := h
    obtain ⟨a, xs, rfl, ha, hxs⟩ := Dp.lstI hx
    have ln := DpAll.mapLen hxs
    have hu65 := hu65_of hr
    have hs := sizeLine_eq
    refine ⟨_, (pss_cons (ps_set (i := 2) sc_counted.nd rfl (Or.inl rfl) (pe_op op_rep (pe_lst (pa_cons pe_int pa_nil)) (pe_callB call_len_seq (by rfl) T.b_len PyB.boot_len (pa_cons (pv 0) pa_nil))))
  (pss_cons (ps_for PassesOwn.never rfl (pi_seq (pv 1)) (pg_name (i := 3) sc_counted.nd rfl (Or.inl rfl)) (pss_one (ps_augS (pv 2) (pe_bm PySem.F.plainAttrs_list PySem.F.slot_list_index PySem.F.type_list_index (mt_indexD hu65) (pv 0) (pa_cons (pv 3) pa_nil)) get_list pe_int ip_add set_list)))
  (pss_one (ps_ret (pe_callTy call_tuple_of (by rfl) T.b_tuple PyB.boot_tuple (pa_cons (pv 2) pa_nil)))))), ?_⟩
    refine ⟨by decide, fun t ht => ⟨_, rfl, a, _, rfl, .inl ((Same.upd ht).seq ha), t, _, _, rfl, rfl, upd_same, by omega, by omega, by simp; omega, fun l hl => ?_⟩⟩
    have e0 : (List.replicate ((xs.length : Int)).toNat [V.int 0]).flatten = (cnt ps []).map V.int := by rw [Int.toNat_natCast, rep_zero, ln, cnt_nil]
    have s0 : Same H (upd H t (.lst [.int 0])) := Same.upd ht
    generalize upd H t (.lst [.int 0]) = H1 at *
    refine for_dsM (i := 1) (K := K) (l := ns) (enc := dPr) (v := y) hy (s0.trans (Same.upd hl)) rfl (fun i σ H' => ∃ v, σ = [some (.ref a), some y, some (.ref l), v] ∧ H' = upd H1 l (.lst ((cnt ps (ns.take i)).map V.int))) ⟨none, rfl, by rw [e0]; rfl⟩ (fun i σ H' _ ⟨_, _, e⟩ => by rw [e]; exact s0.trans (Same.upd hl)) ?_ ?_
    · rintro k z n σ H2 hn dz ⟨v, rfl, rfl⟩
      obtain ⟨j, hj, hjl⟩ := ix_of (hin n (List.mem_of_getElem? hn))
      have s2 : Same H (upd H1 l (.lst ((cnt ps (ns.take k)).map V.int))) := s0.trans (Same.upd hl)
      have cl : (cnt ps (ns.take k)).length = ps.length := List.length_map ..
      refine ⟨_, rfl, _, rfl, .inl ⟨rfl, _, s2.seq ha⟩, _, rfl, ?_⟩
      refine tNil_ (ix_pr (K := K) (j := j) (Dp.same s2 hx) dz nd pok hj ?_)
      refine ⟨l, _, j, _, rfl, rfl, SqL.of upd_same, getD_int (by omega), ?_⟩
      refine ⟨_, _, rfl, rfl, l, _, _, j, rfl, rfl, upd_same, ixN_nat (by rw [List.length_map]; omega), ?_⟩
      refine ⟨_, rfl, ?_⟩
      rw [upd_upd, map_set_int, take_snoc hn, cnt_snoc nd hj]
    · rintro σ H2 ⟨v, rfl, rfl⟩
      rw [List.take_length]
      refine ⟨_, rfl, l, _, rfl, .inl ⟨SqL.of upd_same, fun p hp => ?_⟩⟩
      have s2 : Same H (upd H1 l (.lst ((cnt ps ns).map V.int))) := s0.trans (Same.upd hl)
      exact q p _ (s2.trans (Same.upd hp)) (s2.free hp) upd_same
end
end C62
set_option Elab.async false
set_option linter.all false
set_option maxRecDepth 100000
set_option maxHeartbeats 4000000
namespace C62
open PySem PySem.Spec PyProof.Rows L2
open He (ga ma)
theorem fm_if {α β : Type} (f : α → β) (c : α → Bool) (l : List α) : l.filterMap (fun x => if c x = true then some (f x) else none) = (l.filter c).map f := by
  induction l with
  | nil => rfl
  | cons a r ih =>
    cases h : c a with
    | true => rw [List.filterMap_cons, List.filter_cons_of_pos h, List.map_cons, ← ih]; simp [h]
    | false => rw [List.filterMap_cons, List.filter_cons_of_neg (by rw [h]; exact Bool.false_ne_true), ← ih]; simp [h]
theorem Grown.mono {K : PySem.W.Frag} {H H' H2 : Hp} {l : Addr} {ds : List PyData} (h : Grown K H l ds H') (s : Same H' H2) : Grown K H l ds H2 := by
  obtain ⟨s0, acc, q1, q2, q3⟩ := h
  exact ⟨s0.trans s, acc, s _ _ q1, q2, DpAll.same (Same.delDel s) q3⟩
theorem lenF {α β γ : Type} {l : List α} {c : α → Bool} {f : α → β} {g : β → γ} {n : Nat} (h : l.length ≤ n) : (((l.filter c).map f).map g).length ≤ n := by
  rw [List.length_map, List.length_map]; exact Nat.le_trans (List.length_filter_le _ _) h
theorem lenG {α γ : Type} {l : List α} {c : α → Bool} {g : α → γ} {n : Nat} (h : l.length ≤ n) : ((l.filter c).map g).length ≤ n := by
  rw [List.length_map]; exact Nat.le_trans (List.length_filter_le _ _) h
theorem lenM {α β γ : Type} {l : List α} {f : α → β} {g : β → γ} {n : Nat} (h : l.length ≤ n) : ((l.map f).map g).length ≤ n := by
  rw [List.length_map, List.length_map]; exact h
section
variable {P : Program} {w : World} {K : PySem.W.Frag} {mg : Str → Option Value} {base : Heap}
theorem c_taken_names (T : Txt K mg) : Cal P w K mg base 1 "taken_names" (spTaken K) := by
  refine T.f_taken_names.cal sc_taken_names (fun _ _ _ _ _ _ us hl => match us, hl with | [_], _ => rfl) (fun vs H Q E h => ?_) (fun f cdv A outer s H vs Q E hr h => ?_)
  · obtain ⟨x, r, rfl, _⟩ := h
    rfl
  · obtain ⟨x, r, rfl, ⟨p, dx, fs, rfl, hp, F⟩, l1, l2, q⟩ := h
    obtain ⟨u1, f1, d1⟩ := F.actors
    obtain ⟨u2, f2, d2⟩ := F.conds
    have C := T.k_Rule.cl
    refine ⟨_, (pss_one (ps_ret (pe_op op_cat (pe_lc (own := [("first", 1), ("_", 2)]) (g := gTup K 2 (gCons (gName 1) (gCons (gName 2) (gNil)))) rfl sc_taken_names.nd (pi_tup (pe_fld (pv 0) rfl)) (blkOk_by (own := [("first", 1), ("_", 2)]) (N := nm_taken_names) (sc := defScope s_taken_names) (by decide +kernel)) (fun _ _ _ _ _ => (pg_tup rfl (pgs_cons (pg_name (i := 1) sc_taken_names.nd rfl (Or.inl rfl)) (pgs_cons (pg_name (i := 2) sc_taken_names.nd rfl (Or.inl rfl)) pgs_nil)))) (fun _ _ _ _ _ => pts_nil) (fun _ _ _ _ _ => (pe_tup (pa_cons pe_str (pa_cons (pv 1) pa_nil))))) (pe_callTy call_list_of (by rfl) T.b_list PyB.boot_list (pa_cons (pe_fld (pv 0) rfl) pa_nil))))), ?_⟩
    refine ⟨_, rfl, p, _, dx, fs, _, rfl, hp, C, T.k_Rule.na _ (by simp), f1, lc_dtG (K := K) (vs := [1, 2]) d1 (by omega) (fun a => some (dPr (("" : Str), a.1))) ?_ ?_⟩
    · intro D hD i z a hs dz Hi R N s2 nD hR _
      obtain ⟨b, rfl, hb⟩ := Dp.prI dz
      refine ⟨b, _, rfl, Same.sqT s2 hb, rfl, _, _, rfl, _, _, rfl, rfl, rfl, ?_⟩
      refine yesT ?_
      exact ⟨_, rfl, by show 2 ≤ sizeLine; decide, fun t ht => hR _ _ _ rfl (Same.upd ht) (prNew nD ht)⟩
    intro D H1 G1 hD
    rw [fm_map, map_map' (fun (a : Pr) => (("" : Str), a.1)) dPr] at G1
    obtain ⟨c, ys, rfl, hc, hys⟩ := Dp.tupI d2
    have ln := DpAll.mapLen hys
    obtain ⟨s1, acc, hacc, lacc, dacc⟩ := G1
    rw [List.length_map, List.length_map] at lacc
    refine ⟨_, rfl, p, _, dx, fs, _, rfl, s1 _ _ hp, C, T.k_Rule.na _ (by simp), f2, c, _, rfl, .inr (Same.sqT s1 hc), fun l hl => ?_⟩
    have s2 : Same H1 (upd H1 l (.lst ys)) := Same.upd hl
    refine ⟨D, l, acc, ys, rfl, rfl, s2 _ _ hacc, upd_same, Nat.le_of_lt (small1000 (by omega)), fun p' hp' => ?_⟩
    have s3 : Same (upd H1 l (.lst ys)) (upd (upd H1 l (.lst ys)) p' (.lst (acc ++ ys))) := Same.upd hp'
    refine q p' _ (s1.trans (s2.trans s3)) ((s1.trans s2).free hp') (.lst (SqL.of upd_same) ?_)
    unfold takenN
    rw [List.map_append]
    exact DpAll.app (DpAll.same (Same.ofDel.trans (s2.trans s3)) dacc) (DpAll.same (s1.trans (s2.trans s3)) hys)
theorem c_given_names (T : Txt K mg) : Cal P w K mg base 1 "given_names" (spGiven K) := by
  refine T.f_given_names.cal sc_given_names (fun _ _ _ _ _ _ us hl => match us, hl with | [_], _ => rfl) (fun vs H Q E h => ?_) (fun f cdv A outer s H vs Q E hr h => ?_)
  · obtain ⟨x, r, rfl, _⟩ := h
    rfl
  · obtain ⟨x, r, rfl, ⟨p, dx, fs, rfl, hp, F⟩, l1, l2, l3, l4, q⟩ := h
    obtain ⟨u1, f1, d1⟩ := F.actors
    obtain ⟨u2, f2, d2⟩ := F.conds
    obtain ⟨u3, f3, d3⟩ := F.born
    obtain ⟨u4, f4, d4⟩ := F.effs
    have C := T.k_Rule.cl
    refine ⟨_, (pss_cons (ps_setLc (i := 1) (own := [("_", 4), ("second", 5)]) (g := gTup K 2 (gCons (gName 4) (gCons (gName 5) (gNil)))) rfl sc_given_names.nd rfl rfl (sw_true rfl rfl rfl (by decide +kernel)) (pi_tup (pe_fld (pv 0) rfl)) (blkOk_by (own := [("_", 4), ("second", 5)]) (N := nm_given_names) (sc := defScope s_given_names) (by decide +kernel)) (fun _ _ _ _ _ => (pg_tup rfl (pgs_cons (pg_name (i := 4) sc_given_names.nd rfl (Or.inl rfl)) (pgs_cons (pg_name (i := 5) sc_given_names.nd rfl (Or.inl rfl)) pgs_nil)))) (fun _ _ _ _ _ => pts_one (pt_cmpR op_ne (pv 5) (pe_gc rfl T.g_GONE) (nomark _))) (fun _ _ _ _ _ => (pe_tup (pa_cons pe_str (pa_cons (pv 5) pa_nil)))))
  (pss_cons (ps_expr (pe_bm PySem.F.plainAttrs_list PySem.F.slot_list_extend PySem.F.type_list_extend mt_extend (pv 1) (pa_cons (pe_lc (own := [("state", 7)]) (g := gName 7) rfl sc_given_names.nd (pi_tup (pe_fld (pv 0) rfl)) (blkOk_by (own := [("state", 7)]) (N := nm_given_names) (sc := defScope s_given_names) (by decide +kernel)) (fun _ _ _ _ _ => (pg_name (i := 7) sc_given_names.nd rfl (Or.inl rfl))) (fun _ _ _ _ _ => pts_nil) (fun _ _ _ _ _ => (pe_tup (pa_cons pe_str (pa_cons (pv 7) pa_nil))))) pa_nil)))
  (pss_cons (ps_set (i := 2) sc_given_names.nd rfl (Or.inr rfl) (pe_lc (own := [("name", 6), ("_", 4)]) (g := gTup K 2 (gCons (gName 6) (gCons (gName 4) (gNil)))) rfl sc_given_names.nd (pi_tup (pe_fld (pv 0) rfl)) (blkOk_by (own := [("name", 6), ("_", 4)]) (N := nm_given_names) (sc := defScope s_given_names) (by decide +kernel)) (fun _ _ _ _ _ => (pg_tup rfl (pgs_cons (pg_name (i := 6) sc_given_names.nd rfl (Or.inl rfl)) (pgs_cons (pg_name (i := 4) sc_given_names.nd rfl (Or.inl rfl)) pgs_nil)))) (fun _ _ _ _ _ => pts_nil) (fun _ _ _ _ _ => (pv 6))))
  (pss_cons (ps_set (i := 3) sc_given_names.nd rfl (Or.inr rfl) (pe_lc (own := [("name", 6), ("_", 4)]) (g := gTup K 2 (gCons (gName 6) (gCons (gName 4) (gNil)))) rfl sc_given_names.nd (pi_tup (pe_fld (pv 0) rfl)) (blkOk_by (own := [("name", 6), ("_", 4)]) (N := nm_given_names) (sc := defScope s_given_names) (by decide +kernel)) (fun _ _ _ _ _ => (pg_tup rfl (pgs_cons (pg_name (i := 6) sc_given_names.nd rfl (Or.inl rfl)) (pgs_cons (pg_name (i := 4) sc_given_names.nd rfl (Or.inl rfl)) pgs_nil)))) (fun _ _ _ _ _ => pts_nil) (fun _ _ _ _ _ => (pv 6))))
  (pss_cons (ps_expr (pe_bm PySem.F.plainAttrs_list PySem.F.slot_list_extend PySem.F.type_list_extend mt_extend (pv 1) (pa_cons (pe_lc (own := [("pair", 8)]) (g := gName 8) rfl sc_given_names.nd (pi_tup (pe_fld (pv 0) rfl)) (blkOk_by (own := [("pair", 8)]) (N := nm_given_names) (sc := defScope s_given_names) (by decide +kernel)) (fun _ _ _ _ _ => (pg_name (i := 8) sc_given_names.nd rfl (Or.inl rfl))) (fun _ _ _ _ _ => pts_one (pt_cmpR (op_notIn_seqK K) (pe_ix (ix_tupK K) (pv 8) pe_int (fun _ _ => rfl)) (pv 2) rfl)) (fun _ _ _ _ _ => (pv 8))) pa_nil)))
  (pss_cons (ps_expr (pe_bm PySem.F.plainAttrs_list PySem.F.slot_list_extend PySem.F.type_list_extend mt_extend (pv 1) (pa_cons (pe_lc (own := [("pair", 8)]) (g := gName 8) rfl sc_given_names.nd (pi_tup (pe_fld (pv 0) rfl)) (blkOk_by (own := [("pair", 8)]) (N := nm_given_names) (sc := defScope s_given_names) (by decide +kernel)) (fun _ _ _ _ _ => (pg_name (i := 8) sc_given_names.nd rfl (Or.inl rfl))) (fun _ _ _ _ _ => pts_one (pt_cmpR (op_in_seqK K) (pe_ix (ix_tupK K) (pv 8) pe_int (fun _ _ => rfl)) (pv 3) rfl)) (fun _ _ _ _ _ => (pv 8))) pa_nil)))
  (pss_one (ps_ret (pv 1))))))))), ?_⟩
    refine ⟨_, rfl, p, _, dx, fs, _, rfl, hp, C, T.k_Rule.na _ (by simp), f1, lc_dtG (K := K) (vs := [4, 5]) d1 (by omega) (fun a => if (!decide (a.2 = ("gone" : Str))) = true then some (dPr (("" : Str), a.2)) else none) ?_ ?_⟩
    · intro D hD i z a hs dz Hi R N s2 nD hR hN
      obtain ⟨b, rfl, hb⟩ := Dp.prI dz
      refine ⟨b, _, rfl, Same.sqT s2 hb, rfl, _, _, rfl, _, _, rfl, rfl, rfl, ?_⟩
      refine ⟨_, rfl, rfl, _, rfl, ?_⟩
      by_cases hg : a.2 = ("gone" : Str)
      · exact ifF (by rw [hg]; rfl) (hN _ (if_neg (by rw [hg]; decide)) (Same.refl _))
      · refine ifT (by rw [dec_str, decide_eq_false hg]; rfl) ?_
        exact ⟨_, rfl, by show 2 ≤ sizeLine; decide, fun t ht => hR _ _ _ (if_pos (by rw [decide_eq_false hg]; rfl)) (Same.upd ht) (prNew nD ht)⟩
    intro l H1 G1 hl
    rw [fm_if (fun (a : Pr) => dPr (("" : Str), a.2)) (fun a => !decide (a.2 = ("gone" : Str))), map_map' (fun (a : Pr) => (("" : Str), a.2)) dPr] at G1
    have hp1 := G1.1 _ _ hp
    have hlen1 : (r.actors.filter fun a => !decide (a.2 = ("gone" : Str))).length ≤ 60 := Nat.le_trans (List.length_filter_le _ _) l1
    obtain ⟨acc, hacc, _⟩ := id G1.2
    -- born
    refine ⟨_, rfl, .inl ⟨rfl, _, SqL.of hacc⟩, _, rfl, p, _, dx, fs, _, rfl, hp1, C, T.k_Rule.na _ (by simp), f3, lc_dtG (K := K) (vs := [7]) (Dp.same G1.1 d3) (by omega) (fun s => some (dPr (("" : Str), s))) ?_ ?_⟩
    · intro D hD i z s hs dz Hi R N s2 nD hR _
      obtain rfl := Dp.strI dz
      refine ⟨rfl, ?_⟩
      refine yesT ?_
      exact ⟨_, rfl, by show 2 ≤ sizeLine; decide, fun t ht => hR _ _ _ rfl (Same.upd ht) (prNew nD ht)⟩
    intro D H2 G2 hD
    rw [fm_map, map_map' (fun s => (("" : Str), s)) dPr] at G2
    obtain ⟨acc', ys, q1, q2, q3, G3⟩ := G1.ext2 hl G2 (noLs_map _ noL_pr _) (Nat.le_trans (Nat.add_le_add (lenF l1) (lenM l3)) (by decide))
    refine ⟨l, D, acc', ys, rfl, rfl, q1, q2, q3, ?_⟩
    rw [← List.map_append] at G3
    generalize upd H2 l (.lst (acc' ++ ys)) = H3 at *
    have hp3 := G3.1 _ _ hp
    have n1 : ((r.actors.filter fun p => !decide (p.2 = ("gone" : Str))).map (fun p => (("" : Str), p.2)) ++ r.born.map (fun s => (("" : Str), s))).length ≤ 120 := by
      rw [List.length_append, List.length_map, List.length_map]
      exact Nat.le_trans (Nat.add_le_add (Nat.le_trans (List.length_filter_le _ _) l1) l3) (by decide)
    have hfin : givenN r = ((r.actors.filter fun p => !decide (p.2 = ("gone" : Str))).map (fun p => (("" : Str), p.2)) ++ r.born.map (fun s => (("" : Str), s))) ++ r.conds.filter (fun p => !decide (p.1 ∈ r.effs.map (·.1))) ++ r.effs.filter (fun p => decide (p.1 ∈ r.conds.map (·.1))) := rfl
    generalize (r.actors.filter fun p => !decide (p.2 = ("gone" : Str))).map (fun p => (("" : Str), p.2)) ++ r.born.map (fun s => (("" : Str), s)) = base0 at *
    -- changed
    refine ⟨_, rfl, p, _, dx, fs, _, rfl, hp3, C, T.k_Rule.na _ (by simp), f4, lc_dtG (K := K) (vs := [6, 4]) (Dp.same G3.1 d4) (by omega) (fun a => some (.str a.1)) ?_ ?_⟩
    · intro D hD i z a hs dz Hi R N s2 nD hR _
      obtain ⟨b, rfl, hb⟩ := Dp.prI dz
      refine ⟨b, _, rfl, Same.sqT s2 hb, rfl, _, _, rfl, _, _, rfl, rfl, rfl, ?_⟩
      refine yesT ?_
      exact ⟨_, rfl, hR _ _ _ rfl (Same.refl _) (.str _)⟩
    intro Dc H4 G4 hDc
    rw [fm_map, map_map' (fun (a : Pr) => a.1) PyData.str] at G4
    have dch := G4.fin
    have s34 := G4.1
    obtain ⟨_, ec, hch⟩ := Dp.strsI dch
    cases ec
    -- tested
    refine ⟨_, rfl, p, _, dx, fs, _, rfl, s34 _ _ hp3, C, T.k_Rule.na _ (by simp), f2, lc_dtG (K := K) (vs := [6, 4]) (Dp.same (G3.1.trans s34) d2) (by omega) (fun a => some (.str a.1)) ?_ ?_⟩
    · intro D hD i z a hs dz Hi R N s2 nD hR _
      obtain ⟨b, rfl, hb⟩ := Dp.prI dz
      refine ⟨b, _, rfl, Same.sqT s2 hb, rfl, _, _, rfl, _, _, rfl, rfl, rfl, ?_⟩
      refine yesT ?_
      exact ⟨_, rfl, hR _ _ _ rfl (Same.refl _) (.str _)⟩
    intro Dt H5 G5 hDt
    rw [fm_map, map_map' (fun (a : Pr) => a.1) PyData.str] at G5
    have s45 := G5.1
    have dts := G5.fin
    obtain ⟨_, et, hts⟩ := Dp.strsI dts
    cases et
    have hch5 := s45.seq hch
    have ht5 : H5 Dt = some (.lst ((r.conds.map (·.1)).map V.str)) := by
      obtain ⟨_, at_, h1, _, h3⟩ := G5
      rw [DpAll.strs h3] at h1
      exact h1
    have s35 := s34.trans s45
    have hp5 := s35 _ _ hp3
    have G6 := G3.mono s35
    obtain ⟨acc6, hacc6, _⟩ := id G6.2
    have n2 : (r.conds.filter (fun p => !decide (p.1 ∈ r.effs.map (·.1)))).length ≤ 60 := Nat.le_trans (List.length_filter_le _ _) l2
    -- conditions not changed
    refine ⟨_, rfl, .inl ⟨rfl, _, SqL.of hacc6⟩, _, rfl, p, _, dx, fs, _, rfl, hp5, C, T.k_Rule.na _ (by simp), f2, lc_dtG (K := K) (vs := [8]) (Dp.same G6.1 d2) (by omega) (fun a => if (!decide (a.1 ∈ r.effs.map (·.1))) = true then some (dPr a) else none) ?_ ?_⟩
    · intro D hD i z a hs dz Hi R N s2 nD hR hN
      obtain ⟨b, rfl, hb⟩ := Dp.prI dz
      refine ⟨rfl, ?_⟩
      refine ⟨_, rfl, b, _, (0 : Int), _, rfl, rfl, Same.sqT s2 hb, at_of (z := (0 : Int)) (j := 0) rfl rfl, _, rfl, Dc, _, rfl, .inl (s2.seq hch5), rfl, flat_strs _, _, rfl, ?_⟩
      by_cases hg : a.1 ∈ r.effs.map (·.1)
      · exact ifF (by show (!inV _ _) = false; rw [inV_str, decide_eq_true hg]; rfl) (hN _ (if_neg (by rw [decide_eq_true hg]; decide)) (Same.refl _))
      · refine ifT (by show (!inV _ _) = true; rw [inV_str, decide_eq_false hg]; rfl) ?_
        exact ⟨_, rfl, hR _ _ _ (if_pos (by rw [decide_eq_false hg]; rfl)) (Same.refl _) (Dp.same (Same.del hD s2) dz)⟩
    intro D H7 G7 hD
    rw [fm_if (fun (a : Pr) => dPr a) (fun a => !decide (a.1 ∈ r.effs.map (·.1)))] at G7
    obtain ⟨acc7, ys7, q1, q2, q3, G8⟩ := G6.ext2 hl G7 (noLs_map _ noL_pr _) (Nat.le_trans (Nat.add_le_add (by rw [List.length_map]; exact n1) (lenG l2)) (by decide))
    refine ⟨l, D, acc7, ys7, rfl, rfl, q1, q2, q3, ?_⟩
    rw [← List.map_append] at G8
    have s57 : But l H5 (upd H7 l (.lst (acc7 ++ ys7))) := fun b o e n => by rw [upd_ne n]; exact G7.1 _ _ e
    have tl : Dt ≠ l := fun e => by
      obtain ⟨_, _, z, _⟩ := G3.mono s34
      rw [← e, hDt] at z
      cases z
    have hts8 : (upd H7 l (.lst (acc7 ++ ys7))) Dt = some (.lst ((r.conds.map (·.1)).map V.str)) := s57 _ _ ht5 tl
    generalize upd H7 l (.lst (acc7 ++ ys7)) = H8 at *
    have hp8 := G8.1 _ _ hp
    have n3 : (base0 ++ r.conds.filter (fun p => !decide (p.1 ∈ r.effs.map (·.1)))).length ≤ 180 := by
      rw [List.length_append]
      exact Nat.le_trans (Nat.add_le_add n1 n2) (by decide)
    generalize base0 ++ r.conds.filter (fun p => !decide (p.1 ∈ r.effs.map (·.1))) = base1 at *
    obtain ⟨acc8, hacc8, _⟩ := id G8.2
    -- effects that are tested
    refine ⟨_, rfl, .inl ⟨rfl, _, SqL.of hacc8⟩, _, rfl, p, _, dx, fs, _, rfl, hp8, C, T.k_Rule.na _ (by simp), f4, lc_dtG (K := K) (vs := [8]) (Dp.same G8.1 d4) (by omega) (fun a => if decide (a.1 ∈ r.conds.map (·.1)) = true then some (dPr a) else none) ?_ ?_⟩
    · intro D hD i z a hs dz Hi R N s2 nD hR hN
      obtain ⟨b, rfl, hb⟩ := Dp.prI dz
      refine ⟨rfl, ?_⟩
      refine ⟨_, rfl, b, _, (0 : Int), _, rfl, rfl, Same.sqT s2 hb, at_of (z := (0 : Int)) (j := 0) rfl rfl, _, rfl, Dt, _, rfl, .inl (SqL.of (s2 _ _ hts8)), rfl, flat_strs _, _, rfl, ?_⟩
      by_cases hg : a.1 ∈ r.conds.map (·.1)
      · refine ifT (by show inV _ _ = true; rw [inV_str, decide_eq_true hg]) ?_
        exact ⟨_, rfl, hR _ _ _ (if_pos (by rw [decide_eq_true hg])) (Same.refl _) (Dp.same (Same.del hD s2) dz)⟩
      · exact ifF (by show inV _ _ = false; rw [inV_str, decide_eq_false hg]) (hN _ (if_neg (by rw [decide_eq_false hg]; decide)) (Same.refl _))
    intro D' H9 G9 hD'
    rw [fm_if (fun (a : Pr) => dPr a) (fun a => decide (a.1 ∈ r.conds.map (·.1)))] at G9
    obtain ⟨acc9, ys9, q1', q2', q3', G10⟩ := G8.ext2 hl G9 (noLs_map _ noL_pr _) (Nat.le_trans (Nat.add_le_add (by rw [List.length_map]; exact n3) (lenG l4)) (by decide))
    refine ⟨l, D', acc9, ys9, rfl, rfl, q1', q2', q3', ?_⟩
    rw [← List.map_append] at G10
    refine ⟨_, rfl, q _ _ G10.1 hl ?_⟩
    rw [hfin]
    exact G10.fin
end
end C62
set_option Elab.async false
set_option linter.all false
set_option maxRecDepth 100000
set_option maxHeartbeats 4000000
namespace C62
open PySem PySem.Spec PyProof.Rows L2
open He (ga ma)
/-! ### where the tokens go -/
def ids (n : Nat) : List Int := (List.range n).map fun (i : Nat) => (i : Int)
def evStep (ps : List Pr) (f : List Int) (q : Pr) : List Int := f.set (ps.idxOf (("" : Str), q.1)) (if q.2 = ("gone" : Str) then -1 else (ps.idxOf (("" : Str), q.2) : Int))
def efStep1 (ps : List Pr) (q : Pr) (f : List Int) (k : Nat) : List Int := if (ps.getD k ("", "")).1 = q.1 then f.set k (ps.idxOf q : Int) else f
def efStep (ps : List Pr) (ts : List Str) (f : List Int) (q : Pr) : List Int := if q.1 ∈ ts then f else (List.range ps.length).foldl (efStep1 ps q) f
def movesM (ps : List Pr) (r : RuleD) : List Int := r.effs.foldl (efStep ps (r.conds.map (·.1))) (r.everyone.foldl (evStep ps) (ids ps.length))
theorem evStep_len {ps : List Pr} {f : List Int} {q : Pr} : (evStep ps f q).length = f.length := List.length_set
theorem ev_len {ps : List Pr} : ∀ (l : List Pr) (f : List Int), (l.foldl (evStep ps) f).length = f.length
  | [], _ => rfl
  | q :: l, f => by rw [List.foldl_cons, ev_len l, evStep_len]
theorem efStep1_len {ps : List Pr} {f : List Int} {q : Pr} {k : Nat} : (efStep1 ps q f k).length = f.length := by
  unfold efStep1; split
  · exact List.length_set
  · rfl
theorem ef1_len {ps : List Pr} {q : Pr} : ∀ (l : List Nat) (f : List Int), (l.foldl (efStep1 ps q) f).length = f.length
  | [], _ => rfl
  | k :: l, f => by rw [List.foldl_cons, ef1_len l, efStep1_len]
theorem efStep_len {ps : List Pr} {ts : List Str} {f : List Int} {q : Pr} : (efStep ps ts f q).length = f.length := by
  unfold efStep; split
  · rfl
  · exact ef1_len _ _
theorem ef_len {ps : List Pr} {ts : List Str} : ∀ (l : List Pr) (f : List Int), (l.foldl (efStep ps ts) f).length = f.length
  | [], _ => rfl
  | q :: l, f => by rw [List.foldl_cons, ef_len l, efStep_len]
theorem ids_len (n : Nat) : (ids n).length = n := by unfold ids; rw [List.length_map, List.length_range]
theorem rg_ids (n : Nat) : rgV 0 (n : Int) = (ids n).map V.int := by
  unfold rgV ids
  rw [List.map_map, Int.sub_zero, Int.toNat_natCast]
  exact List.map_congr_left fun i _ => congrArg V.int (Int.zero_add _)
theorem fold_snoc {α β : Type} {f : β → α → β} {b : β} {l : List α} {i : Nat} {x : α} (h : l[i]? = some x) : (l.take (i + 1)).foldl f b = f ((l.take i).foldl f b) x := by
  rw [take_snoc h, List.foldl_append]; rfl
theorem idx_of {ps : List Pr} {q : Pr} (nd : ps.Nodup) (h : q ∈ ps) : ps[ps.idxOf q]? = some q ∧ ps.idxOf q < ps.length := by
  have := List.idxOf_lt_length_of_mem h
  exact ⟨by rw [List.getElem?_eq_getElem this, List.getElem_idxOf], this⟩
def spMovesOf (K : PySem.W.Frag) : Sp := fun vs H Q _ => ∃ (x y : V) (ps : List Pr) (r : RuleD), vs = [x, y] ∧ Dp K H x (.list (ps.map dPr)) ∧ RuleAt K H y r ∧ ps.Nodup ∧ (∀ p ∈ ps, prOk p) ∧ ps.length ≤ 12 ∧
  (∀ p ∈ r.everyone, (("" : Str), p.1) ∈ ps ∧ (p.2 ≠ ("gone" : Str) → (("" : Str), p.2) ∈ ps)) ∧ r.everyone.length ≤ 60 ∧ r.effs.length ≤ 60 ∧ r.conds.length ≤ 60 ∧ (∀ p ∈ r.effs, p ∈ ps) ∧
  ∀ p H', Same H H' → H p = none → H' p = some (.tup ((movesM ps r).map V.int)) → Q (.ref p) H'
theorem Same.put {H H3 : Hp} {l : Addr} {o : HO} (hl : H l = none) (s : Same H H3) : Same H (L2.upd H3 l o) := fun b u e => by
  rw [upd_ne (ne_of_none e hl)]; exact s _ _ e
/-- a new pair, and its place -/
theorem ix_new {K : PySem.W.Frag} {H0 H : Hp} {a : Addr} {ps : List Pr} {x y : Str} {Q : VK} (s : Same H0 H) (h : Dp K H0 (.ref a) (.list (ps.map dPr))) (nd : ps.Nodup) (ok : ∀ p ∈ ps, prOk p) (hm : (x, y) ∈ ps)
    (k : ∀ H', Same H H' → Q (.int (ps.idxOf (x, y))) H') : ∀ t, H t = none → rIndexD K (.ref a) [.ref t] (upd H t (.tup [.str x, .str y])) Q := fun t ht =>
  have s1 := Same.upd (o := .tup [.str x, .str y]) ht
  ix_pr (q := (x, y)) (Dp.same (s.trans s1) h) (.tup (SqT.of upd_same) (.cons (.str _) (.cons (.str _) .nil))) nd ok (idx_of nd hm).1 (k _ s1)
section
variable {P : Program} {w : World} {K : PySem.W.Frag} {mg : Str → Option Value} {base : Heap}
theorem c_moves_of (T : Txt K mg) : Cal P w K mg base 1 "moves_of" (spMovesOf K) := by
  refine T.f_moves_of.cal sc_moves_of (fun _ _ _ _ _ _ us hl => match us, hl with | [_, _], _ => rfl) (fun vs H Q E h => ?_) (fun f cdv A outer s H vs Q E hr h => ?_)
  · obtain ⟨x, y, ps, r, rfl, _⟩ := h
    rfl
  · obtain ⟨x, y, ps, r, rfl, hx, ⟨p, dx, fs, rfl, hp, F⟩, nd, pok, h12, hev, l1, l2, l3, hef, q⟩ := h
    obtain ⟨u1, f1, d1⟩ := F.everyone
    obtain ⟨u2, f2, d2⟩ := F.conds
    obtain ⟨u4, f4, d4⟩ := F.effs
    have C := T.k_Rule.cl
    have hu65 := hu65_of hr
    obtain ⟨a, xs, rfl, ha, hxs⟩ := Dp.lstI hx
    have ln := DpAll.mapLen hxs
    refine ⟨_, (pss_cons (ps_set (i := 2) sc_moves_of.nd rfl (Or.inl rfl) (pe_listRg rfl (by rfl) T.b_list (prg_1 (by rfl) T.b_range (pe_callB call_len_seq (by rfl) T.b_len PyB.boot_len (pa_cons (pv 0) pa_nil)))))
  (pss_cons (ps_for PassesOwn.never rfl (pi_tup (pe_fld (pv 1) rfl)) (pg_tup rfl (pgs_cons (pg_name (i := 3) sc_moves_of.nd rfl (Or.inl rfl)) (pgs_cons (pg_name (i := 4) sc_moves_of.nd rfl (Or.inl rfl)) pgs_nil))) (pss_one (ps_if (pt_cmpR op_eq (pv 4) (pe_gc rfl T.g_GONE) (nomark _)) (pss_one (ps_asg (pe_gc rfl T.g_LOST) (pg_sub (pv 2) (pe_bm PySem.F.plainAttrs_list PySem.F.slot_list_index PySem.F.type_list_index (mt_indexD hu65) (pv 0) (pa_cons (pe_tup (pa_cons pe_str (pa_cons (pv 3) pa_nil))) pa_nil)) set_list))) (pss_one (ps_asg (pe_bm PySem.F.plainAttrs_list PySem.F.slot_list_index PySem.F.type_list_index (mt_indexD hu65) (pv 0) (pa_cons (pe_tup (pa_cons pe_str (pa_cons (pv 4) pa_nil))) pa_nil)) (pg_sub (pv 2) (pe_bm PySem.F.plainAttrs_list PySem.F.slot_list_index PySem.F.type_list_index (mt_indexD hu65) (pv 0) (pa_cons (pe_tup (pa_cons pe_str (pa_cons (pv 3) pa_nil))) pa_nil)) set_list))))))
  (pss_cons (ps_setLc (i := 5) (own := [("name", 6), ("_", 9)]) (g := gTup K 2 (gCons (gName 6) (gCons (gName 9) (gNil)))) rfl sc_moves_of.nd rfl rfl (sw_true rfl rfl rfl (by decide +kernel)) (pi_tup (pe_fld (pv 1) rfl)) (blkOk_by (own := [("name", 6), ("_", 9)]) (N := nm_moves_of) (sc := defScope s_moves_of) (by decide +kernel)) (fun _ _ _ _ _ => (pg_tup rfl (pgs_cons (pg_name (i := 6) sc_moves_of.nd rfl (Or.inl rfl)) (pgs_cons (pg_name (i := 9) sc_moves_of.nd rfl (Or.inl rfl)) pgs_nil)))) (fun _ _ _ _ _ => pts_nil) (fun _ _ _ _ _ => (pv 6)))
  (pss_cons (ps_for PassesOwn.never rfl (pi_tup (pe_fld (pv 1) rfl)) (pg_tup rfl (pgs_cons (pg_name (i := 6) sc_moves_of.nd rfl (Or.inl rfl)) (pgs_cons (pg_name (i := 7) sc_moves_of.nd rfl (Or.inl rfl)) pgs_nil))) (pss_one (ps_if (pt_cmpR op_notIn_seq (pv 6) (pv 5) rfl) (pss_one (ps_for PassesOwn.never rfl (pi_range1 rfl T.b_range (pa_cons (pe_callB call_len_seq (by rfl) T.b_len PyB.boot_len (pa_cons (pv 0) pa_nil)) pa_nil)) (pg_name (i := 8) sc_moves_of.nd rfl (Or.inl rfl)) (pss_one (ps_if (pt_cmpR op_eq (pe_ix ix_tup (pe_ix ix_list (pv 0) (pv 8) (fun _ _ => rfl)) pe_int (fun _ _ => rfl)) (pv 6) (nomark _)) (pss_one (ps_asg (pe_bm PySem.F.plainAttrs_list PySem.F.slot_list_index PySem.F.type_list_index (mt_indexD hu65) (pv 0) (pa_cons (pe_tup (pa_cons (pv 6) (pa_cons (pv 7) pa_nil))) pa_nil)) (pg_sub (pv 2) (pv 8) set_list))) pss_nil)))) pss_nil)))
  (pss_one (ps_ret (pe_callTy call_tuple_of (by rfl) T.b_tuple PyB.boot_tuple (pa_cons (pv 2) pa_nil)))))))), ?_⟩
    refine ⟨_, rfl, a, _, rfl, .inl ha, _, rfl, ?_, fun l hl => ?_⟩
    · exact RgOk.of_le (Int.le_refl _) (by omega) (by decide) (by omega)
    rw [ln, rg_ids]
    have s1 : Same H (upd H l (.lst ((ids ps.length).map V.int))) := Same.upd hl
    have hl1 : (upd H l (.lst ((ids ps.length).map V.int))) l = some (.lst ((ids ps.length).map V.int)) := upd_same
    generalize upd H l (.lst ((ids ps.length).map V.int)) = H1 at *
    refine ⟨_, rfl, p, _, dx, fs, _, rfl, s1 _ _ hp, C, T.k_Rule.na _ (by simp), f1, for_dtM (K := K) (Dp.same s1 d1) (fun i σ H' => ∃ v1 v2, σ = [some (.ref a), some (.ref p), some (.ref l), v1, v2, none, none, none, none, none] ∧
      Same H H' ∧ H' l = some (.lst (((r.everyone.take i).foldl (evStep ps) (ids ps.length)).map V.int))) ⟨none, none, rfl, s1, hl1⟩ (fun i σ H' _ ⟨_, _, _, h, _⟩ => Dp.same h d1) ?_ ?_⟩
    · rintro i z e σ H2 he dz ⟨v1, v2, rfl, s2, hl2⟩
      obtain ⟨b, rfl, hb⟩ := Dp.prI dz
      obtain ⟨m1, m2⟩ := hev e (List.mem_of_getElem? he)
      have gl : ((r.everyone.take i).foldl (evStep ps) (ids ps.length)).length = ps.length := by rw [ev_len, ids_len]
      rw [fold_snoc he]
      generalize (r.everyone.take i).foldl (evStep ps) (ids ps.length) = g at *
      refine ⟨b, _, rfl, hb, rfl, _, _, rfl, _, _, rfl, rfl, ?_⟩
      refine ⟨_, rfl, rfl, _, rfl, ?_⟩
      by_cases hg : e.2 = ("gone" : Str)
      · refine ifT (by rw [hg]; rfl) ?_
        refine ⟨_, rfl, _, rfl, .inl ⟨rfl, _, s2.seq ha⟩, _, rfl, by show 2 ≤ sizeLine; decide, fun t ht => tNil_ (ix_new (K := K) (x := ("" : Str)) (y := e.1) s2 hx nd pok m1 (fun H3 s3 => ?_) t ht)⟩
        refine ⟨l, _, _, _, rfl, rfl, s3 _ _ hl2, ixN_nat (by rw [List.length_map, gl]; exact (idx_of nd m1).2), ?_⟩
        refine ⟨_, _, rfl, ?_⟩
        rw [map_set_int]
        unfold evStep
        rw [if_pos hg]
        exact ⟨Same.put hl (s2.trans s3), upd_same⟩
      · refine ifF (by rw [dec_str, decide_eq_false hg]) ?_
        refine ⟨_, rfl, .inl ⟨rfl, _, s2.seq ha⟩, _, rfl, by show 2 ≤ sizeLine; decide, fun t ht => tNil_ (ix_new (K := K) (x := ("" : Str)) (y := e.2) s2 hx nd pok (m2 hg) (fun H3 s3 => ?_) t ht)⟩
        have s23 := s2.trans s3
        refine ⟨_, rfl, _, rfl, .inl ⟨rfl, _, s23.seq ha⟩, _, rfl, by show 2 ≤ sizeLine; decide, fun t ht => tNil_ (ix_new (K := K) (x := ("" : Str)) (y := e.1) s23 hx nd pok m1 (fun H4 s4 => ?_) t ht)⟩
        refine ⟨l, _, _, _, rfl, rfl, s4 _ _ (s3 _ _ hl2), ixN_nat (by rw [List.length_map, gl]; exact (idx_of nd m1).2), ?_⟩
        refine ⟨_, _, rfl, ?_⟩
        rw [map_set_int]
        unfold evStep
        rw [if_neg hg]
        exact ⟨Same.put hl (s23.trans s4), upd_same⟩
    rintro σ H2 ⟨v1, v2, rfl, s2, hl2⟩
    rw [List.take_length] at hl2
    have gl : (r.everyone.foldl (evStep ps) (ids ps.length)).length = ps.length := by rw [ev_len, ids_len]
    have hfin : movesM ps r = r.effs.foldl (efStep ps (r.conds.map (·.1))) (r.everyone.foldl (evStep ps) (ids ps.length)) := rfl
    generalize r.everyone.foldl (evStep ps) (ids ps.length) = g0 at *
    -- tested
    refine ⟨_, rfl, p, _, dx, fs, _, rfl, s2 _ _ hp, C, T.k_Rule.na _ (by simp), f2, lc_dtG (K := K) (vs := [6, 9]) (Dp.same s2 d2) (by omega) (fun a => some (.str a.1)) ?_ ?_⟩
    · intro D hD i z a hs dz Hi R N s3 nD hR _
      obtain ⟨b, rfl, hb⟩ := Dp.prI dz
      refine ⟨b, _, rfl, Same.sqT s3 hb, rfl, _, _, rfl, _, _, rfl, rfl, rfl, ?_⟩
      refine yesT ?_
      exact ⟨_, rfl, hR _ _ _ rfl (Same.refl _) (.str _)⟩
    intro D H3 G3 hD
    rw [fm_map, map_map' (fun (a : Pr) => a.1) PyData.str] at G3
    have s3 := G3.1
    have hl3 := s3 _ _ hl2
    have hD3 : H3 D = some (.lst ((r.conds.map (·.1)).map V.str)) := by
      obtain ⟨_, at_, h1, _, h3⟩ := G3
      rw [DpAll.strs h3] at h1
      exact h1
    have s03 := s2.trans s3
    have Dl : D ≠ l := fun e => by rw [← e, hD] at hl2; cases hl2
    refine ⟨_, rfl, p, _, dx, fs, _, rfl, s03 _ _ hp, C, T.k_Rule.na _ (by simp), f4, for_dtM (K := K) (Dp.same s03 d4) (fun i σ H' => ∃ v3 v4 v5, σ = [some (.ref a), some (.ref p), some (.ref l), v1, v2, some (.ref D), v3, v4, v5, none] ∧
      Same H H' ∧ H' D = some (.lst ((r.conds.map (·.1)).map V.str)) ∧ H' l = some (.lst (((r.effs.take i).foldl (efStep ps (r.conds.map (·.1))) g0).map V.int))) ⟨none, none, none, rfl, s03, hD3, hl3⟩ (fun i σ H' _ ⟨_, _, _, _, h, _⟩ => Dp.same h d4) ?_ ?_⟩
    · rintro i z e σ H4 he dz ⟨v3, v4, v5, rfl, s4, hD4, hl4⟩
      obtain ⟨b, rfl, hb⟩ := Dp.prI dz
      have me := hef e (List.mem_of_getElem? he)
      have gl2 : ((r.effs.take i).foldl (efStep ps (r.conds.map (·.1))) g0).length = ps.length := by rw [ef_len, gl]
      rw [fold_snoc he]
      generalize (r.effs.take i).foldl (efStep ps (r.conds.map (·.1))) g0 = g at *
      refine ⟨b, _, rfl, hb, rfl, _, _, rfl, _, _, rfl, rfl, ?_⟩
      refine ⟨_, rfl, _, rfl, D, _, rfl, .inl (SqL.of hD4), rfl, flat_strs _, _, rfl, ?_⟩
      by_cases hg : e.1 ∈ r.conds.map (·.1)
      · refine ifF (by show (!inV _ _) = false; rw [inV_str, decide_eq_true hg]; rfl) ?_
        refine ⟨_, _, _, rfl, s4, hD4, ?_⟩
        unfold efStep
        rw [if_pos hg]
        exact hl4
      · refine ifT (by show (!inV _ _) = true; rw [inV_str, decide_eq_false hg]; rfl) ?_
        unfold efStep
        rw [if_neg hg]
        refine ⟨_, rfl, a, _, rfl, .inl (s4.seq ha), _, rfl, by omega, by omega, for_range (lo := 0) (fun k σ H' => ∃ v5, σ = [some (.ref a), some (.ref p), some (.ref l), v1, v2, some (.ref D), some (.str e.1), some (.str e.2), v5, none] ∧
          Same H H' ∧ H' D = some (.lst ((r.conds.map (·.1)).map V.str)) ∧ H' l = some (.lst (((List.range k).foldl (efStep1 ps e) g).map V.int))) ⟨v5, rfl, s4, hD4, hl4⟩ ?_ ?_⟩
        · rintro k σ H5 hk ⟨v5, rfl, s5, hD5, hl5⟩
          have hk' : k < ps.length := by omega
          have gl3 : ((List.range k).foldl (efStep1 ps e) g).length = ps.length := by rw [ef1_len, gl2]
          rw [List.range_succ, List.foldl_append]
          generalize (List.range k).foldl (efStep1 ps e) g = g1 at *
          obtain ⟨zk, hzk, dzk⟩ := DpAll.getR hxs (i := k) (d := dPr ps[k]) (by rw [List.getElem?_map, List.getElem?_eq_getElem hk']; rfl)
          obtain ⟨c, rfl, hc⟩ := Dp.prI dzk
          have gd : ps.getD k ("", "") = ps[k] := by rw [List.getD_eq_getElem?_getD, List.getElem?_eq_getElem hk']; rfl
          refine ⟨_, rfl, _, rfl, a, _, _, _, rfl, rfl, s5.seq ha, at_of (j := k) (by omega) hzk, c, _, (0 : Int), _, rfl, rfl, Same.sqT s5 hc, at_of (z := (0 : Int)) (j := 0) rfl rfl, _, rfl, rfl, _, rfl, ?_⟩
          show if decide (V.str ps[k].1 = V.str e.1) = true then _ else _
          rw [dec_str]
          by_cases hn : ps[k].1 = e.1
          · refine ifT (decide_eq_true hn) ?_
            refine ⟨_, rfl, .inl ⟨rfl, _, s5.seq ha⟩, _, rfl, _, rfl, by show 2 ≤ sizeLine; decide, fun t ht => tNil_ (ix_new (K := K) (x := e.1) (y := e.2) s5 hx nd pok me (fun H6 s6 => ?_) t ht)⟩
            refine ⟨_, rfl, _, rfl, l, _, _, _, rfl, rfl, s6 _ _ hl5, (Int.zero_add (k : Int)).symm ▸ ixN_nat (n := (g1.map V.int).length) (j := k) (by rw [List.length_map, gl3]; exact hk'), ?_⟩
            refine ⟨_, rfl, Same.put hl (s5.trans s6), ?_, ?_⟩
            · rw [upd_ne Dl]; exact s6 _ _ hD5
            · rw [map_set_int]
              show upd H6 l _ l = some (.lst ((efStep1 ps e g1 k).map V.int))
              unfold efStep1
              rw [gd, if_pos hn]
              exact upd_same
          · refine ifF (decide_eq_false hn) ?_
            refine ⟨_, rfl, s5, hD5, ?_⟩
            show H5 l = some (.lst ((efStep1 ps e g1 k).map V.int))
            unfold efStep1
            rw [gd, if_neg hn]
            exact hl5
        · rintro σ H5 ⟨v5, rfl, s5, hD5, hl5⟩
          rw [ln] at hl5
          exact ⟨_, _, _, rfl, s5, hD5, hl5⟩
    · rintro σ H4 ⟨v3, v4, v5, rfl, s4, hD4, hl4⟩
      rw [List.take_length, ← hfin] at hl4
      refine ⟨_, rfl, l, _, rfl, .inl ⟨SqL.of hl4, fun p' hp' => ?_⟩⟩
      have s5 : Same H4 (upd H4 p' (.tup ((movesM ps r).map V.int))) := Same.upd hp'
      exact q p' _ (s4.trans s5) (s4.free hp') upd_same
end
end C62
set_option Elab.async false
set_option linter.all false
set_option maxRecDepth 100000
set_option maxHeartbeats 4000000
namespace C62
open PySem PySem.Spec PyProof.Rows L2
open He (ga ma)
/-! ### the net of a protocol -/
def spLetters (K : PySem.W.Frag) : Sp := fun vs H Q _ => ∃ (x y : V), vs = [x, y] ∧ Dp K H y (.tuple []) ∧ ∀ p H', Same H H' → H p = none → Dp K H' (.ref p) (.tuple []) → Q (.ref p) H'
def spGoal (K : PySem.W.Frag) : Sp := fun vs H Q _ => ∃ (x y z : V) (S : PartsD) (ps : List Pr) (b : PatD), vs = [x, y, z] ∧ SysAt K H x S ∧ Dp K H y (.list (ps.map dPr)) ∧ Dp K H z (dPatT b) ∧ ps.Nodup ∧ (∀ p ∈ ps, prOk p) ∧ ps.length ≤ 100 ∧
  (∀ p ∈ b.2, p ∈ ps) ∧ (∀ p ∈ b.1, (("" : Str), p.1) ∈ ps) ∧ ∀ p H', Same H H' → H p = none → Q (.ref p) H'
def MailAt (K : PySem.W.Frag) (H : Hp) (v : V) (N : NetD) : Prop := ∃ (a dx : Addr) (fs : List (Str × V)) (u : V), v = .ref a ∧ H a = some (.ins (ga K "MailNet") dx fs) ∧ fs.lookup ("net" : Str) = some u ∧ NetAt K H u N
theorem MailAt.same {K : PySem.W.Frag} {H H' : Hp} {v : V} {N : NetD} (e : Same H H') : MailAt K H v N → MailAt K H' v N
  | ⟨a, dx, fs, u, h1, h2, h3, h4⟩ => ⟨a, dx, fs, u, h1, e _ _ h2, h3, h4.same e⟩
theorem NetAt.but {K : PySem.W.Frag} {H H' : Hp} {p C dx : Addr} (hp : H p = some (.ins C dx [])) (e : But p H H') {v : V} {N : NetD} : NetAt K H v N → NetAt K H' v N
  | ⟨a, dy, fs, u, h1, h2, h3, h4, h5⟩ => ⟨a, dy, fs, u, h1, e _ _ h2 (fun z => by
      subst z
      rw [hp] at h2
      cases h2
      cases h3), h3, h4, Dp.samD (But.samD hp e) h5⟩
abbrev dAct0 : PyData := .tuple [.tuple [], .tuple []]
def spMailInit (K : PySem.W.Frag) : Sp := fun vs H Q _ => ∃ (p dx : Addr) (u y z : V) (N : NetD), vs = [.ref p, u, y, z] ∧ H p = some (.ins (ga K "MailNet") dx []) ∧ NetAt K H u N ∧ Dp K H y (.list []) ∧ Dp K H z (.list ((List.replicate N.trs.length ()).map fun _ => dAct0)) ∧ N.trs.length ≤ 24 ∧
  ∀ H', But p H H' → MailAt K H' (.ref p) N → Q .non H'
section
variable {P : Program} {w : World} {K : PySem.W.Frag} {mg : Str → Option Value} {base : Heap}
theorem c_letters_of (T : Txt K mg) : Cal P w K mg base 1 "letters_of" (spLetters K) := by
  refine T.f_letters_of.cal sc_letters_of (fun _ _ _ _ _ _ us hl => match us, hl with | [_, _], _ => rfl) (fun vs H Q E h => ?_) (fun f cdv A outer s H vs Q E hr h => ?_)
  · obtain ⟨x, y, rfl, _⟩ := h
    rfl
  · obtain ⟨x, y, rfl, hy, q⟩ := h
    refine ⟨_, (pss_cons (ps_set (i := 2) sc_letters_of.nd rfl (Or.inl rfl) (pe_lst pa_nil))
  (pss_cons (ps_for PassesOwn.never rfl (pi_tup (pv 1)) (pg_tup rfl (pgs_cons (pg_name (i := 3) sc_letters_of.nd rfl (Or.inl rfl)) (pgs_cons (pg_name (i := 4) sc_letters_of.nd rfl (Or.inl rfl)) pgs_nil))) pss_never)
  (pss_one (ps_ret (pe_callTy call_tuple_of (by rfl) T.b_tuple PyB.boot_tuple (pa_cons (pv 2) pa_nil)))))), ?_⟩
    refine ⟨by decide, fun l hl => ?_⟩
    have s1 : Same H (upd H l (.lst [])) := Same.upd hl
    have hl1 : (upd H l (.lst [])) l = some (.lst []) := upd_same
    generalize upd H l (.lst []) = H1 at *
    refine ⟨_, rfl, for_dt (K := K) (l := ([] : List PyData)) (enc := fun d => d) (Dp.same s1 hy) (fun i σ H' => σ = [some x, some y, some (.ref l), none, none, none] ∧ H1 = H') ⟨rfl, rfl⟩ (fun _ _ _ _ ⟨_, e⟩ => .inl (e ▸ Same.refl _)) (fun k y' b σ H' hb => by simp at hb) ?_⟩
    rintro σ _ ⟨rfl, rfl⟩
    refine ⟨_, rfl, l, _, rfl, .inl ⟨SqL.of hl1, fun p hp => ?_⟩⟩
    exact q p _ (s1.trans (Same.upd hp)) (s1.free hp) (.tup (SqT.of upd_same) .nil)
theorem c_goal_of (T : Txt K mg) : Cal P w K mg base 2 "goal_of" (spGoal K) := by
  refine T.f_goal_of.cal sc_goal_of (fun _ _ _ _ _ _ us hl => match us, hl with | [_, _, _], _ => rfl) (fun vs H Q E h => ?_) (fun f cdv A outer s H vs Q E hr h => ?_)
  · obtain ⟨x, y, z, S, ps, b, rfl, _⟩ := h
    rfl
  · obtain ⟨x, y, z, S, ps, b, rfl, ⟨p, dx, fs, rfl, hp, F⟩, hy, hz, nd, pok, h100, m2, m1, q⟩ := h
    obtain ⟨u4, f4, d4⟩ := F.chans
    have C := T.k_System.cl
    have hu65 := hu65_of hr
    obtain ⟨a, xs, rfl, ha, hxs⟩ := Dp.lstI hy
    obtain ⟨c, ys, rfl, hc, hys⟩ := Dp.tupI hz
    obtain ⟨v1, v2, rfl, dv1, dv2⟩ := DpAll.i2 hys
    have hs := sizeLine_eq
    refine ⟨_, (pss_cons (ps_set (i := 3) sc_goal_of.nd rfl (Or.inl rfl) (pe_callTy call_list_of (by rfl) T.b_list PyB.boot_list (pa_cons (pe_c (c_counted T) hr (by decide) (by rfl) (pa_cons (pv 1) (pa_cons (pe_ix ix_tup (pv 2) pe_int (fun _ _ => rfl)) pa_nil))) pa_nil)))
  (pss_cons (ps_for PassesOwn.never rfl (pi_tup (pe_ix ix_tup (pv 2) pe_int (fun _ _ => rfl))) (pg_tup rfl (pgs_cons (pg_name (i := 4) sc_goal_of.nd rfl (Or.inl rfl)) (pgs_cons (pg_name (i := 5) sc_goal_of.nd rfl (Or.inl rfl)) pgs_nil))) (pss_one (ps_augS (pv 3) (pe_bm PySem.F.plainAttrs_list PySem.F.slot_list_index PySem.F.type_list_index (mt_indexD hu65) (pv 1) (pa_cons (pe_tup (pa_cons pe_str (pa_cons (pv 4) pa_nil))) pa_nil)) get_list (pv 5) ip_add set_list)))
  (pss_one (ps_ret (pe_tup (pa_cons (pe_callTy call_tuple_of (by rfl) T.b_tuple PyB.boot_tuple (pa_cons (pv 3) pa_nil)) (pa_cons (pe_op op_repT0 (pe_tup (pa_cons (pe_tup pa_nil) pa_nil)) (pe_callB call_len_seq (by rfl) T.b_len PyB.boot_len (pa_cons (pe_fld (pv 0) rfl) pa_nil))) pa_nil))))))), ?_⟩
    refine ⟨_, rfl, _, rfl, c, _, (1 : Int), _, rfl, rfl, hc, at_of (z := (1 : Int)) (j := 1) rfl rfl, ?_⟩
    refine ⟨_, _, ps, b.2, rfl, hy, .inr dv2, nd, pok, h100, m2, fun p1 H1 s1 hp1 h1 => ?_⟩
    refine ⟨p1, _, rfl, .inr (SqT.of h1), fun l hl => ?_⟩
    have s2 : Same H (upd H1 l (.lst ((cnt ps b.2).map V.int))) := s1.trans (Same.upd hl)
    have hl0 := s1.free hl
    have hl2 : (upd H1 l (.lst ((cnt ps b.2).map V.int))) l = some (.lst ((cnt ps b.2).map V.int)) := upd_same
    generalize upd H1 l (.lst ((cnt ps b.2).map V.int)) = H2 at *
    have cl : (cnt ps b.2).length = ps.length := List.length_map ..
    refine ⟨_, rfl, c, _, (0 : Int), _, rfl, rfl, Same.sqT s2 hc, at_of (z := (0 : Int)) (j := 0) rfl rfl, for_dtM (K := K) (Dp.same s2 dv1) (fun i σ H' => ∃ w1 w2, σ = [some (.ref p), some (.ref a), some (.ref c), some (.ref l), w1, w2] ∧ Same H H' ∧
      ∃ ms : List Int, ms.length = ps.length ∧ H' l = some (.lst (ms.map V.int))) ⟨none, none, rfl, s2, _, cl, hl2⟩ (fun i σ H' _ ⟨_, _, _, h, _⟩ => Dp.same h dv1) ?_ ?_⟩
    · rintro i z' e σ H3 he dz ⟨w1, w2, rfl, s3, ms, lm, hl3⟩
      obtain ⟨g, rfl, hg⟩ := Dp.cpI dz
      have me := m1 e (List.mem_of_getElem? he)
      refine ⟨g, _, rfl, hg, rfl, _, _, rfl, _, _, rfl, rfl, ?_⟩
      refine ⟨_, rfl, _, rfl, .inl ⟨rfl, _, s3.seq ha⟩, _, rfl, by show 2 ≤ sizeLine; decide, fun t ht => tNil_ (ix_new (K := K) (x := ("" : Str)) (y := e.1) s3 hy nd pok me (fun H4 s4 => ?_) t ht)⟩
      refine ⟨l, _, _, _, rfl, rfl, SqL.of (s4 _ _ hl3), getD_int (by rw [lm]; exact (idx_of nd me).2), ?_⟩
      refine ⟨_, rfl, _, _, rfl, rfl, l, _, _, _, rfl, rfl, s4 _ _ hl3, ixN_nat (by rw [List.length_map, lm]; exact (idx_of nd me).2), ?_⟩
      rw [map_set_int]
      exact ⟨_, _, rfl, Same.put hl0 (s3.trans s4), _, (by rw [List.length_set, lm]), upd_same⟩
    · rintro σ H3 ⟨w1, w2, rfl, s3, ms, lm, hl3⟩
      obtain ⟨d, ws, rfl, hd, hws⟩ := Dp.tupI d4
      cases hws
      refine ⟨_, rfl, l, _, rfl, .inl ⟨SqL.of hl3, fun p2 hp2 => ?_⟩⟩
      have s4 := s3.trans (Same.upd (o := .tup (ms.map V.int)) hp2)
      generalize upd H3 p2 (.tup (ms.map V.int)) = H4 at *
      refine ⟨by decide, fun t ht => ⟨by show 1 ≤ sizeLine; decide, fun t2 ht2 => ?_⟩⟩
      have s5 := s4.trans (Same.upd (o := .tup []) ht)
      have s6 := s5.trans (Same.upd (o := .tup [.ref t]) ht2)
      refine ⟨_, rfl, p, _, dx, fs, _, rfl, s6 _ _ hp, C, T.k_System.na _ (by simp), f4, d, _, rfl, .inr (Same.sqT s6 hd), ?_⟩
      refine ⟨t2, _, _, rfl, rfl, SqT.of upd_same, by simp, by decide, by decide, by show 1 ≤ 1000; decide, fun e => absurd e (by decide), fun _ t3 ht3 => ?_⟩
      refine ⟨by show 2 ≤ sizeLine; decide, fun t4 ht4 => ?_⟩
      exact q t4 _ ((s6.trans (Same.upd ht3)).trans (Same.upd ht4)) ((s6.trans (Same.upd ht3)).free ht4)
theorem c_MailNet (T : Txt K mg) : Ini P w K mg base 3 "MailNet" (spMailInit K) := by
  refine T.k_MailNet.ini sc_MailNet_init (fun _ _ _ _ _ _ us hl => match us, hl with | [_, _, _, _], _ => rfl) (fun vs H Q E h => ?_) (fun f cdv A outer s H vs Q E hr h => ?_)
  · obtain ⟨p, dx, u, y, z, N, rfl, _⟩ := h
    rfl
  · obtain ⟨p, dx, u, y, z, N, rfl, hp, hN, hy, hz, h24, kq⟩ := h
    obtain ⟨c, xs, rfl, hc, hxs⟩ := Dp.lstI hy
    cases hxs
    obtain ⟨b, ys, rfl, hb, hys⟩ := Dp.lstI hz
    have ly : ys.length = N.trs.length := by rw [DpAll.len hys, List.length_map, List.length_replicate]
    obtain ⟨e, dy, gs, v, rfl, he, g1, g2, dv⟩ := id hN
    obtain ⟨d, ws, rfl, hd, hws⟩ := Dp.tupI dv
    have lw : ws.length = N.trs.length := by rw [DpAll.len hws, List.length_map]
    have C := T.k_MailNet.cl
    have h0 : Held K H p (ga K "MailNet") dx [] H := ⟨hp, But.refl _ _⟩
    refine ⟨_, (pss_cons (ps_set (i := 4) sc_MailNet_init.nd rfl (Or.inl rfl) (pe_and (pe_cmpR op_le (pe_callB call_len_seq (by rfl) T.b_len PyB.boot_len (pa_cons (pv 2) pa_nil)) (pe_gc rfl T.g_MOST_CHANNELS) (nomark _)) (pe_one (pe_cmpR op_eq (pe_callB call_len_seq (by rfl) T.b_len PyB.boot_len (pa_cons (pv 3) pa_nil)) (pe_callB call_len_seq (by rfl) T.b_len PyB.boot_len (pa_cons (pe_fld (pv 1) rfl) pa_nil)) (nomark _)))))
  (pss_cons (ps_for PassesOwn.never rfl (pi_list (pv 2)) (pg_name (i := 5) sc_MailNet_init.nd rfl (Or.inl rfl)) pss_never)
  (pss_cons (ps_for PassesOwn.never rfl (pi_list (pv 3)) (pg_tup rfl (pgs_cons (pg_name (i := 6) sc_MailNet_init.nd rfl (Or.inl rfl)) (pgs_cons (pg_name (i := 7) sc_MailNet_init.nd rfl (Or.inl rfl)) pgs_nil))) (pss_one (ps_set (i := 4) sc_MailNet_init.nd rfl (Or.inl rfl) (pe_and (pv 4) (pe_and (pe_c (c_right_pairs T) hr (by decide) (by rfl) (pa_cons (pv 6) (pa_cons (pv 2) pa_nil))) (pe_one (pe_c (c_right_pairs T) hr (by decide) (by rfl) (pa_cons (pv 7) (pa_cons (pv 2) pa_nil)))))))))
  (pss_cons (ps_if (pt_not (pt_val (pv 4))) (pss_one ps_never) pss_nil)
  (pss_cons (ps_fld (pv 0) (pv 1) rfl)
  (pss_cons (ps_fld (pv 0) (pe_callTy call_tuple_of (by rfl) T.b_tuple PyB.boot_tuple (pa_cons (pv 2) pa_nil)) rfl)
  (pss_one (ps_fld (pv 0) (pe_callTy call_tuple_of (by rfl) T.b_tuple PyB.boot_tuple (pa_cons (pe_lc (own := [("hears", 6), ("sends", 7)]) (g := gTup K 2 (gCons (gName 6) (gCons (gName 7) (gNil)))) rfl sc_MailNet_init.nd (pi_list (pv 3)) (blkOk_by (own := [("hears", 6), ("sends", 7)]) (N := nm_MailNet_init) (sc := defScope s_MailNet_init) (by decide +kernel)) (fun _ _ _ _ _ => (pg_tup rfl (pgs_cons (pg_name (i := 6) sc_MailNet_init.nd rfl (Or.inl rfl)) (pgs_cons (pg_name (i := 7) sc_MailNet_init.nd rfl (Or.inl rfl)) pgs_nil)))) (fun _ _ _ _ _ => pts_nil) (fun _ _ _ _ _ => (pe_tup (pa_cons (pe_c (c_pairs_of_mail T) hr (by decide) (by rfl) (pa_cons (pv 6) pa_nil)) (pa_cons (pe_c (c_pairs_of_mail T) hr (by decide) (by rfl) (pa_cons (pv 7) pa_nil)) pa_nil))))) pa_nil)) rfl)))))))), ?_⟩
    refine ⟨_, rfl, c, _, rfl, .inl hc, _, _, rfl, rfl, _, rfl, ?_⟩
    refine ifT (by decide) ?_
    refine ⟨_, rfl, b, _, rfl, .inl hb, _, rfl, e, _, dy, gs, _, rfl, he, T.k_Net.cl, T.k_Net.na _ (by simp), g2, d, _, rfl, .inr hd, rfl, ?_⟩
    -- for number in channels
    refine ⟨_, rfl, for_dl (K := K) (l := ([] : List PyData)) (enc := fun d => d) (.lst hc .nil) (fun i σ H' => σ = [some (.ref p), some (.ref e), some (.ref c), some (.ref b), some (.bl true), none, none, none] ∧ H = H')
      ⟨congrArg (fun x => [some (V.ref p), some (V.ref e), some (V.ref c), some (V.ref b), some (V.bl x), none, none, none]) (by rw [dec_int]; exact decide_eq_true (by omega)), rfl⟩ (fun _ _ _ _ ⟨_, e⟩ => .inl (e ▸ Same.refl _)) (fun k y' b σ H' hb => by simp at hb) ?_⟩
    rintro σ _ ⟨rfl, rfl⟩
    -- for hears, sends in actions
    refine ⟨_, rfl, for_dl (K := K) (l := List.replicate N.trs.length ()) (enc := fun _ => dAct0) (.lst hb hys) (fun i σ H' => ∃ w1 w2, σ = [some (.ref p), some (.ref e), some (.ref c), some (.ref b), some (.bl true), none, w1, w2] ∧ Same H H') ⟨none, none, rfl, Same.refl _⟩ (fun _ _ _ _ ⟨_, _, _, e⟩ => .inl e) ?_ ?_⟩
    · rintro k x un σ H1 _ dz ⟨w1, w2, rfl, s1⟩
      obtain ⟨g, xs, rfl, hg, hxs⟩ := Dp.tupI dz
      obtain ⟨u1, u2, rfl, d1, d2⟩ := DpAll.i2 hxs
      refine ⟨g, _, rfl, hg, rfl, _, _, rfl, _, _, rfl, rfl, ?_⟩
      refine ⟨_, rfl, _, rfl, ?_⟩
      refine iteT ?_
      refine ⟨_, rfl, _, rfl, u1, _, rfl, d1, fun H2 s2 => ⟨_, rfl, ?_⟩⟩
      refine iteT ?_
      refine ⟨_, rfl, _, rfl, u2, _, rfl, Dp.same s2 d2, fun H3 s3 => ?_⟩
      exact ⟨_, _, rfl, s1.trans (s2.trans s3)⟩
    rintro σ H1 ⟨w1, w2, rfl, s1⟩
    refine ⟨_, rfl, _, rfl, ?_⟩
    refine iteF ?_
    have h1 : Held K H p (ga K "MailNet") dx [] H1 := ⟨s1 _ _ hp, Same.but p s1⟩
    -- self.net
    refine ⟨_, rfl, _, rfl, p, _, dx, [], rfl, s1 _ _ hp, C, T.k_MailNet.na _ (by simp), (by decide), ?_⟩
    obtain ⟨h2, m2, _⟩ := fld_step h1 (u := .ref e) (Same.refl H1) ("net" : Str)
    have z2 : (putF ("net" : Str) (V.ref e) []).length ≤ 1 := putF_len ("net" : Str) (V.ref e) []
    have n2 : (putF ("net" : Str) (V.ref e) []).lookup ("net" : Str) = some (V.ref e) := lk_eq
    generalize upd H1 p (.ins (ga K "MailNet") dx (putF ("net" : Str) (V.ref e) [])) = H2 at *
    generalize putF ("net" : Str) (V.ref e) [] = fs2 at *
    -- self.channels
    have hc2 := m2.sqL (s1.seq hc)
    refine ⟨_, rfl, c, _, rfl, .inl ⟨hc2, fun l hl => ?_⟩⟩
    have s23 := Same.upd (o := .tup []) hl
    refine ⟨_, rfl, p, _, dx, fs2, rfl, s23 _ _ h2.at_, C, T.k_MailNet.na _ (by simp), by omega, ?_⟩
    obtain ⟨h3, m3, _⟩ := fld_step h2 (u := .ref l) s23 ("channels" : Str)
    have z3 : (putF ("channels" : Str) (V.ref l) fs2).length ≤ 2 := Nat.le_trans (putF_len ("channels" : Str) (V.ref l) fs2) (by omega)
    have n3 : (putF ("channels" : Str) (V.ref l) fs2).lookup ("net" : Str) = some (V.ref e) := (lk_ne (by decide +kernel)).trans n2
    generalize upd (upd H2 l (.tup [])) p (.ins (ga K "MailNet") dx (putF ("channels" : Str) (V.ref l) fs2)) = H3 at *
    generalize putF ("channels" : Str) (V.ref l) fs2 = fs3 at *
    -- self.actions
    have hz3 : Dp K H3 (.ref b) (.list ((List.replicate N.trs.length ()).map fun _ => dAct0)) := Dp.samD (m2.trans m3) (Dp.same s1 (.lst hb hys))
    obtain ⟨_, ys3, e3, hb3, hys3⟩ := Dp.lstI hz3
    cases e3
    have ly3 : ys3.length = N.trs.length := by rw [DpAll.len hys3, List.length_map, List.length_replicate]
    refine ⟨_, rfl, b, rfl, ⟨_, hb3⟩, fun D hD => lc_list (K := K) (a := b) (xs := ys3) (fun i H' => Same H3 H' ∧ ∃ acc, H' D = some (.lst acc) ∧ acc.length = i) ⟨Same.upd hD, [], upd_same, rfl⟩ (fun i H' _ e => e.1.seq hb3) ?_ ?_⟩
    · rintro i z Hi hi ⟨s4, acc, hacc, lacc⟩
      obtain ⟨d', hd', dz⟩ := DpAll.getL hys3 hi
      have hlt := get_lt hi
      obtain ⟨un, _, rfl⟩ := map_get hd'
      obtain ⟨g, xs, rfl, hg, hxs⟩ := Dp.tupI dz
      obtain ⟨u1, u2, rfl, d1, d2⟩ := DpAll.i2 hxs
      refine ⟨g, _, rfl, Same.sqT s4 hg, rfl, _, _, rfl, _, _, rfl, rfl, rfl, ?_⟩
      refine yesT ?_
      refine ⟨_, rfl, u1, rfl, Dp.same s4 d1, fun p1 H5 s5 hp1 e1 => ?_⟩
      refine ⟨_, rfl, u2, rfl, Dp.same (s4.trans s5) d2, fun p2 H6 s6 hp2 e2 => ?_⟩
      refine ⟨by show 2 ≤ sizeLine; decide, fun t ht => ?_⟩
      have s46 := s5.trans (s6.trans (Same.upd (o := .tup [.ref p1, .ref p2]) ht))
      refine ⟨acc, s46 _ _ hacc, small1000 (by omega), Same.put hD (s4.trans s46), _, upd_same, by rw [List.length_append, lacc]; rfl⟩
    · rintro H4 ⟨s4, acc, hacc, lacc⟩
      refine ⟨D, _, rfl, .inl ⟨SqL.of hacc, fun l2 hl2 => ?_⟩⟩
      have s5 := s4.trans (Same.upd (o := .tup acc) hl2)
      refine ⟨_, rfl, p, _, dx, fs3, rfl, s5 _ _ h3.at_, C, T.k_MailNet.na _ (by simp), by omega, ?_⟩
      obtain ⟨h4, m4, _⟩ := fld_step h3 (u := .ref l2) s5 ("actions" : Str)
      have n4 : (putF ("actions" : Str) (V.ref l2) fs3).lookup ("net" : Str) = some (V.ref e) := (lk_ne (by decide +kernel)).trans n3
      generalize upd (upd H4 l2 (.tup acc)) p (.ins (ga K "MailNet") dx (putF ("actions" : Str) (V.ref l2) fs3)) = H5 at *
      exact kq H5 h4.but ⟨p, dx, _, .ref e, rfl, h4.at_, n4, hN.but hp h4.but⟩
end
end C62
set_option Elab.async false
set_option linter.all false
set_option maxRecDepth 100000
set_option maxHeartbeats 4000000
namespace C62
open PySem PySem.Spec PyProof.Rows L2
open He (ga ma)
/-! ### the places of a right protocol -/
theorem strOk_empty : PyData.strOk ("" : Str) = true := by decide +kernel
theorem lower_ok : ∀ c ∈ lowerS.cps.toList, c < 0x110000 := by decide +kernel
theorem digit_ok : ∀ c ∈ digitS.cps.toList, c < 0x110000 := by decide +kernel
theorem NameOk.str {x : Str} (h : NameOk x) : PyData.strOk x = true := by
  show x.cps.all (· < 0x110000) = true
  rw [Array.all_eq_true]
  intro i hi
  rcases h.all i x.cps[i] (Array.getElem?_eq_getElem hi) with e | e
  · exact decide_eq_true (lower_ok _ e)
  · exact decide_eq_true (digit_ok _ e)
section
variable {S : PartsD}
theorem mem_pl {p : Pr} : p ∈ placesOf S ↔ (p.1 = ("" : Str) ∧ p.2 ∈ S.states) ∨ ∃ zs, (p.1, zs) ∈ S.vars ∧ p.2 ∈ zs := by
  unfold placesOf
  rw [List.mem_append, List.mem_map, List.mem_flatMap]
  constructor
  · rintro (⟨s, hs, rfl⟩ | ⟨v, hv, h⟩)
    · exact .inl ⟨rfl, hs⟩
    · obtain ⟨x, hx, rfl⟩ := List.mem_map.mp h
      exact .inr ⟨v.2, hv, hx⟩
  · rintro (⟨e, hs⟩ | ⟨zs, hv, hx⟩)
    · exact .inl ⟨p.2, hs, by rw [← e]⟩
    · exact .inr ⟨(p.1, zs), hv, List.mem_map.mpr ⟨p.2, hx, rfl⟩⟩
theorem pl_state (s : Str) (h : s ∈ S.states) : (("" : Str), s) ∈ placesOf S := mem_pl.mpr (.inl ⟨rfl, h⟩)
theorem pl_vars (ok : PartsOk S) {ps : List Pr} (h : ValsOk S.vars ps) : ∀ p ∈ ps, p ∈ placesOf S := fun p hp => by
  obtain ⟨zs, e, hz⟩ := h.at_ p hp
  exact mem_pl.mpr (.inr ⟨zs, by rw [e]; exact List.mem_singleton.mpr rfl, hz⟩)
theorem vals_name (ok : PartsOk S) {ps : List Pr} (h : ValsOk S.vars ps) : ∀ p ∈ ps, NameOk p.1 := fun p hp => by
  obtain ⟨zs, e, hz⟩ := h.at_ p hp
  rcases ok.v1 with e' | ⟨z, zs', e', n1, _⟩
  · rw [e] at e'; cases e'
  · rw [e] at e'; cases e'; exact n1
theorem vals_le1 {vars : List (Str × List Str)} {ps : List Pr} (h : ValsOk vars ps) : ps.length ≤ 1 := by
  match ps, h with
  | [], _ => exact Nat.zero_le _
  | [_], _ => exact Nat.le_refl _
  | p :: q :: r, h =>
    obtain ⟨zs, e, _⟩ := h.at_ p List.mem_cons_self
    obtain ⟨zs', e', _⟩ := h.at_ q (List.mem_cons_of_mem _ List.mem_cons_self)
    have e1 : p.1 = q.1 := (Prod.mk.inj (List.cons.inj (e.symm.trans e')).1).1
    have := h.nd
    rw [List.map_cons, List.map_cons, List.nodup_cons] at this
    exact absurd (List.mem_cons.mpr (.inl e1)) this.1
theorem pl_len (ok : PartsOk S) : 1 ≤ (placesOf S).length ∧ (placesOf S).length ≤ 7 := by
  have h2 := ok.s2
  have h4 := ok.s4
  have e : (placesOf S).length = S.states.length + (S.vars.flatMap fun v => v.2.map fun x => (v.1, x)).length := by
    unfold placesOf; rw [List.length_append, List.length_map]
  have hv : (S.vars.flatMap fun v => v.2.map fun x => (v.1, x)).length ≤ 3 := by
    rcases ok.v1 with e' | ⟨z, zs, e', _, _, _, h3, _⟩
    · rw [e']; decide
    · rw [e', List.flatMap_singleton, List.length_map]; exact h3
  omega
theorem pl_ok (ok : PartsOk S) : ∀ p ∈ placesOf S, prOk p := fun p hp => by
  rcases mem_pl.mp hp with ⟨e, hs⟩ | ⟨zs, hv, hx⟩
  · exact ⟨by rw [e]; exact strOk_empty, (ok.nm _ hs).str⟩
  · rcases ok.v1 with e' | ⟨z, zs', e', n1, _, _, _, _, n6⟩
    · rw [e'] at hv; cases hv
    · rw [e'] at hv
      cases List.mem_singleton.mp hv
      exact ⟨n1.str, (n6 _ hx).str⟩
theorem nodup_map {α β : Type} {f : α → β} (hf : ∀ a b, f a = f b → a = b) : ∀ {l : List α}, l.Nodup → (l.map f).Nodup
  | [], _ => List.nodup_nil
  | a :: l, h => by
    rw [List.nodup_cons] at h
    rw [List.map_cons, List.nodup_cons]
    refine ⟨fun hm => ?_, nodup_map hf h.2⟩
    obtain ⟨b, hb, e⟩ := List.mem_map.mp hm
    exact h.1 (hf _ _ e ▸ hb)
theorem pl_nodup (ok : PartsOk S) : (placesOf S).Nodup := by
  unfold placesOf
  rw [List.nodup_append]
  refine ⟨nodup_map (fun a b e => (Prod.mk.inj e).2) ok.nd, ?_, fun a ha b hb e => ?_⟩
  · rcases ok.v1 with e' | ⟨z, zs, e', _, _, _, _, n5, _⟩
    · rw [e']; exact List.nodup_nil
    · rw [e', List.flatMap_singleton]
      exact nodup_map (fun a b e => (Prod.mk.inj e).2) n5
  · obtain ⟨s, hs, rfl⟩ := List.mem_map.mp ha
    subst e
    obtain ⟨v, hv, h⟩ := List.mem_flatMap.mp hb
    obtain ⟨x, hx, e⟩ := List.mem_map.mp h
    rcases ok.v1 with e' | ⟨z, zs, e', n1, _⟩
    · rw [e'] at hv; cases hv
    · rw [e'] at hv
      cases List.mem_singleton.mp hv
      exact n1.ne (Prod.mk.inj e).1
theorem pl_ev {r : RuleD} (ok : RuleOk S.states S.vars r) : ∀ p ∈ r.everyone, (("" : Str), p.1) ∈ placesOf S ∧ (p.2 ≠ ("gone" : Str) → (("" : Str), p.2) ∈ placesOf S) := fun p hp => by
  obtain ⟨h1, h2⟩ := ok.em p hp
  exact ⟨pl_state _ h1, fun n => pl_state _ (h2.resolve_right n)⟩
theorem pl_taken (ok : PartsOk S) {r : RuleD} (hr : RuleOk S.states S.vars r) : ∀ n ∈ takenN r, n ∈ placesOf S := fun n hn => by
  rcases List.mem_append.mp hn with h | h
  · obtain ⟨p, hp, rfl⟩ := List.mem_map.mp h
    exact pl_state _ (hr.am p hp).1
  · exact pl_vars ok hr.co n h
theorem pl_given (ok : PartsOk S) {r : RuleD} (hr : RuleOk S.states S.vars r) : ∀ n ∈ givenN r, n ∈ placesOf S := fun n hn => by
  unfold givenN at hn
  rcases List.mem_append.mp hn with h | h
  · rcases List.mem_append.mp h with h | h
    · rcases List.mem_append.mp h with h | h
      · obtain ⟨p, hp, rfl⟩ := List.mem_map.mp h
        obtain ⟨h1, h2⟩ := List.mem_filter.mp hp
        have n : p.2 ≠ ("gone" : Str) := fun e => by rw [e, decide_eq_true rfl] at h2; cases h2
        exact pl_state _ ((hr.am p h1).2.resolve_right n)
      · obtain ⟨s, hs, rfl⟩ := List.mem_map.mp h
        exact pl_state _ (hr.bm s hs)
    · exact pl_vars ok hr.co n (List.mem_filter.mp h).1
  · exact pl_vars ok hr.ef n (List.mem_filter.mp h).1
theorem taken_len {r : RuleD} (hr : RuleOk S.states S.vars r) : (takenN r).length ≤ 4 := by
  have h1 := hr.a3
  have h2 := vals_le1 hr.co
  unfold takenN
  rw [List.length_append, List.length_map]
  omega
theorem given_len {r : RuleD} (hr : RuleOk S.states S.vars r) : (givenN r).length ≤ 7 := by
  have h1 : (r.actors.filter fun p => !decide (p.2 = ("gone" : Str))).length ≤ 3 := Nat.le_trans (List.length_filter_le _ _) hr.a3
  have h2 : (r.conds.filter (fun p => !decide (p.1 ∈ r.effs.map (·.1)))).length ≤ 1 := Nat.le_trans (List.length_filter_le _ _) (vals_le1 hr.co)
  have h3 : (r.effs.filter (fun p => decide (p.1 ∈ r.conds.map (·.1)))).length ≤ 1 := Nat.le_trans (List.length_filter_le _ _) (vals_le1 hr.ef)
  have h4 := hr.bl
  unfold givenN
  rw [List.length_append, List.length_append, List.length_append, List.length_map, List.length_map]
  exact Nat.le_trans (Nat.add_le_add (Nat.add_le_add (Nat.add_le_add h1 h4) h2) h3) (by decide)
theorem cnt_len (ps ns : List Pr) : (cnt ps ns).length = ps.length := List.length_map ..
theorem cnt_le {ps ns : List Pr} {k : Nat} (h : ns.length ≤ k) : ∀ z ∈ cnt ps ns, 0 ≤ z ∧ z ≤ (k : Int) := fun z hz => by
  obtain ⟨q, _, rfl⟩ := List.mem_map.mp hz
  have := List.count_le_length (a := q) (l := ns)
  omega
/-! the bounds of the moves -/
def MvOk (n : Nat) (f : List Int) : Prop := ∀ z ∈ f, -1 ≤ z ∧ z ≤ (n : Int) - 1
theorem MvOk.set {n : Nat} {f : List Int} {k : Nat} {v : Int} (h : MvOk n f) (hv : -1 ≤ v ∧ v ≤ (n : Int) - 1) : MvOk n (f.set k v) := fun z hz => by
  rcases List.mem_or_eq_of_mem_set hz with e | e
  · exact h z e
  · rw [e]; exact hv
theorem idx_b {ps : List Pr} {q : Pr} (h : q ∈ ps) : -1 ≤ (ps.idxOf q : Int) ∧ (ps.idxOf q : Int) ≤ (ps.length : Int) - 1 := by
  have := List.idxOf_lt_length_of_mem h
  omega
theorem fold_inv {α β : Type} {I : β → Prop} {f : β → α → β} : ∀ {l : List α} {b : β}, I b → (∀ b a, a ∈ l → I b → I (f b a)) → I (l.foldl f b)
  | [], _, h, _ => h
  | a :: l, b, h, hs => fold_inv (l := l) (hs b a List.mem_cons_self h) fun b c hc => hs b c (List.mem_cons_of_mem _ hc)
theorem moves_ok {ps : List Pr} {r : RuleD} (hev : ∀ p ∈ r.everyone, (("" : Str), p.1) ∈ ps ∧ (p.2 ≠ ("gone" : Str) → (("" : Str), p.2) ∈ ps)) (hef : ∀ p ∈ r.effs, p ∈ ps) : MvOk ps.length (movesM ps r) := by
  unfold movesM
  refine fold_inv (fold_inv (fun z hz => ?_) fun f q hq h => ?_) fun f q hq h => ?_
  · obtain ⟨i, hi, rfl⟩ := List.mem_map.mp hz
    have := List.mem_range.mp hi
    omega
  · unfold evStep
    refine h.set ?_
    by_cases e : q.2 = ("gone" : Str)
    · rw [if_pos e]
      have := (idx_b (hev q hq).1).2
      have := List.idxOf_lt_length_of_mem (hev q hq).1
      omega
    · rw [if_neg e]; exact idx_b ((hev q hq).2 e)
  · unfold efStep
    split
    · exact h
    · refine fold_inv h fun f k _ h => ?_
      unfold efStep1
      split
      · exact h.set (idx_b (hef q hq))
      · exact h
theorem moves_len (ps : List Pr) (r : RuleD) : (movesM ps r).length = ps.length := by unfold movesM; rw [ef_len, ev_len, ids_len]
abbrev trOf (ps : List Pr) (r : RuleD) : TrD := (cnt ps (takenN r), cnt ps (givenN r), movesM ps r)
def netOf (S : PartsD) : NetD := ⟨(placesOf S).length, S.rules.map (trOf (placesOf S))⟩
def baseN (S : PartsD) : List Pr := S.vars.map fun v => (v.1, v.2.headD "")
theorem netOk (ok : PartsOk S) : NetOk (netOf S) := by
  have h := pl_len ok
  refine ⟨h.1, Nat.le_trans h.2 (by decide), ?_, fun t ht => ?_⟩
  · show (S.rules.map _).length ≤ 24
    rw [List.length_map]
    exact Nat.le_trans ok.r3 (by decide)
  · obtain ⟨r, hr, rfl⟩ := List.mem_map.mp ht
    have ro := ok.rs r hr
    exact ⟨cnt_len _ _, cnt_len _ _, moves_len _ _, fun z hz => by have := cnt_le (taken_len ro) z hz; omega, fun z hz => by have := cnt_le (given_len ro) z hz; omega, moves_ok (pl_ev ro) (pl_vars ok ro.ef)⟩
end
end C62
set_option Elab.async false
set_option linter.all false
set_option maxRecDepth 100000
set_option maxHeartbeats 4000000
namespace C62
open PySem PySem.Spec PyProof.Rows L2
open He (ga ma)
theorem noL_ints (ns : List Int) : noL (dInts ns) = true := noLs_map _ (fun _ => rfl) ns
theorem noL_tr (t : TrD) : noL (dTr t) = true := by
  show (noL (dInts t.1) && (noL (dInts t.2.1) && (noL (dInts t.2.2) && true))) = true
  rw [noL_ints, noL_ints, noL_ints]; rfl
theorem Grown.upd2 {K : PySem.W.Frag} {H0 H' : Hp} {l l2 : Addr} {ds : List PyData} {ys ys' : List V} (h : Grown K H0 l ds H') (h2 : H' l2 = some (.lst ys)) (n : l ≠ l2) (hD : H0 l2 = none) (nl : noLs ds = true) : Grown K H0 l ds (upd H' l2 (.lst ys')) := by
  obtain ⟨s0, acc, q1, q2, q3⟩ := h
  refine ⟨Same.put hD s0, acc, by rw [upd_ne n]; exact q1, q2, ?_⟩
  have q4 := DpAll.delL (l := l2) (by rw [del_ne (Ne.symm n)]; exact h2) q3 nl
  refine DpAll.same (fun b o e => ?_) q4
  by_cases hb2 : b = l2
  · subst hb2; unfold C62.del at e; rw [if_pos rfl] at e; cases e
  · by_cases hb : b = l
    · subst hb; rw [del_ne hb2] at e; unfold C62.del at e; rw [if_pos rfl] at e; cases e
    · rw [del_ne hb2, del_ne hb] at e
      rw [del_ne hb, upd_ne hb2]
      exact e
def spCompile (K : PySem.W.Frag) : Sp := fun vs H Q _ => ∃ (x : V) (S : PartsD), vs = [x] ∧ SysAt K H x S ∧ PartsOk S ∧ ∀ p H', Same H H' → H p = none →
  (∃ m st g, SqT K H' p [m, st, g] ∧ MailAt K H' m (netOf S) ∧ Dp K H' st (.tuple [dInts (cnt (placesOf S) (baseN S)), .int (S.states.idxOf S.start : Nat)])) → Q (.ref p) H'
section
variable {P : Program} {w : World} {K : PySem.W.Frag} {mg : Str → Option Value} {base : Heap}
theorem c_compile_protocol (T : Txt K mg) : Cal P w K mg base 5 "compile_protocol" (spCompile K) := by
  refine T.f_compile_protocol.cal sc_compile_protocol (fun _ _ _ _ _ _ us hl => match us, hl with | [_], _ => rfl) (fun vs H Q E h => ?_) (fun f cdv A outer s H vs Q E hr h => ?_)
  · obtain ⟨x, S, rfl, _⟩ := h
    rfl
  · obtain ⟨x, S, rfl, hx, ok, q⟩ := h
    obtain ⟨p, dx, fs, rfl, hp, F⟩ := id hx
    obtain ⟨as, f1, d1⟩ := F.states
    obtain ⟨u2, f2, d2⟩ := F.vars
    obtain ⟨u3, f3, d3⟩ := F.chans
    obtain ⟨br, vr, f4, hbr, hvr⟩ := F.rules
    obtain ⟨u5, f5, d5⟩ := F.bad
    have C := T.k_System.cl
    have CR := T.k_Rule.cl
    have lr := hvr.len
    have r3 := ok.r3
    have nd := pl_nodup ok
    have pok := pl_ok ok
    have pl7 := (pl_len ok).2
    have h100 : (placesOf S).length ≤ 100 := Nat.le_trans pl7 (by decide)
    refine ⟨_, (pss_cons (ps_set (i := 1) sc_compile_protocol.nd rfl (Or.inr rfl) (pe_c (c_place_names T) hr (by decide) (by rfl) (pa_cons (pv 0) pa_nil)))
  (pss_cons (ps_set (i := 2) sc_compile_protocol.nd rfl (Or.inl rfl) (pe_lst pa_nil))
  (pss_cons (ps_set (i := 3) sc_compile_protocol.nd rfl (Or.inl rfl) (pe_lst pa_nil))
  (pss_cons (ps_for PassesOwn.never rfl (pi_tup (pe_fld (pv 0) rfl)) (pg_name (i := 4) sc_compile_protocol.nd rfl (Or.inl rfl)) (pss_cons (ps_set (i := 5) sc_compile_protocol.nd rfl (Or.inl rfl) (pe_c (c_counted T) hr (by decide) (by rfl) (pa_cons (pv 1) (pa_cons (pe_c (c_taken_names T) hr (by decide) (by rfl) (pa_cons (pv 4) pa_nil)) pa_nil))))
  (pss_cons (ps_expr (pe_bm PySem.F.plainAttrs_list PySem.F.slot_list_append PySem.F.type_list_append mt_append (pv 2) (pa_cons (pe_tup (pa_cons (pv 5) (pa_cons (pe_c (c_counted T) hr (by decide) (by rfl) (pa_cons (pv 1) (pa_cons (pe_c (c_given_names T) hr (by decide) (by rfl) (pa_cons (pv 4) pa_nil)) pa_nil))) (pa_cons (pe_c (c_moves_of T) hr (by decide) (by rfl) (pa_cons (pv 1) (pa_cons (pv 4) pa_nil))) pa_nil)))) pa_nil)))
  (pss_one (ps_expr (pe_bm PySem.F.plainAttrs_list PySem.F.slot_list_append PySem.F.type_list_append mt_append (pv 3) (pa_cons (pe_tup (pa_cons (pe_c (c_letters_of T) hr (by decide) (by rfl) (pa_cons (pv 0) (pa_cons (pe_fld (pv 4) rfl) pa_nil))) (pa_cons (pe_c (c_letters_of T) hr (by decide) (by rfl) (pa_cons (pv 0) (pa_cons (pe_fld (pv 4) rfl) pa_nil))) pa_nil))) pa_nil)))))))
  (pss_cons (ps_set (i := 6) sc_compile_protocol.nd rfl (Or.inl rfl) (pe_c (c_counted T) hr (by decide) (by rfl) (pa_cons (pv 1) (pa_cons (pe_lc (own := [("name", 13), ("values", 14)]) (g := gTup K 2 (gCons (gName 13) (gCons (gName 14) (gNil)))) rfl sc_compile_protocol.nd (pi_tup (pe_fld (pv 0) rfl)) (blkOk_by (own := [("name", 13), ("values", 14)]) (N := nm_compile_protocol) (sc := defScope s_compile_protocol) (by decide +kernel)) (fun _ _ _ _ _ => (pg_tup rfl (pgs_cons (pg_name (i := 13) sc_compile_protocol.nd rfl (Or.inl rfl)) (pgs_cons (pg_name (i := 14) sc_compile_protocol.nd rfl (Or.inl rfl)) pgs_nil)))) (fun _ _ _ _ _ => pts_nil) (fun _ _ _ _ _ => (pe_tup (pa_cons (pv 13) (pa_cons (pe_ix (ix_tupK K) (pv 14) pe_int (fun _ _ => rfl)) pa_nil))))) pa_nil))))
  (pss_cons (ps_set (i := 7) sc_compile_protocol.nd rfl (Or.inl rfl) (pe_tup (pa_cons (pv 6) (pa_cons (pe_bmT PySem.F.slot_tuple_index PySem.F.type_tuple_index mt_tup_index (pe_fld (pv 0) rfl) (pa_cons (pe_fld (pv 0) rfl) pa_nil)) pa_nil))))
  (pss_cons (ps_setLc (i := 8) (own := [("pattern", 10)]) (g := gName 10) rfl sc_compile_protocol.nd rfl rfl (sw_true rfl rfl rfl (by decide +kernel)) (pi_tup (pe_fld (pv 0) rfl)) (blkOk_by (own := [("pattern", 10)]) (N := nm_compile_protocol) (sc := defScope s_compile_protocol) (by decide +kernel)) (fun _ _ _ _ _ => (pg_name (i := 10) sc_compile_protocol.nd rfl (Or.inl rfl))) (fun _ _ _ _ _ => pts_nil) (fun _ _ _ _ _ => (pe_c (c_goal_of T) hr (by decide) (by rfl) (pa_cons (pv 0) (pa_cons (pv 1) (pa_cons (pv 10) pa_nil))))))
  (pss_cons (ps_setLc (i := 9) (own := [("_", 11), ("letters", 12)]) (g := gTup K 2 (gCons (gName 11) (gCons (gName 12) (gNil)))) rfl sc_compile_protocol.nd rfl rfl (sw_true rfl rfl rfl (by decide +kernel)) (pi_tup (pe_fld (pv 0) rfl)) (blkOk_by (own := [("_", 11), ("letters", 12)]) (N := nm_compile_protocol) (sc := defScope s_compile_protocol) (by decide +kernel)) (fun _ _ _ _ _ => (pg_tup rfl (pgs_cons (pg_name (i := 11) sc_compile_protocol.nd rfl (Or.inl rfl)) (pgs_cons (pg_name (i := 12) sc_compile_protocol.nd rfl (Or.inl rfl)) pgs_nil)))) (fun _ _ _ _ _ => pts_nil) (fun _ _ _ _ _ => (pe_callB (call_len_seqK K) (by rfl) T.b_len PyB.boot_len (pa_cons (pv 12) pa_nil))))
  (pss_one (ps_ret (pe_tup (pa_cons (pe_mk (c_MailNet T) hr (by decide) (by rfl) (pa_cons (pe_mk (c_Net T) hr (by decide) (by rfl) (pa_cons (pe_callB call_len_seq (by rfl) T.b_len PyB.boot_len (pa_cons (pv 1) pa_nil)) (pa_cons (pv 2) pa_nil))) (pa_cons (pv 9) (pa_cons (pv 3) pa_nil)))) (pa_cons (pv 7) (pa_cons (pv 8) pa_nil)))))))))))))), ?_⟩
    refine ⟨_, rfl, _, S, rfl, hx, ok, fun a H1 s1 hpl dpl => ?_⟩
    refine ⟨by decide, fun l1 hl1 => ⟨by decide, fun l2 hl2 => ?_⟩⟩
    have n12 : l1 ≠ l2 := fun e => by rw [← e, upd_same] at hl2; cases hl2
    have G1 : Grown K H1 l1 [] (upd (upd H1 l1 (.lst [])) l2 (.lst [])) := (Grown.start hl1).mono (Same.upd hl2)
    have hl2' : H1 l2 = none := (Same.upd hl1).free hl2
    have G2 : Grown K H1 l2 [] (upd (upd H1 l1 (.lst [])) l2 (.lst [])) := ⟨G1.1, [], upd_same, rfl, .nil⟩
    generalize upd (upd H1 l1 (.lst [])) l2 (.lst []) = H2 at *
    have s2 := s1.trans G1.1
    -- the rules
    refine ⟨_, rfl, p, _, dx, fs, _, rfl, s2 _ _ hp, C, T.k_System.na _ (by simp), f4, br, rfl, ⟨_, Same.sqT s2 hbr⟩, for_tup (K := K) (a := br) (xs := vr) (fun i σ H' => ∃ w1 w2, σ = [some (.ref p), some (.ref a), some (.ref l1), some (.ref l2), w1, w2, none, none, none, none, none, none, none, none, none] ∧
      Grown K H1 l1 ((S.rules.take i).map fun r => dTr (trOf (placesOf S) r)) H' ∧ Grown K H1 l2 ((S.rules.take i).map fun _ => dAct0) H') ⟨none, none, rfl, G1, G2⟩ (fun i σ H' _ ⟨_, _, _, h, _⟩ => Same.sqT (s1.trans h.1) hbr) ?_ ?_⟩
    · rintro i rv σ H3 hi ⟨w1, w2, rfl, G1, G2⟩
      obtain ⟨r, hri, hrat⟩ := hvr.get hi
      have ro := ok.rs r (List.mem_of_getElem? hri)
      have c1 := vals_le1 ro.co
      have c2 := vals_le1 ro.ef
      have c3 := ro.a3
      have c4 := ro.bl
      have c5 := ro.el
      have s3 : Same H H3 := s1.trans G1.1
      have t3 : Same H1 H3 := G1.1
      refine ⟨_, rfl, _, rfl, _, r, rfl, hrat.same s3, by omega, by omega, fun p1 H4 s4 hp1 e1 => ?_⟩
      have t4 := t3.trans s4
      refine ⟨_, _, placesOf S, takenN r, rfl, Dp.same t4 dpl, .inl e1, nd, pok, h100, pl_taken ok ro, fun p2 H5 s5 hp2 e2 => ?_⟩
      have t5 := t4.trans s5
      obtain ⟨acc1, ha1, _⟩ := id G1.2
      have s35 := s4.trans s5
      refine ⟨_, rfl, .inl ⟨rfl, _, SqL.of (s35 _ _ ha1)⟩, _, rfl, _, rfl, _, rfl, _, r, rfl, hrat.same (s3.trans s35), by omega, by omega, by omega, by omega, fun p3 H6 s6 hp3 e3 => ?_⟩
      have t6 := t5.trans s6
      refine ⟨_, _, placesOf S, givenN r, rfl, Dp.same t6 dpl, .inl e3, nd, pok, h100, pl_given ok ro, fun p4 H7 s7 hp4 e4 => ?_⟩
      have t7 := t6.trans s7
      refine ⟨_, rfl, _, rfl, _, _, placesOf S, r, rfl, Dp.same t7 dpl, hrat.same (s3.trans (s35.trans (s6.trans s7))), nd, pok, by omega, pl_ev ro, by omega, by omega, by omega, pl_vars ok ro.ef, fun p5 H8 s8 hp5 e5 => ?_⟩
      refine ⟨by show 3 ≤ sizeLine; decide, fun t ht => ?_⟩
      have s9 := Same.upd (o := .tup [.ref p2, .ref p4, .ref p5]) ht
      have nt : (upd H8 t (.tup [.ref p2, .ref p4, .ref p5])) t = some (.tup [.ref p2, .ref p4, .ref p5]) := upd_same
      generalize upd H8 t (.tup [.ref p2, .ref p4, .ref p5]) = H9 at *
      have s39 := s35.trans (s6.trans (s7.trans (s8.trans s9)))
      have dtr : Dp K H9 (.ref t) (dTr (trOf (placesOf S) r)) := .tup (SqT.of nt) (.cons (Dp.ofInts (SqT.of ((s6.trans (s7.trans (s8.trans s9))) _ _ e2))) (.cons (Dp.ofInts (SqT.of ((s8.trans s9) _ _ e4))) (.cons (Dp.ofInts (SqT.of (s9 _ _ e5))) .nil)))
      have bnd : ((S.rules.take i).map fun r => dTr (trOf (placesOf S) r)).length < 1000 := by rw [List.length_map, List.length_take]; omega
      have bnd2 : ((S.rules.take i).map fun _ => dAct0).length < 1000 := by rw [List.length_map, List.length_take]; omega
      obtain ⟨acc, hacc, lacc, G1'⟩ := G1.more hl1 s39 (Dp.delL (s39 _ _ ha1) dtr (noL_tr _)) bnd
      refine ⟨l1, acc, _, rfl, rfl, hacc, lacc, ?_⟩
      have nl2 : noLs ((S.rules.take i).map fun _ => dAct0) = true := noLs_map _ (fun _ => rfl) _
      have G2' : Grown K H1 l2 ((S.rules.take i).map fun _ => dAct0) (upd H9 l1 (.lst (acc ++ [.ref t]))) := (G2.mono s39).upd2 hacc (Ne.symm n12) hl1 nl2
      generalize upd H9 l1 (.lst (acc ++ [.ref t])) = H10 at *
      have s10 : Same H1 H10 := G1'.1
      have hra := hrat.same (s1.trans s10)
      obtain ⟨pr, dxr, fr, e, hpr, FR⟩ := id hrat
      cases e
      have hpr10 := s10 _ _ (s1 _ _ hpr)
      obtain ⟨v7, g7, e7⟩ := FR.hears
      obtain ⟨v8, g8, e8⟩ := FR.sends
      obtain ⟨acc2, ha2, _⟩ := id G2'.2
      refine ⟨_, rfl, .inl ⟨rfl, _, SqL.of ha2⟩, _, rfl, _, rfl, pr, _, dxr, fr, _, rfl, hpr10, CR, T.k_Rule.na _ (by simp), g7, _, _, rfl, Dp.same (s1.trans s10) e7, fun q1 H11 s11 hq1 dq1 => ?_⟩
      refine ⟨_, rfl, _, rfl, pr, _, dxr, fr, _, rfl, s11 _ _ hpr10, CR, T.k_Rule.na _ (by simp), g8, _, _, rfl, Dp.same (s1.trans (s10.trans s11)) e8, fun q2 H12 s12 hq2 dq2 => ?_⟩
      refine ⟨by show 2 ≤ sizeLine; decide, fun t2 ht2 => ?_⟩
      have s13 := Same.upd (o := .tup [.ref q1, .ref q2]) ht2
      have nt2 : (upd H12 t2 (.tup [.ref q1, .ref q2])) t2 = some (.tup [.ref q1, .ref q2]) := upd_same
      generalize upd H12 t2 (.tup [.ref q1, .ref q2]) = H13 at *
      have s10' := s11.trans (s12.trans s13)
      have dac : Dp K H13 (.ref t2) dAct0 := .tup (SqT.of nt2) (.cons (Dp.same (s12.trans s13) dq1) (.cons (Dp.same s13 dq2) .nil))
      obtain ⟨acc3, hacc3, lacc3, G2''⟩ := G2'.more hl2' s10' (Dp.delL (s10' _ _ ha2) dac rfl) bnd2
      refine ⟨l2, acc3, _, rfl, rfl, hacc3, lacc3, ?_⟩
      have nl1 : noLs ((S.rules.take (i + 1)).map fun r => dTr (trOf (placesOf S) r)) = true := noLs_map _ (fun r => noL_tr _) _
      have e1 : ((S.rules.take i).map fun r => dTr (trOf (placesOf S) r)) ++ [dTr (trOf (placesOf S) r)] = (S.rules.take (i + 1)).map fun r => dTr (trOf (placesOf S) r) := by rw [take_snoc hri, List.map_append]; rfl
      have e2 : ((S.rules.take i).map fun _ => dAct0) ++ [dAct0] = (S.rules.take (i + 1)).map fun _ => dAct0 := by rw [take_snoc hri, List.map_append]; rfl
      rw [e1] at G1'
      rw [e2] at G2''
      exact ⟨_, _, rfl, (G1'.mono s10').upd2 hacc3 n12 hl2' nl1, G2''⟩
    rintro σ H3 ⟨w1, w2, rfl, G1, G2⟩
    rw [show S.rules.take vr.length = S.rules by rw [lr]; exact List.take_length] at G1 G2
    have s3 : Same H H3 := s1.trans G1.1
    have t3 := G1.1
    -- base
    refine ⟨_, rfl, _, rfl, p, _, dx, fs, _, rfl, s3 _ _ hp, C, T.k_System.na _ (by simp), f2, lc_dtG (K := K) (vs := [13, 14]) (Dp.same s3 d2) (by have := vars_le ok; omega) (fun v => some (dPr (v.1, v.2.headD ""))) ?_ ?_⟩
    · intro D hD i z v hv dz Hi R N s4 nD hR _
      obtain ⟨g, xs, rfl, hg, hxs⟩ := Dp.tupI dz
      obtain ⟨n, y, rfl, dn, dy⟩ := DpAll.i2 hxs
      obtain rfl := Dp.strI dn
      obtain ⟨b', rfl, hb'⟩ := Dp.strTI dy
      have h0 : (v.2.map V.str)[0]? = some (V.str (v.2.headD "")) := by
        have : 2 ≤ v.2.length := by
          rcases ok.v1 with e | ⟨z, zs, e, _, _, h2, _⟩
          · rw [e] at hv; simp at hv
          · rw [e] at hv
            cases List.mem_singleton.mp (List.mem_of_getElem? hv)
            exact h2
        cases e : v.2 with
        | nil => rw [e] at this; simp at this
        | cons a r => rfl
      refine ⟨g, _, rfl, Same.sqT s4 hg, rfl, _, _, rfl, _, _, rfl, rfl, rfl, ?_⟩
      refine yesT ?_
      exact ⟨_, rfl, _, rfl, b', _, (0 : Int), _, rfl, rfl, Same.sqT s4 hb', at_of (z := (0 : Int)) (j := 0) rfl h0, by show 2 ≤ sizeLine; decide, fun t ht => hR _ _ _ rfl (Same.upd ht) (prNew nD ht)⟩
    intro D H4 G4 hD
    rw [fm_map, map_map' (fun (v : Str × List Str) => (v.1, v.2.headD "")) dPr] at G4
    have t4 := t3.trans G4.1
    have hbase : ∀ n ∈ baseN S, n ∈ placesOf S := fun n hn => by
      obtain ⟨v, hv, rfl⟩ := List.mem_map.mp hn
      refine mem_pl.mpr (.inr ⟨v.2, hv, ?_⟩)
      rcases ok.v1 with e | ⟨z, zs, e, _, _, h2, _⟩
      · rw [e] at hv; cases hv
      · rw [e] at hv
        cases List.mem_singleton.mp hv
        match zs, h2 with
        | a :: r, _ => exact List.mem_cons_self
    refine ⟨_, _, placesOf S, baseN S, rfl, Dp.same t4 dpl, .inl G4.fin, nd, pok, h100, hbase, fun p1 H5 s5 hp1 e5 => ?_⟩
    have t5 := t4.trans s5
    have s5' := s1.trans t5
    -- start
    have d1' := d1.samD (Same.samD s5')
    have hst : S.states[S.states.idxOf S.start]? = some S.start := by
      have := List.idxOf_lt_length_of_mem ok.st
      rw [List.getElem?_eq_getElem this, List.getElem_idxOf]
    refine ⟨_, rfl, _, rfl, p, _, dx, fs, _, rfl, s5' _ _ hp, C, T.k_System.na _ (by simp), f1, ⟨as, _, rfl, d1'⟩, _, rfl, p, _, dx, fs, _, rfl, s5' _ _ hp, C, T.k_System.na _ (by simp), F.start, ?_⟩
    refine ⟨as, S.states, S.start, S.states.idxOf S.start, rfl, rfl, d1'.sqT, hst, fun m hm e => ?_, by show 2 ≤ sizeLine; decide, fun t ht => ?_⟩
    · have := nd_ix ok.nd e hst
      omega
    have s6 := Same.upd (o := .tup [.ref p1, .int (S.states.idxOf S.start : Nat)]) ht
    have dst : Dp K (upd H5 t (.tup [.ref p1, .int (S.states.idxOf S.start : Nat)])) (.ref t) (.tuple [dInts (cnt (placesOf S) (baseN S)), .int (S.states.idxOf S.start : Nat)]) := .tup (SqT.of upd_same) (.cons (Dp.ofInts (SqT.of (s6 _ _ e5))) (.cons (.int _) .nil))
    generalize upd H5 t (.tup [.ref p1, .int (S.states.idxOf S.start : Nat)]) = H6 at *
    have t6 := t5.trans s6
    have s6' := s1.trans t6
    -- goals
    obtain ⟨ab, xb, rfl, hab, hxb⟩ := Dp.tupI d5
    have lxb := DpAll.mapLen hxb
    have b4 := ok.b4
    refine ⟨_, rfl, p, _, dx, fs, _, rfl, s6' _ _ hp, C, T.k_System.na _ (by simp), f5, ab, rfl, ⟨_, Same.sqT s6' hab⟩, fun D2 hD2 => lc_tup (K := K) (a := ab) (xs := xb) (fun i H' => Same H6 H' ∧ ∃ acc, H' D2 = some (.lst acc) ∧ acc.length = i) ⟨Same.upd hD2, [], upd_same, rfl⟩ (fun i H' _ e => Same.sqT (s6'.trans e.1) hab) ?_ ?_⟩
    · rintro i z Hi hi ⟨s7, acc, hacc, lacc⟩
      obtain ⟨b, hb, dz⟩ := DpAll.item hxb hi
      have hlt := get_lt hi
      have bo := ok.bad b (List.mem_of_getElem? hb)
      refine ⟨rfl, ?_⟩
      refine yesT ?_
      refine ⟨_, rfl, _, rfl, _, rfl, _, _, z, S, placesOf S, b, rfl, hx.same (s6'.trans s7), Dp.same (t6.trans s7) dpl, Dp.same (s6'.trans s7) dz, nd, pok, h100, pl_vars ok bo.vo, fun e he => pl_state _ (bo.cm e he).1, fun p9 H9 s9 hp9 => ?_⟩
      exact ⟨acc, s9 _ _ hacc, small1000 (by omega), Same.put hD2 (s7.trans s9), _, upd_same, by rw [List.length_append, lacc]; rfl⟩
    rintro H7 ⟨s7, acc7, hacc7, lacc7⟩
    have t7 := t6.trans s7
    have s7' := s1.trans t7
    -- channels
    refine ⟨_, rfl, p, _, dx, fs, _, rfl, s7' _ _ hp, C, T.k_System.na _ (by simp), f3, lc_dt (K := K) (vs := [11, 12]) (l := ([] : List PyData)) (enc := fun d => d) (Dp.same s7' d3) (by decide) (fun d => some d) (fun D hD i z d hd' => by simp at hd') ?_⟩
    intro D3 H8 s8 hD3 hd8
    have t8 := t7.trans s8
    -- the nets
    have s38 : Same H3 H8 := G4.1.trans (s5.trans (s6.trans (s7.trans s8)))
    obtain ⟨_, xa, ea, hxa, dxa⟩ := Dp.lstI dpl
    cases ea
    have lxa := DpAll.mapLen dxa
    refine ⟨_, rfl, a, _, rfl, .inl (t8.seq hxa), _, rfl, fun n dn hn hdn hne => ?_⟩
    have sn : Same H8 (upd (upd H8 dn (.own n)) n (.ins (ga K "Net") dn [])) := (Same.upd hdn).trans (Same.upd (by rw [upd_ne (Ne.symm hne)]; exact hn))
    refine ⟨n, dn, .ref l1, netOf S, by rw [lxa]; rfl, upd_same, ?_, netOk ok, fun H9 b9 N9 => ⟨rfl, ?_⟩⟩
    · have := Dp.same (s38.trans sn) G1.fin
      show Dp K _ (.ref l1) (.list ((S.rules.map (trOf (placesOf S))).map dTr))
      rw [List.map_map]
      exact this
    have s89 : Same H8 H9 := But.same hn hdn b9
    have s39 := s38.trans s89
    refine ⟨_, rfl, _, rfl, fun m dm hm hdm hne2 => ?_⟩
    have sm : Same H9 (upd (upd H9 dm (.own m)) m (.ins (ga K "MailNet") dm [])) := (Same.upd hdm).trans (Same.upd (by rw [upd_ne (Ne.symm hne2)]; exact hm))
    have lt : (netOf S).trs.length = S.rules.length := List.length_map ..
    refine ⟨m, dm, .ref n, .ref D3, .ref l2, netOf S, rfl, upd_same, N9.same sm, Dp.same (s89.trans sm) hd8, ?_, by rw [lt]; omega, fun H10 b10 M10 => ⟨rfl, ?_⟩⟩
    · have := Dp.same (s39.trans sm) G2.fin
      rw [lt]
      have e : (List.replicate S.rules.length ()).map (fun _ => dAct0) = S.rules.map fun _ => dAct0 := by
        rw [List.map_replicate]
        exact (List.map_const' ..).symm
      rw [e]
      exact this
    have s9x : Same H9 H10 := But.same hm hdm b10
    have s3x := s39.trans s9x
    refine ⟨_, rfl, _, rfl, by show 3 ≤ sizeLine; decide, fun t9 ht9 => ?_⟩
    have s10 := Same.upd (o := .tup [.ref m, .ref t, .ref D2]) ht9
    have sall : Same H (upd H10 t9 (.tup [.ref m, .ref t, .ref D2])) := s1.trans (t3.trans (s3x.trans s10))
    refine q t9 _ sall ((s1.trans (t3.trans s3x)).free ht9) ⟨.ref m, .ref t, .ref D2, SqT.of upd_same, M10.same s10, ?_⟩
    exact Dp.same (s7.trans (s8.trans (s89.trans (s9x.trans s10)))) dst
end
end C62
set_option Elab.async false
set_option linter.all false
set_option maxRecDepth 100000
set_option maxHeartbeats 4000000
namespace C62
open PySem PySem.Spec PyProof.Rows L2
open He (ga ma)
/-! ### graphs -/
abbrev dIntL (ns : List Int) : PyData := .list (ns.map .int)
theorem Dp.intLI {K : PySem.W.Frag} {H : Hp} {v : V} {ns : List Int} (h : Dp K H v (dIntL ns)) : ∃ a, v = .ref a ∧ SqL K H a (ns.map V.int) := by
  obtain ⟨a, xs, rfl, hs, ha⟩ := Dp.lstI h
  exact ⟨a, rfl, by rw [← DpAll.ints ha]; exact hs⟩
def GraphAt (K : PySem.W.Frag) (H : Hp) (v : V) (Fs Rs : List (List Int)) : Prop := ∃ (a dx : Addr) (fs : List (Str × V)) (u1 u2 : V), v = .ref a ∧ H a = some (.ins (ga K "Graph") dx fs) ∧ fs.lookup ("markings" : Str) = some u1 ∧ Dp K H u1 (.tuple (Fs.map dInts)) ∧
  fs.lookup ("moves" : Str) = some u2 ∧ Dp K H u2 (.tuple (Rs.map dInts))
theorem GraphAt.same {K : PySem.W.Frag} {H H' : Hp} {v : V} {Fs Rs : List (List Int)} (e : Same H H') : GraphAt K H v Fs Rs → GraphAt K H' v Fs Rs
  | ⟨a, dx, fs, u1, u2, h1, h2, h3, h4, h5, h6⟩ => ⟨a, dx, fs, u1, u2, h1, e _ _ h2, h3, Dp.same e h4, h5, Dp.same e h6⟩
def spGraphInit (K : PySem.W.Frag) : Sp := fun vs H Q _ => ∃ (p dx : Addr) (y z : V) (Fs Rs : List (List Int)), vs = [.ref p, y, z] ∧ H p = some (.ins (ga K "Graph") dx []) ∧ Dp K H y (.list (Fs.map dInts)) ∧ Dp K H z (.list (Rs.map dIntL)) ∧ Fs.length < 1000 ∧ Rs.length < 1000 ∧
  ∀ H', But p H H' → GraphAt K H' (.ref p) Fs Rs → Q .non H'
section
variable {P : Program} {w : World} {K : PySem.W.Frag} {mg : Str → Option Value} {base : Heap}
theorem c_Graph (T : Txt K mg) : Ini P w K mg base 1 "Graph" (spGraphInit K) := by
  refine T.k_Graph.ini sc_Graph_init (fun _ _ _ _ _ _ us hl => match us, hl with | [_, _, _], _ => rfl) (fun vs H Q E h => ?_) (fun f cdv A outer s H vs Q E hr h => ?_)
  · obtain ⟨p, dx, y, z, Fs, Rs, rfl, _⟩ := h
    rfl
  · obtain ⟨p, dx, y, z, Fs, Rs, rfl, hp, hy, hz, lF, lR, kq⟩ := h
    have C := T.k_Graph.cl
    have h0 : Held K H p (ga K "Graph") dx [] H := ⟨hp, But.refl _ _⟩
    refine ⟨_, (pss_cons (ps_fld (pv 0) (pe_callTy call_tuple_of (by rfl) T.b_tuple PyB.boot_tuple (pa_cons (pe_lc (own := [("marking", 3)]) (g := gName 3) rfl sc_Graph_init.nd (pi_list (pv 1)) (blkOk_by (own := [("marking", 3)]) (N := nm_Graph_init) (sc := defScope s_Graph_init) (by decide +kernel)) (fun _ _ _ _ _ => (pg_name (i := 3) sc_Graph_init.nd rfl (Or.inl rfl))) (fun _ _ _ _ _ => pts_nil) (fun _ _ _ _ _ => (pe_callTy (call_tuple_ofK K) (by rfl) T.b_tuple PyB.boot_tuple (pa_cons (pv 3) pa_nil)))) pa_nil)) rfl)
  (pss_one (ps_fld (pv 0) (pe_callTy call_tuple_of (by rfl) T.b_tuple PyB.boot_tuple (pa_cons (pe_lc (own := [("row", 4)]) (g := gName 4) rfl sc_Graph_init.nd (pi_list (pv 2)) (blkOk_by (own := [("row", 4)]) (N := nm_Graph_init) (sc := defScope s_Graph_init) (by decide +kernel)) (fun _ _ _ _ _ => (pg_name (i := 4) sc_Graph_init.nd rfl (Or.inl rfl))) (fun _ _ _ _ _ => pts_nil) (fun _ _ _ _ _ => (pe_callTy (call_tuple_ofK K) (by rfl) T.b_tuple PyB.boot_tuple (pa_cons (pv 4) pa_nil)))) pa_nil)) rfl))), ?_⟩
    refine ⟨_, rfl, lc_dlG (K := K) (vs := [3]) hy (by omega) (fun m => some (dInts m)) ?_ ?_⟩
    · intro D hD i x m hm dx' Hi R N s1 nD hR _
      obtain ⟨b, rfl, hb⟩ := Dp.intsI dx'
      refine ⟨rfl, ?_⟩
      refine yesT ?_
      exact ⟨_, rfl, b, _, rfl, .inr ⟨Same.sqT s1 hb, hR _ _ _ rfl (Same.refl _) (Dp.same (Same.del hD s1) dx')⟩⟩
    intro D H1 G1 hD
    rw [fm_map] at G1
    obtain ⟨s1, acc, hacc, lacc, dacc⟩ := G1
    refine ⟨D, _, rfl, .inl ⟨SqL.of hacc, fun l hl => ?_⟩⟩
    have s2 : Same H1 (upd H1 l (.tup acc)) := Same.upd hl
    have d2 : Dp K (upd H1 l (.tup acc)) (.ref l) (.tuple (Fs.map dInts)) := .tup (SqT.of upd_same) (DpAll.same (Same.ofDel.trans s2) dacc)
    have s12 := s1.trans s2
    generalize upd H1 l (.tup acc) = H2 at *
    refine ⟨_, rfl, p, _, dx, [], rfl, s12 _ _ hp, C, T.k_Graph.na _ (by simp), by decide, ?_⟩
    obtain ⟨h1, m1, w1⟩ := fld_step h0 (u := .ref l) s12 ("markings" : Str)
    have z1 : (putF ("markings" : Str) (V.ref l) []).length ≤ 1 := putF_len ("markings" : Str) (V.ref l) []
    have n1 : (putF ("markings" : Str) (V.ref l) []).lookup ("markings" : Str) = some (V.ref l) := lk_eq
    have d3 := Dp.samD w1 d2
    have hz3 := Dp.samD m1 hz
    generalize upd H2 p (.ins (ga K "Graph") dx (putF ("markings" : Str) (V.ref l) [])) = H3 at *
    generalize putF ("markings" : Str) (V.ref l) [] = fs1 at *
    refine ⟨_, rfl, lc_dlG (K := K) (vs := [4]) hz3 (by omega) (fun m => some (dInts m)) ?_ ?_⟩
    · intro D hD i x m hm dx' Hi R N s1 nD hR _
      obtain ⟨b, rfl, hb⟩ := Dp.intLI dx'
      refine ⟨rfl, ?_⟩
      refine yesT ?_
      refine ⟨_, rfl, b, _, rfl, .inl ⟨s1.seq hb, fun l hl => hR _ _ _ rfl (Same.upd hl) ?_⟩⟩
      have tD : l ≠ D := fun e => nD (e ▸ hl)
      exact Dp.ofInts (SqT.of (by rw [del_ne tD]; exact upd_same))
    intro D2 H4 G4 hD2
    rw [fm_map] at G4
    obtain ⟨s4, acc4, hacc4, lacc4, dacc4⟩ := G4
    refine ⟨D2, _, rfl, .inl ⟨SqL.of hacc4, fun l2 hl2 => ?_⟩⟩
    have s5 : Same H4 (upd H4 l2 (.tup acc4)) := Same.upd hl2
    have d5 : Dp K (upd H4 l2 (.tup acc4)) (.ref l2) (.tuple (Rs.map dInts)) := .tup (SqT.of upd_same) (DpAll.same (Same.ofDel.trans s5) dacc4)
    have s45 := s4.trans s5
    generalize upd H4 l2 (.tup acc4) = H5 at *
    refine ⟨_, rfl, p, _, dx, fs1, rfl, s45 _ _ h1.at_, C, T.k_Graph.na _ (by simp), by omega, ?_⟩
    obtain ⟨h6, m6, w6⟩ := fld_step h1 (u := .ref l2) s45 ("moves" : Str)
    have n6 : (putF ("moves" : Str) (V.ref l2) fs1).lookup ("markings" : Str) = some (V.ref l) := (lk_ne (by decide +kernel)).trans n1
    have n7 : (putF ("moves" : Str) (V.ref l2) fs1).lookup ("moves" : Str) = some (V.ref l2) := lk_eq
    have d6 := Dp.samD w6 d5
    have d7 := Dp.samD m6 d3
    exact kq _ h6.but ⟨p, dx, _, _, _, rfl, h6.at_, n6, d7, n7, d6⟩
end
/-! ### the markings by their numbers -/
def kM (m : List Int) : List Key := m.map .inl
theorem kM_inj {m n : List Int} (h : kM m = kM n) : m = n := by
  unfold kM at h
  exact (List.map_inj_right (fun a b e => by injection e)).mp h
def kvsF : Nat → List (List Int) → List (List Key × V)
  | _, [] => []
  | n, m :: r => (kM m, V.int n) :: kvsF (n + 1) r
theorem kvsF_len : ∀ (n : Nat) (Fs : List (List Int)), (kvsF n Fs).length = Fs.length
  | _, [] => rfl
  | n, m :: r => congrArg Nat.succ (kvsF_len (n + 1) r)
theorem kvsF_app : ∀ (n : Nat) (Fs : List (List Int)) (m : List Int), kvsF n (Fs ++ [m]) = kvsF n Fs ++ [(kM m, V.int ((n + Fs.length : Nat)))]
  | n, [], m => rfl
  | n, x :: r, m => by
    show (kM x, V.int n) :: kvsF (n + 1) (r ++ [m]) = _
    rw [kvsF_app (n + 1) r m]
    show _ :: (_ ++ [(kM m, V.int ((n + 1 + r.length : Nat)))]) = _ :: (_ ++ [(kM m, V.int ((n + (r.length + 1) : Nat)))])
    rw [show n + 1 + r.length = n + (r.length + 1) by omega]
theorem kvsF_none : ∀ {n : Nat} {Fs : List (List Int)} {m : List Int}, m ∉ Fs → valV (kvsF n Fs) (kM m) = none
  | _, [], _, _ => rfl
  | n, x :: r, m, h => by
    have h1 : m ≠ x := fun e => h (e ▸ List.mem_cons_self)
    have h2 := kvsF_none (n := n + 1) fun e => h (List.mem_cons_of_mem x e)
    show valV ((kM x, V.int n) :: kvsF (n + 1) r) (kM m) = none
    rw [valV_neg fun e => h1 (kM_inj e).symm]
    exact h2
theorem kvsF_some : ∀ {n : Nat} {Fs : List (List Int)} {m : List Int} {j : Nat}, Fs.Nodup → Fs[j]? = some m → valV (kvsF n Fs) (kM m) = some (.int ((n + j : Nat)))
  | _, [], _, _, _, h => by simp at h
  | n, x :: r, m, 0, _, h => by
    simp at h; subst h
    show valV ((kM x, V.int n) :: kvsF (n + 1) r) (kM x) = _
    rw [valV_pos rfl]
    rfl
  | n, x :: r, m, j + 1, nd, h => by
    rw [List.nodup_cons] at nd
    have hm : r[j]? = some m := by simpa using h
    have h1 : m ≠ x := fun e => nd.1 (e ▸ List.mem_of_getElem? hm)
    have h2 := kvsF_some (n := n + 1) nd.2 hm
    show valV ((kM x, V.int n) :: kvsF (n + 1) r) (kM m) = _
    rw [valV_neg fun e => h1 (kM_inj e).symm, h2, show n + 1 + j = n + (j + 1) by omega]
theorem kM_kV (m : List Int) : (kM m).map kV = m.map V.int := by
  unfold kM
  rw [List.map_map]
  rfl
theorem putK_new {kvs : List (List Key × V)} {k : List Key} {v : V} (h : valV kvs k = none) : putK kvs k v = kvs ++ [(k, v)] := by
  unfold putK
  rw [if_neg]
  intro e
  obtain ⟨p, hp, hk⟩ := List.any_eq_true.mp e
  unfold valV at h
  rw [Option.map_eq_none_iff, List.find?_eq_none] at h
  exact h p hp hk
end C62
set_option Elab.async false
set_option linter.all false
set_option maxRecDepth 100000
set_option maxHeartbeats 4000000
namespace C62
open PySem PySem.Spec PyProof.Rows L2
open He (ga ma)
/-! ### reachable markings -/
inductive Rch {α : Type} (R : α → α → Prop) (a : α) : α → Prop
  | refl : Rch R a a
  | tail {b c : α} : Rch R a b → R b c → Rch R a c
theorem Rch.trans {α : Type} {R : α → α → Prop} {a b c : α} (h1 : Rch R a b) (h2 : Rch R b c) : Rch R a c := by
  induction h2 with
  | refl => exact h1
  | tail _ s ih => exact ih.tail s
theorem Rch.head {α : Type} {R : α → α → Prop} {a b c : α} (h1 : R a b) (h2 : Rch R b c) : Rch R a c := (Rch.refl.tail h1).trans h2
def succM (N : NetD) (m : List Int) (t : Nat) : Option (List Int) := match N.trs[t]? with
  | none => none
  | some tr => if coversB m tr.1 = true then some (fireM N.n m tr) else none
def stpM (N : NetD) (m m' : List Int) : Prop := ∃ t, succM N m t = some m'
def RowAt (N : NetD) (Fs : List (List Int)) (m : List Int) (row : List Int) (s : Nat) : Prop :=
  (succM N m s = none → row[s]? = some (-1)) ∧ ∀ m', succM N m s = some m' → ∃ j : Nat, row[s]? = some (j : Int) ∧ Fs[j]? = some m'
def RowPre (N : NetD) (Fs : List (List Int)) (m : List Int) (t : Nat) (row : List Int) : Prop := row.length = t ∧ ∀ s, s < t → RowAt N Fs m row s
structure ExpInv (N : NetD) (m0 : List Int) (limit : Nat) (Fs Rs : List (List Int)) : Prop where
  nd : Fs.Nodup
  h0 : Fs[0]? = some m0
  le : Fs.length ≤ limit
  len : ∀ m ∈ Fs, m.length = N.n
  rch : ∀ m ∈ Fs, Rch (stpM N) m0 m
  rows : ∀ (k : Nat) (row : List Int), Rs[k]? = some row → ∃ m, Fs[k]? = some m ∧ RowPre N Fs m N.trs.length row
theorem get_app {α : Type} {l r : List α} {j : Nat} {x : α} (h : l[j]? = some x) : (l ++ r)[j]? = some x := by
  rw [List.getElem?_append_left (get_lt h)]; exact h
theorem RowAt.ext {N : NetD} {Fs r : List (List Int)} {m row e : List Int} {s : Nat} (h : RowAt N Fs m row s) : RowAt N (Fs ++ r) m (row ++ e) s :=
  ⟨fun z => get_app (h.1 z), fun m' z => let ⟨j, h1, h2⟩ := h.2 m' z; ⟨j, get_app h1, get_app h2⟩⟩
theorem RowPre.ext {N : NetD} {Fs r : List (List Int)} {m row : List Int} {t : Nat} (h : RowPre N Fs m t row) : RowPre N (Fs ++ r) m t row :=
  ⟨h.1, fun s hs => by have := (h.2 s hs).ext (r := r) (e := []); rw [List.append_nil] at this; exact this⟩
theorem RowPre.no {N : NetD} {Fs : List (List Int)} {m row : List Int} {t : Nat} (h : RowPre N Fs m t row) (z : succM N m t = none) : RowPre N Fs m (t + 1) (row ++ [-1]) := by
  refine ⟨by rw [List.length_append, h.1]; rfl, fun s hs => ?_⟩
  by_cases e : s < t
  · have := (h.2 s e).ext (r := []) (e := [-1]); rw [List.append_nil] at this; exact this
  · obtain rfl : s = t := by omega
    refine ⟨fun _ => by rw [List.getElem?_append_right (by rw [h.1]; exact Nat.le_refl _), h.1, Nat.sub_self]; rfl, fun m' z' => ?_⟩
    rw [z] at z'; cases z'
theorem RowPre.yes {N : NetD} {Fs : List (List Int)} {m row m' : List Int} {t j : Nat} (h : RowPre N Fs m t row) (z : succM N m t = some m') (hj : Fs[j]? = some m') : RowPre N Fs m (t + 1) (row ++ [(j : Int)]) := by
  refine ⟨by rw [List.length_append, h.1]; rfl, fun s hs => ?_⟩
  by_cases e : s < t
  · have := (h.2 s e).ext (r := []) (e := [(j : Int)]); rw [List.append_nil] at this; exact this
  · obtain rfl : s = t := by omega
    refine ⟨fun z' => (by rw [z] at z'; cases z'), fun m2 z' => ?_⟩
    rw [z] at z'; cases z'
    exact ⟨j, by rw [List.getElem?_append_right (by rw [h.1]; exact Nat.le_refl _), h.1, Nat.sub_self]; rfl, hj⟩
theorem ExpInv.ext {N : NetD} {m0 : List Int} {limit : Nat} {Fs Rs : List (List Int)} {m' : List Int} (h : ExpInv N m0 limit Fs Rs) (hn : m' ∉ Fs) (hl : Fs.length < limit) (hr : Rch (stpM N) m0 m') (hz : m'.length = N.n) : ExpInv N m0 limit (Fs ++ [m']) Rs := by
  refine ⟨?_, get_app h.h0, by rw [List.length_append]; exact hl, fun m hm => ?_, fun m hm => ?_, fun k row hk => ?_⟩
  · rw [List.nodup_append]
    refine ⟨h.nd, by simp, fun a ha b hb e => ?_⟩
    rw [List.mem_singleton] at hb
    subst hb; subst e
    exact hn ha
  · rcases List.mem_append.mp hm with e | e
    · exact h.len m e
    · rw [List.mem_singleton.mp e]; exact hz
  · rcases List.mem_append.mp hm with e | e
    · exact h.rch m e
    · rw [List.mem_singleton.mp e]; exact hr
  · obtain ⟨m, h1, h2⟩ := h.rows k row hk
    exact ⟨m, get_app h1, h2.ext⟩
theorem ExpInv.row {N : NetD} {m0 : List Int} {limit : Nat} {Fs Rs : List (List Int)} {m row : List Int} (h : ExpInv N m0 limit Fs Rs) (hm : Fs[Rs.length]? = some m) (hr : RowPre N Fs m N.trs.length row) : ExpInv N m0 limit Fs (Rs ++ [row]) := by
  refine ⟨h.nd, h.h0, h.le, h.len, h.rch, fun k r hk => ?_⟩
  by_cases e : k < Rs.length
  · rw [List.getElem?_append_left e] at hk
    exact h.rows k r hk
  · have hlt := get_lt hk
    rw [List.length_append, List.length_singleton] at hlt
    obtain rfl : k = Rs.length := by omega
    rw [List.getElem?_append_right (Nat.le_refl _), Nat.sub_self] at hk
    cases hk
    exact ⟨m, hm, hr⟩
def ExpOk (N : NetD) (m0 : List Int) (limit : Nat) (Fs Rs : List (List Int)) : Prop := ExpInv N m0 limit Fs Rs ∧ Rs.length = Fs.length
def ExpBad (N : NetD) (m0 : List Int) (limit : Nat) : Prop := ∃ Fs : List (List Int), Fs.Nodup ∧ Fs.length = limit + 1 ∧ ∀ m ∈ Fs, Rch (stpM N) m0 m
theorem ExpInv.bad {N : NetD} {m0 : List Int} {limit : Nat} {Fs Rs : List (List Int)} {m' : List Int} (h : ExpInv N m0 limit Fs Rs) (hn : m' ∉ Fs) (hl : Fs.length = limit) (hr : Rch (stpM N) m0 m') : ExpBad N m0 limit := by
  refine ⟨Fs ++ [m'], ?_, by rw [List.length_append, hl]; rfl, fun m hm => ?_⟩
  · rw [List.nodup_append]
    refine ⟨h.nd, by simp, fun a ha b hb e => ?_⟩
    rw [List.mem_singleton] at hb
    subst hb; subst e
    exact hn ha
  · rcases List.mem_append.mp hm with e | e
    · exact h.rch m e
    · rw [List.mem_singleton.mp e]; exact hr
theorem fireM_len {n : Nat} {m : List Int} {tr : TrD} (ok : TrOk n tr) : (fireM n m tr).length = n := by unfold fireM; rw [fireFold_len, ok.l2]
/-! ### the heap without some lists -/
def wo (L : List Addr) (H : Hp) : Hp := fun b => if b ∈ L then none else H b
theorem wo_ne {L : List Addr} {H : Hp} {b : Addr} (h : b ∉ L) : wo L H b = H b := if_neg h
theorem wo_in {L : List Addr} {H : Hp} {b : Addr} (h : b ∈ L) : wo L H b = none := if_pos h
theorem wo_upd {L : List Addr} {H : Hp} {a : Addr} {o : HO} (h : a ∈ L) : wo L (upd H a o) = wo L H := by
  funext b
  by_cases e : b ∈ L
  · rw [wo_in e, wo_in e]
  · rw [wo_ne e, wo_ne e]
    exact upd_ne fun z => e (by rw [z]; exact h)
theorem Same.wo {L : List Addr} {H H' : Hp} (s : Same H H') : Same (C62.wo L H) (C62.wo L H') := fun b o e => by
  by_cases q : b ∈ L
  · rw [wo_in q] at e; cases e
  · rw [wo_ne q] at e ⊢; exact s _ _ e
theorem Same.ofWo {L : List Addr} {H : Hp} : Same (C62.wo L H) H := fun b o e => by
  by_cases q : b ∈ L
  · rw [wo_in q] at e; cases e
  · rw [wo_ne q] at e; exact e
theorem Same.woNew {L : List Addr} {H H' : Hp} {a : Addr} (ha : H a = none) (s : Same H H') : Same (C62.wo L H) (C62.wo (a :: L) H') := fun b o e => by
  by_cases q : b ∈ L
  · rw [wo_in q] at e; cases e
  · rw [wo_ne q] at e
    rw [wo_ne (fun z => (List.mem_cons.mp z).elim (fun z => by rw [z, ha] at e; cases e) q)]
    exact s _ _ e
theorem Same.woDrop {L : List Addr} {H : Hp} {a : Addr} : Same (C62.wo (a :: L) H) (C62.wo L H) := fun b o e => by
  by_cases q : b ∈ a :: L
  · rw [wo_in q] at e; cases e
  · rw [wo_ne q] at e
    rw [wo_ne fun z => q (List.mem_cons_of_mem _ z)]
    exact e
theorem Same.toWo {L : List Addr} {H0 H : Hp} (hL : ∀ b ∈ L, H0 b = none) (s : Same H0 H) : Same H0 (C62.wo L H) := fun b o e => by
  rw [wo_ne fun q => by rw [hL b q] at e; cases e]
  exact s _ _ e
end C62
set_option Elab.async false
set_option linter.all false
set_option maxRecDepth 100000
set_option maxHeartbeats 4000000
namespace C62
open PySem PySem.Spec PyProof.Rows L2
open He (ga ma)
/-! ### a def that may raise -/
section
variable {P : Program} {w : World} {K : PySem.W.Frag} {mg : Str → Option Value} {base : Heap}
structure CalX (P : Program) (w : World) (K : PySem.W.Frag) (mg : Str → Option Value) (base : Heap) (k : Nat) (x : Str) (sp : Sp) : Prop where
  ex : ∃ (f : Addr) (fd : FuncData) (ps : List Str), FnOk P w K mg base (L2.CX P w) k f fd ps sp ∧ mg x = some (.ref f) ∧ PySem.W.keepIn K (.ref f) = true ∧ Binds K fd ps []
theorem FnG.calX {g x : Str} {st : Stmt} {N ps : List Str} {k : Nat} {sp : Sp} (T : FnG K mg g x st) (S : FnScope N ps (defScope st))
    (hb : ∀ (kV doc pm : Value) (an : Option Addr) (cdv ct : Value) (us : List Value), us.length = ps.length → bindArgs (PySem.W.fnOf x x (defArgs st) (defBody st) (defScope st) .none kV doc pm an cdv ct) ⟨us, []⟩ = pure (ps.zip us))
    (len : ∀ vs H Q E, sp vs H Q E → vs.length = ps.length)
    (body : ∀ (f : Addr) (cdv : Value) (A : Around) (outer : List Env) (s : Shared) (H : Hp) (vs : List V) (Q : VK) (E : XK), Room k (A.deeper (envOfC x (defScope st) s.heap.objs.size f cdv)) → sp vs H Q E →
      ∃ t, PSs (cxOf (L2.CX P w) P w K mg base N x (defScope st) f cdv A outer s H E) (defBody st) t ∧ t { nx := fun _ H' => Q .non H', rt := Q } (start N vs) H) : CalX P w K mg base (k + 1) g sp := by
  obtain ⟨fd, F⟩ := T.fn
  exact ⟨_, fd, ps, F.okX S len (body _), T.at_, F.kp, F.binds hb⟩
end
section
variable {X : Cx} {k j : Nat} {x : Str} {sp : Sp} {p pos : Pos} {e : Expr} {es : List Expr} {t : TA} {W : WX} {E : XK}
theorem pe_cX (c : CalX X.prog X.w X.K X.mg X.base k x sp) (hr : Room j X.A) (hk : k ≤ j) (hg : Gl X x) (tk : Takes X W) (hW : ∀ cls d σ H, E cls d H → W cls d σ H) (ha : PA X (e :: es) t)
    (hdb : (x == ("__debug__" : Str)) = false := by decide) (he : starEach (e :: es) X.env = (false, eval e X.env) :: starEach es X.env := by rfl) (hpl : (backTo pos (starEach es X.env)).any (·.1) = false := by rfl) :
    PE X (.Call (.Name x p) (e :: es) [] pos) (tCall sp [] E t) := by
  obtain ⟨f, fd, ps, F, hm, kp, b⟩ := c.ex
  exact pe_call F (hr.mono hk) hg hm kp b .nil (passes_call tk hW) ha hdb he hpl
end
/-! ### explore -/
def spExplore (K : PySem.W.Frag) : Sp := fun vs H Q E => ∃ (x : V) (m : Addr) (N : NetD) (m0 : List Int) (limit : Nat), vs = [x, .ref m, .int limit] ∧ NetAt K H x N ∧ NetOk N ∧ H m = some (.tup (m0.map V.int)) ∧ m0.length = N.n ∧ 1 ≤ limit ∧ limit ≤ 40 ∧
  (∀ v H' Fs Rs, Same H H' → GraphAt K H' v Fs Rs → ExpOk N m0 limit Fs Rs → Q v H') ∧ ∀ H', Same H H' → ExpBad N m0 limit → E (.ref (ga K "TooMany")) none H'
/-- the state of the search between two rows -/
structure ExpSt (K : PySem.W.Frag) (H0 : Hp) (L : List Addr) (l d mv : Addr) (N : NetD) (m0 : List Int) (limit : Nat) (Fs Rs : List (List Int)) (H : Hp) : Prop where
  same : Same H0 H
  inv : ExpInv N m0 limit Fs Rs
  fa : ∃ fa, H l = some (.lst fa) ∧ DpAll K (wo L H) fa (Fs.map dInts)
  ds : H d = some (.dT (kvsF 0 Fs))
  ma : ∃ ma, H mv = some (.lst ma) ∧ DpAll K (wo L H) ma (Rs.map dIntL)
section
variable {K : PySem.W.Frag} {H0 H H' : Hp} {L : List Addr} {l d mv rl : Addr} {N : NetD} {m0 : List Int} {limit : Nat} {Fs Rs : List (List Int)}
theorem ExpSt.alloc (h : ExpSt K H0 L l d mv N m0 limit Fs Rs H) (s : Same H H') : ExpSt K H0 L l d mv N m0 limit Fs Rs H' :=
  let ⟨fa, a1, a2⟩ := h.fa
  let ⟨ma, b1, b2⟩ := h.ma
  ⟨h.same.trans s, h.inv, ⟨fa, s _ _ a1, DpAll.same (Same.wo s) a2⟩, s _ _ h.ds, ⟨ma, s _ _ b1, DpAll.same (Same.wo s) b2⟩⟩
theorem ExpSt.row {o : HO} (h : ExpSt K H0 L l d mv N m0 limit Fs Rs H) (hr : rl ∈ L) (h0 : H0 rl = none) (n1 : l ≠ rl) (n2 : d ≠ rl) (n3 : mv ≠ rl) : ExpSt K H0 L l d mv N m0 limit Fs Rs (upd H rl o) :=
  let ⟨fa, a1, a2⟩ := h.fa
  let ⟨ma, b1, b2⟩ := h.ma
  ⟨Same.put h0 h.same, h.inv, ⟨fa, by rw [upd_ne n1]; exact a1, by rw [wo_upd hr]; exact a2⟩, by rw [upd_ne n2]; exact h.ds, ⟨ma, by rw [upd_ne n3]; exact b1, by rw [wo_upd hr]; exact b2⟩⟩
theorem ExpSt.open (h : ExpSt K H0 L l d mv N m0 limit Fs Rs H) (hn : H rl = none) (s : Same H H') : ExpSt K H0 (rl :: L) l d mv N m0 limit Fs Rs H' :=
  let ⟨fa, a1, a2⟩ := h.fa
  let ⟨ma, b1, b2⟩ := h.ma
  ⟨h.same.trans s, h.inv, ⟨fa, s _ _ a1, DpAll.same (Same.woNew hn s) a2⟩, s _ _ h.ds, ⟨ma, s _ _ b1, DpAll.same (Same.woNew hn s) b2⟩⟩
end
section
variable {P : Program} {w : World} {K : PySem.W.Frag} {mg : Str → Option Value} {base : Heap}
theorem c_explore (T : Txt K mg) : CalX P w K mg base 4 "explore" (spExplore K) := by
  refine T.f_explore.calX sc_explore (fun _ _ _ _ _ _ us hl => match us, hl with | [_, _, _], _ => rfl) (fun vs H Q E h => ?_) (fun f cdv A outer s H vs Q E hr h => ?_)
  · obtain ⟨x, m, N, m0, limit, rfl, _⟩ := h
    rfl
  · obtain ⟨x, m, N, m0, limit, rfl, hN, nok, hm, lm, l1, l40, kq, ke⟩ := h
    have hu := hu_of hr
    obtain ⟨an, dxn, fn, un, rfl, han, fn1, fn2, dn⟩ := id hN
    obtain ⟨bt, xt, rfl, hbt, hxt⟩ := Dp.tupI dn
    have lxt := DpAll.mapLen hxt
    have n12 := nok.n2
    have nts := nok.ts
    refine ⟨_, (pss_cons (ps_set (i := 3) sc_explore.nd rfl (Or.inl rfl) (pe_lst (pa_cons (pe_callTy call_tuple_of (by rfl) T.b_tuple PyB.boot_tuple (pa_cons (pv 1) pa_nil)) pa_nil)))
  (pss_cons (ps_set (i := 4) sc_explore.nd rfl (Or.inl rfl) (pe_disp1T hu (pe_ix ix_list (pv 3) pe_int (fun _ _ => rfl)) pe_int))
  (pss_cons (ps_set (i := 5) sc_explore.nd rfl (Or.inl rfl) (pe_lst pa_nil))
  (pss_cons (ps_set (i := 6) sc_explore.nd rfl (Or.inl rfl) pe_int)
  (pss_cons (ps_while (passes_of rfl) (pt_cmpR op_lt (pv 6) (pe_callB call_len_seq (by rfl) T.b_len PyB.boot_len (pa_cons (pv 3) pa_nil)) (nomark _)) (pss_cons (ps_set (i := 7) sc_explore.nd rfl (Or.inl rfl) (pe_lst pa_nil))
  (pss_cons (ps_for (passes_of rfl) rfl (pi_range1 rfl T.b_range (pa_cons (pe_callB call_len_seq (by rfl) T.b_len PyB.boot_len (pa_cons (pe_fld (pv 0) rfl) pa_nil)) pa_nil)) (pg_name (i := 8) sc_explore.nd rfl (Or.inl rfl)) (pss_cons (ps_if (pt_not (pt_val (pe_c (c_enabled T) hr (by decide) (by rfl) (pa_cons (pv 0) (pa_cons (pv 8) (pa_cons (pe_ix ix_list (pv 3) (pv 6) (fun _ _ => rfl)) pa_nil)))))) (pss_cons (ps_expr (pe_bm PySem.F.plainAttrs_list PySem.F.slot_list_append PySem.F.type_list_append mt_append (pv 7) (pa_cons (pe_gc rfl T.g_NONE) pa_nil)))
  (pss_one ps_continue)) pss_nil)
  (pss_cons (ps_set (i := 9) sc_explore.nd rfl (Or.inl rfl) (pe_c (c_fire T) hr (by decide) (by rfl) (pa_cons (pv 0) (pa_cons (pv 8) (pa_cons (pe_ix ix_list (pv 3) (pv 6) (fun _ _ => rfl)) pa_nil)))))
  (pss_cons (ps_if (pt_cmp (pc_dnotin hu (pv 9) (pv 4))) (pss_cons (ps_if (pt_cmpR op_eq (pe_callB call_len_seq (by rfl) T.b_len PyB.boot_len (pa_cons (pv 3) pa_nil)) (pv 2) (nomark _)) (pss_one (ps_raise rfl (takes_of rfl rfl rfl rfl) (pmk_own PySem.F.excBase_ValueError T.x_TooMany.1 T.xg_TooMany T.x_TooMany.2.1 (raises_own T.x_TooMany.2.2.1 T.x_TooMany.2.2.2) rfl))) pss_nil)
  (pss_cons (ps_dput hu (pv 4) (pv 9) (pe_callB call_len_seq (by rfl) T.b_len PyB.boot_len (pa_cons (pv 3) pa_nil)) rfl)
  (pss_one (ps_expr (pe_bm PySem.F.plainAttrs_list PySem.F.slot_list_append PySem.F.type_list_append mt_append (pv 3) (pa_cons (pv 9) pa_nil)))))) pss_nil)
  (pss_one (ps_expr (pe_bm PySem.F.plainAttrs_list PySem.F.slot_list_append PySem.F.type_list_append mt_append (pv 7) (pa_cons (pe_dget hu (pv 4) (pv 9) (fun _ _ => rfl)) pa_nil))))))))
  (pss_cons (ps_expr (pe_bm PySem.F.plainAttrs_list PySem.F.slot_list_append PySem.F.type_list_append mt_append (pv 5) (pa_cons (pv 7) pa_nil)))
  (pss_one (ps_aug (i := 6) sc_explore.nd rfl (Or.inl rfl) pe_int ip_add))))))
  (pss_one (ps_ret (pe_mk (c_Graph T) hr (by decide) (by rfl) (pa_cons (pv 3) (pa_cons (pv 5) pa_nil)))))))))), ?_⟩
    -- found
    refine ⟨_, rfl, m, _, rfl, .inr ⟨SqT.of hm, by show 1 ≤ sizeLine; decide, fun l hl => ?_⟩⟩
    have s1 : Same H (upd H l (.lst [.ref m])) := Same.upd hl
    -- numbers
    refine fun d hd => ?_
    have ld : l ≠ d := fun e => by rw [← e, upd_same] at hd; cases hd
    have s2 : Same H (upd (upd H l (.lst [.ref m])) d (.dT [])) := s1.trans (Same.upd hd)
    refine ⟨_, rfl, l, _, (0 : Int), _, rfl, rfl, SqL.of (by rw [upd_ne ld]; exact upd_same), at_of (z := (0 : Int)) (j := 0) rfl rfl, upd_same, m, kM m0, rfl, by rw [s2 _ _ hm, kM_kV], ?_⟩
    rw [upd_upd]
    have s2 : Same H (upd (upd H l (.lst [.ref m])) d (.dT [(kM m0, .int 0)])) := s1.trans (Same.upd hd)
    refine ⟨by decide, fun mv hmv => ?_⟩
    have lm' : l ≠ mv := fun e => by rw [← e, upd_ne ld, upd_same] at hmv; cases hmv
    have dm : d ≠ mv := fun e => by rw [← e, upd_same] at hmv; cases hmv
    have s3 : Same H (upd (upd (upd H l (.lst [.ref m])) d (.dT [(kM m0, .int 0)])) mv (.lst [])) := s2.trans (Same.upd hmv)
    have hl0 := hl
    have hd0 : H d = none := s1.free hd
    have hm0 : H mv = none := s2.free hmv
    have hL : ∀ b ∈ [l, d, mv], H b = none := fun b hb => by
      rcases List.mem_cons.mp hb with rfl | hb
      · exact hl0
      · rcases List.mem_cons.mp hb with rfl | hb
        · exact hd0
        · rw [List.mem_singleton.mp hb]; exact hm0
    have inv0 : ExpInv N m0 limit [m0] [] := ⟨by simp, rfl, l1, fun m hm => by rw [List.mem_singleton.mp hm]; exact lm, fun m hm => by rw [List.mem_singleton.mp hm]; exact .refl, fun k row hk => by simp at hk⟩
    have st0 : ExpSt K H [l, d, mv] l d mv N m0 limit [m0] [] (upd (upd (upd H l (.lst [.ref m])) d (.dT [(kM m0, .int 0)])) mv (.lst [])) := by
      refine ⟨s3, inv0, ⟨_, by rw [upd_ne lm', upd_ne ld]; exact upd_same, .cons (Dp.same (Same.toWo hL s3) (Dp.ofInts (SqT.of hm))) .nil⟩, by rw [upd_ne dm]; exact upd_same, ⟨_, upd_same, .nil⟩⟩
    generalize upd (upd (upd H l (.lst [.ref m])) d (.dT [(kM m0, .int 0)])) mv (.lst []) = H1 at *
    refine ⟨fun μ σ H' => ∃ i Fs Rs v7 v8 v9, μ = limit - i ∧ i ≤ Fs.length ∧ Rs.length = i ∧ σ = [some (.ref an), some (.ref m), some (.int limit), some (.ref l), some (.ref d), some (.ref mv), some (.int (i : Nat)), v7, v8, v9] ∧ ExpSt K H [l, d, mv] l d mv N m0 limit Fs Rs H', ⟨limit, 0, [m0], [], none, none, none, rfl, Nat.zero_le _, rfl, rfl, st0⟩, ?_⟩
    rintro μ σ H2 ⟨i, Fs, Rs, v7, v8, v9, rfl, hi, hR, rfl, st⟩
    obtain ⟨fa, hfa, dfa⟩ := st.fa
    have lfa : fa.length = Fs.length := by rw [DpAll.len dfa, List.length_map]
    refine ⟨_, rfl, _, rfl, l, _, rfl, .inl (SqL.of hfa), _, _, rfl, rfl, _, rfl, ?_⟩
    by_cases hlt : i < Fs.length
    · refine ifT (decide_eq_true (by omega)) ?_
      have hle := st.inv.le
      obtain ⟨mi, hmi⟩ : ∃ mi, Fs[i]? = some mi := ⟨Fs[i], List.getElem?_eq_getElem hlt⟩
      have lmi := st.inv.len mi (List.mem_of_getElem? hmi)
      have rmi := st.inv.rch mi (List.mem_of_getElem? hmi)
      refine ⟨fun σ H' => ∃ i' Fs' Rs' v7 v8 v9, i' = i + 1 ∧ i' ≤ Fs'.length ∧ Rs'.length = i' ∧ σ = [some (.ref an), some (.ref m), some (.int limit), some (.ref l), some (.ref d), some (.ref mv), some (.int (i' : Nat)), v7, v8, v9] ∧ ExpSt K H [l, d, mv] l d mv N m0 limit Fs' Rs' H', ?_, ?_⟩
      · rintro σ' H' ⟨i', Fs', Rs', v7, v8, v9, rfl, h1, h2, h3, h4⟩
        exact ⟨limit - (i + 1), by omega, _, Fs', Rs', v7, v8, v9, rfl, h1, h2, h3, h4⟩
      refine ⟨by decide, fun rl hrl => ?_⟩
      have sR : Same H2 (upd H2 rl (.lst [])) := Same.upd hrl
      have st1 := st.open hrl sR
      have hr1 : (upd H2 rl (.lst [])) rl = some (.lst (([] : List Int).map V.int)) := upd_same
      have rl0 : H rl = none := st.same.free hrl
      have nl : l ≠ rl := fun e => by rw [← e, hfa] at hrl; cases hrl
      have nd' : d ≠ rl := fun e => by rw [← e, st.ds] at hrl; cases hrl
      have nm : mv ≠ rl := fun e => by obtain ⟨_, z, _⟩ := st.ma; rw [← e, z] at hrl; cases hrl
      generalize upd H2 rl (.lst []) = H3 at *
      refine ⟨_, rfl, an, _, dxn, fn, _, rfl, st1.same _ _ han, T.k_Net.cl, T.k_Net.na _ (by simp), fn2, bt, _, rfl, .inr (Same.sqT st1.same hbt), _, rfl, by omega, by omega, for_range (lo := 0) (fun t σ H' => ∃ Fs2 row v8 v9, (∃ r, Fs2 = Fs ++ r) ∧
        σ = [some (.ref an), some (.ref m), some (.int limit), some (.ref l), some (.ref d), some (.ref mv), some (.int (i : Nat)), some (.ref rl), v8, v9] ∧ ExpSt K H [rl, l, d, mv] l d mv N m0 limit Fs2 Rs H' ∧ RowPre N Fs2 mi t row ∧ H' rl = some (.lst (row.map V.int)))
        ⟨Fs, [], v8, v9, ⟨[], (List.append_nil _).symm⟩, rfl, st1, ⟨rfl, fun s hs => absurd hs (Nat.not_lt_zero _)⟩, hr1⟩ ?_ ?_⟩
      · rintro t σ H4 ht ⟨Fs2, row, v8, v9, ⟨r, rfl⟩, rfl, st2, rp, hr2⟩
        have ht' : t < N.trs.length := by omega
        obtain ⟨tr, htr⟩ : ∃ tr, N.trs[t]? = some tr := ⟨N.trs[t], List.getElem?_eq_getElem ht'⟩
        have trok := nok.ok tr (List.mem_of_getElem? htr)
        have hmi2 : (Fs ++ r)[i]? = some mi := get_app hmi
        obtain ⟨fa2, hfa2, dfa2⟩ := st2.fa
        obtain ⟨z, hz, dz⟩ := DpAll.getR dfa2 (i := i) (d := dInts mi) (by rw [List.getElem?_map, hmi2]; rfl)
        have dz' := Dp.same Same.ofWo dz
        have lfa2 : fa2.length = (Fs ++ r).length := by rw [DpAll.len dfa2, List.length_map]
        have lrow := rp.1
        have hle2 := st2.inv.le
        refine ⟨_, rfl, _, rfl, _, rfl, _, rfl, l, fa2, _, z, rfl, rfl, SqL.of hfa2, at_of (j := i) rfl hz, .ref an, z, N, t, tr, mi, (by rw [Int.zero_add]; rfl), hN.same st2.same, htr, trok, n12, dz', lmi, _, rfl, ?_⟩
        have rlL : rl ∈ [rl, l, d, mv] := List.mem_cons_self
        have lL : l ∈ [rl, l, d, mv] := List.mem_cons_of_mem _ List.mem_cons_self
        have dL : d ∈ [rl, l, d, mv] := List.mem_cons_of_mem _ (List.mem_cons_of_mem _ List.mem_cons_self)
        have szl : row.length < sizeLine := small1000 (by omega)
        cases hc : coversB mi tr.1 with
        | false =>
          have sN : succM N mi t = none := by unfold succM; rw [htr]; exact if_neg (by rw [hc]; exact Bool.false_ne_true)
          refine ifT (by rfl) ?_
          refine ⟨_, rfl, .inl ⟨rfl, _, SqL.of hr2⟩, rl, _, _, rfl, rfl, hr2, by rw [List.length_map]; exact szl, ?_⟩
          refine ⟨Fs ++ r, row ++ [-1], _, v9, ⟨r, rfl⟩, rfl, st2.row rlL rl0 nl nd' nm, rp.no sN, ?_⟩
          rw [List.map_append]
          exact upd_same
        | true =>
          have sS : succM N mi t = some (fireM N.n mi tr) := by unfold succM; rw [htr]; exact if_pos hc
          refine ifF (by rfl) ?_
          refine ⟨_, rfl, _, rfl, _, rfl, _, rfl, l, fa2, _, z, rfl, rfl, SqL.of hfa2, at_of (j := i) rfl hz, .ref an, z, N, t, tr, mi, (by rw [Int.zero_add]; rfl), hN.same st2.same, htr, trok, n12, dz', lmi, hc, fun p H5 s5 hp5 e5 => ?_⟩
          have rM' : Rch (stpM N) m0 (fireM N.n mi tr) := rmi.tail ⟨t, sS⟩
          have lM' : (fireM N.n mi tr).length = N.n := fireM_len trok
          have st5 := st2.alloc s5
          have hr5 := s5 _ _ hr2
          have eK : H5 p = some (.tup ((kM (fireM N.n mi tr)).map kV)) := by rw [kM_kV]; exact e5
          generalize fireM N.n mi tr = m' at *
          obtain ⟨fa5, hfa5, dfa5⟩ := st5.fa
          have lfa5 : fa5.length = (Fs ++ r).length := by rw [DpAll.len dfa5, List.length_map]
          refine ⟨_, rfl, _, rfl, d, _, rfl, DGet.t st5.ds eK, _, rfl, ?_⟩
          by_cases hin : m' ∈ Fs ++ r
          · obtain ⟨j, hj, ej⟩ := List.getElem_of_mem hin
            have hj' : (Fs ++ r)[j]? = some m' := by rw [List.getElem?_eq_getElem hj, ej]
            have kv := kvsF_some (n := 0) st5.inv.nd hj'
            rw [Nat.zero_add] at kv
            refine ifF (by rw [kv]; rfl) ?_
            refine ⟨_, rfl, .inl ⟨rfl, _, SqL.of hr5⟩, _, rfl, _, rfl, d, .int (j : Nat), rfl, (by rw [← kv]; exact DGet.t st5.ds eK), ?_⟩
            refine ⟨rl, _, _, rfl, rfl, hr5, by rw [List.length_map]; exact szl, ?_⟩
            refine ⟨Fs ++ r, row ++ [(j : Int)], _, _, ⟨r, rfl⟩, rfl, st5.row rlL rl0 nl nd' nm, rp.yes sS hj', ?_⟩
            rw [List.map_append]
            exact upd_same
          · have kv := kvsF_none (n := 0) hin
            refine ifT (by rw [kv]; rfl) ?_
            refine ⟨_, rfl, l, _, rfl, .inl (SqL.of hfa5), _, rfl, rfl, _, rfl, ?_⟩
            by_cases hlim : (Fs ++ r).length = limit
            · refine ifT (by show decide (V.int _ = V.int _) = true; rw [dec_int, lfa5, hlim]; exact decide_eq_true rfl) ?_
              exact ke _ st5.same (st5.inv.bad hin hlim rM')
            · refine ifF (by show decide (V.int _ = V.int _) = false; rw [dec_int, lfa5]; exact decide_eq_false (by omega)) ?_
              have szd : (kvsF 0 (Fs ++ r)).length < sizeLine := by rw [kvsF_len]; exact small1000 (by omega)
              refine ⟨_, rfl, l, _, rfl, .inl (SqL.of hfa5), _, rfl, _, rfl, d, _, rfl, DPut.t st5.ds eK szd, ?_⟩
              have st7 : ExpSt K H [rl, l, d, mv] l d mv N m0 limit ((Fs ++ r) ++ [m']) Rs (upd (upd H5 d (.dT (putK (kvsF 0 (Fs ++ r)) (kM m') (.int fa5.length)))) l (.lst (fa5 ++ [.ref p]))) := by
                obtain ⟨ma5, hma5, dma5⟩ := st5.ma
                have pL : p ∉ [rl, l, d, mv] := fun hp => by
                  rcases List.mem_cons.mp hp with rfl | hp
                  · rw [hr5] at e5; cases e5
                  · rcases List.mem_cons.mp hp with rfl | hp
                    · rw [hfa5] at e5; cases e5
                    · rcases List.mem_cons.mp hp with rfl | hp
                      · rw [st5.ds] at e5; cases e5
                      · rw [← List.mem_singleton.mp hp, e5] at hma5; cases hma5
                refine ⟨Same.put hl0 (Same.put hd0 st5.same), st5.inv.ext hin (by omega) rM' lM', ⟨_, upd_same, ?_⟩, ?_, ⟨ma5, by rw [upd_ne (Ne.symm lm'), upd_ne (Ne.symm dm)]; exact hma5, by rw [wo_upd lL, wo_upd dL]; exact dma5⟩⟩
                · rw [wo_upd lL, wo_upd dL, List.map_append]
                  exact DpAll.app dfa5 (DpAll.one (Dp.ofInts (SqT.of (by rw [wo_ne pL]; exact e5))))
                · rw [upd_ne (Ne.symm ld), upd_same, putK_new kv, kvsF_app, lfa5, Nat.zero_add]
              have hr7 : (upd (upd H5 d (.dT (putK (kvsF 0 (Fs ++ r)) (kM m') (.int fa5.length)))) l (.lst (fa5 ++ [.ref p]))) rl = some (.lst (row.map V.int)) := by rw [upd_ne (Ne.symm nl), upd_ne (Ne.symm nd')]; exact hr5
              have eK7 : (upd (upd H5 d (.dT (putK (kvsF 0 (Fs ++ r)) (kM m') (.int fa5.length)))) l (.lst (fa5 ++ [.ref p]))) p = some (.tup ((kM m').map kV)) := by
                rw [upd_ne (fun e => by rw [e, hfa5] at e5; cases e5), upd_ne (fun e => by rw [e, st5.ds] at e5; cases e5)]; exact eK
              have hfa6 : (upd H5 d (.dT (putK (kvsF 0 (Fs ++ r)) (kM m') (.int fa5.length)))) l = some (.lst fa5) := by rw [upd_ne ld]; exact hfa5
              refine ⟨_, rfl, .inl ⟨rfl, _, SqL.of hfa6⟩, _, rfl, l, fa5, _, rfl, rfl, hfa6, by rw [lfa5]; exact small1000 (by omega), ?_⟩
              generalize upd (upd H5 d (.dT (putK (kvsF 0 (Fs ++ r)) (kM m') (.int fa5.length)))) l (.lst (fa5 ++ [.ref p])) = H7 at *
              have hj' : ((Fs ++ r) ++ [m'])[(Fs ++ r).length]? = some m' := by rw [List.getElem?_append_right (Nat.le_refl _), Nat.sub_self]; rfl
              have kv := kvsF_some (n := 0) st7.inv.nd hj'
              rw [Nat.zero_add] at kv
              refine ⟨_, rfl, .inl ⟨rfl, _, SqL.of hr7⟩, _, rfl, _, rfl, d, .int ((Fs ++ r).length : Nat), rfl, (by rw [← kv]; exact DGet.t st7.ds eK7), ?_⟩
              refine ⟨rl, _, _, rfl, rfl, hr7, by rw [List.length_map]; exact szl, ?_⟩
              refine ⟨(Fs ++ r) ++ [m'], row ++ [((Fs ++ r).length : Int)], _, _, ⟨r ++ [m'], List.append_assoc ..⟩, rfl, st7.row rlL rl0 nl nd' nm, rp.ext.yes sS hj', ?_⟩
              rw [List.map_append]
              exact upd_same
      · rintro σ H4 ⟨Fs2, row, v8, v9, ⟨r, rfl⟩, rfl, st2, rp, hr2⟩
        rw [Int.toNat_natCast, lxt] at rp
        obtain ⟨ma, hma, dma⟩ := st2.ma
        obtain ⟨fa2, hfa2, dfa2⟩ := st2.fa
        have lma : ma.length = Rs.length := by rw [DpAll.len dma, List.length_map]
        have hle2 := st2.inv.le
        have lL : l ∈ [l, d, mv] := List.mem_cons_self
        have mL : mv ∈ [l, d, mv] := List.mem_cons_of_mem _ (List.mem_cons_of_mem _ List.mem_cons_self)
        have rL : rl ∉ [l, d, mv] := fun hp => by
          rcases List.mem_cons.mp hp with e | hp
          · exact nl e.symm
          · rcases List.mem_cons.mp hp with e | hp
            · exact nd' e.symm
            · exact nm (List.mem_singleton.mp hp).symm
        have hmi2 : (Fs ++ r)[Rs.length]? = some mi := by rw [hR]; exact get_app hmi
        refine ⟨_, rfl, .inl ⟨rfl, _, SqL.of hma⟩, _, rfl, mv, ma, _, rfl, rfl, hma, by rw [lma]; exact small1000 (by omega), ?_⟩
        refine ⟨_, rfl, _, _, rfl, rfl, ?_⟩
        refine ⟨i + 1, Fs ++ r, Rs ++ [row], _, _, _, rfl, by rw [List.length_append]; omega, by rw [List.length_append, hR]; rfl, rfl, ?_⟩
        refine ⟨Same.put hm0 st2.same, st2.inv.row hmi2 rp, ⟨fa2, by rw [upd_ne lm']; exact hfa2, by rw [wo_upd mL]; exact DpAll.same Same.woDrop dfa2⟩, by rw [upd_ne dm]; exact st2.ds, ⟨_, upd_same, ?_⟩⟩
        rw [wo_upd mL, List.map_append]
        exact DpAll.app (DpAll.same Same.woDrop dma) (DpAll.one (.lst (SqL.of (by rw [wo_ne rL]; exact hr2)) (DpAll.ofInts row)))
    · refine ifF (decide_eq_false (by omega)) ?_
      obtain ⟨ma, hma, dma⟩ := st.ma
      have hle := st.inv.le
      refine ⟨_, rfl, _, rfl, fun g dg hg hdg hne => ?_⟩
      have sg : Same H2 (upd (upd H2 dg (.own g)) g (.ins (ga K "Graph") dg [])) := (Same.upd hdg).trans (Same.upd (by rw [upd_ne (Ne.symm hne)]; exact hg))
      refine ⟨g, dg, .ref l, .ref mv, Fs, Rs, rfl, upd_same, Dp.same sg (.lst (SqL.of hfa) (DpAll.same Same.ofWo dfa)), Dp.same sg (.lst (SqL.of hma) (DpAll.same Same.ofWo dma)), by omega, by omega, fun H9 b9 G9 => ⟨rfl, ?_⟩⟩
      exact kq _ _ Fs Rs (st.same.trans (But.same hg hdg b9)) G9 ⟨st.inv, by omega⟩
end
end C62
set_option Elab.async false
set_option linter.all false
set_option maxRecDepth 100000
set_option maxHeartbeats 4000000
namespace C62
open PySem PySem.Spec PyProof.Rows L2
open He (ga ma)
/-! ### backward edges -/
def revStep (n : Nat) (es : List (List Int)) (t : Int) : List (List Int) := if t = -1 then es else es.set t.toNat (es.getD t.toNat [] ++ [(n : Int)])
def revRow (es : List (List Int)) (n : Nat) (row : List Int) : List (List Int) := row.foldl (revStep n) es
def revE (Rs : List (List Int)) : List (List Int) := (List.range Rs.length).foldl (fun es n => revRow es n (Rs.getD n [])) (List.replicate Rs.length [])
theorem revStep_len {n : Nat} {es : List (List Int)} {t : Int} : (revStep n es t).length = es.length := by
  unfold revStep; split
  · rfl
  · exact List.length_set
theorem revRow_len {n : Nat} : ∀ (row : List Int) (es : List (List Int)), (revRow es n row).length = es.length
  | [], _ => rfl
  | t :: row, es => by
    show (revRow (revStep n es t) n row).length = _
    rw [revRow_len row, revStep_len]
theorem getD_set {es : List (List Int)} {i j : Nat} {e : List Int} (h : i < es.length) : (es.set i e).getD j [] = if j = i then e else es.getD j [] := by
  rw [List.getD_eq_getElem?_getD, List.getD_eq_getElem?_getD]
  by_cases q : j = i
  · subst q; rw [List.getElem?_set_self h, if_pos rfl]; rfl
  · rw [List.getElem?_set_ne (Ne.symm q), if_neg q]
/-- what a row may hold -/
def RowIn (n : Nat) (row : List Int) : Prop := row.length ≤ 24 ∧ ∀ z ∈ row, z = -1 ∨ ∃ j : Nat, z = j ∧ j < n
theorem revRow_mem {n N : Nat} {a : Nat} {x : Int} : ∀ (row : List Int) (es : List (List Int)), es.length = N → (∀ z ∈ row, z = -1 ∨ ∃ j : Nat, z = j ∧ j < N) → (x ∈ (revRow es n row).getD a [] ↔ x ∈ es.getD a [] ∨ (x = n ∧ (a : Int) ∈ row))
  | [], es, _, _ => by simp [revRow]
  | t :: row, es, hl, hz => by
    show x ∈ (revRow (revStep n es t) n row).getD a [] ↔ _
    rw [revRow_mem row (revStep n es t) (by rw [revStep_len, hl]) fun z h => hz z (List.mem_cons_of_mem _ h)]
    rcases hz t List.mem_cons_self with e | ⟨j, e, hj⟩
    · have : revStep n es t = es := by unfold revStep; rw [if_pos e]
      rw [this]
      have h1 : ¬ (a : Int) = t := by rw [e]; omega
      simp [h1]
    · have : revStep n es t = es.set j (es.getD j [] ++ [(n : Int)]) := by unfold revStep; rw [if_neg (by omega), e]; rfl
      rw [this, getD_set (by omega)]
      by_cases q : a = j
      · subst q
        rw [if_pos rfl, List.mem_append, List.mem_singleton]
        have : (a : Int) ∈ t :: row := by rw [e]; exact List.mem_cons_self
        simp only [this, and_true]
        constructor
        · rintro ((h | h) | h)
          · exact .inl h
          · exact .inr h
          · exact .inr h.1
        · rintro (h | h)
          · exact .inl (.inl h)
          · exact .inl (.inr h)
      · rw [if_neg q]
        have h1 : ¬ (a : Int) = t := by rw [e]; omega
        simp [h1]
theorem revRow_le {n : Nat} {c : Nat} : ∀ (row : List Int) (es : List (List Int)), (∀ a, (es.getD a []).length ≤ c) → ∀ a, ((revRow es n row).getD a []).length ≤ c + row.length
  | [], es, h, a => h a
  | t :: row, es, h, a => by
    show ((revRow (revStep n es t) n row).getD a []).length ≤ _
    have := revRow_le (n := n) (c := c + 1) row (revStep n es t) (fun b => ?_) a
    · rw [List.length_cons]; omega
    · unfold revStep
      split
      · exact Nat.le_succ_of_le (h b)
      · by_cases hl : t.toNat < es.length
        · rw [getD_set hl]
          split
          · rw [List.length_append]; exact Nat.succ_le_succ (h _)
          · exact Nat.le_succ_of_le (h b)
        · rw [List.set_eq_of_length_le (by omega)]
          exact Nat.le_succ_of_le (h b)
theorem revE_pre {Rs : List (List Int)} (hR : ∀ row ∈ Rs, RowIn Rs.length row) : ∀ k, k ≤ Rs.length → (((List.range k).foldl (fun es n => revRow es n (Rs.getD n [])) (List.replicate Rs.length [])).length = Rs.length ∧
    (∀ a, (((List.range k).foldl (fun es n => revRow es n (Rs.getD n [])) (List.replicate Rs.length [])).getD a []).length ≤ 24 * k) ∧
    ∀ (a b : Nat), (b : Int) ∈ (((List.range k).foldl (fun es n => revRow es n (Rs.getD n [])) (List.replicate Rs.length [])).getD a []) ↔ b < k ∧ (a : Int) ∈ Rs.getD b [])
  | 0, _ => by
    refine ⟨List.length_replicate, fun a => ?_, fun a b => ?_⟩
    · rw [List.getD_eq_getElem?_getD]; simp [List.getElem?_replicate]; split <;> simp
    · simp [List.getD_eq_getElem?_getD, List.getElem?_replicate]
      split <;> simp
  | k + 1, hk => by
    obtain ⟨h1, h2, h3⟩ := revE_pre hR k (by omega)
    rw [List.range_succ, List.foldl_append]
    generalize (List.range k).foldl (fun es n => revRow es n (Rs.getD n [])) (List.replicate Rs.length []) = es at *
    have hrow : RowIn Rs.length (Rs.getD k []) := by
      rw [List.getD_eq_getElem?_getD, List.getElem?_eq_getElem (by omega)]
      exact hR _ (List.getElem_mem _)
    refine ⟨by rw [← h1]; exact revRow_len _ _, fun a => ?_, fun a b => ?_⟩
    · have := revRow_le (n := k) (Rs.getD k []) es h2 a
      have := hrow.1
      show ((revRow es k (Rs.getD k [])).getD a []).length ≤ _
      omega
    · show (b : Int) ∈ (revRow es k (Rs.getD k [])).getD a [] ↔ _
      rw [revRow_mem (Rs.getD k []) es h1 hrow.2, h3]
      constructor
      · rintro (⟨h, h'⟩ | ⟨h, h'⟩)
        · exact ⟨by omega, h'⟩
        · obtain rfl : b = k := by omega
          exact ⟨by omega, h'⟩
      · rintro ⟨h, h'⟩
        by_cases q : b = k
        · subst q; exact .inr ⟨rfl, h'⟩
        · exact .inl ⟨by omega, h'⟩
/-! ### all_zero -/
def spAllZero (K : PySem.W.Frag) : Sp := fun vs H Q _ => ∃ (x y : V) (ms ks : List Int), vs = [x, y] ∧ Dp K H x (dInts ms) ∧ Dp K H y (dIntL ks) ∧ (∀ k ∈ ks, ∃ j : Nat, k = j ∧ j < ms.length) ∧ Q (.bl (ks.all fun k => decide (ms.getD k.toNat 0 ≤ 0))) H
def spRev (K : PySem.W.Frag) : Sp := fun vs H Q _ => ∃ (x : V) (Fs Rs : List (List Int)), vs = [x] ∧ GraphAt K H x Fs Rs ∧ (∀ row ∈ Rs, RowIn Rs.length row) ∧ Rs.length ≤ 40 ∧
  ∀ p H', Same H H' → H p = none → Dp K H' (.ref p) (.list ((revE Rs).map dIntL)) → Q (.ref p) H'
section
variable {P : Program} {w : World} {K : PySem.W.Frag} {mg : Str → Option Value} {base : Heap}
theorem c_all_zero (T : Txt K mg) : Cal P w K mg base 1 "all_zero" (spAllZero K) := by
  refine T.f_all_zero.cal sc_all_zero (fun _ _ _ _ _ _ us hl => match us, hl with | [_, _], _ => rfl) (fun vs H Q E h => ?_) (fun f cdv A outer s H vs Q E hr h => ?_)
  · obtain ⟨x, y, ms, ks, rfl, _⟩ := h
    rfl
  · obtain ⟨x, y, ms, ks, rfl, hx, hy, hk, q⟩ := h
    obtain ⟨a, rfl, ha⟩ := Dp.intsI hx
    refine ⟨_, (pss_cons (ps_for PassesOwn.never rfl (pi_list (pv 1)) (pg_name (i := 2) sc_all_zero.nd rfl (Or.inl rfl)) (pss_one (ps_if (pt_cmpR op_gt (pe_ix ix_tup (pv 0) (pv 2) (fun _ _ => rfl)) pe_int (nomark _)) (pss_one (ps_ret pe_bl)) pss_nil)))
  (pss_one (ps_ret pe_bl))), ?_⟩
    refine ⟨_, rfl, for_dl (K := K) (l := ks) (enc := PyData.int) hy (fun i σ H' => ∃ v, σ = [some (.ref a), some y, v] ∧ H = H' ∧ (ks.take i).all (fun k => decide (ms.getD k.toNat 0 ≤ 0)) = true) ⟨none, rfl, rfl, by rw [List.take_zero]; rfl⟩ (fun _ _ _ _ ⟨_, _, e, _⟩ => .inl (e ▸ Same.refl _)) ?_ ?_⟩
    · rintro i z k σ _ hi dz ⟨v, rfl, rfl, hall⟩
      obtain rfl := Dp.intI dz
      obtain ⟨j, rfl, hj⟩ := hk k (List.mem_of_getElem? hi)
      refine ⟨_, rfl, _, rfl, a, _, _, _, rfl, rfl, ha, at_of (j := j) rfl (getD_int hj), _, _, rfl, rfl, _, rfl, ?_⟩
      by_cases hp : ms.getD j 0 > 0
      · refine ifT (decide_eq_true hp) ?_
        have : ks.all (fun k => decide (ms.getD k.toNat 0 ≤ 0)) = false := by
          rw [List.all_eq_false]
          exact ⟨_, List.mem_of_getElem? hi, by rw [Int.toNat_natCast]; exact fun e => absurd (of_decide_eq_true e) (by omega)⟩
        rw [this] at q
        exact q
      · refine ifF (decide_eq_false hp) ?_
        refine ⟨_, rfl, rfl, ?_⟩
        rw [take_snoc hi, List.all_append, hall]
        show (true && (decide _ && true)) = true
        rw [Int.toNat_natCast, decide_eq_true (by omega)]; rfl
    · rintro σ _ ⟨v, rfl, rfl, hall⟩
      rw [List.take_length] at hall
      rw [hall] at q
      exact q
theorem revE_step {Rs : List (List Int)} {k : Nat} {row : List Int} (h : Rs[k]? = some row) (b : List (List Int)) : (List.range (k + 1)).foldl (fun es n => revRow es n (Rs.getD n [])) b = revRow ((List.range k).foldl (fun es n => revRow es n (Rs.getD n [])) b) k row := by
  rw [List.range_succ, List.foldl_append]
  show revRow _ k (Rs.getD k []) = _
  rw [List.getD_eq_getElem?_getD, h]; rfl
theorem c_reversed_edges (T : Txt K mg) : Cal P w K mg base 1 "reversed_edges" (spRev K) := by
  refine T.f_reversed_edges.cal sc_reversed_edges (fun _ _ _ _ _ _ us hl => match us, hl with | [_], _ => rfl) (fun vs H Q E h => ?_) (fun f cdv A outer s H vs Q E hr h => ?_)
  · obtain ⟨x, Fs, Rs, rfl, _⟩ := h
    rfl
  · obtain ⟨x, Fs, Rs, rfl, ⟨g, dx, fs, u1, u2, rfl, hg, f1, d1, f2, d2⟩, hR, h40, q⟩ := h
    have C := T.k_Graph.cl
    obtain ⟨b, xs, rfl, hb, hxs⟩ := Dp.tupI d2
    have lxs := DpAll.mapLen hxs
    have hs := sizeLine_eq
    refine ⟨_, (pss_cons (ps_setLc (i := 1) (own := [("_", 4)]) (g := gName 4) rfl sc_reversed_edges.nd rfl rfl (sw_true rfl rfl rfl (by decide +kernel)) (pi_tup (pe_fld (pv 0) rfl)) (blkOk_by (own := [("_", 4)]) (N := nm_reversed_edges) (sc := defScope s_reversed_edges) (by decide +kernel)) (fun _ _ _ _ _ => (pg_name (i := 4) sc_reversed_edges.nd rfl (Or.inl rfl))) (fun _ _ _ _ _ => pts_nil) (fun _ _ _ _ _ => (pe_lst pa_nil)))
  (pss_cons (ps_for PassesOwn.never rfl (pi_range1 rfl T.b_range (pa_cons (pe_callB call_len_seq (by rfl) T.b_len PyB.boot_len (pa_cons (pe_fld (pv 0) rfl) pa_nil)) pa_nil)) (pg_name (i := 2) sc_reversed_edges.nd rfl (Or.inl rfl)) (pss_one (ps_for PassesOwn.never rfl (pi_tup (pe_ix ix_tup (pe_fld (pv 0) rfl) (pv 2) (fun _ _ => rfl))) (pg_name (i := 3) sc_reversed_edges.nd rfl (Or.inl rfl)) (pss_one (ps_if (pt_cmpR op_ne (pv 3) (pe_gc rfl T.g_NONE) (nomark _)) (pss_one (ps_expr (pe_bm PySem.F.plainAttrs_list PySem.F.slot_list_append PySem.F.type_list_append mt_append (pe_ix ix_list (pv 1) (pv 3) (fun _ _ => rfl)) (pa_cons (pv 2) pa_nil)))) pss_nil)))))
  (pss_one (ps_ret (pv 1))))), ?_⟩
    -- found
    refine ⟨_, rfl, g, _, dx, fs, _, rfl, hg, C, T.k_Graph.na _ (by simp), f2, b, rfl, ⟨_, hb⟩, fun l hl => lc_tup (K := K) (a := b) (xs := xs) (fun i H' => Same H H' ∧ ∃ as : List Addr, H' l = some (.lst (as.map V.ref)) ∧ as.length = i ∧ as.Nodup ∧ ∀ a ∈ as, H' a = some (.lst []) ∧ H a = none ∧ a ≠ l)
      ⟨Same.upd hl, [], upd_same, rfl, List.nodup_nil, fun a ha => by cases ha⟩ (fun i H' _ e => Same.sqT e.1 hb) ?_ ?_⟩
    · rintro i z Hi hi ⟨s1, as, has, las, nd, hall⟩
      have hlt := get_lt hi
      refine ⟨rfl, ?_⟩
      refine yesT ?_
      refine ⟨by decide, fun t ht => ⟨as.map V.ref, ?_, ?_, ?_⟩⟩
      · rw [upd_ne (fun e => by rw [← e, has] at ht; cases ht)]; exact has
      · rw [List.length_map]; exact small1000 (by omega)
      · have tl : t ≠ l := fun e => by rw [e, has] at ht; cases ht
        have tn : t ∉ as := fun hm => by rw [(hall t hm).1] at ht; cases ht
        refine ⟨Same.put hl (s1.trans (Same.upd ht)), as ++ [t], by rw [upd_same, List.map_append]; rfl, by rw [List.length_append, las]; rfl, ?_, fun a ha => ?_⟩
        · rw [List.nodup_append]
          exact ⟨nd, by simp, fun a ha b hb e => by rw [List.mem_singleton] at hb; subst hb; subst e; exact tn ha⟩
        · rcases List.mem_append.mp ha with ha | ha
          · obtain ⟨h1, h2, h3⟩ := hall a ha
            have nt : a ≠ t := fun e => tn (e ▸ ha)
            exact ⟨by rw [upd_ne h3, upd_ne nt]; exact h1, h2, h3⟩
          · rw [List.mem_singleton.mp ha]
            exact ⟨by rw [upd_ne tl]; exact upd_same, s1.free ht, tl⟩
    rintro H1 ⟨s1, as, has, las, nd, hall⟩
    rw [lxs] at las
    -- the state
    have pre := revE_pre hR
    have e0 : (List.range 0).foldl (fun es n => revRow es n (Rs.getD n [])) (List.replicate Rs.length ([] : List Int)) = List.replicate Rs.length [] := rfl
    refine ⟨_, rfl, g, _, dx, fs, _, rfl, s1 _ _ hg, C, T.k_Graph.na _ (by simp), f2, b, _, rfl, .inr (Same.sqT s1 hb), _, rfl, by omega, by omega, for_range (lo := 0) (fun k σ H' => ∃ v2 v3, σ = [some (.ref g), some (.ref l), v2, v3, none] ∧ Same H H' ∧ H' l = some (.lst (as.map V.ref)) ∧
      ∀ (j : Nat) a, as[j]? = some a → H' a = some (.lst ((((List.range k).foldl (fun es n => revRow es n (Rs.getD n [])) (List.replicate Rs.length [])).getD j []).map V.int))) ⟨none, none, rfl, s1, has, fun j a ha => ?_⟩ ?_ ?_⟩
    · have hj := get_lt ha
      rw [e0, List.getD_eq_getElem?_getD, List.getElem?_replicate, if_pos (by omega)]
      exact (hall a (List.mem_of_getElem? ha)).1
    · rintro k σ H2 hk ⟨v2, v3, rfl, s2, has2, hes⟩
      have hk' : k < Rs.length := by omega
      obtain ⟨row, hrow⟩ : ∃ row, Rs[k]? = some row := ⟨Rs[k], List.getElem?_eq_getElem hk'⟩
      have rin := hR row (List.mem_of_getElem? hrow)
      obtain ⟨z, hz, dz⟩ := DpAll.getR hxs (i := k) (d := dInts row) (by rw [List.getElem?_map, hrow]; rfl)
      obtain ⟨p1, p2, p3⟩ := pre k (by omega)
      refine ⟨_, rfl, g, _, dx, fs, _, rfl, s2 _ _ hg, C, T.k_Graph.na _ (by simp), f2, _, rfl, b, _, _, _, rfl, rfl, Same.sqT s2 hb, at_of (j := k) (by omega) hz, for_dtM (K := K) (l := row) (enc := PyData.int) (Dp.same s2 dz) (fun j σ H' => ∃ v3, σ = [some (.ref g), some (.ref l), some (.int (k : Nat)), v3, none] ∧ Same H H' ∧ H' l = some (.lst (as.map V.ref)) ∧
        ∀ (i : Nat) a, as[i]? = some a → H' a = some (.lst (((revRow ((List.range k).foldl (fun es n => revRow es n (Rs.getD n [])) (List.replicate Rs.length [])) k (row.take j)).getD i []).map V.int))) ⟨v3, by rw [Int.zero_add]; rfl, s2, has2, fun i a ha => by rw [List.take_zero]; exact hes i a ha⟩ (fun i σ H' _ ⟨_, _, h, _⟩ => Dp.same h dz) ?_ ?_⟩
      · rintro j z t σ H3 ht dt ⟨v3, rfl, s3, has3, hes3⟩
        obtain rfl := Dp.intI dt
        have e1 : revRow ((List.range k).foldl (fun es n => revRow es n (Rs.getD n [])) (List.replicate Rs.length [])) k (row.take (j + 1)) = revStep k (revRow ((List.range k).foldl (fun es n => revRow es n (Rs.getD n [])) (List.replicate Rs.length [])) k (row.take j)) t := by
          rw [take_snoc ht]; exact List.foldl_append ..
        rw [e1]
        have le3 : ∀ a, ((revRow ((List.range k).foldl (fun es n => revRow es n (Rs.getD n [])) (List.replicate Rs.length [])) k (row.take j)).getD a []).length ≤ 24 * k + 24 := fun a => by
          have := revRow_le (n := k) (row.take j) _ p2 a
          have h1 := rin.1
          rw [List.length_take] at this
          omega
        have ln3 : (revRow ((List.range k).foldl (fun es n => revRow es n (Rs.getD n [])) (List.replicate Rs.length [])) k (row.take j)).length = Rs.length := by rw [revRow_len, p1]
        generalize revRow ((List.range k).foldl (fun es n => revRow es n (Rs.getD n [])) (List.replicate Rs.length [])) k (row.take j) = es at *
        refine ⟨_, rfl, rfl, _, rfl, ?_⟩
        rcases rin.2 t (List.mem_of_getElem? ht) with e | ⟨jt, e, hjt⟩
        · refine ifF (by rw [e]; rfl) ?_
          refine ⟨_, rfl, s3, has3, ?_⟩
          unfold revStep
          rw [if_pos e]
          exact hes3
        · subst e
          refine ifT (by show (!decide (V.int _ = V.int _)) = true; rw [dec_int, decide_eq_false (by omega)]; rfl) ?_
          obtain ⟨ta, hta⟩ : ∃ ta, as[jt]? = some ta := ⟨as[jt], List.getElem?_eq_getElem (by omega)⟩
          have ht3 := hes3 jt ta hta
          obtain ⟨_, tn, tl⟩ := hall ta (List.mem_of_getElem? hta)
          refine ⟨_, rfl, _, rfl, l, _, _, .ref ta, rfl, rfl, SqL.of has3, at_of (j := jt) rfl (by rw [List.getElem?_map, hta]; rfl), .inl ⟨rfl, _, SqL.of ht3⟩, _, rfl, ta, _, _, rfl, rfl, ht3, ?_, ?_⟩
          · rw [List.length_map]; exact small1000 (by have := le3 jt; omega)
          refine ⟨_, rfl, Same.put tn s3, by rw [upd_ne (Ne.symm tl)]; exact has3, fun i a ha => ?_⟩
          unfold revStep
          rw [if_neg (by omega), Int.toNat_natCast, getD_set (by omega)]
          by_cases hi : i = jt
          · subst hi
            rw [hta] at ha
            cases ha
            rw [if_pos rfl, List.map_append]
            exact upd_same
          · have nt : a ≠ ta := fun e => hi (nd_ix nd ha (e ▸ hta))
            rw [if_neg hi, upd_ne nt]
            exact hes3 i a ha
      · rintro σ H3 ⟨v3, rfl, s3, has3, hes3⟩
        rw [List.take_length, ← revE_step hrow] at hes3
        exact ⟨_, _, rfl, s3, has3, hes3⟩
    · rintro σ H2 ⟨v2, v3, rfl, s2, has2, hes⟩
      rw [Int.toNat_natCast, lxs] at hes
      have lE := (pre Rs.length (Nat.le_refl _)).1
      refine ⟨_, rfl, q l _ s2 hl (.lst (SqL.of has2) (DpAll.ofGet ?_ fun k v d h1 h2 => ?_))⟩
      · rw [List.length_map, List.length_map, las]; exact lE.symm
      · obtain ⟨a, ha, rfl⟩ := map_get h1
        obtain ⟨e, he, rfl⟩ := map_get h2
        have := hes k a ha
        have e2 : (revE Rs).getD k [] = e := by rw [List.getD_eq_getElem?_getD, he]; rfl
        rw [show (List.range Rs.length).foldl (fun es n => revRow es n (Rs.getD n [])) (List.replicate Rs.length []) = revE Rs from rfl, e2] at this
        exact .lst (SqL.of this) (DpAll.ofInts e)
end
end C62
set_option Elab.async false
set_option linter.all false
set_option maxRecDepth 100000
set_option maxHeartbeats 4000000
namespace C62
open PySem PySem.Spec PyProof.Rows L2
open He (ga ma)
/-! ### reaching -/
def edgeR (es : List (List Int)) (a b : Nat) : Prop := (b : Int) ∈ es.getD a []
theorem cf_set : ∀ {bs : List Bool} {i : Nat}, bs[i]? = some false → (bs.set i true).count false + 1 = bs.count false
  | [], _, h => by simp at h
  | b :: r, 0, h => by simp at h; subst h; simp
  | b :: r, i + 1, h => by
    have := cf_set (bs := r) (i := i) (by simpa using h)
    rw [List.set_cons_succ, List.count_cons, List.count_cons]
    omega
theorem set_true {bs : List Bool} {i j : Nat} (h : bs[i]? = some true) : (bs.set j true)[i]? = some true := by
  by_cases e : i = j
  · subst e; rw [List.getElem?_set_self (get_lt h)]
  · rw [List.getElem?_set_ne (Ne.symm e)]; exact h
structure ReI (es : List (List Int)) (n M k : Nat) (bs : List Bool) (st : List Nat) : Prop where
  lb : bs.length = n
  b0 : bs[k]? = some true
  snd : ∀ i : Nat, bs[i]? = some true → Rch (edgeR es) k i
  stk : ∀ i : Nat, i ∈ st → bs[i]? = some true
  cls : ∀ i : Nat, bs[i]? = some true → i ∈ st ∨ ∀ b, edgeR es i b → bs[b]? = some true
  mu : bs.count false + st.length ≤ M
structure ReJ (es : List (List Int)) (n M k t : Nat) (row : List Int) (bs : List Bool) (st : List Nat) : Prop where
  lb : bs.length = n
  b0 : bs[k]? = some true
  snd : ∀ i : Nat, bs[i]? = some true → Rch (edgeR es) k i
  stk : ∀ i : Nat, i ∈ st → bs[i]? = some true
  cls : ∀ i : Nat, bs[i]? = some true → i ∈ st ∨ i = t ∨ ∀ b, edgeR es i b → bs[b]? = some true
  bt : bs[t]? = some true
  cur : ∀ b : Nat, (b : Int) ∈ row → bs[b]? = some true
  mu : bs.count false + st.length + 1 ≤ M
section
variable {es : List (List Int)} {n M k t : Nat} {bs : List Bool} {st : List Nat} {row : List Int}
theorem ReI.pop (h : ReI es n M k bs (st ++ [t])) : ReJ es n M k t [] bs st := by
  refine ⟨h.lb, h.b0, h.snd, fun i hi => h.stk i (List.mem_append_left _ hi), fun i hi => ?_, h.stk t (List.mem_append_right _ List.mem_cons_self), fun b hb => (by cases hb), ?_⟩
  · rcases h.cls i hi with e | e
    · rcases List.mem_append.mp e with e | e
      · exact .inl e
      · exact .inr (.inl (List.mem_singleton.mp e))
    · exact .inr (.inr e)
  · have := h.mu
    rw [List.length_append] at this
    exact this
theorem ReJ.old {b : Nat} (h : ReJ es n M k t row bs st) (hb : bs[b]? = some true) : ReJ es n M k t (row ++ [(b : Int)]) bs st :=
  ⟨h.lb, h.b0, h.snd, h.stk, h.cls, h.bt, fun c hc => by
    rcases List.mem_append.mp hc with e | e
    · exact h.cur c e
    · obtain rfl : c = b := by have := List.mem_singleton.mp e; omega
      exact hb, h.mu⟩
theorem ReJ.new {b : Nat} (h : ReJ es n M k t row bs st) (hb : bs[b]? = some false) (he : edgeR es t b) : ReJ es n M k t (row ++ [(b : Int)]) (bs.set b true) (st ++ [b]) := by
  have hlt := get_lt hb
  refine ⟨by rw [List.length_set]; exact h.lb, set_true h.b0, fun i hi => ?_, fun i hi => ?_, fun i hi => ?_, set_true h.bt, fun c hc => ?_, ?_⟩
  · by_cases e : i = b
    · subst e; exact (h.snd t h.bt).tail he
    · rw [List.getElem?_set_ne (Ne.symm e)] at hi; exact h.snd i hi
  · rcases List.mem_append.mp hi with e | e
    · exact set_true (h.stk i e)
    · rw [List.mem_singleton.mp e, List.getElem?_set_self hlt]
  · by_cases e : i = b
    · subst e; exact .inl (List.mem_append_right _ List.mem_cons_self)
    · rw [List.getElem?_set_ne (Ne.symm e)] at hi
      rcases h.cls i hi with q | q | q
      · exact .inl (List.mem_append_left _ q)
      · exact .inr (.inl q)
      · exact .inr (.inr fun c hc => set_true (q c hc))
  · rcases List.mem_append.mp hc with e | e
    · exact set_true (h.cur c e)
    · obtain rfl : c = b := by have := List.mem_singleton.mp e; omega
      rw [List.getElem?_set_self hlt]
  · have := cf_set hb
    have := h.mu
    rw [List.length_append, List.length_singleton]
    omega
theorem ReJ.fin (h : ReJ es n M k t row bs st) (hr : row = es.getD t []) : ReI es n (M - 1) k bs st ∧ 1 ≤ M := by
  refine ⟨⟨h.lb, h.b0, h.snd, h.stk, fun i hi => ?_, by have := h.mu; omega⟩, by have := h.mu; omega⟩
  rcases h.cls i hi with q | q | q
  · exact .inl q
  · subst q; exact .inr fun b hb => h.cur b (by rw [hr]; exact hb)
  · exact .inr q
theorem ReI.fin (h : ReI es n M k bs []) (i : Nat) : bs[i]? = some true ↔ Rch (edgeR es) k i := by
  refine ⟨h.snd i, fun hr => ?_⟩
  induction hr with
  | refl => exact h.b0
  | tail _ e ih => exact (h.cls _ ih).elim (fun z => by cases z) fun z => z _ e
theorem rei0 (hk : k < n) : ReI es n n k ((List.replicate n false).set k true) [k] := by
  have hl : k < (List.replicate n false).length := by rw [List.length_replicate]; exact hk
  have hf : (List.replicate n false)[k]? = some false := by rw [List.getElem?_replicate, if_pos hk]
  have only : ∀ i : Nat, ((List.replicate n false).set k true)[i]? = some true → i = k := fun i hi => by
    by_cases e : i = k
    · exact e
    · rw [List.getElem?_set_ne (Ne.symm e), List.getElem?_replicate] at hi
      split at hi <;> cases hi
  refine ⟨by rw [List.length_set, List.length_replicate], by rw [List.getElem?_set_self hl], fun i hi => by rw [only i hi]; exact .refl, fun i hi => by rw [List.mem_singleton.mp hi, List.getElem?_set_self hl], fun i hi => .inl (by rw [only i hi]; exact List.mem_cons_self), ?_⟩
  have := cf_set hf
  rw [List.count_replicate_self] at this
  rw [List.length_singleton]
  omega
end
def spReach (K : PySem.W.Frag) : Sp := fun vs H Q _ => ∃ (x y : V) (es : List (List Int)) (k : Nat), vs = [x, y] ∧ Dp K H x (.list (es.map dIntL)) ∧ Dp K H y (dIntL [(k : Int)]) ∧ k < es.length ∧ es.length ≤ 40 ∧ (∀ e ∈ es, ∀ z ∈ e, ∃ j : Nat, z = j ∧ j < es.length) ∧
  ∀ p H' (bs : List Bool), Same H H' → H p = none → H' p = some (.lst (bs.map V.bl)) → bs.length = es.length → (∀ i : Nat, bs[i]? = some true ↔ Rch (edgeR es) k i) → Q (.ref p) H'
theorem rep_bl (n : Nat) : (List.replicate n [V.bl false]).flatten = (List.replicate n false).map V.bl := by
  induction n with
  | zero => rfl
  | succ n ih => rw [List.replicate_succ, List.flatten_cons, ih]; rfl
theorem map_set_bl {g : List Bool} {j : Nat} {z : Bool} : (g.map V.bl).set j (.bl z) = (g.set j z).map V.bl := (List.map_set ..).symm
abbrev natV (j : Nat) : V := .int (j : Nat)
section
variable {P : Program} {w : World} {K : PySem.W.Frag} {mg : Str → Option Value} {base : Heap}
theorem c_reaching (T : Txt K mg) : Cal P w K mg base 1 "reaching" (spReach K) := by
  refine T.f_reaching.cal sc_reaching (fun _ _ _ _ _ _ us hl => match us, hl with | [_, _], _ => rfl) (fun vs H Q E h => ?_) (fun f cdv A outer s H vs Q E hr h => ?_)
  · obtain ⟨x, y, es, k, rfl, _⟩ := h
    rfl
  · obtain ⟨x, y, es, k, rfl, hx, hy, hk, h40, hes, q⟩ := h
    obtain ⟨a, xs, rfl, ha, hxs⟩ := Dp.lstI hx
    obtain ⟨b, rfl, hb⟩ := Dp.intLI hy
    have lxs := DpAll.mapLen hxs
    have hs := sizeLine_eq
    refine ⟨_, (pss_cons (ps_set (i := 2) sc_reaching.nd rfl (Or.inl rfl) (pe_op op_rep (pe_lst (pa_cons pe_bl pa_nil)) (pe_callB call_len_seq (by rfl) T.b_len PyB.boot_len (pa_cons (pv 0) pa_nil))))
  (pss_cons (ps_set (i := 3) sc_reaching.nd rfl (Or.inl rfl) (pe_lst pa_nil))
  (pss_cons (ps_for PassesOwn.never rfl (pi_list (pv 1)) (pg_name (i := 4) sc_reaching.nd rfl (Or.inl rfl)) (pss_cons (ps_asg pe_bl (pg_sub (pv 2) (pv 4) set_list))
  (pss_one (ps_expr (pe_bm PySem.F.plainAttrs_list PySem.F.slot_list_append PySem.F.type_list_append mt_append (pv 3) (pa_cons (pv 4) pa_nil))))))
  (pss_cons (ps_while PassesOwn.never (pt_cmpR op_gt (pe_callB call_len_seq (by rfl) T.b_len PyB.boot_len (pa_cons (pv 3) pa_nil)) pe_int (nomark _)) (pss_one (ps_for PassesOwn.never rfl (pi_list (pe_ix ix_list (pv 0) (pe_bm0 PySem.F.plainAttrs_list PySem.F.slot_list_pop PySem.F.type_list_pop mt_pop (pv 3)) (fun _ _ => rfl))) (pg_name (i := 5) sc_reaching.nd rfl (Or.inl rfl)) (pss_one (ps_if (pt_not (pt_val (pe_ix ix_list (pv 2) (pv 5) (fun _ _ => rfl)))) (pss_cons (ps_asg pe_bl (pg_sub (pv 2) (pv 5) set_list))
  (pss_one (ps_expr (pe_bm PySem.F.plainAttrs_list PySem.F.slot_list_append PySem.F.type_list_append mt_append (pv 3) (pa_cons (pv 5) pa_nil))))) pss_nil)))))
  (pss_one (ps_ret (pv 2))))))), ?_⟩
    refine ⟨by decide, fun t ht => ⟨_, rfl, a, _, rfl, .inl ((Same.upd ht).seq ha), t, _, _, rfl, rfl, upd_same, by omega, by omega, by simp; omega, fun l hl => ?_⟩⟩
    have e0 : (List.replicate ((xs.length : Int)).toNat [V.bl false]).flatten = (List.replicate es.length false).map V.bl := by rw [Int.toNat_natCast, lxs, rep_bl]
    rw [e0]
    have s0 : Same H (upd H t (.lst [.bl false])) := Same.upd ht
    have hl0 : H l = none := s0.free hl
    have s1 : Same H (upd (upd H t (.lst [.bl false])) l (.lst ((List.replicate es.length false).map V.bl))) := Same.put hl0 s0
    have hl1 : (upd (upd H t (.lst [.bl false])) l (.lst ((List.replicate es.length false).map V.bl))) l = some (.lst ((List.replicate es.length false).map V.bl)) := upd_same
    generalize upd (upd H t (.lst [.bl false])) l (.lst ((List.replicate es.length false).map V.bl)) = H1 at *
    refine ⟨by decide, fun sk hsk => ?_⟩
    have sk0 : H sk = none := s1.free hsk
    have lsk : l ≠ sk := fun e => by rw [← e, hl1] at hsk; cases hsk
    have s2 : Same H (upd H1 sk (.lst [])) := s1.trans (Same.upd hsk)
    have hl2 : (upd H1 sk (.lst [])) l = some (.lst ((List.replicate es.length false).map V.bl)) := by rw [upd_ne lsk]; exact hl1
    have hk2 : (upd H1 sk (.lst [])) sk = some (.lst []) := upd_same
    generalize upd H1 sk (.lst []) = H2 at *
    -- goals
    refine ⟨_, rfl, for_dlM (K := K) (l := [(k : Int)]) (enc := PyData.int) (Dp.same s2 hy) (fun i σ H' => ∃ v, σ = [some (.ref a), some (.ref b), some (.ref l), some (.ref sk), v, none] ∧ Same H H' ∧ (i = 0 → H' l = some (.lst ((List.replicate es.length false).map V.bl)) ∧ H' sk = some (.lst [])) ∧
      (i = 1 → H' l = some (.lst (((List.replicate es.length false).set k true).map V.bl)) ∧ H' sk = some (.lst ([k].map natV)))) ⟨none, rfl, s2, fun _ => ⟨hl2, hk2⟩, fun z => by cases z⟩ (fun i σ H' _ ⟨_, _, h, _⟩ => Dp.same h hy) ?_ ?_⟩
    · rintro i z g σ H3 hi dz ⟨v, rfl, s3, h0, h1⟩
      obtain ⟨rfl, rfl⟩ : i = 0 ∧ g = (k : Int) := by
        match i, hi with
        | 0, e => exact ⟨rfl, (Option.some.inj e).symm⟩
        | (j + 1), e => simp at e
      obtain rfl := Dp.intI dz
      obtain ⟨g1, g2⟩ := h0 rfl
      refine ⟨_, rfl, _, rfl, l, _, _, k, rfl, rfl, g1, ixN_nat (by rw [List.length_map, List.length_replicate]; exact hk), ?_⟩
      rw [map_set_bl]
      have g2' : (upd H3 l (.lst (((List.replicate es.length false).set k true).map V.bl))) sk = some (.lst []) := by rw [upd_ne (Ne.symm lsk)]; exact g2
      refine ⟨_, rfl, .inl ⟨rfl, _, SqL.of g2'⟩, _, rfl, sk, _, _, rfl, rfl, g2', by decide, ?_⟩
      refine ⟨_, rfl, Same.put sk0 (Same.put hl0 s3), fun z => (by cases z), fun _ => ⟨?_, upd_same⟩⟩
      rw [upd_ne lsk]; exact upd_same
    · rintro σ H3 ⟨v, rfl, s3, _, h1⟩
      obtain ⟨g1, g2⟩ := h1 rfl
      refine ⟨fun μ σ H' => ∃ bs st v4 v5, μ ≤ es.length ∧ σ = [some (.ref a), some (.ref b), some (.ref l), some (.ref sk), v4, v5] ∧ Same H H' ∧ H' l = some (.lst (bs.map V.bl)) ∧ H' sk = some (.lst (st.map natV)) ∧ ReI es es.length μ k bs st,
        ⟨_, _, [k], _, _, Nat.le_refl _, rfl, s3, g1, g2, rei0 hk⟩, ?_⟩
      rintro μ σ H4 ⟨bs, st, v4, v5, hμ, rfl, s4, g1, g2, ri⟩
      have lst : st.length ≤ μ := by have := ri.mu; omega
      refine ⟨_, rfl, sk, _, rfl, .inl (SqL.of g2), _, _, rfl, rfl, _, rfl, ?_⟩
      rcases List.eq_nil_or_concat st with e | ⟨st', tp, e⟩
      · subst e
        refine ifF rfl ?_
        exact ⟨_, rfl, q l H4 bs s4 hl0 g1 ri.lb ri.fin⟩
      · rw [List.concat_eq_append] at e
        subst e
        refine ifT (decide_eq_true (by rw [List.length_map, List.length_append]; exact Int.ofNat_lt.mpr (Nat.succ_pos _))) ?_
        refine ⟨fun σ H' => ∃ bs st v4 v5, 1 ≤ μ ∧ σ = [some (.ref a), some (.ref b), some (.ref l), some (.ref sk), v4, v5] ∧ Same H H' ∧ H' l = some (.lst (bs.map V.bl)) ∧ H' sk = some (.lst (st.map natV)) ∧ ReI es es.length (μ - 1) k bs st, ?_, ?_⟩
        · rintro σ' H' ⟨bs', st2, w4, w5, h1, h2, h3, h4, h5, h6⟩
          exact ⟨μ - 1, by omega, bs', st2, w4, w5, by omega, h2, h3, h4, h5, h6⟩
        have tlt : tp < es.length := by
          have := get_lt (ri.stk tp (List.mem_append_right _ List.mem_cons_self))
          rw [ri.lb] at this; exact this
        obtain ⟨row, hrow⟩ : ∃ row, es[tp]? = some row := ⟨es[tp], List.getElem?_eq_getElem tlt⟩
        obtain ⟨z, hz, dz⟩ := DpAll.getR hxs (i := tp) (d := dIntL row) (by rw [List.getElem?_map, hrow]; rfl)
        have gd : es.getD tp [] = row := by rw [List.getD_eq_getElem?_getD, hrow]; rfl
        have s5 : Same H (upd H4 sk (.lst (st'.map natV))) := Same.put sk0 s4
        have g1' : (upd H4 sk (.lst (st'.map natV))) l = some (.lst (bs.map V.bl)) := by rw [upd_ne lsk]; exact g1
        have g2' : (upd H4 sk (.lst (st'.map natV))) sk = some (.lst (st'.map natV)) := upd_same
        refine ⟨_, rfl, _, rfl, .inl ⟨rfl, _, SqL.of g2⟩, sk, _, natV tp, rfl, rfl, g2, ?_, ?_⟩
        · rw [List.map_append, List.length_append, List.getElem?_append_right (by simp)]; simp
        rw [List.map_append, List.map_singleton, List.dropLast_concat]
        generalize upd H4 sk (.lst (st'.map natV)) = H5 at *
        refine ⟨a, xs, _, z, rfl, rfl, s5.seq ha, at_of (j := tp) rfl hz, for_dlM (K := K) (l := row) (enc := PyData.int) (Dp.same s5 dz) (fun j σ H' => ∃ bs st v5, σ = [some (.ref a), some (.ref b), some (.ref l), some (.ref sk), v4, v5] ∧ Same H H' ∧ H' l = some (.lst (bs.map V.bl)) ∧ H' sk = some (.lst (st.map natV)) ∧ ReJ es es.length μ k tp (row.take j) bs st)
          ⟨bs, st', v5, rfl, s5, g1', g2', by rw [List.take_zero]; exact ri.pop⟩ (fun i σ H' _ ⟨_, _, _, _, h, _⟩ => Dp.same h dz) ?_ ?_⟩
        · rintro j z' tg σ H6 htg dtg ⟨bs6, st6, v6, rfl, s6, h1, h2, rj⟩
          obtain rfl := Dp.intI dtg
          obtain ⟨tb, rfl, htb⟩ := hes row (List.mem_of_getElem? hrow) tg (List.mem_of_getElem? htg)
          obtain ⟨c, hc⟩ : ∃ c, bs6[tb]? = some c := ⟨bs6[tb]'(by rw [rj.lb]; exact htb), List.getElem?_eq_getElem _⟩
          rw [take_snoc htg]
          have hc' : (bs6.map V.bl)[tb]? = some (V.bl c) := by rw [List.getElem?_map, hc]; rfl
          have lst6 : st6.length < 1000 := by have := rj.mu; omega
          refine ⟨_, rfl, _, rfl, l, _, _, .bl c, rfl, rfl, SqL.of h1, at_of (j := tb) rfl hc', _, rfl, ?_⟩
          cases c with
          | true =>
            refine ifF rfl ?_
            exact ⟨bs6, st6, _, rfl, s6, h1, h2, rj.old hc⟩
          | false =>
            refine ifT rfl ?_
            refine ⟨_, rfl, _, rfl, l, _, _, tb, rfl, rfl, h1, ixN_nat (by rw [List.length_map, rj.lb]; exact htb), ?_⟩
            rw [map_set_bl]
            have h2' : (upd H6 l (.lst ((bs6.set tb true).map V.bl))) sk = some (.lst (st6.map natV)) := by rw [upd_ne (Ne.symm lsk)]; exact h2
            refine ⟨_, rfl, .inl ⟨rfl, _, SqL.of h2'⟩, _, rfl, sk, _, _, rfl, rfl, h2', by rw [List.length_map]; exact small1000 (Nat.le_of_lt lst6), ?_⟩
            refine ⟨bs6.set tb true, st6 ++ [tb], _, rfl, Same.put sk0 (Same.put hl0 s6), ?_, ?_, rj.new hc (by show (tb : Int) ∈ es.getD tp []; rw [gd]; exact List.mem_of_getElem? htg)⟩
            · rw [upd_ne lsk]; exact upd_same
            · rw [List.map_append]; exact upd_same
        · rintro σ H6 ⟨bs6, st6, v6, rfl, s6, h1, h2, rj⟩
          rw [List.take_length] at rj
          obtain ⟨r1, r2⟩ := rj.fin gd.symm
          exact ⟨bs6, st6, _, _, r2, rfl, s6, h1, h2, r1⟩
end
end C62
set_option Elab.async false
set_option linter.all false
set_option maxRecDepth 100000
set_option maxHeartbeats 4000000
namespace C62
open PySem PySem.Spec PyProof.Rows L2
open He (ga ma)
/-! ### final markings -/
theorem SqL.delNe {K : PySem.W.Frag} {H : Hp} {a D : Addr} {xs : List V} (n : a ≠ D) (h : SqL K H a xs) : SqL K (C62.del H D) a xs := by
  rcases h with (h | ⟨o, h⟩) | h
  · exact .inl (.inl ((del_ne n).trans h))
  · exact .inl (.inr ⟨o, (del_ne n).trans h⟩)
  · exact .inr h
def nxt (Rs : List (List Int)) (a b : Nat) : Prop := (b : Int) ∈ Rs.getD a []
def FinI (Rs : List (List Int)) (k : Nat) : Prop := ∀ j, Rch (nxt Rs) k j → Rch (nxt Rs) j k
theorem revE_in {Rs : List (List Int)} (hR : ∀ row ∈ Rs, RowIn Rs.length row) : ∀ k, k ≤ Rs.length → ∀ a z, z ∈ (((List.range k).foldl (fun es n => revRow es n (Rs.getD n [])) (List.replicate Rs.length [])).getD a []) → ∃ j : Nat, z = j ∧ j < k
  | 0, _, a, z, h => by
    rw [List.getD_eq_getElem?_getD] at h
    simp [List.getElem?_replicate] at h
    split at h <;> simp at h
  | k + 1, hk, a, z, h => by
    have hrow : RowIn Rs.length (Rs.getD k []) := by
      rw [List.getD_eq_getElem?_getD, List.getElem?_eq_getElem (by omega)]
      exact hR _ (List.getElem_mem _)
    rw [List.range_succ, List.foldl_append] at h
    rcases (revRow_mem (Rs.getD k []) _ (revE_pre hR k (by omega)).1 hrow.2).mp h with e | ⟨e, _⟩
    · obtain ⟨j, h1, h2⟩ := revE_in hR k (by omega) a z e
      exact ⟨j, h1, by omega⟩
    · exact ⟨k, e, Nat.lt_succ_self _⟩
theorem edge_rev {Rs : List (List Int)} (hR : ∀ row ∈ Rs, RowIn Rs.length row) (a b : Nat) : edgeR (revE Rs) a b ↔ nxt Rs b a := by
  have h := (revE_pre hR Rs.length (Nat.le_refl _)).2.2 a b
  refine ⟨fun e => (h.mp e).2, fun e => h.mpr ⟨?_, e⟩⟩
  by_cases q : b < Rs.length
  · exact q
  · unfold nxt at e
    rw [List.getD_eq_getElem?_getD, List.getElem?_eq_none (by omega)] at e
    cases e
def fwE (Rs : List (List Int)) : List (List Int) := Rs.map fun row => row.filter fun z => decide (z ≥ 0)
theorem edge_fw {Rs : List (List Int)} (a b : Nat) : edgeR (fwE Rs) a b ↔ nxt Rs a b := by
  unfold edgeR nxt fwE
  rw [List.getD_eq_getElem?_getD, List.getD_eq_getElem?_getD, List.getElem?_map]
  cases Rs[a]? with
  | none => simp
  | some row => simp
theorem Rch.flip {α : Type} {R S : α → α → Prop} (h : ∀ a b, R a b → S b a) {a b : α} (r : Rch R a b) : Rch S b a := by
  induction r with
  | refl => exact .refl
  | tail _ e ih => exact Rch.head (h _ _ e) ih
theorem Rch.mono {α : Type} {R S : α → α → Prop} (h : ∀ a b, R a b → S a b) {a b : α} (r : Rch R a b) : Rch S a b := by
  induction r with
  | refl => exact .refl
  | tail _ e ih => exact ih.tail (h _ _ e)
theorem rch_rev {Rs : List (List Int)} (hR : ∀ row ∈ Rs, RowIn Rs.length row) (a b : Nat) : Rch (edgeR (revE Rs)) a b ↔ Rch (nxt Rs) b a :=
  ⟨Rch.flip fun x y e => (edge_rev hR x y).mp e, Rch.flip fun x y e => (edge_rev hR y x).mpr e⟩
theorem rch_fw {Rs : List (List Int)} (a b : Nat) : Rch (edgeR (fwE Rs)) a b ↔ Rch (nxt Rs) a b :=
  ⟨Rch.mono fun x y e => (edge_fw x y).mp e, Rch.mono fun x y e => (edge_fw x y).mpr e⟩
theorem rch_lt {Rs : List (List Int)} (hR : ∀ row ∈ Rs, RowIn Rs.length row) {a b : Nat} (ha : a < Rs.length) (r : Rch (nxt Rs) a b) : b < Rs.length := by
  induction r with
  | refl => exact ha
  | @tail c d _ e ih =>
    unfold nxt at e
    rw [List.getD_eq_getElem?_getD, List.getElem?_eq_getElem ih] at e
    rcases (hR _ (List.getElem_mem _)).2 _ e with z | ⟨j, z, hj⟩
    · omega
    · omega
theorem bool_get {bs : List Bool} {i : Nat} (h : i < bs.length) : bs[i]? = some (bs.getD i false) := by
  rw [List.getD_eq_getElem?_getD, List.getElem?_eq_getElem h]; rfl
/-- the numbers seen ahead and not behind: none, or some -/
theorem fin_iff {Rs : List (List Int)} (hR : ∀ row ∈ Rs, RowIn Rs.length row) {k : Nat} (hk : k < Rs.length) {ba bb : List Bool} (la : ba.length = Rs.length) (lb : bb.length = Rs.length)
    (ha : ∀ i : Nat, ba[i]? = some true ↔ Rch (edgeR (fwE Rs)) k i) (hb : ∀ i : Nat, bb[i]? = some true ↔ Rch (edgeR (revE Rs)) k i) (f : Nat → Option PyData)
    (hf : ∀ i, f i = if (ba.getD i false && !bb.getD i false) = true then some (.int (i : Nat)) else none) : ((List.range Rs.length).filterMap f).length = 0 ↔ FinI Rs k := by
  rw [List.length_eq_zero_iff, List.filterMap_eq_nil_iff]
  constructor
  · intro h j hj
    have hlt := rch_lt hR hk hj
    have h1 := h j (List.mem_range.mpr hlt)
    rw [hf] at h1
    have e1 := (ha j).mpr ((rch_fw k j).mpr hj)
    have g1 : ba.getD j false = true := by rw [List.getD_eq_getElem?_getD, e1]; rfl
    rw [g1] at h1
    have g2 : bb.getD j false = true := by
      cases e : bb.getD j false with
      | true => rfl
      | false => rw [e] at h1; cases h1
    have e2 : bb[j]? = some true := by rw [bool_get (by omega), g2]
    exact (rch_rev hR k j).mp ((hb j).mp e2)
  · intro h j hj
    have hlt := List.mem_range.mp hj
    rw [hf, if_neg]
    intro e
    rw [Bool.and_eq_true] at e
    have e1 : ba[j]? = some true := by rw [bool_get (by omega), e.1]
    have r := h j ((rch_fw k j).mp ((ha j).mp e1))
    have e2 := (hb j).mpr ((rch_rev hR k j).mpr r)
    have : bb.getD j false = true := by rw [List.getD_eq_getElem?_getD, e2]; rfl
    rw [this] at e
    cases e.2
def spFinal (K : PySem.W.Frag) : Sp := fun vs H Q _ => ∃ (x : V) (Fs Rs : List (List Int)), vs = [x] ∧ GraphAt K H x Fs Rs ∧ (∀ row ∈ Rs, RowIn Rs.length row) ∧ Rs.length ≤ 40 ∧ Rs.length = Fs.length ∧
  ∀ p H' (ms : List (List Int)), Same H H' → H p = none → Dp K H' (.ref p) (.list (ms.map dInts)) → ms.length ≤ 40 → (∀ m, m ∈ ms ↔ ∃ k, Fs[k]? = some m ∧ FinI Rs k) → Q (.ref p) H'
section
variable {P : Program} {w : World} {K : PySem.W.Frag} {mg : Str → Option Value} {base : Heap}
theorem c_final_markings (T : Txt K mg) : Cal P w K mg base 2 "final_markings" (spFinal K) := by
  refine T.f_final_markings.cal sc_final_markings (fun _ _ _ _ _ _ us hl => match us, hl with | [_], _ => rfl) (fun vs H Q E h => ?_) (fun f cdv A outer s H vs Q E hr h => ?_)
  · obtain ⟨x, Fs, Rs, rfl, _⟩ := h
    rfl
  · obtain ⟨x, Fs, Rs, rfl, hG, hR, h40, lFR, q⟩ := h
    obtain ⟨g, dx, fs, u1, u2, rfl, hg, f1, d1, f2, d2⟩ := id hG
    have C := T.k_Graph.cl
    have hs := sizeLine_eq
    refine ⟨_, (pss_cons (ps_set (i := 1) sc_final_markings.nd rfl (Or.inl rfl) (pe_c (c_reversed_edges T) hr (by decide) (by rfl) (pa_cons (pv 0) pa_nil)))
  (pss_cons (ps_setLc (i := 2) (own := [("row", 7)]) (g := gName 7) rfl sc_final_markings.nd rfl rfl (sw_true rfl rfl rfl (by decide +kernel)) (pi_tup (pe_fld (pv 0) rfl)) (blkOk_by (own := [("row", 7)]) (N := nm_final_markings) (sc := defScope s_final_markings) (by decide +kernel)) (fun _ _ _ _ _ => (pg_name (i := 7) sc_final_markings.nd rfl (Or.inl rfl))) (fun _ _ _ _ _ => pts_nil) (fun _ _ _ _ _ => (pe_lc (own := [("target", 8)]) (g := gName 8) rfl sc_final_markings.nd (pi_tupK K (pv 7)) (blkOk_by (own := [("target", 8)]) (N := nm_final_markings) (sc := { kind := .function, names := [(".0", .local), ("row", .local)], isGenerator := false, isCoroutine := false }) (by decide +kernel)) (fun _ _ _ _ _ => (pg_name (i := 8) sc_final_markings.nd rfl (Or.inl rfl))) (fun _ _ _ _ _ => pts_one (pt_cmpR op_ge (pv 8) pe_int (nomark _))) (fun _ _ _ _ _ => (pv 8)))))
  (pss_cons (ps_set (i := 3) sc_final_markings.nd rfl (Or.inl rfl) (pe_lst pa_nil))
  (pss_cons (ps_for PassesOwn.never rfl (pi_range1 rfl T.b_range (pa_cons (pe_callB call_len_seq (by rfl) T.b_len PyB.boot_len (pa_cons (pv 1) pa_nil)) pa_nil)) (pg_name (i := 4) sc_final_markings.nd rfl (Or.inl rfl)) (pss_cons (ps_set (i := 5) sc_final_markings.nd rfl (Or.inr rfl) (pe_c (c_reaching T) hr (by decide) (by rfl) (pa_cons (pv 1) (pa_cons (pe_lst (pa_cons (pv 4) pa_nil)) pa_nil))))
  (pss_cons (ps_set (i := 6) sc_final_markings.nd rfl (Or.inr rfl) (pe_c (c_reaching T) hr (by decide) (by rfl) (pa_cons (pv 2) (pa_cons (pe_lst (pa_cons (pv 4) pa_nil)) pa_nil))))
  (pss_one (ps_if (pt_cmpR op_eq (pe_callB call_len_seq (by rfl) T.b_len PyB.boot_len (pa_cons (pe_lc (own := [("k", 9)]) (g := gName 9) rfl sc_final_markings.nd (pi_range1 rfl T.b_range (pa_cons (pe_callB call_len_seq (by rfl) T.b_len PyB.boot_len (pa_cons (pv 5) pa_nil)) pa_nil)) (blkOk_by (own := [("k", 9)]) (N := nm_final_markings) (sc := defScope s_final_markings) (by decide +kernel)) (fun _ _ _ _ _ => (pg_name (i := 9) sc_final_markings.nd rfl (Or.inl rfl))) (fun _ _ _ _ _ => pts_one (PW.pt (pw_and (pt_val (pe_ix (ix_listK K) (pv 6) (pv 9) (fun _ _ => rfl))) (pw_and1 (pt_not (pt_val (pe_ix (ix_listK K) (pv 5) (pv 9) (fun _ _ => rfl)))))))) (fun _ _ _ _ _ => (pv 9))) pa_nil)) pe_int (nomark _)) (pss_one (ps_expr (pe_bm PySem.F.plainAttrs_list PySem.F.slot_list_append PySem.F.type_list_append mt_append (pv 3) (pa_cons (pe_ix ix_tup (pe_fld (pv 0) rfl) (pv 4) (fun _ _ => rfl)) pa_nil)))) pss_nil)))))
  (pss_one (ps_ret (pv 3))))))), ?_⟩
    refine ⟨_, rfl, _, Fs, Rs, rfl, hG, hR, h40, fun e H1 s1 he de => ?_⟩
    -- forward
    refine ⟨_, rfl, g, _, dx, fs, _, rfl, s1 _ _ hg, C, T.k_Graph.na _ (by simp), f2, lc_dtG (K := K) (vs := [7]) (Dp.same s1 d2) (by omega) (fun row => some (dIntL (row.filter fun z => decide (z ≥ 0)))) ?_ ?_⟩
    · intro D hD i z row hrow dz Hi R N s2 nD hR' _
      refine ⟨rfl, ?_⟩
      refine yesT ?_
      refine ⟨_, rfl, lc_dt (K := K) (vs := [8]) (Dp.same s2 dz) (by have := (hR row (List.mem_of_getElem? hrow)).1; omega) (fun z => if decide (z ≥ 0) = true then some (.int z) else none) ?_ ?_⟩
      · intro D' hD' i' z' t ht dt Hj R' N' s3 nD' hR2 hN2
        obtain rfl := Dp.intI dt
        refine ⟨rfl, ?_⟩
        refine ⟨_, rfl, _, _, rfl, rfl, _, rfl, ?_⟩
        by_cases hc : t ≥ 0
        · refine ifT (decide_eq_true hc) ?_
          exact ⟨_, rfl, hR2 _ _ _ (if_pos (decide_eq_true hc)) (Same.refl _) (.int _)⟩
        · exact ifF (decide_eq_false hc) (hN2 _ (if_neg (by rw [decide_eq_false hc]; exact Bool.false_ne_true)) (Same.refl _))
      · intro D' H5 s5 hD' d5
        rw [fm_if (fun z => PyData.int z) (fun z => decide (z ≥ 0))] at d5
        obtain ⟨_, e5, h5⟩ := Dp.intLI d5
        cases e5
        have nD' : D' ≠ D := fun e => nD (e ▸ hD')
        exact hR' _ _ _ rfl s5 (.lst (SqL.delNe nD' h5) (DpAll.ofInts _))
    intro w H2 G2 hw
    rw [fm_map, map_map' (fun (row : List Int) => row.filter fun z => decide (z ≥ 0)) dIntL] at G2
    have dw := G2.fin
    have s2 := G2.1
    have s12 := s1.trans s2
    -- found
    refine ⟨by decide, fun l hl => ?_⟩
    have G0 := Grown.start (K := K) hl
    have lE := (revE_pre hR Rs.length (Nat.le_refl _)).1
    have lE' : (revE Rs).length = Rs.length := lE
    have lF : (fwE Rs).length = Rs.length := List.length_map ..
    have inE : ∀ e ∈ revE Rs, ∀ z ∈ e, ∃ j : Nat, z = j ∧ j < (revE Rs).length := fun e he z hz => by
      obtain ⟨a, ha⟩ := List.getElem?_of_mem he
      obtain ⟨j, h1, h2⟩ := revE_in hR Rs.length (Nat.le_refl _) a z (by
        show z ∈ (revE Rs).getD a []
        rw [List.getD_eq_getElem?_getD, ha]; exact hz)
      exact ⟨j, h1, by rw [lE']; exact h2⟩
    have inF : ∀ e ∈ fwE Rs, ∀ z ∈ e, ∃ j : Nat, z = j ∧ j < (fwE Rs).length := fun e he z hz => by
      obtain ⟨row, hrow, rfl⟩ := List.mem_map.mp he
      obtain ⟨h1, h2⟩ := List.mem_filter.mp hz
      have h3 := of_decide_eq_true h2
      rw [lF]
      rcases (hR row hrow).2 z h1 with e | e
      · omega
      · exact e
    obtain ⟨ae, xe, ee, hae, hxe⟩ := Dp.lstI de
    cases ee
    have lxe := DpAll.mapLen hxe
    generalize upd H2 l (.lst []) = H3 at *
    have sl3 := G0.1
    refine ⟨_, rfl, e, _, rfl, .inl ((s2.trans sl3).seq hae), _, rfl, by omega, by omega, for_range (lo := 0) (fun i σ H' => ∃ v4 v5 v6 ms, σ = [some (.ref g), some (.ref e), some (.ref w), some (.ref l), v4, v5, v6, none, none, none] ∧ Grown K H2 l (ms.map dInts) H' ∧ ms.length ≤ i ∧
      (∀ m, m ∈ ms ↔ ∃ k, k < i ∧ Fs[k]? = some m ∧ FinI Rs k)) ⟨none, none, none, [], rfl, G0, Nat.le_refl _, fun m => by simp⟩ ?_ ?_⟩
    · rintro i σ H4 hi ⟨v4, v5, v6, ms, rfl, G4, lms, hms⟩
      have hi' : i < Rs.length := by omega
      obtain ⟨m, hm⟩ : ∃ m, Fs[i]? = some m := ⟨Fs[i]'(by omega), List.getElem?_eq_getElem _⟩
      have s4 := G4.1
      -- back
      refine ⟨_, rfl, _, rfl, by show 1 ≤ sizeLine; decide, fun t1 ht1 => ?_⟩
      have s5 : Same H4 (upd H4 t1 (.lst [.int (0 + (i : Nat))])) := Same.upd ht1
      refine ⟨.ref e, .ref t1, revE Rs, i, rfl, Dp.same (s2.trans (s4.trans s5)) de, .lst (SqL.of (by rw [upd_same, Int.zero_add]; rfl)) (DpAll.ofInts [(i : Int)]), by rw [lE']; exact hi', by rw [lE']; exact h40, inE, fun pb H6 bb s6 hpb hb lb hbb => ?_⟩
      have s46 := s5.trans s6
      -- ahead
      refine ⟨_, rfl, _, rfl, by show 1 ≤ sizeLine; decide, fun t2 ht2 => ?_⟩
      have s7 : Same H6 (upd H6 t2 (.lst [.int (0 + (i : Nat))])) := Same.upd ht2
      refine ⟨.ref w, .ref t2, fwE Rs, i, rfl, Dp.same (s4.trans (s46.trans s7)) dw, .lst (SqL.of (by rw [upd_same, Int.zero_add]; rfl)) (DpAll.ofInts [(i : Int)]), by rw [lF]; exact hi', by rw [lF]; exact h40, inF, fun pa H8 ba s8 hpa ha la hba => ?_⟩
      have s48 := s46.trans (s7.trans s8)
      have hb8 := (s7.trans s8) _ _ hb
      rw [lE'] at lb
      rw [lF] at la
      -- the numbers ahead and not back
      refine ⟨_, rfl, pb, _, rfl, .inl (SqL.of hb8), _, rfl, by rw [List.length_map]; omega, by rw [List.length_map]; omega, ?_⟩
      rw [List.length_map, Int.toNat_natCast, lb]
      refine lc_rg (K := K) (vs := [9]) (n := Rs.length) (by omega) (fun k => if (ba.getD k false && !bb.getD k false) = true then some (.int (k : Nat)) else none) ?_ ?_
      · intro D hD k hk Hi R N s9 nD hR' hN'
        have ga' : (ba.map V.bl)[k]? = some (V.bl (ba.getD k false)) := by rw [List.getElem?_map, bool_get (by omega)]; rfl
        have gb' : (bb.map V.bl)[k]? = some (V.bl (bb.getD k false)) := by rw [List.getElem?_map, bool_get (by omega)]; rfl
        refine ⟨rfl, ?_⟩
        refine ⟨_, rfl, _, rfl, pa, _, _, _, rfl, rfl, SqL.of (s9 _ _ ha), at_of (j := k) (by omega) ga', _, rfl, ?_⟩
        cases ca : ba.getD k false with
        | false =>
          refine ifF rfl ?_
          exact ifF rfl (hN' _ (if_neg (by rw [ca]; exact Bool.false_ne_true)) (Same.refl _))
        | true =>
          refine ifT rfl ?_
          refine ⟨_, rfl, _, rfl, pb, _, _, _, rfl, rfl, SqL.of (s9 _ _ hb8), at_of (j := k) (by omega) gb', _, rfl, ?_⟩
          cases cb : bb.getD k false with
          | true => exact ifF rfl (hN' _ (if_neg (by rw [ca, cb]; exact Bool.false_ne_true)) (Same.refl _))
          | false =>
            refine ifT rfl ?_
            exact ⟨_, rfl, hR' _ _ _ (if_pos (by rw [ca, cb]; rfl)) (Same.refl _) (by rw [Int.zero_add]; exact .int _)⟩
      intro D H9 s9 hD d9
      have fin := fin_iff hR hi' la lb hba hbb _ (fun k => rfl)
      generalize (List.range Rs.length).filterMap (fun k => if (ba.getD k false && !bb.getD k false) = true then some (PyData.int (k : Nat)) else none) = ks at *
      obtain ⟨_, ys, e9, h9, hys⟩ := Dp.lstI d9
      cases e9
      have lys := DpAll.len hys
      have s49 := s48.trans s9
      have G9 := G4.mono s49
      refine ⟨D, _, rfl, .inl h9, rfl, _, rfl, ?_⟩
      show if decide (V.int _ = V.int _) = true then _ else _
      rw [dec_int]
      by_cases hf : ks.length = 0
      · refine ifT (decide_eq_true (by rw [lys, hf]; rfl)) ?_
        obtain ⟨am, xm, em, ham, hxm⟩ := Dp.tupI d1
        obtain ⟨z, hz, dz⟩ := DpAll.getR hxm (i := i) (d := dInts m) (by rw [List.getElem?_map, hm]; rfl)
        have s09 : Same H H9 := s12.trans G9.1
        obtain ⟨acc, hacc, lacc, G10⟩ := G9.more hl (Same.refl _) (Dp.same (Same.del (s12.free hl) s09) dz) (by rw [List.length_map]; omega)
        refine ⟨_, rfl, .inl ⟨rfl, _, SqL.of hacc⟩, _, rfl, g, _, dx, fs, u1, rfl, s09 _ _ hg, C, T.k_Graph.na _ (by simp), f1, _, rfl, am, xm, _, z, em, rfl, Same.sqT s09 ham, at_of (j := i) (by omega) hz, l, acc, _, rfl, rfl, hacc, lacc, ?_⟩
        have e1 : ms.map dInts ++ [dInts m] = (ms ++ [m]).map dInts := by rw [List.map_append]; rfl
        rw [e1] at G10
        refine ⟨_, _, _, ms ++ [m], rfl, G10, by rw [List.length_append]; exact Nat.succ_le_succ lms, fun m' => ?_⟩
        rw [List.mem_append, List.mem_singleton, hms m']
        constructor
        · rintro (⟨k, h1, h2, h3⟩ | rfl)
          · exact ⟨k, by omega, h2, h3⟩
          · exact ⟨i, by omega, hm, fin.mp hf⟩
        · rintro ⟨k, h1, h2, h3⟩
          by_cases q : k = i
          · subst q; rw [hm] at h2; exact .inr (Option.some.inj h2).symm
          · exact .inl ⟨k, by omega, h2, h3⟩
      · refine ifF (decide_eq_false (by omega)) ?_
        refine ⟨_, _, _, ms, rfl, G9, by omega, fun m' => (hms m').trans ?_⟩
        constructor
        · rintro ⟨k, h1, h2, h3⟩; exact ⟨k, by omega, h2, h3⟩
        · rintro ⟨k, h1, h2, h3⟩
          refine ⟨k, ?_, h2, h3⟩
          by_cases q : k = i
          · subst q; exact absurd (fin.mpr h3) hf
          · omega
    · rintro σ H4 ⟨v4, v5, v6, ms, rfl, G4, lms, hms⟩
      rw [Int.toNat_natCast, lxe, lE'] at lms hms
      refine ⟨_, rfl, q l H4 ms (s12.trans G4.1) (s12.free hl) G4.fin (by omega) fun m => (hms m).trans ?_⟩
      constructor
      · rintro ⟨k, h1, h2, h3⟩; exact ⟨k, h2, h3⟩
      · rintro ⟨k, h2, h3⟩; exact ⟨k, by have := get_lt h2; omega, h2, h3⟩
end
end C62
set_option Elab.async false
set_option linter.all false
set_option maxRecDepth 100000
set_option maxHeartbeats 4000000
namespace C62
open PySem PySem.Spec PyProof.Rows L2
open He (ga ma)
/-! ### agreement -/
def startJ (S : PartsD) : Nat := S.states.idxOf S.start
def mark0 (S : PartsD) (c : Nat) : List Int := (cnt (placesOf S) (baseN S)).set (startJ S) ((cnt (placesOf S) (baseN S)).getD (startJ S) 0 + (c : Int))
def insK (S : PartsD) (ones : List Str) : List Nat := (List.range S.states.length).filter fun k => decide (S.states.getD k "" ∈ ones)
def outK (S : PartsD) (ones : List Str) : List Nat := (List.range S.states.length).filter fun k => !decide (S.states.getD k "" ∈ ones)
def zeroB (ks : List Nat) (m : List Int) : Bool := ks.all fun k => decide (m.getD k 0 ≤ 0)
def ansOf (S : PartsD) (ones : List Str) (ms : List (List Int)) : Str := if ms.all (zeroB (outK S ones)) = true then "yes" else if ms.all (zeroB (insK S ones)) = true then "no" else "open"
def Ans (S : PartsD) (ones : List Str) (c limit : Nat) (s : Str) : Prop := ∃ Fs Rs ms, ExpOk (netOf S) (mark0 S c) limit Fs Rs ∧ (∀ m, m ∈ ms ↔ ∃ k : Nat, Fs[k]? = some m ∧ FinI Rs k) ∧ s = ansOf S ones ms
theorem ExpOk.rowsIn {N : NetD} {m0 : List Int} {limit : Nat} {Fs Rs : List (List Int)} (nok : NetOk N) (h : ExpOk N m0 limit Fs Rs) : ∀ row ∈ Rs, RowIn Rs.length row := fun row hrow => by
  obtain ⟨k, hk⟩ := List.getElem?_of_mem hrow
  obtain ⟨m, hm, rp⟩ := h.1.rows k row hk
  refine ⟨by rw [rp.1]; exact nok.ts, fun z hz => ?_⟩
  obtain ⟨t, ht⟩ := List.getElem?_of_mem hz
  have hlt : t < N.trs.length := by rw [← rp.1]; exact get_lt ht
  obtain ⟨h1, h2⟩ := rp.2 t hlt
  cases e : succM N m t with
  | none => rw [h1 e] at ht; cases ht; exact .inl rfl
  | some m' =>
    obtain ⟨j, g1, g2⟩ := h2 m' e
    rw [g1] at ht
    cases ht
    exact .inr ⟨j, rfl, by rw [h.2]; exact get_lt g2⟩
theorem DpAll.bools {K : PySem.W.Frag} {H : Hp} : ∀ {bs : List Bool} {vs : List V}, DpAll K H vs (bs.map .bool) → vs = bs.map V.bl
  | [], _, .nil => rfl
  | b :: bs, _, .cons h t => by
    cases h
    rw [DpAll.bools t]; rfl
theorem inV_bl (x : Bool) : ∀ zs : List Bool, inV (.bl x) (zs.map V.bl) = decide (x ∈ zs)
  | [] => rfl
  | z :: zs => by
    have ih := inV_bl x zs
    show ((z == x) || inV (.bl x) (zs.map V.bl)) = _
    rw [ih]
    cases x <;> cases z <;> simp
theorem flat_bools (ys : List Bool) : (ys.map V.bl).all flatV = true := by
  rw [List.all_map]
  exact List.all_eq_true.mpr fun _ _ => rfl
abbrev castK (ks : List Nat) : List Int := ks.map fun (k : Nat) => (k : Int)
theorem castK_d (ks : List Nat) : ks.map (fun k => PyData.int (k : Nat)) = (castK ks).map PyData.int := by
  unfold castK; rw [List.map_map]; rfl
theorem zeroB_cast (ks : List Nat) (m : List Int) : (castK ks).all (fun k => decide (m.getD k.toNat 0 ≤ 0)) = zeroB ks m := by
  unfold castK zeroB
  rw [List.all_map]
  congr 1
theorem not_false {α : Type} (f : α → Bool) (l : List α) : (!decide (false ∈ l.map f)) = l.all f := by
  induction l with
  | nil => rfl
  | cons a r ih =>
    rw [List.map_cons, List.all_cons, ← ih]
    cases f a <;> simp
def spAgree (K : PySem.W.Frag) : Sp := fun vs H Q E => ∃ (x y : V) (S : PartsD) (ones : List Str) (c limit : Nat), vs = [x, y, .int c, .int limit] ∧ SysAt K H x S ∧ PartsOk S ∧ Dp K H y (dStrs ones) ∧ 1 ≤ limit ∧ limit ≤ 40 ∧
  (∀ H' s, Same H H' → Ans S ones c limit s → Q (.str s) H') ∧ ∀ H', Same H H' → ExpBad (netOf S) (mark0 S c) limit → E (.ref (ga K "TooMany")) none H'
theorem pe_callX_explore {X : Cx} {j : Nat} {p pos : Pos} {e : Expr} {es : List Expr} {t : TA} {E : XK} (T : Txt X.K X.mg) (hr : Room j X.A) (ha : PA X (e :: es) t) (hg : Gl X "explore" := by rfl) (hk : 4 ≤ j := by decide)
    (tk : Takes X (fun cls d _ H => E cls d H) := by exact takes_of rfl rfl rfl rfl)
    (he : starEach (e :: es) X.env = (false, eval e X.env) :: starEach es X.env := by rfl) (hpl : (backTo pos (starEach es X.env)).any (·.1) = false := by rfl) :
    PE X (.Call (.Name "explore" p) (e :: es) [] pos) (tCall (spExplore X.K) [] E t) :=
  pe_cX (c_explore T) hr hk hg tk (fun _ _ _ _ h => h) ha (by decide) he hpl
section
variable {P : Program} {w : World} {K : PySem.W.Frag} {mg : Str → Option Value} {base : Heap}
theorem c_agreement (T : Txt K mg) : CalX P w K mg base 6 "agreement" (spAgree K) := by
  refine T.f_agreement.calX sc_agreement (fun _ _ _ _ _ _ us hl => match us, hl with | [_, _, _, _], _ => rfl) (fun vs H Q E h => ?_) (fun f cdv A outer s H vs Q E hr h => ?_)
  · obtain ⟨x, y, S, ones, c, limit, rfl, _⟩ := h
    rfl
  · obtain ⟨x, y, S, ones, c, limit, rfl, hx, ok, hy, l1, l40, kq, ke⟩ := h
    obtain ⟨p, dx, fs, rfl, hp, F⟩ := id hx
    obtain ⟨as, f1, d1⟩ := F.states
    have C := T.k_System.cl
    have nok := netOk ok
    have hs := sizeLine_eq
    obtain ⟨ao, rfl, hao⟩ := Dp.strsI hy
    refine ⟨_, (pss_cons (ps_asg (pe_c (c_compile_protocol T) hr (by decide) (by rfl) (pa_cons (pv 0) pa_nil)) (pg_tup rfl (pgs_cons (pg_name (i := 4) sc_agreement.nd rfl (Or.inl rfl)) (pgs_cons (pg_name (i := 5) sc_agreement.nd rfl (Or.inl rfl)) (pgs_cons (pg_name (i := 6) sc_agreement.nd rfl (Or.inl rfl)) pgs_nil)))))
  (pss_cons (ps_set (i := 7) sc_agreement.nd rfl (Or.inl rfl) (pe_callX_explore T hr (pa_cons (pe_fld (pv 4) rfl) (pa_cons (pe_c (c_start_marking T) hr (by decide) (by rfl) (pa_cons (pv 5) (pa_cons (pv 2) pa_nil))) (pa_cons (pv 3) pa_nil)))))
  (pss_cons (ps_set (i := 8) sc_agreement.nd rfl (Or.inl rfl) (pe_c (c_final_markings T) hr (by decide) (by rfl) (pa_cons (pv 7) pa_nil)))
  (pss_cons (ps_set (i := 9) sc_agreement.nd rfl (Or.inr rfl) (pe_lc (own := [("k", 11)]) (g := gName 11) rfl sc_agreement.nd (pi_range1 rfl T.b_range (pa_cons (pe_callB call_len_seq (by rfl) T.b_len PyB.boot_len (pa_cons (pe_fld (pv 0) rfl) pa_nil)) pa_nil)) (blkOk_by (own := [("k", 11)]) (N := nm_agreement) (sc := defScope s_agreement) (by decide +kernel)) (fun _ _ _ _ _ => (pg_name (i := 11) sc_agreement.nd rfl (Or.inl rfl))) (fun _ _ _ _ _ => pts_one (pt_cmpR (op_in_seqK K) (pe_ix (ix_tupK K) (pe_fldK K (pv 0) rfl) (pv 11) (fun _ _ => rfl)) (pv 1) rfl)) (fun _ _ _ _ _ => (pv 11))))
  (pss_cons (ps_set (i := 10) sc_agreement.nd rfl (Or.inr rfl) (pe_lc (own := [("k", 11)]) (g := gName 11) rfl sc_agreement.nd (pi_range1 rfl T.b_range (pa_cons (pe_callB call_len_seq (by rfl) T.b_len PyB.boot_len (pa_cons (pe_fld (pv 0) rfl) pa_nil)) pa_nil)) (blkOk_by (own := [("k", 11)]) (N := nm_agreement) (sc := defScope s_agreement) (by decide +kernel)) (fun _ _ _ _ _ => (pg_name (i := 11) sc_agreement.nd rfl (Or.inl rfl))) (fun _ _ _ _ _ => pts_one (pt_cmpR (op_notIn_seqK K) (pe_ix (ix_tupK K) (pe_fldK K (pv 0) rfl) (pv 11) (fun _ _ => rfl)) (pv 1) rfl)) (fun _ _ _ _ _ => (pv 11))))
  (pss_cons (ps_if (pt_cmpR op_notIn_seq pe_bl (pe_lc (own := [("marking", 12)]) (g := gName 12) rfl sc_agreement.nd (pi_list (pv 8)) (blkOk_by (own := [("marking", 12)]) (N := nm_agreement) (sc := defScope s_agreement) (by decide +kernel)) (fun _ _ _ _ _ => (pg_name (i := 12) sc_agreement.nd rfl (Or.inl rfl))) (fun _ _ _ _ _ => pts_nil) (fun _ _ _ _ _ => (pe_c (c_all_zero T) hr (by decide) (by rfl) (pa_cons (pv 12) (pa_cons (pv 10) pa_nil))))) rfl) (pss_one (ps_ret pe_str)) pss_nil)
  (pss_cons (ps_if (pt_cmpR op_notIn_seq pe_bl (pe_lc (own := [("marking", 12)]) (g := gName 12) rfl sc_agreement.nd (pi_list (pv 8)) (blkOk_by (own := [("marking", 12)]) (N := nm_agreement) (sc := defScope s_agreement) (by decide +kernel)) (fun _ _ _ _ _ => (pg_name (i := 12) sc_agreement.nd rfl (Or.inl rfl))) (fun _ _ _ _ _ => pts_nil) (fun _ _ _ _ _ => (pe_c (c_all_zero T) hr (by decide) (by rfl) (pa_cons (pv 12) (pa_cons (pv 9) pa_nil))))) rfl) (pss_one (ps_ret pe_str)) pss_nil)
  (pss_one (ps_ret pe_str))))))))), ?_⟩
    -- compile_protocol
    refine ⟨_, rfl, _, S, rfl, hx, ok, fun p1 H1 s1 hp1 ⟨m, st, g, h1, hM, hst⟩ => ?_⟩
    refine ⟨p1, _, rfl, h1, rfl, _, _, rfl, _, _, rfl, _, _, rfl, rfl, ?_⟩
    -- explore
    obtain ⟨am, dm, fm, un, rfl, ham, fn1, hN⟩ := id hM
    have hjlt : S.states.idxOf S.start < (cnt (placesOf S) (baseN S)).length := by
      have := List.idxOf_lt_length_of_mem ok.st
      rw [cnt_len]
      unfold placesOf
      rw [List.length_append, List.length_map]
      exact Nat.lt_of_lt_of_le this (Nat.le_add_right _ _)
    refine ⟨_, rfl, am, _, dm, fm, _, rfl, ham, T.k_MailNet.cl, T.k_MailNet.na _ (by simp), fn1, ?_⟩
    refine ⟨_, rfl, _, rfl, _, _, S.states.idxOf S.start, (c : Int), rfl, hst, hjlt, fun p2 H2 s2 e2 => ?_⟩
    refine ⟨_, rfl, un, p2, netOf S, mark0 S c, limit, rfl, hN.same s2, nok, e2, ?_, l1, l40, fun v H3 Fs Rs s3 hG hE => ?_, fun H3 s3 hB => ke _ (s1.trans (s2.trans s3)) hB⟩
    · show (List.set _ _ _).length = (placesOf S).length
      rw [List.length_set, cnt_len]
    have s13 := s1.trans (s2.trans s3)
    have hRin := hE.rowsIn nok
    have lFs := hE.1.le
    -- final_markings
    refine ⟨_, rfl, _, Fs, Rs, rfl, hG, hRin, by rw [hE.2]; omega, hE.2, fun pf H4 ms s4 hpf dms lms hms => ?_⟩
    have s14 := s13.trans s4
    have o4 := ok.s4
    have stl : ∀ k, k < S.states.length → (S.states.map V.str)[k]? = some (V.str (S.states.getD k "")) := fun k hk => by
      rw [List.getElem?_map, List.getElem?_eq_getElem hk, List.getD_eq_getElem?_getD, List.getElem?_eq_getElem hk]; rfl
    have d14 := d1.samD (Same.samD s14)
    -- inside
    refine ⟨_, rfl, p, _, dx, fs, _, rfl, s14 _ _ hp, C, T.k_System.na _ (by simp), f1, as, _, rfl, .inr d14.sqT, _, rfl, by rw [List.length_map]; omega, by rw [List.length_map]; omega, ?_⟩
    rw [List.length_map, Int.toNat_natCast]
    refine lc_rg (K := K) (vs := [11]) (n := S.states.length) (by omega) (fun k => if decide (S.states.getD k "" ∈ ones) = true then some (.int (k : Nat)) else none) ?_ ?_
    · intro D hD k hk Hi R N s5 nD hR hN'
      have s15 := s14.trans s5
      refine ⟨rfl, ?_⟩
      refine ⟨_, rfl, p, _, dx, fs, _, rfl, s15 _ _ hp, C, T.k_System.na _ (by simp), f1, _, rfl, as, _, _, _, rfl, rfl, (d14.samD (Same.samD s5)).sqT, at_of (j := k) (by omega) (stl k hk), _, rfl, ao, _, rfl, .inl (s15.seq hao), rfl, flat_strs _, _, rfl, ?_⟩
      show if inV _ _ = true then _ else _
      rw [inV_str]
      by_cases hin : S.states.getD k "" ∈ ones
      · refine ifT (decide_eq_true hin) ?_
        exact ⟨_, rfl, hR _ _ _ (if_pos (decide_eq_true hin)) (Same.refl _) (by rw [Int.zero_add]; exact .int _)⟩
      · exact ifF (decide_eq_false hin) (hN' _ (if_neg (by rw [decide_eq_false hin]; exact Bool.false_ne_true)) (Same.refl _))
    intro D5 H5 s5 hD5 d5
    rw [fm_if (fun (k : Nat) => PyData.int (k : Nat)) (fun k => decide (S.states.getD k "" ∈ ones))] at d5
    rw [castK_d] at d5
    have s15 := s14.trans s5
    have d15 := d1.samD (Same.samD s15)
    have hao5 := s15.seq hao
    -- outside
    refine ⟨_, rfl, p, _, dx, fs, _, rfl, s15 _ _ hp, C, T.k_System.na _ (by simp), f1, as, _, rfl, .inr d15.sqT, _, rfl, by rw [List.length_map]; omega, by rw [List.length_map]; omega, ?_⟩
    rw [List.length_map, Int.toNat_natCast]
    refine lc_rg (K := K) (vs := [11]) (n := S.states.length) (by omega) (fun k => if (!decide (S.states.getD k "" ∈ ones)) = true then some (.int (k : Nat)) else none) ?_ ?_
    · intro D hD k hk Hi R N s6 nD hR hN'
      have s16 := s15.trans s6
      refine ⟨rfl, ?_⟩
      refine ⟨_, rfl, p, _, dx, fs, _, rfl, s16 _ _ hp, C, T.k_System.na _ (by simp), f1, _, rfl, as, _, _, _, rfl, rfl, (d15.samD (Same.samD s6)).sqT, at_of (j := k) (by omega) (stl k hk), _, rfl, ao, _, rfl, .inl (s16.seq hao), rfl, flat_strs _, _, rfl, ?_⟩
      show if (!inV _ _) = true then _ else _
      rw [inV_str]
      by_cases hin : S.states.getD k "" ∈ ones
      · exact ifF (by rw [decide_eq_true hin]; rfl) (hN' _ (if_neg (by rw [decide_eq_true hin]; exact Bool.false_ne_true)) (Same.refl _))
      · refine ifT (by rw [decide_eq_false hin]; rfl) ?_
        exact ⟨_, rfl, hR _ _ _ (if_pos (by rw [decide_eq_false hin]; rfl)) (Same.refl _) (by rw [Int.zero_add]; exact .int _)⟩
    intro D6 H6 s6 hD6 d6
    rw [fm_if (fun (k : Nat) => PyData.int (k : Nat)) (fun k => !decide (S.states.getD k "" ∈ ones)), castK_d] at d6
    have d5' := Dp.same s6 d5
    have dms6 := Dp.same (s5.trans s6) dms
    have s16 := s15.trans s6
    have lens : ∀ m ∈ ms, S.states.length ≤ m.length := fun m hm => by
      obtain ⟨k, hk, _⟩ := (hms m).mp hm
      rw [hE.1.len m (List.mem_of_getElem? hk)]
      show S.states.length ≤ (placesOf S).length
      unfold placesOf
      rw [List.length_append, List.length_map]
      exact Nat.le_add_right _ _
    have inr : ∀ (f : Nat → Bool) (m : List Int), m ∈ ms → ∀ k ∈ castK ((List.range S.states.length).filter f), ∃ j : Nat, k = j ∧ j < m.length := fun f m hm k hk => by
      obtain ⟨j, hj, rfl⟩ := List.mem_map.mp hk
      exact ⟨j, rfl, Nat.lt_of_lt_of_le (List.mem_range.mp (List.mem_filter.mp hj).1) (lens m hm)⟩
    have ans : Ans S ones c limit (ansOf S ones ms) := ⟨Fs, Rs, ms, hE, hms, rfl⟩
    -- yes
    refine ⟨_, rfl, lc_dl (K := K) (vs := [12]) dms6 (by omega) (fun m => some (.bool (zeroB (outK S ones) m))) ?_ ?_⟩
    · intro D hD i z m hm dz Hi R N s7 nD hR hN'
      refine ⟨rfl, ?_⟩
      refine yesT ?_
      refine ⟨_, rfl, _, rfl, z, _, m, _, rfl, Dp.same s7 dz, Dp.same s7 d6, inr _ m (List.mem_of_getElem? hm), ?_⟩
      rw [zeroB_cast]
      exact hR _ _ _ rfl (Same.refl _) (.bl _)
    intro D7 H7 s7 hD7 d7
    rw [fm_map, map_map' (zeroB (outK S ones)) PyData.bool] at d7
    obtain ⟨_, y7, e7, h7, hy7⟩ := Dp.lstI d7
    cases e7
    obtain rfl := DpAll.bools hy7
    have s17 := s16.trans s7
    refine ⟨D7, _, rfl, .inl h7, rfl, flat_bools _, _, rfl, ?_⟩
    show if (!inV _ _) = true then _ else _
    rw [inV_bl, not_false]
    cases hyes : ms.all (zeroB (outK S ones)) with
    | true =>
      refine ifT rfl ?_
      refine kq _ _ s17 ?_
      have e : ansOf S ones ms = "yes" := if_pos hyes
      rw [← e]; exact ans
    | false =>
      refine ifF rfl ?_
      have dms7 := Dp.same s7 dms6
      have d5'' := Dp.same s7 d5'
      refine ⟨_, rfl, lc_dl (K := K) (vs := [12]) dms7 (by omega) (fun m => some (.bool (zeroB (insK S ones) m))) ?_ ?_⟩
      · intro D hD i z m hm dz Hi R N s8 nD hR hN'
        refine ⟨rfl, ?_⟩
        refine yesT ?_
        refine ⟨_, rfl, _, rfl, z, _, m, _, rfl, Dp.same s8 dz, Dp.same s8 d5'', inr _ m (List.mem_of_getElem? hm), ?_⟩
        rw [zeroB_cast]
        exact hR _ _ _ rfl (Same.refl _) (.bl _)
      intro D8 H8 s8 hD8 d8
      rw [fm_map, map_map' (zeroB (insK S ones)) PyData.bool] at d8
      obtain ⟨_, y8, e8, h8, hy8⟩ := Dp.lstI d8
      cases e8
      obtain rfl := DpAll.bools hy8
      have s18 := s17.trans s8
      refine ⟨D8, _, rfl, .inl h8, rfl, flat_bools _, _, rfl, ?_⟩
      show if (!inV _ _) = true then _ else _
      rw [inV_bl, not_false]
      cases hno : ms.all (zeroB (insK S ones)) with
      | true =>
        refine ifT rfl ?_
        refine kq _ _ s18 ?_
        have e : ansOf S ones ms = "no" := by unfold ansOf; rw [if_neg (by rw [hyes]; exact Bool.false_ne_true), if_pos hno]
        rw [← e]; exact ans
      | false =>
        refine ifF rfl ?_
        refine kq _ _ s18 ?_
        have e : ansOf S ones ms = "open" := by unfold ansOf; rw [if_neg (by rw [hyes]; exact Bool.false_ne_true), if_neg (by rw [hno]; exact Bool.false_ne_true)]
        rw [← e]; exact ans
end
end C62
set_option Elab.async false
set_option linter.all false
set_option maxRecDepth 100000
set_option maxHeartbeats 4000000
namespace C62
open PySem PySem.Spec PyProof.Rows L2
open He (ga ma)
/-! ### the draws: a list of ints that is popped -/
def LI (H : Hp) (d : Addr) : Prop := ∃ ds : List Int, H d = some (.lst (ds.map V.int))
theorem But.fresh {H H' : Hp} {d l : Addr} {o : HO} (b : But d H H') (hl : H l = none) : But d H (upd H' l o) := fun c u e n => by
  rw [upd_ne (ne_of_none e hl)]; exact b _ _ e n
theorem But.own {H H' : Hp} {d : Addr} {o : HO} (b : But d H H') : But d H (upd H' d o) := fun c u e n => by
  rw [upd_ne n]; exact b _ _ e n
theorem But.free {H H' : Hp} {d l : Addr} (b : But d H H') (n : l ≠ d) (h : H' l = none) : H l = none := by
  cases q : H l with
  | none => rfl
  | some o => rw [b _ _ q n] at h; cases h
theorem But.wo {H H' : Hp} {d : Addr} {L : List Addr} (b : But d H H') (hL : ∀ c ∈ L, c = d ∨ H c = none) : Same (C62.wo [d] H) (C62.wo L H') := fun c o e => by
  by_cases q : c ∈ [d]
  · rw [wo_in q] at e; cases e
  · rw [wo_ne q] at e
    have n : c ≠ d := fun z => q (List.mem_singleton.mpr z)
    have nL : c ∉ L := fun z => (hL c z).elim n fun z => by rw [z] at e; cases e
    rw [wo_ne nL]
    exact b _ _ e n
theorem But.wo1 {H H' : Hp} {d : Addr} (b : But d H H') : Same (C62.wo [d] H) (C62.wo [d] H') := b.wo fun c hc => .inl (List.mem_singleton.mp hc)
/-- what changed but d, seen without more -/
theorem But.woL {H H' : Hp} {d : Addr} {L : List Addr} (b : But d H H') (hd : d ∈ L) : Same (C62.wo L H) (C62.wo L H') := fun c o e => by
  by_cases q : c ∈ L
  · rw [wo_in q] at e; cases e
  · rw [wo_ne q] at e ⊢
    exact b _ _ e fun z => q (z ▸ hd)
/-- what is new since H, without the list l -/
def frl (H : Hp) (l : Addr) (H' : Hp) : Hp := fun b => if b = l then none else fresh H H' b
/-- a list that grows, its items all new since H0 -/
def GW (K : PySem.W.Frag) (H0 : Hp) (l : Addr) (ds : List PyData) (H : Hp) : Prop := ∃ acc, H l = some (.lst acc) ∧ acc.length = ds.length ∧ DpAll K (frl H0 l H) acc ds
section
variable {K : PySem.W.Frag} {l d t : Addr} {ds : List PyData} {H0 H H' : Hp}
theorem frl_at (n : t ≠ l) (h : H0 t = none) : frl H0 l H t = H t := by unfold frl; rw [if_neg n, fresh_at h]
theorem frl_old {o : HO} (e : frl H0 l H t = some o) : t ≠ l ∧ H0 t = none ∧ H t = some o := by
  unfold frl at e
  by_cases n : t = l
  · rw [if_pos n] at e; cases e
  · rw [if_neg n] at e
    cases q : H0 t with
    | none => rw [fresh_at q] at e; exact ⟨n, rfl, e⟩
    | some u => rw [fresh_old q] at e; cases e
theorem fresh_old' {o : HO} (e : fresh H0 H t = some o) : H0 t = none ∧ H t = some o := by
  cases q : H0 t with
  | none => rw [fresh_at q] at e; exact ⟨rfl, e⟩
  | some u => rw [fresh_old q] at e; cases e
theorem frl_upd {o : HO} : frl H0 l (upd H l o) = frl H0 l H := by
  funext b
  by_cases n : b = l
  · unfold frl; rw [if_pos n, if_pos n]
  · unfold frl fresh; rw [if_neg n, if_neg n, upd_ne n]
theorem frl_same (s : Same H H') : Same (frl H0 l H) (frl H0 l H') := fun b o e => by
  obtain ⟨h1, h2, h3⟩ := frl_old e
  rw [frl_at h1 h2]; exact s _ _ h3
theorem frl_but (b : But d H H') (hd : H0 d ≠ none) : Same (frl H0 l H) (frl H0 l H') := fun c o e => by
  obtain ⟨h1, h2, h3⟩ := frl_old e
  rw [frl_at h1 h2]; exact b _ _ h3 fun z => hd (z ▸ h2)
theorem frl_fresh : Same (frl H0 l H) (fresh H0 H) := fun c o e => by
  obtain ⟨h1, h2, h3⟩ := frl_old e
  rw [fresh_at h2]; exact h3
/-- new since Ha: new since H0 -/
theorem fresh_up {Ha H1 H2 : Hp} (b : But d H0 Ha) (ha : Ha d ≠ none) (c : But d H1 H2) : Same (fresh Ha H1) (fresh H0 H2) := fun x o e => by
  obtain ⟨h2, h3⟩ := fresh_old' e
  have nd : x ≠ d := fun z => ha (z ▸ h2)
  rw [fresh_at (b.free nd h2)]; exact c _ _ h3 nd
theorem fresh_wo (hd : H0 d ≠ none) : Same (fresh H0 H) (C62.wo [d] H) := fun x o e => by
  obtain ⟨h2, h3⟩ := fresh_old' e
  have n : x ≠ d := fun z => hd (z ▸ h2)
  rw [wo_ne fun z => n (List.mem_singleton.mp z)]; exact h3
theorem LI.some (h : LI H d) : H d ≠ none := by obtain ⟨ds, z⟩ := h; rw [z]; exact fun z => nomatch z
theorem GW.start : GW K H0 l [] (upd H l (.lst [])) := ⟨[], upd_same, rfl, .nil⟩
theorem GW.but (h : GW K H0 l ds H) (b : But d H H') (hd : H0 d ≠ none) (n : l ≠ d) : GW K H0 l ds H' :=
  let ⟨acc, h1, h2, h3⟩ := h
  ⟨acc, b _ _ h1 n, h2, DpAll.same (frl_but b hd) h3⟩
theorem GW.same (h : GW K H0 l ds H) (s : Same H H') : GW K H0 l ds H' :=
  let ⟨acc, h1, h2, h3⟩ := h
  ⟨acc, s _ _ h1, h2, DpAll.same (frl_same s) h3⟩
theorem GW.more {y : V} {e : PyData} (h : GW K H0 l ds H) (hy : Dp K (frl H0 l H) y e) (hz : ds.length < 1000) : ∃ acc, H l = some (.lst acc) ∧ acc.length < sizeLine ∧ GW K H0 l (ds ++ [e]) (upd H l (.lst (acc ++ [y]))) := by
  obtain ⟨acc, h1, h2, h3⟩ := h
  refine ⟨acc, h1, small1000 (by omega), acc ++ [y], upd_same, by rw [List.length_append, List.length_append, h2]; rfl, ?_⟩
  rw [frl_upd]
  exact DpAll.app h3 (DpAll.one hy)
theorem GW.fin (h : GW K H0 l ds H) (n : H0 l = none) : Dp K (fresh H0 H) (.ref l) (.list ds) := by
  obtain ⟨acc, h1, h2, h3⟩ := h
  exact .lst (SqL.of (by rw [fresh_at n]; exact h1)) (DpAll.same frl_fresh h3)
end
/-! ### loops over data that stands in a smaller heap -/
section
variable {α : Type} {K : PySem.W.Frag} {G : Hp} {v : V} {enc : α → PyData} {l : List α} {g : TG} {tb : TS} {D : Ends} {σ : L2.St} {H : Hp}
theorem for_dlS (h : Dp K G v (.list (l.map enc))) (Pv : Nat → L2.St → Hp → Prop) (h0 : Pv 0 σ H) (hl : ∀ k σ' H', k ≤ l.length → Pv k σ' H' → Same G H')
    (turn : ∀ k x y σ' H', l[k]? = some y → Dp K G x (enc y) → Pv k σ' H' → g x σ' H' fun σ2 H2 => tb { D with nx := Pv (k + 1), ct := Pv (k + 1), bk := D.nx } σ2 H2)
    (done : ∀ σ' H', Pv l.length σ' H' → D.nx σ' H') :
    ∃ a, v = .ref a ∧ (∃ xs, SqL K H a xs) ∧ ∃ W : Nat → Nat → L2.St → Hp → Prop, (∃ m, W 0 m σ H) ∧ ∀ i m σ H, W i m σ H →
      ((Itl K a).stop i H ∧ D.nx σ H) ∨ ((Itl K a).go i H ∧ ∃ N : L2.St → Hp → Prop, (∀ σ' H', N σ' H' → ∃ m', m' < m ∧ W (i + 1) m' σ' H') ∧ ∀ x H', (Itl K a).yld i H x H' → g x σ H' fun σ2 H2 => tb { D with nx := N, ct := N, bk := D.nx } σ2 H2) := by
  obtain ⟨a, xs, rfl, hs, ha⟩ := Dp.lstI h
  have ln := DpAll.mapLen ha
  refine ⟨a, rfl, ⟨xs, (hl 0 σ H (Nat.zero_le _) h0).seq hs⟩, for_list (K := K) (a := a) (xs := xs) Pv h0 (fun k σ' H' hk p => (hl k σ' H' (ln ▸ hk) p).seq hs) (fun k x σ' H' hx p => ?_) (fun σ' H' p => done σ' H' (ln ▸ p))⟩
  obtain ⟨y, h1, h2⟩ := DpAll.item ha hx
  exact turn k x y σ' H' h1 h2 p
theorem for_dtS (h : Dp K G v (.tuple (l.map enc))) (Pv : Nat → L2.St → Hp → Prop) (h0 : Pv 0 σ H) (hl : ∀ k σ' H', k ≤ l.length → Pv k σ' H' → Same G H')
    (turn : ∀ k x y σ' H', l[k]? = some y → Dp K G x (enc y) → Pv k σ' H' → g x σ' H' fun σ2 H2 => tb { D with nx := Pv (k + 1), ct := Pv (k + 1), bk := D.nx } σ2 H2)
    (done : ∀ σ' H', Pv l.length σ' H' → D.nx σ' H') :
    ∃ a, v = .ref a ∧ (∃ xs, SqT K H a xs) ∧ ∃ W : Nat → Nat → L2.St → Hp → Prop, (∃ m, W 0 m σ H) ∧ ∀ i m σ H, W i m σ H →
      ((Itt K a).stop i H ∧ D.nx σ H) ∨ ((Itt K a).go i H ∧ ∃ N : L2.St → Hp → Prop, (∀ σ' H', N σ' H' → ∃ m', m' < m ∧ W (i + 1) m' σ' H') ∧ ∀ x H', (Itt K a).yld i H x H' → g x σ H' fun σ2 H2 => tb { D with nx := N, ct := N, bk := D.nx } σ2 H2) := by
  obtain ⟨a, xs, rfl, hs, ha⟩ := Dp.tupI h
  have ln := DpAll.mapLen ha
  refine ⟨a, rfl, ⟨xs, Same.sqT (hl 0 σ H (Nat.zero_le _) h0) hs⟩, for_tup (K := K) (a := a) (xs := xs) Pv h0 (fun k σ' H' hk p => Same.sqT (hl k σ' H' (ln ▸ hk) p) hs) (fun k x σ' H' hx p => ?_) (fun σ' H' p => done σ' H' (ln ▸ p))⟩
  obtain ⟨y, h1, h2⟩ := DpAll.item ha hx
  exact turn k x y σ' H' h1 h2 p
end
def spTake : Sp := fun vs H Q _ => ∃ (d : Addr) (n : Nat), vs = [.ref d, .int n] ∧ 1 ≤ n ∧ LI H d ∧ ∀ H' i, But d H H' → LI H' d → i < n → Q (.int (i : Nat)) H'
def spTarget (K : PySem.W.Frag) : Sp := fun vs H Q _ => ∃ (d : Addr) (y : V) (ss : List Str), vs = [.ref d, y] ∧ LI H d ∧ Dp K (wo [d] H) y (dStrs ss) ∧ 1 ≤ ss.length ∧ ∀ H' s, But d H H' → LI H' d → (s ∈ ss ∨ s = ("gone" : Str)) → Q (.str s) H'
def spValuesL (K : PySem.W.Frag) : Sp := fun vs H Q _ => ∃ (d : Addr) (y : V) (sh : Int) (vars : List (Str × List Str)), vs = [.ref d, y, .int sh] ∧ LI H d ∧ Dp K (wo [d] H) y (.list (vars.map dVar)) ∧ vars.length ≤ 1 ∧ (∀ v ∈ vars, 1 ≤ v.2.length) ∧
  ∀ p H' ps, But d H H' → LI H' d → H p = none → Dp K (fresh H H') (.ref p) (.list (ps.map dPr)) → ValsOk vars ps → Q (.ref p) H'
section
variable {P : Program} {w : World} {K : PySem.W.Frag} {mg : Str → Option Value} {base : Heap}
theorem c__law_take (T : Txt K mg) : Cal P w K mg base 1 "_law_take" spTake := by
  refine T.f_law_take.cal sc_law_take (fun _ _ _ _ _ _ us hl => match us, hl with | [_, _], _ => rfl) (fun vs H Q E h => ?_) (fun f cdv A outer s H vs Q E hr h => ?_)
  · obtain ⟨d, n, rfl, _⟩ := h
    rfl
  · obtain ⟨d, n, rfl, hn, ⟨ds, hd⟩, q⟩ := h
    refine ⟨_, (pss_cons (ps_if (pt_cmpR op_eq (pe_callB call_len_seq (by rfl) T.b_len PyB.boot_len (pa_cons (pv 0) pa_nil)) pe_int (nomark _)) (pss_one (ps_ret pe_int)) pss_nil)
  (pss_one (ps_ret (pe_op op_mod (pe_callTy call_int1 (by rfl) T.b_int PyB.boot_int (pa_cons (pe_bm0 PySem.F.plainAttrs_list PySem.F.slot_list_pop PySem.F.type_list_pop mt_pop (pv 0)) pa_nil)) (pv 1))))), ?_⟩
    refine ⟨_, rfl, d, _, rfl, .inl (SqL.of hd), rfl, _, rfl, ?_⟩
    show if decide (V.int _ = V.int _) = true then _ else _
    rw [dec_int]
    rcases List.eq_nil_or_concat ds with e | ⟨es, x, e⟩
    · subst e
      refine ifT rfl ?_
      exact q H 0 (But.refl _ _) ⟨[], hd⟩ hn
    · rw [List.concat_eq_append] at e
      subst e
      refine ifF (decide_eq_false (by rw [List.length_map, List.length_append]; exact fun z => by have : (es.length : Int) + 1 = 0 := z; omega)) ?_
      refine ⟨_, rfl, .inl ⟨rfl, _, SqL.of hd⟩, d, _, .int x, rfl, rfl, hd, ?_, ?_⟩
      · rw [List.map_append, List.length_append, List.getElem?_append_right (by simp)]; simp
      rw [List.map_append, List.map_singleton, List.dropLast_concat]
      have h0 := Int.emod_nonneg x (show (n : Int) ≠ 0 by omega)
      have h1 := Int.emod_lt_of_pos x (show (0 : Int) < n by omega)
      refine .inl ⟨x, rfl, _, rfl, x, n, rfl, rfl, by show (0 : Int) < n; omega, ?_⟩
      have e : x % (n : Int) = ((x % (n : Int)).toNat : Nat) := by omega
      show Q (.int (x % (n : Int))) _
      rw [e]
      exact q _ _ But.put ⟨es, upd_same⟩ (by omega)
theorem c__law_target (T : Txt K mg) : Cal P w K mg base 2 "_law_target" (spTarget K) := by
  refine T.f_law_target.cal sc_law_target (fun _ _ _ _ _ _ us hl => match us, hl with | [_, _], _ => rfl) (fun vs H Q E h => ?_) (fun f cdv A outer s H vs Q E hr h => ?_)
  · obtain ⟨d, y, ss, rfl, _⟩ := h
    rfl
  · obtain ⟨d, y, ss, rfl, hd, hy, hs1, q⟩ := h
    obtain ⟨a, rfl, ha⟩ := Dp.strsI hy
    refine ⟨_, (pss_cons (ps_if (pt_cmpR op_eq (pe_c (c__law_take T) hr (by decide) (by rfl) (pa_cons (pv 0) (pa_cons pe_int pa_nil))) pe_int (nomark _)) (pss_one (ps_ret pe_str)) pss_nil)
  (pss_one (ps_ret (pe_ix ix_list (pv 1) (pe_c (c__law_take T) hr (by decide) (by rfl) (pa_cons (pv 0) (pa_cons (pe_callB call_len_seq (by rfl) T.b_len PyB.boot_len (pa_cons (pv 1) pa_nil)) pa_nil))) (fun _ _ => rfl))))), ?_⟩
    refine ⟨_, rfl, d, 9, rfl, by decide, hd, fun H1 i b1 d1 hi => ?_⟩
    refine ⟨rfl, _, rfl, ?_⟩
    show if decide (V.int _ = V.int _) = true then _ else _
    rw [dec_int]
    by_cases h0 : i = 0
    · refine ifT (decide_eq_true (by omega)) ?_
      exact q _ _ b1 d1 (.inr rfl)
    · refine ifF (decide_eq_false (by omega)) ?_
      have ha1 := Same.seq b1.wo1 ha
      refine ⟨_, rfl, _, rfl, _, rfl, a, _, rfl, .inl (Same.ofWo.seq ha1), d, ss.length, (by rw [List.length_map]; rfl), hs1, d1, fun H2 j b2 d2 hj => ?_⟩
      have ha2 := Same.seq b2.wo1 ha1
      obtain ⟨x, hx⟩ : ∃ x, ss[j]? = some x := ⟨ss[j], List.getElem?_eq_getElem hj⟩
      refine ⟨a, _, _, .str x, rfl, rfl, Same.ofWo.seq ha2, at_of (j := j) rfl (by rw [List.getElem?_map, hx]; rfl), ?_⟩
      exact q _ _ (b1.trans b2) d2 (.inl (List.mem_of_getElem? hx))
theorem c__law_values (T : Txt K mg) : Cal P w K mg base 2 "_law_values" (spValuesL K) := by
  refine T.f_law_values.cal sc_law_values (fun _ _ _ _ _ _ us hl => match us, hl with | [_, _, _], _ => rfl) (fun vs H Q E h => ?_) (fun f cdv A outer s H vs Q E hr h => ?_)
  · obtain ⟨d, y, sh, vars, rfl, _⟩ := h
    rfl
  · obtain ⟨d, y, sh, vars, rfl, hd, hy, hv1, hvl, q⟩ := h
    refine ⟨_, (pss_cons (ps_set (i := 3) sc_law_values.nd rfl (Or.inl rfl) (pe_lst pa_nil))
  (pss_cons (ps_for PassesOwn.never rfl (pi_list (pv 1)) (pg_name (i := 4) sc_law_values.nd rfl (Or.inl rfl)) (pss_one (ps_if (pt_cmpR op_lt (pe_c (c__law_take T) hr (by decide) (by rfl) (pa_cons (pv 0) (pa_cons pe_int pa_nil))) (pv 2) (nomark _)) (pss_one (ps_expr (pe_bm PySem.F.plainAttrs_list PySem.F.slot_list_append PySem.F.type_list_append mt_append (pv 3) (pa_cons (pe_tup (pa_cons (pe_ix ix_tup (pv 4) pe_int (fun _ _ => rfl)) (pa_cons (pe_ix ix_list (pe_ix ix_tup (pv 4) pe_int (fun _ _ => rfl)) (pe_c (c__law_take T) hr (by decide) (by rfl) (pa_cons (pv 0) (pa_cons (pe_callB call_len_seq (by rfl) T.b_len PyB.boot_len (pa_cons (pe_ix ix_tup (pv 4) pe_int (fun _ _ => rfl)) pa_nil)) pa_nil))) (fun _ _ => rfl)) pa_nil))) pa_nil)))) pss_nil)))
  (pss_one (ps_ret (pv 3))))), ?_⟩
    refine ⟨by decide, fun l hl => ?_⟩
    have ld : l ≠ d := fun e => by obtain ⟨ds, z⟩ := hd; rw [← e, hl] at z; cases z
    have hds := hd.some
    have b0 : But d H (upd H l (.lst [])) := (But.refl d H).fresh hl
    have d0 : LI (upd H l (.lst [])) d := by obtain ⟨ds, z⟩ := hd; exact ⟨ds, by rw [upd_ne (Ne.symm ld)]; exact z⟩
    have g0 : GW K H l [] (upd H l (.lst [])) := GW.start
    generalize upd H l (.lst []) = H1 at *
    refine ⟨_, rfl, for_dlS (K := K) (l := vars) (enc := dVar) hy (fun i σ H' => ∃ v ps, σ = [some (.ref d), some y, some (.int sh), some (.ref l), v] ∧ But d H H' ∧ LI H' d ∧ GW K H l (ps.map dPr) H' ∧ ValsOk vars ps ∧ (i = 0 → ps = []))
      ⟨none, [], rfl, b0, d0, g0, ⟨fun p hp => by (cases hp), List.nodup_nil, by decide⟩, fun _ => rfl⟩ (fun i σ H' _ ⟨_, _, _, b, _⟩ => b.wo1.trans Same.ofWo) ?_ ?_⟩
    · rintro i z v σ H2 hv dz ⟨v4, ps, rfl, b2, d2, g2, hps, h0⟩
      have i0 : i = 0 := by have := get_lt hv; omega
      obtain rfl := h0 i0
      subst i0
      have ev : vars = [v] := by
        match vars, hv1, hv with
        | [x], _, e => cases e; rfl
      obtain ⟨t, e, rfl, ht, he⟩ := Dp.varI dz
      have v1 := hvl v (List.mem_of_getElem? hv)
      have G2 : Same (wo [d] H) H2 := b2.wo1.trans Same.ofWo
      refine ⟨_, rfl, d, 6, rfl, by decide, d2, fun H3 i1 b3 d3 hi1 => ?_⟩
      have b23 := b2.trans b3
      have g3 := g2.but b3 hds ld
      have G3 : Same (wo [d] H) H3 := b23.wo1.trans Same.ofWo
      refine ⟨_, rfl, _, _, rfl, rfl, _, rfl, ?_⟩
      by_cases hc : (i1 : Int) < sh
      · refine ifT (decide_eq_true hc) ?_
        obtain ⟨acc, hacc, _⟩ := id g3
        refine ⟨_, rfl, .inl ⟨rfl, _, SqL.of hacc⟩, _, rfl, t, _, (0 : Int), _, rfl, rfl, Same.sqT G3 ht, at_of (z := (0 : Int)) (j := 0) rfl rfl, ?_⟩
        refine ⟨_, rfl, t, _, (1 : Int), _, rfl, rfl, Same.sqT G3 ht, at_of (z := (1 : Int)) (j := 1) rfl rfl, ?_⟩
        refine ⟨_, rfl, _, rfl, t, _, (1 : Int), _, rfl, rfl, Same.sqT G3 ht, at_of (z := (1 : Int)) (j := 1) rfl rfl, e, _, rfl, .inl (G3.seq he), d, v.2.length, (by rw [List.length_map]; rfl), v1, d3, fun H4 j b4 d4 hj => ?_⟩
        have b34 := b23.trans b4
        have G4 : Same (wo [d] H) H4 := b34.wo1.trans Same.ofWo
        obtain ⟨x, hx⟩ : ∃ x, v.2[j]? = some x := ⟨v.2[j], List.getElem?_eq_getElem hj⟩
        refine ⟨e, _, _, .str x, rfl, rfl, G4.seq he, at_of (j := j) rfl (by rw [List.getElem?_map, hx]; rfl), by show 2 ≤ sizeLine; decide, fun t2 ht2 => ?_⟩
        have g4 := (g3.but b4 hds ld).same (Same.upd (o := .tup [.str v.1, .str x]) ht2)
        have nd2 : t2 ≠ d := fun e => by
          obtain ⟨_, q⟩ := d4
          rw [← e, ht2] at q; cases q
        have nl2 : t2 ≠ l := fun e => by
          obtain ⟨_, q, _⟩ := g3.but b4 hds ld
          rw [← e, ht2] at q; cases q
        have dp : Dp K (frl H l (upd H4 t2 (.tup [.str v.1, .str x]))) (.ref t2) (dPr (v.1, x)) := .tup (SqT.of (by rw [frl_at nl2 (b34.free nd2 ht2)]; exact upd_same)) (.cons (.str _) (.cons (.str _) .nil))
        obtain ⟨acc2, h1, h2, g5⟩ := g4.more dp (by decide)
        refine ⟨l, acc2, _, rfl, rfl, h1, h2, ?_⟩
        refine ⟨_, [(v.1, x)], rfl, ?_, ?_, g5, ⟨fun p hp => ?_, by simp, by show 1 ≤ 60; decide⟩, fun z => by cases z⟩
        · refine But.fresh ?_ hl
          exact b34.trans (Same.but d (Same.upd ht2))
        · obtain ⟨ds, q⟩ := d4
          exact ⟨ds, by rw [upd_ne (Ne.symm ld), upd_ne (Ne.symm nd2)]; exact q⟩
        · rw [List.mem_singleton.mp hp]
          exact ⟨v.2, ev, List.mem_of_getElem? hx⟩
      · refine ifF (decide_eq_false hc) ?_
        exact ⟨_, [], rfl, b23, d3, g3, ⟨fun p hp => by (cases hp), List.nodup_nil, by decide⟩, fun _ => rfl⟩
    · rintro σ H2 ⟨v4, ps, rfl, b2, d2, g2, hps, h0⟩
      exact ⟨_, rfl, q l H2 ps b2 d2 hl (g2.fin hl) hps⟩
end
end C62
set_option Elab.async false
set_option linter.all false
set_option maxRecDepth 100000
set_option maxHeartbeats 4000000
namespace C62
open PySem PySem.Spec PyProof.Rows L2
open He (ga ma)
/-- a statement, then what follows, met at one place -/
theorem seq_join {a b : TS} {D : Ends} {σ : L2.St} {H : Hp} (Mid : L2.St → Hp → Prop) (h : ∀ R : L2.St → Hp → Prop, (∀ σ' H', Mid σ' H' → R σ' H') → a { D with nx := R } σ H) (k : ∀ σ' H', Mid σ' H' → b D σ' H') : tSeq a b D σ H := h _ k
section
variable {K : PySem.W.Frag} {H H0 : Hp} {d l t : Addr} {o o' : HO}
theorem LI.same {H' : Hp} (h : LI H d) (s : Same H H') : LI H' d := let ⟨ds, z⟩ := h; ⟨ds, s _ _ z⟩
theorem LI.put (h : LI H d) (n : d ≠ l) : LI (upd H l o) d := let ⟨ds, z⟩ := h; ⟨ds, by rw [upd_ne n]; exact z⟩
theorem LI.ne (h : LI H d) (hl : H l = none) : l ≠ d := fun e => by obtain ⟨ds, z⟩ := h; rw [← e, hl] at z; cases z
theorem But.app (b : But d H0 H) (ht : H t = none) (hl : H0 l = none) : But d H0 (upd (upd H t o) l o') := (b.trans (Same.but d (Same.upd ht))).fresh hl
theorem But.al (b : But d H0 H) (ht : H t = none) : But d H0 (upd H t o) := b.trans (Same.but d (Same.upd ht))
theorem GW.tup {ds : List PyData} {xs : List V} {es : List PyData} (n : l ≠ d) (b : But d H0 H) (g : GW K H0 l ds H) (hd : LI H d) (ht : H t = none) (hx : ∀ G, Same (frl H0 l H) G → DpAll K G xs es) (hz : ds.length < 1000) :
    ∃ acc, (upd H t (.tup xs)) l = some (.lst acc) ∧ acc.length < sizeLine ∧ GW K H0 l (ds ++ [.tuple es]) (upd (upd H t (.tup xs)) l (.lst (acc ++ [.ref t]))) ∧ LI (upd (upd H t (.tup xs)) l (.lst (acc ++ [.ref t]))) d := by
  have n1 : t ≠ d := hd.ne ht
  have n2 : t ≠ l := fun e => by
    obtain ⟨_, q, _⟩ := g
    rw [← e, ht] at q; cases q
  have g1 := g.same (Same.upd (o := .tup xs) ht)
  have dp : Dp K (frl H0 l (upd H t (.tup xs))) (.ref t) (.tuple es) := .tup (SqT.of (by rw [frl_at n2 (b.free n1 ht)]; exact upd_same)) (hx _ (frl_same (Same.upd ht)))
  obtain ⟨acc, h1, h2, g2⟩ := g1.more dp hz
  exact ⟨acc, h1, h2, g2, (hd.same (Same.upd ht)).put (Ne.symm n)⟩
end
abbrev dRule (r : RuleD) : PyData := .tuple [.str r.name, .list (r.actors.map dPr), .list (r.everyone.map dPr), dStrs r.born, .list (r.conds.map dPr), .list (r.effs.map dPr), .list [], .list []]
def spRuleL (K : PySem.W.Frag) : Sp := fun vs H Q _ => ∃ (d : Addr) (y z u : V) (nm : Str) (ss : List Str) (vars : List (Str × List Str)), vs = [.ref d, .str nm, y, z, u] ∧ LI H d ∧ Dp K (wo [d] H) y (dStrs ss) ∧ 1 ≤ ss.length ∧ ss.length ≤ 4 ∧ ss.Nodup ∧ Dp K (wo [d] H) z (.list (vars.map dVar)) ∧ vars.length ≤ 1 ∧ (∀ v ∈ vars, 1 ≤ v.2.length) ∧
  Dp K (wo [d] H) u (.list []) ∧ NameOk nm ∧ ∀ p H' r, But d H H' → LI H' d → H p = none → Dp K (fresh H H') (.ref p) (dRule r) → r.name = nm → RuleOk ss vars r → Q (.ref p) H'
theorem six (j : Nat) (h : j < 6) : ∃ n : Nat, ([.int 1, .int 1, .int 2, .int 1, .int 2, .int 3] : List V)[j]? = some (.int n) ∧ 1 ≤ n ∧ n ≤ 3 := by
  match j, h with
  | 0, _ => exact ⟨1, rfl, by decide, by decide⟩
  | 1, _ => exact ⟨1, rfl, by decide, by decide⟩
  | 2, _ => exact ⟨2, rfl, by decide, by decide⟩
  | 3, _ => exact ⟨1, rfl, by decide, by decide⟩
  | 4, _ => exact ⟨2, rfl, by decide, by decide⟩
  | 5, _ => exact ⟨3, rfl, by decide, by decide⟩
section
variable {P : Program} {w : World} {K : PySem.W.Frag} {mg : Str → Option Value} {base : Heap}
theorem c__law_rule (T : Txt K mg) : Cal P w K mg base 3 "_law_rule" (spRuleL K) := by
  refine T.f_law_rule.cal sc_law_rule (fun _ _ _ _ _ _ us hl => match us, hl with | [_, _, _, _, _], _ => rfl) (fun vs H Q E h => ?_) (fun f cdv A outer s H vs Q E hr h => ?_)
  · obtain ⟨d, y, z, u, nm, ss, vars, rfl, _⟩ := h
    rfl
  · obtain ⟨d, y, z, u, nm, ss, vars, rfl, hd, hy, hs1, hs4, hsn, hz, hv1, hvl, hu, hnm, q⟩ := h
    obtain ⟨a, rfl, ha⟩ := Dp.strsI hy
    refine ⟨_, (pss_cons (ps_set (i := 5) sc_law_rule.nd rfl (Or.inl rfl) (pe_lst pa_nil))
  (pss_cons (ps_for PassesOwn.never rfl (pi_range1 rfl T.b_range (pa_cons (pe_ix ix_list (pe_lst (pa_cons pe_int (pa_cons pe_int (pa_cons pe_int (pa_cons pe_int (pa_cons pe_int (pa_cons pe_int pa_nil))))))) (pe_c (c__law_take T) hr (by decide) (by rfl) (pa_cons (pv 0) (pa_cons pe_int pa_nil))) (fun _ _ => rfl)) pa_nil)) (pg_name (i := 6) sc_law_rule.nd rfl (Or.inl rfl)) (pss_cons (ps_set (i := 7) sc_law_rule.nd rfl (Or.inl rfl) (pe_ix ix_list (pv 2) (pe_c (c__law_take T) hr (by decide) (by rfl) (pa_cons (pv 0) (pa_cons (pe_callB call_len_seq (by rfl) T.b_len PyB.boot_len (pa_cons (pv 2) pa_nil)) pa_nil))) (fun _ _ => rfl)))
  (pss_one (ps_expr (pe_bm PySem.F.plainAttrs_list PySem.F.slot_list_append PySem.F.type_list_append mt_append (pv 5) (pa_cons (pe_tup (pa_cons (pv 7) (pa_cons (pe_c (c__law_target T) hr (by decide) (by rfl) (pa_cons (pv 0) (pa_cons (pv 2) pa_nil))) pa_nil))) pa_nil))))))
  (pss_cons (ps_set (i := 8) sc_law_rule.nd rfl (Or.inl rfl) (pe_lst pa_nil))
  (pss_cons (ps_if (pt_cmpR op_eq (pe_c (c__law_take T) hr (by decide) (by rfl) (pa_cons (pv 0) (pa_cons pe_int pa_nil))) pe_int (nomark _)) (pss_one (ps_for PassesOwn.never rfl (pi_list (pv 2)) (pg_name (i := 9) sc_law_rule.nd rfl (Or.inl rfl)) (pss_one (ps_if (pt_cmpR op_eq (pe_c (c__law_take T) hr (by decide) (by rfl) (pa_cons (pv 0) (pa_cons pe_int pa_nil))) pe_int (nomark _)) (pss_one (ps_expr (pe_bm PySem.F.plainAttrs_list PySem.F.slot_list_append PySem.F.type_list_append mt_append (pv 8) (pa_cons (pe_tup (pa_cons (pv 9) (pa_cons (pe_c (c__law_target T) hr (by decide) (by rfl) (pa_cons (pv 0) (pa_cons (pv 2) pa_nil))) pa_nil))) pa_nil)))) pss_nil)))) pss_nil)
  (pss_cons (ps_set (i := 10) sc_law_rule.nd rfl (Or.inl rfl) (pe_lst pa_nil))
  (pss_cons (ps_if (pt_cmpR op_eq (pe_c (c__law_take T) hr (by decide) (by rfl) (pa_cons (pv 0) (pa_cons pe_int pa_nil))) pe_int (nomark _)) (pss_one (ps_setLc (i := 10) (own := [("_law_k", 6)]) (g := gName 6) rfl sc_law_rule.nd rfl rfl (sw_true rfl rfl rfl (by decide +kernel)) (pi_range1 rfl T.b_range (pa_cons (pe_op op_add pe_int (pe_c (c__law_take T) hr (by decide) (by rfl) (pa_cons (pv 0) (pa_cons pe_int pa_nil)))) pa_nil)) (blkOk_by (own := [("_law_k", 6)]) (N := nm_law_rule) (sc := defScope s_law_rule) (by decide +kernel)) (fun _ _ _ _ _ => (pg_name (i := 6) sc_law_rule.nd rfl (Or.inl rfl))) (fun _ _ _ _ _ => pts_nil) (fun _ _ _ _ _ => (pe_ix (ix_listK K) (pv 2) (pe_c (c__law_take T) hr (by decide) (by rfl) (pa_cons (pv 0) (pa_cons (pe_callB (call_len_seqK K) (by rfl) T.b_len PyB.boot_len (pa_cons (pv 2) pa_nil)) pa_nil))) (fun _ _ => rfl))))) pss_nil)
  (pss_cons (ps_set (i := 11) sc_law_rule.nd rfl (Or.inl rfl) (pe_c (c__law_values T) hr (by decide) (by rfl) (pa_cons (pv 0) (pa_cons (pv 3) (pa_cons pe_int pa_nil)))))
  (pss_cons (ps_set (i := 12) sc_law_rule.nd rfl (Or.inl rfl) (pe_c (c__law_values T) hr (by decide) (by rfl) (pa_cons (pv 0) (pa_cons (pv 3) (pa_cons pe_int pa_nil)))))
  (pss_cons (ps_set (i := 13) sc_law_rule.nd rfl (Or.inl rfl) (pe_c (c__law_values T) hr (by decide) (by rfl) (pa_cons (pv 0) (pa_cons (pv 4) (pa_cons pe_int pa_nil)))))
  (pss_one (ps_ret (pe_tup (pa_cons (pv 1) (pa_cons (pv 5) (pa_cons (pv 8) (pa_cons (pv 10) (pa_cons (pv 11) (pa_cons (pv 12) (pa_cons (pv 13) (pa_cons (pe_c (c__law_values T) hr (by decide) (by rfl) (pa_cons (pv 0) (pa_cons (pv 4) (pa_cons pe_int pa_nil)))) pa_nil)))))))))))))))))))), ?_⟩
    -- actors
    refine ⟨by decide, fun la hla => ?_⟩
    have nla := hd.ne hla
    have b1 : But d H (upd H la (.lst [])) := (But.refl d H).al hla
    have d1 : LI (upd H la (.lst [])) d := hd.put (Ne.symm nla)
    have g1 : GW K H la [] (upd H la (.lst [])) := GW.start
    generalize upd H la (.lst []) = H1 at *
    dsimp only [gName]
    refine seq_join (fun σ' H' => ∃ (v6 v7 : Option V) (ps : List Pr), σ' = [some (.ref d), some (.str nm), some (.ref a), some z, some u, some (.ref la), v6, v7, none, none, none, none, none, none] ∧ But d H H' ∧ LI H' d ∧ Dp K (fresh H H') (.ref la) (.list (ps.map dPr)) ∧
      1 ≤ ps.length ∧ ps.length ≤ 3 ∧ ∀ p ∈ ps, p.1 ∈ ss ∧ (p.2 ∈ ss ∨ p.2 = ("gone" : Str))) (fun R hR => ?_) ?_
    · refine ⟨by decide, fun t0 ht0 => ?_⟩
      have b2 := b1.al (o := .lst [.int 1, .int 1, .int 2, .int 1, .int 2, .int 3]) ht0
      have n0 := d1.ne ht0
      have nt0 : t0 ≠ la := fun e => by obtain ⟨_, q, _⟩ := g1; rw [← e, ht0] at q; cases q
      have g2 := g1.same (Same.upd (o := .lst [.int 1, .int 1, .int 2, .int 1, .int 2, .int 3]) ht0)
      have d2 : LI (upd H1 t0 (.lst [.int 1, .int 1, .int 2, .int 1, .int 2, .int 3])) d := d1.same (Same.upd ht0)
      have ht2 : (upd H1 t0 (.lst [.int 1, .int 1, .int 2, .int 1, .int 2, .int 3])) t0 = some (.lst [.int 1, .int 1, .int 2, .int 1, .int 2, .int 3]) := upd_same
      generalize upd H1 t0 (.lst [.int 1, .int 1, .int 2, .int 1, .int 2, .int 3]) = H2 at *
      refine ⟨_, rfl, d, 6, rfl, by decide, d2, fun H3 j b3 d3 hj => ?_⟩
      obtain ⟨n, hn, n1, n3⟩ := six j hj
      refine ⟨t0, _, _, .int n, rfl, rfl, SqL.of (b3 _ _ ht2 n0), at_of (j := j) rfl hn, n, rfl, by omega, by omega, for_range (lo := 0) (fun i σ' H' => ∃ (v6 v7 : Option V) (ps : List Pr), σ' = [some (.ref d), some (.str nm), some (.ref a), some z, some u, some (.ref la), v6, v7, none, none, none, none, none, none] ∧ But d H H' ∧ LI H' d ∧ GW K H la (ps.map dPr) H' ∧
        ps.length = i ∧ ∀ p ∈ ps, p.1 ∈ ss ∧ (p.2 ∈ ss ∨ p.2 = ("gone" : Str))) ⟨none, none, [], rfl, b2.trans b3, d3, g2.but b3 hd.some nla, rfl, fun p hp => by cases hp⟩ ?_ ?_⟩
      · rintro i σ' H4 hi ⟨v6, v7, ps, rfl, b4, d4, g4, lps, hps⟩
        have hi' : i < n := by omega
        have G4 : Same (wo [d] H) H4 := b4.wo1.trans Same.ofWo
        refine ⟨_, rfl, _, rfl, _, rfl, a, _, rfl, .inl (G4.seq ha), d, ss.length, (by rw [List.length_map]; rfl), hs1, d4, fun H5 k b5 d5 hk => ?_⟩
        have b45 := b4.trans b5
        have G5 : Same (wo [d] H) H5 := b45.wo1.trans Same.ofWo
        obtain ⟨x, hx⟩ : ∃ x, ss[k]? = some x := ⟨ss[k], List.getElem?_eq_getElem hk⟩
        refine ⟨a, _, _, .str x, rfl, rfl, G5.seq ha, at_of (j := k) rfl (by rw [List.getElem?_map, hx]; rfl), ?_⟩
        have g5 := g4.but b5 hd.some nla
        obtain ⟨acc5, ha5, _⟩ := id g5
        refine ⟨_, rfl, .inl ⟨rfl, _, SqL.of ha5⟩, _, rfl, _, rfl, _, rfl, d, .ref a, ss, rfl, d5, Dp.same b45.wo1 hy, hs1, fun H6 sx b6 d6 hsx => ?_⟩
        refine ⟨by show 2 ≤ sizeLine; decide, fun t ht => ?_⟩
        have b46 := b45.trans b6
        obtain ⟨acc, h1, h2, g7, d7⟩ := (g5.but b6 hd.some nla).tup nla b46 d6 ht (xs := [.str x, .str sx]) (es := [.str x, .str sx]) (fun G _ => .cons (.str _) (.cons (.str _) .nil)) (by rw [List.length_map, lps]; omega)
        refine ⟨la, acc, _, rfl, rfl, h1, h2, ?_⟩
        refine ⟨_, _, ps ++ [(x, sx)], rfl, b46.app ht hla, d7, by rw [List.map_append]; exact g7, by rw [List.length_append, lps]; rfl, fun p hp => ?_⟩
        rcases List.mem_append.mp hp with e | e
        · exact hps p e
        · rw [List.mem_singleton.mp e]; exact ⟨List.mem_of_getElem? hx, hsx⟩
      · rintro σ' H4 ⟨v6, v7, ps, rfl, b4, d4, g4, lps, hps⟩
        exact hR _ _ ⟨v6, v7, ps, rfl, b4, d4, g4.fin hla, by omega, by omega, hps⟩
    clear b1 d1 g1 H1
    rintro σ' Ha ⟨v6, v7, as, rfl, ba, da, ga', la1, la3, has⟩
    have ba0 := ba
    have hyA := Dp.same ba.wo1 hy
    have hzA := Dp.same ba.wo1 hz
    have huA := Dp.same ba.wo1 hu
    have haA := Same.seq ba.wo1 ha
    -- everyone
    refine ⟨by decide, fun le hle => ?_⟩
    have nle := da.ne hle
    have b1 : But d Ha (upd Ha le (.lst [])) := (But.refl d Ha).al hle
    have d1 : LI (upd Ha le (.lst [])) d := da.put (Ne.symm nle)
    have g1 : GW K Ha le [] (upd Ha le (.lst [])) := GW.start
    generalize upd Ha le (.lst []) = H1 at *
    dsimp only [gName]
    refine seq_join (fun σ' H' => ∃ (v6 v7 v9 : Option V) (ps : List Pr), σ' = [some (.ref d), some (.str nm), some (.ref a), some z, some u, some (.ref la), v6, v7, some (.ref le), v9, none, none, none, none] ∧ But d Ha H' ∧ LI H' d ∧ Dp K (fresh Ha H') (.ref le) (.list (ps.map dPr)) ∧
      (ps.map (·.1)).Sublist ss ∧ ∀ p ∈ ps, p.1 ∈ ss ∧ (p.2 ∈ ss ∨ p.2 = ("gone" : Str))) (fun R hR => ?_) ?_
    · refine ⟨_, rfl, d, 4, rfl, by decide, d1, fun H2 j b2 d2 hj => ⟨rfl, _, rfl, ?_⟩⟩
      show if decide (V.int _ = V.int _) = true then _ else _
      rw [dec_int]
      have g2 := g1.but b2 da.some nle
      have b12 := b1.trans b2
      by_cases hc : ((j : Nat) : Int) = 0
      · refine ifT (decide_eq_true hc) ?_
        refine ⟨_, rfl, for_dlS (K := K) (l := ss) (enc := PyData.str) hyA (fun i σ' H' => ∃ (v9 : Option V) (ps : List Pr), σ' = [some (.ref d), some (.str nm), some (.ref a), some z, some u, some (.ref la), v6, v7, some (.ref le), v9, none, none, none, none] ∧ But d Ha H' ∧ LI H' d ∧ GW K Ha le (ps.map dPr) H' ∧
          (ps.map (·.1)).Sublist (ss.take i) ∧ ∀ p ∈ ps, p.1 ∈ ss ∧ (p.2 ∈ ss ∨ p.2 = ("gone" : Str))) ⟨none, [], rfl, b12, d2, g2, List.nil_sublist _, fun p hp => by cases hp⟩ (fun i σ' H' _ ⟨_, _, _, b, _⟩ => b.wo1.trans Same.ofWo) ?_ ?_⟩
        · rintro i zz x σ' H3 hx dz ⟨v9, ps, rfl, b3, d3, g3, hsub, hps⟩
          obtain rfl := Dp.strI dz
          have hxm := List.mem_of_getElem? hx
          have lps : ps.length ≤ 4 := by
            have := hsub.length_le
            rw [List.length_map, List.length_take] at this
            omega
          refine ⟨_, rfl, d, 2, rfl, by decide, d3, fun H4 k b4 d4 hk => ⟨rfl, _, rfl, ?_⟩⟩
          show if decide (V.int _ = V.int _) = true then _ else _
          rw [dec_int]
          have g4 := g3.but b4 da.some nle
          have b34 := b3.trans b4
          by_cases hk0 : ((k : Nat) : Int) = 0
          · refine ifT (decide_eq_true hk0) ?_
            obtain ⟨acc4, ha4, _⟩ := id g4
            refine ⟨_, rfl, .inl ⟨rfl, _, SqL.of ha4⟩, _, rfl, _, rfl, _, rfl, d, .ref a, ss, rfl, d4, Dp.same b34.wo1 hyA, hs1, fun H6 sx b6 d6 hsx => ?_⟩
            refine ⟨by show 2 ≤ sizeLine; decide, fun t ht => ?_⟩
            have b46 := b34.trans b6
            obtain ⟨acc, h1, h2, g7, d7⟩ := (g4.but b6 da.some nle).tup nle b46 d6 ht (xs := [.str x, .str sx]) (es := [.str x, .str sx]) (fun G _ => .cons (.str _) (.cons (.str _) .nil)) (by rw [List.length_map]; omega)
            refine ⟨le, acc, _, rfl, rfl, h1, h2, ?_⟩
            refine ⟨_, ps ++ [(x, sx)], rfl, b46.app ht hle, d7, by rw [List.map_append]; exact g7, ?_, fun p hp => ?_⟩
            · rw [take_snoc hx, List.map_append]
              exact hsub.append (List.Sublist.refl _)
            · rcases List.mem_append.mp hp with e | e
              · exact hps p e
              · rw [List.mem_singleton.mp e]; exact ⟨hxm, hsx⟩
          · refine ifF (decide_eq_false hk0) ?_
            refine ⟨_, ps, rfl, b34, d4, g4, ?_, hps⟩
            rw [take_snoc hx]
            exact hsub.trans (List.sublist_append_left _ _)
        · rintro σ' H3 ⟨v9, ps, rfl, b3, d3, g3, hsub, hps⟩
          rw [List.take_length] at hsub
          exact hR _ _ ⟨v6, v7, v9, ps, rfl, b3, d3, g3.fin hle, hsub, hps⟩
      · refine ifF (decide_eq_false hc) ?_
        exact hR _ _ ⟨v6, v7, none, [], rfl, b12, d2, g2.fin hle, List.nil_sublist _, fun p hp => by cases hp⟩
    clear b1 d1 g1 H1
    rintro σ' Hb ⟨v6, v7, v9, es, rfl, bb, db, gb', hes1, hes2⟩
    have hyB := Dp.same bb.wo1 hyA
    have hzB := Dp.same bb.wo1 hzA
    have huB := Dp.same bb.wo1 huA
    have haB := Same.seq bb.wo1 haA
    have b0B := ba0.trans bb
    -- born
    refine ⟨by decide, fun lb hlb => ?_⟩
    have nlb := db.ne hlb
    have b1 : But d Hb (upd Hb lb (.lst [])) := (But.refl d Hb).al hlb
    have d1 : LI (upd Hb lb (.lst [])) d := db.put (Ne.symm nlb)
    have g1 : GW K Hb lb [] (upd Hb lb (.lst [])) := GW.start
    generalize upd Hb lb (.lst []) = H1 at *
    dsimp only [gName]
    refine seq_join (fun σ' H' => ∃ (v6 v7 v9 : Option V) (lb : Addr) (bs : List Str), σ' = [some (.ref d), some (.str nm), some (.ref a), some z, some u, some (.ref la), v6, v7, some (.ref le), v9, some (.ref lb), none, none, none] ∧ But d Hb H' ∧ LI H' d ∧ Dp K (fresh Hb H') (.ref lb) (dStrs bs) ∧
      bs.length ≤ 2 ∧ ∀ s ∈ bs, s ∈ ss) (fun R hR => ?_) ?_
    · refine ⟨_, rfl, d, 5, rfl, by decide, d1, fun H2 j b2 d2 hj => ⟨rfl, _, rfl, ?_⟩⟩
      show if decide (V.int _ = V.int _) = true then _ else _
      rw [dec_int]
      have g2 := g1.but b2 db.some nlb
      have b12 := b1.trans b2
      by_cases hc : ((j : Nat) : Int) = 0
      · refine ifT (decide_eq_true hc) ?_
        refine ⟨_, rfl, d, 2, rfl, by decide, d2, fun H3 k b3 d3 hk => ⟨_, _, rfl, rfl, _, rfl, by omega, by omega, fun D hD => ?_⟩⟩
        have b13 := b12.trans b3
        have nD := d3.ne hD
        have hDb : Hb D = none := b13.free nD hD
        refine lc_range (lo := 0) (fun i H' => But d Hb H' ∧ LI H' d ∧ ∃ bs : List Str, GW K Hb D (bs.map PyData.str) H' ∧ bs.length = i ∧ ∀ s ∈ bs, s ∈ ss) ⟨b13.al hD, d3.put (Ne.symm nD), [], GW.start, rfl, fun p hp => by cases hp⟩ ?_ ?_
        · rintro i Hi hi ⟨b4, d4, bs, g4, lbs, hbs⟩
          have hi' : i < 2 := by omega
          have G4 : Same (wo [d] Hb) Hi := b4.wo1.trans Same.ofWo
          refine ⟨rfl, ?_⟩
          refine yesT ?_
          refine ⟨_, rfl, _, rfl, _, rfl, a, _, rfl, .inl (G4.seq haB), d, ss.length, (by rw [List.length_map]; rfl), hs1, d4, fun H5 m b5 d5 hm => ?_⟩
          have b45 := b4.trans b5
          have G5 : Same (wo [d] Hb) H5 := b45.wo1.trans Same.ofWo
          obtain ⟨x, hx⟩ : ∃ x, ss[m]? = some x := ⟨ss[m], List.getElem?_eq_getElem hm⟩
          obtain ⟨acc, h1, h2, g7⟩ := (g4.but b5 db.some nD).more (.str x) (by rw [List.length_map]; omega)
          refine ⟨a, _, _, .str x, rfl, rfl, G5.seq haB, at_of (j := m) rfl (by rw [List.getElem?_map, hx]; rfl), acc, h1, h2, b45.fresh hDb, d5.put (Ne.symm nD), bs ++ [x], by rw [List.map_append]; exact g7, by rw [List.length_append, lbs]; rfl, fun p hp => ?_⟩
          rcases List.mem_append.mp hp with e | e
          · exact hbs p e
          · rw [List.mem_singleton.mp e]; exact List.mem_of_getElem? hx
        · rintro H4 ⟨b4, d4, bs, g4, lbs, hbs⟩
          exact hR _ _ ⟨v6, v7, v9, D, bs, rfl, b4, d4, g4.fin hDb, by omega, hbs⟩
      · refine ifF (decide_eq_false hc) ?_
        exact hR _ _ ⟨v6, v7, v9, lb, [], rfl, b12, d2, g2.fin hlb, by decide, fun p hp => by cases hp⟩
    clear b1 d1 g1 H1
    rintro σ' Hc ⟨v6, v7, v9, lb, bs, rfl, bc, dc, gc', hbs1, hbs2⟩
    have hzC := Dp.same bc.wo1 hzB
    have huC := Dp.same bc.wo1 huB
    have b0C := b0B.trans bc
    -- conditions, effects, hears, sends
    refine ⟨_, rfl, _, rfl, d, z, 3, vars, rfl, dc, hzC, hv1, hvl, fun p1 H1 cs b1 d1 hp1 dp1 ok1 => ?_⟩
    refine ⟨_, rfl, _, rfl, d, z, 3, vars, rfl, d1, Dp.same b1.wo1 hzC, hv1, hvl, fun p2 H2 fs b2 d2 hp2 dp2 ok2 => ?_⟩
    refine ⟨_, rfl, _, rfl, d, u, 2, [], rfl, d2, Dp.same (b1.trans b2).wo1 huC, by decide, (fun v hv => by cases hv), fun p3 H3 hs b3 d3 hp3 dp3 ok3 => ?_⟩
    have eh : hs = [] := List.eq_nil_iff_forall_not_mem.mpr fun p hp => by obtain ⟨zs, e, _⟩ := ok3.at_ p hp; cases e
    subst eh
    refine ⟨_, rfl, _, rfl, _, rfl, _, rfl, _, rfl, _, rfl, _, rfl, _, rfl, _, rfl, d, u, 2, [], rfl, d3, Dp.same (b1.trans (b2.trans b3)).wo1 huC, by decide, (fun v hv => by cases hv), fun p4 H4 ts b4 d4 hp4 dp4 ok4 => ?_⟩
    have et : ts = [] := List.eq_nil_iff_forall_not_mem.mpr fun p hp => by obtain ⟨zs, e, _⟩ := ok4.at_ p hp; cases e
    subst et
    have b14 := b1.trans (b2.trans (b3.trans b4))
    refine ⟨by show 8 ≤ sizeLine; decide, fun t ht => ?_⟩
    have bA := b0C.trans b14
    have nt : t ≠ d := d4.ne ht
    have s5 : Same H4 (upd H4 t (.tup [.str nm, .ref la, .ref le, .ref lb, .ref p1, .ref p2, .ref p3, .ref p4])) := Same.upd ht
    have b5 := Same.but d s5
    have hds := hd.some
    refine q t _ ⟨nm, as, es, bs, cs, fs⟩ (bA.al ht) (d4.same s5) (bA.free nt ht) ?_ rfl ⟨hnm, la1, la3, has, hes2, hsn.sublist hes1, ?_, hbs1, hbs2, ok1, ok2⟩
    · refine .tup (SqT.of (by rw [fresh_at (bA.free nt ht)]; exact upd_same)) (.cons (.str _) (.cons (Dp.same (fresh_up (But.refl d H) hds (bb.trans (bc.trans (b14.trans b5)))) ga') (.cons (Dp.same (fresh_up ba0 da.some (bc.trans (b14.trans b5))) gb') (.cons (Dp.same (fresh_up b0B db.some (b14.trans b5)) gc') (.cons (Dp.same (fresh_up b0C dc.some ((b2.trans (b3.trans b4)).trans b5)) dp1)
        (.cons (Dp.same (fresh_up (b0C.trans b1) d1.some ((b3.trans b4).trans b5)) dp2) (.cons (Dp.same (fresh_up ((b0C.trans b1).trans b2) d2.some (b4.trans b5)) dp3) (.cons (Dp.same (fresh_up (((b0C.trans b1).trans b2).trans b3) d3.some b5) dp4) .nil))))))))
    · have := hes1.length_le
      rw [List.length_map] at this
      show es.length ≤ 60
      omega
end
end C62
set_option Elab.async false
set_option linter.all false
set_option maxRecDepth 100000
set_option maxHeartbeats 4000000
namespace C62
open PySem PySem.Spec PyProof.Rows L2
open He (ga ma)
def spPatL (K : PySem.W.Frag) : Sp := fun vs H Q _ => ∃ (d : Addr) (y z : V) (ss : List Str) (vars : List (Str × List Str)), vs = [.ref d, y, z] ∧ LI H d ∧ Dp K (wo [d] H) y (dStrs ss) ∧ 1 ≤ ss.length ∧ ss.length ≤ 4 ∧ ss.Nodup ∧ Dp K (wo [d] H) z (.list (vars.map dVar)) ∧ vars.length ≤ 1 ∧ (∀ v ∈ vars, 1 ≤ v.2.length) ∧
  ∀ p H' b, But d H H' → LI H' d → H p = none → Dp K (fresh H H') (.ref p) (dPat b) → PatOk ss vars b → Q (.ref p) H'
section
variable {P : Program} {w : World} {K : PySem.W.Frag} {mg : Str → Option Value} {base : Heap}
theorem c__law_pattern (T : Txt K mg) : Cal P w K mg base 3 "_law_pattern" (spPatL K) := by
  refine T.f_law_pattern.cal sc_law_pattern (fun _ _ _ _ _ _ us hl => match us, hl with | [_, _, _], _ => rfl) (fun vs H Q E h => ?_) (fun f cdv A outer s H vs Q E hr h => ?_)
  · obtain ⟨d, y, z, ss, vars, rfl, _⟩ := h
    rfl
  · obtain ⟨d, y, z, ss, vars, rfl, hd, hy, hs1, hs4, hsn, hz, hv1, hvl, q⟩ := h
    obtain ⟨a, rfl, ha⟩ := Dp.strsI hy
    refine ⟨_, (pss_cons (ps_set (i := 3) sc_law_pattern.nd rfl (Or.inl rfl) (pe_lst pa_nil))
  (pss_cons (ps_for PassesOwn.never rfl (pi_list (pv 1)) (pg_name (i := 4) sc_law_pattern.nd rfl (Or.inl rfl)) (pss_one (ps_if (pt_cmpR op_eq (pe_c (c__law_take T) hr (by decide) (by rfl) (pa_cons (pv 0) (pa_cons pe_int pa_nil))) pe_int (nomark _)) (pss_one (ps_expr (pe_bm PySem.F.plainAttrs_list PySem.F.slot_list_append PySem.F.type_list_append mt_append (pv 3) (pa_cons (pe_tup (pa_cons (pv 4) (pa_cons (pe_op op_add pe_int (pe_c (c__law_take T) hr (by decide) (by rfl) (pa_cons (pv 0) (pa_cons pe_int pa_nil)))) pa_nil))) pa_nil)))) pss_nil)))
  (pss_cons (ps_set (i := 5) sc_law_pattern.nd rfl (Or.inl rfl) (pe_c (c__law_values T) hr (by decide) (by rfl) (pa_cons (pv 0) (pa_cons (pv 2) (pa_cons pe_int pa_nil)))))
  (pss_cons (ps_if (pt_cmpR op_eq (pe_op op_add (pe_callB call_len_seq (by rfl) T.b_len PyB.boot_len (pa_cons (pv 3) pa_nil)) (pe_callB call_len_seq (by rfl) T.b_len PyB.boot_len (pa_cons (pv 5) pa_nil))) pe_int (nomark _)) (pss_one (ps_set (i := 3) sc_law_pattern.nd rfl (Or.inl rfl) (pe_lst (pa_cons (pe_tup (pa_cons (pe_ix ix_list (pv 1) (pe_op op_sub (pe_callB call_len_seq (by rfl) T.b_len PyB.boot_len (pa_cons (pv 1) pa_nil)) pe_int) (fun _ _ => rfl)) (pa_cons (pe_op op_add pe_int (pe_c (c__law_take T) hr (by decide) (by rfl) (pa_cons (pv 0) (pa_cons pe_int pa_nil)))) pa_nil))) pa_nil)))) pss_nil)
  (pss_one (ps_ret (pe_tup (pa_cons (pv 3) (pa_cons (pv 5) pa_nil))))))))), ?_⟩
    refine ⟨by decide, fun lc hlc => ?_⟩
    have nlc := hd.ne hlc
    have b1 : But d H (upd H lc (.lst [])) := (But.refl d H).al hlc
    have d1 : LI (upd H lc (.lst [])) d := hd.put (Ne.symm nlc)
    have g1 : GW K H lc [] (upd H lc (.lst [])) := GW.start
    generalize upd H lc (.lst []) = H1 at *
    refine ⟨_, rfl, for_dlS (K := K) (l := ss) (enc := PyData.str) hy (fun i σ' H' => ∃ (v4 : Option V) (ps : List (Str × Int)), σ' = [some (.ref d), some (.ref a), some z, some (.ref lc), v4, none] ∧ But d H H' ∧ LI H' d ∧ GW K H lc (ps.map dCp) H' ∧
      (ps.map (·.1)).Sublist (ss.take i) ∧ ∀ p ∈ ps, p.1 ∈ ss ∧ 1 ≤ p.2 ∧ p.2 ≤ 9) ⟨none, [], rfl, b1, d1, g1, List.nil_sublist _, fun p hp => by cases hp⟩ (fun i σ' H' _ ⟨_, _, _, b, _⟩ => b.wo1.trans Same.ofWo) ?_ ?_⟩
    · rintro i zz x σ' H3 hx dz ⟨v4, ps, rfl, b3, d3, g3, hsub, hps⟩
      obtain rfl := Dp.strI dz
      have hxm := List.mem_of_getElem? hx
      have lps : ps.length ≤ 4 := by
        have := hsub.length_le
        rw [List.length_map, List.length_take] at this
        omega
      refine ⟨_, rfl, d, 3, rfl, by decide, d3, fun H4 k b4 d4 hk => ⟨rfl, _, rfl, ?_⟩⟩
      show if decide (V.int _ = V.int _) = true then _ else _
      rw [dec_int]
      have g4 := g3.but b4 hd.some nlc
      have b34 := b3.trans b4
      by_cases hk0 : ((k : Nat) : Int) = 0
      · refine ifT (decide_eq_true hk0) ?_
        obtain ⟨acc4, ha4, _⟩ := id g4
        refine ⟨_, rfl, .inl ⟨rfl, _, SqL.of ha4⟩, _, rfl, _, rfl, d, 2, rfl, by decide, d4, fun H6 n b6 d6 hn => ⟨_, _, rfl, rfl, by show 2 ≤ sizeLine; decide, fun t ht => ?_⟩⟩
        have b46 := b34.trans b6
        obtain ⟨acc, h1, h2, g7, d7⟩ := (g4.but b6 hd.some nlc).tup nlc b46 d6 ht (xs := [.str x, .int (1 + (n : Nat))]) (es := [.str x, .int (1 + (n : Nat))]) (fun G _ => .cons (.str _) (.cons (.int _) .nil)) (by rw [List.length_map]; omega)
        refine ⟨lc, acc, _, rfl, rfl, h1, h2, ?_⟩
        refine ⟨_, ps ++ [(x, 1 + ((n : Nat) : Int))], rfl, b46.app ht hlc, d7, by rw [List.map_append]; exact g7, ?_, fun p hp => ?_⟩
        · rw [take_snoc hx, List.map_append]
          exact hsub.append (List.Sublist.refl _)
        · rcases List.mem_append.mp hp with e | e
          · exact hps p e
          · rw [List.mem_singleton.mp e]; exact ⟨hxm, by show (1 : Int) ≤ 1 + (n : Nat); omega, by show 1 + ((n : Nat) : Int) ≤ 9; omega⟩
      · refine ifF (decide_eq_false hk0) ?_
        refine ⟨_, ps, rfl, b34, d4, g4, ?_, hps⟩
        rw [take_snoc hx]
        exact hsub.trans (List.sublist_append_left _ _)
    rintro σ' Ha ⟨v4, ps, rfl, ba, da, g3, hsub, hps⟩
    rw [List.take_length] at hsub
    have gaA := g3.fin hlc
    have lps := hsub.length_le
    rw [List.length_map] at lps
    have haA := Same.seq ba.wo1 ha
    -- values
    refine ⟨_, rfl, _, rfl, d, z, 2, vars, rfl, da, Dp.same ba.wo1 hz, hv1, hvl, fun p1 Hb cs bb db hp1 dp1 ok1 => ?_⟩
    have gaB : Dp K (fresh H Hb) (.ref lc) (.list (ps.map dCp)) := Dp.same (fresh_up (But.refl d H) hd.some bb) gaA
    have dp1' : Dp K (fresh H Hb) (.ref p1) (.list (cs.map dPr)) := Dp.same (fresh_up ba da.some (But.refl d Hb)) dp1
    have haB := Same.seq bb.wo1 haA
    obtain ⟨c1, x1, e1, hc1, hx1⟩ := Dp.lstI gaB
    obtain ⟨c2, x2, e2, hc2, hx2⟩ := Dp.lstI dp1'
    cases e1
    cases e2
    have lx1 := DpAll.mapLen hx1
    have lx2 := DpAll.mapLen hx2
    dsimp only [gName]
    refine seq_join (fun σ' H' => ∃ (lc : Addr) (ps : List (Str × Int)), σ' = [some (.ref d), some (.ref a), some z, some (.ref lc), v4, some (.ref p1)] ∧ But d Hb H' ∧ LI H' d ∧ Dp K (fresh H H') (.ref lc) (.list (ps.map dCp)) ∧ PatOk ss vars (ps, cs)) (fun R hR => ?_) ?_
    · refine ⟨_, rfl, lc, _, rfl, .inl (Same.ofFresh.seq hc1), _, rfl, p1, _, rfl, .inl (Same.ofFresh.seq hc2), _, _, rfl, rfl, rfl, _, rfl, ?_⟩
      show if decide (V.int _ = V.int _) = true then _ else _
      rw [dec_int]
      by_cases hc : (x1.length : Int) + (x2.length : Int) = 0
      · refine ifT (decide_eq_true hc) ?_
        obtain ⟨x, hx⟩ : ∃ x, ss[ss.length - 1]? = some x := ⟨ss[ss.length - 1], List.getElem?_eq_getElem _⟩
        have ec : cs = [] := List.eq_nil_of_length_eq_zero (by omega)
        refine ⟨_, rfl, _, rfl, a, _, rfl, .inl (Same.ofWo.seq haB), _, _, rfl, rfl, a, _, _, .str x, rfl, rfl, Same.ofWo.seq haB, at_of (j := ss.length - 1) (by rw [List.length_map]; omega) (by rw [List.getElem?_map, hx]; rfl), ?_⟩
        refine ⟨_, rfl, d, 3, rfl, by decide, db, fun H6 n b6 d6 hn => ⟨_, _, rfl, rfl, by show 2 ≤ sizeLine; decide, fun t ht => ?_⟩⟩
        refine ⟨by show 1 ≤ sizeLine; decide, fun t2 ht2 => ?_⟩
        have nt := d6.ne ht
        have d7 := d6.same (Same.upd (o := .tup [.str x, .int (1 + (n : Nat))]) ht)
        have nt2 := d7.ne ht2
        refine hR _ _ ⟨t2, [(x, 1 + ((n : Nat) : Int))], rfl, (b6.al ht).al ht2, d7.same (Same.upd ht2), ?_, ?_⟩
        · have bH6 := (ba.trans bb).trans b6
          have f1 := bH6.free nt ht
          have f2 := (bH6.al ht).free nt2 ht2
          have n12 : t ≠ t2 := fun e => by rw [← e, upd_same] at ht2; cases ht2
          exact .lst (SqL.of (by rw [fresh_at f2]; exact upd_same)) (.cons (.tup (SqT.of (by rw [fresh_at f1, upd_ne n12]; exact upd_same)) (.cons (.str _) (.cons (.int _) .nil))) .nil)
        · refine ⟨by show 1 ≤ 1 + _; omega, fun p hp => ?_, by simp, by show 1 ≤ 60; decide, ok1⟩
          rw [List.mem_singleton.mp hp]
          exact ⟨List.mem_of_getElem? hx, by show (1 : Int) ≤ 1 + (n : Nat); omega, by show 1 + ((n : Nat) : Int) ≤ 9; omega⟩
      · refine ifF (decide_eq_false hc) ?_
        exact hR _ _ ⟨lc, ps, rfl, But.refl _ _, db, gaB, by show 1 ≤ ps.length + cs.length; omega, hps, hsn.sublist hsub, by show ps.length ≤ 60; omega, ok1⟩
    rintro σ' Hc ⟨lc2, ps2, rfl, bc, dc, gc', okc⟩
    refine ⟨_, rfl, _, rfl, by show 2 ≤ sizeLine; decide, fun t ht => ?_⟩
    have nt := dc.ne ht
    have s5 : Same Hc (upd Hc t (.tup [.ref lc2, .ref p1])) := Same.upd ht
    have b5 := Same.but d s5
    have bA := ba.trans (bb.trans bc)
    have hds := hd.some
    refine q t _ (ps2, cs) (bA.al ht) (dc.same s5) (bA.free nt ht) (.tup (SqT.of (by rw [fresh_at (bA.free nt ht)]; exact upd_same)) (.cons (Dp.same (fresh_up (But.refl d H) hds b5) gc') (.cons (Dp.same (fresh_up (But.refl d H) hds (bc.trans b5)) dp1') .nil))) okc
end
end C62
set_option Elab.async false
set_option linter.all false
set_option maxRecDepth 100000
set_option maxHeartbeats 4000000
namespace C62
open PySem PySem.Spec PyProof.Rows L2
open He (ga ma)
abbrev dParts (S : PartsD) : PyData := .tuple [dStrs S.states, .str S.start, .list (S.vars.map dVar), .list [], .list (S.rules.map dRule), .list (S.bad.map dPat)]
def spSystemL (K : PySem.W.Frag) : Sp := fun vs H Q _ => ∃ (d : Addr), vs = [.ref d, .int 3, .bl false] ∧ LI H d ∧ ∀ p H' S, But d H H' → LI H' d → H p = none → Dp K (fresh H H') (.ref p) (dParts S) → PartsOk S → Q (.ref p) H'
def allS : List Str := ["idle", "want", "crit", "done"]
def valS : List Str := ["free", "held", "dead"]
def nmK (k : Nat) : Str := ("r" : Str) ++ Str.ofString (toString ((0 : Int) + (k : Nat)))
theorem nmK_ok (k : Nat) (h : k < 3) : NameOk (nmK k) := by
  match k, h with
  | 0, _ => exact nameOk (by decide +kernel)
  | 1, _ => exact nameOk (by decide +kernel)
  | 2, _ => exact nameOk (by decide +kernel)
theorem nmK_nd : ∀ k, k ≤ 3 → ((List.range k).map nmK).Nodup := by
  intro k h
  match k, h with
  | 0, _ => decide +kernel
  | 1, _ => decide +kernel
  | 2, _ => decide +kernel
  | 3, _ => decide +kernel
structure StOk (ss : List Str) : Prop where
  s2 : 2 ≤ ss.length
  s4 : ss.length ≤ 4
  nd : ss.Nodup
  sub : ∀ z ∈ ss, z ∈ allS
theorem allS_nd : allS.Nodup := by decide +kernel
theorem allS_ok : ∀ z ∈ allS, NameOk z := fun z hz => nameOk ((show ∀ z ∈ allS, nameB z = true by decide +kernel) z hz)
theorem valS_nd : valS.Nodup := by decide +kernel
theorem valS_ok : ∀ z ∈ valS, NameOk z := fun z hz => nameOk ((show ∀ z ∈ valS, nameB z = true by decide +kernel) z hz)
theorem lock_ok : NameOk ("lock" : Str) := nameOk (by decide +kernel)
theorem lock_no : ("lock" : Str) ∉ allS := by decide +kernel
theorem stOk_take {k : Nat} (h2 : 2 ≤ k) (h4 : k ≤ 4) : StOk (allS.take k) := by
  have e : allS.length = 4 := rfl
  exact ⟨by rw [List.length_take, e]; omega, by rw [List.length_take, e]; omega, allS_nd.sublist (List.take_sublist _ _), fun z hz => List.mem_of_mem_take hz⟩
theorem StOk.rev {ss : List Str} (h : StOk ss) : StOk ss.reverse :=
  ⟨by rw [List.length_reverse]; exact h.s2, by rw [List.length_reverse]; exact h.s4, (List.reverse_perm ss).symm.nodup h.nd, fun z hz => h.sub z (List.mem_reverse.mp hz)⟩
theorem three (j : Nat) (h : j < 3) : ∃ n : Nat, ([.int 0, .int 1, .int 1] : List V)[j]? = some (.int n) ∧ n ≤ 1 := by
  match j, h with
  | 0, _ => exact ⟨0, rfl, by decide⟩
  | 1, _ => exact ⟨1, rfl, by decide⟩
  | 2, _ => exact ⟨1, rfl, by decide⟩
theorem three2 (j : Nat) (h : j < 3) : ∃ n : Nat, ([.int 1, .int 1, .int 2] : List V)[j]? = some (.int n) ∧ 1 ≤ n ∧ n ≤ 2 := by
  match j, h with
  | 0, _ => exact ⟨1, rfl, by decide, by decide⟩
  | 1, _ => exact ⟨1, rfl, by decide, by decide⟩
  | 2, _ => exact ⟨2, rfl, by decide, by decide⟩
theorem fresh_frl {H Hc H' : Hp} {d l : Addr} (b : But d H Hc) (hd : Hc d ≠ none) (hl : Hc l ≠ none) : Same (fresh Hc H') (frl H l H') := fun x o e => by
  obtain ⟨h1, h2⟩ := fresh_old' e
  have n1 : x ≠ l := fun z => hl (z ▸ h1)
  have n2 : x ≠ d := fun z => hd (z ▸ h1)
  rw [frl_at n1 (b.free n2 h1)]; exact h2
theorem cut2 {xs : List Str} {i : Nat} (h : 2 + i ≤ xs.length) : cutV (xs.map V.str) none (some ((2 : Int) + (i : Nat))) = (xs.take (2 + i)).map V.str := by
  rw [show (2 : Int) + (i : Nat) = ((2 + i : Nat) : Int) by omega, cutV_to (by rw [List.length_map]; exact h), List.map_take]
section
variable {P : Program} {w : World} {K : PySem.W.Frag} {mg : Str → Option Value} {base : Heap}
theorem c__law_system (T : Txt K mg) : Cal P w K mg base 4 "_law_system" (spSystemL K) := by
  refine T.f_law_system.cal sc_law_system (fun _ _ _ _ _ _ us hl => match us, hl with | [_, _, _], _ => rfl) (fun vs H Q E h => ?_) (fun f cdv A outer s H vs Q E hr h => ?_)
  · obtain ⟨d, rfl, _⟩ := h
    rfl
  · obtain ⟨d, rfl, hd, q⟩ := h
    have hds := hd.some
    refine ⟨_, (pss_cons (ps_set (i := 3) sc_law_system.nd rfl (Or.inr rfl) (pe_slice sl_list (pe_lst (pa_cons pe_str (pa_cons pe_str (pa_cons pe_str (pa_cons pe_str pa_nil))))) po_none (po_some (pe_op op_add pe_int (pe_c (c__law_take T) hr (by decide) (by rfl) (pa_cons (pv 0) (pa_cons pe_int pa_nil)))))))
  (pss_cons (ps_if (pt_cmpR op_eq (pe_c (c__law_take T) hr (by decide) (by rfl) (pa_cons (pv 0) (pa_cons pe_int pa_nil))) pe_int (nomark _)) (pss_one (ps_expr (pe_bm0 PySem.F.plainAttrs_list PySem.F.slot_list_reverse PySem.F.type_list_reverse mt_reverse (pv 3)))) pss_nil)
  (pss_cons (ps_set (i := 4) sc_law_system.nd rfl (Or.inr rfl) (pe_slice sl_list (pe_lst (pa_cons (pe_tup (pa_cons pe_str (pa_cons (pe_slice sl_list (pe_lst (pa_cons pe_str (pa_cons pe_str (pa_cons pe_str pa_nil)))) po_none (po_some (pe_op op_add pe_int (pe_c (c__law_take T) hr (by decide) (by rfl) (pa_cons (pv 0) (pa_cons pe_int pa_nil)))))) pa_nil))) pa_nil)) po_none (po_some (pe_ix ix_list (pe_lst (pa_cons pe_int (pa_cons pe_int (pa_cons pe_int pa_nil)))) (pe_c (c__law_take T) hr (by decide) (by rfl) (pa_cons (pv 0) (pa_cons pe_int pa_nil))) (fun _ _ => rfl)))))
  (pss_cons (ps_set (i := 5) sc_law_system.nd rfl (Or.inl rfl) (pe_lst pa_nil))
  (pss_cons (ps_if (PW.pt (pw_and (pt_val (pv 2)) (pw_and1 (pt_cmpR op_eq (pe_c (c__law_take T) hr (by decide) (by rfl) (pa_cons (pv 0) (pa_cons pe_int pa_nil))) pe_int (nomark _))))) pss_never pss_nil)
  (pss_cons (ps_set (i := 6) sc_law_system.nd rfl (Or.inl rfl) (pe_lst pa_nil))
  (pss_cons (ps_for PassesOwn.never rfl (pi_range1 rfl T.b_range (pa_cons (pe_op op_add pe_int (pe_c (c__law_take T) hr (by decide) (by rfl) (pa_cons (pv 0) (pa_cons (pv 1) pa_nil)))) pa_nil)) (pg_name (i := 7) sc_law_system.nd rfl (Or.inl rfl)) (pss_one (ps_expr (pe_bm PySem.F.plainAttrs_list PySem.F.slot_list_append PySem.F.type_list_append mt_append (pv 6) (pa_cons (pe_c (c__law_rule T) hr (by decide) (by rfl) (pa_cons (pv 0) (pa_cons (pe_op op_add_str pe_str (pe_callTy call_str_int (by rfl) T.b_str PyB.boot_str (pa_cons (pv 7) pa_nil))) (pa_cons (pv 3) (pa_cons (pv 4) (pa_cons (pv 5) pa_nil)))))) pa_nil)))))
  (pss_cons (ps_setLc (i := 8) (own := [("_law_k", 7)]) (g := gName 7) rfl sc_law_system.nd rfl rfl (sw_true rfl rfl rfl (by decide +kernel)) (pi_range1 rfl T.b_range (pa_cons (pe_ix ix_list (pe_lst (pa_cons pe_int (pa_cons pe_int (pa_cons pe_int pa_nil)))) (pe_c (c__law_take T) hr (by decide) (by rfl) (pa_cons (pv 0) (pa_cons pe_int pa_nil))) (fun _ _ => rfl)) pa_nil)) (blkOk_by (own := [("_law_k", 7)]) (N := nm_law_system) (sc := defScope s_law_system) (by decide +kernel)) (fun _ _ _ _ _ => (pg_name (i := 7) sc_law_system.nd rfl (Or.inl rfl))) (fun _ _ _ _ _ => pts_nil) (fun _ _ _ _ _ => (pe_c (c__law_pattern T) hr (by decide) (by rfl) (pa_cons (pv 0) (pa_cons (pv 3) (pa_cons (pv 4) pa_nil))))))
  (pss_one (ps_ret (pe_tup (pa_cons (pv 3) (pa_cons (pe_ix ix_list (pv 3) (pe_c (c__law_take T) hr (by decide) (by rfl) (pa_cons (pv 0) (pa_cons (pe_callB call_len_seq (by rfl) T.b_len PyB.boot_len (pa_cons (pv 3) pa_nil)) pa_nil))) (fun _ _ => rfl)) (pa_cons (pv 4) (pa_cons (pv 5) (pa_cons (pv 6) (pa_cons (pv 8) pa_nil))))))))))))))))), ?_⟩
    -- states
    refine ⟨by show 4 ≤ sizeLine; decide, fun t0 ht0 => ?_⟩
    have b1 : But d H (upd H t0 (.lst (allS.map V.str))) := (But.refl d H).al ht0
    have d1 : LI (upd H t0 (.lst (allS.map V.str))) d := hd.same (Same.upd ht0)
    have n0 := hd.ne ht0
    have h1 : (upd H t0 (.lst (allS.map V.str))) t0 = some (.lst (allS.map V.str)) := upd_same
    refine ⟨_, rfl, d, 3, rfl, by decide, d1, fun H2 i b2 d2 hi => ⟨_, _, rfl, rfl, _, rfl, t0, allS.map V.str, rfl, SqL.of (b2 _ _ h1 n0), fun ls hls => ?_⟩⟩
    rw [cut2 (by show 2 + i ≤ 4; omega)]
    have bB : But d H (upd H2 ls (.lst ((allS.take (2 + i)).map V.str))) := (b1.trans b2).al hls
    have dB : LI (upd H2 ls (.lst ((allS.take (2 + i)).map V.str))) d := d2.same (Same.upd hls)
    have nls := d2.ne hls
    have hls0 : H ls = none := (b1.trans b2).free nls hls
    have hB : (upd H2 ls (.lst ((allS.take (2 + i)).map V.str))) ls = some (.lst ((allS.take (2 + i)).map V.str)) := upd_same
    have so := stOk_take (k := 2 + i) (by omega) (by omega)
    generalize upd H2 ls (.lst ((allS.take (2 + i)).map V.str)) = HB at *
    generalize allS.take (2 + i) = ss0 at *
    clear b1 d1 h1 b2 d2 H2 hls
    dsimp only [gName]
    refine seq_join (fun σ' H' => ∃ ss : List Str, σ' = [some (.ref d), some (.int 3), some (.bl false), some (.ref ls), none, none, none, none, none] ∧ But d H H' ∧ LI H' d ∧ H' ls = some (.lst (ss.map V.str)) ∧ StOk ss) (fun R hR => ?_) ?_
    · refine ⟨_, rfl, d, 3, rfl, by decide, dB, fun H2 j b2 d2 hj => ⟨rfl, _, rfl, ?_⟩⟩
      show if decide (V.int _ = V.int _) = true then _ else _
      rw [dec_int]
      have h2 := b2 _ _ hB nls
      by_cases hc : ((j : Nat) : Int) = 0
      · refine ifT (decide_eq_true hc) ?_
        refine ⟨_, rfl, .inl ⟨rfl, _, SqL.of h2⟩, ls, _, rfl, rfl, h2, ?_⟩
        refine hR _ _ ⟨ss0.reverse, rfl, (bB.trans b2).fresh hls0, d2.put (Ne.symm nls), by rw [← List.map_reverse]; exact upd_same, so.rev⟩
      · refine ifF (decide_eq_false hc) ?_
        exact hR _ _ ⟨ss0, rfl, bB.trans b2, d2, h2, so⟩
    clear bB dB hB so HB
    rintro σ' HA ⟨ss, rfl, bA, dA, hA, so⟩
    -- variables
    refine ⟨by show 3 ≤ sizeLine; decide, fun t1 ht1 => ?_⟩
    have d1 : LI (upd HA t1 (.lst (valS.map V.str))) d := dA.same (Same.upd ht1)
    have n1 := dA.ne ht1
    have h1 : (upd HA t1 (.lst (valS.map V.str))) t1 = some (.lst (valS.map V.str)) := upd_same
    have b1 : But d HA (upd HA t1 (.lst (valS.map V.str))) := (But.refl d HA).al ht1
    refine ⟨_, rfl, d, 2, rfl, by decide, d1, fun H2 i b2 d2 hi => ⟨_, _, rfl, rfl, _, rfl, t1, valS.map V.str, rfl, SqL.of (b2 _ _ h1 n1), fun t2 ht2 => ?_⟩⟩
    rw [cut2 (by show 2 + i ≤ 3; omega)]
    have b12 := b1.trans b2
    have n2 := d2.ne ht2
    have h2 : (upd H2 t2 (.lst ((valS.take (2 + i)).map V.str))) t2 = some (.lst ((valS.take (2 + i)).map V.str)) := upd_same
    have d3 : LI (upd H2 t2 (.lst ((valS.take (2 + i)).map V.str))) d := d2.same (Same.upd ht2)
    have b13 : But d HA (upd H2 t2 (.lst ((valS.take (2 + i)).map V.str))) := b12.al ht2
    have lv : (valS.take (2 + i)).length = 2 + i := by rw [List.length_take]; show min (2 + i) 3 = _; omega
    have vnd : (valS.take (2 + i)).Nodup := valS_nd.sublist (List.take_sublist _ _)
    have vok : ∀ z ∈ valS.take (2 + i), NameOk z := fun z hz => valS_ok z (List.mem_of_mem_take hz)
    generalize upd H2 t2 (.lst ((valS.take (2 + i)).map V.str)) = H3 at *
    generalize valS.take (2 + i) = zs at *
    refine ⟨by show 2 ≤ sizeLine; decide, fun t3 ht3 => ⟨by show 1 ≤ sizeLine; decide, fun t4 ht4 => ?_⟩⟩
    have n3 := d3.ne ht3
    have d4 := d3.same (Same.upd (o := .tup [.str "lock", .ref t2]) ht3)
    have n4 := d4.ne ht4
    have b14 : But d HA (upd (upd H3 t3 (.tup [.str "lock", .ref t2])) t4 (.lst [.ref t3])) := (b13.al ht3).al ht4
    have d5 := d4.same (Same.upd (o := .lst [.ref t3]) ht4)
    have s34 : Same H3 (upd (upd H3 t3 (.tup [.str "lock", .ref t2])) t4 (.lst [.ref t3])) := (Same.upd ht3).trans (Same.upd ht4)
    have h3' := Same.upd (o := .lst [.ref t3]) ht4 _ _ (upd_same (H := H3) (a := t3) (o := .tup [.str "lock", .ref t2]))
    have h4 : (upd (upd H3 t3 (.tup [.str "lock", .ref t2])) t4 (.lst [.ref t3])) t4 = some (.lst [.ref t3]) := upd_same
    have h2' := s34 _ _ h2
    have f2 : HA t2 = none := b12.free n2 ht2
    have f3 : HA t3 = none := b13.free n3 ht3
    generalize upd (upd H3 t3 (.tup [.str "lock", .ref t2])) t4 (.lst [.ref t3]) = H4 at *
    refine ⟨by show 3 ≤ sizeLine; decide, fun t5 ht5 => ?_⟩
    have n5 := d5.ne ht5
    have h5 : (upd H4 t5 (.lst [.int 0, .int 1, .int 1])) t5 = some (.lst [.int 0, .int 1, .int 1]) := upd_same
    refine ⟨_, rfl, d, 3, rfl, by decide, d5.same (Same.upd ht5), fun H6 j b6 d6 hj => ?_⟩
    obtain ⟨n, hn, hn1⟩ := three j hj
    refine ⟨t5, _, _, .int n, rfl, rfl, SqL.of (b6 _ _ h5 n5), at_of (j := j) rfl hn, _, rfl, t4, [.ref t3], rfl, SqL.of (b6 _ _ (Same.upd ht5 _ _ h4) n4), fun t6 ht6 => ?_⟩
    rw [cutV_to (xs := [.ref t3]) (k := n) (by show n ≤ 1; exact hn1)]
    have bV : But d HA (upd H6 t6 (.lst (([.ref t3] : List V).take n))) := ((b14.al ht5).trans b6).al ht6
    have dV : LI (upd H6 t6 (.lst (([.ref t3] : List V).take n))) d := d6.same (Same.upd ht6)
    have f6 : HA t6 = none := ((b14.al ht5).trans b6).free (d6.ne ht6) ht6
    have gV : Dp K (fresh HA (upd H6 t6 (.lst (([.ref t3] : List V).take n)))) (.ref t6) (.list (([(("lock" : Str), zs)].take n).map dVar)) := by
      have up : But d H4 (upd H6 t6 (.lst (([.ref t3] : List V).take n))) := ((Same.but d (Same.upd ht5)).trans b6).al ht6
      refine .lst (SqL.of (by rw [fresh_at f6]; exact upd_same)) ?_
      rw [List.map_take]
      refine DpAll.take n (.cons (.tup (SqT.of (by rw [fresh_at f3]; exact up _ _ h3' n3)) (.cons (.str _) (.cons (.lst (SqL.of (by rw [fresh_at f2]; exact up _ _ h2' n2)) (DpAll.ofStrs zs)) .nil))) .nil)
    have vv : [(("lock" : Str), zs)].take n = [] ∨ ∃ z zs', [(("lock" : Str), zs)].take n = [(z, zs')] ∧ NameOk z ∧ z ∉ ss ∧ 2 ≤ zs'.length ∧ zs'.length ≤ 3 ∧ zs'.Nodup ∧ ∀ y ∈ zs', NameOk y := by
      match n, hn1 with
      | 0, _ => exact .inl rfl
      | 1, _ => exact .inr ⟨"lock", zs, rfl, lock_ok, fun e => lock_no (so.sub _ e), by omega, by omega, vnd, vok⟩
    have vl1 : ([(("lock" : Str), zs)].take n).length ≤ 1 := by rw [List.length_take]; exact Nat.min_le_right _ _
    have vl2 : ∀ v ∈ [(("lock" : Str), zs)].take n, 1 ≤ v.2.length := fun v hv => by
      rw [List.mem_singleton.mp (List.mem_of_mem_take hv)]; show 1 ≤ zs.length; omega
    generalize [(("lock" : Str), zs)].take n = vars at *
    generalize upd H6 t6 (.lst (([.ref t3] : List V).take n)) = HV at *
    clear d1 h1 b1 b2 d2 ht2 b12 h2 d3 b13 lv vnd vok d4 b14 d5 s34 h3' h4 h2' h5 b6 d6 hn
    -- channels
    refine ⟨by decide, fun lc hlc => ?_⟩
    have nlc := dV.ne hlc
    have dC : LI (upd HV lc (.lst [])) d := dV.same (Same.upd hlc)
    have sC : Same HV (upd HV lc (.lst [])) := Same.upd hlc
    have bC : But d HV (upd HV lc (.lst [])) := (But.refl d HV).al hlc
    have gC : Dp K (fresh HV (upd HV lc (.lst []))) (.ref lc) (.list []) := .lst (SqL.of (by rw [fresh_at hlc]; exact upd_same)) .nil
    generalize upd HV lc (.lst []) = HC at *
    refine ⟨_, rfl, _, rfl, ?_⟩
    refine ifF rfl ?_
    refine ifF rfl ?_
    have bAC := bV.trans bC
    have b0C := bA.trans bAC
    have wS : Dp K (wo [d] HC) (.ref ls) (dStrs ss) := Dp.ofStrs (SqL.of (by rw [wo_ne fun z => nls (List.mem_singleton.mp z)]; exact bAC _ _ hA nls))
    have wV : Dp K (wo [d] HC) (.ref t6) (.list (vars.map dVar)) := Dp.same ((fresh_wo dA.some).trans bC.wo1) gV
    have wC : Dp K (wo [d] HC) (.ref lc) (.list []) := Dp.same (fresh_wo dV.some) gC
    -- rules
    refine ⟨by decide, fun lr hlr => ?_⟩
    have nlr := dC.ne hlr
    have bR : But d HC (upd HC lr (.lst [])) := (But.refl d HC).al hlr
    have dR : LI (upd HC lr (.lst [])) d := dC.put (Ne.symm nlr)
    have gR : GW K HC lr [] (upd HC lr (.lst [])) := GW.start
    generalize upd HC lr (.lst []) = HR at *
    dsimp only [gName]
    refine seq_join (fun σ' H' => ∃ (v7 : Option V) (rs : List RuleD), σ' = [some (.ref d), some (.int 3), some (.bl false), some (.ref ls), some (.ref t6), some (.ref lc), some (.ref lr), v7, none] ∧ But d HC H' ∧ LI H' d ∧ Dp K (fresh HC H') (.ref lr) (.list (rs.map dRule)) ∧
      1 ≤ rs.length ∧ rs.length ≤ 3 ∧ (rs.map (·.name)).Nodup ∧ ∀ r ∈ rs, RuleOk ss vars r) (fun R hR => ?_) ?_
    · refine ⟨_, rfl, _, rfl, d, 3, rfl, by decide, dR, fun H1 j b1 d1 hj => ⟨_, _, rfl, rfl, _, rfl, by omega, by omega, for_range (lo := 0) (fun i σ' H' => ∃ (v7 : Option V) (rs : List RuleD), σ' = [some (.ref d), some (.int 3), some (.bl false), some (.ref ls), some (.ref t6), some (.ref lc), some (.ref lr), v7, none] ∧ But d HC H' ∧ LI H' d ∧ GW K HC lr (rs.map dRule) H' ∧
        rs.map (·.name) = (List.range i).map nmK ∧ ∀ r ∈ rs, RuleOk ss vars r) ⟨none, [], rfl, bR.trans b1, d1, gR.but b1 dC.some nlr, rfl, fun r hr => by cases hr⟩ ?_ ?_⟩⟩
      · rintro i σ' H2 hi ⟨v7, rs, rfl, b2, d2, g2, hnm, hrs⟩
        have hi' : i < 3 := by omega
        have lrs : rs.length = i := by have := congrArg List.length hnm; rw [List.length_map, List.length_map, List.length_range] at this; exact this
        obtain ⟨acc0, ha0, _⟩ := id g2
        have lg : ((0 : Int) + (i : Nat)).natAbs.log2 < 1920 := by
          match i, hi' with
          | 0, _ => decide +kernel
          | 1, _ => decide +kernel
          | 2, _ => decide +kernel
        have sz : ("r" : Str).length + (Str.ofString (toString ((0 : Int) + (i : Nat)))).length ≤ sizeLine := by
          match i, hi' with
          | 0, _ => decide +kernel
          | 1, _ => decide +kernel
          | 2, _ => decide +kernel
        refine ⟨_, rfl, .inl ⟨rfl, _, SqL.of ha0⟩, _, rfl, _, rfl, _, rfl, lg, _, _, rfl, rfl, sz, _, rfl, _, rfl, _, rfl, ?_⟩
        refine ⟨d, .ref ls, .ref t6, .ref lc, nmK i, ss, vars, rfl, d2, Dp.same b2.wo1 wS, by have := so.s2; omega, so.s4, so.nd, Dp.same b2.wo1 wV, vl1, vl2, Dp.same b2.wo1 wC, nmK_ok i hi', fun p H3 r b3 d3 hp dp en ok => ?_⟩
        have lrn : H2 lr ≠ none := by rw [ha0]; exact fun z => nomatch z
        obtain ⟨acc, h1, h2, g3⟩ := (g2.but b3 dC.some nlr).more (Dp.same (fresh_frl b2 d2.some lrn) dp) (by rw [List.length_map]; omega)
        refine ⟨lr, acc, _, rfl, rfl, h1, h2, ?_⟩
        refine ⟨_, rs ++ [r], rfl, (b2.trans b3).fresh hlr, d3.put (Ne.symm nlr), by rw [List.map_append]; exact g3, ?_, fun r' hr' => ?_⟩
        · rw [List.map_append, hnm, List.range_succ, List.map_append, List.map_singleton, List.map_singleton, en]
        · rcases List.mem_append.mp hr' with e | e
          · exact hrs r' e
          · rw [List.mem_singleton.mp e]; exact ok
      · rintro σ' H2 ⟨v7, rs, rfl, b2, d2, g2, hnm, hrs⟩
        have lrs : rs.length = (1 + ((j : Nat) : Int)).toNat := by have := congrArg List.length hnm; rw [List.length_map, List.length_map, List.length_range] at this; exact this
        exact hR _ _ ⟨v7, rs, rfl, b2, d2, g2.fin hlr, by omega, by omega, by rw [hnm]; exact nmK_nd _ (by omega), hrs⟩
    clear bR dR gR HR
    rintro σ' HF ⟨v7, rs, rfl, bF, dF, gF, r1, r3, rn, rok⟩
    -- bad
    refine ⟨by show 3 ≤ sizeLine; decide, fun t7 ht7 => ?_⟩
    have n7 := dF.ne ht7
    have h7 : (upd HF t7 (.lst [.int 1, .int 1, .int 2])) t7 = some (.lst [.int 1, .int 1, .int 2]) := upd_same
    have b7 : But d HF (upd HF t7 (.lst [.int 1, .int 1, .int 2])) := (But.refl d HF).al ht7
    refine ⟨_, rfl, d, 3, rfl, by decide, dF.same (Same.upd ht7), fun H1 j b1 d1 hj => ?_⟩
    obtain ⟨n, hn, hn1, hn2⟩ := three2 j hj
    refine ⟨t7, _, _, .int n, rfl, rfl, SqL.of (b1 _ _ h7 n7), at_of (j := j) rfl hn, n, rfl, by omega, by omega, fun D hD => ?_⟩
    have bF1 := b7.trans b1
    have nD := d1.ne hD
    have fD : HF D = none := bF1.free nD hD
    refine lc_range (lo := 0) (fun i H' => But d HF H' ∧ LI H' d ∧ ∃ bs : List PatD, GW K HF D (bs.map dPat) H' ∧ bs.length = i ∧ ∀ b ∈ bs, PatOk ss vars b) ⟨bF1.al hD, d1.put (Ne.symm nD), [], GW.start, rfl, fun p hp => by cases hp⟩ ?_ ?_
    · rintro i Hi hi ⟨b4, d4, bs, g4, lbs, hbs⟩
      have bC4 := bF.trans b4
      obtain ⟨acc0, ha0, _⟩ := id g4
      have lrn : Hi D ≠ none := by rw [ha0]; exact fun z => nomatch z
      refine ⟨rfl, ?_⟩
      refine yesT ?_
      refine ⟨_, rfl, _, rfl, _, rfl, d, .ref ls, .ref t6, ss, vars, rfl, d4, Dp.same bC4.wo1 wS, by have := so.s2; omega, so.s4, so.nd, Dp.same bC4.wo1 wV, vl1, vl2, fun p H5 b b5 d5 hp dp okb => ?_⟩
      obtain ⟨acc, h1, h2, g7⟩ := (g4.but b5 dF.some nD).more (Dp.same (fresh_frl b4 d4.some lrn) dp) (by rw [List.length_map]; omega)
      refine ⟨acc, h1, h2, (b4.trans b5).fresh fD, d5.put (Ne.symm nD), bs ++ [b], by rw [List.map_append]; exact g7, by rw [List.length_append, lbs]; rfl, fun p hp => ?_⟩
      rcases List.mem_append.mp hp with e | e
      · exact hbs p e
      · rw [List.mem_singleton.mp e]; exact okb
    rintro HG ⟨bG, dG, bs, gG, lbs, hbs⟩
    have gG' := gG.fin fD
    have bCG := bF.trans bG
    have bAG := bAC.trans bCG
    refine ⟨_, rfl, _, rfl, _, rfl, _, rfl, ls, _, rfl, .inl (SqL.of (bAG _ _ hA nls)), d, ss.length, (by rw [List.length_map]; rfl), by have := so.s2; omega, dG, fun HX m bX dX hm => ?_⟩
    obtain ⟨x, hx⟩ : ∃ x, ss[m]? = some x := ⟨ss[m], List.getElem?_eq_getElem hm⟩
    refine ⟨ls, _, _, .str x, rfl, rfl, SqL.of ((bAG.trans bX) _ _ hA nls), at_of (j := m) rfl (by rw [List.getElem?_map, hx]; rfl), _, rfl, _, rfl, _, rfl, _, rfl, by show 6 ≤ sizeLine; decide, fun t ht => ?_⟩
    have nt := dX.ne ht
    have s5 : Same HX (upd HX t (.tup [.ref ls, .str x, .ref t6, .ref lc, .ref lr, .ref D])) := Same.upd ht
    have b5 := bX.trans (Same.but d s5)
    have bAll := bA.trans (bAG.trans bX)
    refine q t _ ⟨ss, x, vars, rs, bs⟩ (bAll.al ht) (dX.same s5) (bAll.free nt ht) ?_ ?_
    · refine .tup (SqT.of (by rw [fresh_at (bAll.free nt ht)]; exact upd_same)) (.cons (Dp.ofStrs (SqL.of (by rw [fresh_at hls0]; exact (bAG.trans b5) _ _ hA nls))) (.cons (.str _) (.cons (Dp.same (fresh_up bA dA.some (bC.trans (bCG.trans b5))) gV) (.cons (Dp.same (fresh_up (bA.trans bV) dV.some (bCG.trans b5)) gC)
        (.cons (Dp.same (fresh_up b0C dC.some (bG.trans b5)) gF) (.cons (Dp.same (fresh_up (b0C.trans bF) dF.some b5) gG') .nil))))))
    · exact ⟨so.s2, so.s4, so.nd, fun z hz => allS_ok z (so.sub z hz), List.mem_of_getElem? hx, vv, r1, r3, rn, rok, by show bs.length ≤ 4; omega, hbs⟩
end
end C62
set_option Elab.async false
set_option linter.all false
set_option maxRecDepth 100000
set_option maxHeartbeats 4000000
namespace C62
open PySem PySem.Spec PyProof.Rows L2
open He (ga ma)
theorem noL_prs (ps : List Pr) : noL (.tuple (ps.map dPr)) = true := noLs_map _ noL_pr ps
theorem noL_strs (zs : List Str) : noL (dStrT zs) = true := noLs_map _ (fun _ => rfl) zs
theorem RuleAt.updL {K : PySem.W.Frag} {H : Hp} {l : Addr} {ys zs : List V} (hl : H l = some (.lst ys)) {v : V} {r : RuleD} : RuleAt K H v r → RuleAt K (upd H l (.lst zs)) v r
  | ⟨a, dx, fs, h1, h2, F⟩ => by
    have n : a ≠ l := fun e => by rw [e, hl] at h2; cases h2
    have f : ∀ {x : Str} {d : PyData}, noL d = true → (∃ u, fs.lookup x = some u ∧ Dp K H u d) → ∃ u, fs.lookup x = some u ∧ Dp K (upd H l (.lst zs)) u d := fun nd ⟨u, q1, q2⟩ => ⟨u, q1, Dp.same Same.delUpd (Dp.delL hl q2 nd)⟩
    exact ⟨a, dx, fs, h1, by rw [upd_ne n]; exact h2, ⟨F.name, f (noL_prs _) F.actors, f (noL_prs _) F.everyone, f (noL_strs _) F.born, f (noL_prs _) F.conds, f (noL_prs _) F.effs, f rfl F.hears, f rfl F.sends⟩⟩
theorem RulesAt.updL {K : PySem.W.Frag} {H : Hp} {l : Addr} {ys zs : List V} (hl : H l = some (.lst ys)) : ∀ {vs : List V} {rs : List RuleD}, RulesAt K H vs rs → RulesAt K (upd H l (.lst zs)) vs rs
  | _, _, .nil => .nil
  | _, _, .cons h t => .cons (h.updL hl) (t.updL hl)
theorem DpAll.i6 {K : PySem.W.Frag} {H : Hp} {vs : List V} {a b c d e f : PyData} (h : DpAll K H vs [a, b, c, d, e, f]) : ∃ u v w x y z, vs = [u, v, w, x, y, z] ∧ Dp K H u a ∧ Dp K H v b ∧ Dp K H w c ∧ Dp K H x d ∧ Dp K H y e ∧ Dp K H z f := by
  cases h with
  | cons h1 t => cases t with
    | cons h2 t => cases t with
      | cons h3 t =>
        obtain ⟨x, y, z, rfl, h4, h5, h6⟩ := DpAll.i3 t
        exact ⟨_, _, _, _, _, _, rfl, h1, h2, h3, h4, h5, h6⟩
theorem DpAll.i8 {K : PySem.W.Frag} {H : Hp} {vs : List V} {a b c d e f g i : PyData} (h : DpAll K H vs [a, b, c, d, e, f, g, i]) : ∃ u v w x y z s t, vs = [u, v, w, x, y, z, s, t] ∧ Dp K H u a ∧ Dp K H v b ∧ Dp K H w c ∧ Dp K H x d ∧ Dp K H y e ∧ Dp K H z f ∧ Dp K H s g ∧ Dp K H t i := by
  cases h with
  | cons h1 t => cases t with
    | cons h2 t =>
      obtain ⟨w, x, y, z, s, t, rfl, h3, h4, h5, h6, h7, h8⟩ := DpAll.i6 t
      exact ⟨_, _, _, _, _, _, _, _, rfl, h1, h2, h3, h4, h5, h6, h7, h8⟩
/-- a copy of a list -/
theorem cpL {K : PySem.W.Frag} {H : Hp} {l : Addr} {xs : List V} {ds : List PyData} (hl : H l = none) (h : DpAll K H xs ds) : Dp K (upd H l (.lst xs)) (.ref l) (.list ds) := .lst (SqL.of upd_same) (DpAll.same (Same.upd hl) h)
def spMade (K : PySem.W.Frag) : Sp := fun vs H Q _ => ∃ (x : V) (S : PartsD), vs = [x] ∧ Dp K H x (dParts S) ∧ PartsOk S ∧ ∀ v H', Same H H' → SysAt K H' v S → Q v H'
section
variable {P : Program} {w : World} {K : PySem.W.Frag} {mg : Str → Option Value} {base : Heap}
theorem c__law_made (T : Txt K mg) : Cal P w K mg base 6 "_law_made" (spMade K) := by
  refine T.f_law_made.cal sc_law_made (fun _ _ _ _ _ _ us hl => match us, hl with | [_], _ => rfl) (fun vs H Q E h => ?_) (fun f cdv A outer s H vs Q E hr h => ?_)
  · obtain ⟨x, S, rfl, _⟩ := h
    rfl
  · obtain ⟨x, S, rfl, hx, ok, q⟩ := h
    obtain ⟨p, xs, rfl, hp, hxs⟩ := Dp.tupI hx
    obtain ⟨u1, u2, u3, u4, u5, u6, rfl, e1, e2, e3, e4, e5, e6⟩ := DpAll.i6 hxs
    obtain rfl := Dp.strI e2
    have r3 := ok.r3
    have b4 := ok.b4
    refine ⟨_, (pss_cons (ps_asg (pv 0) (pg_tup rfl (pgs_cons (pg_name (i := 1) sc_law_made.nd rfl (Or.inl rfl)) (pgs_cons (pg_name (i := 2) sc_law_made.nd rfl (Or.inl rfl)) (pgs_cons (pg_name (i := 3) sc_law_made.nd rfl (Or.inl rfl)) (pgs_cons (pg_name (i := 4) sc_law_made.nd rfl (Or.inl rfl)) (pgs_cons (pg_name (i := 5) sc_law_made.nd rfl (Or.inl rfl)) (pgs_cons (pg_name (i := 6) sc_law_made.nd rfl (Or.inl rfl)) pgs_nil))))))))
  (pss_cons (ps_set (i := 7) sc_law_made.nd rfl (Or.inl rfl) (pe_lst pa_nil))
  (pss_cons (ps_for PassesOwn.never rfl (pi_list (pv 5)) (pg_name (i := 8) sc_law_made.nd rfl (Or.inl rfl)) (pss_cons (ps_asg (pv 8) (pg_tup rfl (pgs_cons (pg_name (i := 9) sc_law_made.nd rfl (Or.inl rfl)) (pgs_cons (pg_name (i := 10) sc_law_made.nd rfl (Or.inl rfl)) (pgs_cons (pg_name (i := 11) sc_law_made.nd rfl (Or.inl rfl)) (pgs_cons (pg_name (i := 12) sc_law_made.nd rfl (Or.inl rfl)) (pgs_cons (pg_name (i := 13) sc_law_made.nd rfl (Or.inl rfl)) (pgs_cons (pg_name (i := 14) sc_law_made.nd rfl (Or.inl rfl)) (pgs_cons (pg_name (i := 15) sc_law_made.nd rfl (Or.inl rfl)) (pgs_cons (pg_name (i := 16) sc_law_made.nd rfl (Or.inl rfl)) pgs_nil))))))))))
  (pss_one (ps_expr (pe_bm PySem.F.plainAttrs_list PySem.F.slot_list_append PySem.F.type_list_append mt_append (pv 7) (pa_cons (pe_mkK (mk_Rule T) hr (by decide) (by rfl) (pa_cons (pv 9) (pa_cons (pe_callTy call_list_of (by rfl) T.b_list PyB.boot_list (pa_cons (pv 10) pa_nil)) pa_nil)) (pk_cons (pe_callTy call_list_of (by rfl) T.b_list PyB.boot_list (pa_cons (pv 11) pa_nil)) (pk_cons (pe_callTy call_list_of (by rfl) T.b_list PyB.boot_list (pa_cons (pv 12) pa_nil)) (pk_cons (pe_callTy call_list_of (by rfl) T.b_list PyB.boot_list (pa_cons (pv 13) pa_nil)) (pk_cons (pe_callTy call_list_of (by rfl) T.b_list PyB.boot_list (pa_cons (pv 14) pa_nil)) (pk_cons (pe_callTy call_list_of (by rfl) T.b_list PyB.boot_list (pa_cons (pv 15) pa_nil)) (pk_cons (pe_callTy call_list_of (by rfl) T.b_list PyB.boot_list (pa_cons (pv 16) pa_nil)) pk_nil))))))) pa_nil))))))
  (pss_cons (ps_setLc (i := 17) (own := [("_law_pattern_here", 20)]) (g := gName 20) rfl sc_law_made.nd rfl rfl (sw_true rfl rfl rfl (by decide +kernel)) (pi_list (pv 6)) (blkOk_by (own := [("_law_pattern_here", 20)]) (N := nm_law_made) (sc := defScope s_law_made) (by decide +kernel)) (fun _ _ _ _ _ => (pg_name (i := 20) sc_law_made.nd rfl (Or.inl rfl))) (fun _ _ _ _ _ => pts_nil) (fun _ _ _ _ _ => (pe_tup (pa_cons (pe_callTy (call_list_ofK K) (by rfl) T.b_list PyB.boot_list (pa_cons (pe_ix (ix_tupK K) (pv 20) pe_int (fun _ _ => rfl)) pa_nil)) (pa_cons (pe_callTy (call_list_ofK K) (by rfl) T.b_list PyB.boot_list (pa_cons (pe_ix (ix_tupK K) (pv 20) pe_int (fun _ _ => rfl)) pa_nil)) pa_nil)))))
  (pss_cons (ps_setLc (i := 18) (own := [("_law_pair", 21)]) (g := gName 21) rfl sc_law_made.nd rfl rfl (sw_true rfl rfl rfl (by decide +kernel)) (pi_list (pv 3)) (blkOk_by (own := [("_law_pair", 21)]) (N := nm_law_made) (sc := defScope s_law_made) (by decide +kernel)) (fun _ _ _ _ _ => (pg_name (i := 21) sc_law_made.nd rfl (Or.inl rfl))) (fun _ _ _ _ _ => pts_nil) (fun _ _ _ _ _ => (pe_tup (pa_cons (pe_ix (ix_tupK K) (pv 21) pe_int (fun _ _ => rfl)) (pa_cons (pe_callTy (call_list_ofK K) (by rfl) T.b_list PyB.boot_list (pa_cons (pe_ix (ix_tupK K) (pv 21) pe_int (fun _ _ => rfl)) pa_nil)) pa_nil)))))
  (pss_cons (ps_setLc (i := 19) (own := [("_law_pair", 21)]) (g := gName 21) rfl sc_law_made.nd rfl rfl (sw_true rfl rfl rfl (by decide +kernel)) (pi_list (pv 4)) (blkOk_by (own := [("_law_pair", 21)]) (N := nm_law_made) (sc := defScope s_law_made) (by decide +kernel)) (fun _ _ _ _ _ => (pg_name (i := 21) sc_law_made.nd rfl (Or.inl rfl))) (fun _ _ _ _ _ => pts_nil) (fun _ _ _ _ _ => (pe_tup (pa_cons (pe_ix (ix_tupK K) (pv 21) pe_int (fun _ _ => rfl)) (pa_cons (pe_callTy (call_list_ofK K) (by rfl) T.b_list PyB.boot_list (pa_cons (pe_ix (ix_tupK K) (pv 21) pe_int (fun _ _ => rfl)) pa_nil)) pa_nil)))))
  (pss_one (ps_ret (pe_mkK (mk_System T) hr (by decide) (by rfl) (pa_cons (pe_callTy call_list_of (by rfl) T.b_list PyB.boot_list (pa_cons (pv 1) pa_nil)) (pa_cons (pv 2) (pa_cons (pv 18) (pa_cons (pv 7) (pa_cons (pv 17) pa_nil))))) (pk_cons (pv 19) pk_nil)))))))))), ?_⟩
    refine ⟨_, rfl, p, _, rfl, hp, rfl, _, _, rfl, _, _, rfl, _, _, rfl, _, _, rfl, _, _, rfl, _, _, rfl, rfl, ?_⟩
    refine ⟨by decide, fun l hl => ?_⟩
    have s1 : Same H (upd H l (.lst [])) := Same.upd hl
    have h1 : (upd H l (.lst [])) l = some (.lst []) := upd_same
    generalize upd H l (.lst []) = H1 at *
    refine ⟨_, rfl, for_dlS (K := K) (l := S.rules) (enc := dRule) e5 (fun i σ' H' => ∃ (v8 v9 v10 v11 v12 v13 v14 v15 v16 : Option V) (ws : List V), σ' = [some (.ref p), some u1, some (.str S.start), some u3, some u4, some u5, some u6, some (.ref l), v8, v9, v10, v11, v12, v13, v14, v15, v16, none, none, none, none, none] ∧ Same H H' ∧
      H' l = some (.lst ws) ∧ RulesAt K H' ws (S.rules.take i)) ⟨none, none, none, none, none, none, none, none, none, [], rfl, s1, h1, .nil⟩ (fun i σ' H' _ ⟨_, _, _, _, _, _, _, _, _, _, _, s, _⟩ => s) ?_ ?_⟩
    · rintro i z r σ' H2 hri dz ⟨v8, v9, v10, v11, v12, v13, v14, v15, v16, ws, rfl, s2, h2, hws⟩
      have ro := ok.rs r (List.mem_of_getElem? hri)
      have c1 := vals_le1 ro.co
      have c2 := vals_le1 ro.ef
      have c3 := ro.a3
      have c5 := ro.el
      obtain ⟨g, ys, rfl, hg, hys⟩ := Dp.tupI dz
      obtain ⟨w1, w2, w3, w4, w5, w6, w7, w8, rfl, f1, f2, f3, f4, f5, f6, f7, f8⟩ := DpAll.i8 hys
      obtain rfl := Dp.strI f1
      obtain ⟨a2, x2, rfl, g2, k2⟩ := Dp.lstI f2
      obtain ⟨a3, x3, rfl, g3, k3⟩ := Dp.lstI f3
      obtain ⟨a4, x4, rfl, g4, k4⟩ := Dp.lstI f4
      obtain ⟨a5, x5, rfl, g5, k5⟩ := Dp.lstI f5
      obtain ⟨a6, x6, rfl, g6, k6⟩ := Dp.lstI f6
      obtain ⟨a7, x7, rfl, g7, k7⟩ := Dp.lstI f7
      obtain ⟨a8, x8, rfl, g8, k8⟩ := Dp.lstI f8
      refine ⟨_, rfl, g, _, rfl, Same.sqT s2 hg, rfl, _, _, rfl, _, _, rfl, _, _, rfl, _, _, rfl, _, _, rfl, _, _, rfl, _, _, rfl, _, _, rfl, rfl, ?_⟩
      refine ⟨_, rfl, .inl ⟨rfl, _, SqL.of h2⟩, _, rfl, _, rfl, a2, _, rfl, .inl (s2.seq g2), fun l2 hl2 => ?_⟩
      have t2 := s2.trans (Same.upd (o := .lst x2) hl2)
      have m2 := cpL hl2 (DpAll.same s2 k2)
      have q2 := Same.upd (o := .lst x2) hl2
      generalize upd H2 l2 (.lst x2) = J2 at *
      refine ⟨_, rfl, a3, _, rfl, .inl (t2.seq g3), fun l3 hl3 => ?_⟩
      have t3 := t2.trans (Same.upd (o := .lst x3) hl3)
      have m3 := cpL hl3 (DpAll.same t2 k3)
      have q3 := Same.upd (o := .lst x3) hl3
      generalize upd J2 l3 (.lst x3) = J3 at *
      refine ⟨_, rfl, a4, _, rfl, .inl (t3.seq g4), fun l4 hl4 => ?_⟩
      have t4 := t3.trans (Same.upd (o := .lst x4) hl4)
      have m4 := cpL hl4 (DpAll.same t3 k4)
      have q4 := Same.upd (o := .lst x4) hl4
      generalize upd J3 l4 (.lst x4) = J4 at *
      refine ⟨_, rfl, a5, _, rfl, .inl (t4.seq g5), fun l5 hl5 => ?_⟩
      have t5 := t4.trans (Same.upd (o := .lst x5) hl5)
      have m5 := cpL hl5 (DpAll.same t4 k5)
      have q5 := Same.upd (o := .lst x5) hl5
      generalize upd J4 l5 (.lst x5) = J5 at *
      refine ⟨_, rfl, a6, _, rfl, .inl (t5.seq g6), fun l6 hl6 => ?_⟩
      have t6 := t5.trans (Same.upd (o := .lst x6) hl6)
      have m6 := cpL hl6 (DpAll.same t5 k6)
      have q6 := Same.upd (o := .lst x6) hl6
      generalize upd J5 l6 (.lst x6) = J6 at *
      refine ⟨_, rfl, a7, _, rfl, .inl (t6.seq g7), fun l7 hl7 => ?_⟩
      have t7 := t6.trans (Same.upd (o := .lst x7) hl7)
      have m7 := cpL hl7 (DpAll.same t6 k7)
      have q7 := Same.upd (o := .lst x7) hl7
      generalize upd J6 l7 (.lst x7) = J7 at *
      refine ⟨_, rfl, a8, _, rfl, .inl (t7.seq g8), fun l8 hl8 => ?_⟩
      have t8 := t7.trans (Same.upd (o := .lst x8) hl8)
      have m8 := cpL hl8 (DpAll.same t7 k8)
      have q8 := Same.upd (o := .lst x8) hl8
      generalize upd J7 l8 (.lst x8) = J8 at *
      refine ⟨rfl, rfl, fun o dx ho hdx hne => ?_⟩
      have so : Same J8 (upd (upd J8 dx (.own o)) o (.ins (ga K "Rule") dx [])) := (Same.upd hdx).trans (Same.upd (by rw [upd_ne (Ne.symm hne)]; exact ho))
      have p7 := q8.trans so
      have p6 := q7.trans p7
      have p5 := q6.trans p6
      have p4 := q5.trans p5
      have p3 := q4.trans p4
      have p2 := q3.trans p3
      refine ⟨o, dx, r, .ref l2, .ref l3, .ref l4, .ref l5, .ref l6, .ref l7, .ref l8, rfl, upd_same, Dp.same p2 m2, Dp.same p3 m3, Dp.same p4 m4, Dp.same p5 m5, Dp.same p6 m6, Dp.same p7 m7, Dp.same so m8, by omega, by omega, by omega, by omega, fun H9 b9 hR => ⟨rfl, ?_⟩⟩
      have s89 : Same J8 H9 := But.same ho hdx b9
      have s29 : Same H2 H9 := q2.trans (q3.trans (q4.trans (q5.trans (q6.trans (q7.trans (q8.trans s89))))))
      have lws : ws.length = (S.rules.take i).length := hws.len
      rw [List.length_take] at lws
      refine ⟨l, ws, _, rfl, rfl, s29 _ _ h2, small1000 (by omega), ?_⟩
      refine ⟨_, _, _, _, _, _, _, _, _, _, rfl, Same.put hl (s2.trans s29), upd_same, ?_⟩
      rw [take_snoc hri]
      exact ((hws.same s29).app (.cons hR .nil)).updL (s29 _ _ h2)
    rintro σ' H2 ⟨v8, v9, v10, v11, v12, v13, v14, v15, v16, ws, rfl, s2, h2, hws⟩
    rw [List.take_length] at hws
    -- patterns
    refine ⟨_, rfl, lc_dl (K := K) (vs := [20]) (Dp.same s2 e6) (by omega) (fun b => some (dPat b)) ?_ ?_⟩
    · intro D hD i z b hb dz Hi R N s3 nD hR _
      obtain ⟨g, ys, rfl, hg, hys⟩ := Dp.tupI dz
      obtain ⟨v1, v2, rfl, f1, f2⟩ := DpAll.i2 hys
      obtain ⟨a1, x1, rfl, g1, k1⟩ := Dp.lstI f1
      obtain ⟨a2, x2, rfl, g2, k2⟩ := Dp.lstI f2
      refine ⟨rfl, ?_⟩
      refine yesT ?_
      refine ⟨_, rfl, g, _, (0 : Int), _, rfl, rfl, Same.sqT s3 hg, at_of (z := (0 : Int)) (j := 0) rfl rfl, a1, _, rfl, .inl (s3.seq g1), fun l1 hl1 => ?_⟩
      have q1 := Same.upd (o := .lst x1) hl1
      have n1 : l1 ≠ D := fun e => nD (e ▸ hl1)
      have h1 : (upd Hi l1 (.lst x1)) l1 = some (.lst x1) := upd_same
      generalize upd Hi l1 (.lst x1) = J1 at *
      have s4 := s3.trans q1
      refine ⟨_, rfl, g, _, (1 : Int), _, rfl, rfl, Same.sqT s4 hg, at_of (z := (1 : Int)) (j := 1) rfl rfl, a2, _, rfl, .inl (s4.seq g2), fun l2 hl2 => ?_⟩
      have q2 := Same.upd (o := .lst x2) hl2
      have n2 : l2 ≠ D := fun e => by
        cases q : Hi D with
        | none => exact nD q
        | some o => rw [e, q1 _ _ q] at hl2; cases hl2
      have h2 : (upd J1 l2 (.lst x2)) l2 = some (.lst x2) := upd_same
      generalize upd J1 l2 (.lst x2) = J2 at *
      have s5 := s4.trans q2
      refine ⟨by show 2 ≤ sizeLine; decide, fun t ht => ?_⟩
      have q3 := Same.upd (o := .tup [.ref l1, .ref l2]) ht
      have nt : t ≠ D := fun e => by
        cases q : Hi D with
        | none => exact nD q
        | some o => rw [e, q2 _ _ (q1 _ _ q)] at ht; cases ht
      have sD := Same.del hD (s5.trans q3)
      refine hR _ _ _ rfl (q1.trans (q2.trans q3)) (.tup (SqT.of (by rw [del_ne nt]; exact upd_same)) (.cons (.lst (SqL.of (by rw [del_ne n1]; exact (q2.trans q3) _ _ h1)) (DpAll.same sD k1)) (.cons (.lst (SqL.of (by rw [del_ne n2]; exact q3 _ _ h2)) (DpAll.same sD k2)) .nil)))
    intro D3 H3 s3 hD3 d3
    rw [fm_map] at d3
    have s03 := s2.trans s3
    -- names
    have vl := vars_le ok
    refine ⟨_, rfl, lc_dl (K := K) (vs := [21]) (Dp.same s03 e3) (by omega) (fun v => some (dVar v)) ?_ ?_⟩
    · intro D hD i z v hv dz Hi R N s4 nD hR _
      obtain ⟨g, ys, rfl, hg, hys⟩ := Dp.tupI dz
      obtain ⟨v1, v2, rfl, f1, f2⟩ := DpAll.i2 hys
      obtain rfl := Dp.strI f1
      obtain ⟨a2, x2, rfl, g2, k2⟩ := Dp.lstI f2
      refine ⟨rfl, ?_⟩
      refine yesT ?_
      refine ⟨_, rfl, g, _, (0 : Int), _, rfl, rfl, Same.sqT s4 hg, at_of (z := (0 : Int)) (j := 0) rfl rfl, ?_⟩
      refine ⟨_, rfl, g, _, (1 : Int), _, rfl, rfl, Same.sqT s4 hg, at_of (z := (1 : Int)) (j := 1) rfl rfl, a2, _, rfl, .inl (s4.seq g2), fun l2 hl2 => ?_⟩
      have q2 := Same.upd (o := .lst x2) hl2
      have n2 : l2 ≠ D := fun e => nD (e ▸ hl2)
      have h2 : (upd Hi l2 (.lst x2)) l2 = some (.lst x2) := upd_same
      generalize upd Hi l2 (.lst x2) = J2 at *
      have s5 := s4.trans q2
      refine ⟨by show 2 ≤ sizeLine; decide, fun t ht => ?_⟩
      have q3 := Same.upd (o := .tup [.str v.1, .ref l2]) ht
      have nt : t ≠ D := fun e => by
        cases q : Hi D with
        | none => exact nD q
        | some o => rw [e, q2 _ _ q] at ht; cases ht
      have sD := Same.del hD (s5.trans q3)
      refine hR _ _ _ rfl (q2.trans q3) (.tup (SqT.of (by rw [del_ne nt]; exact upd_same)) (.cons (.str _) (.cons (.lst (SqL.of (by rw [del_ne n2]; exact q3 _ _ h2)) (DpAll.same sD k2)) .nil)))
    intro D4 H4 s4 hD4 d4
    rw [fm_map] at d4
    have s04 := s03.trans s4
    -- boxes
    refine ⟨_, rfl, lc_dl (K := K) (vs := [21]) (l := ([] : List PyData)) (enc := fun d => d) (Dp.same s04 e4) (by decide) (fun d => some d) (fun D hD i z d hd' => by simp at hd') ?_⟩
    intro D5 H5 s5 hD5 d5
    have s05 := s04.trans s5
    -- System
    obtain ⟨a1, x1, rfl, g1, k1⟩ := Dp.lstI e1
    refine ⟨_, rfl, a1, _, rfl, .inl (s05.seq g1), fun l6 hl6 => ?_⟩
    have m6 := cpL hl6 (DpAll.same s05 k1)
    have q6 := Same.upd (o := .lst x1) hl6
    generalize upd H5 l6 (.lst x1) = H6 at *
    refine ⟨_, rfl, _, rfl, _, rfl, _, rfl, _, rfl, rfl, rfl, fun o dx ho hdx hne => ?_⟩
    have so : Same H6 (upd (upd H6 dx (.own o)) o (.ins (ga K "System") dx [])) := (Same.upd hdx).trans (Same.upd (by rw [upd_ne (Ne.symm hne)]; exact ho))
    have s2o := s3.trans (s4.trans (s5.trans (q6.trans so)))
    refine ⟨o, dx, S, .ref l6, .ref D4, .ref D3, .ref D5, l, ws, rfl, upd_same, Dp.same so m6, Dp.same (s5.trans (q6.trans so)) d4, SqL.of (s2o _ _ h2), hws.same s2o, Dp.same (s4.trans (s5.trans (q6.trans so))) d3, Dp.same (q6.trans so) d5, ok, fun H9 b9 hS => ⟨rfl, ?_⟩⟩
    exact q _ _ (s05.trans (q6.trans (But.same ho hdx b9))) hS
end
end C62
set_option Elab.async false
set_option linter.all false
set_option maxHeartbeats 4000000
namespace C62
open PySem PySem.Spec PyProof.Rows L2
/-! ### sorted texts -/
def leS (a b : Str) : Prop := ¬ b.cps.toList < a.cps.toList
theorem leS_trans {a b c : Str} (h1 : leS a b) (h2 : leS b c) : leS a c := by
  unfold leS at *
  exact fun h => (List.not_lt.mp h2 |> fun q => List.not_lt.mp h1 |> fun p => List.not_lt.mpr (List.le_trans p q)) h
theorem leS_antisymm {a b : Str} (h1 : leS a b) (h2 : leS b a) : a = b := by
  have := List.le_antisymm (List.not_lt.mp h1) (List.not_lt.mp h2)
  cases a; cases b
  simp only at this
  exact congrArg Str.mk (Array.toList_inj.mp this)
theorem rising_pw : ∀ (l : List Str) (p : Str), risingS p l = true → (p :: l).Pairwise leS
  | [], p, _ => List.pairwise_singleton _ _
  | x :: r, p, h => by
    unfold risingS at h
    rw [Bool.and_eq_true] at h
    have ih := rising_pw r x h.2
    have h1 : leS p x := by
      unfold leS
      have := h.1
      rw [ltCps_eq] at this
      intro e
      rw [decide_eq_true e] at this
      cases this
    rw [List.pairwise_cons]
    refine ⟨fun y hy => ?_, ih⟩
    rcases List.mem_cons.mp hy with e | e
    · rw [e]; exact h1
    · exact leS_trans h1 (List.rel_of_pairwise_cons ih e)
theorem sorted_pw {l : List Str} (h : sortedS l = true) : l.Pairwise leS := by
  cases l with
  | nil => exact List.Pairwise.nil
  | cons x r => exact rising_pw r x h
theorem perm_sorted : ∀ {l m : List Str}, l.Perm m → l.Pairwise leS → m.Pairwise leS → l = m
  | [], m, h, _, _ => (List.nil_perm.mp h).symm
  | a :: l, [], h, _, _ => by simp at h
  | a :: l, b :: m, h, h1, h2 => by
    have e : a = b := by
      have ha : a ∈ b :: m := h.mem_iff.mp List.mem_cons_self
      have hb : b ∈ a :: l := h.mem_iff.mpr List.mem_cons_self
      rcases List.mem_cons.mp ha with e | e
      · exact e
      · rcases List.mem_cons.mp hb with e' | e'
        · exact e'.symm
        · exact leS_antisymm (List.rel_of_pairwise_cons h1 e') (List.rel_of_pairwise_cons h2 e)
    subst e
    rw [perm_sorted ((List.perm_cons a).mp h) (List.pairwise_cons.mp h1).2 (List.pairwise_cons.mp h2).2]
theorem sorted_unique {l m : List Str} (h : l.Perm m) (h1 : sortedS l = true) (h2 : sortedS m = true) : l = m := perm_sorted h (sorted_pw h1) (sorted_pw h2)
/-- the sorted list, where there is one -/
noncomputable def srt (zs : List Str) : List Str := open Classical in if h : ∃ ys : List Str, ys.Perm zs ∧ sortedS ys = true then h.choose else zs
theorem srt_eq {ys zs : List Str} (h1 : ys.Perm zs) (h2 : sortedS ys = true) : srt zs = ys := by
  unfold srt
  have h : ∃ ys : List Str, ys.Perm zs ∧ sortedS ys = true := ⟨ys, h1, h2⟩
  rw [dif_pos h]
  exact sorted_unique (h.choose_spec.1.trans h1.symm) h.choose_spec.2 h2
def leB (a b : Str) : Bool := !ltCps b.cps.toList a.cps.toList
theorem leB_leS {a b : Str} : leB a b = true ↔ leS a b := by
  unfold leB leS
  rw [ltCps_eq]
  by_cases h : b.cps.toList < a.cps.toList
  · rw [decide_eq_true h]; simp [h]
  · rw [decide_eq_false h]; simp [h]
theorem srt_ok (zs : List Str) : (srt zs).Perm zs ∧ sortedS (srt zs) = true := by
  have h1 : (zs.mergeSort leB).Perm zs := List.mergeSort_perm zs leB
  have h2 : (zs.mergeSort leB).Pairwise (fun a b => leB a b = true) := List.pairwise_mergeSort (le := leB) (fun a b c x y => leB_leS.mpr (leS_trans (leB_leS.mp x) (leB_leS.mp y))) (fun a b => (show (leB a b || leB b a) = true by
    rw [Bool.or_eq_true, leB_leS, leB_leS]
    unfold leS
    rcases List.le_total a.cps.toList b.cps.toList with h | h
    · exact .inl (List.not_lt.mpr h)
    · exact .inr (List.not_lt.mpr h))) zs
  have h3 : sortedS (zs.mergeSort leB) = true := sortedS_of_pairwise _ (h2.imp fun {a b} h => by
    have := h
    unfold leB at this
    rw [Bool.not_eq_true'] at this
    exact this)
  rw [srt_eq h1 h3]
  exact ⟨h1, h3⟩
end C62
set_option Elab.async false
set_option linter.all false
set_option maxRecDepth 100000
set_option maxHeartbeats 4000000
namespace C62
open PySem PySem.Spec PyProof.Rows L2
open He (ga ma)
/-! ### the states of the law -/
structure LSt where
  ps : List Str
  vs : List Str
deriving DecidableEq
abbrev dLS (s : LSt) : PyData := .tuple [dStrT s.ps, dStrT s.vs, .tuple []]
def firstL (S : PartsD) (c : Nat) : LSt := ⟨List.replicate c S.start, S.vars.map fun v => v.2.headD ""⟩
theorem idx_min {k : Int} : ∀ {l : List Int} {m : Nat}, l[m]? = some k → l.idxOf k ≤ m
  | [], _, h => by simp at h
  | x :: r, 0, h => by
    have e : x = k := by simpa using h
    subst e
    rw [List.idxOf_cons_self]; exact Nat.le_refl _
  | x :: r, m + 1, h => by
    have := idx_min (l := r) (m := m) (by simpa using h)
    rw [List.idxOf_cons]
    cases x == k
    · exact Nat.succ_le_succ this
    · exact Nat.zero_le _
def pafB (r : RuleD) (ac : List Int) (k : Nat) (st : Str) : Str :=
  if (k : Int) ∈ ac then (r.actors.getD (ac.idxOf (k : Int)) ("", "")).2
  else match r.everyone.find? (fun e => decide (e.1 = st)) with
    | some e => e.2
    | none => st
def actK (s : LSt) (r : RuleD) (ac : List Int) (k : Nat) : Bool := decide (0 ≤ ac.getD k 0) && (decide (ac.getD k 0 < s.ps.length) && decide (s.ps.getD (ac.getD k 0).toNat "" = (r.actors.getD k ("", "")).1))
def actsB (s : LSt) (r : RuleD) (ac : List Int) : Bool := decide ac.Nodup && ((List.range ac.length).all (actK s r ac) && r.conds.all fun p => decide (s.vs.getD 0 "" = p.2))
theorem getD_pr {ps : List Pr} {j : Nat} (h : j < ps.length) : (ps.map dPr)[j]? = some (dPr (ps.getD j ("", ""))) := by
  rw [List.getElem?_map, List.getElem?_eq_getElem h, List.getD_eq_getElem?_getD, List.getElem?_eq_getElem h]; rfl
theorem getD_str {ns : List Str} {j : Nat} (h : j < ns.length) : (ns.map V.str)[j]? = some (V.str (ns.getD j "")) := by
  rw [List.getElem?_map, List.getElem?_eq_getElem h, List.getD_eq_getElem?_getD, List.getElem?_eq_getElem h]; rfl
theorem rep_str (c : Nat) (x : Str) : (List.replicate c [V.str x]).flatten = (List.replicate c x).map V.str := by
  induction c with
  | zero => rfl
  | succ n ih => rw [List.replicate_succ, List.flatten_cons, ih]; rfl
theorem rep0_of {K : PySem.W.Frag} {H : Hp} {l : Addr} {k : Int} {xs : List V} {Q : VK} (h : SqT K H l xs) (ne : xs ≠ []) (k0 : 0 ≤ k) (k1 : k ≤ 1000) (lx : xs.length ≤ 1000)
    (q : ∀ p H', Same H H' → SqT K H' p (List.replicate k.toNat xs).flatten → Q (.ref p) H') : rRepT0 K (.ref l) (.int k) H Q :=
  ⟨l, k, xs, rfl, rfl, h, ne, k0, k1, lx, fun e => q l H (Same.refl _) (by subst e; show SqT K H l (xs ++ []); rw [List.append_nil]; exact h), fun _ p hp => q p _ (Same.upd hp) (SqT.of upd_same)⟩
def spFirst (K : PySem.W.Frag) : Sp := fun vs H Q _ => ∃ (x : V) (S : PartsD) (c : Nat), vs = [x, .int c] ∧ Dp K H x (dParts S) ∧ PartsOk S ∧ c ≤ 1000 ∧ ∀ p H', Same H H' → H p = none → Dp K H' (.ref p) (dLS (firstL S c)) → Q (.ref p) H'
def spPlaceOf (K : PySem.W.Frag) : Sp := fun vs H Q _ => ∃ (x : V) (n : Str) (zs : List Str), vs = [x, .str n] ∧ Dp K H x (.list ([(n, zs)].map dVar)) ∧ Q (.int 0) H
def spAfter (K : PySem.W.Frag) : Sp := fun vs H Q _ => ∃ (x y : V) (r : RuleD) (ac : List Int) (k : Nat) (st : Str), vs = [x, y, .int k, .str st] ∧ Dp K H x (dRule r) ∧ Dp K H y (dInts ac) ∧ ac.length = r.actors.length ∧ r.actors.length ≤ 3 ∧ ∀ H', Same H H' → Q (.str (pafB r ac k st)) H'
def spActs (K : PySem.W.Frag) : Sp := fun vs H Q _ => ∃ (x y z : V) (S : PartsD) (s : LSt) (r : RuleD) (i : Nat) (ac : List Int), vs = [x, y, .int i, z] ∧ Dp K H x (dParts S) ∧ Dp K H y (dLS s) ∧ Dp K H z (dInts ac) ∧ S.rules[i]? = some r ∧ ac.length = r.actors.length ∧ r.actors.length ≤ 3 ∧
  s.vs.length = S.vars.length ∧ ValsOk S.vars r.conds ∧ ∀ H', Same H H' → Q (.bl (actsB s r ac)) H'
section
variable {P : Program} {w : World} {K : PySem.W.Frag} {mg : Str → Option Value} {base : Heap}
theorem c__law_first (T : Txt K mg) : Cal P w K mg base 1 "_law_first" (spFirst K) := by
  refine T.f_law_first.cal sc_law_first (fun _ _ _ _ _ _ us hl => match us, hl with | [_, _], _ => rfl) (fun vs H Q E h => ?_) (fun f cdv A outer s H vs Q E hr h => ?_)
  · obtain ⟨x, S, c, rfl, _⟩ := h
    rfl
  · obtain ⟨x, S, c, rfl, hx, ok, hc, q⟩ := h
    obtain ⟨p, xs, rfl, hp, hxs⟩ := Dp.tupI hx
    obtain ⟨u1, u2, u3, u4, u5, u6, rfl, e1, e2, e3, e4, e5, e6⟩ := DpAll.i6 hxs
    obtain rfl := Dp.strI e2
    have vl := vars_le ok
    refine ⟨_, (pss_cons (ps_asg (pv 0) (pg_tup rfl (pgs_cons (pg_name (i := 2) sc_law_first.nd rfl (Or.inl rfl)) (pgs_cons (pg_name (i := 3) sc_law_first.nd rfl (Or.inl rfl)) (pgs_cons (pg_name (i := 4) sc_law_first.nd rfl (Or.inl rfl)) (pgs_cons (pg_name (i := 5) sc_law_first.nd rfl (Or.inl rfl)) (pgs_cons (pg_name (i := 6) sc_law_first.nd rfl (Or.inl rfl)) (pgs_cons (pg_name (i := 7) sc_law_first.nd rfl (Or.inl rfl)) pgs_nil))))))))
  (pss_one (ps_ret (pe_tup (pa_cons (pe_op op_repT0 (pe_tup (pa_cons (pv 3) pa_nil)) (pv 1)) (pa_cons (pe_callTy call_tuple_of (by rfl) T.b_tuple PyB.boot_tuple (pa_cons (pe_lc (own := [("_law_pair", 8)]) (g := gName 8) rfl sc_law_first.nd (pi_list (pv 4)) (blkOk_by (own := [("_law_pair", 8)]) (N := nm_law_first) (sc := defScope s_law_first) (by decide +kernel)) (fun _ _ _ _ _ => (pg_name (i := 8) sc_law_first.nd rfl (Or.inl rfl))) (fun _ _ _ _ _ => pts_nil) (fun _ _ _ _ _ => (pe_ix (ix_listK K) (pe_ix (ix_tupK K) (pv 8) pe_int (fun _ _ => rfl)) pe_int (fun _ _ => rfl)))) pa_nil)) (pa_cons (pe_callTy call_tuple_of (by rfl) T.b_tuple PyB.boot_tuple (pa_cons (pe_lc (own := [("_law_pair", 8)]) (g := gName 8) rfl sc_law_first.nd (pi_list (pv 5)) (blkOk_by (own := [("_law_pair", 8)]) (N := nm_law_first) (sc := defScope s_law_first) (by decide +kernel)) (fun _ _ _ _ _ => (pg_name (i := 8) sc_law_first.nd rfl (Or.inl rfl))) (fun _ _ _ _ _ => pts_nil) (fun _ _ _ _ _ => (pe_tup pa_nil))) pa_nil)) pa_nil))))))), ?_⟩
    refine ⟨_, rfl, p, _, rfl, hp, rfl, _, _, rfl, _, _, rfl, _, _, rfl, _, _, rfl, _, _, rfl, _, _, rfl, rfl, ?_⟩
    refine ⟨_, rfl, by show 1 ≤ sizeLine; decide, fun t ht => ?_⟩
    have s1 : Same H (upd H t (.tup [.str S.start])) := Same.upd ht
    refine ⟨_, rfl, rep0_of (K := K) (k := (c : Int)) (SqT.of upd_same) (by simp) (by omega) (by omega) (by show 1 ≤ 1000; decide) (fun t2 H2 s2 h2 => ?_)⟩
    rw [Int.toNat_natCast, rep_str] at h2
    have s02 := s1.trans s2
    refine ⟨_, rfl, lc_dl (K := K) (vs := [8]) (Dp.same s02 e3) (by omega) (fun v => some (.str (v.2.headD ""))) ?_ ?_⟩
    · intro D hD i z v hv dz Hi R N s3 nD hR _
      obtain ⟨g, e, rfl, hg, he⟩ := Dp.varI dz
      have h0 : (v.2.map V.str)[0]? = some (V.str (v.2.headD "")) := by
        have : 2 ≤ v.2.length := by
          rcases ok.v1 with e | ⟨z, zs, e, _, _, h2, _⟩
          · rw [e] at hv; simp at hv
          · rw [e] at hv
            cases List.mem_singleton.mp (List.mem_of_getElem? hv)
            exact h2
        cases e : v.2 with
        | nil => rw [e] at this; simp at this
        | cons a r => rfl
      refine ⟨rfl, ?_⟩
      refine yesT ?_
      refine ⟨_, rfl, g, _, (1 : Int), _, rfl, rfl, Same.sqT s3 hg, at_of (z := (1 : Int)) (j := 1) rfl rfl, e, _, (0 : Int), _, rfl, rfl, s3.seq he, at_of (z := (0 : Int)) (j := 0) rfl h0, ?_⟩
      exact hR _ _ _ rfl (Same.refl _) (.str _)
    intro D H3 s3 hD d3
    rw [fm_map, map_map' (fun (v : Str × List Str) => v.2.headD "") PyData.str] at d3
    obtain ⟨_, ed, hd3⟩ := Dp.strsI d3
    cases ed
    refine ⟨D, _, rfl, .inl ⟨hd3, fun t4 ht4 => ?_⟩⟩
    have s4 := Same.upd (o := .tup ((S.vars.map fun v => v.2.headD "").map V.str)) ht4
    have h4 : (upd H3 t4 (.tup ((S.vars.map fun v => v.2.headD "").map V.str))) t4 = some (.tup ((S.vars.map fun v => v.2.headD "").map V.str)) := upd_same
    generalize upd H3 t4 (.tup ((S.vars.map fun v => v.2.headD "").map V.str)) = H4 at *
    have s04 := s02.trans (s3.trans s4)
    refine ⟨_, rfl, lc_dl (K := K) (vs := [8]) (l := ([] : List PyData)) (enc := fun d => d) (Dp.same s04 e4) (by decide) (fun d => some d) (fun D hD i z d hd' => by simp at hd') ?_⟩
    intro D5 H5 s5 hD5 d5
    obtain ⟨_, y5, e5', h5, hy5⟩ := Dp.lstI d5
    cases e5'
    cases hy5
    refine ⟨D5, _, rfl, .inl ⟨h5, fun t6 ht6 => ?_⟩⟩
    have s6 := Same.upd (o := .tup []) ht6
    refine ⟨by show 3 ≤ sizeLine; decide, fun t7 ht7 => ?_⟩
    have s7 := Same.upd (o := .tup [.ref t2, .ref t4, .ref t6]) ht7
    have s27 := s3.trans (s4.trans (s5.trans (s6.trans s7)))
    refine q t7 _ (s02.trans s27) ((s02.trans (s3.trans (s4.trans (s5.trans s6)))).free ht7) (.tup (SqT.of upd_same) (.cons (Dp.ofStrT (Same.sqT s27 h2)) (.cons (Dp.ofStrT (SqT.of ((s5.trans (s6.trans s7)) _ _ h4))) (.cons (.tup (SqT.of (s7 _ _ upd_same)) .nil) .nil))))
theorem c__law_place_of (T : Txt K mg) : Cal P w K mg base 1 "_law_place_of" (spPlaceOf K) := by
  refine T.f_law_place_of.cal sc_law_place_of (fun _ _ _ _ _ _ us hl => match us, hl with | [_, _], _ => rfl) (fun vs H Q E h => ?_) (fun f cdv A outer s H vs Q E hr h => ?_)
  · obtain ⟨x, n, zs, rfl, _⟩ := h
    rfl
  · obtain ⟨x, n, zs, rfl, hx, q⟩ := h
    obtain ⟨a, xs, rfl, ha, hxs⟩ := Dp.lstI hx
    obtain ⟨u, rfl, du⟩ := DpAll.i1 hxs
    obtain ⟨g, e, rfl, hg, he⟩ := Dp.varI du
    refine ⟨_, (pss_cons (ps_for PassesOwn.never rfl (pi_range1 rfl T.b_range (pa_cons (pe_callB call_len_seq (by rfl) T.b_len PyB.boot_len (pa_cons (pv 0) pa_nil)) pa_nil)) (pg_name (i := 2) sc_law_place_of.nd rfl (Or.inl rfl)) (pss_one (ps_if (pt_cmpR op_eq (pe_ix ix_tup (pe_ix ix_list (pv 0) (pv 2) (fun _ _ => rfl)) pe_int (fun _ _ => rfl)) (pv 1) (nomark _)) (pss_one (ps_ret (pv 2))) pss_nil)))
  (pss_one (ps_ret (pe_un un_neg pe_int)))), ?_⟩
    refine ⟨_, rfl, a, _, rfl, .inl ha, _, rfl, by show (-2 ^ 62 : Int) ≤ 1; decide, by show (1 : Int) < 2 ^ 62; decide, for_range (lo := 0) (n := 1) (fun i σ H' => ∃ v, σ = [some (.ref a), some (.str n), v] ∧ H = H' ∧ i = 0) ⟨none, rfl, rfl, rfl⟩ ?_ ?_⟩
    · rintro i σ _ hi ⟨v, rfl, rfl, rfl⟩
      refine ⟨_, rfl, _, rfl, a, _, (0 : Int), _, rfl, rfl, ha, at_of (z := (0 : Int)) (j := 0) rfl rfl, g, _, (0 : Int), _, rfl, rfl, hg, at_of (z := (0 : Int)) (j := 0) rfl rfl, _, rfl, rfl, _, rfl, ?_⟩
      refine ifT (by show decide (V.str n = V.str n) = true; exact decide_eq_true rfl) ?_
      exact ⟨_, rfl, q⟩
    · rintro σ _ ⟨v, rfl, rfl, e⟩
      cases e
theorem c__law_party_after (T : Txt K mg) : Cal P w K mg base 1 "_law_party_after" (spAfter K) := by
  refine T.f_law_party_after.cal sc_law_party_after (fun _ _ _ _ _ _ us hl => match us, hl with | [_, _, _, _], _ => rfl) (fun vs H Q E h => ?_) (fun f cdv A outer s H vs Q E hr h => ?_)
  · obtain ⟨x, y, r, ac, k, st, rfl, _⟩ := h
    rfl
  · obtain ⟨x, y, r, ac, k, st, rfl, hx, hy, hl, h3, q⟩ := h
    obtain ⟨g, xs, rfl, hg, hxs⟩ := Dp.tupI hx
    obtain ⟨w1, w2, w3, w4, w5, w6, w7, w8, rfl, f1, f2, f3, f4, f5, f6, f7, f8⟩ := DpAll.i8 hxs
    obtain ⟨b, rfl, hb⟩ := Dp.intsI hy
    refine ⟨_, (pss_cons (ps_if (pt_cmpR op_in_seq (pv 2) (pv 1) rfl) (pss_one (ps_ret (pe_ix ix_tup (pe_ix ix_list (pe_ix ix_tup (pv 0) pe_int (fun _ _ => rfl)) (pe_bm PySem.F.plainAttrs_list PySem.F.slot_list_index PySem.F.type_list_index mt_index (pe_callTy call_list_of (by rfl) T.b_list PyB.boot_list (pa_cons (pv 1) pa_nil)) (pa_cons (pv 2) pa_nil)) (fun _ _ => rfl)) pe_int (fun _ _ => rfl)))) pss_nil)
  (pss_cons (ps_for PassesOwn.never rfl (pi_list (pe_ix ix_tup (pv 0) pe_int (fun _ _ => rfl))) (pg_name (i := 4) sc_law_party_after.nd rfl (Or.inl rfl)) (pss_one (ps_if (pt_cmpR op_eq (pe_ix ix_tup (pv 4) pe_int (fun _ _ => rfl)) (pv 3) (nomark _)) (pss_one (ps_ret (pe_ix ix_tup (pv 4) pe_int (fun _ _ => rfl)))) pss_nil)))
  (pss_one (ps_ret (pv 3))))), ?_⟩
    refine ⟨_, rfl, _, rfl, b, _, rfl, .inr hb, rfl, flat_ints _, _, rfl, ?_⟩
    show if inV _ _ = true then _ else _
    rw [inV_int]
    by_cases hk : (k : Int) ∈ ac
    · refine ifT (decide_eq_true hk) ?_
      have e : pafB r ac k st = (r.actors.getD (ac.idxOf (k : Int)) ("", "")).2 := by unfold pafB; rw [if_pos hk]
      rw [e] at q
      have hj := List.idxOf_lt_length_of_mem hk
      have hget : ac[ac.idxOf (k : Int)]? = some (k : Int) := by rw [List.getElem?_eq_getElem hj, List.getElem_idxOf]
      obtain ⟨a2, x2, rfl, g2, k2⟩ := Dp.lstI f2
      obtain ⟨z, hz, dz⟩ := DpAll.getR k2 (getD_pr (ps := r.actors) (j := ac.idxOf (k : Int)) (by omega))
      obtain ⟨c, rfl, hc⟩ := Dp.prI dz
      refine ⟨_, rfl, g, _, (1 : Int), _, rfl, rfl, hg, at_of (z := (1 : Int)) (j := 1) rfl rfl, _, rfl, b, _, rfl, .inr hb, fun l hl' => ?_⟩
      have s1 := Same.upd (o := .lst (ac.map V.int)) hl'
      have h1 : (upd H l (.lst (ac.map V.int))) l = some (.lst (ac.map V.int)) := upd_same
      generalize upd H l (.lst (ac.map V.int)) = H1 at *
      refine ⟨.inl ⟨rfl, _, SqL.of h1⟩, _, rfl, l, _, _, ac.idxOf (k : Int), .int k, rfl, rfl, SqL.of h1, rfl, flat_ints _, by rw [List.getElem?_map, hget]; rfl, beq_self_eq_true (k : Int), fun m z' hm hz' => ?_, ?_⟩
      · obtain ⟨x, hx', rfl⟩ := map_get hz'
        refine beq_eq_false_iff_ne.mpr fun e => ?_
        subst e
        have := idx_min hx'
        omega
      refine ⟨a2, x2, _, .ref c, rfl, rfl, s1.seq g2, at_of (j := ac.idxOf (k : Int)) rfl hz, c, _, (1 : Int), _, rfl, rfl, Same.sqT s1 hc, at_of (z := (1 : Int)) (j := 1) rfl rfl, q _ s1⟩
    · refine ifF (decide_eq_false hk) ?_
      refine ⟨_, rfl, g, _, (2 : Int), _, rfl, rfl, hg, at_of (z := (2 : Int)) (j := 2) rfl rfl, for_dl (K := K) (l := r.everyone) (enc := dPr) f3 (fun i σ H' => ∃ v, σ = [some (.ref g), some (.ref b), some (.int (k : Nat)), some (.str st), v] ∧ H = H' ∧ (r.everyone.take i).find? (fun e => decide (e.1 = st)) = none)
        ⟨none, rfl, rfl, by rw [List.take_zero]; rfl⟩ (fun _ _ _ _ ⟨_, _, e, _⟩ => .inl (e ▸ Same.refl _)) ?_ ?_⟩
      · rintro i z e σ _ he dz ⟨v, rfl, rfl, hn⟩
        obtain ⟨c, rfl, hc⟩ := Dp.prI dz
        refine ⟨_, rfl, c, _, (0 : Int), _, rfl, rfl, hc, at_of (z := (0 : Int)) (j := 0) rfl rfl, _, rfl, rfl, _, rfl, ?_⟩
        show if decide (V.str _ = V.str _) = true then _ else _
        rw [dec_str]
        by_cases hs : e.1 = st
        · refine ifT (decide_eq_true hs) ?_
          have ef : pafB r ac k st = e.2 := by
            unfold pafB
            rw [if_neg hk]
            have : r.everyone.find? (fun e => decide (e.1 = st)) = some e := by
              have hlt := get_lt he
              rw [← List.take_append_drop i r.everyone, List.find?_append, hn, List.drop_eq_getElem_cons hlt]
              have ee : r.everyone[i] = e := by rw [List.getElem?_eq_getElem hlt] at he; exact Option.some.inj he
              rw [ee]
              rw [Option.none_or, List.find?_cons_of_pos (by exact decide_eq_true hs)]
            rw [this]
          rw [ef] at q
          exact ⟨_, rfl, c, _, (1 : Int), _, rfl, rfl, hc, at_of (z := (1 : Int)) (j := 1) rfl rfl, q _ (Same.refl _)⟩
        · refine ifF (decide_eq_false hs) ?_
          refine ⟨_, rfl, rfl, ?_⟩
          rw [take_snoc he, List.find?_append, hn]
          rw [Option.none_or, List.find?_cons_of_neg (by rw [decide_eq_false hs]; exact Bool.false_ne_true)]; rfl
      · rintro σ _ ⟨v, rfl, rfl, hn⟩
        rw [List.take_length] at hn
        have ef : pafB r ac k st = st := by
          unfold pafB
          rw [if_neg hk, hn]
        rw [ef] at q
        exact ⟨_, rfl, q _ (Same.refl _)⟩
end
end C62
set_option Elab.async false
set_option linter.all false
set_option maxRecDepth 100000
set_option maxHeartbeats 4000000
namespace C62
open PySem PySem.Spec PyProof.Rows L2
open He (ga ma)
section
variable {P : Program} {w : World} {K : PySem.W.Frag} {mg : Str → Option Value} {base : Heap}
theorem c__law_acts (T : Txt K mg) : Cal P w K mg base 2 "_law_acts" (spActs K) := by
  refine T.f_law_acts.cal sc_law_acts (fun _ _ _ _ _ _ us hl => match us, hl with | [_, _, _, _], _ => rfl) (fun vs H Q E h => ?_) (fun f cdv A outer s H vs Q E hr h => ?_)
  · obtain ⟨x, y, z, S, s, r, i, ac, rfl, _⟩ := h
    rfl
  · obtain ⟨x, y, z, S, s, r, i, ac, rfl, hx, hy, hz, hri, hl, h3, hsv, hco, q⟩ := h
    obtain ⟨p, xs, rfl, hp, hxs⟩ := Dp.tupI hx
    obtain ⟨u1, u2, u3, u4, u5, u6, rfl, e1, e2, e3, e4, e5, e6⟩ := DpAll.i6 hxs
    obtain ⟨gs, ys, rfl, hgs, hys⟩ := Dp.tupI hy
    obtain ⟨v1, v2, v3, rfl, k1, k2, k3⟩ := DpAll.i3 hys
    obtain ⟨ap, rfl, hap⟩ := Dp.strTI k1
    obtain ⟨av, rfl, hav⟩ := Dp.strTI k2
    obtain ⟨b, rfl, hb⟩ := Dp.intsI hz
    obtain ⟨ar, xr, rfl, har, hxr⟩ := Dp.lstI e5
    have lxr := DpAll.mapLen hxr
    have hilt := get_lt hri
    obtain ⟨zr, hzr, dzr⟩ := DpAll.getR hxr (i := i) (d := dRule r) (by rw [List.getElem?_map, hri]; rfl)
    obtain ⟨g, x2, rfl, hg, hx2⟩ := Dp.tupI dzr
    obtain ⟨w1, w2, w3, w4, w5, w6, w7, w8, rfl, f1, f2, f3, f4, f5, f6, f7, f8⟩ := DpAll.i8 hx2
    obtain ⟨aa, xa, rfl, haa, hxa⟩ := Dp.lstI f2
    have lxa := DpAll.mapLen hxa
    have lac : (ac.map V.int).length = ac.length := List.length_map ..
    refine ⟨_, (pss_cons (ps_asg (pv 1) (pg_tup rfl (pgs_cons (pg_name (i := 4) sc_law_acts.nd rfl (Or.inl rfl)) (pgs_cons (pg_name (i := 5) sc_law_acts.nd rfl (Or.inl rfl)) (pgs_cons (pg_name (i := 6) sc_law_acts.nd rfl (Or.inl rfl)) pgs_nil)))))
  (pss_cons (ps_if (PW.pt (pw_or (pt_cmpR op_lt (pv 2) pe_int (nomark _)) (pw_or1 (pt_cmpR op_ge (pv 2) (pe_callB call_len_seq (by rfl) T.b_len PyB.boot_len (pa_cons (pe_ix ix_tup (pv 0) pe_int (fun _ _ => rfl)) pa_nil)) (nomark _))))) (pss_one (ps_ret pe_bl)) pss_nil)
  (pss_cons (ps_set (i := 7) sc_law_acts.nd rfl (Or.inl rfl) (pe_ix ix_list (pe_ix ix_tup (pv 0) pe_int (fun _ _ => rfl)) (pv 2) (fun _ _ => rfl)))
  (pss_cons (ps_if (PW.pt (pw_or (pt_cmpR op_ne (pe_callB call_len_seq (by rfl) T.b_len PyB.boot_len (pa_cons (pv 3) pa_nil)) (pe_callB call_len_seq (by rfl) T.b_len PyB.boot_len (pa_cons (pe_ix ix_tup (pv 7) pe_int (fun _ _ => rfl)) pa_nil)) (nomark _)) (pw_or1 (pt_cmpR op_ne (pe_lenSetI rfl (by rfl) T.b_len (by rfl) T.b_set (pv 3)) (pe_callB call_len_seq (by rfl) T.b_len PyB.boot_len (pa_cons (pv 3) pa_nil)) (nomark _))))) (pss_one (ps_ret pe_bl)) pss_nil)
  (pss_cons (ps_for PassesOwn.never rfl (pi_range1 rfl T.b_range (pa_cons (pe_callB call_len_seq (by rfl) T.b_len PyB.boot_len (pa_cons (pv 3) pa_nil)) pa_nil)) (pg_name (i := 8) sc_law_acts.nd rfl (Or.inl rfl)) (pss_one (ps_if (PW.pt (pw_or (pt_cmpR op_lt (pe_ix ix_tup (pv 3) (pv 8) (fun _ _ => rfl)) pe_int (nomark _)) (pw_or (pt_cmpR op_ge (pe_ix ix_tup (pv 3) (pv 8) (fun _ _ => rfl)) (pe_callB call_len_seq (by rfl) T.b_len PyB.boot_len (pa_cons (pv 4) pa_nil)) (nomark _)) (pw_or1 (pt_cmpR op_ne (pe_ix ix_tup (pv 4) (pe_ix ix_tup (pv 3) (pv 8) (fun _ _ => rfl)) (fun _ _ => rfl)) (pe_ix ix_tup (pe_ix ix_list (pe_ix ix_tup (pv 7) pe_int (fun _ _ => rfl)) (pv 8) (fun _ _ => rfl)) pe_int (fun _ _ => rfl)) (nomark _)))))) (pss_one (ps_ret pe_bl)) pss_nil)))
  (pss_cons (ps_for PassesOwn.never rfl (pi_list (pe_ix ix_tup (pv 7) pe_int (fun _ _ => rfl))) (pg_name (i := 9) sc_law_acts.nd rfl (Or.inl rfl)) (pss_one (ps_if (pt_cmpR op_ne (pe_ix ix_tup (pv 5) (pe_c (c__law_place_of T) hr (by decide) (by rfl) (pa_cons (pe_ix ix_tup (pv 0) pe_int (fun _ _ => rfl)) (pa_cons (pe_ix ix_tup (pv 9) pe_int (fun _ _ => rfl)) pa_nil))) (fun _ _ => rfl)) (pe_ix ix_tup (pv 9) pe_int (fun _ _ => rfl)) (nomark _)) (pss_one (ps_ret pe_bl)) pss_nil)))
  (pss_cons (ps_for PassesOwn.never rfl (pi_list (pe_ix ix_tup (pv 7) pe_int (fun _ _ => rfl))) (pg_name (i := 9) sc_law_acts.nd rfl (Or.inl rfl)) pss_never)
  (pss_one (ps_ret pe_bl))))))))), ?_⟩
    refine ⟨_, rfl, gs, _, rfl, hgs, rfl, _, _, rfl, _, _, rfl, _, _, rfl, rfl, ?_⟩
    refine ⟨_, rfl, _, _, rfl, rfl, _, rfl, ?_⟩
    refine ifF (decide_eq_false (by omega)) ?_
    refine ⟨_, rfl, _, rfl, p, _, (4 : Int), _, rfl, rfl, hp, at_of (z := (4 : Int)) (j := 4) rfl rfl, ar, _, rfl, .inl har, _, _, rfl, rfl, _, rfl, ?_⟩
    refine ifF (decide_eq_false (by omega)) ?_
    refine ⟨_, rfl, p, _, (4 : Int), _, rfl, rfl, hp, at_of (z := (4 : Int)) (j := 4) rfl rfl, _, rfl, ar, _, _, .ref g, rfl, rfl, har, at_of (j := i) rfl hzr, ?_⟩
    -- the numbers
    refine ⟨_, rfl, b, _, rfl, .inr hb, _, rfl, g, _, (1 : Int), _, rfl, rfl, hg, at_of (z := (1 : Int)) (j := 1) rfl rfl, aa, _, rfl, .inl haa, rfl, _, rfl, ?_⟩
    refine ifF (by show (!decide (V.int _ = V.int _)) = false; rw [dec_int, decide_eq_true (by omega)]; rfl) ?_
    refine ⟨_, rfl, b, ac, rfl, hb, by omega, fun m hm => ⟨_, rfl, b, _, rfl, .inr hb, rfl, _, rfl, ?_⟩⟩
    show if (!decide (V.int _ = V.int _)) = true then _ else _
    rw [dec_int, lac]
    by_cases hnd : ¬ ac.Nodup
    · refine ifT (by rw [decide_eq_false (fun e => hnd (hm.mp (by omega)))]; rfl) ?_
      have : actsB s r ac = false := by unfold actsB; rw [decide_eq_false hnd, Bool.false_and]
      rw [this] at q
      exact q _ (Same.refl _)
    have hnd := Classical.not_not.mp hnd
    refine ifF (by rw [decide_eq_true (by rw [hm.mpr hnd])]; rfl) ?_
    -- the acting ones
    refine ⟨_, rfl, b, _, rfl, .inr hb, _, rfl, by omega, by omega, for_range (lo := 0) (fun k σ H' => ∃ v, σ = [some (.ref p), some (.ref gs), some (.int (i : Nat)), some (.ref b), some (.ref ap), some (.ref av), some v3, some (.ref g), v, none] ∧ H = H' ∧ ∀ j, j < k → actK s r ac j = true)
      ⟨none, rfl, rfl, fun j hj => absurd hj (Nat.not_lt_zero _)⟩ ?_ ?_⟩
    · rintro k σ _ hk ⟨v, rfl, rfl, hall⟩
      have hk' : k < ac.length := by omega
      have bad : actK s r ac k = false → actsB s r ac = false := fun hb => by
        unfold actsB
        have : (List.range ac.length).all (actK s r ac) = false := by
          rw [List.all_eq_false]
          exact ⟨k, List.mem_range.mpr hk', by rw [hb]; exact Bool.false_ne_true⟩
        rw [this, Bool.false_and, Bool.and_false]
      refine ⟨_, rfl, _, rfl, b, _, _, _, rfl, rfl, hb, at_of (j := k) (by omega) (getD_int hk'), _, _, rfl, rfl, _, rfl, ?_⟩
      by_cases c1 : ac.getD k 0 < 0
      · refine ifT (decide_eq_true c1) ?_
        have : actK s r ac k = false := by unfold actK; rw [decide_eq_false (by omega), Bool.false_and]
        rw [bad this] at q
        exact q _ (Same.refl _)
      refine ifF (decide_eq_false c1) ?_
      refine ⟨_, rfl, _, rfl, b, _, _, _, rfl, rfl, hb, at_of (j := k) (by omega) (getD_int hk'), _, rfl, ap, _, rfl, .inr hap, _, _, rfl, rfl, _, rfl, ?_⟩
      rw [List.length_map]
      by_cases c2 : ac.getD k 0 ≥ (s.ps.length : Int)
      · refine ifT (decide_eq_true c2) ?_
        have : actK s r ac k = false := by unfold actK; rw [decide_eq_false (p := ac.getD k 0 < s.ps.length) (by omega), Bool.false_and, Bool.and_false]
        rw [bad this] at q
        exact q _ (Same.refl _)
      refine ifF (decide_eq_false c2) ?_
      have hkn : ac.getD k 0 = ((ac.getD k 0).toNat : Int) := by omega
      have hkl : (ac.getD k 0).toNat < s.ps.length := by omega
      obtain ⟨z, hz, dz⟩ := DpAll.getR hxa (getD_pr (ps := r.actors) (j := k) (by omega))
      obtain ⟨c, rfl, hc⟩ := Dp.prI dz
      refine ⟨_, rfl, _, rfl, _, rfl, b, _, _, _, rfl, rfl, hb, at_of (j := k) (by omega) (getD_int hk'), ap, _, _, _, rfl, rfl, hap, at_of (j := (ac.getD k 0).toNat) hkn (getD_str hkl), ?_⟩
      refine ⟨_, rfl, g, _, (1 : Int), _, rfl, rfl, hg, at_of (z := (1 : Int)) (j := 1) rfl rfl, _, rfl, aa, _, _, .ref c, rfl, rfl, haa, at_of (j := k) (by omega) hz, c, _, (0 : Int), _, rfl, rfl, hc, at_of (z := (0 : Int)) (j := 0) rfl rfl, rfl, _, rfl, ?_⟩
      show if (!decide (V.str _ = V.str _)) = true then _ else _
      rw [dec_str]
      by_cases c3 : s.ps.getD (ac.getD k 0).toNat "" = (r.actors.getD k ("", "")).1
      · refine ifF (by rw [decide_eq_true c3]; rfl) ?_
        refine ⟨_, rfl, rfl, fun j hj => ?_⟩
        by_cases e : j = k
        · subst e
          unfold actK
          rw [decide_eq_true c3, decide_eq_true (p := ac.getD j 0 < s.ps.length) (by omega), decide_eq_true (p := 0 ≤ ac.getD j 0) (by omega)]; rfl
        · exact hall j (by omega)
      · refine ifT (by rw [decide_eq_false c3]; rfl) ?_
        have : actK s r ac k = false := by unfold actK; rw [decide_eq_false c3, Bool.and_false, Bool.and_false]
        rw [bad this] at q
        exact q _ (Same.refl _)
    rintro σ _ ⟨v, rfl, rfl, hall⟩
    rw [Int.toNat_natCast, lac] at hall
    have hall' : (List.range ac.length).all (actK s r ac) = true := List.all_eq_true.mpr fun k hk => hall k (List.mem_range.mp hk)
    -- the conditions
    refine ⟨_, rfl, g, _, (4 : Int), _, rfl, rfl, hg, at_of (z := (4 : Int)) (j := 4) rfl rfl, for_dl (K := K) (l := r.conds) (enc := dPr) f5 (fun k σ H' => ∃ v9, σ = [some (.ref p), some (.ref gs), some (.int (i : Nat)), some (.ref b), some (.ref ap), some (.ref av), some v3, some (.ref g), v, v9] ∧ H = H' ∧ (r.conds.take k).all (fun p => decide (s.vs.getD 0 "" = p.2)) = true)
      ⟨none, rfl, rfl, by rw [List.take_zero]; rfl⟩ (fun _ _ _ _ ⟨_, _, e, _⟩ => .inl (e ▸ Same.refl _)) ?_ ?_⟩
    · rintro k zz pr σ _ hpr dz ⟨v9, rfl, rfl, hc9⟩
      obtain ⟨c, rfl, hc⟩ := Dp.prI dz
      obtain ⟨zs, ev, hzs⟩ := hco.at_ pr (List.mem_of_getElem? hpr)
      have lv1 : 0 < s.vs.length := by rw [hsv, ev]; exact Nat.one_pos
      refine ⟨_, rfl, _, rfl, p, _, (2 : Int), _, rfl, rfl, hp, at_of (z := (2 : Int)) (j := 2) rfl rfl, _, rfl, c, _, (0 : Int), _, rfl, rfl, hc, at_of (z := (0 : Int)) (j := 0) rfl rfl, ?_⟩
      refine ⟨u3, pr.1, zs, rfl, by rw [← ev]; exact e3, av, _, (0 : Int), _, rfl, rfl, hav, at_of (z := (0 : Int)) (j := 0) rfl (getD_str lv1), ?_⟩
      refine ⟨_, rfl, c, _, (1 : Int), _, rfl, rfl, hc, at_of (z := (1 : Int)) (j := 1) rfl rfl, rfl, _, rfl, ?_⟩
      show if (!decide (V.str _ = V.str _)) = true then _ else _
      rw [dec_str]
      by_cases c4 : s.vs.getD 0 "" = pr.2
      · refine ifF (by rw [decide_eq_true c4]; rfl) ?_
        refine ⟨_, rfl, rfl, ?_⟩
        rw [take_snoc hpr, List.all_append, hc9]
        show (true && (decide _ && true)) = true
        rw [decide_eq_true c4]; rfl
      · refine ifT (by rw [decide_eq_false c4]; rfl) ?_
        have : actsB s r ac = false := by
          unfold actsB
          have : r.conds.all (fun p => decide (s.vs.getD 0 "" = p.2)) = false := by
            rw [List.all_eq_false]
            exact ⟨pr, List.mem_of_getElem? hpr, by rw [decide_eq_false c4]; exact Bool.false_ne_true⟩
          rw [this, Bool.and_false, Bool.and_false]
        rw [this] at q
        exact q _ (Same.refl _)
    rintro σ _ ⟨v9, rfl, rfl, hc9⟩
    rw [List.take_length] at hc9
    -- no letters
    refine ⟨_, rfl, g, _, (6 : Int), _, rfl, rfl, hg, at_of (z := (6 : Int)) (j := 6) rfl rfl, for_dl (K := K) (l := ([] : List PyData)) (enc := fun d => d) f7 (fun k σ H' => σ = [some (.ref p), some (.ref gs), some (.int (i : Nat)), some (.ref b), some (.ref ap), some (.ref av), some v3, some (.ref g), v, v9] ∧ H = H') ⟨rfl, rfl⟩ (fun _ _ _ _ ⟨_, e⟩ => .inl (e ▸ Same.refl _)) (fun k y' b σ H' hb => by simp at hb) ?_⟩
    rintro σ _ ⟨rfl, rfl⟩
    have : actsB s r ac = true := by unfold actsB; rw [decide_eq_true hnd, hall', hc9]; rfl
    rw [this] at q
    exact q _ (Same.refl _)
end
end C62
set_option Elab.async false
set_option linter.all false
set_option maxRecDepth 100000
set_option maxHeartbeats 4000000
namespace C62
open PySem PySem.Spec PyProof.Rows L2
open He (ga ma)
def setV (vs : List Str) (p : Pr) : List Str := vs.set 0 p.2
def foundL (s : LSt) (r : RuleD) (ac : List Int) : List Str := (List.range s.ps.length).map fun k => pafB r ac k (s.ps.getD k "")
def stepL (s : LSt) (r : RuleD) (ac : List Int) : LSt := ⟨(foundL s r ac).filter (fun z => !decide (z = ("gone" : Str))) ++ r.born, r.effs.foldl setV s.vs⟩
theorem setV_len : ∀ (l : List Pr) (vs : List Str), (l.foldl setV vs).length = vs.length
  | [], _ => rfl
  | p :: l, vs => by rw [List.foldl_cons, setV_len l]; exact List.length_set
abbrev dAct (i : Nat) (ac : List Int) : PyData := .tuple [.str "act", .int (i : Nat), dInts ac]
def spStep (K : PySem.W.Frag) : Sp := fun vs H Q _ => ∃ (x y z : V) (S : PartsD) (s : LSt) (r : RuleD) (i : Nat) (ac : List Int), vs = [x, y, z] ∧ Dp K H x (dParts S) ∧ Dp K H y (dLS s) ∧ Dp K H z (dAct i ac) ∧ S.rules[i]? = some r ∧ ac.length = r.actors.length ∧
  RuleOk S.states S.vars r ∧ s.vs.length = S.vars.length ∧ s.ps.length ≤ 500 ∧ (actsB s r ac = false → ∀ H', Same H H' → Q .non H') ∧ (actsB s r ac = true → ∀ p H', Same H H' → H p = none → Dp K H' (.ref p) (dLS (stepL s r ac)) → Q (.ref p) H')
theorem map_set_str {g : List Str} {j : Nat} {z : Str} : (g.map V.str).set j (.str z) = (g.set j z).map V.str := (List.map_set ..).symm
section
variable {P : Program} {w : World} {K : PySem.W.Frag} {mg : Str → Option Value} {base : Heap}
theorem c__law_step (T : Txt K mg) : Cal P w K mg base 3 "_law_step" (spStep K) := by
  refine T.f_law_step.cal sc_law_step (fun _ _ _ _ _ _ us hl => match us, hl with | [_, _, _], _ => rfl) (fun vs H Q E h => ?_) (fun f cdv A outer s H vs Q E hr h => ?_)
  · obtain ⟨x, y, z, S, s, r, i, ac, rfl, _⟩ := h
    rfl
  · obtain ⟨x, y, z, S, s, r, i, ac, rfl, hx, hy, hz, hri, hl, ro, hsv, h500, qf, qt⟩ := h
    obtain ⟨p, xs, rfl, hp, hxs⟩ := Dp.tupI hx
    obtain ⟨u1, u2, u3, u4, u5, u6, rfl, e1, e2, e3, e4, e5, e6⟩ := DpAll.i6 hxs
    obtain ⟨gs, ys, rfl, hgs, hys⟩ := Dp.tupI hy
    obtain ⟨v1, v2, v3, rfl, k1, k2, k3⟩ := DpAll.i3 hys
    obtain ⟨ap, rfl, hap⟩ := Dp.strTI k1
    obtain ⟨av, rfl, hav⟩ := Dp.strTI k2
    obtain ⟨aw, xw, rfl, haw, hxw⟩ := Dp.tupI k3
    cases hxw
    obtain ⟨gz, zs, rfl, hgz, hzs⟩ := Dp.tupI hz
    obtain ⟨z1, z2, z3, rfl, j1, j2, j3⟩ := DpAll.i3 hzs
    obtain rfl := Dp.strI j1
    obtain rfl := Dp.intI j2
    obtain ⟨ar, xr, rfl, har, hxr⟩ := Dp.lstI e5
    have lxr := DpAll.mapLen hxr
    have hilt := get_lt hri
    obtain ⟨zr, hzr, dzr⟩ := DpAll.getR hxr (i := i) (d := dRule r) (by rw [List.getElem?_map, hri]; rfl)
    obtain ⟨g, x2, rfl, hg, hx2⟩ := Dp.tupI dzr
    obtain ⟨w1, w2, w3, w4, w5, w6, w7, w8, rfl, f1, f2, f3, f4, f5, f6, f7, f8⟩ := DpAll.i8 hx2
    obtain ⟨ab, rfl, hab⟩ := Dp.strsI f4
    have b2 := ro.bl
    have a3 := ro.a3
    have c2 := vals_le1 ro.ef
    refine ⟨_, (pss_cons (ps_asg (pv 1) (pg_tup rfl (pgs_cons (pg_name (i := 3) sc_law_step.nd rfl (Or.inr rfl)) (pgs_cons (pg_name (i := 4) sc_law_step.nd rfl (Or.inl rfl)) (pgs_cons (pg_name (i := 5) sc_law_step.nd rfl (Or.inl rfl)) pgs_nil)))))
  (pss_cons (ps_if (pt_cmpR op_eq (pe_ix ix_tup (pv 2) pe_int (fun _ _ => rfl)) pe_str (nomark _)) pss_never pss_nil)
  (pss_cons (ps_if (pt_not (pt_val (pe_c (c__law_acts T) hr (by decide) (by rfl) (pa_cons (pv 0) (pa_cons (pv 1) (pa_cons (pe_ix ix_tup (pv 2) pe_int (fun _ _ => rfl)) (pa_cons (pe_ix ix_tup (pv 2) pe_int (fun _ _ => rfl)) pa_nil))))))) (pss_one (ps_ret pe_non)) pss_nil)
  (pss_cons (ps_set (i := 7) sc_law_step.nd rfl (Or.inr rfl) (pe_ix ix_list (pe_ix ix_tup (pv 0) pe_int (fun _ _ => rfl)) (pe_ix ix_tup (pv 2) pe_int (fun _ _ => rfl)) (fun _ _ => rfl)))
  (pss_cons (ps_setLc (i := 8) (own := [("_law_k", 11)]) (g := gName 11) rfl sc_law_step.nd rfl rfl (sw_true rfl rfl rfl (by decide +kernel)) (pi_range1 rfl T.b_range (pa_cons (pe_callB call_len_seq (by rfl) T.b_len PyB.boot_len (pa_cons (pv 3) pa_nil)) pa_nil)) (blkOk_by (own := [("_law_k", 11)]) (N := nm_law_step) (sc := defScope s_law_step) (by decide +kernel)) (fun _ _ _ _ _ => (pg_name (i := 11) sc_law_step.nd rfl (Or.inl rfl))) (fun _ _ _ _ _ => pts_nil) (fun _ _ _ _ _ => (pe_c (c__law_party_after T) hr (by decide) (by rfl) (pa_cons (pv 7) (pa_cons (pe_ix (ix_tupK K) (pv 2) pe_int (fun _ _ => rfl)) (pa_cons (pv 11) (pa_cons (pe_ix (ix_tupK K) (pv 3) (pv 11) (fun _ _ => rfl)) pa_nil)))))))
  (pss_cons (ps_set (i := 8) sc_law_step.nd rfl (Or.inl rfl) (pe_op op_cat (pe_lc (own := [("_law_party", 13)]) (g := gName 13) rfl sc_law_step.nd (pi_list (pv 8)) (blkOk_by (own := [("_law_party", 13)]) (N := nm_law_step) (sc := defScope s_law_step) (by decide +kernel)) (fun _ _ _ _ _ => (pg_name (i := 13) sc_law_step.nd rfl (Or.inl rfl))) (fun _ _ _ _ _ => pts_one (pt_cmpR op_ne (pv 13) pe_str (nomark _))) (fun _ _ _ _ _ => (pv 13))) (pe_callTy call_list_of (by rfl) T.b_list PyB.boot_list (pa_cons (pe_ix ix_tup (pv 7) pe_int (fun _ _ => rfl)) pa_nil))))
  (pss_cons (ps_set (i := 9) sc_law_step.nd rfl (Or.inl rfl) (pe_callTy call_list_of (by rfl) T.b_list PyB.boot_list (pa_cons (pv 4) pa_nil)))
  (pss_cons (ps_for PassesOwn.never rfl (pi_list (pe_ix ix_tup (pv 7) pe_int (fun _ _ => rfl))) (pg_name (i := 10) sc_law_step.nd rfl (Or.inl rfl)) (pss_cons (ps_set (i := 11) sc_law_step.nd rfl (Or.inl rfl) (pe_c (c__law_place_of T) hr (by decide) (by rfl) (pa_cons (pe_ix ix_tup (pv 0) pe_int (fun _ _ => rfl)) (pa_cons (pe_ix ix_tup (pv 10) pe_int (fun _ _ => rfl)) pa_nil))))
  (pss_one (ps_asg (pe_ix ix_tup (pv 10) pe_int (fun _ _ => rfl)) (pg_sub (pv 9) (pv 11) set_list)))))
  (pss_cons (ps_set (i := 12) sc_law_step.nd rfl (Or.inl rfl) (pe_callTy call_list_of (by rfl) T.b_list PyB.boot_list (pa_cons (pv 5) pa_nil)))
  (pss_cons (ps_for PassesOwn.never rfl (pi_list (pe_ix ix_tup (pv 7) pe_int (fun _ _ => rfl))) (pg_name (i := 10) sc_law_step.nd rfl (Or.inl rfl)) pss_never)
  (pss_cons (ps_for PassesOwn.never rfl (pi_list (pe_ix ix_tup (pv 7) pe_int (fun _ _ => rfl))) (pg_name (i := 10) sc_law_step.nd rfl (Or.inl rfl)) pss_never)
  (pss_one (ps_ret (pe_tup (pa_cons (pe_callTy call_tuple_of (by rfl) T.b_tuple PyB.boot_tuple (pa_cons (pv 8) pa_nil)) (pa_cons (pe_callTy call_tuple_of (by rfl) T.b_tuple PyB.boot_tuple (pa_cons (pv 9) pa_nil)) (pa_cons (pe_callTy call_tuple_of (by rfl) T.b_tuple PyB.boot_tuple (pa_cons (pv 12) pa_nil)) pa_nil))))))))))))))))), ?_⟩
    refine ⟨_, rfl, gs, _, rfl, hgs, rfl, _, _, rfl, _, _, rfl, _, _, rfl, rfl, ?_⟩
    refine ⟨_, rfl, gz, _, (0 : Int), _, rfl, rfl, hgz, at_of (z := (0 : Int)) (j := 0) rfl rfl, rfl, _, rfl, ?_⟩
    refine ifF (by decide +kernel) ?_
    -- acts
    refine ⟨_, rfl, _, rfl, _, rfl, gz, _, (1 : Int), _, rfl, rfl, hgz, at_of (z := (1 : Int)) (j := 1) rfl rfl, _, rfl, gz, _, (2 : Int), _, rfl, rfl, hgz, at_of (z := (2 : Int)) (j := 2) rfl rfl, ?_⟩
    refine ⟨_, _, _, S, s, r, i, ac, rfl, hx, hy, j3, hri, hl, a3, hsv, ro.co, fun H1 s1 => ⟨_, rfl, ?_⟩⟩
    cases hac : actsB s r ac with
    | false =>
      refine ifT rfl ?_
      exact qf hac _ s1
    | true =>
      refine ifF rfl ?_
      have q := qt hac
      refine ⟨_, rfl, p, _, (4 : Int), _, rfl, rfl, Same.sqT s1 hp, at_of (z := (4 : Int)) (j := 4) rfl rfl, _, rfl, gz, _, (1 : Int), _, rfl, rfl, Same.sqT s1 hgz, at_of (z := (1 : Int)) (j := 1) rfl rfl, ar, _, _, .ref g, rfl, rfl, s1.seq har, at_of (j := i) rfl hzr, ?_⟩
      -- found
      refine ⟨_, rfl, ap, _, rfl, .inr (Same.sqT s1 hap), _, rfl, by rw [List.length_map]; omega, by rw [List.length_map]; omega, ?_⟩
      rw [List.length_map, Int.toNat_natCast]
      refine lc_rg (K := K) (vs := [11]) (n := s.ps.length) (by omega) (fun k => some (.str (pafB r ac k (s.ps.getD k "")))) ?_ ?_
      · intro D hD k hk Hi R N s2 nD hR _
        have s12 := s1.trans s2
        refine ⟨rfl, ?_⟩
        refine yesT ?_
        refine ⟨_, rfl, _, rfl, gz, _, (2 : Int), _, rfl, rfl, Same.sqT s12 hgz, at_of (z := (2 : Int)) (j := 2) rfl rfl, _, rfl, _, rfl, _, rfl, ap, _, _, _, rfl, rfl, Same.sqT s12 hap, at_of (j := k) (by omega) (getD_str hk), ?_⟩
        refine ⟨.ref g, z3, r, ac, k, s.ps.getD k "", (by rw [Int.zero_add]; rfl), Dp.same s12 dzr, Dp.same s12 j3, hl, a3, fun H5 s5 => ?_⟩
        exact hR _ _ _ rfl s5 (.str _)
      intro D H2 s2 hD d2
      rw [fm_map, map_map' (fun (k : Nat) => pafB r ac k (s.ps.getD k "")) PyData.str] at d2
      have s12 := s1.trans s2
      have lfo : (foundL s r ac).length = s.ps.length := by unfold foundL; rw [List.length_map, List.length_range]
      rw [show (List.range s.ps.length).map (fun (k : Nat) => pafB r ac k (s.ps.getD k "")) = foundL s r ac from rfl] at d2
      -- without gone, and born
      refine ⟨_, rfl, lc_dlG (K := K) (vs := [13]) d2 (by omega) (fun x => if (!decide (x = ("gone" : Str))) = true then some (.str x) else none) ?_ ?_⟩
      · intro D' hD' k z x hx' dz Hi R N s3 nD hR hN
        obtain rfl := Dp.strI dz
        refine ⟨rfl, ?_⟩
        refine ⟨_, rfl, rfl, _, rfl, ?_⟩
        by_cases hgn : x = ("gone" : Str)
        · exact ifF (by rw [hgn]; rfl) (hN _ (if_neg (by rw [hgn]; decide)) (Same.refl _))
        · refine ifT (by rw [dec_str, decide_eq_false hgn]; rfl) ?_
          exact ⟨_, rfl, hR _ _ _ (if_pos (by rw [decide_eq_false hgn]; rfl)) (Same.refl _) (.str _)⟩
      intro D3 H3 G3 hD3
      rw [fm_if (fun (x : Str) => PyData.str x) (fun x => !decide (x = ("gone" : Str)))] at G3
      obtain ⟨s3, acc3, hacc3, _, dacc3⟩ := G3
      obtain rfl := DpAll.strs dacc3
      have s13 := s12.trans s3
      refine ⟨_, rfl, g, _, (3 : Int), _, rfl, rfl, Same.sqT s13 hg, at_of (z := (3 : Int)) (j := 3) rfl rfl, ab, _, rfl, .inl (s13.seq hab), fun l hl' => ?_⟩
      have s4 := Same.upd (o := .lst (r.born.map V.str)) hl'
      have h4 : (upd H3 l (.lst (r.born.map V.str))) l = some (.lst (r.born.map V.str)) := upd_same
      generalize upd H3 l (.lst (r.born.map V.str)) = H4 at *
      have lff : ((foundL s r ac).filter (fun z => !decide (z = ("gone" : Str)))).length ≤ 500 := Nat.le_trans (List.length_filter_le _ _) (by omega)
      refine ⟨D3, l, _, _, rfl, rfl, s4 _ _ hacc3, h4, Nat.le_of_lt (small1000 (by rw [List.length_map, List.length_map]; omega)), fun pf hpf => ?_⟩
      rw [← List.map_append]
      have s5 := Same.upd (o := .lst (((foundL s r ac).filter (fun z => !decide (z = ("gone" : Str))) ++ r.born).map V.str)) hpf
      have h5 : (upd H4 pf (.lst (((foundL s r ac).filter (fun z => !decide (z = ("gone" : Str))) ++ r.born).map V.str))) pf = some (.lst (((foundL s r ac).filter (fun z => !decide (z = ("gone" : Str))) ++ r.born).map V.str)) := upd_same
      generalize upd H4 pf (.lst (((foundL s r ac).filter (fun z => !decide (z = ("gone" : Str))) ++ r.born).map V.str)) = H5 at *
      have s15 := s13.trans (s4.trans s5)
      -- after
      refine ⟨_, rfl, av, _, rfl, .inr (Same.sqT s15 hav), fun la hla => ?_⟩
      have la0 := s15.free hla
      have s6 := Same.upd (o := .lst (s.vs.map V.str)) hla
      have h6 : (upd H5 la (.lst (s.vs.map V.str))) la = some (.lst (s.vs.map V.str)) := upd_same
      have h6' := s6 _ _ h5
      have npl : pf ≠ la := fun e => by rw [← e, h5] at hla; cases hla
      generalize upd H5 la (.lst (s.vs.map V.str)) = H6 at *
      have s16 := s15.trans s6
      refine ⟨_, rfl, g, _, (5 : Int), _, rfl, rfl, Same.sqT s16 hg, at_of (z := (5 : Int)) (j := 5) rfl rfl, for_dlS (K := K) (l := r.effs) (enc := dPr) f6 (fun k σ H' => ∃ v10 v11 : Option V, σ = [some (.ref p), some (.ref gs), some (.ref gz), some (.ref ap), some (.ref av), some (.ref aw), none, some (.ref g), some (.ref pf), some (.ref la), v10, v11, none, none] ∧ Same H H' ∧
        H' pf = some (.lst (((foundL s r ac).filter (fun z => !decide (z = ("gone" : Str))) ++ r.born).map V.str)) ∧ H' la = some (.lst (((r.effs.take k).foldl setV s.vs).map V.str))) ⟨none, none, rfl, s16, h6', h6⟩ (fun k σ H' _ ⟨_, _, _, h, _⟩ => h) ?_ ?_⟩
      · rintro k z e σ H7 he dz ⟨v10, v11, rfl, s7, h7, h8⟩
        obtain ⟨c, rfl, hc⟩ := Dp.prI dz
        obtain ⟨zs', ev, hzs'⟩ := ro.ef.at_ e (List.mem_of_getElem? he)
        have lv1 : ((r.effs.take k).foldl setV s.vs).length = 1 := by rw [setV_len, hsv, ev]; rfl
        refine ⟨_, rfl, p, _, (2 : Int), _, rfl, rfl, Same.sqT s7 hp, at_of (z := (2 : Int)) (j := 2) rfl rfl, _, rfl, c, _, (0 : Int), _, rfl, rfl, Same.sqT s7 hc, at_of (z := (0 : Int)) (j := 0) rfl rfl, ?_⟩
        refine ⟨u3, e.1, zs', rfl, by rw [← ev]; exact Dp.same s7 e3, ?_⟩
        refine ⟨_, rfl, c, _, (1 : Int), _, rfl, rfl, Same.sqT s7 hc, at_of (z := (1 : Int)) (j := 1) rfl rfl, ?_⟩
        refine ⟨_, rfl, _, rfl, la, _, _, 0, rfl, rfl, h8, ixN_nat (j := 0) (by rw [List.length_map, lv1]; exact Nat.one_pos), ?_⟩
        refine ⟨_, _, rfl, Same.put la0 s7, by rw [upd_ne npl]; exact h7, ?_⟩
        rw [fold_snoc he, map_set_str]
        exact upd_same
      rintro σ H7 ⟨v10, v11, rfl, s7, h7, h8⟩
      rw [List.take_length] at h8
      -- boxes
      refine ⟨_, rfl, aw, _, rfl, .inr (Same.sqT s7 haw), fun lb hlb => ?_⟩
      have s8 := Same.upd (o := .lst []) hlb
      have h9 : (upd H7 lb (.lst [])) lb = some (.lst []) := upd_same
      have h7' := s8 _ _ h7
      have h8' := s8 _ _ h8
      generalize upd H7 lb (.lst []) = H8 at *
      have s18 := s7.trans s8
      refine ⟨_, rfl, g, _, (6 : Int), _, rfl, rfl, Same.sqT s18 hg, at_of (z := (6 : Int)) (j := 6) rfl rfl, for_dl (K := K) (l := ([] : List PyData)) (enc := fun d => d) (Dp.same s18 f7) (fun k σ H' => σ = [some (.ref p), some (.ref gs), some (.ref gz), some (.ref ap), some (.ref av), some (.ref aw), none, some (.ref g), some (.ref pf), some (.ref la), v10, v11, some (.ref lb), none] ∧ H8 = H') ⟨rfl, rfl⟩ (fun _ _ _ _ ⟨_, e⟩ => .inl (e ▸ Same.refl _)) (fun k y' b σ H' hb => by simp at hb) ?_⟩
      rintro σ _ ⟨rfl, rfl⟩
      refine ⟨_, rfl, g, _, (7 : Int), _, rfl, rfl, Same.sqT s18 hg, at_of (z := (7 : Int)) (j := 7) rfl rfl, for_dl (K := K) (l := ([] : List PyData)) (enc := fun d => d) (Dp.same s18 f8) (fun k σ H' => σ = [some (.ref p), some (.ref gs), some (.ref gz), some (.ref ap), some (.ref av), some (.ref aw), none, some (.ref g), some (.ref pf), some (.ref la), v10, v11, some (.ref lb), none] ∧ H8 = H') ⟨rfl, rfl⟩ (fun _ _ _ _ ⟨_, e⟩ => .inl (e ▸ Same.refl _)) (fun k y' b σ H' hb => by simp at hb) ?_⟩
      rintro σ _ ⟨rfl, rfl⟩
      -- the answer
      refine ⟨_, rfl, pf, _, rfl, .inl ⟨SqL.of h7', fun t1 ht1 => ?_⟩⟩
      have q1 := Same.upd (o := .tup (((foundL s r ac).filter (fun z => !decide (z = ("gone" : Str))) ++ r.born).map V.str)) ht1
      have g1 : (upd H8 t1 (.tup (((foundL s r ac).filter (fun z => !decide (z = ("gone" : Str))) ++ r.born).map V.str))) t1 = some (.tup (((foundL s r ac).filter (fun z => !decide (z = ("gone" : Str))) ++ r.born).map V.str)) := upd_same
      generalize upd H8 t1 (.tup (((foundL s r ac).filter (fun z => !decide (z = ("gone" : Str))) ++ r.born).map V.str)) = J1 at *
      refine ⟨_, rfl, la, _, rfl, .inl ⟨SqL.of (q1 _ _ h8'), fun t2 ht2 => ?_⟩⟩
      have q2 := Same.upd (o := .tup ((r.effs.foldl setV s.vs).map V.str)) ht2
      have g2 : (upd J1 t2 (.tup ((r.effs.foldl setV s.vs).map V.str))) t2 = some (.tup ((r.effs.foldl setV s.vs).map V.str)) := upd_same
      generalize upd J1 t2 (.tup ((r.effs.foldl setV s.vs).map V.str)) = J2 at *
      refine ⟨_, rfl, lb, _, rfl, .inl ⟨SqL.of (q2 _ _ (q1 _ _ h9)), fun t3 ht3 => ?_⟩⟩
      have q3 := Same.upd (o := .tup []) ht3
      refine ⟨by show 3 ≤ sizeLine; decide, fun t4 ht4 => ?_⟩
      have q4 := Same.upd (o := .tup [.ref t1, .ref t2, .ref t3]) ht4
      refine q t4 _ (s18.trans (q1.trans (q2.trans (q3.trans q4)))) ((s18.trans (q1.trans (q2.trans q3))).free ht4) (.tup (SqT.of upd_same) (.cons (Dp.ofStrT (SqT.of ((q2.trans (q3.trans q4)) _ _ g1))) (.cons (Dp.ofStrT (SqT.of ((q3.trans q4) _ _ g2))) (.cons (.tup (SqT.of (q4 _ _ upd_same)) .nil) .nil))))
end
end C62
set_option Elab.async false
set_option linter.all false
set_option maxRecDepth 100000
set_option maxHeartbeats 4000000
namespace C62
open PySem PySem.Spec PyProof.Rows L2
open He (ga ma)
def fitsK (ps : List Str) (ac : List Int) (st : Str) : List Nat := (List.range ps.length).filter fun k => decide (ps.getD k "" = st) && !decide ((k : Int) ∈ ac)
def pick (ps : List Str) (ac : List Int) (st : Str) : Int := (castK (fitsK ps ac st) ++ [-1]).getD 0 0
def gstep (ps : List Str) (ac : List Int) (p : Pr) : List Int := ac ++ [pick ps ac p.1]
def greedy (ps : List Str) (as : List Pr) : List Int := as.foldl (gstep ps) []
noncomputable def succS (s : LSt) (r : RuleD) : Option LSt := if actsB s r (greedy s.ps r.actors) = true then some ⟨srt (stepL s r (greedy s.ps r.actors)).ps, (stepL s r (greedy s.ps r.actors)).vs⟩ else none
noncomputable def afterL (S : PartsD) (s : LSt) : List LSt := S.rules.filterMap (succS s)
theorem gstep_len (ps : List Str) : ∀ (l : List Pr) (ac : List Int), (l.foldl (gstep ps) ac).length = ac.length + l.length
  | [], _ => rfl
  | p :: l, ac => by
    rw [List.foldl_cons, gstep_len ps l, List.length_cons]
    unfold gstep
    rw [List.length_append, List.length_singleton]; omega
theorem noL_LS (s : LSt) : noL (dLS s) = true := by
  show (noL (dStrT s.ps) && (noL (dStrT s.vs) && (noL (.tuple []) && true))) = true
  rw [noL_strs, noL_strs]; rfl
def spAll (K : PySem.W.Frag) : Sp := fun vs H Q _ => ∃ (x y : V) (S : PartsD) (s : LSt), vs = [x, y] ∧ Dp K H x (dParts S) ∧ PartsOk S ∧ Dp K H y (dLS s) ∧ s.vs.length = S.vars.length ∧ s.ps.length ≤ 400 ∧
  ∀ p H', Same H H' → H p = none → Dp K H' (.ref p) (.list ((afterL S s).map dLS)) → Q (.ref p) H'
section
variable {P : Program} {w : World} {K : PySem.W.Frag} {mg : Str → Option Value} {base : Heap}
theorem c__law_all_after (T : Txt K mg) : Cal P w K mg base 4 "_law_all_after" (spAll K) := by
  refine T.f_law_all_after.cal sc_law_all_after (fun _ _ _ _ _ _ us hl => match us, hl with | [_, _], _ => rfl) (fun vs H Q E h => ?_) (fun f cdv A outer s0 H vs Q E hr h => ?_)
  · obtain ⟨x, y, S, s, rfl, _⟩ := h
    rfl
  · obtain ⟨x, y, S, s, rfl, hx, ok, hy, hsv, h400, q⟩ := h
    obtain ⟨p, xs, rfl, hp, hxs⟩ := Dp.tupI hx
    obtain ⟨u1, u2, u3, u4, u5, u6, rfl, e1, e2, e3, e4, e5, e6⟩ := DpAll.i6 hxs
    obtain ⟨gs, ys, rfl, hgs, hys⟩ := Dp.tupI hy
    obtain ⟨v1, v2, v3, rfl, k1, k2, k3⟩ := DpAll.i3 hys
    obtain ⟨ap, rfl, hap⟩ := Dp.strTI k1
    obtain ⟨ar, xr, rfl, har, hxr⟩ := Dp.lstI e5
    have lxr := DpAll.mapLen hxr
    have r3 := ok.r3
    refine ⟨_, (pss_cons (ps_set (i := 2) sc_law_all_after.nd rfl (Or.inl rfl) (pe_lst pa_nil))
  (pss_cons (ps_for PassesOwn.never rfl (pi_range1 rfl T.b_range (pa_cons (pe_callB call_len_seq (by rfl) T.b_len PyB.boot_len (pa_cons (pe_ix ix_tup (pv 0) pe_int (fun _ _ => rfl)) pa_nil)) pa_nil)) (pg_name (i := 3) sc_law_all_after.nd rfl (Or.inl rfl)) (pss_cons (ps_set (i := 4) sc_law_all_after.nd rfl (Or.inr rfl) (pe_lst pa_nil))
  (pss_cons (ps_for PassesOwn.never rfl (pi_list (pe_ix ix_tup (pe_ix ix_list (pe_ix ix_tup (pv 0) pe_int (fun _ _ => rfl)) (pv 3) (fun _ _ => rfl)) pe_int (fun _ _ => rfl))) (pg_name (i := 5) sc_law_all_after.nd rfl (Or.inr rfl)) (pss_cons (ps_setLc (i := 6) (own := [("_law_k", 8)]) (g := gName 8) rfl sc_law_all_after.nd rfl rfl (sw_true rfl rfl rfl (by decide +kernel)) (pi_range1 rfl T.b_range (pa_cons (pe_callB call_len_seq (by rfl) T.b_len PyB.boot_len (pa_cons (pe_ix ix_tup (pv 1) pe_int (fun _ _ => rfl)) pa_nil)) pa_nil)) (blkOk_by (own := [("_law_k", 8)]) (N := nm_law_all_after) (sc := defScope s_law_all_after) (by decide +kernel)) (fun _ _ _ _ _ => (pg_name (i := 8) sc_law_all_after.nd rfl (Or.inl rfl))) (fun _ _ _ _ _ => pts_one (PW.pt (pw_and (pt_cmpR op_eq (pe_ix (ix_tupK K) (pe_ix (ix_tupK K) (pv 1) pe_int (fun _ _ => rfl)) (pv 8) (fun _ _ => rfl)) (pe_ix (ix_tupK K) (pv 5) pe_int (fun _ _ => rfl)) (nomark _)) (pw_and1 (pt_cmpR (op_notIn_seqK K) (pv 8) (pv 4) rfl))))) (fun _ _ _ _ _ => (pv 8)))
  (pss_one (ps_expr (pe_bm PySem.F.plainAttrs_list PySem.F.slot_list_append PySem.F.type_list_append mt_append (pv 4) (pa_cons (pe_ix ix_list (pe_op op_cat (pv 6) (pe_lst (pa_cons (pe_un un_neg pe_int) pa_nil))) pe_int (fun _ _ => rfl)) pa_nil))))))
  (pss_cons (ps_set (i := 7) sc_law_all_after.nd rfl (Or.inl rfl) (pe_c (c__law_step T) hr (by decide) (by rfl) (pa_cons (pv 0) (pa_cons (pv 1) (pa_cons (pe_tup (pa_cons pe_str (pa_cons (pv 3) (pa_cons (pe_callTy call_tuple_of (by rfl) T.b_tuple PyB.boot_tuple (pa_cons (pv 4) pa_nil)) pa_nil)))) pa_nil)))))
  (pss_one (ps_if (pt_cmpR op_notN (pv 7) pe_non (nomark _)) (pss_one (ps_expr (pe_bm PySem.F.plainAttrs_list PySem.F.slot_list_append PySem.F.type_list_append mt_append (pv 2) (pa_cons (pe_tup (pa_cons (pe_callTy call_tuple_of (by rfl) T.b_tuple PyB.boot_tuple (pa_cons (pe_callB cr_sortedTS (by rfl) T.b_sorted PyB.boot_sorted (pa_cons (pe_ix ix_tup (pv 7) pe_int (fun _ _ => rfl)) pa_nil)) pa_nil)) (pa_cons (pe_ix ix_tup (pv 7) pe_int (fun _ _ => rfl)) (pa_cons (pe_ix ix_tup (pv 7) pe_int (fun _ _ => rfl)) pa_nil)))) pa_nil)))) pss_nil))))))
  (pss_one (ps_ret (pv 2))))), ?_⟩
    refine ⟨by decide, fun l hl => ?_⟩
    have G0 := Grown.start (K := K) hl
    generalize upd H l (.lst []) = H1 at *
    have s1 := G0.1
    refine ⟨_, rfl, p, _, (4 : Int), _, rfl, rfl, Same.sqT s1 hp, at_of (z := (4 : Int)) (j := 4) rfl rfl, ar, _, rfl, .inl (s1.seq har), _, rfl, by omega, by omega, for_range (lo := 0) (fun i σ H' => ∃ v3 v4 v5 v6 v7 : Option V, σ = [some (.ref p), some (.ref gs), some (.ref l), v3, v4, v5, v6, v7, none] ∧
      Grown K H l (((S.rules.take i).filterMap (succS s)).map dLS) H') ⟨none, none, none, none, none, rfl, G0⟩ ?_ ?_⟩
    · rintro i σ H2 hi ⟨w3, w4, w5, w6, w7, rfl, G2⟩
      have hi' : i < S.rules.length := by omega
      obtain ⟨r, hri⟩ : ∃ r, S.rules[i]? = some r := ⟨S.rules[i], List.getElem?_eq_getElem hi'⟩
      have ro := ok.rs r (List.mem_of_getElem? hri)
      have a3 := ro.a3
      obtain ⟨zr, hzr, dzr⟩ := DpAll.getR hxr (i := i) (d := dRule r) (by rw [List.getElem?_map, hri]; rfl)
      obtain ⟨g, x2, rfl, hg, hx2⟩ := Dp.tupI dzr
      obtain ⟨w1, w2, y3, y4, y5, y6, y7, y8, rfl, f1, f2, f3, f4, f5, f6, f7, f8⟩ := DpAll.i8 hx2
      -- acting
      refine ⟨by decide, fun la hla => ?_⟩
      have la0 := G2.1.free hla
      obtain ⟨acc2, hacc2, _⟩ := id G2.2
      have nal : l ≠ la := fun e => by rw [← e, hacc2] at hla; cases hla
      have G3 := G2.mono (Same.upd (o := .lst []) hla)
      have h3 : (upd H2 la (.lst [])) la = some (.lst ((([] : List Int)).map V.int)) := upd_same
      generalize upd H2 la (.lst []) = H3 at *
      have s3 := G3.1
      have nls : noLs (((S.rules.take i).filterMap (succS s)).map dLS) = true := noLs_map _ noL_LS _
      have lds : (((S.rules.take i).filterMap (succS s)).map dLS).length < 1000 := by
        rw [List.length_map]
        have := List.length_filterMap_le (succS s) (S.rules.take i)
        rw [List.length_take] at this
        omega
      refine ⟨_, rfl, p, _, (4 : Int), _, rfl, rfl, Same.sqT s3 hp, at_of (z := (4 : Int)) (j := 4) rfl rfl, _, rfl, ar, _, _, .ref g, rfl, rfl, s3.seq har, at_of (j := i) (by omega) hzr, g, _, (1 : Int), _, rfl, rfl, Same.sqT s3 hg, at_of (z := (1 : Int)) (j := 1) rfl rfl, for_dlS (K := K) (l := r.actors) (enc := dPr) f2
        (fun j σ H' => ∃ v5 v6 : Option V, σ = [some (.ref p), some (.ref gs), some (.ref l), some (.int (0 + (i : Nat))), some (.ref la), v5, v6, w7, none] ∧ Grown K H l (((S.rules.take i).filterMap (succS s)).map dLS) H' ∧ H' la = some (.lst (((r.actors.take j).foldl (gstep s.ps) []).map V.int))) ⟨w5, w6, rfl, G3, h3⟩ (fun j σ H' _ ⟨_, _, _, h, _⟩ => h.1) ?_ ?_⟩
      · rintro j z pr σ H4 hpr dz ⟨v5, v6, rfl, G4, h4⟩
        obtain ⟨c, rfl, hc⟩ := Dp.prI dz
        have s4 := G4.1
        have lac : ((r.actors.take j).foldl (gstep s.ps) []).length ≤ 3 := by rw [gstep_len, List.length_take]; show 0 + _ ≤ 3; omega
        rw [fold_snoc hpr]
        generalize (r.actors.take j).foldl (gstep s.ps) [] = ac at *
        refine ⟨_, rfl, gs, _, (0 : Int), _, rfl, rfl, Same.sqT s4 hgs, at_of (z := (0 : Int)) (j := 0) rfl rfl, ap, _, rfl, .inr (Same.sqT s4 hap), _, rfl, by rw [List.length_map]; omega, by rw [List.length_map]; omega, ?_⟩
        rw [List.length_map, Int.toNat_natCast]
        refine lc_rgG (K := K) (vs := [8]) (n := s.ps.length) (by omega) (fun k => if (decide (s.ps.getD k "" = pr.1) && !decide ((k : Int) ∈ ac)) = true then some (.int (k : Nat)) else none) ?_ ?_
        · intro D hD k hk Hi R N s5 nD hR hN
          have s15 := s4.trans s5
          refine ⟨rfl, ?_⟩
          refine ⟨_, rfl, gs, _, (0 : Int), _, rfl, rfl, Same.sqT s15 hgs, at_of (z := (0 : Int)) (j := 0) rfl rfl, _, rfl, ap, _, _, _, rfl, rfl, Same.sqT s15 hap, at_of (j := k) (by omega) (getD_str hk), _, rfl, c, _, (0 : Int), _, rfl, rfl, Same.sqT s15 hc, at_of (z := (0 : Int)) (j := 0) rfl rfl, rfl, _, rfl, ?_⟩
          show if decide (V.str _ = V.str _) = true then _ else _
          rw [dec_str]
          by_cases c1 : s.ps.getD k "" = pr.1
          · refine ifT (decide_eq_true c1) ?_
            refine ⟨_, rfl, _, rfl, la, _, rfl, .inl (SqL.of (s5 _ _ h4)), rfl, flat_ints _, _, rfl, ?_⟩
            show if (!inV _ _) = true then _ else _
            rw [inV_int, Int.zero_add]
            by_cases c2 : (k : Int) ∈ ac
            · exact ifF (by rw [decide_eq_true c2]; rfl) (hN _ (if_neg (by rw [decide_eq_true c2, Bool.not_true, Bool.and_false]; exact Bool.false_ne_true)) (Same.refl _))
            · refine ifT (by rw [decide_eq_false c2]; rfl) ?_
              exact ⟨_, rfl, hR _ _ _ (if_pos (by rw [decide_eq_true c1, decide_eq_false c2]; rfl)) (Same.refl _) (.int _)⟩
          · refine ifF (decide_eq_false c1) ?_
            exact ifF rfl (hN _ (if_neg (by rw [decide_eq_false c1, Bool.false_and]; exact Bool.false_ne_true)) (Same.refl _))
        intro D H5 G5 hD
        rw [fm_if (fun (k : Nat) => PyData.int (k : Nat)) (fun k => decide (s.ps.getD k "" = pr.1) && !decide ((k : Int) ∈ ac)), castK_d] at G5
        obtain ⟨s5, acc5, hacc5, _, dacc5⟩ := G5
        obtain rfl := DpAll.ints dacc5
        have h5 := s5 _ _ h4
        have G5' := G4.mono s5
        have ed : ((List.range s.ps.length).filter fun k => decide (s.ps.getD k "" = pr.1) && !decide ((k : Int) ∈ ac)) = fitsK s.ps ac pr.1 := rfl
        rw [ed] at hacc5
        have lfit : (fitsK s.ps ac pr.1).length ≤ 400 := by
          have := List.length_filter_le (fun k => decide (s.ps.getD k "" = pr.1) && !decide ((k : Int) ∈ ac)) (List.range s.ps.length)
          rw [List.length_range] at this
          show (List.filter _ _).length ≤ 400
          omega
        refine ⟨_, rfl, .inl ⟨rfl, _, SqL.of h5⟩, _, rfl, _, rfl, by show 1 ≤ sizeLine; decide, fun t ht => ?_⟩
        have s6 := Same.upd (o := .lst [.int (-1)]) ht
        have h6 : (upd H5 t (.lst [.int (-1)])) t = some (.lst [.int (-1)]) := upd_same
        have hacc6 := s6 _ _ hacc5
        have h56 := s6 _ _ h5
        have G6 := G5'.mono s6
        generalize upd H5 t (.lst [.int (-1)]) = H6 at *
        refine ⟨D, t, _, _, rfl, rfl, hacc6, h6, Nat.le_of_lt (small1000 (by rw [List.length_map, List.length_map]; show _ + 1 ≤ 1000; omega)), fun pc hpc => ?_⟩
        have ecat : (castK (fitsK s.ps ac pr.1)).map V.int ++ [V.int (-1)] = (castK (fitsK s.ps ac pr.1) ++ [-1]).map V.int := by rw [List.map_append]; rfl
        rw [ecat]
        have s7 := Same.upd (o := .lst ((castK (fitsK s.ps ac pr.1) ++ [-1]).map V.int)) hpc
        have h7 := s7 _ _ h56
        have G7 := G6.mono s7
        refine ⟨pc, _, (0 : Int), .int (pick s.ps ac pr.1), rfl, rfl, SqL.of upd_same, at_of (z := (0 : Int)) (j := 0) rfl (getD_int (by rw [List.length_append]; exact Nat.succ_pos _)), la, _, _, rfl, rfl, h7, small1000 (by rw [List.length_map]; omega), ?_⟩
        refine ⟨_, _, rfl, G7.upd2 h7 nal la0 nls, ?_⟩
        have e9 : ac.map V.int ++ [V.int (pick s.ps ac pr.1)] = (gstep s.ps ac pr).map V.int := by unfold gstep; rw [List.map_append]; rfl
        rw [e9]
        exact upd_same
      · rintro σ H4 ⟨v5, v6, rfl, G4, h4⟩
        rw [List.take_length] at h4
        have s4 := G4.1
        have eg : r.actors.foldl (gstep s.ps) [] = greedy s.ps r.actors := rfl
        rw [eg] at h4
        have lgr : (greedy s.ps r.actors).length = r.actors.length := by rw [← eg, gstep_len]; exact Nat.zero_add _
        -- the step
        refine ⟨_, rfl, _, rfl, _, rfl, _, rfl, la, _, rfl, .inl ⟨SqL.of h4, fun t1 ht1 => ?_⟩⟩
        have q1 := Same.upd (o := .tup ((greedy s.ps r.actors).map V.int)) ht1
        have g1 : (upd H4 t1 (.tup ((greedy s.ps r.actors).map V.int))) t1 = some (.tup ((greedy s.ps r.actors).map V.int)) := upd_same
        generalize upd H4 t1 (.tup ((greedy s.ps r.actors).map V.int)) = H5 at *
        refine ⟨by show 3 ≤ sizeLine; decide, fun t2 ht2 => ?_⟩
        have q2 := Same.upd (o := .tup [.str "act", .int (0 + (i : Nat)), .ref t1]) ht2
        have g2 : (upd H5 t2 (.tup [.str "act", .int (0 + (i : Nat)), .ref t1])) t2 = some (.tup [.str "act", .int (0 + (i : Nat)), .ref t1]) := upd_same
        generalize upd H5 t2 (.tup [.str "act", .int (0 + (i : Nat)), .ref t1]) = H6 at *
        have s6 := s4.trans (q1.trans q2)
        have dact : Dp K H6 (.ref t2) (dAct i (greedy s.ps r.actors)) := .tup (SqT.of g2) (.cons (.str _) (.cons (by rw [Int.zero_add]; exact .int _) (.cons (Dp.ofInts (SqT.of (q2 _ _ g1))) .nil)))
        have e1 : (S.rules.take (i + 1)).filterMap (succS s) = (S.rules.take i).filterMap (succS s) ++ (succS s r).toList := by
          rw [take_snoc hri, List.filterMap_append]
          cases e : succS s r <;> simp [e]
        refine ⟨.ref p, .ref gs, .ref t2, S, s, r, i, greedy s.ps r.actors, rfl, Dp.same s6 hx, Dp.same s6 hy, dact, hri, lgr, ro, hsv, by omega, fun hac H7 s7 => ?_, fun hac pa H7 s7 hpa dpa => ?_⟩
        · refine ⟨_, rfl, rfl, _, rfl, ?_⟩
          refine ifF (by decide) ?_
          refine ⟨_, _, _, _, _, rfl, ?_⟩
          have : succS s r = none := if_neg (by rw [hac]; exact Bool.false_ne_true)
          rw [e1, this]
          show Grown K H l (List.map dLS (_ ++ [])) H7
          rw [List.append_nil]
          exact G4.mono (q1.trans (q2.trans s7))
        · refine ⟨_, rfl, rfl, _, rfl, ?_⟩
          refine ifT (by rw [decide_eq_false (fun z => nomatch z)]; rfl) ?_
          have G7 := G4.mono (q1.trans (q2.trans s7))
          have esu : succS s r = some ⟨srt (stepL s r (greedy s.ps r.actors)).ps, (stepL s r (greedy s.ps r.actors)).vs⟩ := if_pos hac
          generalize stepL s r (greedy s.ps r.actors) = s' at *
          obtain ⟨b, zs, eb, hb, hzs⟩ := Dp.tupI dpa
          cases eb
          obtain ⟨z1, z2, z3, rfl, m1, m2, m3⟩ := DpAll.i3 hzs
          obtain ⟨b1, rfl, hb1⟩ := Dp.strTI m1
          obtain ⟨acc7, ha7, _⟩ := id G7.2
          have s07 := G7.1
          refine ⟨_, rfl, .inl ⟨rfl, _, SqL.of ha7⟩, _, rfl, pa, _, (0 : Int), _, rfl, rfl, hb, at_of (z := (0 : Int)) (j := 0) rfl rfl, b1, s'.ps, rfl, hb1, fun yys p8 hperm hsort hp8 => ?_⟩
          have es := srt_eq hperm hsort
          rw [es] at esu
          have q8 := Same.upd (o := .lst (yys.map V.str)) hp8
          have h8 : (upd H7 p8 (.lst (yys.map V.str))) p8 = some (.lst (yys.map V.str)) := upd_same
          generalize upd H7 p8 (.lst (yys.map V.str)) = H8 at *
          refine ⟨p8, _, rfl, .inl ⟨SqL.of h8, fun t9 ht9 => ?_⟩⟩
          have q9 := Same.upd (o := .tup (yys.map V.str)) ht9
          have h9 : (upd H8 t9 (.tup (yys.map V.str))) t9 = some (.tup (yys.map V.str)) := upd_same
          generalize upd H8 t9 (.tup (yys.map V.str)) = H9 at *
          have s79 := q8.trans q9
          refine ⟨_, rfl, pa, _, (1 : Int), _, rfl, rfl, Same.sqT s79 hb, at_of (z := (1 : Int)) (j := 1) rfl rfl, _, rfl, pa, _, (2 : Int), _, rfl, rfl, Same.sqT s79 hb, at_of (z := (2 : Int)) (j := 2) rfl rfl, by show 3 ≤ sizeLine; decide, fun t10 ht10 => ?_⟩
          have q10 := Same.upd (o := .tup [.ref t9, z2, z3]) ht10
          have s710 := s79.trans q10
          have dnew : Dp K (upd H9 t10 (.tup [.ref t9, z2, z3])) (.ref t10) (dLS ⟨yys, s'.vs⟩) := .tup (SqT.of upd_same) (.cons (Dp.ofStrT (SqT.of (q10 _ _ h9))) (.cons (Dp.same s710 m2) (.cons (Dp.same s710 m3) .nil)))
          have G10 := G7.mono s710
          obtain ⟨acc10, ha10, _⟩ := id G10.2
          obtain ⟨acc, hacc, lacc, G11⟩ := G10.more hl (Same.refl _) (Dp.delL ha10 dnew (noL_LS _)) lds
          refine ⟨l, acc, _, rfl, rfl, hacc, lacc, ?_⟩
          refine ⟨_, _, _, _, _, rfl, ?_⟩
          rw [e1, esu, List.map_append]
          exact G11
    · rintro σ H2 ⟨w3, w4, w5, w6, w7, rfl, G2⟩
      rw [Int.toNat_natCast, lxr, List.take_length] at G2
      exact ⟨_, rfl, q l H2 G2.1 hl G2.fin⟩
end
end C62
set_option Elab.async false
set_option linter.all false
set_option maxRecDepth 100000
set_option maxHeartbeats 4000000
namespace C62
open PySem PySem.Spec PyProof.Rows L2
/-! ### the law's states as data -/
theorem eqvAll_strs : ∀ a b : List Str, PyData.eqvAll (a.map .str) (b.map .str) = decide (a = b)
  | [], [] => by simp [PyData.eqvAll]
  | [], _ :: _ => by simp [PyData.eqvAll]
  | _ :: _, [] => by simp [PyData.eqvAll]
  | x :: a, y :: b => by
    rw [List.map_cons, List.map_cons]
    have e : PyData.eqvAll (.str x :: a.map .str) (.str y :: b.map .str) = ((x == y) && PyData.eqvAll (a.map .str) (b.map .str)) := by simp only [PyData.eqvAll, PyData.eqv]
    rw [e, eqvAll_strs a b]
    by_cases h : x = y
    · subst h
      by_cases h2 : a = b
      · subst h2; simp
      · rw [decide_eq_false h2, Bool.and_false]
        exact (decide_eq_false fun z => h2 (List.cons.inj z).2).symm
    · have : (x == y) = false := beq_eq_false_iff_ne.mpr h
      rw [this, Bool.false_and]
      exact (decide_eq_false fun z => h (List.cons.inj z).1).symm
theorem eqv_LS (a b : LSt) : PyData.eqv (dLS a) (dLS b) = decide (a = b) := by
  obtain ⟨p, v⟩ := a
  obtain ⟨p', v'⟩ := b
  have e : PyData.eqv (dLS ⟨p, v⟩) (dLS ⟨p', v'⟩) = (PyData.eqvAll (p.map .str) (p'.map .str) && (PyData.eqvAll (v.map .str) (v'.map .str) && true)) := by simp only [dLS, dStrT, PyData.eqv, PyData.eqvAll, Bool.and_true]
  rw [e, eqvAll_strs, eqvAll_strs, Bool.and_true]
  by_cases h1 : p = p'
  · by_cases h2 : v = v'
    · subst h1; subst h2; simp
    · rw [decide_eq_false h2, Bool.and_false]
      exact (decide_eq_false fun z => h2 (LSt.mk.inj z).2).symm
  · rw [decide_eq_false h1, Bool.false_and]
    exact (decide_eq_false fun z => h1 (LSt.mk.inj z).1).symm
def lsOk (s : LSt) : Prop := (∀ z ∈ s.ps, PyData.strOk z = true) ∧ ∀ z ∈ s.vs, PyData.strOk z = true
theorem strs_lay : ∀ {zs : List Str}, (∀ z ∈ zs, PyData.strOk z = true) → PyData.canLayAll0 (zs.map .str) = true
  | [], _ => by simp [PyData.canLayAll0]
  | z :: zs, h => by
    rw [List.map_cons]
    unfold PyData.canLayAll0
    rw [strs_lay fun y hy => h y (List.mem_cons_of_mem _ hy)]
    have : PyData.canLay0 (.str z) = true := by simp only [PyData.canLay0]; exact h z List.mem_cons_self
    rw [this]; rfl
theorem strs_depth : ∀ zs : List Str, PyData.depthAll (zs.map .str) = 0
  | [] => by simp [PyData.depthAll]
  | z :: zs => by
    have := strs_depth zs
    simp only [List.map_cons, PyData.depthAll, PyData.depth]
    omega
theorem ls_lay {s : LSt} (h : lsOk s) : (dLS s).canLay0 = true := by
  simp only [dLS, dStrT, PyData.canLay0, PyData.canLayAll0, strs_lay h.1, strs_lay h.2, Bool.and_true, Bool.and_self]
theorem ls_depth (s : LSt) : (dLS s).depth ≤ 2 := by
  simp only [dLS, dStrT, PyData.depth, PyData.depthAll, strs_depth]
  omega
theorem ls_shaped {s : LSt} (h : lsOk s) : SeqAt.shaped (dLS s) = true := by
  have := ls_depth s
  show ((dLS s).canLay0 && decide ((dLS s).depth ≤ 64)) = true
  rw [ls_lay h, decide_eq_true (by omega)]; rfl
theorem lss_lay : ∀ {l : List LSt}, (∀ s ∈ l, lsOk s) → PyData.canLayAll0 (l.map dLS) = true
  | [], _ => by simp [PyData.canLayAll0]
  | s :: l, h => by
    rw [List.map_cons]
    unfold PyData.canLayAll0
    rw [ls_lay (h s List.mem_cons_self), lss_lay fun q hq => h q (List.mem_cons_of_mem _ hq)]; rfl
theorem lss_depth : ∀ l : List LSt, PyData.depthAll (l.map dLS) ≤ 2
  | [] => by simp [PyData.depthAll]
  | s :: l => by
    have h1 := lss_depth l
    have h2 := ls_depth s
    simp only [List.map_cons, PyData.depthAll]
    omega
theorem lss_shaped {l : List LSt} (h : ∀ s ∈ l, lsOk s) : SeqAt.shaped (.list (l.map dLS)) = true := by
  have h1 := lss_depth l
  show (PyData.canLay0 (.list (l.map dLS)) && decide (PyData.depth (.list (l.map dLS)) ≤ 64)) = true
  have e1 : PyData.canLay0 (.list (l.map dLS)) = true := by simp only [PyData.canLay0]; exact lss_lay h
  have e2 : PyData.depth (.list (l.map dLS)) ≤ 64 := by simp only [PyData.depth]; omega
  rw [e1, decide_eq_true e2]; rfl
theorem inD_LS (s : LSt) : ∀ l : List LSt, (l.map dLS).any (fun e => PyData.eqv e (dLS s)) = decide (s ∈ l)
  | [] => rfl
  | x :: l => by
    rw [List.map_cons, List.any_cons, inD_LS s l, eqv_LS]
    by_cases h : x = s
    · subst h; simp
    · rw [decide_eq_false h, Bool.false_or]
      by_cases h2 : s ∈ l
      · rw [decide_eq_true h2]; exact (decide_eq_true (List.mem_cons_of_mem _ h2)).symm
      · rw [decide_eq_false h2]; exact (decide_eq_false fun z => (List.mem_cons.mp z).elim (fun e => h e.symm) h2).symm
end C62
set_option Elab.async false
set_option linter.all false
set_option maxRecDepth 100000
set_option maxHeartbeats 4000000
namespace C62
open PySem PySem.Spec PyProof.Rows L2
open He (ga ma)
/-! ### right states -/
structure WfS (S : PartsD) (s : LSt) : Prop where
  pm : ∀ p ∈ s.ps, p ∈ S.states
  vl : s.vs.length = S.vars.length
  vm : ∀ n zs, S.vars = [(n, zs)] → ∀ v ∈ s.vs, v ∈ zs
theorem WfS.ok {S : PartsD} {s : LSt} (ok : PartsOk S) (h : WfS S s) : lsOk s := by
  refine ⟨fun z hz => (ok.nm z (h.pm z hz)).str, fun z hz => ?_⟩
  rcases ok.v1 with e | ⟨n, zs, e, _, _, _, _, _, n6⟩
  · have := h.vl
    rw [e] at this
    rw [List.eq_nil_of_length_eq_zero this] at hz
    cases hz
  · exact (n6 z (h.vm n zs e z hz)).str
theorem wf_first {S : PartsD} (ok : PartsOk S) (c : Nat) : WfS S (firstL S c) := by
  refine ⟨fun p hp => ?_, List.length_map .., fun n zs e v hv => ?_⟩
  · rw [List.eq_of_mem_replicate hp]; exact ok.st
  · have hv' : v ∈ S.vars.map fun v => v.2.headD "" := hv
    rw [e, List.map_singleton, List.mem_singleton] at hv'
    rcases ok.v1 with e' | ⟨z, zs', e', _, _, h2, _⟩
    · rw [e] at e'; cases e'
    · rw [e] at e'
      cases e'
      match zs, h2 with
      | a :: r, _ => rw [hv']; exact List.mem_cons_self
theorem paf_mem {S : PartsD} {r : RuleD} (ro : RuleOk S.states S.vars r) {ac : List Int} (hl : ac.length = r.actors.length) {k : Nat} {st : Str} (hst : st ∈ S.states) : pafB r ac k st ∈ S.states ∨ pafB r ac k st = "gone" := by
  unfold pafB
  split
  · rename_i hk
    have hj := List.idxOf_lt_length_of_mem hk
    rw [hl] at hj
    rw [List.getD_eq_getElem?_getD, List.getElem?_eq_getElem hj]
    exact (ro.am _ (List.getElem_mem hj)).2
  · split
    · rename_i e he
      exact (ro.em e (List.mem_of_find?_eq_some he)).2
    · exact .inl hst
theorem setV_mem {S : PartsD} {n : Str} {zs : List Str} (e : S.vars = [(n, zs)]) : ∀ (l : List Pr) (vs : List Str), (∀ p ∈ l, ∃ zs', S.vars = [(p.1, zs')] ∧ p.2 ∈ zs') → (∀ v ∈ vs, v ∈ zs) → ∀ v ∈ l.foldl setV vs, v ∈ zs
  | [], _, _, h => h
  | p :: l, vs, hl, h => by
    rw [List.foldl_cons]
    refine setV_mem e l _ (fun q hq => hl q (List.mem_cons_of_mem _ hq)) fun v hv => ?_
    rcases List.mem_or_eq_of_mem_set hv with q | q
    · exact h v q
    · obtain ⟨zs', e', hz⟩ := hl p List.mem_cons_self
      rw [e] at e'
      cases e'
      rw [q]; exact hz
theorem wf_succ {S : PartsD} (ok : PartsOk S) {s s' : LSt} (h : WfS S s) {r : RuleD} (hr : r ∈ S.rules) (e : succS s r = some s') : WfS S s' ∧ s'.ps.length ≤ s.ps.length + 2 := by
  unfold succS at e
  split at e
  · have ro := ok.rs r hr
    have hl : (greedy s.ps r.actors).length = r.actors.length := by unfold greedy; rw [gstep_len]; exact Nat.zero_add _
    injection e with e
    subst e
    have hp := (srt_ok (stepL s r (greedy s.ps r.actors)).ps).1
    refine ⟨⟨fun p hpp => ?_, ?_, fun n zs ev v hv => ?_⟩, ?_⟩
    · have hm : p ∈ (stepL s r (greedy s.ps r.actors)).ps := hp.mem_iff.mp hpp
      rcases List.mem_append.mp hm with q | q
      · obtain ⟨q1, q2⟩ := List.mem_filter.mp q
        obtain ⟨k, hk, rfl⟩ := List.mem_map.mp q1
        have hk' := List.mem_range.mp hk
        have hst : s.ps.getD k "" ∈ S.states := by
          rw [List.getD_eq_getElem?_getD, List.getElem?_eq_getElem hk']
          exact h.pm _ (List.getElem_mem hk')
        rcases paf_mem ro hl hst with z | z
        · exact z
        · rw [z] at q2; cases q2
      · exact ro.bm p q
    · show (r.effs.foldl setV s.vs).length = _
      rw [setV_len]; exact h.vl
    · exact setV_mem ev r.effs s.vs ro.ef.at_ (h.vm n zs ev) v hv
    · show (srt _).length ≤ _
      rw [hp.length_eq]
      show (List.filter _ (foundL s r (greedy s.ps r.actors)) ++ r.born).length ≤ _
      rw [List.length_append]
      have h1 : (List.filter (fun z => !decide (z = ("gone" : Str))) (foundL s r (greedy s.ps r.actors))).length ≤ s.ps.length := by
        refine Nat.le_trans (List.length_filter_le _ _) ?_
        unfold foundL
        rw [List.length_map, List.length_range]
        exact Nat.le_refl _
      have h2 := ro.bl
      omega
  · cases e
theorem wf_after {S : PartsD} (ok : PartsOk S) {s s' : LSt} (h : WfS S s) (e : s' ∈ afterL S s) : WfS S s' ∧ s'.ps.length ≤ s.ps.length + 2 := by
  obtain ⟨r, hr, e⟩ := List.mem_filterMap.mp e
  exact wf_succ ok h hr e
/-! ### the graph of the law -/
def stpL (S : PartsD) (s s' : LSt) : Prop := s' ∈ afterL S s
def LRow (Fs : List LSt) (l : List LSt) (row : List Int) : Prop := row.length = l.length ∧ ∀ (j : Nat) s', l[j]? = some s' → ∃ m : Nat, row[j]? = some (m : Int) ∧ Fs[m]? = some s'
structure LgInv (S : PartsD) (s0 : LSt) (Fs : List LSt) (Rs : List (List Int)) : Prop where
  nd : Fs.Nodup
  h0 : Fs[0]? = some s0
  rch : ∀ s ∈ Fs, Rch (stpL S) s0 s
  wf : ∀ (i : Nat) s, Fs[i]? = some s → WfS S s ∧ s.ps.length ≤ 4 + 2 * i
  rows : ∀ (k : Nat) row, Rs[k]? = some row → ∃ s, Fs[k]? = some s ∧ LRow Fs (afterL S s) row
theorem LRow.ext {Fs r l : List LSt} {row : List Int} (h : LRow Fs l row) : LRow (Fs ++ r) l row := ⟨h.1, fun j s' e => let ⟨m, h1, h2⟩ := h.2 j s' e; ⟨m, h1, get_app h2⟩⟩
theorem LRow.snoc {Fs l : List LSt} {row : List Int} {s : LSt} {m : Nat} (h : LRow Fs l row) (hm : Fs[m]? = some s) : LRow Fs (l ++ [s]) (row ++ [(m : Int)]) := by
  refine ⟨by rw [List.length_append, List.length_append, h.1]; rfl, fun j s' e => ?_⟩
  by_cases q : j < l.length
  · rw [List.getElem?_append_left q] at e
    obtain ⟨n, h1, h2⟩ := h.2 j s' e
    exact ⟨n, get_app h1, h2⟩
  · have := get_lt e
    rw [List.length_append, List.length_singleton] at this
    obtain rfl : j = l.length := by omega
    rw [List.getElem?_append_right (Nat.le_refl _), Nat.sub_self] at e
    cases e
    exact ⟨m, by rw [List.getElem?_append_right (by rw [h.1]; exact Nat.le_refl _), h.1, Nat.sub_self]; rfl, hm⟩
theorem LgInv.ext {S : PartsD} {s0 : LSt} {Fs : List LSt} {Rs : List (List Int)} {s' : LSt} (h : LgInv S s0 Fs Rs) (hn : s' ∉ Fs) (hr : Rch (stpL S) s0 s') (hw : WfS S s' ∧ s'.ps.length ≤ 4 + 2 * Fs.length) : LgInv S s0 (Fs ++ [s']) Rs := by
  refine ⟨?_, get_app h.h0, fun s hs => ?_, fun i s hs => ?_, fun k row hk => ?_⟩
  · rw [List.nodup_append]
    refine ⟨h.nd, by simp, fun a ha b hb e => ?_⟩
    rw [List.mem_singleton] at hb
    subst hb; subst e
    exact hn ha
  · rcases List.mem_append.mp hs with e | e
    · exact h.rch s e
    · rw [List.mem_singleton.mp e]; exact hr
  · by_cases q : i < Fs.length
    · rw [List.getElem?_append_left q] at hs
      exact h.wf i s hs
    · have := get_lt hs
      rw [List.length_append, List.length_singleton] at this
      obtain rfl : i = Fs.length := by omega
      rw [List.getElem?_append_right (Nat.le_refl _), Nat.sub_self] at hs
      cases hs
      exact hw
  · obtain ⟨s, h1, h2⟩ := h.rows k row hk
    exact ⟨s, get_app h1, h2.ext⟩
theorem LgInv.row {S : PartsD} {s0 : LSt} {Fs : List LSt} {Rs : List (List Int)} {s : LSt} {row : List Int} (h : LgInv S s0 Fs Rs) (hs : Fs[Rs.length]? = some s) (hr : LRow Fs (afterL S s) row) : LgInv S s0 Fs (Rs ++ [row]) := by
  refine ⟨h.nd, h.h0, h.rch, h.wf, fun k r hk => ?_⟩
  by_cases e : k < Rs.length
  · rw [List.getElem?_append_left e] at hk
    exact h.rows k r hk
  · have hlt := get_lt hk
    rw [List.length_append, List.length_singleton] at hlt
    obtain rfl : k = Rs.length := by omega
    rw [List.getElem?_append_right (Nat.le_refl _), Nat.sub_self] at hk
    cases hk
    exact ⟨s, hs, hr⟩
theorem afterL_len {S : PartsD} (ok : PartsOk S) (s : LSt) : (afterL S s).length ≤ 3 := Nat.le_trans (List.length_filterMap_le _ _) ok.r3
def LgOk (S : PartsD) (s0 : LSt) (limit : Nat) (Fs : List LSt) (Rs : List (List Int)) : Prop := LgInv S s0 Fs Rs ∧ Fs.length ≤ limit + 3 ∧ (Fs.length ≤ limit → Rs.length = Fs.length)
theorem DpAll.woL {K : PySem.W.Frag} {H : Hp} {vs : List V} {ds : List PyData} : ∀ {L : List Addr}, (∀ b ∈ L, ∃ ys, H b = some (.lst ys)) → DpAll K H vs ds → noLs ds = true → DpAll K (wo L H) vs ds
  | [], _, h, _ => DpAll.same (fun b o e => by rw [wo_ne (fun z => by cases z)]; exact e) h
  | a :: L, hL, h, n => by
    have ih := DpAll.woL (L := L) (fun b hb => hL b (List.mem_cons_of_mem _ hb)) h n
    by_cases ha : a ∈ L
    · refine DpAll.same (fun b o e => ?_) ih
      by_cases q : b ∈ L
      · rw [wo_in q] at e; cases e
      · rw [wo_ne q] at e
        have nb : b ≠ a := fun z => q (by rw [z]; exact ha)
        rw [wo_ne fun z => (List.mem_cons.mp z).elim nb q]
        exact e
    · obtain ⟨ys, hys⟩ := hL a List.mem_cons_self
      refine DpAll.same (fun b o e => ?_) (DpAll.delL (l := a) (ys := ys) (by rw [wo_ne ha]; exact hys) ih n)
      by_cases q : b = a
      · subst q; unfold C62.del at e; rw [if_pos rfl] at e; cases e
      · rw [del_ne q] at e
        by_cases q2 : b ∈ L
        · rw [wo_in q2] at e; cases e
        · rw [wo_ne q2] at e
          rw [wo_ne fun z => (List.mem_cons.mp z).elim q q2]
          exact e
theorem SqL.wo {K : PySem.W.Frag} {H : Hp} {a : Addr} {L : List Addr} {xs : List V} (n : a ∉ L) (h : SqL K H a xs) : SqL K (C62.wo L H) a xs := by
  rcases h with (h | ⟨o, h⟩) | h
  · exact .inl (.inl ((wo_ne n).trans h))
  · exact .inl (.inr ⟨o, (wo_ne n).trans h⟩)
  · exact .inr h
theorem Same.woPut {H0 H : Hp} {L : List Addr} {a : Addr} {o : HO} (ha : a ∈ L) (s : Same (C62.wo L H0) H) : Same (C62.wo L H0) (L2.upd H a o) := fun b u e => by
  by_cases q : b ∈ L
  · rw [wo_in q] at e; cases e
  · have nb : b ≠ a := fun z => q (by rw [z]; exact ha)
    rw [wo_ne q] at e
    rw [upd_ne nb]; exact s b u (by rw [wo_ne q]; exact e)
theorem Same.woTo {H0 H : Hp} {L : List Addr} (s : Same (C62.wo L H0) H) : Same (C62.wo L H0) (C62.wo L H) := fun b u e => by
  by_cases q : b ∈ L
  · rw [wo_in q] at e; cases e
  · rw [wo_ne q]; exact s _ _ e
/-- found.index(after) -/
theorem ix_ls {K : PySem.W.Frag} {H : Hp} {a : Addr} {y : V} {l : List LSt} {s : LSt} {j : Nat} {Q : VK} (h : Dp K H (.ref a) (.list (l.map dLS))) (hy : Dp K H y (dLS s)) (nd : l.Nodup) (ok : ∀ p ∈ l, lsOk p) (hj : l[j]? = some s) (k : Q (.int j) H) :
    rIndexD K (.ref a) [y] H Q := by
  refine ⟨a, y, dLS s, l.map dLS, j, dLS s, rfl, rfl, h, hy, lss_shaped ok, ls_shaped (ok s (List.mem_of_getElem? hj)), by rw [List.getElem?_map, hj]; rfl, by rw [eqv_LS]; exact decide_eq_true rfl, fun m z hm hz => ?_, k⟩
  obtain ⟨p, hp, rfl⟩ := map_get hz
  rw [eqv_LS]
  refine decide_eq_false fun e => ?_
  subst e
  have := nd_ix nd hp hj
  omega
def spGraph (K : PySem.W.Frag) : Sp := fun vs H Q _ => ∃ (x y : V) (S : PartsD) (s0 : LSt) (limit : Nat), vs = [x, y, .int limit] ∧ Dp K H x (dParts S) ∧ PartsOk S ∧ Dp K H y (dLS s0) ∧ WfS S s0 ∧ s0.ps.length ≤ 4 ∧ 1 ≤ limit ∧ limit ≤ 40 ∧
  ∀ p H', Same H H' → H p = none → (∃ l mv Fs Rs, SqT K H' p [.ref l, .ref mv] ∧ Dp K H' (.ref l) (.list (Fs.map dLS)) ∧ Dp K H' (.ref mv) (.list (Rs.map dIntL)) ∧ LgOk S s0 limit Fs Rs) → Q (.ref p) H'
/-- the state of the law's search -/
structure LgSt (K : PySem.W.Frag) (H0 : Hp) (L : List Addr) (l mv : Addr) (S : PartsD) (s0 : LSt) (Fs : List LSt) (Rs : List (List Int)) (H : Hp) : Prop where
  same : Same H0 H
  inv : LgInv S s0 Fs Rs
  fa : ∃ fa, H l = some (.lst fa) ∧ DpAll K (wo L H) fa (Fs.map dLS)
  ma : ∃ ma, H mv = some (.lst ma) ∧ DpAll K (wo L H) ma (Rs.map dIntL)
section
variable {K : PySem.W.Frag} {H0 H H' : Hp} {L : List Addr} {l mv rl : Addr} {S : PartsD} {s0 : LSt} {Fs : List LSt} {Rs : List (List Int)}
theorem LgSt.alloc (h : LgSt K H0 L l mv S s0 Fs Rs H) (s : Same H H') : LgSt K H0 L l mv S s0 Fs Rs H' :=
  let ⟨fa, a1, a2⟩ := h.fa
  let ⟨ma, b1, b2⟩ := h.ma
  ⟨h.same.trans s, h.inv, ⟨fa, s _ _ a1, DpAll.same (Same.wo s) a2⟩, ⟨ma, s _ _ b1, DpAll.same (Same.wo s) b2⟩⟩
theorem LgSt.row {o : HO} (h : LgSt K H0 L l mv S s0 Fs Rs H) (hr : rl ∈ L) (h0 : H0 rl = none) (n1 : l ≠ rl) (n3 : mv ≠ rl) : LgSt K H0 L l mv S s0 Fs Rs (upd H rl o) :=
  let ⟨fa, a1, a2⟩ := h.fa
  let ⟨ma, b1, b2⟩ := h.ma
  ⟨Same.put h0 h.same, h.inv, ⟨fa, by rw [upd_ne n1]; exact a1, by rw [wo_upd hr]; exact a2⟩, ⟨ma, by rw [upd_ne n3]; exact b1, by rw [wo_upd hr]; exact b2⟩⟩
theorem LgSt.open (h : LgSt K H0 L l mv S s0 Fs Rs H) (hn : H rl = none) (s : Same H H') : LgSt K H0 (rl :: L) l mv S s0 Fs Rs H' :=
  let ⟨fa, a1, a2⟩ := h.fa
  let ⟨ma, b1, b2⟩ := h.ma
  ⟨h.same.trans s, h.inv, ⟨fa, s _ _ a1, DpAll.same (Same.woNew hn s) a2⟩, ⟨ma, s _ _ b1, DpAll.same (Same.woNew hn s) b2⟩⟩
end
section
variable {P : Program} {w : World} {K : PySem.W.Frag} {mg : Str → Option Value} {base : Heap}
theorem c__law_graph (T : Txt K mg) : Cal P w K mg base 5 "_law_graph" (spGraph K) := by
  refine T.f_law_graph.cal sc_law_graph (fun _ _ _ _ _ _ us hl => match us, hl with | [_, _, _], _ => rfl) (fun vs H Q E h => ?_) (fun f cdv A outer sh H vs Q E hr h => ?_)
  · obtain ⟨x, y, S, s0, limit, rfl, _⟩ := h
    rfl
  · obtain ⟨x, y, S, s0, limit, rfl, hx, ok, hy, hw, h4, l1, l40, q⟩ := h
    have hu65 := hu65_of hr
    refine ⟨_, (pss_cons (ps_set (i := 3) sc_law_graph.nd rfl (Or.inl rfl) (pe_lst (pa_cons (pv 1) pa_nil)))
  (pss_cons (ps_set (i := 4) sc_law_graph.nd rfl (Or.inl rfl) (pe_lst pa_nil))
  (pss_cons (ps_for PassesOwn.never rfl (pi_range1 rfl T.b_range (pa_cons (pe_op op_add (pv 2) pe_int) pa_nil)) (pg_name (i := 5) sc_law_graph.nd rfl (Or.inl rfl)) (pss_one (ps_if (PW.pt (pw_and (pt_cmpR op_lt (pv 5) (pe_callB call_len_seq (by rfl) T.b_len PyB.boot_len (pa_cons (pv 3) pa_nil)) (nomark _)) (pw_and1 (pt_cmpR op_le (pe_callB call_len_seq (by rfl) T.b_len PyB.boot_len (pa_cons (pv 3) pa_nil)) (pv 2) (nomark _))))) (pss_cons (ps_set (i := 6) sc_law_graph.nd rfl (Or.inl rfl) (pe_lst pa_nil))
  (pss_cons (ps_for PassesOwn.never rfl (pi_list (pe_c (c__law_all_after T) hr (by decide) (by rfl) (pa_cons (pv 0) (pa_cons (pe_ix ix_list (pv 3) (pv 5) (fun _ _ => rfl)) pa_nil)))) (pg_name (i := 7) sc_law_graph.nd rfl (Or.inl rfl)) (pss_cons (ps_if (pt_cmpR (op_notInD hu65) (pv 7) (pv 3) rfl) (pss_one (ps_expr (pe_bm PySem.F.plainAttrs_list PySem.F.slot_list_append PySem.F.type_list_append mt_append (pv 3) (pa_cons (pv 7) pa_nil)))) pss_nil)
  (pss_one (ps_expr (pe_bm PySem.F.plainAttrs_list PySem.F.slot_list_append PySem.F.type_list_append mt_append (pv 6) (pa_cons (pe_bm PySem.F.plainAttrs_list PySem.F.slot_list_index PySem.F.type_list_index (mt_indexD hu65) (pv 3) (pa_cons (pv 7) pa_nil)) pa_nil))))))
  (pss_one (ps_expr (pe_bm PySem.F.plainAttrs_list PySem.F.slot_list_append PySem.F.type_list_append mt_append (pv 4) (pa_cons (pv 6) pa_nil)))))) pss_nil)))
  (pss_one (ps_ret (pe_tup (pa_cons (pv 3) (pa_cons (pv 4) pa_nil)))))))), ?_⟩
    refine ⟨_, rfl, by show 1 ≤ sizeLine; decide, fun l hl => ⟨by decide, fun mv hmv => ?_⟩⟩
    have n12 : l ≠ mv := fun e => by rw [← e, upd_same] at hmv; cases hmv
    have s1 : Same H (upd H l (.lst [y])) := Same.upd hl
    have hm0 : H mv = none := s1.free hmv
    have hL : ∀ b ∈ [l, mv], H b = none := fun b hb => by
      rcases List.mem_cons.mp hb with rfl | hb
      · exact hl
      · rw [List.mem_singleton.mp hb]; exact hm0
    have s2 : Same H (upd (upd H l (.lst [y])) mv (.lst [])) := s1.trans (Same.upd hmv)
    have inv0 : LgInv S s0 [s0] [] := ⟨by simp, rfl, fun s hs => by rw [List.mem_singleton.mp hs]; exact .refl, fun i s hs => by
      match i, hs with
      | 0, e => cases e; exact ⟨hw, by omega⟩, fun k row hk => by simp at hk⟩
    have st0 : LgSt K H [l, mv] l mv S s0 [s0] [] (upd (upd H l (.lst [y])) mv (.lst [])) :=
      ⟨s2, inv0, ⟨[y], by rw [upd_ne n12]; exact upd_same, .cons (Dp.same (Same.toWo hL s2) hy) .nil⟩, ⟨_, upd_same, .nil⟩⟩
    generalize upd (upd H l (.lst [y])) mv (.lst []) = H1 at *
    refine ⟨_, rfl, _, _, rfl, rfl, _, rfl, by omega, by omega, for_range (lo := 0) (fun a σ H' => ∃ (Fs : List LSt) (Rs : List (List Int)) (v5 v6 v7 : Option V), σ = [some x, some y, some (.int limit), some (.ref l), some (.ref mv), v5, v6, v7] ∧ LgSt K H [l, mv] l mv S s0 Fs Rs H' ∧ 1 ≤ Fs.length ∧ Fs.length ≤ limit + 3 ∧ (Fs.length ≤ limit → Rs.length = min a Fs.length))
      ⟨[s0], [], none, none, none, rfl, st0, Nat.le_refl _, by show 1 ≤ limit + 3; omega, fun _ => by show 0 = min 0 1; rfl⟩ ?_ ?_⟩
    · rintro a σ H2 ha ⟨Fs, Rs, v5, v6, v7, rfl, st, lF1, lF3, hR⟩
      have ha' : a < limit + 1 := by omega
      obtain ⟨fa, hfa, dfa⟩ := st.fa
      have lfa : fa.length = Fs.length := by rw [DpAll.len dfa, List.length_map]
      refine ⟨_, rfl, _, rfl, l, _, rfl, .inl (SqL.of hfa), _, _, rfl, rfl, _, rfl, ?_⟩
      by_cases c1 : a < Fs.length
      · refine ifT (decide_eq_true (by omega)) ?_
        refine ⟨_, rfl, l, _, rfl, .inl (SqL.of hfa), _, rfl, _, _, rfl, rfl, _, rfl, ?_⟩
        by_cases c2 : Fs.length ≤ limit
        · refine ifT (decide_eq_true (by omega)) ?_
          have hRl : Rs.length = a := by rw [hR c2]; omega
          obtain ⟨s, hs⟩ : ∃ s, Fs[a]? = some s := ⟨Fs[a], List.getElem?_eq_getElem c1⟩
          obtain ⟨ws, wl⟩ := st.inv.wf a s hs
          have rs := st.inv.rch s (List.mem_of_getElem? hs)
          -- row
          refine ⟨by decide, fun rl hrl => ?_⟩
          have sR : Same H2 (upd H2 rl (.lst [])) := Same.upd hrl
          have st1 := st.open hrl sR
          have hr1 : (upd H2 rl (.lst [])) rl = some (.lst (([] : List Int).map V.int)) := upd_same
          have rl0 : H rl = none := st.same.free hrl
          have nl : l ≠ rl := fun e => by rw [← e, hfa] at hrl; cases hrl
          have nm : mv ≠ rl := fun e => by obtain ⟨_, z, _⟩ := st.ma; rw [← e, z] at hrl; cases hrl
          generalize upd H2 rl (.lst []) = H3 at *
          obtain ⟨fa3, hfa3, dfa3⟩ := st1.fa
          obtain ⟨ma3, hma3, dma3⟩ := st1.ma
          obtain ⟨z, hz, dz⟩ := DpAll.getR dfa3 (i := a) (d := dLS s) (by rw [List.getElem?_map, hs]; rfl)
          refine ⟨_, rfl, _, rfl, _, rfl, l, fa3, _, z, rfl, rfl, SqL.of hfa3, at_of (j := a) (by omega) hz, x, z, S, s, rfl, Dp.same st1.same hx, ok, Dp.same Same.ofWo dz, ws.vl, by omega, fun pa H4 s4 hpa dpa => ?_⟩
          have st4 := st1.alloc s4
          have hr4 := s4 _ _ hr1
          obtain ⟨_, xa, ea, hxa, dxa⟩ := Dp.lstI dpa
          cases ea
          have pL : pa ∉ [rl, l, mv] := fun hp => by
            rcases List.mem_cons.mp hp with rfl | hp
            · rw [hr1] at hpa; cases hpa
            · rcases List.mem_cons.mp hp with rfl | hp
              · rw [hfa3] at hpa; cases hpa
              · rw [← List.mem_singleton.mp hp, hpa] at hma3; cases hma3
          have lists : ∀ b ∈ [rl, l, mv], ∃ ys, H4 b = some (.lst ys) := fun b hb => by
            rcases List.mem_cons.mp hb with rfl | hb
            · exact ⟨_, hr4⟩
            · rcases List.mem_cons.mp hb with rfl | hb
              · exact ⟨_, s4 _ _ hfa3⟩
              · rw [List.mem_singleton.mp hb]; exact ⟨_, s4 _ _ hma3⟩
          have dG : Dp K (wo [rl, l, mv] H4) (.ref pa) (.list ((afterL S s).map dLS)) := .lst (SqL.wo pL hxa) (DpAll.woL lists dxa (noLs_map _ noL_LS _))
          have rlL : rl ∈ [rl, l, mv] := List.mem_cons_self
          have lL : l ∈ [rl, l, mv] := List.mem_cons_of_mem _ List.mem_cons_self
          have a3 := afterL_len ok s
          refine for_dlS (K := K) (l := afterL S s) (enc := dLS) dG (fun j σ H' => ∃ (r : List LSt) (row : List Int) (v7 : Option V), σ = [some x, some y, some (.int limit), some (.ref l), some (.ref mv), some (.int (0 + (a : Nat))), some (.ref rl), v7] ∧ Same (wo [rl, l, mv] H4) H' ∧ LgSt K H [rl, l, mv] l mv S s0 (Fs ++ r) Rs H' ∧
            LRow (Fs ++ r) ((afterL S s).take j) row ∧ H' rl = some (.lst (row.map V.int)) ∧ r.length ≤ j) ⟨[], [], v7, rfl, Same.ofWo, by rw [List.append_nil]; exact st4, ⟨rfl, fun j s' e => by simp at e⟩, hr4, Nat.le_refl _⟩ (fun j σ H' _ ⟨_, _, _, _, h, _⟩ => h) ?_ ?_
          · rintro j zz s' σ H5 hs' dzz ⟨r, row, v7', rfl, sG, st5, lrow, hr5, lr⟩
            have hjl := get_lt hs'
            have w' := wf_after ok ws (List.mem_of_getElem? hs')
            have r' : Rch (stpL S) s0 s' := rs.tail (List.mem_of_getElem? hs')
            obtain ⟨fa5, hfa5, dfa5⟩ := st5.fa
            have lfa5 : fa5.length = (Fs ++ r).length := by rw [DpAll.len dfa5, List.length_map]
            have lFr : (Fs ++ r).length = Fs.length + r.length := List.length_append
            have lrw : row.length ≤ 3 := by rw [lrow.1, List.length_take]; omega
            have oks : ∀ p ∈ Fs ++ r, lsOk p := fun p hp => by
              obtain ⟨i, hi⟩ := List.getElem?_of_mem hp
              exact (st5.inv.wf i p hi).1.ok ok
            have ok' := w'.1.ok ok
            rw [take_snoc hs']
            refine ⟨_, rfl, _, rfl, dLS s', (Fs ++ r).map dLS, Dp.same sG dzz, .lst (SqL.of hfa5) (DpAll.same Same.ofWo dfa5), ls_shaped ok', lss_shaped oks, _, rfl, ?_⟩
            rw [inD_LS]
            by_cases hin : s' ∈ Fs ++ r
            · refine ifF (by rw [decide_eq_true hin]; rfl) ?_
              obtain ⟨m, hm⟩ := List.getElem?_of_mem hin
              refine ⟨_, rfl, .inl ⟨rfl, _, SqL.of hr5⟩, _, rfl, .inl ⟨rfl, _, SqL.of hfa5⟩, _, rfl, ?_⟩
              refine tNil_ (ix_ls (K := K) (j := m) (.lst (SqL.of hfa5) (DpAll.same Same.ofWo dfa5)) (Dp.same sG dzz) st5.inv.nd oks hm ?_)
              refine ⟨rl, _, _, rfl, rfl, hr5, small1000 (by rw [List.length_map]; omega), ?_⟩
              have e9 : row.map V.int ++ [V.int (m : Nat)] = (row ++ [(m : Int)]).map V.int := by rw [List.map_append]; rfl
              rw [e9]
              exact ⟨r, row ++ [(m : Int)], _, rfl, Same.woPut rlL sG, st5.row rlL rl0 nl nm, lrow.snoc hm, upd_same, by omega⟩
            · refine ifT (by rw [decide_eq_false hin]; rfl) ?_
              refine ⟨_, rfl, .inl ⟨rfl, _, SqL.of hfa5⟩, _, rfl, l, fa5, _, rfl, rfl, hfa5, by rw [lfa5]; exact small1000 (by omega), ?_⟩
              have st6 : LgSt K H [rl, l, mv] l mv S s0 ((Fs ++ r) ++ [s']) Rs (upd H5 l (.lst (fa5 ++ [zz]))) := by
                obtain ⟨ma5, hma5, dma5⟩ := st5.ma
                refine ⟨Same.put hl st5.same, st5.inv.ext hin r' ⟨w'.1, by have := w'.2; omega⟩, ⟨_, upd_same, ?_⟩, ⟨ma5, by rw [upd_ne (Ne.symm n12)]; exact hma5, by rw [wo_upd lL]; exact dma5⟩⟩
                rw [wo_upd lL, List.map_append]
                exact DpAll.app dfa5 (DpAll.one (Dp.same (Same.woTo sG) dzz))
              have sG6 : Same (wo [rl, l, mv] H4) (upd H5 l (.lst (fa5 ++ [zz]))) := Same.woPut lL sG
              have hr6 : (upd H5 l (.lst (fa5 ++ [zz]))) rl = some (.lst (row.map V.int)) := by rw [upd_ne (Ne.symm nl)]; exact hr5
              have hfa6 : (upd H5 l (.lst (fa5 ++ [zz]))) l = some (.lst (fa5 ++ [zz])) := upd_same
              generalize upd H5 l (.lst (fa5 ++ [zz])) = H6 at *
              have hm : ((Fs ++ r) ++ [s'])[(Fs ++ r).length]? = some s' := by rw [List.getElem?_append_right (Nat.le_refl _), Nat.sub_self]; rfl
              have oks6 : ∀ p ∈ (Fs ++ r) ++ [s'], lsOk p := fun p hp => by
                rcases List.mem_append.mp hp with e | e
                · exact oks p e
                · rw [List.mem_singleton.mp e]; exact ok'
              obtain ⟨fa6, hfa6', dfa6⟩ := st6.fa
              refine ⟨_, rfl, .inl ⟨rfl, _, SqL.of hr6⟩, _, rfl, .inl ⟨rfl, _, SqL.of hfa6⟩, _, rfl, ?_⟩
              refine tNil_ (ix_ls (K := K) (j := (Fs ++ r).length) (.lst (SqL.of hfa6') (DpAll.same Same.ofWo dfa6)) (Dp.same sG6 dzz) st6.inv.nd oks6 hm ?_)
              refine ⟨rl, _, _, rfl, rfl, hr6, small1000 (by rw [List.length_map]; omega), ?_⟩
              have e9 : row.map V.int ++ [V.int ((Fs ++ r).length : Nat)] = (row ++ [((Fs ++ r).length : Int)]).map V.int := by rw [List.map_append]; rfl
              rw [e9]
              refine ⟨r ++ [s'], row ++ [((Fs ++ r).length : Int)], _, rfl, Same.woPut rlL sG6, ?_, ?_, upd_same, by rw [List.length_append]; exact Nat.succ_le_succ lr⟩
              · rw [← List.append_assoc]
                exact st6.row rlL rl0 nl nm
              · rw [← List.append_assoc]
                exact lrow.ext.snoc hm
          · rintro σ H5 ⟨r, row, v7', rfl, sG, st5, lrow, hr5, lr⟩
            rw [List.take_length] at lrow
            obtain ⟨ma5, hma5, dma5⟩ := st5.ma
            obtain ⟨fa5, hfa5, dfa5⟩ := st5.fa
            have lma : ma5.length = Rs.length := by rw [DpAll.len dma5, List.length_map]
            have mL : mv ∈ [l, mv] := List.mem_cons_of_mem _ List.mem_cons_self
            have rL : rl ∉ [l, mv] := fun hp => by
              rcases List.mem_cons.mp hp with e | hp
              · exact nl e.symm
              · exact nm (List.mem_singleton.mp hp).symm
            have lFr : (Fs ++ r).length = Fs.length + r.length := List.length_append
            have hs2 : (Fs ++ r)[Rs.length]? = some s := by rw [hRl]; exact get_app hs
            refine ⟨_, rfl, .inl ⟨rfl, _, SqL.of hma5⟩, _, rfl, mv, ma5, _, rfl, rfl, hma5, by rw [lma]; exact small1000 (by omega), ?_⟩
            refine ⟨Fs ++ r, Rs ++ [row], _, _, _, rfl, ?_, by omega, by omega, fun _ => by rw [List.length_append, hRl, lFr]; show a + 1 = min (a + 1) _; omega⟩
            refine ⟨Same.put hm0 st5.same, st5.inv.row hs2 lrow, ⟨fa5, by rw [upd_ne n12]; exact hfa5, by rw [wo_upd mL]; exact DpAll.same Same.woDrop dfa5⟩, ⟨_, upd_same, ?_⟩⟩
            rw [wo_upd mL, List.map_append]
            exact DpAll.app (DpAll.same Same.woDrop dma5) (DpAll.one (.lst (SqL.of (by rw [wo_ne rL]; exact hr5)) (DpAll.ofInts row)))
        · refine ifF (decide_eq_false (by omega)) ?_
          exact ⟨Fs, Rs, _, v6, v7, rfl, st, lF1, lF3, fun h => absurd h c2⟩
      · refine ifF (decide_eq_false (by omega)) ?_
        refine ifF rfl ?_
        exact ⟨Fs, Rs, _, v6, v7, rfl, st, lF1, lF3, fun h => by rw [hR h]; omega⟩
    · rintro σ H2 ⟨Fs, Rs, v5, v6, v7, rfl, st, lF1, lF3, hR⟩
      obtain ⟨fa, hfa, dfa⟩ := st.fa
      obtain ⟨ma, hma, dma⟩ := st.ma
      refine ⟨_, rfl, _, rfl, by show 2 ≤ sizeLine; decide, fun t ht => ?_⟩
      have s5 := Same.upd (o := .tup [.ref l, .ref mv]) ht
      refine q t _ (st.same.trans s5) (st.same.free ht) ⟨l, mv, Fs, Rs, SqT.of upd_same, Dp.same s5 (.lst (SqL.of hfa) (DpAll.same Same.ofWo dfa)), Dp.same s5 (.lst (SqL.of hma) (DpAll.same Same.ofWo dma)), st.inv, lF3, fun h => ?_⟩
      rw [hR h]
      omega
end
end C62
set_option Elab.async false
set_option linter.all false
set_option maxRecDepth 100000
set_option maxHeartbeats 4000000
namespace C62
open PySem PySem.Spec PyProof.Rows L2
open He (ga ma)
/-- the law's walk ahead -/
structure AhI (Rs : List (List Int)) (k a : Nat) (ss : List Nat) : Prop where
  nd : ss.Nodup
  lt : ∀ i ∈ ss, i < Rs.length
  k0 : k ∈ ss
  snd : ∀ i ∈ ss, Rch (nxt Rs) k i
  cls : ∀ (m i : Nat), m < a → ss[m]? = some i → ∀ j, nxt Rs i j → j ∈ ss
theorem mem_cast {j : Nat} {ss : List Nat} : (j : Int) ∈ castK ss ↔ j ∈ ss := by
  unfold castK
  rw [List.mem_map]
  constructor
  · rintro ⟨i, hi, e⟩
    have : i = j := by omega
    rw [← this]; exact hi
  · intro h; exact ⟨j, h, rfl⟩
def spAhead (K : PySem.W.Frag) : Sp := fun vs H Q _ => ∃ (x : V) (Rs : List (List Int)) (k : Nat), vs = [x, .int k] ∧ Dp K H x (.list (Rs.map dIntL)) ∧ (∀ row ∈ Rs, ∀ z ∈ row, ∃ j : Nat, z = j ∧ j < Rs.length) ∧ k < Rs.length ∧ Rs.length ≤ 43 ∧
  ∀ p H' (ss : List Nat), Same H H' → H p = none → Dp K H' (.ref p) (dIntL (castK ss)) → (∀ j, j ∈ ss ↔ Rch (nxt Rs) k j) → ss.length ≤ Rs.length → Q (.ref p) H'
section
variable {P : Program} {w : World} {K : PySem.W.Frag} {mg : Str → Option Value} {base : Heap}
theorem c__law_ahead (T : Txt K mg) : Cal P w K mg base 1 "_law_ahead" (spAhead K) := by
  refine T.f_law_ahead.cal sc_law_ahead (fun _ _ _ _ _ _ us hl => match us, hl with | [_, _], _ => rfl) (fun vs H Q E h => ?_) (fun f cdv A outer s H vs Q E hr h => ?_)
  · obtain ⟨x, Rs, k, rfl, _⟩ := h
    rfl
  · obtain ⟨x, Rs, k, rfl, hx, hRs, hk, h43, q⟩ := h
    obtain ⟨a, xs, rfl, ha, hxs⟩ := Dp.lstI hx
    have lxs := DpAll.mapLen hxs
    refine ⟨_, (pss_cons (ps_set (i := 2) sc_law_ahead.nd rfl (Or.inl rfl) (pe_lst (pa_cons (pv 1) pa_nil)))
  (pss_cons (ps_for PassesOwn.never rfl (pi_range1 rfl T.b_range (pa_cons (pe_callB call_len_seq (by rfl) T.b_len PyB.boot_len (pa_cons (pv 0) pa_nil)) pa_nil)) (pg_name (i := 3) sc_law_ahead.nd rfl (Or.inl rfl)) (pss_one (ps_if (pt_cmpR op_lt (pv 3) (pe_callB call_len_seq (by rfl) T.b_len PyB.boot_len (pa_cons (pv 2) pa_nil)) (nomark _)) (pss_one (ps_for PassesOwn.never rfl (pi_list (pe_ix ix_list (pv 0) (pe_ix ix_list (pv 2) (pv 3) (fun _ _ => rfl)) (fun _ _ => rfl))) (pg_name (i := 4) sc_law_ahead.nd rfl (Or.inl rfl)) (pss_one (ps_if (pt_cmpR op_notIn_seq (pv 4) (pv 2) rfl) (pss_one (ps_expr (pe_bm PySem.F.plainAttrs_list PySem.F.slot_list_append PySem.F.type_list_append mt_append (pv 2) (pa_cons (pv 4) pa_nil)))) pss_nil)))) pss_nil)))
  (pss_one (ps_ret (pv 2))))), ?_⟩
    refine ⟨_, rfl, by show 1 ≤ sizeLine; decide, fun l hl => ?_⟩
    have s1 : Same H (upd H l (.lst [.int (k : Nat)])) := Same.upd hl
    have h1 : (upd H l (.lst [.int (k : Nat)])) l = some (.lst ((castK [k]).map V.int)) := upd_same
    generalize upd H l (.lst [.int (k : Nat)]) = H1 at *
    have len_le : ∀ ss, AhI Rs k 0 ss ∨ True → ss.Nodup → (∀ i ∈ ss, i < Rs.length) → ss.length ≤ Rs.length := fun ss _ nd lt => by
      have := len_le_of_sub (M := List.range Rs.length) nd (fun i hi => List.mem_range.mpr (lt i hi))
      rw [List.length_range] at this
      exact this
    refine ⟨_, rfl, a, _, rfl, .inl (s1.seq ha), _, rfl, by omega, by omega, for_range (lo := 0) (fun i σ H' => ∃ (v3 v4 : Option V) (ss : List Nat), σ = [some (.ref a), some (.int (k : Nat)), some (.ref l), v3, v4] ∧ Same H H' ∧ H' l = some (.lst ((castK ss).map V.int)) ∧ AhI Rs k i ss)
      ⟨none, none, [k], rfl, s1, h1, by simp, fun i hi => by rw [List.mem_singleton.mp hi]; exact hk, List.mem_cons_self, fun i hi => by rw [List.mem_singleton.mp hi]; exact .refl, fun m i hm => absurd hm (Nat.not_lt_zero _)⟩ ?_ ?_⟩
    · rintro i σ H2 hi ⟨v3, v4, ss, rfl, s2, h2, ah⟩
      have lss := len_le ss (.inr trivial) ah.nd ah.lt
      have lcs : ((castK ss).map V.int).length = ss.length := by rw [List.length_map, List.length_map]
      refine ⟨_, rfl, _, rfl, l, _, rfl, .inl (SqL.of h2), _, _, rfl, rfl, _, rfl, ?_⟩
      by_cases hlt : i < ss.length
      · refine ifT (decide_eq_true (by omega)) ?_
        obtain ⟨t, ht⟩ : ∃ t, ss[i]? = some t := ⟨ss[i], List.getElem?_eq_getElem hlt⟩
        have htl := ah.lt t (List.mem_of_getElem? ht)
        obtain ⟨row, hrow⟩ : ∃ row, Rs[t]? = some row := ⟨Rs[t], List.getElem?_eq_getElem htl⟩
        obtain ⟨z, hz, dz⟩ := DpAll.getR hxs (i := t) (d := dIntL row) (by rw [List.getElem?_map, hrow]; rfl)
        have gd : Rs.getD t [] = row := by rw [List.getD_eq_getElem?_getD, hrow]; rfl
        have gt' : ((castK ss).map V.int)[i]? = some (V.int (t : Nat)) := by rw [List.getElem?_map, List.getElem?_map, ht]; rfl
        refine ⟨_, rfl, _, rfl, _, rfl, l, _, _, _, rfl, rfl, SqL.of h2, at_of (j := i) (by omega) gt', a, xs, _, z, rfl, rfl, s2.seq ha, at_of (j := t) rfl hz, for_dlS (K := K) (l := row) (enc := PyData.int) dz (fun j σ H' => ∃ (v4 : Option V) (r : List Nat), σ = [some (.ref a), some (.int (k : Nat)), some (.ref l), some (.int (0 + (i : Nat))), v4] ∧ Same H H' ∧ H' l = some (.lst ((castK (ss ++ r)).map V.int)) ∧
          (ss ++ r).Nodup ∧ (∀ i ∈ ss ++ r, i < Rs.length) ∧ (∀ i ∈ ss ++ r, Rch (nxt Rs) k i) ∧ ∀ b : Nat, (b : Int) ∈ row.take j → b ∈ ss ++ r)
          ⟨v4, [], rfl, s2, by rw [List.append_nil]; exact h2, by rw [List.append_nil]; exact ah.nd, by rw [List.append_nil]; exact ah.lt, by rw [List.append_nil]; exact ah.snd, fun b hb => by simp at hb⟩ (fun j σ H' _ ⟨_, _, _, h, _⟩ => h) ?_ ?_⟩
        · rintro j z' tg σ H3 htg dtg ⟨v4, r, rfl, s3, h3, nd3, lt3, sn3, cu3⟩
          obtain rfl := Dp.intI dtg
          have htm := List.mem_of_getElem? htg
          obtain ⟨tb, rfl, htb⟩ := hRs row (List.mem_of_getElem? hrow) tg htm
          have ls3 := len_le (ss ++ r) (.inr trivial) nd3 lt3
          have lc3 : ((castK (ss ++ r)).map V.int).length = (ss ++ r).length := by rw [List.length_map, List.length_map]
          refine ⟨_, rfl, _, rfl, l, _, rfl, .inl (SqL.of h3), rfl, flat_ints _, _, rfl, ?_⟩
          show if (!inV _ _) = true then _ else _
          rw [inV_int]
          by_cases hin : tb ∈ ss ++ r
          · refine ifF (by rw [decide_eq_true (mem_cast.mpr hin)]; rfl) ?_
            refine ⟨_, r, rfl, s3, h3, nd3, lt3, sn3, fun b hb => ?_⟩
            rw [take_snoc htg] at hb
            rcases List.mem_append.mp hb with e | e
            · exact cu3 b e
            · obtain rfl : b = tb := by have := List.mem_singleton.mp e; omega
              exact hin
          · refine ifT (by rw [decide_eq_false (fun e => hin (mem_cast.mp e))]; rfl) ?_
            refine ⟨_, rfl, .inl ⟨rfl, _, SqL.of h3⟩, _, rfl, l, _, _, rfl, rfl, h3, small1000 (by omega), ?_⟩
            have e9 : (castK (ss ++ r)).map V.int ++ [V.int (tb : Nat)] = (castK (ss ++ (r ++ [tb]))).map V.int := by
              have : castK (ss ++ (r ++ [tb])) = castK (ss ++ r) ++ [(tb : Int)] := by
                rw [← List.append_assoc]
                unfold castK
                rw [List.map_append (l₁ := ss ++ r)]; rfl
              rw [this, List.map_append (l₁ := castK (ss ++ r))]; rfl
            rw [e9]
            refine ⟨_, r ++ [tb], rfl, Same.put hl s3, upd_same, ?_, fun m hm => ?_, fun m hm => ?_, fun b hb => ?_⟩
            · rw [← List.append_assoc, List.nodup_append]
              exact ⟨nd3, by simp, fun x hx y hy e => by rw [List.mem_singleton] at hy; subst hy; subst e; exact hin hx⟩
            · rw [← List.append_assoc] at hm
              rcases List.mem_append.mp hm with e | e
              · exact lt3 m e
              · rw [List.mem_singleton.mp e]; exact htb
            · rw [← List.append_assoc] at hm
              rcases List.mem_append.mp hm with e | e
              · exact sn3 m e
              · rw [List.mem_singleton.mp e]
                exact (ah.snd t (List.mem_of_getElem? ht)).tail (by show (tb : Int) ∈ Rs.getD t []; rw [gd]; exact htm)
            · rw [← List.append_assoc]
              rw [take_snoc htg] at hb
              rcases List.mem_append.mp hb with e | e
              · exact List.mem_append_left _ (cu3 b e)
              · obtain rfl : b = tb := by have := List.mem_singleton.mp e; omega
                exact List.mem_append_right _ List.mem_cons_self
        · rintro σ H3 ⟨v4, r, rfl, s3, h3, nd3, lt3, sn3, cu3⟩
          rw [List.take_length] at cu3
          refine ⟨_, _, ss ++ r, rfl, s3, h3, nd3, lt3, List.mem_append_left _ ah.k0, sn3, fun m i' hm hi' j hj => ?_⟩
          by_cases e : m = i
          · subst e
            rw [get_app ht] at hi'
            cases hi'
            refine cu3 j ?_
            have : (j : Int) ∈ Rs.getD t [] := hj
            rw [gd] at this
            exact this
          · have hm' : m < ss.length := by omega
            rw [List.getElem?_append_left hm'] at hi'
            exact List.mem_append_left _ (ah.cls m i' (by omega) hi' j hj)
      · refine ifF (decide_eq_false (by omega)) ?_
        exact ⟨_, _, ss, rfl, s2, h2, ah.nd, ah.lt, ah.k0, ah.snd, fun m j hm hj => ah.cls m j (by have := get_lt hj; omega) hj⟩
    · rintro σ H2 ⟨v3, v4, ss, rfl, s2, h2, ah⟩
      rw [Int.toNat_natCast, lxs] at ah
      have lss := len_le ss (.inr trivial) ah.nd ah.lt
      refine ⟨_, rfl, q l H2 ss s2 hl (.lst (SqL.of h2) (DpAll.ofInts _)) (fun j => ⟨ah.snd j, fun hr => ?_⟩) lss⟩
      induction hr with
      | refl => exact ah.k0
      | tail _ e ih =>
        obtain ⟨m, hm⟩ := List.getElem?_of_mem ih
        exact ah.cls m _ (by have := get_lt hm; omega) hm _ e
end
end C62
set_option Elab.async false
set_option linter.all false
set_option maxRecDepth 100000
set_option maxHeartbeats 4000000
namespace C62
open PySem PySem.Spec PyProof.Rows L2
open He (ga ma)
def spDraws (K : PySem.W.Frag) : Sp := fun vs H Q _ => ∃ (y : Addr) (cs : List Int), vs = [.ref y, .int 250] ∧ SqL K H y (cs.map V.int) ∧ cs.length ≤ 1000000 ∧ ∀ p H', Same H H' → H p = none → LI H' p → Q (.ref p) H'
section
variable {P : Program} {w : World} {K : PySem.W.Frag} {mg : Str → Option Value} {base : Heap}
theorem c__law_draws (T : Txt K mg) : Cal P w K mg base 1 "_law_draws" (spDraws K) := by
  refine T.f_law_draws.cal sc_law_draws (fun _ _ _ _ _ _ us hl => match us, hl with | [_, _], _ => rfl) (fun vs H Q E h => ?_) (fun f cdv A outer s H vs Q E hr h => ?_)
  · obtain ⟨y, cs, rfl, _⟩ := h
    rfl
  · obtain ⟨y, cs, rfl, hy, hcs, q⟩ := h
    refine ⟨_, (pss_cons (ps_set (i := 2) sc_law_draws.nd rfl (Or.inl rfl) (pe_callTy call_list_of (by rfl) T.b_list PyB.boot_list (pa_cons (pv 0) pa_nil)))
  (pss_cons (ps_if (pt_cmpR op_eq (pe_callB call_len_seq (by rfl) T.b_len PyB.boot_len (pa_cons (pv 2) pa_nil)) pe_int (nomark _)) (pss_one (ps_set (i := 2) sc_law_draws.nd rfl (Or.inl rfl) (pe_lst (pa_cons pe_int pa_nil)))) pss_nil)
  (pss_cons (ps_set (i := 3) sc_law_draws.nd rfl (Or.inl rfl) (pe_lst pa_nil))
  (pss_cons (ps_set (i := 4) sc_law_draws.nd rfl (Or.inl rfl) pe_int)
  (pss_cons (ps_for PassesOwn.never rfl (pi_range1 rfl T.b_range (pa_cons (pv 1) pa_nil)) (pg_name (i := 5) sc_law_draws.nd rfl (Or.inl rfl)) (pss_cons (ps_set (i := 6) sc_law_draws.nd rfl (Or.inl rfl) (pe_op op_mod (pv 5) (pe_callB call_len_seq (by rfl) T.b_len PyB.boot_len (pa_cons (pv 2) pa_nil))))
  (pss_cons (ps_set (i := 7) sc_law_draws.nd rfl (Or.inl rfl) (pe_ix ix_list (pv 2) (pv 6) (fun _ _ => rfl)))
  (pss_cons (ps_set (i := 4) sc_law_draws.nd rfl (Or.inl rfl) (pe_op op_mod (pe_callTy call_int1 (by rfl) T.b_int PyB.boot_int (pa_cons (pe_op op_add (pe_op op_add (pe_op op_add (pe_op op_mul (pv 4) pe_int) (pe_op op_mul (pe_op op_mod (pe_callTy call_int1 (by rfl) T.b_int PyB.boot_int (pa_cons (pv 7) pa_nil)) pe_int) pe_int)) (pe_op op_mul (pv 5) pe_int)) pe_int) pa_nil)) pe_int))
  (pss_cons (ps_set (i := 8) sc_law_draws.nd rfl (Or.inl rfl) (pe_op op_mod (pe_callTy call_int1 (by rfl) T.b_int PyB.boot_int (pa_cons (pe_op op_add (pe_op op_add (pe_op op_mul (pv 4) (pv 4)) (pe_op op_mul pe_int (pv 4))) (pv 5)) pa_nil)) pe_int))
  (pss_one (ps_if (pt_cmpR op_ge (pv 7) (pe_op op_pow pe_int pe_int) (nomark _)) (pss_cons (ps_expr (pe_bm PySem.F.plainAttrs_list PySem.F.slot_list_append PySem.F.type_list_append mt_append (pv 3) (pa_cons (pe_op op_mod (pe_callTy call_int1 (by rfl) T.b_int PyB.boot_int (pa_cons (pv 7) pa_nil)) pe_int) pa_nil)))
  (pss_one (ps_asg (pe_op op_fdiv (pv 7) pe_int) (pg_sub (pv 2) (pv 6) set_list)))) (pss_one (ps_expr (pe_bm PySem.F.plainAttrs_list PySem.F.slot_list_append PySem.F.type_list_append mt_append (pv 3) (pa_cons (pe_op op_mod (pe_callTy call_int1 (by rfl) T.b_int PyB.boot_int (pa_cons (pv 8) pa_nil)) pe_int) pa_nil)))))))))))
  (pss_cons (ps_expr (pe_bm0 PySem.F.plainAttrs_list PySem.F.slot_list_reverse PySem.F.type_list_reverse mt_reverse (pv 3)))
  (pss_one (ps_ret (pv 3))))))))), ?_⟩
    refine ⟨_, rfl, y, _, rfl, .inl hy, fun c hc => ?_⟩
    have s1 : Same H (upd H c (.lst (cs.map V.int))) := Same.upd hc
    have h1 : (upd H c (.lst (cs.map V.int))) c = some (.lst (cs.map V.int)) := upd_same
    have hc0 : H c = none := hc
    generalize upd H c (.lst (cs.map V.int)) = H1 at *
    dsimp only [gName]
    refine seq_join (fun σ' H' => ∃ (c : Addr) (cs : List Int), σ' = [some (.ref y), some (.int 250), some (.ref c), none, none, none, none, none, none] ∧ Same H H' ∧ H c = none ∧ H' c = some (.lst (cs.map V.int)) ∧ 1 ≤ cs.length ∧ cs.length ≤ 1000000) (fun R hR => ?_) ?_
    · refine ⟨_, rfl, c, _, rfl, .inl (SqL.of h1), rfl, _, rfl, ?_⟩
      show if decide (V.int _ = V.int _) = true then _ else _
      rw [dec_int, List.length_map]
      by_cases h0 : (cs.length : Int) = 0
      · refine ifT (decide_eq_true h0) ?_
        refine ⟨by show 1 ≤ sizeLine; decide, fun c2 hc2 => ?_⟩
        exact hR _ _ ⟨c2, [7], rfl, s1.trans (Same.upd hc2), s1.free hc2, upd_same, Nat.le_refl _, by decide⟩
      · refine ifF (decide_eq_false h0) ?_
        exact hR _ _ ⟨c, cs, rfl, s1, hc0, h1, by omega, hcs⟩
    clear s1 h1 hc0 hc c H1 hcs
    rintro σ' H1 ⟨c, cs, rfl, s1, hc0, h1, lc1, lc2⟩
    refine ⟨by decide, fun l hl => ?_⟩
    have hl0 := s1.free hl
    have ncl : c ≠ l := fun e => by rw [← e, h1] at hl; cases hl
    have s2 := s1.trans (Same.upd (o := .lst []) hl)
    have h2 : (upd H1 l (.lst [])) c = some (.lst (cs.map V.int)) := by rw [upd_ne ncl]; exact h1
    have h2' : (upd H1 l (.lst [])) l = some (.lst (([] : List Int).map V.int)) := upd_same
    generalize upd H1 l (.lst []) = H2 at *
    refine ⟨_, rfl, _, rfl, by decide, by decide, for_range (lo := 0) (fun k σ H' => ∃ (m : Int) (v5 v6 v7 v8 : Option V) (cs fs : List Int), 0 ≤ m ∧ m < 2147483647 ∧ σ = [some (.ref y), some (.int 250), some (.ref c), some (.ref l), some (.int m), v5, v6, v7, v8] ∧ Same H H' ∧ H' c = some (.lst (cs.map V.int)) ∧ 1 ≤ cs.length ∧ cs.length ≤ 1000000 ∧ H' l = some (.lst (fs.map V.int)) ∧ fs.length = k)
      ⟨12345, none, none, none, none, cs, [], by decide, by decide, rfl, s2, h2, lc1, lc2, h2', rfl⟩ ?_ ?_⟩
    · rintro k σ H3 hk ⟨m, v5, v6, v7, v8, cs, fs, b0, b1, rfl, s3, h3, l1, l2, h3', lf⟩
      have hk' : k < 250 := hk
      have lcm : (cs.map V.int).length = cs.length := List.length_map ..
      have m0 := Int.emod_nonneg ((0 : Int) + (k : Nat)) (show (cs.length : Int) ≠ 0 by omega)
      have m1 := Int.emod_lt_of_pos ((0 : Int) + (k : Nat)) (show (0 : Int) < cs.length by omega)
      refine ⟨_, rfl, _, rfl, c, _, rfl, .inl (SqL.of h3), _, _, rfl, rfl, by omega, ?_⟩
      obtain ⟨jn, hjn⟩ : ∃ jn : Nat, ((0 : Int) + (k : Nat)) % ((cs.map V.int).length : Int) = (jn : Nat) := ⟨(((0 : Int) + (k : Nat)) % ((cs.map V.int).length : Int)).toNat, by rw [lcm]; omega⟩
      have hjl : jn < cs.length := by rw [lcm] at hjn; omega
      refine ⟨_, rfl, _, rfl, c, _, _, .int (cs.getD jn 0), rfl, rfl, SqL.of h3, at_of (j := jn) hjn (getD_int hjl), ?_⟩
      generalize hcell : cs.getD jn 0 = cell
      -- mixed
      refine ⟨_, rfl, _, _, rfl, rfl, .inr (by decide), ?_⟩
      refine ⟨_, rfl, .inl ⟨_, rfl, _, _, rfl, rfl, by show (0 : Int) < 1000003; decide, _, _, rfl, rfl, .inr (by decide), ?_⟩⟩
      refine ⟨_, _, rfl, rfl, _, rfl, _, _, rfl, rfl, .inr (by decide), _, _, rfl, rfl, _, _, rfl, rfl, ?_⟩
      refine .inl ⟨_, rfl, _, _, rfl, rfl, by show (0 : Int) < 2147483647; decide, ?_⟩
      have nb0 := Int.emod_nonneg (m * 48271 + cell % 1000003 * 69621 + (0 + (k : Nat)) * 7919 + 11) (show (2147483647 : Int) ≠ 0 by decide)
      have nb1 := Int.emod_lt_of_pos (m * 48271 + cell % 1000003 * 69621 + (0 + (k : Nat)) * 7919 + 11) (show (0 : Int) < 2147483647 by decide)
      -- again
      refine ⟨_, rfl, _, rfl, _, _, rfl, rfl, .inl ⟨by omega, by omega⟩, _, rfl, _, _, rfl, rfl, .inl ⟨by decide, by decide⟩, _, _, rfl, rfl, _, rfl, _, _, rfl, rfl, ?_⟩
      refine .inl ⟨_, rfl, _, _, rfl, rfl, by show (0 : Int) < 1000003; decide, ?_⟩
      -- the cell
      refine ⟨_, rfl, _, _, rfl, rfl, ⟨by decide, by decide, by decide⟩, _, _, rfl, rfl, _, rfl, ?_⟩
      by_cases hb : cell ≥ 10 ^ ((18 : Int)).toNat
      · refine ifT (decide_eq_true hb) ?_
        refine ⟨_, rfl, .inl ⟨rfl, _, SqL.of h3'⟩, _, rfl, .inl ⟨_, rfl, _, _, rfl, rfl, by show (0 : Int) < 1000; decide, ?_⟩⟩
        refine ⟨l, _, _, rfl, rfl, h3', small1000 (by rw [List.length_map]; omega), ?_⟩
        refine ⟨_, rfl, _, _, rfl, rfl, ⟨by decide, by decide⟩, _, rfl, _, rfl, c, _, _, jn, rfl, rfl, (upd_ne ncl).trans h3, (by rw [hjn]; exact ixN_nat (by rw [lcm]; exact hjl)), ?_⟩
        rw [map_set_int]
        refine ⟨_, _, _, _, _, cs.set jn (cell / 1000), fs ++ [cell % 1000], nb0, nb1, rfl, Same.put hc0 (Same.put hl0 s3), upd_same, by rw [List.length_set]; exact l1, by rw [List.length_set]; exact l2, ?_, by rw [List.length_append, lf]; rfl⟩
        rw [List.map_append]
        exact (upd_ne (Ne.symm ncl)).trans upd_same
      · refine ifF (decide_eq_false hb) ?_
        refine ⟨_, rfl, .inl ⟨rfl, _, SqL.of h3'⟩, _, rfl, .inl ⟨_, rfl, _, _, rfl, rfl, by show (0 : Int) < 1000; decide, ?_⟩⟩
        refine ⟨l, _, _, rfl, rfl, h3', small1000 (by rw [List.length_map]; omega), ?_⟩
        refine ⟨_, _, _, _, _, cs, fs ++ [(((m * 48271 + cell % 1000003 * 69621 + ((0 : Int) + (k : Nat)) * 7919 + 11) % 2147483647) * ((m * 48271 + cell % 1000003 * 69621 + ((0 : Int) + (k : Nat)) * 7919 + 11) % 2147483647) + 31 * ((m * 48271 + cell % 1000003 * 69621 + ((0 : Int) + (k : Nat)) * 7919 + 11) % 2147483647) + ((0 : Int) + (k : Nat))) % 1000003 % 1000], nb0, nb1, rfl, Same.put hl0 s3, (upd_ne ncl).trans h3, l1, l2, ?_, by rw [List.length_append, lf]; rfl⟩
        rw [List.map_append]
        exact upd_same
    · rintro σ H3 ⟨m, v5, v6, v7, v8, cs, fs, b0, b1, rfl, s3, h3, l1, l2, h3', lf⟩
      refine ⟨_, rfl, .inl ⟨rfl, _, SqL.of h3'⟩, l, _, rfl, rfl, h3', ?_⟩
      refine ⟨_, rfl, q l _ (Same.put hl0 s3) hl0 ⟨fs.reverse, by rw [← List.map_reverse]; exact upd_same⟩⟩
end
end C62
set_option Elab.async false
set_option linter.all false
set_option maxRecDepth 100000
set_option maxHeartbeats 4000000
namespace C62
open PySem PySem.Spec PyProof.Rows L2
open He (ga ma)
def AnsV (S : PartsD) (ones : List Str) (c limit : Nat) (v : V) : Prop := (∃ s, v = .str s ∧ Ans S ones c limit s) ∨ (v = .non ∧ ExpBad (netOf S) (mark0 S c) limit)
def spOutcome (K : PySem.W.Frag) : Sp := fun vs H Q _ => ∃ (x y : V) (S : PartsD) (ones : List Str) (c limit : Nat), vs = [x, y, .int c, .int limit] ∧ SysAt K H x S ∧ PartsOk S ∧ Dp K H y (dStrs ones) ∧ 1 ≤ limit ∧ limit ≤ 40 ∧
  ∀ v H', Same H H' → AnsV S ones c limit v → Q v H'
section
variable {P : Program} {w : World} {K : PySem.W.Frag} {mg : Str → Option Value} {base : Heap}
theorem c__law_outcome (T : Txt K mg) : Cal P w K mg base 7 "_law_outcome" (spOutcome K) := by
  refine T.f_law_outcome.cal sc_law_outcome (fun _ _ _ _ _ _ us hl => match us, hl with | [_, _, _, _], _ => rfl) (fun vs H Q E h => ?_) (fun f cdv A outer s H vs Q E hr h => ?_)
  · obtain ⟨x, y, S, ones, c, limit, rfl, _⟩ := h
    rfl
  · obtain ⟨x, y, S, ones, c, limit, rfl, hx, ok, hy, l1, l40, q⟩ := h
    obtain ⟨fA, fdA, psA, F, hm, kp, b⟩ := (c_agreement (P := P) (w := w) (base := base) T).ex
    refine ⟨_, pss_one (ps_try_only rfl rfl ⟨rfl, by decide, .inl T.xg_TooMany⟩ takes0 (fun W pn xe tk _ => pss_one (ps_ret (pe_callS F hr rfl hm kp b (fun σ => passAt tk σ) (pa_cons (pv 0) (pa_cons (pv 1) (pa_cons (pv 2) (pa_cons (pv 3) pa_nil))))))) (fun a oe cls d pn _ _ => pss_one (ps_ret pe_non))), ?_⟩
    refine ⟨_, rfl, _, rfl, _, rfl, _, rfl, ?_⟩
    refine ⟨x, y, S, ones, c, limit, rfl, hx, ok, hy, l1, l40, fun H' s s1 ha => q _ H' s1 (.inl ⟨s, rfl, ha⟩), fun H' s1 hB => ⟨true, T.xm_TooMany, fun _ a ha => q _ H' s1 (.inr ⟨rfl, hB⟩), fun e => by cases e⟩⟩
end
end C62
set_option Elab.async false
set_option linter.all false
set_option maxRecDepth 100000
set_option maxHeartbeats 4000000
namespace C62
open PySem PySem.Spec PyProof.Rows L2
open He (ga ma)
def YesL (ones : List Str) (Fs : List LSt) (Rs : List (List Int)) (n : Nat) : Prop := ∀ (k : Nat) s, k < n → Fs[k]? = some s → FinI Rs k → ∀ p ∈ s.ps, p ∈ ones
def NoL (ones : List Str) (Fs : List LSt) (Rs : List (List Int)) (n : Nat) : Prop := ∀ (k : Nat) s, k < n → Fs[k]? = some s → FinI Rs k → ∀ p ∈ s.ps, p ∉ ones
def Plain : Prop := ∀ (S : PartsD) (ones : List Str) (c limit : Nat) (Fs : List LSt) (Rs : List (List Int)), PartsOk S → 1 ≤ limit → LgOk S (firstL S c) limit Fs Rs →
  (limit < Fs.length → ∀ v, AnsV S ones c limit v → v = .non) ∧
  (Fs.length ≤ limit → ∀ v, AnsV S ones c limit v → ∃ s, v = .str s ∧ (YesL ones Fs Rs Rs.length → s = "yes") ∧ (¬ YesL ones Fs Rs Rs.length → NoL ones Fs Rs Rs.length → s = "no") ∧ (¬ YesL ones Fs Rs Rs.length → ¬ NoL ones Fs Rs Rs.length → s = "open"))
theorem rch_lt' {Rs : List (List Int)} (hR : ∀ row ∈ Rs, ∀ z ∈ row, ∃ j : Nat, z = j ∧ j < Rs.length) {a b : Nat} (ha : a < Rs.length) (r : Rch (nxt Rs) a b) : b < Rs.length := by
  induction r with
  | refl => exact ha
  | @tail c d _ e ih =>
    unfold nxt at e
    rw [List.getD_eq_getElem?_getD, List.getElem?_eq_getElem ih] at e
    obtain ⟨j, z, hj⟩ := hR _ (List.getElem_mem _) _ e
    omega
def spLaw (K : PySem.W.Frag) : Sp := fun vs H Q _ => ∃ (y : Addr) (cs : List Int), vs = [.ref y] ∧ SqL K H y (cs.map V.int) ∧ cs.length ≤ 1000000 ∧ ∀ H', Q (.bl true) H'
theorem five (j : Nat) (h : j < 5) : ∃ n : Nat, ([.int 1, .int 5, .int 20, .int 40, .int 40] : List V)[j]? = some (.int n) ∧ 1 ≤ n ∧ n ≤ 40 := by
  match j, h with
  | 0, _ => exact ⟨1, rfl, by decide, by decide⟩
  | 1, _ => exact ⟨5, rfl, by decide, by decide⟩
  | 2, _ => exact ⟨20, rfl, by decide, by decide⟩
  | 3, _ => exact ⟨40, rfl, by decide, by decide⟩
  | 4, _ => exact ⟨40, rfl, by decide, by decide⟩
section
variable {P : Program} {w : World} {K : PySem.W.Frag} {mg : Str → Option Value} {base : Heap}
theorem c_law (T : Txt K mg) (PL : Plain) {f : Addr} {fd : FuncData} (F : Fun K "law" "law" s_law f fd) : FnOk P w K mg base CX0 8 f fd ["_law_script"] (spLaw K) := by
  refine F.ok sc_law (fun vs H Q E h => ?_) (fun cdv A outer sh H vs Q E hr h => ?_)
  · obtain ⟨y, cs, rfl, _⟩ := h
    rfl
  · obtain ⟨y, cs, rfl, hy, hcs, q⟩ := h
    refine ⟨_, (pss_cons (ps_set (i := 1) sc_law.nd rfl (Or.inr rfl) (pe_c (c__law_draws T) hr (by decide) (by rfl) (pa_cons (pv 0) (pa_cons pe_int pa_nil))))
  (pss_cons (ps_set (i := 2) sc_law.nd rfl (Or.inl rfl) (pe_c (c__law_system T) hr (by decide) (by rfl) (pa_cons (pv 1) (pa_cons pe_int (pa_cons pe_bl pa_nil)))))
  (pss_cons (ps_set (i := 3) sc_law.nd rfl (Or.inr rfl) (pe_lc (own := [("_law_state", 14)]) (g := gName 14) rfl sc_law.nd (pi_list (pe_ix ix_tup (pv 2) pe_int (fun _ _ => rfl))) (blkOk_by (own := [("_law_state", 14)]) (N := nm_law) (sc := defScope s_law) (by decide +kernel)) (fun _ _ _ _ _ => (pg_name (i := 14) sc_law.nd rfl (Or.inl rfl))) (fun _ _ _ _ _ => pts_one (pt_cmpR op_eq (pe_c (c__law_take T) hr (by decide) (by rfl) (pa_cons (pv 1) (pa_cons pe_int pa_nil))) pe_int (nomark _))) (fun _ _ _ _ _ => (pv 14))))
  (pss_cons (ps_set (i := 4) sc_law.nd rfl (Or.inl rfl) (pe_c (c__law_take T) hr (by decide) (by rfl) (pa_cons (pv 1) (pa_cons pe_int pa_nil))))
  (pss_cons (ps_set (i := 5) sc_law.nd rfl (Or.inl rfl) (pe_ix ix_list (pe_lst (pa_cons pe_int (pa_cons pe_int (pa_cons pe_int (pa_cons pe_int (pa_cons pe_int pa_nil)))))) (pe_c (c__law_take T) hr (by decide) (by rfl) (pa_cons (pv 1) (pa_cons pe_int pa_nil))) (fun _ _ => rfl)))
  (pss_cons (ps_set (i := 6) sc_law.nd rfl (Or.inl rfl) (pe_c (c__law_outcome T) hr (by decide) (by rfl) (pa_cons (pe_c (c__law_made T) hr (by decide) (by rfl) (pa_cons (pv 2) pa_nil)) (pa_cons (pe_callTy call_list_of (by rfl) T.b_list PyB.boot_list (pa_cons (pv 3) pa_nil)) (pa_cons (pv 4) (pa_cons (pv 5) pa_nil))))))
  (pss_cons (ps_asg (pe_c (c__law_graph T) hr (by decide) (by rfl) (pa_cons (pv 2) (pa_cons (pe_c (c__law_first T) hr (by decide) (by rfl) (pa_cons (pv 2) (pa_cons (pv 4) pa_nil))) (pa_cons (pv 5) pa_nil)))) (pg_tup rfl (pgs_cons (pg_name (i := 7) sc_law.nd rfl (Or.inl rfl)) (pgs_cons (pg_name (i := 8) sc_law.nd rfl (Or.inr rfl)) pgs_nil))))
  (pss_cons (ps_if (pt_cmpR op_gt (pe_callB call_len_seq (by rfl) T.b_len PyB.boot_len (pa_cons (pv 7) pa_nil)) (pv 5) (nomark _)) (pss_one (ps_ret (pe_cmpR op_isN (pv 6) pe_non (nomark _)))) pss_nil)
  (pss_cons (ps_set (i := 9) sc_law.nd rfl (Or.inr rfl) (pe_lc (own := [("_law_k", 12)]) (g := gName 12) rfl sc_law.nd (pi_range1 rfl T.b_range (pa_cons (pe_callB call_len_seq (by rfl) T.b_len PyB.boot_len (pa_cons (pv 8) pa_nil)) pa_nil)) (blkOk_by (own := [("_law_k", 12)]) (N := nm_law) (sc := defScope s_law) (by decide +kernel)) (fun _ _ _ _ _ => (pg_name (i := 12) sc_law.nd rfl (Or.inl rfl))) (fun _ _ _ _ _ => pts_nil) (fun _ _ _ _ _ => (pe_c (c__law_ahead T) hr (by decide) (by rfl) (pa_cons (pv 8) (pa_cons (pv 12) pa_nil))))))
  (pss_cons (ps_set (i := 10) sc_law.nd rfl (Or.inl rfl) pe_bl)
  (pss_cons (ps_set (i := 11) sc_law.nd rfl (Or.inl rfl) pe_bl)
  (pss_cons (ps_for PassesOwn.never rfl (pi_range1 rfl T.b_range (pa_cons (pe_callB call_len_seq (by rfl) T.b_len PyB.boot_len (pa_cons (pv 8) pa_nil)) pa_nil)) (pg_name (i := 12) sc_law.nd rfl (Or.inr rfl)) (pss_one (ps_if (pt_cmpR op_eq (pe_callB call_len_seq (by rfl) T.b_len PyB.boot_len (pa_cons (pe_lc (own := [("_law_j", 16)]) (g := gName 16) rfl sc_law.nd (pi_list (pe_ix ix_list (pv 9) (pv 12) (fun _ _ => rfl))) (blkOk_by (own := [("_law_j", 16)]) (N := nm_law) (sc := defScope s_law) (by decide +kernel)) (fun _ _ _ _ _ => (pg_name (i := 16) sc_law.nd rfl (Or.inl rfl))) (fun _ _ _ _ _ => pts_one (pt_cmpR (op_notIn_seqK K) (pv 12) (pe_ix (ix_listK K) (pv 9) (pv 16) (fun _ _ => rfl)) rfl)) (fun _ _ _ _ _ => (pv 16))) pa_nil)) pe_int (nomark _)) (pss_cons (ps_setLc (i := 13) (own := [("_law_party", 15)]) (g := gName 15) rfl sc_law.nd rfl rfl (sw_true rfl rfl rfl (by decide +kernel)) (pi_tup (pe_ix ix_tup (pe_ix ix_list (pv 7) (pv 12) (fun _ _ => rfl)) pe_int (fun _ _ => rfl))) (blkOk_by (own := [("_law_party", 15)]) (N := nm_law) (sc := defScope s_law) (by decide +kernel)) (fun _ _ _ _ _ => (pg_name (i := 15) sc_law.nd rfl (Or.inl rfl))) (fun _ _ _ _ _ => pts_one (pt_cmpR (op_in_seqK K) (pv 15) (pv 3) rfl)) (fun _ _ _ _ _ => (pv 15)))
  (pss_cons (ps_set (i := 10) sc_law.nd rfl (Or.inl rfl) (pe_and (pv 10) (pe_one (pe_cmpR op_eq (pe_callB call_len_seq (by rfl) T.b_len PyB.boot_len (pa_cons (pv 13) pa_nil)) (pe_callB call_len_seq (by rfl) T.b_len PyB.boot_len (pa_cons (pe_ix ix_tup (pe_ix ix_list (pv 7) (pv 12) (fun _ _ => rfl)) pe_int (fun _ _ => rfl)) pa_nil)) (nomark _)))))
  (pss_one (ps_set (i := 11) sc_law.nd rfl (Or.inl rfl) (pe_and (pv 11) (pe_one (pe_cmpR op_eq (pe_callB call_len_seq (by rfl) T.b_len PyB.boot_len (pa_cons (pv 13) pa_nil)) pe_int (nomark _)))))))) pss_nil)))
  (pss_cons (ps_if (pt_val (pv 10)) (pss_one (ps_ret (pe_cmpR op_eq (pv 6) pe_str (nomark _)))) pss_nil)
  (pss_cons (ps_if (pt_val (pv 11)) (pss_one (ps_ret (pe_cmpR op_eq (pv 6) pe_str (nomark _)))) pss_nil)
  (pss_one (ps_ret (pe_cmpR op_eq (pv 6) pe_str (nomark _)))))))))))))))))), ?_⟩
    -- draws
    refine ⟨_, rfl, y, cs, rfl, hy, hcs, fun d H1 s1 hd0 d1 => ?_⟩
    -- parts
    refine ⟨_, rfl, d, rfl, d1, fun p H2 S b2 d2 hp0 dp ok => ?_⟩
    have dpW : Dp K (wo [d] H2) (.ref p) (dParts S) := Dp.same (fresh_wo d1.some) dp
    obtain ⟨_, xs, ex, hp, hxs⟩ := Dp.tupI dpW
    cases ex
    obtain ⟨u1, u2, u3, u4, u5, u6, rfl, e1, e2, e3, e4, e5, e6⟩ := DpAll.i6 hxs
    obtain ⟨a, rfl, ha⟩ := Dp.strsI e1
    have o2 := ok.s2
    have o4 := ok.s4
    -- ones
    refine ⟨_, rfl, p, _, (0 : Int), _, rfl, rfl, Same.sqT Same.ofWo hp, at_of (z := (0 : Int)) (j := 0) rfl rfl, a, rfl, ⟨_, Same.ofWo.seq ha⟩, fun D hD => ?_⟩
    have nD := d2.ne hD
    refine lc_list (K := K) (a := a) (xs := S.states.map V.str) (fun i H' => But d H2 H' ∧ LI H' d ∧ ∃ ones : List Str, GW K H2 D (ones.map PyData.str) H' ∧ ones.length ≤ i) ⟨(But.refl d H2).al hD, d2.put (Ne.symm nD), [], GW.start, Nat.le_refl _⟩ (fun i H' _ e => (e.1.wo1.trans Same.ofWo).seq ha) ?_ ?_
    · rintro i zz Hi hi ⟨b3, d3, ones, g3, lo⟩
      obtain ⟨z, hz, rfl⟩ := map_get hi
      have hilt := get_lt hi
      rw [List.length_map] at hilt
      refine ⟨rfl, ?_⟩
      refine ⟨_, rfl, d, 2, rfl, by decide, d3, fun H4 j b4 d4 hj => ⟨rfl, _, rfl, ?_⟩⟩
      show if decide (V.int _ = V.int _) = true then _ else _
      rw [dec_int]
      have g4 := g3.but b4 d2.some nD
      have b34 := b3.trans b4
      by_cases h0 : ((j : Nat) : Int) = 0
      · refine ifT (decide_eq_true h0) ?_
        obtain ⟨acc, h1, h2, g5⟩ := g4.more (.str z) (by rw [List.length_map]; omega)
        refine ⟨_, rfl, acc, h1, h2, b34.fresh hD, d4.put (Ne.symm nD), ones ++ [z], by rw [List.map_append]; exact g5, by rw [List.length_append]; exact Nat.succ_le_succ lo⟩
      · refine ifF (decide_eq_false h0) ?_
        exact ⟨b34, d4, ones, g4, Nat.le_succ_of_le lo⟩
    rintro H3 ⟨b3, d3, ones, g3, _⟩
    have gO := g3.fin hD
    -- count, limit
    refine ⟨_, rfl, d, 5, rfl, by decide, d3, fun H4 c b4 d4 hc => ?_⟩
    refine ⟨by show 5 ≤ sizeLine; decide, fun t ht => ?_⟩
    have nt := d4.ne ht
    have h5 : (upd H4 t (.lst [.int 1, .int 5, .int 20, .int 40, .int 40])) t = some (.lst [.int 1, .int 5, .int 20, .int 40, .int 40]) := upd_same
    refine ⟨_, rfl, d, 5, rfl, by decide, d4.same (Same.upd ht), fun H5 j b5 d5 hj => ?_⟩
    obtain ⟨limit, hn, l1, l40⟩ := five j hj
    refine ⟨t, _, _, .int limit, rfl, rfl, SqL.of (b5 _ _ h5 nt), at_of (j := j) rfl hn, ?_⟩
    have b35 : But d H3 H5 := (b4.al ht).trans b5
    have dP : Dp K H5 (.ref p) (dParts S) := Dp.same ((b3.trans b35).wo1.trans Same.ofWo) dpW
    have dO : Dp K H5 (.ref D) (dStrs ones) := Dp.same ((fresh_up (But.refl d H2) d2.some b35).trans Same.ofFresh) gO
    clear dpW hp hxs e1 e2 e3 e4 e5 e6 ha
    -- the answer
    refine ⟨_, rfl, _, S, rfl, dP, ok, fun v H6 s6 hS => ?_⟩
    obtain ⟨aO, eO, hO⟩ := Dp.strsI dO
    cases eO
    refine ⟨_, rfl, D, _, rfl, .inl (s6.seq hO), fun l7 hl7 => ?_⟩
    have s7 := Same.upd (o := .lst (ones.map V.str)) hl7
    have h7 : (upd H6 l7 (.lst (ones.map V.str))) l7 = some (.lst (ones.map V.str)) := upd_same
    generalize upd H6 l7 (.lst (ones.map V.str)) = H7 at *
    refine ⟨_, rfl, _, rfl, v, .ref l7, S, ones, c, limit, rfl, hS.same s7, ok, Dp.ofStrs (SqL.of h7), l1, l40, fun av H8 s8 hav => ?_⟩
    have s58 := s6.trans (s7.trans s8)
    -- the graph
    refine ⟨_, rfl, _, rfl, _, rfl, _, S, c, rfl, Dp.same s58 dP, ok, by omega, fun pf H9 s9 hpf dF => ?_⟩
    have s59 := s58.trans s9
    refine ⟨_, rfl, .ref p, .ref pf, S, firstL S c, limit, rfl, Dp.same s59 dP, ok, dF, wf_first ok c, by show (List.replicate c S.start).length ≤ 4; rw [List.length_replicate]; omega, l1, l40, fun pg HA sA hpg hg => ?_⟩
    obtain ⟨lf, lr, Fs, Rs, hpgT, dFs, dRs, lok⟩ := hg
    have s5A := s59.trans sA
    obtain ⟨pl1, pl2⟩ := PL S ones c limit Fs Rs ok l1 lok
    refine ⟨pg, _, rfl, hpgT, rfl, _, _, rfl, _, _, rfl, rfl, ?_⟩
    obtain ⟨_, xf, ef, hxf, dxf⟩ := Dp.lstI dFs
    cases ef
    obtain ⟨_, xr, er, hxr, dxr⟩ := Dp.lstI dRs
    cases er
    have lxf := DpAll.mapLen dxf
    have lxr := DpAll.mapLen dxr
    refine ⟨_, rfl, lf, _, rfl, .inl hxf, _, rfl, _, _, rfl, rfl, _, rfl, ?_⟩
    by_cases hgt : limit < Fs.length
    · refine ifT (decide_eq_true (by omega)) ?_
      refine ⟨_, rfl, rfl, ?_⟩
      show Q (.bl (decide (av = .non))) HA
      rw [decide_eq_true (pl1 hgt av hav)]
      exact q _
    refine ifF (decide_eq_false (by omega)) ?_
    have hle : Fs.length ≤ limit := by omega
    have lRs := lok.2.2 hle
    obtain ⟨ans, rfl, a1, a2, a3⟩ := pl2 hle av hav
    have hRs : ∀ row ∈ Rs, ∀ z ∈ row, ∃ j : Nat, z = j ∧ j < Rs.length := fun row hrow z hz => by
      obtain ⟨k, hk⟩ := List.getElem?_of_mem hrow
      obtain ⟨s, _, hl⟩ := lok.1.rows k row hk
      obtain ⟨j, hj⟩ := List.getElem?_of_mem hz
      have hjl := get_lt hj
      rw [hl.1] at hjl
      obtain ⟨m, g1, g2⟩ := hl.2 j _ (List.getElem?_eq_getElem hjl)
      rw [g1] at hj
      cases hj
      exact ⟨m, rfl, by rw [lRs]; exact get_lt g2⟩
    -- ahead
    refine ⟨_, rfl, lr, _, rfl, .inl hxr, _, rfl, by omega, by omega, fun DA hDA => ?_⟩
    refine lc_range (lo := 0) (fun i H' => ∃ sss : List (List Nat), Grown K HA DA (sss.map fun ss => dIntL (castK ss)) H' ∧ sss.length = i ∧ ∀ (k : Nat) ss, sss[k]? = some ss → (∀ j, j ∈ ss ↔ Rch (nxt Rs) k j) ∧ ss.length ≤ 43) ⟨[], Grown.start hDA, rfl, fun k ss h => by simp at h⟩ ?_ ?_
    · rintro i Hi hi ⟨sss, G, ls, hss⟩
      have hi' : i < Rs.length := by omega
      refine ⟨rfl, ?_⟩
      refine yesT ?_
      refine ⟨_, rfl, _, rfl, .ref lr, Rs, i, (by rw [Int.zero_add]; rfl), Dp.same G.1 dRs, hRs, hi', by omega, fun pp H' ss s' hpp dss hs lss => ?_⟩
      obtain ⟨_, ep, hsq⟩ := Dp.intLI dss
      cases ep
      have npD : pp ≠ DA := fun e => by obtain ⟨_, acc, z, _⟩ := G; rw [← e, hpp] at z; cases z
      obtain ⟨acc, hacc, lacc, G2⟩ := G.more hDA s' (d := dIntL (castK ss)) (.lst (SqL.delNe npD hsq) (DpAll.ofInts _)) (by rw [List.length_map]; omega)
      refine ⟨acc, hacc, lacc, sss ++ [ss], by rw [List.map_append]; exact G2, by rw [List.length_append, ls]; rfl, fun k ss' hk => ?_⟩
      by_cases hkl : k < sss.length
      · rw [List.getElem?_append_left hkl] at hk; exact hss k ss' hk
      · have := get_lt hk
        rw [List.length_append, List.length_singleton] at this
        obtain rfl : k = sss.length := by omega
        rw [List.getElem?_append_right (Nat.le_refl _), Nat.sub_self] at hk
        cases hk
        rw [ls]
        exact ⟨hs, by omega⟩
    rintro HB ⟨sss, GB, ls, hss⟩
    rw [Int.toNat_natCast, lxr] at ls
    have dA := GB.fin
    have sAB := GB.1
    have dFsB := Dp.same sAB dFs
    have dRsB := Dp.same sAB dRs
    have dOB := Dp.same (s5A.trans sAB) dO
    obtain ⟨_, xa, ea, hxa, dxa⟩ := Dp.lstI dA
    cases ea
    -- yes, no
    refine ⟨_, rfl, lr, _, rfl, .inl (sAB.seq hxr), _, rfl, by omega, by omega, for_range (lo := 0) (fun k σ H' => ∃ (b1 b2 : Bool) (v12 v13 : Option V), σ = [some (.ref y), some (.ref d), some (.ref p), some (.ref D), some (.int (c : Nat)), some (.int (limit : Nat)), some (.str ans), some (.ref lf), some (.ref lr), some (.ref DA), some (.bl b1), some (.bl b2), v12, v13, none, none, none] ∧ Same HB H' ∧
      (b1 = true ↔ YesL ones Fs Rs k) ∧ (b2 = true ↔ NoL ones Fs Rs k)) ⟨true, true, none, none, rfl, Same.refl _, ⟨fun _ k s h => absurd h (Nat.not_lt_zero _), fun _ => rfl⟩, ⟨fun _ k s h => absurd h (Nat.not_lt_zero _), fun _ => rfl⟩⟩ ?_ ?_⟩
    · rintro k σ H' hk ⟨b1, b2, v12, v13, rfl, sB, hb1, hb2⟩
      have hk' : k < Rs.length := by omega
      obtain ⟨sk, hsk⟩ : ∃ ss, sss[k]? = some ss := ⟨sss[k]'(by omega), List.getElem?_eq_getElem _⟩
      obtain ⟨hk1, hk2⟩ := hss k sk hsk
      obtain ⟨st, hst⟩ : ∃ s, Fs[k]? = some s := ⟨Fs[k]'(by omega), List.getElem?_eq_getElem _⟩
      obtain ⟨wst, wl⟩ := lok.1.wf k st hst
      have sAx := sB.seq hxa
      obtain ⟨z, hz, dz⟩ := DpAll.getR dxa (i := k) (d := dIntL (castK sk)) (by rw [List.getElem?_map, hsk]; rfl)
      refine ⟨_, rfl, _, rfl, DA, _, _, z, rfl, rfl, sAx, at_of (j := k) (by omega) hz, lc_dl (K := K) (vs := [16]) (l := castK sk) (enc := PyData.int) (Dp.same sB dz) (by rw [List.length_map]; omega) (fun z => if (!decide (k ∈ sss.getD z.toNat [])) = true then some (.int z) else none) ?_ ?_⟩
      · intro D' hD' j zz jz hj dzz Hi R N s2 nD' hR hN
        obtain rfl := Dp.intI dzz
        have hjm := List.mem_of_getElem? hj
        obtain ⟨jn, hjn, rfl⟩ := List.mem_map.mp hjm
        have hjlt : jn < Rs.length := rch_lt' hRs hk' ((hk1 jn).mp hjn)
        obtain ⟨sj, hsj⟩ : ∃ ss, sss[jn]? = some ss := ⟨sss[jn]'(by omega), List.getElem?_eq_getElem _⟩
        obtain ⟨zj, hzj, dzj⟩ := DpAll.getR dxa (i := jn) (d := dIntL (castK sj)) (by rw [List.getElem?_map, hsj]; rfl)
        obtain ⟨aj, rfl, haj⟩ := Dp.intLI dzj
        have gj : sss.getD ((jn : Nat) : Int).toNat [] = sj := by rw [Int.toNat_natCast, List.getD_eq_getElem?_getD, hsj]; rfl
        have sB2 := sB.trans s2
        refine ⟨rfl, ?_⟩
        refine ⟨_, rfl, _, rfl, _, rfl, DA, _, _, .ref aj, rfl, rfl, sB2.seq hxa, at_of (j := jn) rfl hzj, aj, _, rfl, .inl (sB2.seq haj), rfl, flat_ints _, _, rfl, ?_⟩
        show if (!inV _ _) = true then _ else _
        rw [inV_int, Int.zero_add]
        by_cases hin : k ∈ sj
        · exact ifF (by rw [decide_eq_true (mem_cast.mpr hin)]; rfl) (hN _ (if_neg (by rw [gj, decide_eq_true hin]; exact Bool.false_ne_true)) (Same.refl _))
        · refine ifT (by rw [decide_eq_false (fun e => hin (mem_cast.mp e))]; rfl) ?_
          exact ⟨_, rfl, hR _ _ _ (if_pos (by rw [gj, decide_eq_false hin]; rfl)) (Same.refl _) (.int _)⟩
      intro D2 H2 s2 hD2 d2'
      have fin : ((castK sk).filterMap (fun z => if (!decide (k ∈ sss.getD z.toNat [])) = true then some (PyData.int z) else none)).length = 0 ↔ FinI Rs k := by
        rw [List.length_eq_zero_iff, List.filterMap_eq_nil_iff]
        constructor
        · intro h j hj
          have hjs := (hk1 j).mpr hj
          have h1 := h (j : Int) (mem_cast.mpr hjs)
          have hjlt : j < Rs.length := rch_lt' hRs hk' hj
          obtain ⟨sj, hsj⟩ : ∃ ss, sss[j]? = some ss := ⟨sss[j]'(by omega), List.getElem?_eq_getElem _⟩
          have gj : sss.getD ((j : Nat) : Int).toNat [] = sj := by rw [Int.toNat_natCast, List.getD_eq_getElem?_getD, hsj]; rfl
          rw [gj] at h1
          by_cases hin : k ∈ sj
          · exact ((hss j sj hsj).1 k).mp hin
          · rw [decide_eq_false hin] at h1; cases h1
        · intro h zz hzz
          obtain ⟨j, hjs, rfl⟩ := List.mem_map.mp hzz
          have hj := (hk1 j).mp hjs
          have hjlt : j < Rs.length := rch_lt' hRs hk' hj
          obtain ⟨sj, hsj⟩ : ∃ ss, sss[j]? = some ss := ⟨sss[j]'(by omega), List.getElem?_eq_getElem _⟩
          have gj : sss.getD ((j : Nat) : Int).toNat [] = sj := by rw [Int.toNat_natCast, List.getD_eq_getElem?_getD, hsj]; rfl
          rw [gj]
          have := ((hss j sj hsj).1 k).mpr (h j hj)
          rw [decide_eq_true this]; rfl
      generalize (castK sk).filterMap (fun z => if (!decide (k ∈ sss.getD z.toNat [])) = true then some (PyData.int z) else none) = js at *
      obtain ⟨_, ys, e2', h2', hys⟩ := Dp.lstI d2'
      cases e2'
      have lys := DpAll.len hys
      have sB2 := sB.trans s2
      refine ⟨D2, _, rfl, .inl h2', rfl, _, rfl, ?_⟩
      show if decide (V.int _ = V.int _) = true then _ else _
      rw [dec_int]
      by_cases hf : js.length = 0
      · refine ifT (decide_eq_true (by omega)) ?_
        have hfin := fin.mp hf
        obtain ⟨zf, hzf, dzf⟩ := DpAll.getR (DpAll.same (sAB.trans sB2) dxf) (i := k) (d := dLS st) (by rw [List.getElem?_map, hst]; rfl)
        obtain ⟨g, zs, rfl, hg, hzs⟩ := Dp.tupI dzf
        obtain ⟨w1, w2, w3, rfl, m1, m2, m3⟩ := DpAll.i3 hzs
        obtain ⟨ap, rfl, hap⟩ := Dp.strTI m1
        have hxf2 := (sAB.trans sB2).seq hxf
        have hO2 := (s5A.trans (sAB.trans sB2)).seq hO
        -- inside
        refine ⟨_, rfl, _, rfl, lf, _, _, .ref g, rfl, rfl, hxf2, at_of (j := k) (by omega) hzf, g, _, (0 : Int), _, rfl, rfl, hg, at_of (z := (0 : Int)) (j := 0) rfl rfl, lc_dt (K := K) (vs := [15]) m1 (by omega) (fun x => if decide (x ∈ ones) = true then some (.str x) else none) ?_ ?_⟩
        · intro D' hD' j zz x hx' dzz Hi R N s3 nD' hR hN
          obtain rfl := Dp.strI dzz
          refine ⟨rfl, ?_⟩
          refine ⟨_, rfl, _, rfl, D, _, rfl, .inl (s3.seq hO2), rfl, flat_strs _, _, rfl, ?_⟩
          show if inV _ _ = true then _ else _
          rw [inV_str]
          by_cases hin : x ∈ ones
          · refine ifT (decide_eq_true hin) ?_
            exact ⟨_, rfl, hR _ _ _ (if_pos (decide_eq_true hin)) (Same.refl _) (.str _)⟩
          · exact ifF (decide_eq_false hin) (hN _ (if_neg (by rw [decide_eq_false hin]; exact Bool.false_ne_true)) (Same.refl _))
        intro D3 H3' s3 hD3 d3'
        rw [fm_if (fun (x : Str) => PyData.str x) (fun x => decide (x ∈ ones))] at d3'
        obtain ⟨_, e3', h3'⟩ := Dp.strsI d3'
        cases e3'
        have lin : ((st.ps.filter fun x => decide (x ∈ ones)).map V.str).length = (st.ps.filter fun x => decide (x ∈ ones)).length := List.length_map ..
        have lps : (st.ps.map V.str).length = st.ps.length := List.length_map ..
        have iy : (st.ps.filter fun x => decide (x ∈ ones)).length = st.ps.length ↔ ∀ p ∈ st.ps, p ∈ ones := by
          rw [List.length_filter_eq_length_iff]
          exact ⟨fun h p hp => of_decide_eq_true (h p hp), fun h p hp => decide_eq_true (h p hp)⟩
        have ino : (st.ps.filter fun x => decide (x ∈ ones)).length = 0 ↔ ∀ p ∈ st.ps, p ∉ ones := by
          rw [List.length_eq_zero_iff, List.filter_eq_nil_iff]
          exact ⟨fun h p hp e => h p hp (decide_eq_true e), fun h p hp e => h p hp (of_decide_eq_true e)⟩
        have ysucc : YesL ones Fs Rs (k + 1) ↔ YesL ones Fs Rs k ∧ ∀ p ∈ st.ps, p ∈ ones := by
          constructor
          · intro h
            exact ⟨fun j s hj => h j s (by omega), h k st (Nat.lt_succ_self _) hst hfin⟩
          · rintro ⟨h, h'⟩ j s hj hs hfj
            by_cases e : j = k
            · subst e; rw [hst] at hs; cases hs; exact h'
            · exact h j s (by omega) hs hfj
        have nsucc : NoL ones Fs Rs (k + 1) ↔ NoL ones Fs Rs k ∧ ∀ p ∈ st.ps, p ∉ ones := by
          constructor
          · intro h
            exact ⟨fun j s hj => h j s (by omega), h k st (Nat.lt_succ_self _) hst hfin⟩
          · rintro ⟨h, h'⟩ j s hj hs hfj
            by_cases e : j = k
            · subst e; rw [hst] at hs; cases hs; exact h'
            · exact h j s (by omega) hs hfj
        have sB3 := sB2.trans s3
        dsimp only [gName]
        refine seq_join (fun σ' H' => ∃ b1' : Bool, σ' = [some (.ref y), some (.ref d), some (.ref p), some (.ref D), some (.int (c : Nat)), some (.int (limit : Nat)), some (.str ans), some (.ref lf), some (.ref lr), some (.ref DA), some (.bl b1'), some (.bl b2), some (.int (0 + (k : Nat))), some (.ref D3), none, none, none] ∧ H' = H3' ∧ (b1' = true ↔ YesL ones Fs Rs (k + 1))) (fun R hR => ?_) ?_
        · refine ⟨_, rfl, _, rfl, ?_⟩
          cases b1 with
          | false =>
            refine iteF ?_
            exact hR _ _ ⟨false, rfl, rfl, ⟨fun h => (by cases h), fun h => hb1.mpr (ysucc.mp h).1⟩⟩
          | true =>
            refine iteT ?_
            refine ⟨_, rfl, D3, _, rfl, .inl h3', _, rfl, _, rfl, lf, _, _, .ref g, rfl, rfl, s3.seq hxf2, at_of (j := k) (by omega) hzf, g, _, (0 : Int), _, rfl, rfl, Same.sqT s3 hg, at_of (z := (0 : Int)) (j := 0) rfl rfl, ap, _, rfl, .inr (Same.sqT s3 hap), rfl, ?_⟩
            refine hR _ _ ⟨decide (V.int _ = V.int _), rfl, rfl, ?_⟩
            rw [dec_int, lin, lps, decide_eq_true_iff, ysucc, ← iy]
            exact ⟨fun h => ⟨hb1.mp rfl, by omega⟩, fun h => by have := h.2; omega⟩
        rintro σ' _ ⟨b1', rfl, rfl, hb1'⟩
        refine ⟨_, rfl, _, rfl, ?_⟩
        cases b2 with
        | false =>
          refine iteF ?_
          exact ⟨b1', false, _, _, rfl, sB3, hb1', ⟨fun h => (by cases h), fun h => hb2.mpr (nsucc.mp h).1⟩⟩
        | true =>
          refine iteT ?_
          refine ⟨_, rfl, D3, _, rfl, .inl h3', rfl, ?_⟩
          refine ⟨b1', decide (V.int _ = V.int _), _, _, rfl, sB3, hb1', ?_⟩
          rw [dec_int, lin, decide_eq_true_iff, nsucc, ← ino]
          exact ⟨fun h => ⟨hb2.mp rfl, by omega⟩, fun h => by have := h.2; omega⟩
      · refine ifF (decide_eq_false (by omega)) ?_
        have nf : ¬ FinI Rs k := fun h => hf (fin.mpr h)
        refine ⟨b1, b2, _, _, rfl, sB2, hb1.trans ?_, hb2.trans ?_⟩
        · exact ⟨fun h j s hj hs hfj => h j s (by by_cases e : j = k; (subst e; exact absurd hfj nf); omega) hs hfj, fun h j s hj => h j s (by omega)⟩
        · exact ⟨fun h j s hj hs hfj => h j s (by by_cases e : j = k; (subst e; exact absurd hfj nf); omega) hs hfj, fun h j s hj => h j s (by omega)⟩
    · rintro σ H' ⟨b1, b2, v12, v13, rfl, sB, hb1, hb2⟩
      rw [Int.toNat_natCast, lxr] at hb1 hb2
      refine ⟨_, rfl, _, rfl, ?_⟩
      cases b1 with
      | true =>
        refine ifT rfl ?_
        refine ⟨_, rfl, rfl, ?_⟩
        show Q (.bl (decide (V.str ans = V.str "yes"))) H'
        rw [dec_str, decide_eq_true (a1 (hb1.mp rfl))]
        exact q _
      | false =>
        have ny : ¬ YesL ones Fs Rs Rs.length := fun h => by have := hb1.mpr h; cases this
        refine ifF rfl ?_
        refine ⟨_, rfl, _, rfl, ?_⟩
        cases b2 with
        | true =>
          refine ifT rfl ?_
          refine ⟨_, rfl, rfl, ?_⟩
          show Q (.bl (decide (V.str ans = V.str "no"))) H'
          rw [dec_str, decide_eq_true (a2 ny (hb2.mp rfl))]
          exact q _
        | false =>
          have nn : ¬ NoL ones Fs Rs Rs.length := fun h => by have := hb2.mpr h; cases this
          refine ifF rfl ?_
          refine ⟨_, rfl, rfl, ?_⟩
          show Q (.bl (decide (V.str ans = V.str "open"))) H'
          rw [dec_str, decide_eq_true (a3 ny nn)]
          exact q _
end
end C62
set_option Elab.async false
set_option linter.all false
set_option maxHeartbeats 4000000
namespace C62
open PySem PySem.Spec PyProof.Rows L2
/-! ### tokens -/
def tokP (ps : List Str) : List Pr := ps.map fun p => (("" : Str), p)
def tokV (S : PartsD) (vs : List Str) : List Pr := (S.vars.map (·.1)).zip vs
def toks (S : PartsD) (s : LSt) : List Pr := tokP s.ps ++ tokV S s.vs
def mark (S : PartsD) (s : LSt) : List Int := cnt (placesOf S) (toks S s)
theorem cnt_get {ps ns : List Pr} {i : Nat} {q : Pr} (h : ps[i]? = some q) : (cnt ps ns)[i]? = some ((ns.count q : Nat) : Int) := by
  unfold cnt; rw [List.getElem?_map, h]; rfl
theorem cnt_getD {ps ns : List Pr} {i : Nat} {q : Pr} (h : ps[i]? = some q) : (cnt ps ns).getD i 0 = ((ns.count q : Nat) : Int) := by
  rw [List.getD_eq_getElem?_getD, cnt_get h]; rfl
theorem cnt_congr {ps a b : List Pr} (h : ∀ q ∈ ps, a.count q = b.count q) : cnt ps a = cnt ps b :=
  List.map_congr_left fun q hq => by rw [h q hq]
theorem cnt_perm {ps a b : List Pr} (h : a.Perm b) : cnt ps a = cnt ps b := cnt_congr fun q _ => h.count_eq q
theorem cnt_inj {ps a b : List Pr} (h : cnt ps a = cnt ps b) : ∀ q ∈ ps, a.count q = b.count q := fun q hq => by
  obtain ⟨i, hi⟩ := List.getElem?_of_mem hq
  have h1 := cnt_get (ns := a) hi
  have h2 := cnt_get (ns := b) hi
  rw [h, h2] at h1
  have := Option.some.inj h1
  omega
theorem covers_iff {ps a b : List Pr} : coversB (cnt ps a) (cnt ps b) = true ↔ ∀ q ∈ ps, b.count q ≤ a.count q := by
  constructor
  · intro h q hq
    obtain ⟨i, hi⟩ := List.getElem?_of_mem hq
    have hlt : i < (cnt ps a).length := by rw [cnt_len]; exact get_lt hi
    have := of_decide_eq_true (List.all_eq_true.mp h i (List.mem_range.mpr hlt))
    rw [cnt_getD hi, cnt_getD hi] at this
    omega
  · intro h
    refine coversB_t fun j hj => ?_
    rw [cnt_len] at hj
    have hq : ps[j]? = some ps[j] := List.getElem?_eq_getElem hj
    rw [cnt_getD hq, cnt_getD hq]
    have := h ps[j] (List.getElem_mem hj)
    omega
/-! ### firing moves the rest -/
def encM (ps : List Pr) : Option Pr → Int
  | none => -1
  | some q => (ps.idxOf q : Int)
/-- the rest at the first k places -/
def atK (ps : List Pr) (k : Nat) (rest : List Pr) : List Pr := rest.filter fun p => decide (p ∈ ps.take k)
theorem count_filterMap_split {mv : Pr → Option Pr} {p : Pr} (l m : List Pr) (h : ∀ x ∈ l, x ≠ p) (q : Pr) : True := trivial
theorem filter_perm {α : Type} [DecidableEq α] (f g : α → Bool) : ∀ l : List α, (∀ x ∈ l, f x = true → g x = false) → (l.filter fun x => f x || g x).Perm (l.filter f ++ l.filter g)
  | [], _ => List.Perm.nil
  | x :: l, h => by
    have ih := filter_perm f g l fun y hy => h y (List.mem_cons_of_mem _ hy)
    cases hf : f x with
    | true =>
      have hg := h x List.mem_cons_self hf
      rw [List.filter_cons_of_pos (by simp [hf]), List.filter_cons_of_pos hf, List.filter_cons_of_neg (by simp [hg])]
      exact ih.cons x
    | false =>
      cases hg : g x with
      | true =>
        rw [List.filter_cons_of_pos (by simp [hg]), List.filter_cons_of_neg (by simp [hf]), List.filter_cons_of_pos hg]
        exact (ih.cons x).trans List.perm_middle.symm
      | false =>
        rw [List.filter_cons_of_neg (by simp [hf, hg]), List.filter_cons_of_neg (by simp [hf]), List.filter_cons_of_neg (by simp [hg])]
        exact ih
theorem filter_eq_rep (p : Pr) : ∀ l : List Pr, (l.filter fun x => decide (x = p)) = List.replicate (l.count p) p
  | [] => rfl
  | x :: l => by
    by_cases e : x = p
    · subst e
      rw [List.filter_cons_of_pos (by simp), filter_eq_rep, List.count_cons_self, List.replicate_succ]
    · rw [List.filter_cons_of_neg (by simp [e]), filter_eq_rep, List.count_cons_of_ne e]
theorem atK_succ {ps : List Pr} (nd : ps.Nodup) {k : Nat} {p : Pr} (hp : ps[k]? = some p) (rest : List Pr) : (atK ps (k + 1) rest).Perm (atK ps k rest ++ List.replicate (rest.count p) p) := by
  have e : atK ps (k + 1) rest = rest.filter fun x => decide (x ∈ ps.take k) || decide (x = p) := by
    unfold atK
    rw [take_snoc hp]
    congr 1
    funext x
    by_cases h1 : x ∈ ps.take k
    · rw [decide_eq_true h1, decide_eq_true (List.mem_append_left _ h1)]; rfl
    · rw [decide_eq_false h1, Bool.false_or]
      by_cases h2 : x = p
      · subst h2; rw [decide_eq_true rfl]; exact decide_eq_true (List.mem_append_right _ List.mem_cons_self)
      · rw [decide_eq_false h2]
        exact decide_eq_false fun z => (List.mem_append.mp z).elim h1 fun z => h2 (List.mem_singleton.mp z)
  rw [e, ← filter_eq_rep]
  refine filter_perm _ _ _ fun x _ hx => ?_
  refine decide_eq_false fun e => ?_
  subst e
  obtain ⟨j, hj⟩ := List.getElem?_of_mem (of_decide_eq_true hx)
  have hjk := get_lt hj
  rw [List.length_take] at hjk
  rw [List.getElem?_take_of_lt (by omega)] at hj
  have := nd_ix nd hj hp
  omega
theorem fm_rep {mv : Pr → Option Pr} {p : Pr} : ∀ c : Nat, (List.replicate c p).filterMap mv = match mv p with
    | none => []
    | some q => List.replicate c q
  | 0 => by cases mv p <;> rfl
  | c + 1 => by
    rw [List.replicate_succ, List.filterMap_cons]
    have := fm_rep (mv := mv) (p := p) c
    cases h : mv p with
    | none => rw [h] at this; exact this
    | some q => rw [h] at this; simp only [this, List.replicate_succ]
theorem cnt_rep {ps ns : List Pr} (nd : ps.Nodup) {q : Pr} (hq : q ∈ ps) (c : Nat) : cnt ps (ns ++ List.replicate c q) = (cnt ps ns).set (ps.idxOf q) ((cnt ps ns).getD (ps.idxOf q) 0 + (c : Int)) := by
  obtain ⟨h1, h2⟩ := idx_of nd hq
  apply List.ext_getElem?
  intro i
  by_cases hi : i = ps.idxOf q
  · subst hi
    rw [List.getElem?_set_self (by rw [cnt_len]; exact h2), cnt_get h1, cnt_getD h1, List.count_append, List.count_replicate_self]
    exact congrArg some (by omega)
  · rw [List.getElem?_set_ne (Ne.symm hi)]
    unfold cnt
    rw [List.getElem?_map, List.getElem?_map]
    cases e : ps[i]? with
    | none => rfl
    | some p =>
      have : q ≠ p := fun z => hi (nd_ix nd e (z ▸ h1))
      show some (((ns ++ List.replicate c q).count p : Nat) : Int) = some ((ns.count p : Nat) : Int)
      rw [List.count_append, List.count_replicate, if_neg (by simpa using this)]
      rfl
theorem fire_cnt {ps : List Pr} (nd : ps.Nodup) {tk gv tok rest : List Pr} {mv : Pr → Option Pr} {mvl : List Int} (ht : tok.Perm (tk ++ rest)) (hr : ∀ p ∈ rest, p ∈ ps)
    (hm : ∀ (i : Nat) p, ps[i]? = some p → mvl.getD i 0 = encM ps (mv p)) (hmv : ∀ p q, p ∈ ps → mv p = some q → q ∈ ps) :
    fireM ps.length (cnt ps tok) (cnt ps tk, cnt ps gv, mvl) = cnt ps (gv ++ rest.filterMap mv) := by
  have step : ∀ k, k ≤ ps.length → (List.range k).foldl (fireStep (cnt ps tok) (cnt ps tk) mvl) (cnt ps gv) = cnt ps (gv ++ (atK ps k rest).filterMap mv) := by
    intro k
    induction k with
    | zero =>
      intro _
      have : atK ps 0 rest = [] := List.filter_eq_nil_iff.mpr fun x _ => by simp
      rw [this, List.filterMap_nil, List.append_nil]; rfl
    | succ k ih =>
      intro hk
      rw [List.range_succ, List.foldl_append, ih (by omega)]
      have hp : ps[k]? = some ps[k] := List.getElem?_eq_getElem (by omega)
      have hpm : ps[k] ∈ ps := List.getElem_mem _
      have hperm := ((atK_succ nd hp rest).filterMap mv)
      rw [List.filterMap_append, fm_rep] at hperm
      show fireStep _ _ _ _ k = _
      rw [cnt_perm (hperm.append_left gv)]
      unfold fireStep
      rw [hm k _ hp]
      have hcnt : tok.count ps[k] = tk.count ps[k] + rest.count ps[k] := by rw [ht.count_eq, List.count_append]
      cases e : mv ps[k] with
      | none =>
        show (if (-1 : Int) = -1 then _ else _) = _
        rw [if_pos rfl]
        simp only [List.append_nil]
      | some q =>
        have hq := hmv _ _ hpm e
        have hi : (ps.idxOf q : Int) ≠ -1 := by omega
        show (if (ps.idxOf q : Int) = -1 then _ else _) = _
        rw [if_neg hi, ← List.append_assoc, cnt_rep nd hq]
        have et : (encM ps (some q)).toNat = ps.idxOf q := Int.toNat_natCast _
        rw [et, cnt_getD hp, cnt_getD hp]
        congr 1
        omega
  have := step ps.length (Nat.le_refl _)
  have e : atK ps ps.length rest = rest := List.filter_eq_self.mpr fun x hx => by rw [List.take_length]; exact decide_eq_true (hr x hx)
  rw [e] at this
  exact this
end C62
set_option Elab.async false
set_option linter.all false
set_option maxHeartbeats 4000000
namespace C62
open PySem PySem.Spec PyProof.Rows L2
/-! ### who acts -/
theorem cntF {f : Nat → Str} {st : Str} : ∀ l : List Nat, (l.map f).count st = (l.filter fun i => decide (f i = st)).length
  | [] => rfl
  | i :: l => by
    rw [List.map_cons]
    by_cases e : f i = st
    · rw [e, List.count_cons_self, cntF l, List.filter_cons_of_pos (by simpa using e), List.length_cons]
    · rw [List.count_cons_of_ne e, cntF l, List.filter_cons_of_neg (by simpa using e)]
abbrev atP (ps : List Str) (k : Nat) : Str := ps.getD k ""
theorem range_at (ps : List Str) : (List.range ps.length).map (atP ps) = ps := by
  apply List.ext_getElem?
  intro i
  rw [List.getElem?_map]
  by_cases h : i < ps.length
  · rw [List.getElem?_range h, List.getElem?_eq_getElem h]
    show some (ps.getD i "") = _
    rw [List.getD_eq_getElem?_getD, List.getElem?_eq_getElem h]; rfl
  · rw [List.getElem?_eq_none (by rw [List.length_range]; omega), List.getElem?_eq_none (by omega)]; rfl
def cntA (st : Str) (l : List Pr) : Nat := (l.map (·.1)).count st
structure Pk (ps : List Str) (l : List Pr) (is : List Nat) : Prop where
  nd : is.Nodup
  lt : ∀ i ∈ is, i < ps.length
  at_ : is.map (atP ps) = l.map (·.1)
theorem Pk.le {ps : List Str} {l : List Pr} {is : List Nat} (h : Pk ps l is) (st : Str) : cntA st l ≤ ps.count st := by
  unfold cntA
  rw [← h.at_, cntF]
  have e : ps.count st = ((List.range ps.length).filter fun i => decide (atP ps i = st)).length := by rw [← cntF, range_at]
  rw [e]
  refine len_le_of_sub (h.nd.sublist (List.filter_sublist)) fun i hi => ?_
  obtain ⟨h1, h2⟩ := List.mem_filter.mp hi
  exact List.mem_filter.mpr ⟨List.mem_range.mpr (h.lt i h1), h2⟩
theorem cast_snoc (is : List Nat) (i : Nat) : castK (is ++ [i]) = castK is ++ [(i : Int)] := by unfold castK; rw [List.map_append]; rfl
theorem greedy_step (ps : List Str) (l : List Pr) : ∀ k, k ≤ l.length → (∃ is, (l.take k).foldl (gstep ps) [] = castK is ∧ Pk ps (l.take k) is) ∨ ((-1 : Int) ∈ (l.take k).foldl (gstep ps) [] ∧ ∃ st, ps.count st < cntA st (l.take k)) := by
  intro k
  induction k with
  | zero => intro _; exact .inl ⟨[], rfl, List.nodup_nil, fun i h => (by cases h), rfl⟩
  | succ k ih =>
    intro hk
    have ha : l[k]? = some l[k] := List.getElem?_eq_getElem (by omega)
    generalize l[k] = a at ha
    rw [fold_snoc ha, take_snoc ha]
    rcases ih (by omega) with ⟨is, e, pk⟩ | ⟨hm, st, hst⟩
    · rw [e]
      unfold gstep
      cases hf : fitsK ps (castK is) a.1 with
      | nil =>
        right
        have hp : pick ps (castK is) a.1 = -1 := by unfold pick; rw [hf]; rfl
        refine ⟨by rw [hp]; exact List.mem_append_right _ List.mem_cons_self, a.1, ?_⟩
        have e1 : cntA a.1 (l.take k ++ [a]) = cntA a.1 (l.take k) + 1 := by
          unfold cntA
          rw [List.map_append, List.count_append, List.map_singleton, List.count_singleton_self]
        rw [e1]
        unfold cntA
        rw [← pk.at_, cntF]
        have e2 : ps.count a.1 = ((List.range ps.length).filter fun i => decide (atP ps i = a.1)).length := by rw [← cntF, range_at]
        rw [e2]
        refine Nat.lt_succ_of_le (len_le_of_sub (List.nodup_range.sublist (List.filter_sublist)) fun i hi => ?_)
        obtain ⟨h1, h2⟩ := List.mem_filter.mp hi
        refine List.mem_filter.mpr ⟨?_, h2⟩
        by_cases q : i ∈ is
        · exact q
        · have : i ∈ fitsK ps (castK is) a.1 := List.mem_filter.mpr ⟨h1, by
            rw [Bool.and_eq_true]
            exact ⟨h2, by rw [decide_eq_false (fun z => q (mem_cast.mp z))]; rfl⟩⟩
          rw [hf] at this
          cases this
      | cons i r =>
        left
        have hi : i ∈ fitsK ps (castK is) a.1 := by rw [hf]; exact List.mem_cons_self
        obtain ⟨h1, h2⟩ := List.mem_filter.mp hi
        rw [Bool.and_eq_true] at h2
        have hp : pick ps (castK is) a.1 = (i : Int) := by unfold pick; rw [hf]; rfl
        have hn : i ∉ is := fun z => by
          have := h2.2
          rw [decide_eq_true (mem_cast.mpr z)] at this
          cases this
        refine ⟨is ++ [i], by rw [hp, cast_snoc], ?_, fun j hj => ?_, ?_⟩
        · rw [List.nodup_append]
          exact ⟨pk.nd, by simp, fun x hx y hy e => by rw [List.mem_singleton] at hy; subst hy; subst e; exact hn hx⟩
        · rcases List.mem_append.mp hj with z | z
          · exact pk.lt j z
          · rw [List.mem_singleton.mp z]; exact List.mem_range.mp h1
        · rw [List.map_append, List.map_append, pk.at_, List.map_singleton, List.map_singleton, show atP ps i = a.1 from of_decide_eq_true h2.1]
    · right
      refine ⟨List.mem_append_left _ hm, st, Nat.lt_of_lt_of_le hst ?_⟩
      unfold cntA
      rw [List.map_append, List.count_append]
      exact Nat.le_add_right _ _
theorem greedy_cases (ps : List Str) (l : List Pr) : (∃ is, greedy ps l = castK is ∧ Pk ps l is) ∨ ((-1 : Int) ∈ greedy ps l ∧ ∃ st, ps.count st < cntA st l) := by
  have := greedy_step ps l l.length (Nat.le_refl _)
  rw [List.take_length] at this
  exact this
theorem cast_nodup {is : List Nat} (h : is.Nodup) : (castK is).Nodup := nodup_map (fun a b e => by omega) h
theorem acts_bad {s : LSt} {r : RuleD} {ac : List Int} (h : (-1 : Int) ∈ ac) : actsB s r ac = false := by
  obtain ⟨k, hk⟩ := List.getElem?_of_mem h
  unfold actsB
  have : (List.range ac.length).all (actK s r ac) = false := by
    rw [List.all_eq_false]
    refine ⟨k, List.mem_range.mpr (get_lt hk), ?_⟩
    unfold actK
    rw [List.getD_eq_getElem?_getD, hk]
    simp
  rw [this, Bool.false_and, Bool.and_false]
theorem acts_ok {s : LSt} {r : RuleD} {is : List Nat} (pk : Pk s.ps r.actors is) : actsB s r (castK is) = r.conds.all fun p => decide (s.vs.getD 0 "" = p.2) := by
  unfold actsB
  rw [decide_eq_true (cast_nodup pk.nd), Bool.true_and]
  have lis : is.length = r.actors.length := by have := congrArg List.length pk.at_; rw [List.length_map, List.length_map] at this; exact this
  have : (List.range (castK is).length).all (actK s r (castK is)) = true := by
    refine List.all_eq_true.mpr fun k hk => ?_
    have hk' := List.mem_range.mp hk
    unfold castK at hk'
    rw [List.length_map] at hk'
    have hi : is[k]? = some is[k] := List.getElem?_eq_getElem hk'
    have hil := pk.lt is[k] (List.getElem_mem hk')
    have e1 : (castK is).getD k 0 = (is[k] : Int) := by
      rw [List.getD_eq_getElem?_getD]
      unfold castK
      rw [List.getElem?_map, hi]; rfl
    have e2 : atP s.ps is[k] = (r.actors.getD k ("", "")).1 := by
      have h1 : (is.map (atP s.ps))[k]? = some (atP s.ps is[k]) := by rw [List.getElem?_map, hi]; rfl
      rw [pk.at_, List.getElem?_map, List.getElem?_eq_getElem (by omega)] at h1
      rw [List.getD_eq_getElem?_getD, List.getElem?_eq_getElem (by omega)]
      exact (Option.some.inj h1).symm
    unfold actK
    rw [e1, Int.toNat_natCast, decide_eq_true (p := (0 : Int) ≤ (is[k] : Int)) (by omega), decide_eq_true (p := (is[k] : Int) < s.ps.length) (by omega)]
    show (true && (true && decide (atP s.ps is[k] = _))) = true
    rw [e2, decide_eq_true rfl]; rfl
  rw [this, Bool.true_and]
/-! ### the values -/
theorem vals_cases {S : PartsD} (ok : PartsOk S) {s : LSt} (h : WfS S s) : (S.vars = [] ∧ s.vs = []) ∨ ∃ n zs v, S.vars = [(n, zs)] ∧ s.vs = [v] ∧ v ∈ zs ∧ ¬ n = ("" : Str) := by
  rcases ok.v1 with e | ⟨n, zs, e, n1, _⟩
  · have := h.vl
    rw [e] at this
    exact .inl ⟨e, List.eq_nil_of_length_eq_zero this⟩
  · have := h.vl
    rw [e] at this
    match hv : s.vs, this with
    | [v], _ => exact .inr ⟨n, zs, v, e, rfl, h.vm n zs e v (by rw [hv]; exact List.mem_cons_self), n1.ne⟩
theorem prs_nil {vars : List (Str × List Str)} {l : List Pr} (h : ValsOk vars l) (e : vars = []) : l = [] := by
  match l, h with
  | [], _ => rfl
  | p :: r, h =>
    obtain ⟨zs, e', _⟩ := h.at_ p List.mem_cons_self
    rw [e] at e'; cases e'
theorem prs_cases {vars : List (Str × List Str)} {l : List Pr} {n : Str} {zs : List Str} (h : ValsOk vars l) (e : vars = [(n, zs)]) : l = [] ∨ ∃ w, l = [(n, w)] ∧ w ∈ zs := by
  have l1 := vals_le1 h
  match l, h, l1 with
  | [], _, _ => exact .inl rfl
  | [p], h, _ =>
    obtain ⟨zs', e', hz⟩ := h.at_ p List.mem_cons_self
    rw [e] at e'
    injection e' with e1 _
    injection e1 with e2 e3
    subst e2; subst e3
    exact .inr ⟨p.2, rfl, hz⟩
theorem tokP_count (ps : List Str) (st : Str) : (tokP ps).count (("" : Str), st) = ps.count st := by
  unfold tokP
  induction ps with
  | nil => rfl
  | cons x r ih =>
    rw [List.map_cons]
    by_cases e : x = st
    · subst e; rw [List.count_cons_self, List.count_cons_self, ih]
    · rw [List.count_cons_of_ne (fun z => e (Prod.mk.inj z).2), List.count_cons_of_ne e, ih]
theorem tokP_no (ps : List Str) {q : Pr} (h : ¬ q.1 = ("" : Str)) : (tokP ps).count q = 0 := by
  rw [List.count_eq_zero]
  intro hm
  obtain ⟨p, _, rfl⟩ := List.mem_map.mp hm
  exact h rfl
theorem no_count {l : List Pr} (h : ∀ p ∈ l, ¬ p.1 = ("" : Str)) (st : Str) : l.count (("" : Str), st) = 0 := by
  rw [List.count_eq_zero]
  exact fun hm => h _ hm rfl
theorem vals_ne {S : PartsD} (ok : PartsOk S) {l : List Pr} (h : ValsOk S.vars l) : ∀ p ∈ l, ¬ p.1 = ("" : Str) := fun p hp => (vals_name ok h p hp).ne
theorem tokV_ne {S : PartsD} (ok : PartsOk S) {s : LSt} (h : WfS S s) : ∀ p ∈ tokV S s.vs, ¬ p.1 = ("" : Str) := fun p hp => by
  unfold tokV at hp
  rcases vals_cases ok h with ⟨e1, e2⟩ | ⟨n, zs, v, e1, e2, _, hn⟩
  · rw [e1] at hp; cases hp
  · rw [e1, e2] at hp
    rw [List.mem_singleton.mp hp]; exact hn
/-- a rule may act where the net covers what it takes -/
theorem covers_acts {S : PartsD} (ok : PartsOk S) {s : LSt} (h : WfS S s) {r : RuleD} (ro : RuleOk S.states S.vars r) : coversB (mark S s) (cnt (placesOf S) (takenN r)) = actsB s r (greedy s.ps r.actors) := by
  have cA : ∀ st, (takenN r).count (("" : Str), st) = cntA st r.actors := fun st => by
    unfold takenN cntA
    rw [List.count_append, no_count (vals_ne ok ro.co), ← tokP_count]
    unfold tokP
    rw [List.map_map]; rfl
  have cT : ∀ st, (toks S s).count (("" : Str), st) = s.ps.count st := fun st => by
    unfold toks
    rw [List.count_append, tokP_count, no_count (tokV_ne ok h)]; rfl
  have cB : ∀ q : Pr, ¬ q.1 = ("" : Str) → (takenN r).count q = r.conds.count q := fun q hq => by
    unfold takenN
    rw [List.count_append]
    have : (r.actors.map fun p => (("" : Str), p.1)).count q = 0 := by
      rw [List.count_eq_zero]
      intro hm
      obtain ⟨p, _, rfl⟩ := List.mem_map.mp hm
      exact hq rfl
    rw [this, Nat.zero_add]
  have cV : ∀ q : Pr, ¬ q.1 = ("" : Str) → (toks S s).count q = (tokV S s.vs).count q := fun q hq => by
    unfold toks
    rw [List.count_append, tokP_no _ hq, Nat.zero_add]
  -- the conditions
  have cC : (∀ q ∈ placesOf S, ¬ q.1 = ("" : Str) → r.conds.count q ≤ (tokV S s.vs).count q) ↔ (r.conds.all fun p => decide (s.vs.getD 0 "" = p.2)) = true := by
    rcases vals_cases ok h with ⟨e1, e2⟩ | ⟨n, zs, v, e1, e2, hv, hn⟩
    · rw [prs_nil ro.co e1]
      exact ⟨fun _ => rfl, fun _ q _ _ => Nat.zero_le _⟩
    · rcases prs_cases ro.co e1 with e | ⟨w, e, hw⟩
      · rw [e]
        exact ⟨fun _ => rfl, fun _ q _ _ => Nat.zero_le _⟩
      · have et : tokV S s.vs = [(n, v)] := by unfold tokV; rw [e1, e2]; rfl
        rw [e, et, e2]
        constructor
        · intro hq
          have hpl : (n, w) ∈ placesOf S := mem_pl.mpr (.inr ⟨zs, by rw [e1]; exact List.mem_cons_self, hw⟩)
          have := hq (n, w) hpl hn
          rw [List.count_singleton_self] at this
          have hm : (n, w) ∈ [(n, v)] := List.count_pos_iff.mp (by omega)
          have ew : w = v := (Prod.mk.inj (List.mem_singleton.mp hm)).2
          subst ew
          simp
        · intro hq q _ _
          have ew : v = w := by simpa using hq
          subst ew
          exact Nat.le_refl _
  apply Bool.eq_iff_iff.mpr
  unfold mark
  rw [covers_iff]
  rcases greedy_cases s.ps r.actors with ⟨is, eg, pk⟩ | ⟨hm, st, hst⟩
  · rw [eg, acts_ok pk, ← cC]
    constructor
    · intro hq q hqp hn
      rw [← cB q hn, ← cV q hn]; exact hq q hqp
    · intro hq q hqp
      by_cases hn : q.1 = ("" : Str)
      · obtain ⟨q1, q2⟩ := q
        simp only at hn
        subst hn
        rw [cA, cT]; exact pk.le q2
      · rw [cB q hn, cV q hn]; exact hq q hqp hn
  · rw [acts_bad hm]
    refine ⟨fun hq => ?_, fun z => by cases z⟩
    have hmem : st ∈ S.states := by
      have : 0 < cntA st r.actors := Nat.lt_of_le_of_lt (Nat.zero_le _) hst
      unfold cntA at this
      obtain ⟨p, hp, rfl⟩ := List.mem_map.mp (List.count_pos_iff.mp this)
      exact (ro.am p hp).1
    have := hq _ (pl_state st hmem)
    rw [cA, cT] at this
    omega
end C62
set_option Elab.async false
set_option linter.all false
set_option maxHeartbeats 4000000
namespace C62
open PySem PySem.Spec PyProof.Rows L2
/-! ### where a token goes -/
def evF (r : RuleD) (st : Str) : Str := match r.everyone.find? (fun e => decide (e.1 = st)) with
  | some e => e.2
  | none => st
def mvF (r : RuleD) (q : Pr) : Option Pr := if q.1 = ("" : Str) then (if evF r q.2 = ("gone" : Str) then none else some (("" : Str), evF r q.2))
  else match r.effs.find? (fun e => decide (e.1 = q.1)) with
    | none => some q
    | some e => if e.1 ∈ r.conds.map (·.1) then some q else some e
theorem getD_setI {f : List Int} {i j : Nat} {v : Int} (h : i < f.length) : (f.set i v).getD j 0 = if j = i then v else f.getD j 0 := by
  rw [List.getD_eq_getElem?_getD, List.getD_eq_getElem?_getD]
  by_cases q : j = i
  · subst q; rw [List.getElem?_set_self h, if_pos rfl]; rfl
  · rw [List.getElem?_set_ne (Ne.symm q), if_neg q]
theorem idx_eq {ps : List Pr} (nd : ps.Nodup) {i : Nat} {q p : Pr} (hi : ps[i]? = some q) (hp : p ∈ ps) : i = ps.idxOf p ↔ q = p := by
  obtain ⟨h1, h2⟩ := idx_of nd hp
  constructor
  · intro e; rw [e, h1] at hi; exact (Option.some.inj hi).symm
  · intro e; subst e; exact nd_ix nd hi h1
theorem idx_self {ps : List Pr} (nd : ps.Nodup) {i : Nat} {q : Pr} (hi : ps[i]? = some q) : ps.idxOf q = i := ((idx_eq nd hi (List.mem_of_getElem? hi)).mpr rfl).symm
theorem ids_get {n i : Nat} (h : i < n) : (ids n).getD i 0 = (i : Int) := by
  unfold ids
  rw [List.getD_eq_getElem?_getD, List.getElem?_map, List.getElem?_range h]; rfl
def evV (ps : List Pr) (e : Pr) : Int := if e.2 = ("gone" : Str) then -1 else (ps.idxOf (("" : Str), e.2) : Int)
theorem ev_get {ps : List Pr} (nd : ps.Nodup) {i : Nat} {q : Pr} (hi : ps[i]? = some q) : ∀ (l : List Pr) (f : List Int), f.length = ps.length → (∀ e ∈ l, (("" : Str), e.1) ∈ ps) → (l.map (·.1)).Nodup →
    (l.foldl (evStep ps) f).getD i 0 = if q.1 = ("" : Str) then (match l.find? (fun e => decide (e.1 = q.2)) with | some e => evV ps e | none => f.getD i 0) else f.getD i 0
  | [], f, _, _, _ => by
    rw [List.foldl_nil, List.find?_nil]
    split <;> rfl
  | e :: l, f, hf, hl, hn => by
    rw [List.map_cons, List.nodup_cons] at hn
    have hm := hl e List.mem_cons_self
    have hlt := (idx_of nd hm).2
    rw [List.foldl_cons, ev_get nd hi l _ (by rw [evStep_len, hf]) (fun x hx => hl x (List.mem_cons_of_mem _ hx)) hn.2]
    have g : (evStep ps f e).getD i 0 = if q = (("" : Str), e.1) then evV ps e else f.getD i 0 := by
      unfold evStep
      rw [getD_setI (by rw [hf]; exact hlt)]
      by_cases h : q = (("" : Str), e.1)
      · rw [if_pos ((idx_eq nd hi hm).mpr h), if_pos h]; rfl
      · rw [if_neg (fun z => h ((idx_eq nd hi hm).mp z)), if_neg h]
    rw [g]
    by_cases h1 : q.1 = ("" : Str)
    · rw [if_pos h1, if_pos h1]
      by_cases h2 : e.1 = q.2
      · have hq : q = (("" : Str), e.1) := by rw [h2, ← h1]
        rw [if_pos hq, List.find?_cons_of_pos (by simpa using h2)]
        have : l.find? (fun e => decide (e.1 = q.2)) = none := by
          rw [List.find?_eq_none]
          intro x hx z
          exact hn.1 (List.mem_map.mpr ⟨x, hx, (of_decide_eq_true z).trans h2.symm⟩)
        rw [this]
      · have hq : ¬ q = (("" : Str), e.1) := fun z => h2 (by rw [z])
        rw [if_neg hq, List.find?_cons_of_neg (by simpa using h2)]
    · have hq : ¬ q = (("" : Str), e.1) := fun z => h1 (by rw [z])
      rw [if_neg h1, if_neg h1, if_neg hq]
theorem ef1_get {ps : List Pr} {p : Pr} {i : Nat} {q : Pr} (hi : ps[i]? = some q) (f : List Int) (hf : f.length = ps.length) : ∀ m, m ≤ ps.length → ((List.range m).foldl (efStep1 ps p) f).getD i 0 = if i < m ∧ q.1 = p.1 then (ps.idxOf p : Int) else f.getD i 0 := by
  intro m
  induction m with
  | zero => intro _; rw [if_neg (fun h => absurd h.1 (Nat.not_lt_zero _))]; rfl
  | succ m ih =>
    intro hm
    rw [List.range_succ, List.foldl_append]
    show (efStep1 ps p _ m).getD i 0 = _
    have hlen : ((List.range m).foldl (efStep1 ps p) f).length = ps.length := by rw [ef1_len, hf]
    have ihm := ih (by omega)
    generalize (List.range m).foldl (efStep1 ps p) f = g at *
    unfold efStep1
    by_cases hmi : i = m
    · subst hmi
      have gd : ps.getD i ("", "") = q := by rw [List.getD_eq_getElem?_getD, hi]; rfl
      rw [gd]
      by_cases hp : q.1 = p.1
      · rw [if_pos hp, getD_setI (by rw [hlen]; omega), if_pos rfl, if_pos ⟨Nat.lt_succ_self _, hp⟩]
      · rw [if_neg hp, ihm, if_neg (fun h => hp h.2), if_neg (fun h => hp h.2)]
    · have e1 : (if (ps.getD m ("", "")).1 = p.1 then g.set m (ps.idxOf p : Int) else g).getD i 0 = g.getD i 0 := by
        split
        · rw [getD_setI (by rw [hlen]; omega), if_neg hmi]
        · rfl
      rw [e1, ihm]
      by_cases hc : i < m ∧ q.1 = p.1
      · rw [if_pos hc, if_pos ⟨by omega, hc.2⟩]
      · rw [if_neg hc, if_neg (fun h => hc ⟨by omega, h.2⟩)]
theorem moves_get {S : PartsD} (ok : PartsOk S) {r : RuleD} (ro : RuleOk S.states S.vars r) {i : Nat} {q : Pr} (hi : (placesOf S)[i]? = some q) : (movesM (placesOf S) r).getD i 0 = encM (placesOf S) (mvF r q) := by
  have nd := pl_nodup ok
  have hil := get_lt hi
  have hev := pl_ev ro
  have base : (r.everyone.foldl (evStep (placesOf S)) (ids (placesOf S).length)).getD i 0 = if q.1 = ("" : Str) then encM (placesOf S) (mvF r q) else encM (placesOf S) (some q) := by
    rw [ev_get nd hi _ _ (ids_len _) (fun e he => (hev e he).1) ro.en, ids_get hil]
    by_cases h1 : q.1 = ("" : Str)
    · rw [if_pos h1, if_pos h1]
      unfold mvF evF
      rw [if_pos h1]
      cases hfind : r.everyone.find? (fun e => decide (e.1 = q.2)) with
      | none =>
        show (i : Int) = encM _ (if q.2 = ("gone" : Str) then none else some (("" : Str), q.2))
        have hqm := List.mem_of_getElem? hi
        have hst : q.2 ∈ S.states := by
          rcases mem_pl.mp hqm with ⟨_, h⟩ | ⟨zs, hv, _⟩
          · exact h
          · exfalso
            rcases ok.v1 with e | ⟨n, zs', e, n1, _⟩
            · rw [e] at hv; cases hv
            · rw [e] at hv
              have := List.mem_singleton.mp hv
              exact n1.ne ((Prod.mk.inj this).1 ▸ h1)
        have ng : ¬ q.2 = ("gone" : Str) := fun z => (ok.nm _ hst).res (by rw [z]; decide +kernel)
        rw [if_neg ng]
        have : (("" : Str), q.2) = q := by rw [← h1]
        rw [this]
        show (i : Int) = ((placesOf S).idxOf q : Int)
        rw [idx_self nd hi]
      | some e =>
        show evV _ e = encM _ (if e.2 = ("gone" : Str) then none else some (("" : Str), e.2))
        unfold evV
        by_cases hg : e.2 = ("gone" : Str)
        · rw [if_pos hg, if_pos hg]; rfl
        · rw [if_neg hg, if_neg hg]; rfl
    · rw [if_neg h1, if_neg h1]
      show (i : Int) = ((placesOf S).idxOf q : Int)
      rw [idx_self nd hi]
  have blen : (r.everyone.foldl (evStep (placesOf S)) (ids (placesOf S).length)).length = (placesOf S).length := by rw [ev_len, ids_len]
  unfold movesM
  have l1 := vals_le1 ro.ef
  match he : r.effs, l1 with
  | [], _ =>
    rw [List.foldl_nil, base]
    by_cases h1 : q.1 = ("" : Str)
    · rw [if_pos h1]
    · rw [if_neg h1]
      unfold mvF
      rw [if_neg h1, he, List.find?_nil]
  | [e], _ =>
    have ne : ¬ e.1 = ("" : Str) := vals_ne ok ro.ef e (by rw [he]; exact List.mem_cons_self)
    rw [List.foldl_cons, List.foldl_nil]
    unfold efStep
    by_cases hc : e.1 ∈ r.conds.map (·.1)
    · rw [if_pos hc, base]
      by_cases h1 : q.1 = ("" : Str)
      · rw [if_pos h1]
      · rw [if_neg h1]
        unfold mvF
        rw [if_neg h1, he]
        by_cases h2 : e.1 = q.1
        · rw [List.find?_cons_of_pos (by simpa using h2)]
          show _ = encM _ (if e.1 ∈ r.conds.map (·.1) then some q else some e)
          rw [if_pos hc]
        · rw [List.find?_cons_of_neg (by simpa using h2), List.find?_nil]
    · rw [if_neg hc, ef1_get hi _ blen _ (Nat.le_refl _)]
      by_cases h2 : q.1 = e.1
      · rw [if_pos ⟨hil, h2⟩]
        unfold mvF
        rw [if_neg (fun z => ne (h2 ▸ z)), he, List.find?_cons_of_pos (by simpa using h2.symm)]
        show _ = encM _ (if e.1 ∈ r.conds.map (·.1) then some q else some e)
        rw [if_neg hc]; rfl
      · rw [if_neg (fun z => h2 z.2), base]
        by_cases h1 : q.1 = ("" : Str)
        · rw [if_pos h1]
        · rw [if_neg h1]
          unfold mvF
          rw [if_neg h1, he, List.find?_cons_of_neg (by simpa using fun z => h2 z.symm), List.find?_nil]
theorem mv_mem {S : PartsD} (ok : PartsOk S) {r : RuleD} (ro : RuleOk S.states S.vars r) (p q : Pr) (hp : p ∈ placesOf S) (e : mvF r p = some q) : q ∈ placesOf S := by
  unfold mvF at e
  split at e
  · rename_i h1
    split at e
    · cases e
    · rename_i hg
      injection e with e
      subst e
      refine pl_state _ ?_
      unfold evF at hg ⊢
      cases hf : r.everyone.find? (fun e => decide (e.1 = p.2)) with
      | some e =>
        rw [hf] at hg
        exact (ro.em e (List.mem_of_find?_eq_some hf)).2.resolve_right hg
      | none =>
        rcases mem_pl.mp hp with ⟨_, h⟩ | ⟨zs, hv, _⟩
        · exact h
        · exfalso
          rcases ok.v1 with e | ⟨n, zs', e, n1, _⟩
          · rw [e] at hv; cases hv
          · rw [e] at hv
            have := List.mem_singleton.mp hv
            exact n1.ne ((Prod.mk.inj this).1 ▸ h1)
  · split at e
    · injection e with e; subst e; exact hp
    · rename_i e' he'
      split at e
      · injection e with e; subst e; exact hp
      · injection e with e; subst e
        exact pl_vars ok ro.ef _ (List.mem_of_find?_eq_some he')
end C62
set_option Elab.async false
set_option linter.all false
set_option maxHeartbeats 4000000
namespace C62
open PySem PySem.Spec PyProof.Rows L2
/-! ### a step of the law is a step of the net -/
theorem perm_nodup {l m : List Nat} (h1 : l.Nodup) (h2 : m.Nodup) (h : ∀ x, x ∈ l ↔ x ∈ m) : l.Perm m := by
  rw [List.perm_iff_count]
  intro a
  rw [h1.count, h2.count]
  by_cases q : a ∈ l
  · rw [if_pos q, if_pos ((h a).mp q)]
  · rw [if_neg q, if_neg (fun z => q ((h a).mpr z))]
def restI (n : Nat) (is : List Nat) : List Nat := (List.range n).filter fun k => !decide (k ∈ is)
theorem range_split {n : Nat} {is : List Nat} (nd : is.Nodup) (lt : ∀ i ∈ is, i < n) : (List.range n).Perm (is ++ restI n is) := by
  refine perm_nodup List.nodup_range ?_ fun x => ?_
  · rw [List.nodup_append]
    refine ⟨nd, List.nodup_range.sublist (List.filter_sublist), fun a ha b hb e => ?_⟩
    subst e
    have := (List.mem_filter.mp hb).2
    rw [decide_eq_true ha] at this
    cases this
  · rw [List.mem_append, List.mem_range]
    unfold restI
    rw [List.mem_filter, List.mem_range]
    constructor
    · intro h
      by_cases q : x ∈ is
      · exact .inl q
      · exact .inr ⟨h, by rw [decide_eq_false q]; rfl⟩
    · rintro (h | h)
      · exact lt x h
      · exact h.1
theorem cast_idx {is : List Nat} (nd : is.Nodup) {k i : Nat} (h : is[k]? = some i) : (castK is).idxOf (i : Int) = k := by
  have hm : (i : Int) ∈ castK is := mem_cast.mpr (List.mem_of_getElem? h)
  have hlt := List.idxOf_lt_length_of_mem hm
  have h1 : (castK is)[(castK is).idxOf (i : Int)]? = some (i : Int) := by rw [List.getElem?_eq_getElem hlt, List.getElem_idxOf]
  have h2 : (castK is)[k]? = some (i : Int) := by unfold castK; rw [List.getElem?_map, h]; rfl
  exact nd_ix (cast_nodup nd) h1 h2
theorem paf_act {r : RuleD} {is : List Nat} (nd : is.Nodup) (hl : is.length = r.actors.length) (st : Nat → Str) : is.map (fun k => pafB r (castK is) k (st k)) = r.actors.map (·.2) := by
  apply List.ext_getElem?
  intro k
  rw [List.getElem?_map, List.getElem?_map]
  by_cases h : k < is.length
  · have hi : is[k]? = some is[k] := List.getElem?_eq_getElem h
    rw [hi, List.getElem?_eq_getElem (by omega)]
    show some (pafB r (castK is) is[k] (st is[k])) = some _
    unfold pafB
    rw [if_pos (mem_cast.mpr (List.getElem_mem h)), cast_idx nd hi, List.getD_eq_getElem?_getD, List.getElem?_eq_getElem (by omega)]
    rfl
  · rw [List.getElem?_eq_none (by omega), List.getElem?_eq_none (by omega)]; rfl
theorem paf_rest {r : RuleD} {n : Nat} {is : List Nat} (st : Nat → Str) : (restI n is).map (fun k => pafB r (castK is) k (st k)) = ((restI n is).map st).map (evF r) := by
  rw [List.map_map]
  refine List.map_congr_left fun k hk => ?_
  have hn : k ∉ is := fun z => by
    have := (List.mem_filter.mp hk).2
    rw [decide_eq_true z] at this
    cases this
  show pafB r (castK is) k (st k) = evF r (st k)
  unfold pafB evF
  rw [if_neg (fun z => hn (mem_cast.mp z))] <;> (cases r.everyone.find? (fun e => decide (e.1 = st k)) <;> rfl)
abbrev ng (z : Str) : Bool := !decide (z = ("gone" : Str))
theorem found_perm {s : LSt} {r : RuleD} {is : List Nat} (pk : Pk s.ps r.actors is) : (foundL s r (castK is)).Perm (r.actors.map (·.2) ++ ((restI s.ps.length is).map (atP s.ps)).map (evF r)) := by
  have hl : is.length = r.actors.length := by have := congrArg List.length pk.at_; rw [List.length_map, List.length_map] at this; exact this
  unfold foundL
  have := (range_split pk.nd pk.lt).map (fun k => pafB r (castK is) k (s.ps.getD k ""))
  rw [List.map_append, paf_act pk.nd hl, paf_rest] at this
  exact this
theorem ps_perm {s : LSt} {r : RuleD} {is : List Nat} (pk : Pk s.ps r.actors is) : s.ps.Perm (r.actors.map (·.1) ++ (restI s.ps.length is).map (atP s.ps)) := by
  have := (range_split pk.nd pk.lt).map (atP s.ps)
  rw [range_at, List.map_append, pk.at_] at this
  exact this
theorem mv_rest (r : RuleD) : ∀ l : List Str, (tokP l).filterMap (mvF r) = tokP ((l.map (evF r)).filter ng)
  | [] => rfl
  | x :: l => by
    have ih := mv_rest r l
    unfold tokP at ih ⊢
    rw [List.map_cons, List.map_cons]
    have e : mvF r (("" : Str), x) = if evF r x = ("gone" : Str) then none else some (("" : Str), evF r x) := by unfold mvF; rw [if_pos rfl]
    by_cases h : evF r x = ("gone" : Str)
    · rw [List.filterMap_cons_none (by rw [e, if_pos h]), List.filter_cons_of_neg (by simp [ng, h]), ih]
    · rw [List.filterMap_cons_some (b := (("" : Str), evF r x)) (by rw [e, if_neg h]), List.filter_cons_of_pos (by simp [ng, h]), List.map_cons, ih]
theorem given_parties (r : RuleD) : (r.actors.filter fun p => !decide (p.2 = ("gone" : Str))).map (fun p => (("" : Str), p.2)) = tokP ((r.actors.map (·.2)).filter ng) := by
  unfold tokP
  rw [List.filter_map, List.map_map]
  rfl
/-- the values at a step -/
theorem vals_step {S : PartsD} (ok : PartsOk S) {s : LSt} (h : WfS S s) {r : RuleD} (ro : RuleOk S.states S.vars r) (hc : (r.conds.all fun p => decide (s.vs.getD 0 "" = p.2)) = true) :
    ∃ rv, tokV S s.vs = r.conds ++ rv ∧ tokV S (r.effs.foldl setV s.vs) = r.conds.filter (fun p => !decide (p.1 ∈ r.effs.map (·.1))) ++ r.effs.filter (fun p => decide (p.1 ∈ r.conds.map (·.1))) ++ rv.filterMap (mvF r) ∧ ∀ p ∈ rv, p ∈ placesOf S := by
  rcases vals_cases ok h with ⟨e1, e2⟩ | ⟨n, zs, v, e1, e2, hv, hn⟩
  · rw [prs_nil ro.co e1, prs_nil ro.ef e1]
    exact ⟨[], by unfold tokV; rw [e1]; rfl, by unfold tokV; rw [e1]; rfl, fun p hp => by cases hp⟩
  · have hpl : (n, v) ∈ placesOf S := mem_pl.mpr (.inr ⟨zs, by rw [e1]; exact List.mem_cons_self, hv⟩)
    have et : ∀ x, tokV S [x] = [(n, x)] := fun x => by unfold tokV; rw [e1]; rfl
    rw [e2] at hc
    rw [e2, et]
    rcases prs_cases ro.co e1 with ec | ⟨w, ec, hw⟩
    · rcases prs_cases ro.ef e1 with ee | ⟨u, ee, hu⟩
      · rw [ec, ee]
        refine ⟨[(n, v)], rfl, ?_, fun p hp => by rw [List.mem_singleton.mp hp]; exact hpl⟩
        show tokV S [v] = _
        rw [et]
        have : mvF r (n, v) = some (n, v) := by unfold mvF; rw [if_neg hn, ee]; rfl
        simp [this]
      · rw [ec, ee]
        refine ⟨[(n, v)], rfl, ?_, fun p hp => by rw [List.mem_singleton.mp hp]; exact hpl⟩
        show tokV S [u] = _
        rw [et]
        have : mvF r (n, v) = some (n, u) := by
          unfold mvF
          rw [if_neg hn, ee, List.find?_cons_of_pos (by simp)]
          show (if n ∈ r.conds.map (·.1) then _ else _) = _
          rw [ec]; rfl
        simp [this]
    · have ew : v = w := by
        rw [ec] at hc
        simpa using hc
      subst ew
      rcases prs_cases ro.ef e1 with ee | ⟨u, ee, hu⟩
      · rw [ec, ee]
        refine ⟨[], rfl, ?_, fun p hp => by cases hp⟩
        show tokV S [v] = _
        rw [et]
        simp
      · rw [ec, ee]
        refine ⟨[], rfl, ?_, fun p hp => by cases hp⟩
        show tokV S [u] = _
        rw [et]
        simp
theorem step_mark {S : PartsD} (ok : PartsOk S) {s : LSt} (h : WfS S s) {r : RuleD} (ro : RuleOk S.states S.vars r) {is : List Nat} (pk : Pk s.ps r.actors is) (hc : (r.conds.all fun p => decide (s.vs.getD 0 "" = p.2)) = true) :
    fireM (placesOf S).length (mark S s) (trOf (placesOf S) r) = mark S ⟨srt (stepL s r (castK is)).ps, (stepL s r (castK is)).vs⟩ := by
  obtain ⟨rv, v1, v2, v3⟩ := vals_step ok h ro hc
  have p1 := ps_perm pk
  have p2 := found_perm pk
  have p3 := (srt_ok (stepL s r (castK is)).ps).1
  have hRst : ∀ x ∈ (restI s.ps.length is).map (atP s.ps), x ∈ S.states := fun x hx => h.pm x (p1.mem_iff.mpr (List.mem_append_right _ hx))
  generalize (restI s.ps.length is).map (atP s.ps) = rp at *
  have ht : (toks S s).Perm (takenN r ++ (tokP rp ++ rv)) := by
    unfold toks takenN
    rw [v1]
    have := (p1.map fun p => (("" : Str), p)).append_right (r.conds ++ rv)
    refine this.trans ?_
    rw [List.map_append, List.map_map]
    show ((r.actors.map fun p => (("" : Str), p.1)) ++ tokP rp ++ (r.conds ++ rv)).Perm _
    rw [List.perm_iff_count]
    intro a
    simp only [List.count_append]
    omega
  have hr : ∀ p ∈ tokP rp ++ rv, p ∈ placesOf S := fun p hp => by
    rcases List.mem_append.mp hp with e | e
    · obtain ⟨x, hx, rfl⟩ := List.mem_map.mp e
      exact pl_state x (hRst x hx)
    · exact v3 p e
  unfold mark
  rw [fire_cnt (mv := mvF r) (pl_nodup ok) ht hr (fun i p hi => moves_get ok ro hi) (fun p q => mv_mem ok ro p q)]
  refine cnt_perm ?_
  rw [List.filterMap_append, mv_rest]
  unfold toks
  have p4 : (tokP (srt (stepL s r (castK is)).ps)).Perm (tokP ((r.actors.map (·.2)).filter ng) ++ tokP ((rp.map (evF r)).filter ng) ++ tokP r.born) := by
    have q1 := (p3.trans ((p2.filter ng).append_right r.born)).map fun p => (("" : Str), p)
    rw [List.filter_append, List.map_append, List.map_append] at q1
    exact q1
  have v2' : tokV S (stepL s r (castK is)).vs = r.conds.filter (fun p => !decide (p.1 ∈ r.effs.map (·.1))) ++ r.effs.filter (fun p => decide (p.1 ∈ r.conds.map (·.1))) ++ rv.filterMap (mvF r) := v2
  rw [v2']
  have hg : givenN r = tokP ((r.actors.map (·.2)).filter ng) ++ tokP r.born ++ r.conds.filter (fun p => !decide (p.1 ∈ r.effs.map (·.1))) ++ r.effs.filter (fun p => decide (p.1 ∈ r.conds.map (·.1))) := by
    unfold givenN
    rw [given_parties]; rfl
  rw [hg]
  refine List.Perm.trans ?_ (p4.append_right _).symm
  rw [List.perm_iff_count]
  intro a
  simp only [List.count_append]
  omega
/-- THE SIMULATION -/
theorem sim {S : PartsD} (ok : PartsOk S) {s : LSt} (h : WfS S s) {t : Nat} {r : RuleD} (hr : S.rules[t]? = some r) : succM (netOf S) (mark S s) t = (succS s r).map (mark S) := by
  have ro := ok.rs r (List.mem_of_getElem? hr)
  have e1 : (netOf S).trs[t]? = some (trOf (placesOf S) r) := by
    show (S.rules.map (trOf (placesOf S)))[t]? = _
    rw [List.getElem?_map, hr]; rfl
  unfold succM
  rw [e1]
  show (if coversB (mark S s) (cnt (placesOf S) (takenN r)) = true then _ else _) = _
  rw [covers_acts ok h ro]
  unfold succS
  by_cases ha : actsB s r (greedy s.ps r.actors) = true
  · rw [if_pos ha, if_pos ha]
    rcases greedy_cases s.ps r.actors with ⟨is, eg, pk⟩ | ⟨hm, _⟩
    · rw [eg] at ha ⊢
      rw [acts_ok pk] at ha
      exact congrArg some (step_mark ok h ro pk ha)
    · rw [acts_bad hm] at ha; cases ha
  · rw [if_neg ha, if_neg ha]; rfl
end C62
set_option Elab.async false
set_option linter.all false
set_option maxHeartbeats 4000000
namespace C62
open PySem PySem.Spec PyProof.Rows L2
/-! ### the first state -/
theorem tokP_rep (c : Nat) (x : Str) : tokP (List.replicate c x) = List.replicate c (("" : Str), x) := List.map_replicate
theorem zip_base (vars : List (Str × List Str)) : (vars.map (·.1)).zip (vars.map fun v => v.2.headD "") = vars.map fun v => (v.1, v.2.headD "") := by
  induction vars with
  | nil => rfl
  | cons v r ih => rw [List.map_cons, List.map_cons, List.map_cons, List.zip_cons_cons, ih]
theorem idx_states {S : PartsD} (ok : PartsOk S) {st : Str} (h : st ∈ S.states) : (placesOf S).idxOf (("" : Str), st) = S.states.idxOf st := by
  have hlt := List.idxOf_lt_length_of_mem h
  have h1 : S.states[S.states.idxOf st]? = some st := by rw [List.getElem?_eq_getElem hlt, List.getElem_idxOf]
  have h2 : (placesOf S)[S.states.idxOf st]? = some (("" : Str), st) := by
    unfold placesOf
    rw [List.getElem?_append_left (by rw [List.length_map]; exact hlt), List.getElem?_map, h1]; rfl
  exact idx_self (pl_nodup ok) h2
theorem mark_first {S : PartsD} (ok : PartsOk S) (c : Nat) : mark S (firstL S c) = mark0 S c := by
  have e : (toks S (firstL S c)).Perm (baseN S ++ List.replicate c (("" : Str), S.start)) := by
    unfold toks firstL tokV
    show (tokP (List.replicate c S.start) ++ (S.vars.map (·.1)).zip (S.vars.map fun v => v.2.headD "")).Perm _
    rw [tokP_rep, zip_base]
    exact List.perm_append_comm
  unfold mark
  rw [cnt_perm e, cnt_rep (pl_nodup ok) (pl_state _ ok.st), idx_states ok ok.st]
  rfl
/-! ### marks tell states apart -/
def good (S : PartsD) (s : LSt) : Prop := WfS S s ∧ sortedS s.ps = true
theorem ltCps_irr (l : List Nat) : ltCps l l = false := by
  rw [ltCps_eq]
  exact decide_eq_false (List.lt_irrefl l)
theorem rising_rep (x : Str) : ∀ n : Nat, risingS x (List.replicate n x) = true
  | 0 => rfl
  | n + 1 => by
    rw [List.replicate_succ]
    show (!ltCps x.cps.toList x.cps.toList && risingS x (List.replicate n x)) = true
    rw [ltCps_irr, rising_rep x n]; rfl
theorem good_first {S : PartsD} (ok : PartsOk S) (c : Nat) : good S (firstL S c) := by
  refine ⟨wf_first ok c, ?_⟩
  show sortedS (List.replicate c S.start) = true
  cases c with
  | zero => rfl
  | succ n => rw [List.replicate_succ]; exact rising_rep _ n
theorem good_succ {S : PartsD} (ok : PartsOk S) {s s' : LSt} (h : good S s) {r : RuleD} (hr : r ∈ S.rules) (e : succS s r = some s') : good S s' := by
  refine ⟨(wf_succ ok h.1 hr e).1, ?_⟩
  unfold succS at e
  split at e
  · injection e with e
    subst e
    exact (srt_ok _).2
  · cases e
theorem ps_count {S : PartsD} (ok : PartsOk S) {s : LSt} (h : WfS S s) (st : Str) : (toks S s).count (("" : Str), st) = s.ps.count st := by
  unfold toks
  rw [List.count_append, tokP_count, no_count (tokV_ne ok h)]; rfl
theorem mark_inj {S : PartsD} (ok : PartsOk S) {s s' : LSt} (h : good S s) (h' : good S s') (e : mark S s = mark S s') : s = s' := by
  have hc := cnt_inj e
  have hp : s.ps.Perm s'.ps := by
    rw [List.perm_iff_count]
    intro st
    by_cases hm : st ∈ S.states
    · have := hc _ (pl_state st hm)
      rw [ps_count ok h.1, ps_count ok h'.1] at this
      exact this
    · rw [List.count_eq_zero.mpr fun z => hm (h.1.pm st z), List.count_eq_zero.mpr fun z => hm (h'.1.pm st z)]
  have e1 : s.ps = s'.ps := sorted_unique hp h.2 h'.2
  have e2 : s.vs = s'.vs := by
    rcases vals_cases ok h.1 with ⟨a1, a2⟩ | ⟨n, zs, v, a1, a2, hv, hn⟩
    · rcases vals_cases ok h'.1 with ⟨b1, b2⟩ | ⟨n', zs', v', b1, b2, hv', hn'⟩
      · rw [a2, b2]
      · rw [a1] at b1; cases b1
    · rcases vals_cases ok h'.1 with ⟨b1, b2⟩ | ⟨n', zs', v', b1, b2, hv', hn'⟩
      · rw [a1] at b1; cases b1
      · have hpl : (n, v) ∈ placesOf S := mem_pl.mpr (.inr ⟨zs, by rw [a1]; exact List.mem_cons_self, hv⟩)
        have := hc _ hpl
        unfold toks at this
        rw [List.count_append, List.count_append, tokP_no _ (q := (n, v)) hn, tokP_no _ (q := (n, v)) hn] at this
        have t1 : tokV S s.vs = [(n, v)] := by unfold tokV; rw [a1, a2]; rfl
        have t2 : tokV S s'.vs = [(n, v')] := by unfold tokV; rw [a1, b2]; rfl
        rw [t1, t2, List.count_singleton_self] at this
        have hm : (n, v) ∈ [(n, v')] := List.count_pos_iff.mp (by omega)
        have ev : v = v' := (Prod.mk.inj (List.mem_singleton.mp hm)).2
        rw [a2, b2, ev]
  cases s; cases s'
  simp only at e1 e2
  rw [e1, e2]
/-! ### the reachable sets -/
theorem stpL_iff {S : PartsD} {s s' : LSt} : stpL S s s' ↔ ∃ (t : Nat) (r : RuleD), S.rules[t]? = some r ∧ succS s r = some s' := by
  constructor
  · intro h
    obtain ⟨r, hr, e⟩ := List.mem_filterMap.mp h
    obtain ⟨t, ht⟩ := List.getElem?_of_mem hr
    exact ⟨t, r, ht, e⟩
  · rintro ⟨t, r, ht, e⟩
    exact List.mem_filterMap.mpr ⟨r, List.mem_of_getElem? ht, e⟩
theorem fwd1 {S : PartsD} (ok : PartsOk S) {s s' : LSt} (h : good S s) (e : stpL S s s') : good S s' ∧ stpM (netOf S) (mark S s) (mark S s') := by
  obtain ⟨t, r, ht, es⟩ := stpL_iff.mp e
  refine ⟨good_succ ok h (List.mem_of_getElem? ht) es, t, ?_⟩
  rw [sim ok h.1 ht, es]; rfl
theorem bwd1 {S : PartsD} (ok : PartsOk S) {s : LSt} (h : good S s) {m : List Int} (e : stpM (netOf S) (mark S s) m) : ∃ s', stpL S s s' ∧ mark S s' = m := by
  obtain ⟨t, et⟩ := e
  cases hr : S.rules[t]? with
  | none =>
    have e1 : (netOf S).trs[t]? = none := by
      show (S.rules.map (trOf (placesOf S)))[t]? = _
      rw [List.getElem?_map, hr]; rfl
    unfold succM at et
    rw [e1] at et
    cases et
  | some r =>
    rw [sim ok h.1 hr] at et
    cases hs : succS s r with
    | none => rw [hs] at et; cases et
    | some s' =>
      rw [hs] at et
      exact ⟨s', stpL_iff.mpr ⟨t, r, hr, hs⟩, Option.some.inj et⟩
theorem fwd {S : PartsD} (ok : PartsOk S) {s s' : LSt} (h : good S s) (r : Rch (stpL S) s s') : good S s' ∧ Rch (stpM (netOf S)) (mark S s) (mark S s') := by
  induction r with
  | refl => exact ⟨h, .refl⟩
  | tail _ e ih =>
    obtain ⟨g, q⟩ := fwd1 ok ih.1 e
    exact ⟨g, ih.2.tail q⟩
theorem bwd {S : PartsD} (ok : PartsOk S) {s : LSt} (h : good S s) {m : List Int} (r : Rch (stpM (netOf S)) (mark S s) m) : ∃ s', Rch (stpL S) s s' ∧ mark S s' = m := by
  induction r with
  | refl => exact ⟨s, .refl, rfl⟩
  | tail _ e ih =>
    obtain ⟨s', r', em⟩ := ih
    subst em
    obtain ⟨s2, e2, em2⟩ := bwd1 ok (fwd ok h r').1 e
    exact ⟨s2, r'.tail e2, em2⟩
def FinR {α : Type} (R : α → α → Prop) (x : α) : Prop := ∀ y, Rch R x y → Rch R y x
theorem fin_mark {S : PartsD} (ok : PartsOk S) {s : LSt} (h : good S s) : FinR (stpL S) s ↔ FinR (stpM (netOf S)) (mark S s) := by
  constructor
  · intro f m hm
    obtain ⟨s', r', em⟩ := bwd ok h hm
    subst em
    exact (fwd ok (fwd ok h r').1 (f s' r')).2
  · intro f s' r'
    have g' := (fwd ok h r').1
    obtain ⟨s2, r2, em⟩ := bwd ok g' (f _ (fwd ok h r').2)
    have := mark_inj ok (fwd ok g' r2).1 h em
    rw [← this]; exact r2
/-! ### graphs by numbers -/
section
variable {α : Type} {R : α → α → Prop} {F : List α} {Rs : List (List Int)}
theorem rch_ix1 (a : ∀ (i j : Nat) x, F[i]? = some x → nxt Rs i j → ∃ y, F[j]? = some y ∧ R x y) {i j : Nat} {x : α} (hx : F[i]? = some x) (r : Rch (nxt Rs) i j) : ∃ y, F[j]? = some y ∧ Rch R x y := by
  induction r with
  | refl => exact ⟨x, hx, .refl⟩
  | tail _ e ih =>
    obtain ⟨y, h1, h2⟩ := ih
    obtain ⟨z, h3, h4⟩ := a _ _ _ h1 e
    exact ⟨z, h3, h2.tail h4⟩
theorem rch_ix2 (b : ∀ (i : Nat) x y, F[i]? = some x → R x y → ∃ j, nxt Rs i j ∧ F[j]? = some y) {i : Nat} {x y : α} (hx : F[i]? = some x) (r : Rch R x y) : ∃ j, Rch (nxt Rs) i j ∧ F[j]? = some y := by
  induction r with
  | refl => exact ⟨i, .refl, hx⟩
  | tail _ e ih =>
    obtain ⟨j, h1, h2⟩ := ih
    obtain ⟨k, h3, h4⟩ := b _ _ _ h2 e
    exact ⟨k, h1.tail h3, h4⟩
theorem fin_ix (nd : F.Nodup) (a : ∀ (i j : Nat) x, F[i]? = some x → nxt Rs i j → ∃ y, F[j]? = some y ∧ R x y) (b : ∀ (i : Nat) x y, F[i]? = some x → R x y → ∃ j, nxt Rs i j ∧ F[j]? = some y) {k : Nat} {x : α} (hx : F[k]? = some x) : FinI Rs k ↔ FinR R x := by
  constructor
  · intro f y hy
    obtain ⟨j, h1, h2⟩ := rch_ix2 b hx hy
    obtain ⟨z, h3, h4⟩ := rch_ix1 a h2 (f j h1)
    rw [hx] at h3
    rw [Option.some.inj h3]; exact h4
  · intro f j hj
    obtain ⟨y, h1, h2⟩ := rch_ix1 a hx hj
    obtain ⟨i, h3, h4⟩ := rch_ix2 b h1 (f y h2)
    have := nd_ix nd h4 hx
    rw [← this]; exact h3
end
theorem mem_getD {Rs : List (List Int)} {i : Nat} {z : Int} (h : z ∈ Rs.getD i []) : ∃ row, Rs[i]? = some row ∧ z ∈ row := by
  rw [List.getD_eq_getElem?_getD] at h
  cases e : Rs[i]? with
  | none => rw [e] at h; cases h
  | some row => rw [e] at h; exact ⟨row, rfl, h⟩
section
variable {N : NetD} {m0 : List Int} {limit : Nat} {Fs Rs : List (List Int)}
theorem net_a (h : ExpOk N m0 limit Fs Rs) (i j : Nat) (x : List Int) (hx : Fs[i]? = some x) (e : nxt Rs i j) : ∃ y, Fs[j]? = some y ∧ stpM N x y := by
  obtain ⟨row, hrow, hz⟩ := mem_getD e
  obtain ⟨m, hm, rp⟩ := h.1.rows i row hrow
  rw [hx] at hm
  cases hm
  obtain ⟨t, ht⟩ := List.getElem?_of_mem hz
  have hlt : t < N.trs.length := by rw [← rp.1]; exact get_lt ht
  obtain ⟨h1, h2⟩ := rp.2 t hlt
  cases es : succM N x t with
  | none =>
    rw [h1 es] at ht
    have := Option.some.inj ht
    omega
  | some m' =>
    obtain ⟨k, g1, g2⟩ := h2 m' es
    rw [g1] at ht
    have : k = j := by have := Option.some.inj ht; omega
    subst this
    exact ⟨m', g2, t, es⟩
theorem net_b (h : ExpOk N m0 limit Fs Rs) (i : Nat) (x y : List Int) (hx : Fs[i]? = some x) (e : stpM N x y) : ∃ j, nxt Rs i j ∧ Fs[j]? = some y := by
  obtain ⟨t, et⟩ := e
  have hi : i < Rs.length := by rw [h.2]; exact get_lt hx
  have hrow : Rs[i]? = some Rs[i] := List.getElem?_eq_getElem hi
  obtain ⟨m, hm, rp⟩ := h.1.rows i _ hrow
  rw [hx] at hm
  cases hm
  have hlt : t < N.trs.length := by
    by_cases q : t < N.trs.length
    · exact q
    · unfold succM at et
      rw [List.getElem?_eq_none (by omega)] at et
      cases et
  obtain ⟨k, g1, g2⟩ := (rp.2 t hlt).2 y et
  refine ⟨k, ?_, g2⟩
  show (k : Int) ∈ Rs.getD i []
  rw [List.getD_eq_getElem?_getD, hrow]
  exact List.mem_of_getElem? g1
theorem net_all (h : ExpOk N m0 limit Fs Rs) {m : List Int} (r : Rch (stpM N) m0 m) : m ∈ Fs := by
  obtain ⟨j, _, hj⟩ := rch_ix2 (fun i x y => net_b h i x y) h.1.h0 r
  exact List.mem_of_getElem? hj
end
section
variable {S : PartsD} {s0 : LSt} {limit : Nat} {Fs : List LSt} {Rs : List (List Int)}
theorem law_a (h : LgInv S s0 Fs Rs) (i j : Nat) (x : LSt) (hx : Fs[i]? = some x) (e : nxt Rs i j) : ∃ y, Fs[j]? = some y ∧ stpL S x y := by
  obtain ⟨row, hrow, hz⟩ := mem_getD e
  obtain ⟨s, hs, hl⟩ := h.rows i row hrow
  rw [hx] at hs
  cases hs
  obtain ⟨t, ht⟩ := List.getElem?_of_mem hz
  have hlt : t < (afterL S x).length := by rw [← hl.1]; exact get_lt ht
  have ha : (afterL S x)[t]? = some (afterL S x)[t] := List.getElem?_eq_getElem hlt
  obtain ⟨m, g1, g2⟩ := hl.2 t _ ha
  rw [g1] at ht
  have : m = j := by have := Option.some.inj ht; omega
  subst this
  exact ⟨_, g2, List.getElem_mem hlt⟩
theorem law_b (h : LgInv S s0 Fs Rs) (hl : Rs.length = Fs.length) (i : Nat) (x y : LSt) (hx : Fs[i]? = some x) (e : stpL S x y) : ∃ j, nxt Rs i j ∧ Fs[j]? = some y := by
  have hi : i < Rs.length := by rw [hl]; exact get_lt hx
  have hrow : Rs[i]? = some Rs[i] := List.getElem?_eq_getElem hi
  obtain ⟨s, hs, hr⟩ := h.rows i _ hrow
  rw [hx] at hs
  cases hs
  obtain ⟨t, ht⟩ := List.getElem?_of_mem e
  obtain ⟨m, g1, g2⟩ := hr.2 t y ht
  refine ⟨m, ?_, g2⟩
  show (m : Int) ∈ Rs.getD i []
  rw [List.getD_eq_getElem?_getD, hrow]
  exact List.mem_of_getElem? g1
theorem law_all (h : LgInv S s0 Fs Rs) (hl : Rs.length = Fs.length) {s : LSt} (r : Rch (stpL S) s0 s) : s ∈ Fs := by
  obtain ⟨j, _, hj⟩ := rch_ix2 (fun i x y => law_b h hl i x y) h.h0 r
  exact List.mem_of_getElem? hj
end
theorem nodup_marks {S : PartsD} (ok : PartsOk S) : ∀ {l : List LSt}, (∀ s ∈ l, good S s) → l.Nodup → (l.map (mark S)).Nodup
  | [], _, _ => List.nodup_nil
  | s :: l, h, nd => by
    rw [List.nodup_cons] at nd
    rw [List.map_cons, List.nodup_cons]
    refine ⟨fun hm => ?_, nodup_marks ok (fun x hx => h x (List.mem_cons_of_mem _ hx)) nd.2⟩
    obtain ⟨x, hx, e⟩ := List.mem_map.mp hm
    have := mark_inj ok (h x (List.mem_cons_of_mem _ hx)) (h s List.mem_cons_self) e
    exact nd.1 (this ▸ hx)
/-! ### THE PLAIN LAW -/
theorem plain : Plain := by
  intro S ones c limit Fs Rs ok l1 lok
  have g0 := good_first ok c
  have gall : ∀ s ∈ Fs, good S s := fun s hs => (fwd ok g0 (lok.1.rch s hs)).1
  have e0 := mark_first ok c
  refine ⟨fun hgt v hv => ?_, fun hle v hv => ?_⟩
  · rcases hv with ⟨a, rfl, FsM, RsM, ms, hE, _⟩ | ⟨rfl, _⟩
    · exfalso
      have hsub : ∀ m ∈ Fs.map (mark S), m ∈ FsM := fun m hm => by
        obtain ⟨s, hs, rfl⟩ := List.mem_map.mp hm
        have := (fwd ok g0 (lok.1.rch s hs)).2
        rw [e0] at this
        exact net_all hE this
      have := len_le_of_sub (nodup_marks ok gall lok.1.nd) hsub
      rw [List.length_map] at this
      have := hE.1.le
      omega
    · rfl
  · have hl := lok.2.2 hle
    rcases hv with ⟨a, rfl, FsM, RsM, ms, hE, hms, ha⟩ | ⟨rfl, Fb, nd, lb, hb⟩
    · refine ⟨a, rfl, ?_⟩
      -- the finals of both sides
      have fin1 : ∀ (k : Nat) s, Fs[k]? = some s → (FinI Rs k ↔ FinR (stpL S) s) := fun k s hs => fin_ix lok.1.nd (fun i j x => law_a lok.1 i j x) (fun i x y => law_b lok.1 hl i x y) hs
      have fin2 : ∀ (k : Nat) m, FsM[k]? = some m → (FinI RsM k ↔ FinR (stpM (netOf S)) m) := fun k m hm => fin_ix hE.1.nd (fun i j x => net_a hE i j x) (fun i x y => net_b hE i x y) hm
      have hmem : ∀ m, m ∈ ms ↔ ∃ (k : Nat) (s : LSt), Fs[k]? = some s ∧ FinI Rs k ∧ mark S s = m := by
        intro m
        rw [hms m]
        constructor
        · rintro ⟨k, hk, hf⟩
          have hr : Rch (stpM (netOf S)) (mark S (firstL S c)) m := by rw [e0]; exact hE.1.rch m (List.mem_of_getElem? hk)
          obtain ⟨s, r, em⟩ := bwd ok g0 hr
          obtain ⟨i, hi⟩ := List.getElem?_of_mem (law_all lok.1 hl r)
          refine ⟨i, s, hi, (fin1 i s hi).mpr ((fin_mark ok (fwd ok g0 r).1).mpr ?_), em⟩
          rw [em]
          exact (fin2 k m hk).mp hf
        · rintro ⟨k, s, hk, hf, em⟩
          have hsF := List.mem_of_getElem? hk
          have hr := (fwd ok g0 (lok.1.rch s hsF)).2
          rw [e0] at hr
          obtain ⟨i, hi⟩ := List.getElem?_of_mem (net_all hE hr)
          refine ⟨i, by rw [← em]; exact hi, (fin2 i _ hi).mpr ((fin_mark ok (gall s hsF)).mp ((fin1 k s hk).mp hf))⟩
      have klt : ∀ (k : Nat) s, Fs[k]? = some s → k < Rs.length := fun k s hk => by rw [hl]; exact get_lt hk
      -- a state's places
      have place : ∀ (s : LSt), s ∈ Fs → ∀ k, k < S.states.length → ((mark S s).getD k 0 ≤ 0 ↔ ∀ p ∈ s.ps, p ≠ S.states.getD k "") := fun s hs k hk => by
        have h2 : (placesOf S)[k]? = some (("" : Str), S.states.getD k "") := by
          unfold placesOf
          rw [List.getElem?_append_left (by rw [List.length_map]; exact hk), List.getElem?_map, List.getElem?_eq_getElem hk, List.getD_eq_getElem?_getD, List.getElem?_eq_getElem hk]; rfl
        unfold mark
        rw [cnt_getD h2, ps_count ok (gall s hs).1]
        constructor
        · intro h p hp e
          subst e
          have := List.count_pos_iff.mpr hp
          omega
        · intro h
          have : s.ps.count (S.states.getD k "") = 0 := List.count_eq_zero.mpr fun z => h _ z rfl
          omega
      have zero : ∀ (f : Str → Bool) (s : LSt), s ∈ Fs → (zeroB ((List.range S.states.length).filter fun k => f (S.states.getD k "")) (mark S s) = true ↔ ∀ p ∈ s.ps, f p = false) := fun f s hs => by
        unfold zeroB
        rw [List.all_eq_true]
        constructor
        · intro h p hp
          have hpm := (gall s hs).1.pm p hp
          have hlt := List.idxOf_lt_length_of_mem hpm
          have hst : S.states.getD (S.states.idxOf p) "" = p := by rw [List.getD_eq_getElem?_getD, List.getElem?_eq_getElem hlt, List.getElem_idxOf]; rfl
          cases hf : f p with
          | false => rfl
          | true =>
            have := of_decide_eq_true (h (S.states.idxOf p) (List.mem_filter.mpr ⟨List.mem_range.mpr hlt, by rw [hst]; exact hf⟩))
            exact absurd hst.symm ((place s hs _ hlt).mp this p hp)
        · intro h k hk
          obtain ⟨h1, h2⟩ := List.mem_filter.mp hk
          refine decide_eq_true ((place s hs k (List.mem_range.mp h1)).mpr fun p hp e => ?_)
          have := h p hp
          rw [e, h2] at this
          cases this
      have allz : ∀ (f : Str → Bool), ms.all (zeroB ((List.range S.states.length).filter fun k => f (S.states.getD k ""))) = true ↔ ∀ (k : Nat) s, k < Rs.length → Fs[k]? = some s → FinI Rs k → ∀ p ∈ s.ps, f p = false := fun f => by
        rw [List.all_eq_true]
        constructor
        · intro h k s _ hk hf
          exact (zero f s (List.mem_of_getElem? hk)).mp (h _ ((hmem _).mpr ⟨k, s, hk, hf, rfl⟩))
        · intro h m hm
          obtain ⟨k, s, hk, hf, rfl⟩ := (hmem m).mp hm
          exact (zero f s (List.mem_of_getElem? hk)).mpr (h k s (klt k s hk) hk hf)
      have hY : ms.all (zeroB (outK S ones)) = true ↔ YesL ones Fs Rs Rs.length := by
        refine (allz fun x => !decide (x ∈ ones)).trans ?_
        constructor
        · intro h k s a b d p hp
          have := h k s a b d p hp
          rw [Bool.not_eq_false'] at this
          exact of_decide_eq_true this
        · intro h k s a b d p hp
          rw [Bool.not_eq_false']
          exact decide_eq_true (h k s a b d p hp)
      have hN : ms.all (zeroB (insK S ones)) = true ↔ NoL ones Fs Rs Rs.length := by
        refine (allz fun x => decide (x ∈ ones)).trans ?_
        constructor
        · intro h k s a b d p hp
          exact of_decide_eq_false (h k s a b d p hp)
        · intro h k s a b d p hp
          exact decide_eq_false (h k s a b d p hp)
      refine ⟨fun y => ?_, fun y n => ?_, fun y n => ?_⟩
      · rw [ha]; exact if_pos (hY.mpr y)
      · rw [ha]
        unfold ansOf
        rw [if_neg (fun z => y (hY.mp z)), if_pos (hN.mpr n)]
      · rw [ha]
        unfold ansOf
        rw [if_neg (fun z => y (hY.mp z)), if_neg (fun z => n (hN.mp z))]
    · exfalso
      have hsub : ∀ m ∈ Fb, m ∈ Fs.map (mark S) := fun m hm => by
        have hr := hb m hm
        rw [← e0] at hr
        obtain ⟨s, r, em⟩ := bwd ok g0 hr
        exact List.mem_map.mpr ⟨s, law_all lok.1 hl r, em⟩
      have := len_le_of_sub nd hsub
      rw [List.length_map, lb] at this
      omega
end C62
set_option Elab.async false
set_option linter.all false
set_option maxRecDepth 100000
set_option maxHeartbeats 0
namespace C62
open PySem PySem.Spec PyProof.Rows L2
open He (ga ma)
/-! ### the head: facts by names, the run -/
def d0 : He.DefD := ⟨("covers", none), "covers", "covers", defArgs s_covers, defBody s_covers, defScope s_covers, [], []⟩
def d1 : He.DefD := ⟨("all_from", none), "all_from", "all_from", defArgs s_all_from, defBody s_all_from, defScope s_all_from, [], []⟩
def d2 : He.DefD := ⟨("fits", none), "fits", "fits", defArgs s_fits, defBody s_fits, defScope s_fits, [], []⟩
def d3 : He.DefD := ⟨("enabled", none), "enabled", "enabled", defArgs s_enabled, defBody s_enabled, defScope s_enabled, [], []⟩
def d4 : He.DefD := ⟨("fire", none), "fire", "fire", defArgs s_fire, defBody s_fire, defScope s_fire, [], []⟩
def d5 : He.DefD := ⟨("right_pairs", none), "right_pairs", "right_pairs", defArgs s_right_pairs, defBody s_right_pairs, defScope s_right_pairs, [], []⟩
def d6 : He.DefD := ⟨("pairs_of_mail", none), "pairs_of", "pairs_of", defArgs s_pairs_of_mail, defBody s_pairs_of_mail, defScope s_pairs_of_mail, [], []⟩
def d7 : He.DefD := ⟨("is_name", none), "is_name", "is_name", defArgs s_is_name, defBody s_is_name, defScope s_is_name, [], []⟩
def d8 : He.DefD := ⟨("pairs_of_protocols", none), "pairs_of", "pairs_of", defArgs s_pairs_of_protocols, defBody s_pairs_of_protocols, defScope s_pairs_of_protocols, [], []⟩
def d9 : He.DefD := ⟨("are_different", none), "are_different", "are_different", defArgs s_are_different, defBody s_are_different, defScope s_are_different, [], []⟩
def d10 : He.DefD := ⟨("are_names", none), "are_names", "are_names", defArgs s_are_names, defBody s_are_names, defScope s_are_names, [], []⟩
def d11 : He.DefD := ⟨("right_moves", none), "right_moves", "right_moves", defArgs s_right_moves, defBody s_right_moves, defScope s_right_moves, [], []⟩
def d12 : He.DefD := ⟨("right_values", none), "right_values", "right_values", defArgs s_right_values, defBody s_right_values, defScope s_right_values, [], []⟩
def d13 : He.DefD := ⟨("right_states", none), "right_states", "right_states", defArgs s_right_states, defBody s_right_states, defScope s_right_states, [], []⟩
def d14 : He.DefD := ⟨("right_variable", none), "right_variable", "right_variable", defArgs s_right_variable, defBody s_right_variable, defScope s_right_variable, [], []⟩
def d15 : He.DefD := ⟨("right_rule", none), "right_rule", "right_rule", defArgs s_right_rule, defBody s_right_rule, defScope s_right_rule, [], []⟩
def d16 : He.DefD := ⟨("right_pattern", none), "right_pattern", "right_pattern", defArgs s_right_pattern, defBody s_right_pattern, defScope s_right_pattern, [], []⟩
def d17 : He.DefD := ⟨("place_names", none), "place_names", "place_names", defArgs s_place_names, defBody s_place_names, defScope s_place_names, [], []⟩
def d18 : He.DefD := ⟨("counted", none), "counted", "counted", defArgs s_counted, defBody s_counted, defScope s_counted, [], []⟩
def d19 : He.DefD := ⟨("taken_names", none), "taken_names", "taken_names", defArgs s_taken_names, defBody s_taken_names, defScope s_taken_names, [], []⟩
def d20 : He.DefD := ⟨("given_names", none), "given_names", "given_names", defArgs s_given_names, defBody s_given_names, defScope s_given_names, [], []⟩
def d21 : He.DefD := ⟨("moves_of", none), "moves_of", "moves_of", defArgs s_moves_of, defBody s_moves_of, defScope s_moves_of, [], []⟩
def d22 : He.DefD := ⟨("letters_of", none), "letters_of", "letters_of", defArgs s_letters_of, defBody s_letters_of, defScope s_letters_of, [], []⟩
def d23 : He.DefD := ⟨("goal_of", none), "goal_of", "goal_of", defArgs s_goal_of, defBody s_goal_of, defScope s_goal_of, [], []⟩
def d24 : He.DefD := ⟨("compile_protocol", none), "compile_protocol", "compile_protocol", defArgs s_compile_protocol, defBody s_compile_protocol, defScope s_compile_protocol, [], []⟩
def d25 : He.DefD := ⟨("start_marking", none), "start_marking", "start_marking", defArgs s_start_marking, defBody s_start_marking, defScope s_start_marking, [], []⟩
def d26 : He.DefD := ⟨("explore", none), "explore", "explore", defArgs s_explore, defBody s_explore, defScope s_explore, [], []⟩
def d27 : He.DefD := ⟨("reversed_edges", none), "reversed_edges", "reversed_edges", defArgs s_reversed_edges, defBody s_reversed_edges, defScope s_reversed_edges, [], []⟩
def d28 : He.DefD := ⟨("reaching", none), "reaching", "reaching", defArgs s_reaching, defBody s_reaching, defScope s_reaching, [], []⟩
def d29 : He.DefD := ⟨("final_markings", none), "final_markings", "final_markings", defArgs s_final_markings, defBody s_final_markings, defScope s_final_markings, [], []⟩
def d30 : He.DefD := ⟨("all_zero", none), "all_zero", "all_zero", defArgs s_all_zero, defBody s_all_zero, defScope s_all_zero, [], []⟩
def d31 : He.DefD := ⟨("agreement", none), "agreement", "agreement", defArgs s_agreement, defBody s_agreement, defScope s_agreement, [], []⟩
def d32 : He.DefD := ⟨("_law_draws", none), "_law_draws", "_law_draws", defArgs s_law_draws, defBody s_law_draws, defScope s_law_draws, [], []⟩
def d33 : He.DefD := ⟨("_law_take", none), "_law_take", "_law_take", defArgs s_law_take, defBody s_law_take, defScope s_law_take, [], []⟩
def d34 : He.DefD := ⟨("_law_target", none), "_law_target", "_law_target", defArgs s_law_target, defBody s_law_target, defScope s_law_target, [], []⟩
def d35 : He.DefD := ⟨("_law_values", none), "_law_values", "_law_values", defArgs s_law_values, defBody s_law_values, defScope s_law_values, [], []⟩
def d36 : He.DefD := ⟨("_law_rule", none), "_law_rule", "_law_rule", defArgs s_law_rule, defBody s_law_rule, defScope s_law_rule, [], []⟩
def d37 : He.DefD := ⟨("_law_pattern", none), "_law_pattern", "_law_pattern", defArgs s_law_pattern, defBody s_law_pattern, defScope s_law_pattern, [], []⟩
def d38 : He.DefD := ⟨("_law_system", none), "_law_system", "_law_system", defArgs s_law_system, defBody s_law_system, defScope s_law_system, [], []⟩
def d39 : He.DefD := ⟨("_law_made", none), "_law_made", "_law_made", defArgs s_law_made, defBody s_law_made, defScope s_law_made, [], []⟩
def d40 : He.DefD := ⟨("_law_first", none), "_law_first", "_law_first", defArgs s_law_first, defBody s_law_first, defScope s_law_first, [], []⟩
def d41 : He.DefD := ⟨("_law_place_of", none), "_law_place_of", "_law_place_of", defArgs s_law_place_of, defBody s_law_place_of, defScope s_law_place_of, [], []⟩
def d42 : He.DefD := ⟨("_law_acts", none), "_law_acts", "_law_acts", defArgs s_law_acts, defBody s_law_acts, defScope s_law_acts, [], []⟩
def d43 : He.DefD := ⟨("_law_party_after", none), "_law_party_after", "_law_party_after", defArgs s_law_party_after, defBody s_law_party_after, defScope s_law_party_after, [], []⟩
def d44 : He.DefD := ⟨("_law_step", none), "_law_step", "_law_step", defArgs s_law_step, defBody s_law_step, defScope s_law_step, [], []⟩
def d45 : He.DefD := ⟨("_law_outcome", none), "_law_outcome", "_law_outcome", defArgs s_law_outcome, defBody s_law_outcome, defScope s_law_outcome, [], []⟩
def d46 : He.DefD := ⟨("_law_all_after", none), "_law_all_after", "_law_all_after", defArgs s_law_all_after, defBody s_law_all_after, defScope s_law_all_after, [], []⟩
def d47 : He.DefD := ⟨("_law_graph", none), "_law_graph", "_law_graph", defArgs s_law_graph, defBody s_law_graph, defScope s_law_graph, [], []⟩
def d48 : He.DefD := ⟨("_law_ahead", none), "_law_ahead", "_law_ahead", defArgs s_law_ahead, defBody s_law_ahead, defScope s_law_ahead, [], []⟩
def d49 : He.DefD := ⟨("law", none), "law", "law", defArgs s_law, defBody s_law, defScope s_law, [], []⟩
def d50 : He.DefD := ⟨("Net", some "__init__"), "__init__", "Net.__init__", defArgs s_Net_init, defBody s_Net_init, defScope s_Net_init, [], []⟩
def d51 : He.DefD := ⟨("MailNet", some "__init__"), "__init__", "MailNet.__init__", defArgs s_MailNet_init, defBody s_MailNet_init, defScope s_MailNet_init, [], []⟩
def d52 : He.DefD := ⟨("Rule", some "__init__"), "__init__", "Rule.__init__", defArgs s_Rule_init, defBody s_Rule_init, defScope s_Rule_init, [], []⟩
def d53 : He.DefD := ⟨("System", some "__init__"), "__init__", "System.__init__", defArgs s_System_init, defBody s_System_init, defScope s_System_init, [], []⟩
def d54 : He.DefD := ⟨("Graph", some "__init__"), "__init__", "Graph.__init__", defArgs s_Graph_init, defBody s_Graph_init, defScope s_Graph_init, [], []⟩

def fn0 : List He.DefD := [d0, d1, d2, d3, d4, d5, d6, d7, d8, d9, d10, d11, d12, d13, d14, d15, d16, d17, d18, d19]
def fn1 : List He.DefD := [d20, d21, d22, d23, d24, d25, d26, d27, d28, d29, d30, d31, d32, d33, d34, d35, d36, d37, d38, d39]
def fn2 : List He.DefD := [d40, d41, d42, d43, d44, d45, d46, d47, d48, d49, d50, d51, d52, d53, d54]
def fn : List He.DefD := fn0 ++ fn1 ++ fn2

def fa0 : List He.Fa := [.glo "covers", .glo "all_from", .glo "fits", .glo "enabled", .glo "fire", .glo "right_pairs", .glo "pairs_of_mail", .glo "is_name", .glo "pairs_of_protocols", .glo "are_different", .glo "are_names", .glo "right_moves", .glo "right_values", .glo "right_states", .glo "right_variable", .glo "right_rule", .glo "right_pattern", .glo "place_names", .glo "counted", .glo "taken_names"]
def fa1 : List He.Fa := [.glo "given_names", .glo "moves_of", .glo "letters_of", .glo "goal_of", .glo "compile_protocol", .glo "start_marking", .glo "explore", .glo "reversed_edges", .glo "reaching", .glo "final_markings", .glo "all_zero", .glo "agreement", .glo "_law_draws", .glo "_law_take", .glo "_law_target", .glo "_law_values", .glo "_law_rule", .glo "_law_pattern", .glo "_law_system", .glo "_law_made"]
def fa2 : List He.Fa := [.glo "_law_first", .glo "_law_place_of", .glo "_law_acts", .glo "_law_party_after", .glo "_law_step", .glo "_law_outcome", .glo "_law_all_after", .glo "_law_graph", .glo "_law_ahead", .glo "law", .glo "Net", .glo "MailNet", .glo "Rule", .glo "System", .glo "Graph", .cls "Net", .mkr "Net", .noat "Net" "places", .noat "Net" "transitions", .cls "MailNet"]
def fa3 : List He.Fa := [.mkr "MailNet", .noat "MailNet" "net", .noat "MailNet" "channels", .noat "MailNet" "actions", .cls "Rule", .mkr "Rule", .noat "Rule" "name", .noat "Rule" "actors", .noat "Rule" "everyone", .noat "Rule" "born", .noat "Rule" "conditions", .noat "Rule" "effects", .noat "Rule" "hears", .noat "Rule" "sends", .cls "System", .mkr "System", .noat "System" "states", .noat "System" "start", .noat "System" "variables", .noat "System" "channels"]
def fa4 : List He.Fa := [.noat "System" "rules", .noat "System" "bad", .cls "Graph", .mkr "Graph", .noat "Graph" "markings", .noat "Graph" "moves", .free "len", .free "list", .free "tuple", .free "int", .free "str", .free "set", .free "sorted", .free "range", .int "MOST_PLACES" (12), .int "MOST_TRANSITIONS" (24), .int "MOST_WEIGHT" (9), .int "LOST" (-1), .int "NONE" (-1), .int "MOST_CHANNELS" (2)]
def fa5 : List He.Fa := [.int "MOST_LETTERS" (4), .str "LOWER" "abcdefghijklmnopqrstuvwxyz", .str "DIGITS" "0123456789", .str "GONE" "gone", .glo "RESERVED", .exc "TooMany", .glo "TooMany", .exm "TooMany" "TooMany" true]
def fa : List He.Fa := fa0 ++ fa1 ++ fa2 ++ fa3 ++ fa4 ++ fa5

def loose0 : List Str := ["CoverError", "InvalidNet", "TooMany", "InvalidProtocol", "NotEnabled", "covers", "MOST_PLACES", "MOST_TRANSITIONS", "MOST_WEIGHT", "LOST", "all_from", "fits", "Net", "enabled", "fire", "MOST_CHANNELS", "MOST_LETTERS", "right_pairs", "MailNet", "pairs_of"]
def loose1 : List Str := ["pairs_of_mail", "LOWER", "DIGITS", "RESERVED", "GONE", "is_name", "pairs_of_protocols", "Rule", "are_different", "are_names", "right_moves", "right_values", "right_states", "right_variable", "right_channel", "right_rule", "right_pattern", "System", "place_names", "counted"]
def loose2 : List Str := ["taken_names", "given_names", "moves_of", "letters_of", "goal_of", "compile_protocol", "start_marking", "NONE", "Graph", "explore", "reversed_edges", "reaching", "final_markings", "all_zero", "agreement", "_law_draws", "_law_take", "_law_target", "_law_values", "_law_rule"]
def loose3 : List Str := ["_law_pattern", "_law_system", "_law_made", "_law_first", "_law_place_of", "_law_acts", "_law_party_after", "_law_step", "_law_outcome", "_law_all_after", "_law_graph", "_law_ahead"]
def loose : List Str := loose0 ++ loose1 ++ loose2 ++ loose3

def resvD : List He.Dv := [.str "all", .str "new", .str "if", .str "set", .str "hear", .str "send", .str "lose", .str "gone"]
abbrev AlR : Type := He.AlD × Bool
def obsR (n : Nat) (g : Addr → Option Obj) : AlR := (He.obsDG n fa fn g, He.tupB (He.frG g (He.asD g n)) "RESERVED" resvD)
def hookR (n : Nat) : PySem.W.Hook where
  α := AlR
  obs := fun s => obsR n s.heap.get?
  val := fun _ => (He.valD fn, true)
  says := fun _ h => ∃ K : PySem.W.Frag, K.In h ∧ He.SaysD fa fn K ∧ He.tupB K "RESERVED" resvD = true
  of := fun _ _ e => ⟨_, He.frG_in, congrArg (fun z : AlR => z.1) e, congrArg (fun z : AlR => z.2) e⟩
  keeps := fun _ _ _ ⟨K, hK, c⟩ k => ⟨K, PySem.W.Frag.In.keeps hK k, c⟩
theorem obsR_eq {n : Nat} {g : Addr → Option Obj} {s : Shared} (h : ∀ a, g a = s.heap.get? a) : obsR n g = (hookR n).obs s := by
  have e : g = s.heap.get? := funext h
  rw [e] <;> rfl
abbrev RR : PySem.W.OpenRow := PySem.W.OpenLaw.row PySem.Challenge.rw_covernets_k62_whole_agreement
abbrev hkR : PySem.W.Hook := hookR 4
def obR (s : PySem.W.SharedT) : AlR := obsR 4 (HandSHeadRun.getT s)
theorem obR_eq (s : PySem.W.SharedT) : obR s = hkR.obs s.abs := obsR_eq (HandSHeadRun.getT_eq s)
theorem runR (w : World) : HandSHeadRun.RunEq RR (PySem.W.view RR.prog [83]) hkR obR 6000 loose w := by
  intro os
  kernel_rfl
section
variable {K : PySem.W.Frag} {h : Heap} {mg : Str → Option Value}
theorem fun_of {x qual : Str} {st : Stmt} {f : Addr} {fd : FuncData} (F : FunD K x qual (defArgs st) (defBody st) (defScope st) [] [] f fd) : Fun K x qual st f fd := by
  obtain ⟨oc, od, dV, kV, doc, pm, an, cdv, ct, osl, e, lk, hc, hd, _⟩ := F.ex
  rcases hd with ⟨_, rfl⟩ | ⟨hd, _⟩
  · exact ⟨⟨oc, od, kV, doc, pm, an, cdv, ct, osl, e, lk, hc⟩, F.kp⟩
  · exact absurd rfl hd
theorem fnG {g x : Str} {st : Stmt} (F : ∃ fd, FunD K x x (defArgs st) (defBody st) (defScope st) [] [] (ga K g) fd) (m : mg g = some (.ref (ga K g))) : FnG K mg g x st := ⟨let ⟨fd, F⟩ := F; ⟨fd, fun_of F⟩, m⟩
theorem clsG {x q : Str} {st : Stmt} {fs : List Str} (cl : Cls K (ga K x)) (na : ∀ f ∈ fs, NoAttr K (ga K x) f) (mk : Mk K (ga K x) (ma K (ga K x) "__init__")) (F : ∃ fd, FunD K "__init__" q (defArgs st) (defBody st) (defScope st) [] [] (ma K (ga K x) "__init__") fd)
    (m : mg x = some (.ref (ga K x))) : ClsG K mg x q st fs := ⟨cl, na, mk, let ⟨fd, F⟩ := F; ⟨fd, fun_of F⟩, m⟩
theorem naNil {C : Addr} : ∀ f ∈ ([] : List Str), NoAttr K C f := fun f hf => by cases hf
theorem naCons {C : Addr} {x : Str} {fs : List Str} (h : NoAttr K C x) (t : ∀ f ∈ fs, NoAttr K C f) : ∀ f ∈ x :: fs, NoAttr K C f := fun f hf => (List.mem_cons.mp hf).elim (fun e => by rw [e]; exact h) (t f)
theorem intG {x : Str} {i : Int} (h : ∃ t, mg x = some (.int i t)) : ∃ u, mg x = some u ∧ RelV (.int i) u := let ⟨t, h⟩ := h; ⟨_, h, t, rfl⟩
theorem strG {x z : Str} (h : ∃ t, mg x = some (.str z t)) : ∃ u, mg x = some u ∧ RelV (.str z) u := let ⟨t, h⟩ := h; ⟨_, h, t, rfl⟩
theorem txt (X : K.In h) (G : h.Ns mainGlobals mg) (c : He.SaysD fa fn K) (t : He.tupB K "RESERVED" resvD = true) : Txt K mg where
  f_covers := fnG (c.def_ 0 (d := d0) rfl) (He.glo_ok X G (c.fact 0 (f := .glo "covers") rfl))
  f_all_from := fnG (c.def_ 1 (d := d1) rfl) (He.glo_ok X G (c.fact 1 (f := .glo "all_from") rfl))
  f_fits := fnG (c.def_ 2 (d := d2) rfl) (He.glo_ok X G (c.fact 2 (f := .glo "fits") rfl))
  f_enabled := fnG (c.def_ 3 (d := d3) rfl) (He.glo_ok X G (c.fact 3 (f := .glo "enabled") rfl))
  f_fire := fnG (c.def_ 4 (d := d4) rfl) (He.glo_ok X G (c.fact 4 (f := .glo "fire") rfl))
  f_right_pairs := fnG (c.def_ 5 (d := d5) rfl) (He.glo_ok X G (c.fact 5 (f := .glo "right_pairs") rfl))
  f_pairs_of_mail := fnG (c.def_ 6 (d := d6) rfl) (He.glo_ok X G (c.fact 6 (f := .glo "pairs_of_mail") rfl))
  f_is_name := fnG (c.def_ 7 (d := d7) rfl) (He.glo_ok X G (c.fact 7 (f := .glo "is_name") rfl))
  f_pairs_of_protocols := fnG (c.def_ 8 (d := d8) rfl) (He.glo_ok X G (c.fact 8 (f := .glo "pairs_of_protocols") rfl))
  f_are_different := fnG (c.def_ 9 (d := d9) rfl) (He.glo_ok X G (c.fact 9 (f := .glo "are_different") rfl))
  f_are_names := fnG (c.def_ 10 (d := d10) rfl) (He.glo_ok X G (c.fact 10 (f := .glo "are_names") rfl))
  f_right_moves := fnG (c.def_ 11 (d := d11) rfl) (He.glo_ok X G (c.fact 11 (f := .glo "right_moves") rfl))
  f_right_values := fnG (c.def_ 12 (d := d12) rfl) (He.glo_ok X G (c.fact 12 (f := .glo "right_values") rfl))
  f_right_states := fnG (c.def_ 13 (d := d13) rfl) (He.glo_ok X G (c.fact 13 (f := .glo "right_states") rfl))
  f_right_variable := fnG (c.def_ 14 (d := d14) rfl) (He.glo_ok X G (c.fact 14 (f := .glo "right_variable") rfl))
  f_right_rule := fnG (c.def_ 15 (d := d15) rfl) (He.glo_ok X G (c.fact 15 (f := .glo "right_rule") rfl))
  f_right_pattern := fnG (c.def_ 16 (d := d16) rfl) (He.glo_ok X G (c.fact 16 (f := .glo "right_pattern") rfl))
  f_place_names := fnG (c.def_ 17 (d := d17) rfl) (He.glo_ok X G (c.fact 17 (f := .glo "place_names") rfl))
  f_counted := fnG (c.def_ 18 (d := d18) rfl) (He.glo_ok X G (c.fact 18 (f := .glo "counted") rfl))
  f_taken_names := fnG (c.def_ 19 (d := d19) rfl) (He.glo_ok X G (c.fact 19 (f := .glo "taken_names") rfl))
  f_given_names := fnG (c.def_ 20 (d := d20) rfl) (He.glo_ok X G (c.fact 20 (f := .glo "given_names") rfl))
  f_moves_of := fnG (c.def_ 21 (d := d21) rfl) (He.glo_ok X G (c.fact 21 (f := .glo "moves_of") rfl))
  f_letters_of := fnG (c.def_ 22 (d := d22) rfl) (He.glo_ok X G (c.fact 22 (f := .glo "letters_of") rfl))
  f_goal_of := fnG (c.def_ 23 (d := d23) rfl) (He.glo_ok X G (c.fact 23 (f := .glo "goal_of") rfl))
  f_compile_protocol := fnG (c.def_ 24 (d := d24) rfl) (He.glo_ok X G (c.fact 24 (f := .glo "compile_protocol") rfl))
  f_start_marking := fnG (c.def_ 25 (d := d25) rfl) (He.glo_ok X G (c.fact 25 (f := .glo "start_marking") rfl))
  f_explore := fnG (c.def_ 26 (d := d26) rfl) (He.glo_ok X G (c.fact 26 (f := .glo "explore") rfl))
  f_reversed_edges := fnG (c.def_ 27 (d := d27) rfl) (He.glo_ok X G (c.fact 27 (f := .glo "reversed_edges") rfl))
  f_reaching := fnG (c.def_ 28 (d := d28) rfl) (He.glo_ok X G (c.fact 28 (f := .glo "reaching") rfl))
  f_final_markings := fnG (c.def_ 29 (d := d29) rfl) (He.glo_ok X G (c.fact 29 (f := .glo "final_markings") rfl))
  f_all_zero := fnG (c.def_ 30 (d := d30) rfl) (He.glo_ok X G (c.fact 30 (f := .glo "all_zero") rfl))
  f_agreement := fnG (c.def_ 31 (d := d31) rfl) (He.glo_ok X G (c.fact 31 (f := .glo "agreement") rfl))
  f_law_draws := fnG (c.def_ 32 (d := d32) rfl) (He.glo_ok X G (c.fact 32 (f := .glo "_law_draws") rfl))
  f_law_take := fnG (c.def_ 33 (d := d33) rfl) (He.glo_ok X G (c.fact 33 (f := .glo "_law_take") rfl))
  f_law_target := fnG (c.def_ 34 (d := d34) rfl) (He.glo_ok X G (c.fact 34 (f := .glo "_law_target") rfl))
  f_law_values := fnG (c.def_ 35 (d := d35) rfl) (He.glo_ok X G (c.fact 35 (f := .glo "_law_values") rfl))
  f_law_rule := fnG (c.def_ 36 (d := d36) rfl) (He.glo_ok X G (c.fact 36 (f := .glo "_law_rule") rfl))
  f_law_pattern := fnG (c.def_ 37 (d := d37) rfl) (He.glo_ok X G (c.fact 37 (f := .glo "_law_pattern") rfl))
  f_law_system := fnG (c.def_ 38 (d := d38) rfl) (He.glo_ok X G (c.fact 38 (f := .glo "_law_system") rfl))
  f_law_made := fnG (c.def_ 39 (d := d39) rfl) (He.glo_ok X G (c.fact 39 (f := .glo "_law_made") rfl))
  f_law_first := fnG (c.def_ 40 (d := d40) rfl) (He.glo_ok X G (c.fact 40 (f := .glo "_law_first") rfl))
  f_law_place_of := fnG (c.def_ 41 (d := d41) rfl) (He.glo_ok X G (c.fact 41 (f := .glo "_law_place_of") rfl))
  f_law_acts := fnG (c.def_ 42 (d := d42) rfl) (He.glo_ok X G (c.fact 42 (f := .glo "_law_acts") rfl))
  f_law_party_after := fnG (c.def_ 43 (d := d43) rfl) (He.glo_ok X G (c.fact 43 (f := .glo "_law_party_after") rfl))
  f_law_step := fnG (c.def_ 44 (d := d44) rfl) (He.glo_ok X G (c.fact 44 (f := .glo "_law_step") rfl))
  f_law_outcome := fnG (c.def_ 45 (d := d45) rfl) (He.glo_ok X G (c.fact 45 (f := .glo "_law_outcome") rfl))
  f_law_all_after := fnG (c.def_ 46 (d := d46) rfl) (He.glo_ok X G (c.fact 46 (f := .glo "_law_all_after") rfl))
  f_law_graph := fnG (c.def_ 47 (d := d47) rfl) (He.glo_ok X G (c.fact 47 (f := .glo "_law_graph") rfl))
  f_law_ahead := fnG (c.def_ 48 (d := d48) rfl) (He.glo_ok X G (c.fact 48 (f := .glo "_law_ahead") rfl))
  f_law := fnG (c.def_ 49 (d := d49) rfl) (He.glo_ok X G (c.fact 49 (f := .glo "law") rfl))
  k_Net := clsG (He.cls_ok (c.fact 55 (f := .cls "Net") rfl)) (naCons (He.noat_ok (c.fact 57 (f := .noat "Net" "places") rfl)) (naCons (He.noat_ok (c.fact 58 (f := .noat "Net" "transitions") rfl)) naNil)) (He.mkr_ok (c.fact 56 (f := .mkr "Net") rfl)) (c.def_ 50 (d := d50) rfl) (He.glo_ok X G (c.fact 50 (f := .glo "Net") rfl))
  k_MailNet := clsG (He.cls_ok (c.fact 59 (f := .cls "MailNet") rfl)) (naCons (He.noat_ok (c.fact 61 (f := .noat "MailNet" "net") rfl)) (naCons (He.noat_ok (c.fact 62 (f := .noat "MailNet" "channels") rfl)) (naCons (He.noat_ok (c.fact 63 (f := .noat "MailNet" "actions") rfl)) naNil))) (He.mkr_ok (c.fact 60 (f := .mkr "MailNet") rfl)) (c.def_ 51 (d := d51) rfl) (He.glo_ok X G (c.fact 51 (f := .glo "MailNet") rfl))
  k_Rule := clsG (He.cls_ok (c.fact 64 (f := .cls "Rule") rfl)) (naCons (He.noat_ok (c.fact 66 (f := .noat "Rule" "name") rfl)) (naCons (He.noat_ok (c.fact 67 (f := .noat "Rule" "actors") rfl)) (naCons (He.noat_ok (c.fact 68 (f := .noat "Rule" "everyone") rfl)) (naCons (He.noat_ok (c.fact 69 (f := .noat "Rule" "born") rfl)) (naCons (He.noat_ok (c.fact 70 (f := .noat "Rule" "conditions") rfl)) (naCons (He.noat_ok (c.fact 71 (f := .noat "Rule" "effects") rfl)) (naCons (He.noat_ok (c.fact 72 (f := .noat "Rule" "hears") rfl)) (naCons (He.noat_ok (c.fact 73 (f := .noat "Rule" "sends") rfl)) naNil)))))))) (He.mkr_ok (c.fact 65 (f := .mkr "Rule") rfl)) (c.def_ 52 (d := d52) rfl) (He.glo_ok X G (c.fact 52 (f := .glo "Rule") rfl))
  k_System := clsG (He.cls_ok (c.fact 74 (f := .cls "System") rfl)) (naCons (He.noat_ok (c.fact 76 (f := .noat "System" "states") rfl)) (naCons (He.noat_ok (c.fact 77 (f := .noat "System" "start") rfl)) (naCons (He.noat_ok (c.fact 78 (f := .noat "System" "variables") rfl)) (naCons (He.noat_ok (c.fact 79 (f := .noat "System" "channels") rfl)) (naCons (He.noat_ok (c.fact 80 (f := .noat "System" "rules") rfl)) (naCons (He.noat_ok (c.fact 81 (f := .noat "System" "bad") rfl)) naNil)))))) (He.mkr_ok (c.fact 75 (f := .mkr "System") rfl)) (c.def_ 53 (d := d53) rfl) (He.glo_ok X G (c.fact 53 (f := .glo "System") rfl))
  k_Graph := clsG (He.cls_ok (c.fact 82 (f := .cls "Graph") rfl)) (naCons (He.noat_ok (c.fact 84 (f := .noat "Graph" "markings") rfl)) (naCons (He.noat_ok (c.fact 85 (f := .noat "Graph" "moves") rfl)) naNil)) (He.mkr_ok (c.fact 83 (f := .mkr "Graph") rfl)) (c.def_ 54 (d := d54) rfl) (He.glo_ok X G (c.fact 54 (f := .glo "Graph") rfl))
  b_len := He.free_ok X G (c.fact 86 (f := .free "len") rfl)
  b_list := He.free_ok X G (c.fact 87 (f := .free "list") rfl)
  b_tuple := He.free_ok X G (c.fact 88 (f := .free "tuple") rfl)
  b_int := He.free_ok X G (c.fact 89 (f := .free "int") rfl)
  b_str := He.free_ok X G (c.fact 90 (f := .free "str") rfl)
  b_set := He.free_ok X G (c.fact 91 (f := .free "set") rfl)
  b_sorted := He.free_ok X G (c.fact 92 (f := .free "sorted") rfl)
  b_range := He.free_ok X G (c.fact 93 (f := .free "range") rfl)
  g_MOST_PLACES := intG (He.int_ok X G (c.fact 94 (f := .int "MOST_PLACES" (12)) rfl))
  g_MOST_TRANSITIONS := intG (He.int_ok X G (c.fact 95 (f := .int "MOST_TRANSITIONS" (24)) rfl))
  g_MOST_WEIGHT := intG (He.int_ok X G (c.fact 96 (f := .int "MOST_WEIGHT" (9)) rfl))
  g_LOST := intG (He.int_ok X G (c.fact 97 (f := .int "LOST" (-1)) rfl))
  g_NONE := intG (He.int_ok X G (c.fact 98 (f := .int "NONE" (-1)) rfl))
  g_MOST_CHANNELS := intG (He.int_ok X G (c.fact 99 (f := .int "MOST_CHANNELS" (2)) rfl))
  g_MOST_LETTERS := intG (He.int_ok X G (c.fact 100 (f := .int "MOST_LETTERS" (4)) rfl))
  g_LOWER := strG (He.str_ok X G (c.fact 101 (f := .str "LOWER" "abcdefghijklmnopqrstuvwxyz") rfl))
  g_DIGITS := strG (He.str_ok X G (c.fact 102 (f := .str "DIGITS" "0123456789") rfl))
  g_GONE := strG (He.str_ok X G (c.fact 103 (f := .str "GONE" "gone") rfl))
  g_RESERVED := ⟨_, He.glo_ok X G (c.fact 104 (f := .glo "RESERVED") rfl), rfl⟩
  t_RESERVED := fun H => He.tupB_ok (vs := resvD) t H
  x_TooMany := He.exc_ok (c.fact 105 (f := .exc "TooMany") rfl)
  xg_TooMany := He.glo_ok X G (c.fact 106 (f := .glo "TooMany") rfl)
  xm_TooMany := He.exm_ok (c.fact 107 (f := .exm "TooMany" "TooMany" true) rfl)
theorem factsR {P : Program} {w : World} {f : Addr} (X : K.In h) (G : h.Ns mainGlobals mg) (hfa : mg ("law" : Str) = some (.ref f)) (c : He.SaysD fa fn K) (t : He.tupB K "RESERVED" resvD = true) :
    ∃ fd : FuncData, (∀ (s : Shared) (v : Value), BindsTo s fd ⟨[v], []⟩ [("_law_script", v)]) ∧ ∀ base : Heap, K.In base → base.Ns mainGlobals mg → FnOk P w K mg base CX0 8 f fd ["_law_script"] (spLaw K) := by
  have T := txt X G c t
  obtain ⟨fd, F⟩ := c.def_ 49 (d := d49) rfl
  have e := hfa.symm.trans T.f_law.at_
  cases e
  have b := FunD.bindsA (ps := ["_law_script"]) F fun _ _ _ _ _ _ us hl => match us, hl with | [_], _ => rfl
  refine ⟨fd, fun s v => b s [v] rfl, fun base _ _ => ?_⟩
  exact c_law T plain (fun_of F)
end
end C62
set_option Elab.async false
set_option linter.all false
set_option maxRecDepth 100000
set_option maxHeartbeats 0
open PySem PySem.W PySem.Calls PyProof.Rows
theorem PySem.Challenge.cw_covernets_k62_whole_agreement_holds : PySem.Challenge.rw_covernets_k62_whole_agreement.Holds := by
  w_on; o_law
  refine HandSHeadRun.head_any (r := OpenLaw.row PySem.Challenge.rw_covernets_k62_whole_agreement) (q := view (OpenLaw.row PySem.Challenge.rw_covernets_k62_whole_agreement).prog [83]) (H := C62.hkR) (ob := C62.obR) (M := 6000) (loose := C62.loose) (d := HandSHeadRun.topDef (OpenLaw.row PySem.Challenge.rw_covernets_k62_whole_agreement).prog 83) (kwd := []) C62.obR_eq
    (by kernel_rfl) (fun s => by kernel_rfl) C62.runR (by kernel_rfl) (by kernel_rfl) (by kernel_rfl) (by rfl) (by first | assumption | decide +kernel) (by decide +kernel) ⟨rfl, rfl, rfl, rfl, rfl, by decide +kernel⟩ ?hw ?hc
  case hw => w_witness2
  case hc =>
    refine L2.walk_ofE (l := PySem.Challenge.rw_covernets_k62_whole_agreement) (n := 63) (k := 8) (x := "_law_script") (CX := L2.CX0) rfl (by decide) (by kernel_rfl) ⟨rfl, by decide, by decide⟩ ?F (fun _ _ _ _ z => z)
    intro w mg fa h Y G hmg0
    obtain ⟨K, KX, c, t⟩ := Y
    have hmg : mg ("law" : PySem.Str) = some (.ref fa) := by
      have e : (HandSHeadRun.topDef (OpenLaw.row PySem.Challenge.rw_covernets_k62_whole_agreement).prog 83).name = ("law" : PySem.Str) := by kernel_rfl
      rw [← e]
      exact hmg0
    obtain ⟨fd, hb, hF⟩ := C62.factsR (P := (PySem.Challenge.rw_covernets_k62_whole_agreement).prog) (w := w) KX G hmg c t
    exact ⟨K, fd, C62.spLaw K, KX, hb, fun H a ns hl _ hS => ⟨a, ns, rfl, hS, Nat.le_trans hl (by decide), fun _ => rfl⟩, hF⟩
