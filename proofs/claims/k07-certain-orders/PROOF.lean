import PyProof.Rows.All
import Wide.All
import OpenK.AllK
import Wide.FinOn
import HandS.Strs
import HandS.SortOrd
import HandS.List
import HandS.ForMost
import HandS.Exc
import HandS.ExcInit
import HandS.Lambda
import HandS.Wide
import HandS.DictComp
import HandS.Defaults
import HandS.IsInst
import HandS.HeadWalk
import HandS.HeadHook2
import HandS.Head2
import HandS.Zip
import HandS.ExcField
import HandS.More
import HandS.Small
import KE.KExcInit
import HandS.ClsMeth
import HandS.HeadHook4
import HandS.EndTab
import HandS.HeadEnd
import PySem.Challenge.RW_doubtwell_k07_certain_orders
set_option Elab.async false
set_option linter.all false
set_option maxRecDepth 100000
set_option maxHeartbeats 4000000
/-! DwSet: sets of texts, of any number (the kit's own rule stands for at most one; its proof, widened). -/
namespace DW
open PySem PySem.Spec PyProof.Rows SS
/-- how many different texts stand among the first i -/
def cS (xs : List Str) : Nat → Nat
  | 0 => 0
  | i + 1 => if (xs.take i).any (· == xs.getD i Str.empty) = true then cS xs i else cS xs i + 1
theorem cS_le (xs : List Str) : ∀ i, cS xs i ≤ i
  | 0 => Nat.le_refl _
  | i + 1 => by
    have := cS_le xs i
    rw [cS]
    split <;> omega
theorem cS_any (xs : List Str) {i : Nat} (h : i < xs.length) (k : Str) : ((xs.take i).any (· == k) || decide (k = xs.getD i Str.empty)) = (xs.take (i + 1)).any (· == k) := by
  have e1 : xs.getD i Str.empty = xs[i] := by
    rw [List.getD_eq_getElem?_getD, List.getElem?_eq_getElem h]; rfl
  have e2 : xs.take (i + 1) = xs.take i ++ [xs[i]] := by
    rw [List.take_add_one, List.getElem?_eq_getElem h]; rfl
  rw [e1, e2, List.any_append]
  congr 1
  by_cases e : k = xs[i]
  · rw [e]; simp
  · have : (xs[i] == k) = false := by
      apply beq_eq_false_iff_ne.mpr
      exact fun z => e z.symm
    simp [e, this]
section
variable {prog : Program} {w : World} {A : Around} {R : Result → Shared → Prop} {I : Addr} {fp wr : List Addr} {G : Array GenState → Array GenState → Prop} {n : Nat} {P : Nat → Value → Prop} {St : Nat → Shared → Prop}
theorem loopStrN (W : WalksS prog w A.in1 I fp wr G n P St) (S : Addr) (hSf : S ∉ fp) (xs : List Str) (hsz : xs.length = n) (hn1 : n ≤ 2000)
    (hval : ∀ i v, P i v → ∃ t, v = .str (xs.getD i Str.empty) t) :
    ∀ (k i : Nat) (s : Shared), n - i = k → i ≤ n → St i s →
      s.heap.SetOf (PySem.strKind prog w) S (fun k' => (xs.take i).any (· == k')) (cS xs i) →
      (∀ s', Moved (S :: wr) G s s' → s'.heap.SetOf (PySem.strKind prog w) S (fun k' => (xs.take n).any (· == k')) (cS xs n) → R (.ok (.ret .none)) s') →
      codeAny (model prog w) A (.builtin "set.update.loop" ⟨[.ref S, .ref I], []⟩) R s := by
  have hSw : S ∉ wr := fun h => hSf (W.sub _ h)
  have hsub : ∀ b ∈ wr, b ∈ S :: wr := fun b hb => List.mem_cons_of_mem _ hb
  intro k
  induction k with
  | zero =>
    intro i s hk hi hst hS hR
    have hin : i = n := by omega
    subst hin
    refine codeAny_builtin PyProof.Rows.F.entry_set_update_loop ?_
    rw [Around.under_plainId PyProof.Rows.F.plain_set_update_loop _]
    show wpAny _ A.in1 (pyNext (.ref I) >>= _) _ _ s
    refine wpAny_bind (W.done s _ _ hst fun s' hm => ?_)
    show wpAny _ A.in1 (ret Value.none) _ _ s'
    exact wpAny_pure (hR s' (hm.mono hsub) (by
      obtain ⟨o, es, ep, t, ho, rest⟩ := hS
      exact ⟨o, es, ep, t, hm.heap S _ hSw ho, rest⟩))
  | succ k ih =>
    intro i s hk hi hst hS hR
    have hlt : i < n := by omega
    have hcs := cS_le xs i
    refine codeAny_builtin PyProof.Rows.F.entry_set_update_loop ?_
    rw [Around.under_plainId PyProof.Rows.F.plain_set_update_loop _]
    show wpAny _ A.in1 (pyNext (.ref I) >>= _) _ _ s
    refine wpAny_bind (W.item i s _ _ hlt hst fun v s' hP hst' hm => ?_)
    obtain ⟨t, rfl⟩ := hval i v hP
    have hS' : s'.heap.SetOf (PySem.strKind prog w) S (fun k' => (xs.take i).any (· == k')) (cS xs i) := by
      obtain ⟨o, es, ep, tb, ho, rest⟩ := hS
      exact ⟨o, es, ep, tb, hm.heap S _ hSw ho, rest⟩
    show wpAny _ A.in1 (holding [Value.str (xs.getD i Str.empty) t] (setAdd S (.str (xs.getD i Str.empty) t)) >>= _) _ _ s'
    refine wpAny_bind (wpAny_holding ?_)
    unfold setAdd
    refine wpAny_holding ?_
    refine wpAny_bind ((PySem.strKind prog w).pyHash (k := xs.getD i Str.empty) (strKind_is _ _ _ _) ?_)
    refine wpAny_setAddHashed_of (knd := PySem.strKind prog w) (s := { s' with toks := s'.toks + 1 }) (strKind_is _ _ _ _) rfl hS' (by unfold scanBound; omega) fun h' hsb hS2 => ?_
    have hSi : h'.SetOf (PySem.strKind prog w) S (fun k' => (xs.take (i + 1)).any (· == k')) (cS xs (i + 1)) := by
      exact SetOf_congr hS2 (fun k' => cS_any xs (by omega) k') rfl
    refine wpAny_pure ⟨plainId_quiet PyProof.Rows.F.plain_set_update_loop _, ih (i + 1) _ (by omega) hlt (W.frame _ s' _ _ hst' (Nat.le_succ _) fun b hb o e => ?_) hSi fun s'' hm'' hS'' => ?_⟩
    · rw [hsb.2 b (fun h : b = S => hSf (by rw [← h]; exact hb))]; exact e
    · refine hR s'' (Moved.trans W.gtrans ((hm.mono hsub).then_heap (Nat.le_succ _) fun b o hb e => ?_) hm'') hS''
      rw [hsb.2 b (fun h : b = S => hb (by rw [h]; exact List.mem_cons_self))]; exact e
end

section
variable {prog : Program} {w : World} {A : Around} {E : Value → Shared → Prop} {s : Shared}
set_option maxHeartbeats 3200000 in
theorem call_set_listN {l : Addr} {items : Array Value} {xs : List Str} {Q : Value → Shared → Prop}
    (hh : A.handled = none) (hl : s.heap.IsList l items) (hi : PyProof.Rows.StrsAre items.toList xs) (hn1 : xs.length ≤ 2000)
    (h : ∀ (h' : Heap) (tk : Nat), h'.SetOf (PySem.strKind prog w) s.heap.objs.size (fun k' => (xs.take items.size).any (· == k')) (cS xs items.size) →
      (∀ b o, b < s.heap.objs.size → s.heap.get? b = some o → h'.get? b = some o) → Q (.ref s.heap.objs.size) { s with heap := h', toks := tk }) :
    wpAny (model prog w) A (call (.type "set") [.ref l]) Q E s := by
  obtain ⟨c, tl, hmro⟩ := PySem.F.called_set.mro
  have hmade := PySem.F.called_set.made
  have hsub := PySem.F.called_set.sub
  refine wpAny_call (codeAny_of_tree ?_)
  show wpAny _ _ (callAny (.type "set") _) _ _ _
  refine wpAny_pure ⟨Code.quiet_builtin _ (by decide +kernel), codeAny_builtin PySem.F.entry_type_call ?_⟩
  rw [Around.under_plain (weight_type_call_type "set" [.ref l] []) rfl]
  have h1 := PySem.F.called_set.notType
  have h2 := PySem.F.called_set.canCreate
  have hct := PySem.F.typeCall_set_1 (.ref l)
  repeat (any_goals (first | assumption | wp_step))

  refine codeAny_mono (code_set_new_1 (.ref l) (E := E) (Q₁ := fun obj s₁ => ∃ led : Bool, obj = .ref s.heap.objs.size ∧ s₁ = { s with heap := s.heap.push { cls := .type "set", dict := none, data := .set #[] 0 (.fresh 0 0 led) } }) fun led => ⟨led, rfl, rfl⟩) fun r s₁ hr => ?_
  cases r with
  | error e => exact hr
  | ok fl =>
    cases fl with
    | ret obj =>
      obtain ⟨led, rfl, rfl⟩ := hr
      have hS : (s.heap.push { cls := .type "set", dict := none, data := .set #[] 0 (.fresh 0 0 led) }).get? s.heap.objs.size = some { cls := .type "set", dict := none, data := .set #[] 0 (.fresh 0 0 led) } := Heap.get?_push_size _ rfl
      have hT : Shared.TypeIs { s with heap := s.heap.push { cls := .type "set", dict := none, data := .set #[] 0 (.fresh 0 0 led) } } (.ref s.heap.objs.size) "set" := ⟨_, hS, rfl⟩
      have hli := PySem.F.called_set.init.lookup
      have hbi := PySem.F.called_set.init.bind (.ref s.heap.objs.size)
      repeat (any_goals (first | assumption | wp_step))

      refine codeAny_mono (codeAny_call_builtin (R := wants (fun r s₂ => r = .none ∧ ∃ h' tk, s₂ = { s with heap := h', toks := tk } ∧
          h'.SetOf (PySem.strKind prog w) s.heap.objs.size (fun k' => (xs.take items.size).any (· == k')) (cS xs items.size) ∧
          (∀ b o, b < s.heap.objs.size → s.heap.get? b = some o → h'.get? b = some o)) E) PySem.F.called_set.init.plain PySem.F.entry_set_init (check_set_init_1 hT ?_)) fun r₂ s₂ hr₂ => ?_
      · obtain ⟨ol, hol, hcl, nl, hdl⟩ := hl
        obtain ⟨ocls, odict, odata, oslots⟩ := ol
        simp only at hcl hdl
        subst hcl; subst hdl
        have hol' : (s.heap.push { cls := .type "set", dict := none, data := .set #[] 0 (.fresh 0 0 led) }).get? l = some { cls := .type "list", dict := odict, data := .seq items nl, slots := oslots } := Heap.get?_push_of_some _ hol
        have hsls := PySem.F.sub_list_set
        have hslf := PySem.F.sub_list_frozenset
        have hne : (Value.type "list" == Value.type "dict") = false := by decide
        have hl1 : (s.heap.push { cls := .type "set", dict := none, data := .set #[] 0 (.fresh 0 0 led) }).IsList l items := ⟨_, hol', rfl, nl, rfl⟩
        unfold Builtin.«set.__init__» noKeywords Builtin.Frozenset.updateFrom
        generalize hPI : pyIter = PI
        wp_walk
        subst hPI

        refine wpAny_pyIter_list hl1 ?_
        refine wpAny_bind (wpAny_runValue ?_)
        have hlS : l < s.heap.objs.size := Heap.lt_size hol
        have hh3 : A.in1.in1.in1.handled = none := by simp [hh]
        have hneI : l ≠ (s.heap.push { cls := .type "set", dict := none, data := .set #[] 0 (.fresh 0 0 led) }).objs.size := by
          rw [Heap.size_push]; exact Nat.ne_of_lt (Nat.lt_succ_of_lt hlS)
        have hSf : s.heap.objs.size ∉ [(s.heap.push { cls := .type "set", dict := none, data := .set #[] 0 (.fresh 0 0 led) }).objs.size, l] := by
          rw [Heap.size_push]; simp only [List.mem_cons, List.mem_singleton, List.not_mem_nil, or_false, not_or]
          exact ⟨Nat.ne_of_lt (Nat.lt_succ_self _), Nat.ne_of_gt hlS⟩
        have hsz : xs.length = items.size := by rw [← StrsAre.len_eq hi, Array.length_toList]
        have hval : ∀ (i : Nat) (v : Value), items[i]? = some v → ∃ t, v = .str (xs.getD i Str.empty) t := fun i v hv => strs_at hi i v (by rw [Array.getElem?_toList]; exact hv)
        refine loopStrN ((Walks.list hh3 _ l hneI items).toS) s.heap.objs.size
          hSf xs hsz (by rw [← hsz]; exact hn1) hval (items.size - 0) 0 _ (by omega) (Nat.zero_le _)
          ⟨⟨_, Heap.get?_push_size _ rfl, rfl, rfl⟩, (hl1.push _)⟩ ?hS0 ?hR
        case hS0 =>
          have hget : ((s.heap.push { cls := .type "set", dict := none, data := .set #[] 0 (.fresh 0 0 led) }).push { cls := .type "list_iterator", data := .fields #[.ref l, .int 0 0] }).get? s.heap.objs.size
              = some { cls := .type "set", dict := none, data := .set #[] 0 (.fresh 0 0 led) } := Heap.get?_push_of_some _ hS
          exact PyProof.Rows.SetOf_congr ((PyProof.Rows.setObjOf_fresh (knd := PySem.strKind prog w) led).setOf hget (by unfold scanBound; omega)) (fun _ => rfl) rfl
        case hR =>
          intro s' hm hS'
          obtain ⟨h', g', d', tk', os'⟩ := s'
          have eg : g' = s.gens := hm.gens
          have ed : d' = s.drawn := hm.drawn
          have eo : os' = s.os := hm.os
          subst eg; subst ed; subst eo
          show wpAny _ _ _ _ _ _
          refine wpAny_pure ?_
          show wpAny _ _ (ret Value.none) _ _ _
          refine wpAny_pure ⟨rfl, h', tk', rfl, hS', fun b o hb e => ?_⟩
          have hb1 : b ≠ s.heap.objs.size := Nat.ne_of_lt hb
          have hb2 : b ≠ (s.heap.push { cls := .type "set", dict := none, data := .set #[] 0 (.fresh 0 0 led) }).objs.size := by
            rw [Heap.size_push]; exact Nat.ne_of_lt (Nat.lt_succ_of_lt hb)
          exact hm.heap b o (by simp only [List.mem_cons, List.mem_singleton, List.not_mem_nil, or_false, not_or]; exact ⟨hb1, hb2⟩) (Heap.get?_push_of_some _ (Heap.get?_push_of_some _ e))

      · cases r₂ with
        | error e => exact hr₂
        | ok fl₂ =>
          cases fl₂ with
          | ret r =>
            obtain ⟨rfl, h', tk, rfl, hS', hk'⟩ := hr₂
            repeat (any_goals (first | assumption | wp_step))
            exact h _ _ hS' hk'
          | _ => exact hr₂.elim
    | _ => exact hr.elim

theorem call_set_tupleN {l : Addr} {items : Array Value} {xs : List Str} {Q : Value → Shared → Prop}
    (hh : A.handled = none) (hl : s.heap.IsTuple l items) (hi : PyProof.Rows.StrsAre items.toList xs) (hn1 : xs.length ≤ 2000)
    (h : ∀ (h' : Heap) (tk : Nat), h'.SetOf (PySem.strKind prog w) s.heap.objs.size (fun k' => (xs.take items.size).any (· == k')) (cS xs items.size) →
      (∀ b o, b < s.heap.objs.size → s.heap.get? b = some o → h'.get? b = some o) → Q (.ref s.heap.objs.size) { s with heap := h', toks := tk }) :
    wpAny (model prog w) A (call (.type "set") [.ref l]) Q E s := by
  obtain ⟨c, tl, hmro⟩ := PySem.F.called_set.mro
  have hmade := PySem.F.called_set.made
  have hsub := PySem.F.called_set.sub
  refine wpAny_call (codeAny_of_tree ?_)
  show wpAny _ _ (callAny (.type "set") _) _ _ _
  refine wpAny_pure ⟨Code.quiet_builtin _ (by decide +kernel), codeAny_builtin PySem.F.entry_type_call ?_⟩
  rw [Around.under_plain (weight_type_call_type "set" [.ref l] []) rfl]
  have h1 := PySem.F.called_set.notType
  have h2 := PySem.F.called_set.canCreate
  have hct := PySem.F.typeCall_set_1 (.ref l)
  repeat (any_goals (first | assumption | wp_step))

  refine codeAny_mono (code_set_new_1 (.ref l) (E := E) (Q₁ := fun obj s₁ => ∃ led : Bool, obj = .ref s.heap.objs.size ∧ s₁ = { s with heap := s.heap.push { cls := .type "set", dict := none, data := .set #[] 0 (.fresh 0 0 led) } }) fun led => ⟨led, rfl, rfl⟩) fun r s₁ hr => ?_
  cases r with
  | error e => exact hr
  | ok fl =>
    cases fl with
    | ret obj =>
      obtain ⟨led, rfl, rfl⟩ := hr
      have hS : (s.heap.push { cls := .type "set", dict := none, data := .set #[] 0 (.fresh 0 0 led) }).get? s.heap.objs.size = some { cls := .type "set", dict := none, data := .set #[] 0 (.fresh 0 0 led) } := Heap.get?_push_size _ rfl
      have hT : Shared.TypeIs { s with heap := s.heap.push { cls := .type "set", dict := none, data := .set #[] 0 (.fresh 0 0 led) } } (.ref s.heap.objs.size) "set" := ⟨_, hS, rfl⟩
      have hli := PySem.F.called_set.init.lookup
      have hbi := PySem.F.called_set.init.bind (.ref s.heap.objs.size)
      repeat (any_goals (first | assumption | wp_step))

      refine codeAny_mono (codeAny_call_builtin (R := wants (fun r s₂ => r = .none ∧ ∃ h' tk, s₂ = { s with heap := h', toks := tk } ∧
          h'.SetOf (PySem.strKind prog w) s.heap.objs.size (fun k' => (xs.take items.size).any (· == k')) (cS xs items.size) ∧
          (∀ b o, b < s.heap.objs.size → s.heap.get? b = some o → h'.get? b = some o)) E) PySem.F.called_set.init.plain PySem.F.entry_set_init (check_set_init_1 hT ?_)) fun r₂ s₂ hr₂ => ?_
      · obtain ⟨ol, hol, hcl, nl, hdl⟩ := hl
        obtain ⟨ocls, odict, odata, oslots⟩ := ol
        simp only at hcl hdl
        subst hcl; subst hdl
        have hol' : (s.heap.push { cls := .type "set", dict := none, data := .set #[] 0 (.fresh 0 0 led) }).get? l = some { cls := .type "tuple", dict := odict, data := .seq items nl, slots := oslots } := Heap.get?_push_of_some _ hol
        have hsls := PySem.F.sub_tuple_set
        have hslf := PySem.F.sub_tuple_frozenset
        have hne : (Value.type "tuple" == Value.type "dict") = false := by decide
        have hl1 : (s.heap.push { cls := .type "set", dict := none, data := .set #[] 0 (.fresh 0 0 led) }).IsTuple l items := ⟨_, hol', rfl, nl, rfl⟩
        unfold Builtin.«set.__init__» noKeywords Builtin.Frozenset.updateFrom
        generalize hPI : pyIter = PI
        wp_walk
        subst hPI

        refine wpAny_pyIter_tuple hl1 ?_
        refine wpAny_bind (wpAny_runValue ?_)
        have hlS : l < s.heap.objs.size := Heap.lt_size hol
        have hh3 : A.in1.in1.in1.handled = none := by simp [hh]
        have hneI : l ≠ (s.heap.push { cls := .type "set", dict := none, data := .set #[] 0 (.fresh 0 0 led) }).objs.size := by
          rw [Heap.size_push]; exact Nat.ne_of_lt (Nat.lt_succ_of_lt hlS)
        have hSf : s.heap.objs.size ∉ [(s.heap.push { cls := .type "set", dict := none, data := .set #[] 0 (.fresh 0 0 led) }).objs.size, l] := by
          rw [Heap.size_push]; simp only [List.mem_cons, List.mem_singleton, List.not_mem_nil, or_false, not_or]
          exact ⟨Nat.ne_of_lt (Nat.lt_succ_self _), Nat.ne_of_gt hlS⟩
        have hsz : xs.length = items.size := by rw [← StrsAre.len_eq hi, Array.length_toList]
        have hval : ∀ (i : Nat) (v : Value), items[i]? = some v → ∃ t, v = .str (xs.getD i Str.empty) t := fun i v hv => strs_at hi i v (by rw [Array.getElem?_toList]; exact hv)
        refine loopStrN ((Walks.tuple hh3 _ l hneI items).toS) s.heap.objs.size
          hSf xs hsz (by rw [← hsz]; exact hn1) hval (items.size - 0) 0 _ (by omega) (Nat.zero_le _)
          ⟨⟨_, Heap.get?_push_size _ rfl, rfl, rfl⟩, (hl1.push _)⟩ ?hS0 ?hR
        case hS0 =>
          have hget : ((s.heap.push { cls := .type "set", dict := none, data := .set #[] 0 (.fresh 0 0 led) }).push { cls := .type "tuple_iterator", data := .fields #[.ref l, .int 0 0] }).get? s.heap.objs.size
              = some { cls := .type "set", dict := none, data := .set #[] 0 (.fresh 0 0 led) } := Heap.get?_push_of_some _ hS
          exact PyProof.Rows.SetOf_congr ((PyProof.Rows.setObjOf_fresh (knd := PySem.strKind prog w) led).setOf hget (by unfold scanBound; omega)) (fun _ => rfl) rfl
        case hR =>
          intro s' hm hS'
          obtain ⟨h', g', d', tk', os'⟩ := s'
          have eg : g' = s.gens := hm.gens
          have ed : d' = s.drawn := hm.drawn
          have eo : os' = s.os := hm.os
          subst eg; subst ed; subst eo
          show wpAny _ _ _ _ _ _
          refine wpAny_pure ?_
          show wpAny _ _ (ret Value.none) _ _ _
          refine wpAny_pure ⟨rfl, h', tk', rfl, hS', fun b o hb e => ?_⟩
          have hb1 : b ≠ s.heap.objs.size := Nat.ne_of_lt hb
          have hb2 : b ≠ (s.heap.push { cls := .type "set", dict := none, data := .set #[] 0 (.fresh 0 0 led) }).objs.size := by
            rw [Heap.size_push]; exact Nat.ne_of_lt (Nat.lt_succ_of_lt hb)
          exact hm.heap b o (by simp only [List.mem_cons, List.mem_singleton, List.not_mem_nil, or_false, not_or]; exact ⟨hb1, hb2⟩) (Heap.get?_push_of_some _ (Heap.get?_push_of_some _ e))

      · cases r₂ with
        | error e => exact hr₂
        | ok fl₂ =>
          cases fl₂ with
          | ret r =>
            obtain ⟨rfl, h', tk, rfl, hS', hk'⟩ := hr₂
            repeat (any_goals (first | assumption | wp_step))
            exact h _ _ hS' hk'
          | _ => exact hr₂.elim
    | _ => exact hr.elim

end

section
open L2
variable {X : Cx}
/-- len(set(xs)), xs a list or tuple of texts -/
def tLenSetN (K : PySem.W.Frag) (ta : TE) : TE := fun σ H Q => ta σ H fun x H1 => ∃ l, ∃ xs : List Str, x = .ref l ∧ (SqL K H1 l (xs.map V.str) ∨ SqT K H1 l (xs.map V.str)) ∧ xs.length ≤ 2000 ∧ Q (.int (cS xs xs.length : Nat)) H1
theorem pe_lenSetN {a : Expr} {ta : TE} {p p2 q pos : Pos} (hc : X.calm = true) (hg : Gl X "len") (hm : X.mg "len" = none) (hg2 : Gl X "set") (hm2 : X.mg "set" = none) (ha : PE X a ta)
    (na : starEach [a] X.env = (false, eval a X.env) :: starEach [] X.env) : PE X (.Call (.Name "len" p) [.Call (.Name "set" p2) [a] [] q] [] pos) (tLenSetN X.K ta) := by
  refine ⟨fun pins s σ H Q I h => ?_⟩
  refine Call_ (ld_blt I hg hm boot_len ?_)
  refine PyProof.Rows.callWith_builtin1 (PyProof.Rows.args_cons ?_ rfl) rfl rfl
  refine Call_ (ld_blt I hg2 hm2 boot_set ?_)
  refine PyProof.Rows.callWith_type1 (PyProof.Rows.args_cons (thn (ha.run pins s σ H _ I h) fun v s1 ⟨x, H1, I1, r1, q1⟩ => PyProof.Rows.args_nil ?_) na) na rfl
  obtain ⟨l, xs, rfl, hq, h1, q1⟩ := q1
  cases r1
  have fin : ∀ (its : List Value), Vals (xs.map V.str) its → ∀ (h' : Heap) (tk : Nat), h'.SetOf (PySem.strKind X.prog X.w) s1.heap.objs.size (fun k' => (xs.take its.toArray.size).any (· == k')) (cS xs its.toArray.size) →
      (∀ b o, b < s1.heap.objs.size → s1.heap.get? b = some o → h'.get? b = some o) →
      wpAny (model X.prog X.w) X.A (spliced (backTo pos (starEach [] X.env))) (fun vs s₂ => wpAny (model X.prog X.w) X.A (call (.builtin "len") (Value.ref s1.heap.objs.size :: vs)) (EP X pins σ Q) X.xe s₂) X.xe { s1 with heap := h', toks := tk } := fun its r h' tk hS hk => by
    refine PyProof.Rows.args_nil ?_
    have hl : its.toArray.size = xs.length := by rw [List.size_toArray, ← r.length, List.length_map]
    rw [hl] at hS
    obtain ⟨o, es, ep, t, ho, hex, hd, _, _, _, hf, hn⟩ := hS
    have I2 : Inv X pins σ H1 { s1 with heap := h', toks := tk } := I1.kept fun b o e => hk b o (Heap.lt_size e) e
    have := cS_le xs xs.length
    refine call_len_set ho hex hd hf (by rw [hn] <;> omega) ⟨.int (cS xs xs.length : Nat), H1, I2.tok _, ⟨_, by rw [hn]⟩, q1⟩
  rcases hq with hq | hq
  · obtain ⟨its, r, pl, hz⟩ := I1.list hq
    exact call_set_listN (I1.ok.hd hc) pl.isList (by simpa using strsAre_of r) h1 fun h' tk hS hk => fin its r h' tk hS hk
  · obtain ⟨its, r, pl, hz⟩ := I1.tuple hq
    exact call_set_tupleN (I1.ok.hd hc) pl (by simpa using strsAre_of r) h1 fun h' tk hS hk => fin its r h' tk hS hk
end
end DW

set_option maxHeartbeats 4000000
/-! DwSrt: sorted(l) of tuples whose first parts are different texts. -/
namespace DW
open PySem PySem.Spec PyProof.Rows SrtO
/-- a tuple that begins with the text x -/
def IsNm (h : Heap) (v : Value) (x : Str) : Prop := ∃ a o t r n, v = .ref a ∧ h.get? a = some o ∧ o.cls = .type "tuple" ∧ o.data = .seq (Value.str x t :: r).toArray n
theorem IsNm.keeps {h h' : Heap} {v : Value} {x : Str} (p : IsNm h v x) (k : ∀ b o, h.get? b = some o → o.cls = .type "tuple" → h'.get? b = some o) : IsNm h' v x := by
  obtain ⟨a, o, t, r, n, e, ho, hc, hd⟩ := p
  exact ⟨a, o, t, r, n, e, k _ _ ho hc, hc, hd⟩
def ltN (k : Value → Str) (v u : Value) : Bool := decide ((k v).cps.toList < (k u).cps.toList)
theorem swo_nm (k : Value → Str) : Swo (ltN k) := by
  refine ⟨fun x y h => ?_, fun x y z h1 h2 => ?_⟩
  · have h := of_decide_eq_true h
    exact decide_eq_false (List.lt_asymm h)
  · have h1 := of_decide_eq_false h1
    have h2 := of_decide_eq_false h2
    refine decide_eq_false ?_
    rw [List.not_lt] at h1 h2 ⊢
    exact List.le_trans h1 h2
section
variable {prog : Program} {w : World} {A : Around} {E : Value → Shared → Prop} {s : Shared}
theorem kat_same {b : Bool} {Q : Bool → Shared → Prop} {fin : Bool} (h : Q fin s) : ∀ (l : List Value) (i : Nat), PySem.W.KatLex prog w A b fin Q (l.zip l) i s
  | [], i => PySem.W.kat_nil h
  | v :: l, i => by
    show PySem.W.KatLex prog w A b fin Q ((v, v) :: l.zip l) i s
    refine PySem.W.kat_cons (SeqAt.EqAt.same v prog w _ _ ?_)
    exact PySem.W.kat_yes (kat_same h l (i + 1))
theorem nm_cmp {vs : List Value} {k : Value → Str} (hp : ∀ v ∈ vs, IsNm s.heap v (k v)) (inj : ∀ v ∈ vs, ∀ u ∈ vs, k v = k u → v = u) : Cmp prog w A s (tuples' true) (fun p => p.1 ∈ vs) (lt2 (ltN k)) := by
  intro p q hm hm'
  have h1 := hp _ hm
  have h2 := hp _ hm'
  show wpAny (model prog w) A (keyLt' (tuples' true) p.1 q.1) (fun r s' => s' = s ∧ r = ltN k p.1 q.1) (fun _ _ => False) s
  by_cases e : k p.1 = k q.1
  · have ev := inj _ hm _ hm' e
    rw [← ev]
    obtain ⟨a, o, t, r, n, e1, ho, hc, hd⟩ := h1
    rw [e1]
    refine PySem.W.kat_lt ho hd ho hd ?_
    exact kat_same ⟨rfl, by rw [decide_eq_false (Nat.lt_irrefl _)]; exact (decide_eq_false (List.lt_irrefl _)).symm⟩ _ 0
  · unfold ltN
    obtain ⟨a, o, t, r, n, e1, ho, hc, hd⟩ := h1
    obtain ⟨a', o', t', r', n', e2, ho', hc', hd'⟩ := h2
    generalize k p.1 = x at *
    generalize k q.1 = y at *
    rw [e1, e2]
    refine PySem.W.kat_lt ho hd ho' hd' ?_
    show PySem.W.KatLex prog w A true _ _ ((.str x t, .str y t') :: r.zip r') 0 s
    refine PySem.W.kat_cons (SeqAt.EqAt.str_str x t y t' prog w _ _ ?_)
    refine PySem.W.kat_go (fun e3 => absurd (by simpa using e3) e) (fun _ => ?_)
    exact PySem.W.kat_no (oneLt_str ⟨rfl, rfl⟩)
theorem nm_firsts {h : Heap} {k : Value → Str} : ∀ {vs : List Value}, (∀ v ∈ vs, IsNm h v (k v)) → ∃ fs : List Value, PySem.W.KatTups h vs fs ∧ fs.length = vs.length ∧ ∀ f ∈ fs, ∃ x t, f = Value.str x t
  | [], _ => ⟨[], PySem.W.KatTups.nil, rfl, fun _ hm => by simp at hm⟩
  | v :: vs, hp => by
    obtain ⟨fs, h1, h2, h3⟩ := nm_firsts (vs := vs) fun v' hm => hp v' (List.mem_cons_of_mem _ hm)
    obtain ⟨a, o, t, r, n, e, ho, hc, hd⟩ := hp v (List.mem_cons_self ..)
    generalize k v = x at hd
    subst e
    refine ⟨.str x t :: fs, PySem.W.KatTups.cons ho hc hd rfl h1, by rw [List.length_cons, List.length_cons, h2], fun f hm => ?_⟩
    rcases List.mem_cons.mp hm with rfl | hm
    · exact ⟨x, t, rfl⟩
    · exact h3 f hm
theorem nm_sortable {a : Addr} {vs : List Value} {k : Value → Str} (h0 : 0 < vs.length) (hp : ∀ v ∈ vs, IsNm s.heap v (k v)) (inj : ∀ v ∈ vs, ∀ u ∈ vs, k v = k u → v = u) (ha : ∀ o, s.heap.get? a = some o → o.cls ≠ .type "tuple") : SortableO prog w A s a vs (ltN k) := by
  intro h' keep
  have hp' : ∀ v ∈ vs, IsNm h' v (k v) := fun v hm => (hp v hm).keeps fun b o e c => keep b o (fun z => by subst z; exact ha o e c) e
  obtain ⟨fs, h1, h2, h3⟩ := nm_firsts hp'
  refine ⟨tuples' true, fun Q E hq => ?_, nm_cmp hp' inj⟩
  refine PySem.W.kat_kind (T := .type "str") h1 (by omega) (fun f hm => ?_) (by rfl) ?_
  · obtain ⟨x, t, rfl⟩ := h3 f hm
    exact PySem.W.Looks.now
  · have e : (Value.type "str" != Value.type "tuple") = true := by first | decide +kernel | rfl | decide
    rw [e]
    exact hq
/-- sorted(l) of such tuples -/
theorem sorted_nm {l : Addr} {vs : List Value} {k : Value → Str} {Q : Value → Shared → Prop} (hl : s.heap.IsList l vs.toArray) (hz : vs.length ≤ sizeLine) (hp : ∀ v ∈ vs, IsNm s.heap v (k v)) (inj : ∀ v ∈ vs, ∀ u ∈ vs, k v = k u → v = u)
    (h : ∀ (h' : Heap) (d : Addr) (out : List Value), Srtd (ltN k) out → Stb (ltN k) out vs → (∀ b o, s.heap.get? b = some o → h'.get? b = some o) → s.heap.objs.size ≤ d → (∃ n, h'.get? d = some (seqObj "list" out.toArray n)) → Q (.ref d) { s with heap := h' }) :
    wpAny (model prog w) A (call (.builtin "sorted") [.ref l]) Q E s := by
  refine sorted_ord (swo_nm k) hl hz (fun h2 h₁ a ha kk => ?_) fun out hs hb => ?_
  · refine nm_sortable (s := { s with heap := h₁ }) (by omega) (fun v hm => (hp v hm).keeps fun b o e _ => (kk b o e).2) inj fun o e => ?_
    have e' : some o = some (seqObj "list" vs.toArray 0) := e.symm.trans ha
    cases e'
    intro c
    exact absurd (Value.type.inj c) (by decide)
  · exact h _ _ out hs hb (fun b o e => sortedAll_old e) (Nat.le_succ _) (sortedAll_at s.heap vs out.toArray)
end
/-! ### by the layer's rules -/
open L2 in
def rSortedN (K : PySem.W.Frag) : List V → Hp → VK → Prop := fun xs H Q => ∃ (α : Type) (ts : List α) (ad : α → Addr) (nm : α → Str) (a : Addr), xs = [V.ref a] ∧ SqL K H a (ts.map fun t => V.ref (ad t)) ∧ (∀ t ∈ ts, ∃ r, SqT K H (ad t) (.str (nm t) :: r)) ∧ (ts.map nm).Nodup ∧
  ∀ (ts' : List α) (p : Addr), ts'.Perm ts → ts'.Pairwise (fun x y => ¬ (nm y).cps.toList < (nm x).cps.toList) → H p = none → Q (.ref p) (upd H p (.lst (ts'.map fun t => V.ref (ad t))))
section
variable {α : Type}
theorem nodup_inj {nm : α → Str} : ∀ {ts : List α}, (ts.map nm).Nodup → ∀ x ∈ ts, ∀ y ∈ ts, nm x = nm y → x = y
  | [], _, x, hx, _, _, _ => by cases hx
  | t :: ts, h, x, hx, y, hy, e => by
    rw [List.map_cons, List.nodup_cons] at h
    rcases List.mem_cons.mp hx with h1 | h1
    · rcases List.mem_cons.mp hy with h2 | h2
      · rw [h1, h2]
      · rw [← h1, e] at h
        exact absurd (List.mem_map_of_mem h2) h.1
    · rcases List.mem_cons.mp hy with h2 | h2
      · rw [← h2, ← e] at h
        exact absurd (List.mem_map_of_mem h1) h.1
      · exact nodup_inj h.2 x h1 y h2 e
theorem find_at {ts : List α} {ad : α → Addr} (inj : ∀ x ∈ ts, ∀ y ∈ ts, ad x = ad y → x = y) {t : α} (ht : t ∈ ts) : ts.find? (fun x => decide (Value.ref (ad x) = Value.ref (ad t))) = some t := by
  cases e : ts.find? (fun x => decide (Value.ref (ad x) = Value.ref (ad t))) with
  | none => exact absurd (List.find?_eq_none.mp e t ht) (by simp)
  | some y =>
    have h1 := List.find?_some e
    have h2 := List.mem_of_find?_eq_some e
    have h1 := Value.ref.inj (of_decide_eq_true h1)
    rw [inj y h2 t ht h1]
theorem fm_map {ts : List α} {ad : α → Addr} (g : Value → Option α) (hg : ∀ t ∈ ts, g (.ref (ad t)) = some t) : ∀ l : List α, (∀ t ∈ l, t ∈ ts) → (l.map fun t => Value.ref (ad t)).filterMap g = l
  | [], _ => rfl
  | t :: l, h => by
    rw [List.map_cons, List.filterMap_cons, hg t (h t (List.mem_cons_self ..))]
    show t :: _ = _
    rw [fm_map g hg l fun x hx => h x (List.mem_cons_of_mem _ hx)]
theorem map_fm {ts : List α} {ad : α → Addr} (g : Value → Option α) (hg : ∀ t ∈ ts, g (.ref (ad t)) = some t) : ∀ l : List Value, (∀ v ∈ l, ∃ t ∈ ts, v = Value.ref (ad t)) → (l.filterMap g).map (fun t => Value.ref (ad t)) = l
  | [], _ => rfl
  | v :: l, h => by
    obtain ⟨t, ht, rfl⟩ := h v (List.mem_cons_self ..)
    rw [List.filterMap_cons, hg t ht]
    show Value.ref (ad t) :: _ = _
    rw [map_fm g hg l fun x hx => h x (List.mem_cons_of_mem _ hx)]
theorem vals_refs {ad : α → Addr} : ∀ {ts : List α} {its : List Value}, L2.Vals (ts.map fun t => L2.V.ref (ad t)) its → its = ts.map fun t => Value.ref (ad t)
  | [], its, r => by cases r; rfl
  | t :: ts, its, r => by
    cases r with
    | cons h r =>
      rw [vals_refs r]
      have h : _ = Value.ref (ad t) := h
      rw [h]; rfl
theorem refs_vals {ad : α → Addr} : ∀ (ts : List α), L2.Vals (ts.map fun t => L2.V.ref (ad t)) (ts.map fun t => Value.ref (ad t))
  | [] => .nil
  | t :: ts => .cons rfl (refs_vals ts)
open L2 in
theorem cr_sortedN {X : Cx} : CallR X (.builtin "sorted") (rSortedN X.K) := by
  intro pins s σ H vs us Q I r h
  obtain ⟨α, ts, ad, nm, a, rfl, hs, ht, nd, q⟩ := h
  obtain ⟨its, rv, hl, hz⟩ := I.list hs
  rw [Vals.ref1 r]
  have ei := vals_refs rv
  subst ei
  rw [List.length_map] at hz
  have ainj : ∀ x ∈ ts, ∀ y ∈ ts, ad x = ad y → x = y := fun x hx y hy e => by
    obtain ⟨r1, h1⟩ := ht x hx
    obtain ⟨r2, h2⟩ := ht y hy
    rw [e] at h1
    have := I.tuple_inj h1 h2
    have := (List.cons.inj this).1
    exact nodup_inj nd x hx y hy (V.str.inj this)
  let g : Value → Option α := fun v => ts.find? (fun x => decide (Value.ref (ad x) = v))
  have hg : ∀ t ∈ ts, g (.ref (ad t)) = some t := fun t ht => find_at ainj ht
  let k : Value → Str := fun v => ((g v).map nm).getD Str.empty
  have hk : ∀ t ∈ ts, k (.ref (ad t)) = nm t := fun t ht => by
    show ((g _).map nm).getD Str.empty = _
    rw [hg t ht]; rfl
  refine sorted_nm (k := k) hl.isList (by rw [List.length_map]; exact hz) (fun v hv => ?_) (fun v hv u hu e => ?_) fun h' d out h1 h2 h3 h4 h5 => ?_
  · obtain ⟨t, hm, rfl⟩ := List.mem_map.mp hv
    rw [hk t hm]
    obtain ⟨r1, h1⟩ := ht t hm
    obtain ⟨its, rv, ⟨o, ho, hc, n, hd⟩, _⟩ := I.tuple h1
    cases rv with
    | cons h rv =>
      obtain ⟨tk, rfl⟩ := h
      exact ⟨ad t, o, tk, _, n, rfl, ho, hc, hd⟩
  · obtain ⟨t, hm, rfl⟩ := List.mem_map.mp hv
    obtain ⟨t', hm', rfl⟩ := List.mem_map.mp hu
    rw [hk t hm, hk t' hm'] at e
    rw [nodup_inj nd t hm t' hm' e]
  · obtain ⟨ep, he⟩ := h5
    have hout : ∀ v ∈ out, ∃ t ∈ ts, v = Value.ref (ad t) := fun v hv => by
      obtain ⟨t, hm, e⟩ := List.mem_map.mp (h2.perm.mem_iff.mp hv)
      exact ⟨t, hm, e.symm⟩
    have e1 := map_fm g hg out hout
    have hp : (out.filterMap g).Perm ts := by
      have := h2.perm.filterMap g
      rw [fm_map g hg ts fun _ z => z] at this
      exact this
    have hlen : ((out.filterMap g).map fun t => V.ref (ad t)).length ≤ sizeLine := by rw [List.length_map, hp.length_eq]; exact hz
    have hn : H d = none := I.hok.fresh h4
    refine ⟨.ref d, upd H d (.lst ((out.filterMap g).map fun t => V.ref (ad t))), I.laid (t' := s.toks) (fun b o e => h3 b o e) h4 ⟨hlen, out, ep, ?_, he⟩, rfl, q _ d hp ?_ hn⟩
    · have := refs_vals (ad := ad) (out.filterMap g)
      rw [e1] at this
      exact this
    · rw [← e1] at h1
      have h1 := List.pairwise_map.mp h1
      refine List.Pairwise.imp_of_mem (fun {x y} hx hy z => ?_) h1
      have z : ltN k (.ref (ad y)) (.ref (ad x)) = false := z
      unfold ltN at z
      rw [hk y (hp.mem_iff.mp hy), hk x (hp.mem_iff.mp hx)] at z
      exact of_decide_eq_false z
end
/-! ### sorted(t) of a tuple of texts -/
section
variable {prog : Program} {w : World} {A : Around} {E : Value → Shared → Prop} {s : Shared}
theorem collect_tupN {p : Addr} {us : List Value} {Q : List Value → Shared → Prop} (ht : IsTup s.heap p us.toArray) (hn : us.length ≤ sizeLine) (q : Q us { s with heap := (s.heap.push (seqObj "list" #[] 0)).update s.heap.objs.size (Obj.mapSeq (· ++ us.toArray)) }) : wpAny (model prog w) A (collect (.ref p)) Q E s := by
  obtain ⟨ob, hob, hcl, ep, hdt⟩ := id ht
  unfold collect
  refine wpAny_bind (wpAny_runValue (codeAny_builtin entry_proto_collect' (show wpAny _ _ (do again (.builtin "list.__iadd__" ⟨[← newList [], .ref p], []⟩)) _ _ s from ?_)))
  refine wpAny_bind (wpAny_newList (wpAny_pure ⟨Code.quiet_builtin _ (by decide +kernel), codeAny_builtin entry_list_iadd' (show wpAny _ _ (Builtin.List.listExtendWith (.ref s.heap.objs.size) (.ref p) (.ref s.heap.objs.size)) _ _ { s with heap := s.heap.push (seqObj "list" #[] 0) } from ?_)⟩))
  unfold Builtin.List.listExtendWith
  have hob2 : (s.heap.push (seqObj "list" #[] 0)).get? p = some ob := Heap.get?_push_of_some _ hob
  refine wpAny_bind (wpAny_typeOf (T := "tuple") ⟨ob, hob2, hcl⟩ ?_)
  have htt : (Value.type "tuple" == Value.type "tuple") = true := by rfl
  rw [if_pos (by rw [htt]; simp)]
  refine wpAny_bind (listItems_at hob2 hdt (wpAny_bind (listItems_at (xs := #[]) (n := 0) (Heap.get?_push_size _ rfl) rfl ?_)))
  rw [if_neg (by simp)]
  refine wpAny_bind (listUpdate_at (xs := #[]) (n := 0) (Heap.get?_push_size _ rfl) rfl (wpAny_pure ?_) (Nat.zero_le _) (by show (#[] ++ us.toArray).size ≤ sizeLine + 1; simp only [Array.size_append, List.size_toArray, List.length_nil]; omega))
  show wpAny (model prog w) A (do let o ← load s.heap.objs.size; match o.data with | .seq xs _ => pure xs.toList | _ => unsupported "internal:collect") Q E { s with heap := (s.heap.push (seqObj "list" #[] 0)).update s.heap.objs.size (Obj.mapSeq (· ++ us.toArray)) }
  refine wpAny_bind (wpAny_load (get?_update_seq (Heap.get?_push_size _ rfl) _) (show wpAny _ _ (pure ((#[] : Array Value) ++ us.toArray).toList) Q E _ from ?_))
  rw [show ((#[] : Array Value) ++ us.toArray).toList = us by simp]
  exact wpAny_pure q
theorem sorted_tupS {p : Addr} {us : List Value} {ss : List Str} {Q : Value → Shared → Prop} (ht : IsTup s.heap p us.toArray) (hS : StrsAre us ss) (h64 : us.length < 64)
    (q : ∀ (out : Array Value) (zs : List Str), StrsAre out.toList zs → zs.Perm ss → sortedS zs = true → Q (.ref (s.heap.objs.size + 1)) { s with heap := sortedAll s.heap us out }) :
    wpAny (model prog w) A (call (.builtin "sorted") [.ref p]) Q E s := by
  have hn : us.length ≤ sizeLine := by rw [sizeLine_eq]; omega
  refine Calls.call_function_entry kind_sorted plain_sorted entry_sorted (args_sorted1 _) ?_
  unfold Builtin.«sorted»
  refine wpAny_bind (m := checkCount "sorted" 1 1 _) (wpAny_pure (wpAny_bind (collect_tupN ht hn (wpAny_bind (wpAny_newList ?_ hn)))))
  have e1 : ((s.heap.push (seqObj "list" #[] 0)).update s.heap.objs.size (Obj.mapSeq (· ++ us.toArray))).objs.size = s.heap.objs.size + 1 := by rw [Heap.size_update, size_push']
  have e2 : (((s.heap.push (seqObj "list" #[] 0)).update s.heap.objs.size (Obj.mapSeq (· ++ us.toArray))).push (seqObj "list" us.toArray 0)).get? (s.heap.objs.size + 1) = some (seqObj "list" us.toArray 0) := by rw [← e1]; exact Heap.get?_push_size _ rfl
  show wpAny _ _ _ _ _ { s with heap := ((s.heap.push (seqObj "list" #[] 0)).update s.heap.objs.size (Obj.mapSeq (· ++ us.toArray))).push (seqObj "list" us.toArray 0) }
  rw [e1]
  refine wpAny_bind (wpAny_holding (wpAny_call_entry slot_list_sort ⟨_, e2, rfl⟩ entry_list_sort (list_sort_treeK strKind_oneLt e2 hS.keysOf (fun v₁ v₂ rest e => keyKind_strs (by rw [← e]; exact hS)) h64 fun st' hp hs => ⟨_, rfl, ?_⟩) (args_list_sort _)))
  obtain ⟨zs, g1, g2, g3⟩ := sorted_out_str hS hp hs
  exact wpAny_pure ⟨_, rfl, q _ zs g1 g2 g3⟩
end
open L2 in
def rSortedTu (K : PySem.W.Frag) : List V → Hp → VK → Prop := fun xs H Q => ∃ (a : Addr) (zs : List Str), xs = [V.ref a] ∧ SqT K H a (zs.map V.str) ∧ zs.length < 64 ∧ ∀ ys p, ys.Perm zs → PyProof.Rows.sortedS ys = true → H p = none → Q (.ref p) (upd H p (.lst (ys.map V.str)))
open L2 in
theorem cr_sortedTu {X : Cx} : CallR X (.builtin "sorted") (rSortedTu X.K) := by
  intro pins s σ H vs us Q I r h
  obtain ⟨a, zs, rfl, hs, h64, q⟩ := h
  obtain ⟨its, rv, hl, _⟩ := I.tuple hs
  rw [Vals.ref1 r]
  have hn := rv.length
  rw [List.length_map] at hn
  refine sorted_tupS hl rv.strs (by rw [← hn]; exact h64) fun out ys h1 h2 h3 => ?_
  obtain ⟨ep, he'⟩ := PyProof.Rows.sortedAll_at s.heap its out
  have hz : (ys.map V.str).length ≤ sizeLine := by rw [List.length_map, h2.length_eq, sizeLine_eq]; omega
  exact ⟨.ref _, upd H (s.heap.objs.size + 1) (.lst (ys.map V.str)), I.laid (t' := s.toks) (fun _ _ => PyProof.Rows.sortedAll_old) (Nat.le_succ _) ⟨hz, out.toList, ep, vals_of_strs h1, he'⟩, rfl, q ys _ h2 h3 (I.hok.fresh (Nat.le_succ _))⟩
end DW

/-! DwCore: data without addresses, a small language of expressions and statements, and what it computes. -/
namespace DW
open PySem

/-- plain data: what a Python value is worth, whatever its address -/
inductive D where
  | non | bl (b : Bool) | int (i : Int) | str (s : Str)
  | tup (l : List D) | lst (l : List D) | dct (l : List (Str × D))
  | src

mutual
/-- no list, no dict in it -/
def D.imm : D → Bool
  | .lst _ => false
  | .dct _ => false
  | .src => false
  | .tup l => immL l
  | .non => true
  | .bl _ => true
  | .int _ => true
  | .str _ => true
def immL : List D → Bool
  | [] => true
  | d :: l => d.imm && immL l
end
/-- .. but for the topmost one -/
def D.immT : D → Bool
  | .lst l => immL l
  | .dct l => immL (l.map (·.2))
  | d => d.imm

def lim : Nat := 1000000
def big (i : Int) : Bool := decide (i.natAbs < 2 ^ 4096)

mutual
/-- data that == may look at, to a depth -/
def shp : Nat → D → Bool
  | _, .non => true
  | _, .bl _ => true
  | _, .int _ => true
  | _, .str x => x.cps.all (· < 0x110000)
  | n + 1, .tup l => shpL n l
  | n + 1, .lst l => shpL n l
  | _, _ => false
def shpL : Nat → List D → Bool
  | _, [] => true
  | n, d :: l => shp n d && shpL n l
end
mutual
def eqD : D → D → Bool
  | .non, .non => true
  | .bl a, .bl b => a == b
  | .bl a, .int j => (if a then 1 else 0) == j
  | .int i, .bl b => i == (if b then 1 else 0)
  | .int i, .int j => i == j
  | .str x, .str y => x == y
  | .lst xs, .lst ys => eqDs xs ys
  | .tup xs, .tup ys => eqDs xs ys
  | _, _ => false
def eqDs : List D → List D → Bool
  | [], [] => true
  | x :: xs, y :: ys => eqD x y && eqDs xs ys
  | _, _ => false
end
def D.isSrc : D → Bool
  | .src => true
  | _ => false
def D.flat : D → Bool
  | .non => true
  | .bl _ => true
  | .int _ => true
  | .str _ => true
  | _ => false

/-- the law's source of draws -/
structure Src where
  cells : List Int
  pos : Int
  rest : Int
  st : Int
/-- an exception of the program's own: its class, its fields -/
structure Exc where
  cls : Str
  fs : List (Str × D)
inductive R (α : Type) where
  | ok (a : α) (s : Src)
  | err (x : Exc) (s : Src)
  | stuck
def R.bind {α β : Type} (r : R α) (f : α → Src → R β) : R β := match r with
  | .ok a s => f a s
  | .err x s => .err x s
  | .stuck => .stuck
/-- an exception is not allowed here -/
def R.calm {α : Type} (r : R α) : R α := match r with
  | .ok a s => .ok a s
  | _ => .stuck
def ofO {α : Type} (o : Option α) (s : Src) : R α := match o with
  | some a => .ok a s
  | none => .stuck

/-- a written constant -/
inductive Lit where
  | non | bl (b : Bool) | int (i : Int) | str (s : Str)
  deriving DecidableEq
def Lit.d : Lit → D
  | .non => .non
  | .bl b => .bl b
  | .int i => .int i
  | .str s => .str s
def Lit.v : Lit → L2.V
  | .non => .non
  | .bl b => .bl b
  | .int i => .int i
  | .str s => .str s
/-- a constant of the module -/
inductive Gc where
  | lit (l : Lit) | tup (ls : List Lit)
  deriving DecidableEq
def Gc.d : Gc → D
  | .lit l => l.d
  | .tup ls => .tup (ls.map Lit.d)
inductive BOp where | add | sub | mul | fdiv | mod | pow
  deriving DecidableEq
inductive COp where | lt | le | gt | ge | eq | ne | isin | notin | isN | notN
  deriving DecidableEq
inductive Bi where | len | abs | all | any | sum | list | tuple | dict | int | sorted | min | max
  deriving DecidableEq
inductive Ty where | list | tuple | bool | int | dict | str
  deriving DecidableEq
mutual
inductive Ex where
  | var (i : Nat)
  | lit (l : Lit)
  | glb (x : Str) (c : Gc)
  | bin (op : BOp) (a b : Ex)
  | neg (a : Ex)
  | nt (a : Ex)
  | cmp (op : COp) (a b : Ex)
  | chn (op op' : COp) (a b c : Ex)
  | band (es : Exs)
  | bor (es : Exs)
  | ite (c a b : Ex)
  | call (f : Str) (es kx : Exs) (ks : List Str) (perm : List (Nat ⊕ Lit))
  | bi (f : Bi) (es : Exs)
  | isi (a : Ex) (ts : List Ty) (one : Bool)
  | idx (a i : Ex)
  | slc (a : Ex) (lo hi : Exs)
  | tup (es : Exs)
  | lst (es : Exs)
  | lc (tg : List Nat) (tp : Bool) (it : Itx) (cond : Exs) (elt : Ex)
  | lc2 (tg : List Nat) (tp : Bool) (it : Itx) (cond : Exs) (tg1 : List Nat) (tp1 : Bool) (it1 : Itx) (cond1 : Exs) (elt : Ex)
  | out (f : Str) (body : Ex)
  | nset (a : Ex)
  | dct0
  | dc (tg : List Nat) (tp : Bool) (it : Itx) (cond : Exs) (kx vx : Ex)
inductive Exs where
  | nil
  | cons (e : Ex) (es : Exs)
inductive Itx where
  | ex (e : Ex)
  | rng (es : Exs)
  | enum (e : Ex)
  | rev (e : Ex)
  | zip (a b : Ex)
  | walk (i : Nat)
end
def Exs.len : Exs → Nat
  | .nil => 0
  | .cons _ es => es.len + 1

/-! ### the operators -/
def opB : BOp → D → D → Option (Bool × D)
  | .add, .int a, .int b => some (false, .int (a + b))
  | .add, .str a, .str b => if a.length + b.length ≤ lim then some (false, .str (a ++ b)) else none
  | .add, .lst a, .lst b => if a.length + b.length ≤ lim then some (true, .lst (a ++ b)) else none
  | .sub, .int a, .int b => some (false, .int (a - b))
  | .mul, .int a, .int b => if big a && big b then some (false, .int (a * b)) else none
  | .fdiv, .int a, .int b => if b ≠ 0 ∧ big b = true then some (false, .int (a.fdiv b)) else none
  | .mod, .int a, .int b => if b ≠ 0 then some (false, .int (a.fmod b)) else none
  | .pow, .int a, .int b => if 0 ≤ b ∧ b ≤ 1000 ∧ a.natAbs < 2 ^ 64 then some (false, .int (a ^ b.toNat)) else none
  | _, _, _ => none
def hasK (l : List (Str × D)) (k : Str) : Bool := l.any fun p => decide (p.1 = k)
def getK (l : List (Str × D)) (k : Str) : Option D := (l.find? fun p => decide (p.1 = k)).map (·.2)
def inD (x : D) (l : List D) : Bool := l.any fun y => eqD y x
def isNon : D → Bool
  | .non => true
  | _ => false
def opC : COp → D → D → Option Bool
  | .lt, .int a, .int b => some (decide (a < b))
  | .le, .int a, .int b => some (decide (a ≤ b))
  | .gt, .int a, .int b => some (decide (b < a))
  | .ge, .int a, .int b => some (decide (b ≤ a))
  | .lt, .str a, .str b => some (decide (a.cps.toList < b.cps.toList))
  | .le, .str a, .str b => some (!decide (b.cps.toList < a.cps.toList))
  | .eq, a, b => if shp 60 a && shp 60 b then some (eqD a b) else none
  | .ne, a, b => if shp 60 a && shp 60 b then some (!eqD a b) else none
  | .isin, x, .lst l => if x.flat && l.all D.flat then some (inD x l) else none
  | .isin, x, .tup l => if x.flat && l.all D.flat then some (inD x l) else none
  | .notin, x, .lst l => if x.flat && l.all D.flat then some (!inD x l) else none
  | .notin, x, .tup l => if x.flat && l.all D.flat then some (!inD x l) else none
  | .isin, .str k, .dct l => some (hasK l k)
  | .notin, .str k, .dct l => some (!hasK l k)
  | .isin, .str a, .str b => (match a.cps.toList with
    | [c] => some (decide (c ∈ b.cps.toList))
    | _ => none)
  | .isN, x, .non => some (isNon x)
  | .notN, x, .non => some (!isNon x)
  | _, _, _ => none
def bools : List D → Option (List Bool)
  | [] => some []
  | .bl b :: l => (bools l).map (b :: ·)
  | _ => none
def intsD : List D → Option (List Int)
  | [] => some []
  | .int b :: l => (intsD l).map (b :: ·)
  | _ => none
def strsD : List D → Option (List Str)
  | [] => some []
  | .str b :: l => (strsD l).map (b :: ·)
  | _ => none
def putK (l : List (Str × D)) (k : Str) (d : D) : List (Str × D) := if hasK l k = true then l.map (fun kv => if kv.1 = k then (kv.1, d) else kv) else l ++ [(k, d)]
def leS (a b : Str) : Bool := !decide (b.cps.toList < a.cps.toList)
def sortS (l : List Str) : List Str := l.mergeSort leS
/-- pairs of a text and a thing -/
def pairsD : List D → Option (List (Str × D))
  | [] => some []
  | .tup [.str k, d] :: l => (pairsD l).map ((k, d) :: ·)
  | _ => none
/-- tuples that begin with a text -/
def namedD : List D → Option (List (Str × List D))
  | [] => some []
  | .tup (.str k :: r) :: l => (namedD l).map ((k, r) :: ·)
  | _ => none
def sortN (l : List (Str × List D)) : List (Str × List D) := l.mergeSort fun a b => leS a.1 b.1
def nmD (p : Str × List D) : D := .tup (.str p.1 :: p.2)
/-- sorted of a list: texts; tuples whose first parts are different texts -/
def opSrt (l : List D) : Option (Bool × D) := match strsD l with
  | some xs => if xs.length < 64 then some (true, .lst ((sortS xs).map D.str)) else none
  | none => (match namedD l with
    | some ns => if (ns.map (·.1)).Nodup then some (true, .lst ((sortN ns).map nmD)) else none
    | none => none)
def opF : Bi → List D → Option (Bool × D)
  | .len, [.lst l] => some (false, .int l.length)
  | .len, [.tup l] => some (false, .int l.length)
  | .len, [.dct l] => some (false, .int l.length)
  | .len, [.str s] => if s.length ≤ lim then some (false, .int s.length) else none
  | .abs, [.int i] => some (false, .int (if i < 0 then -i else i))
  | .all, [.lst l] => (bools l).map fun bs => (false, .bl (bs.all id))
  | .any, [.lst l] => (bools l).map fun bs => (false, .bl (bs.any id))
  | .sum, [.lst l] => (intsD l).map fun ns => (false, .int ns.sum)
  | .list, [.lst l] => some (true, .lst l)
  | .list, [.tup l] => some (true, .lst l)
  | .tuple, [.lst l] => some (false, .tup l)
  | .dict, [.dct l] => some (true, .dct l)
  | .dict, [.lst l] => (pairsD l).map fun ps => (true, .dct (ps.foldl (fun a p => putK a p.1 p.2) []))
  | .sorted, [.lst l] => opSrt l
  | .sorted, [.tup l] => (strsD l).bind fun xs => if xs.length < 64 then some (true, .lst ((sortS xs).map D.str)) else none
  | .min, [.lst l] => (intsD l).bind fun ns => ns.min?.map fun n => (false, .int n)
  | .max, [.lst l] => (intsD l).bind fun ns => ns.max?.map fun n => (false, .int n)
  | .min, [.int a, .int b] => some (false, .int (if b < a then b else a))
  | .max, [.int a, .int b] => some (false, .int (if b > a then b else a))
  | .sorted, [.dct l] => if l.length < 64 then some (true, .lst ((sortS (l.map (·.1))).map D.str)) else none
  | .int, [.int i] => some (false, .int i)
  | .int, [.bl b] => some (false, .int (if b then 1 else 0))
  | _, _ => none
def tyIs : D → Ty → Bool
  | .lst _, .list => true
  | .tup _, .tuple => true
  | .bl _, .bool => true
  | .bl _, .int => true
  | .int _, .int => true
  | .dct _, .dict => true
  | .str _, .str => true
  | _, _ => false
def opI : D → D → Option D
  | .lst l, .int i => atI l i
  | .tup l, .int i => atI l i
  | .dct l, .str k => getK l k
  | _, _ => none
where atI (l : List D) (i : Int) : Option D := (L2.ixN l.length i).bind fun j => l[j]?
def Src.get (S : Src) : Int → Option D
  | 0 => some (.lst (S.cells.map D.int))
  | 1 => some (.int S.pos)
  | 2 => some (.int S.rest)
  | 3 => some (.int S.st)
  | _ => none
def Src.put (S : Src) : Nat → Int → Option Src
  | 1, v => some { S with pos := v }
  | 2, v => some { S with rest := v }
  | 3, v => some { S with st := v }
  | _, _ => none
def opX (S : Src) : D → D → Option D
  | .src, .int i => S.get i
  | d, e => opI d e
def cutD (xs : List D) (lo hi : Option Int) : List D := (xs.drop (HT.sIx xs.length 0 lo)).take (HT.sIx xs.length xs.length hi - HT.sIx xs.length 0 lo)
def opS : D → Option Int → Option Int → Option (Bool × D)
  | .lst l, lo, hi => some (true, .lst (cutD l lo hi))
  | _, _, _ => none
/-- the items that a walk yields -/
def items : D → Option (List D)
  | .lst l => some l
  | .tup l => some l
  | _ => none
/-- .. a comprehension's walk over what a name holds: also the signs of a text, the keys of a dict -/
def itemsW : D → Option (List D)
  | .str s => if s.cps.size ≤ lim then some (s.cps.toList.map fun c => .str ⟨#[c]⟩) else none
  | .dct l => some (l.map fun p => .str p.1)
  | .lst l => some l
  | .tup l => some l
  | _ => none
def rngD (lo : Int) : Nat → List D
  | 0 => []
  | n + 1 => .int lo :: rngD (lo + 1) n
def inR (n : Int) : Bool := decide (-400000 ≤ n) && decide (n ≤ 400000)
def opR : List D → Option (List D)
  | [.int n] => if inR n then some (rngD 0 n.toNat) else none
  | [.int a, .int b] => if inR a && inR b then some (rngD a (b - a).toNat) else none
  | _ => none
def enumD (i : Int) : List D → List D
  | [] => []
  | d :: l => .tup [.int i, d] :: enumD (i + 1) l
def zipD : List D → List D → List D
  | x :: xs, y :: ys => .tup [x, y] :: zipD xs ys
  | _, _ => []

abbrev Rho := List (Option D)
/-- the slots of a target -/
def bindR : List Nat → List D → Rho → Option Rho
  | [], [], ρ => some ρ
  | i :: is, d :: ds, ρ => bindR is ds (ρ.set i (some d))
  | _, _, _ => none
def bindT (tg : List Nat) (tp : Bool) (d : D) (ρ : Rho) : Option Rho :=
  if tp then (match d with
    | .tup ds => bindR tg ds ρ
    | _ => none)
  else bindR tg [d] ρ
def wipeR (ρ : Rho) : List Nat → Rho
  | [] => ρ
  | v :: vs => (wipeR ρ vs).set v none
def lcGo (bd : D → Option Rho) (cc : Rho → Src → R Bool) (ee : Rho → Src → R (Bool × D)) : List D → Src → R (List D)
  | [], S => .ok [] S
  | d :: ds, S => match bd d with
    | none => .stuck
    | some ρ => (cc ρ S).calm.bind fun b S => if b then (ee ρ S).calm.bind fun y S => (lcGo bd cc ee ds S).bind fun l S => .ok (y.2 :: l) S else lcGo bd cc ee ds S
def lc2Go (bd : D → Option Rho) (cc : Rho → Src → R Bool) (ii : Rho → Src → R (List D)) (bd1 : Rho → D → Option Rho) (cc1 : Rho → Src → R Bool) (ee : Rho → Src → R (Bool × D)) : List D → Src → R (List D)
  | [], S => .ok [] S
  | d :: ds, S => match bd d with
    | none => .stuck
    | some ρ => (cc ρ S).calm.bind fun b S => if b then (ii ρ S).calm.bind fun ds1 S => (lcGo (bd1 ρ) cc1 ee ds1 S).bind fun l1 S => (lc2Go bd cc ii bd1 cc1 ee ds S).bind fun l S => .ok (l1 ++ l) S else lc2Go bd cc ii bd1 cc1 ee ds S
def dcGo (bd : D → Option Rho) (cc : Rho → Src → R Bool) (kk vv : Rho → Src → R (Bool × D)) : List D → List (Str × D) → Src → R (List (Str × D))
  | [], acc, S => .ok acc S
  | d :: ds, acc, S => match bd d with
    | none => .stuck
    | some ρ => (cc ρ S).calm.bind fun b S => if b then (kk ρ S).calm.bind fun k S => (vv ρ S).calm.bind fun v S => (match k.2 with
      | .str x => dcGo bd cc kk vv ds (putK acc x v.2) S
      | _ => .stuck) else dcGo bd cc kk vv ds acc S
/-- a def's value by its arguments -/
structure FT where
  call : Str → List D → Src → R (Bool × D)
  out : Str → (Src → R (Bool × D)) → Src → R (Bool × D)
def permD : List (Nat ⊕ Lit) → List D → Option (List D)
  | [], _ => some []
  | .inl i :: ps, ds => (match ds[i]? with
    | some d => (permD ps ds).map (d :: ·)
    | none => none)
  | .inr l :: ps, ds => (permD ps ds).map (l.d :: ·)
def permV : List (Nat ⊕ Lit) → List L2.V → List L2.V
  | [], _ => []
  | .inl i :: ps, vs => vs.getD i .non :: permV ps vs
  | .inr l :: ps, vs => l.v :: permV ps vs
def theB (r : R (Bool × D)) : R Bool := r.bind fun p S => match p.2 with
  | .bl b => .ok b S
  | _ => .stuck
mutual
def ev (F : FT) : Ex → Rho → Src → R (Bool × D)
  | .var i, ρ, S => (match ρ[i]? with
    | some (some d) => .ok (false, d) S
    | _ => .stuck)
  | .lit l, _, S => .ok (false, l.d) S
  | .glb _ c, _, S => .ok (false, c.d) S
  | .bin op a b, ρ, S => (ev F a ρ S).bind fun x S => (ev F b ρ S).bind fun y S => ofO (opB op x.2 y.2) S
  | .neg a, ρ, S => (ev F a ρ S).bind fun x S => (match x.2 with
    | .int i => .ok (false, .int (-i)) S
    | _ => .stuck)
  | .nt a, ρ, S => (theB (ev F a ρ S)).bind fun b S => .ok (false, .bl (!b)) S
  | .cmp op a b, ρ, S => (ev F a ρ S).bind fun x S => (ev F b ρ S).bind fun y S => (ofO (opC op x.2 y.2) S).bind fun b S => .ok (false, .bl b) S
  | .chn op op' a b c, ρ, S => (ev F a ρ S).bind fun x S => (ev F b ρ S).bind fun y S => (ofO (opC op x.2 y.2) S).bind fun k S =>
    if k then (ev F c ρ S).bind fun z S => (ofO (opC op' y.2 z.2) S).bind fun b S => .ok (false, .bl b) S else .ok (false, .bl false) S
  | .band es, ρ, S => evAnd F es ρ S
  | .bor es, ρ, S => evOr F es ρ S
  | .ite c a b, ρ, S => (theB (ev F c ρ S)).bind fun k S => if k then ev F a ρ S else ev F b ρ S
  | .call f es kx _ perm, ρ, S => (evs F es ρ S).bind fun ds S => (evs F kx ρ S).bind fun zs S => (ofO (permD perm (ds ++ zs)) S).bind fun as S => F.call f as S
  | .bi f es, ρ, S => (evs F es ρ S).bind fun ds S => ofO (opF f ds) S
  | .isi a ts _, ρ, S => (ev F a ρ S).bind fun x S => if x.2.isSrc then .stuck else .ok (false, .bl (ts.any (tyIs x.2))) S
  | .idx a i, ρ, S => (ev F a ρ S).bind fun x S => (ev F i ρ S).bind fun y S => (ofO (opX S x.2 y.2) S).bind fun d S => .ok (false, d) S
  | .slc a lo hi, ρ, S => (ev F a ρ S).bind fun x S => (evo F lo ρ S).bind fun l S => (evo F hi ρ S).bind fun h S => ofO (opS x.2 l h) S
  | .tup es, ρ, S => (evs F es ρ S).bind fun ds S => .ok (false, .tup ds) S
  | .lst es, ρ, S => (evs F es ρ S).bind fun ds S => .ok (true, .lst ds) S
  | .lc tg tp it cond elt, ρ, S => (evi F it ρ S).bind fun ds S => (lcGo (fun d => bindT tg tp d (wipeR ρ tg)) (evc F cond) (ev F elt) ds S).bind fun l S => .ok (true, .lst l) S
  | .lc2 tg tp it cond tg1 tp1 it1 cond1 elt, ρ, S => (evi F it ρ S).bind fun ds S => (lc2Go (fun d => bindT tg tp d (wipeR ρ (tg ++ tg1))) (evc F cond) (evi F it1) (fun ρ d => bindT tg1 tp1 d (wipeR ρ tg1)) (evc F cond1) (ev F elt) ds S).bind fun l S => if l.length ≤ lim then .ok (true, .lst l) S else .stuck
  | .out f body, ρ, S => F.out f (fun S => ev F body ρ S) S
  | .nset a, ρ, S => (ev F a ρ S).bind fun x S => (match items x.2 with
    | some l => (match strsD l with
      | some ws => if ws.length ≤ 2000 then .ok (false, .int (cS ws ws.length : Nat)) S else .stuck
      | none => .stuck)
    | none => .stuck)
  | .dct0, _, S => .ok (true, .dct []) S
  | .dc tg tp it cond kx vx, ρ, S => (evi F it ρ S).bind fun ds S => (dcGo (fun d => bindT tg tp d (wipeR ρ tg)) (evc F cond) (ev F kx) (ev F vx) ds [] S).bind fun l S => .ok (true, .dct l) S
def evs (F : FT) : Exs → Rho → Src → R (List D)
  | .nil, _, S => .ok [] S
  | .cons e es, ρ, S => (ev F e ρ S).bind fun x S => (evs F es ρ S).bind fun l S => .ok (x.2 :: l) S
def evo (F : FT) : Exs → Rho → Src → R (Option Int)
  | .nil, _, S => .ok none S
  | .cons e _, ρ, S => (ev F e ρ S).bind fun x S => (match x.2 with
    | .int i => .ok (some i) S
    | _ => .stuck)
def evc (F : FT) : Exs → Rho → Src → R Bool
  | .nil, _, S => .ok true S
  | .cons e _, ρ, S => theB (ev F e ρ S)
def evAnd (F : FT) : Exs → Rho → Src → R (Bool × D)
  | .nil, _, _ => .stuck
  | .cons e .nil, ρ, S => ev F e ρ S
  | .cons e es, ρ, S => (theB (ev F e ρ S)).bind fun b S => if b then evAnd F es ρ S else .ok (false, .bl false) S
def evOr (F : FT) : Exs → Rho → Src → R (Bool × D)
  | .nil, _, _ => .stuck
  | .cons e .nil, ρ, S => ev F e ρ S
  | .cons e es, ρ, S => (theB (ev F e ρ S)).bind fun b S => if b then .ok (false, .bl true) S else evOr F es ρ S
def evi (F : FT) : Itx → Rho → Src → R (List D)
  | .ex e, ρ, S => (ev F e ρ S).bind fun x S => ofO (items x.2) S
  | .rng es, ρ, S => (evs F es ρ S).bind fun ds S => ofO (opR ds) S
  | .enum e, ρ, S => (ev F e ρ S).bind fun x S => (match x.2 with
    | .lst l => .ok (enumD 0 l) S
    | _ => .stuck)
  | .rev e, ρ, S => (ev F e ρ S).bind fun x S => (match x.2 with
    | .lst l => .ok l.reverse S
    | _ => .stuck)
  | .zip a b, ρ, S => (ev F a ρ S).bind fun x S => (ev F b ρ S).bind fun y S => (match x.2, y.2 with
    | .lst l, .lst m => .ok (zipD l m) S
    | .tup l, .tup m => .ok (zipD l m) S
    | _, _ => .stuck)
  | .walk i, ρ, S => (match ρ[i]? with
    | some (some d) => ofO (itemsW d) S
    | _ => .stuck)
end

/-! ### statements -/
mutual
/-- the slots that an expression names -/
def ment : Ex → Nat → Bool
  | .var i, j => i == j
  | .lit _, _ => false
  | .glb _ _, _ => false
  | .bin _ a b, j => ment a j || ment b j
  | .neg a, j => ment a j
  | .nt a, j => ment a j
  | .cmp _ a b, j => ment a j || ment b j
  | .chn _ _ a b c, j => ment a j || ment b j || ment c j
  | .band es, j => ments es j
  | .bor es, j => ments es j
  | .ite c a b, j => ment c j || ment a j || ment b j
  | .call _ es kx _ _, j => ments es j || ments kx j
  | .bi _ es, j => ments es j
  | .isi a _ _, j => ment a j
  | .idx a i, j => ment a j || ment i j
  | .slc a lo hi, j => ment a j || ments lo j || ments hi j
  | .tup es, j => ments es j
  | .lst es, j => ments es j
  | .lc _ _ it cond elt, j => menti it j || ments cond j || ment elt j
  | .lc2 _ _ it cond _ _ it1 cond1 elt, j => menti it j || ments cond j || menti it1 j || ments cond1 j || ment elt j
  | .out _ b, j => ment b j
  | .nset a, j => ment a j
  | .dct0, _ => false
  | .dc _ _ it cond kx vx, j => menti it j || ments cond j || ment kx j || ment vx j
def ments : Exs → Nat → Bool
  | .nil, _ => false
  | .cons e es, j => ment e j || ments es j
def menti : Itx → Nat → Bool
  | .ex e, j => ment e j
  | .rng es, j => ments es j
  | .enum e, j => ment e j
  | .rev e, j => ment e j
  | .zip a b, j => ment a j || ment b j
  | .walk i, j => i == j
end
/-- a def's slots: whether what stands there is owned (nobody else holds it), and what it is -/
abbrev Mem := List (Option (Bool × D))
def seen (m : Nat → Bool) : Nat → Mem → Rho
  | _, [] => []
  | i, none :: μ => none :: seen m (i + 1) μ
  | i, some (o, d) :: μ => (if o && !m i then none else some d) :: seen m (i + 1) μ
def freeze (m : Nat → Bool) : Nat → Mem → Mem
  | _, [] => []
  | i, none :: μ => none :: freeze m (i + 1) μ
  | i, some (o, d) :: μ => some (o && !m i, d) :: freeze m (i + 1) μ
def loose (p : Bool × D) : Bool := if p.1 then p.2.immT else p.2.imm
/-- methods that change what they are called on -/
inductive Mt where | append | insert | pop | popAt | clear | reverse | dpop
  deriving DecidableEq
/-- what a clause stores: a field of the exception, or a pair of a text and a field -/
inductive Hx where
  | attr (f : Str)
  | pair (x : Str) (f : Str)
  deriving DecidableEq
/-- a clause: except c as slot e: slot r = .. -/
structure Hd where
  c : Str
  e : Nat
  r : Nat
  x : Hx
mutual
inductive Sm where
  | set (i : Nat) (x : Ex)
  | unp (is : List Nat) (x : Ex)
  | par (i j : Nat) (a b : Ex)
  | ret (x : Ex)
  | retN
  | ifs (c : Ex) (a b : Sms)
  | fors (tg : List Nat) (tp : Bool) (it : Itx) (body : Sms)
  | whl (c : Ex) (body : Sms)
  | rais (c : Str) (es : Exs)
  | mth (r : Option Nat) (i : Nat) (m : Mt) (xs : Exs)
  | sub (i : Nat) (k x : Ex)
  | aug (i : Nat) (k : Ex) (op : BOp) (x : Ex)
  | expr (x : Ex)
  | srcSet (i k : Nat) (x : Ex)
  | srcInc (i k : Nat) (c : Int)
  | tryx (body : Sms) (hs : List Hd)
  | brk
  | cont
  | pass
inductive Sms where
  | nil
  | cons (s : Sm) (ss : Sms)
end
inductive SR where
  | nxt (μ : Mem) (s : Src)
  | ret (p : Bool × D) (s : Src)
  | brk (μ : Mem) (s : Src)
  | cnt (μ : Mem) (s : Src)
  | err (x : Exc) (s : Src) (μ : Mem)
  | stuck
def R.then {α : Type} (r : R α) (μ : Mem) (f : α → Src → SR) : SR := match r with
  | .ok a s => f a s
  | .err x s => .err x s μ
  | .stuck => .stuck
def SR.seq (r : SR) (f : Mem → Src → SR) : SR := match r with
  | .nxt μ s => f μ s
  | r => r
/-- an expression of a statement: its value, and the slots behind it -/
def evM (F : FT) (x : Ex) (μ : Mem) (S : Src) : R ((Bool × D) × Mem) := (ev F x (seen (ment x) 0 μ) S).bind fun p S => .ok (p, if loose p then μ else freeze (ment x) 0 μ) S
def evsM (F : FT) (xs : Exs) (μ : Mem) (S : Src) : R (List D × Mem) := (evs F xs (seen (ments xs) 0 μ) S).bind fun l S => .ok (l, if immL l then μ else freeze (ments xs) 0 μ) S
def setAll : List Nat → List D → Mem → Option Mem
  | [], [], μ => some μ
  | i :: is, d :: ds, μ => setAll is ds (μ.set i (some (false, d)))
  | _, _, _ => none
def bindM (tg : List Nat) (tp : Bool) (d : D) (μ : Mem) : Option Mem :=
  if tp then (match d with
    | .tup ds => setAll tg ds μ
    | _ => none)
  else setAll tg [d] μ
def forGo (bd : D → Mem → Option Mem) (body : Mem → Src → SR) : List D → Mem → Src → SR
  | [], μ, S => .nxt μ S
  | d :: ds, μ, S => match bd d μ with
    | none => .stuck
    | some μ1 => (match body μ1 S with
      | .nxt μ2 S2 => forGo bd body ds μ2 S2
      | .cnt μ2 S2 => forGo bd body ds μ2 S2
      | .brk μ2 S2 => .nxt μ2 S2
      | r => r)
def whlGo (test : Mem → Src → R (Bool × Mem)) (fz : Mem → Mem) (body : Mem → Src → SR) : Nat → Mem → Src → SR
  | 0, _, _ => .stuck
  | n + 1, μ, S => (test μ S).then (fz μ) fun b S => if b.1 then (match body b.2 S with
      | .nxt μ2 S2 => whlGo test fz body n μ2 S2
      | .cnt μ2 S2 => whlGo test fz body n μ2 S2
      | .brk μ2 S2 => .nxt μ2 S2
      | r => r) else .nxt b.2 S
def evMB (F : FT) (x : Ex) (μ : Mem) (S : Src) : R (Bool × Mem) := (evM F x μ S).bind fun q S => match q.1.2 with
  | .bl b => .ok (b, q.2) S
  | _ => .stuck
/-- the exception classes: what their fields hold; is it (under) the class -/
structure XT where
  flds : Str → List D → Option (List (Str × D))
  sub : Str → Str → Option Bool
structure XD where
  cls : Str
  base : Str
  code : Str
  fld : Option (Str × Lit)
  deriving DecidableEq
def XD.f (x : XD) : Option Str := x.fld.map (·.1)
def xdFs (x : XD) : List D → Option (List (Str × D))
  | [] => (match x.fld with
    | none => some [("code", .str x.code)]
    | some (f, l) => some [(f, l.d), ("code", .str x.code)])
  | [d] => (match x.fld with
    | none => none
    | some (f, _) => some [(f, d), ("code", .str x.code)])
  | _ => none
def xfOf (l : List XD) : XT where
  flds := fun c ds => (l.find? fun x => decide (x.cls = c)).bind fun x => xdFs x ds
  sub := fun c d => (l.find? fun x => decide (x.cls = c)).map fun x => decide (x.cls = d) || decide (x.base = d)
def Hx.f : Hx → Str
  | .attr f => f
  | .pair _ f => f
def Hx.val : Hx → List (Str × D) → Option D
  | .attr f, fs => getK fs f
  | .pair x f, fs => (getK fs f).map fun d => .tup [.str x, d]
/-- the first clause that takes an exception of the class -/
def pick (sub : Str → Str → Option Bool) (c : Str) : List Hd → Option (Option Hd)
  | [] => some none
  | h :: hs => (match sub c h.c with
    | some true => some (some h)
    | some false => pick sub c hs
    | none => none)
def tryGo (sub : Str → Str → Option Bool) (x : Exc) (S : Src) (μ : Mem) (hs : List Hd) : SR := match pick sub x.cls hs with
  | some (some h) => (match h.x.val x.fs with
    | some d => if h.e < μ.length then .nxt ((μ.set h.r (some (false, d))).set h.e none) S else .stuck
    | none => .stuck)
  | some none => .err x S μ
  | none => .stuck
def Mt.lst : Mt → Bool
  | .dpop => false
  | _ => true
/-- is it a thing that has the method -/
def mtTy : Mt → D → Bool
  | .dpop, .dct _ => true
  | .dpop, _ => false
  | _, .lst _ => true
  | _, _ => false
def dropK (l : List (Str × D)) (k : Str) : List (Str × D) := l.filter fun p => !decide (p.1 = k)
def opM : Mt → D → List D → Option (D × D)
  | .append, .lst l, [d] => if l.length < lim then some (.lst (l ++ [d]), .non) else none
  | .insert, .lst l, [.int j, d] => if l.length < lim ∧ 0 ≤ j ∧ j ≤ l.length then some (.lst (l.take j.toNat ++ [d] ++ l.drop j.toNat), .non) else none
  | .pop, .lst l, [] => (match l[l.length - 1]? with
    | some d => some (.lst l.dropLast, d)
    | none => none)
  | .popAt, .lst l, [.int j] => if 0 ≤ j then (match l[j.toNat]? with
    | some d => some (.lst (l.eraseIdx j.toNat), d)
    | none => none) else none
  | .clear, .lst _, [] => some (.lst [], .non)
  | .reverse, .lst l, [] => some (.lst l.reverse, .non)
  | .dpop, .dct l, [.str k] => (match getK l k with
    | some d => some (.dct (dropK l k), d)
    | none => none)
  | _, _, _ => none
/-- o[k] = v -/
def opP : D → D → D → Option D
  | .lst l, .int i, d => (L2.ixN l.length i).map fun j => .lst (l.set j d)
  | .dct l, .str k, d => if l.length < lim then some (.dct (putK l k d)) else none
  | _, _, _ => none
def setR : Option Nat → Mem → D → Mem
  | none, μ, _ => μ
  | some j, μ, d => μ.set j (some (false, d))
/-- the owned thing at a slot -/
def own? (μ : Mem) (i : Nat) : Option D := match μ[i]? with
  | some (some (true, d)) => some d
  | _ => none
def isSrcAt (μ : Mem) (i : Nat) : Bool := match μ[i]? with
  | some (some (false, .src)) => true
  | _ => false
def isVar : Ex → Option Nat
  | .var i => some i
  | _ => none
mutual
def ex (F : FT) (XF : XT) (g : Nat) : Sm → Mem → Src → SR
  | .set i x, μ, S => (evM F x μ S).then (freeze (ment x) 0 μ) fun q S => .nxt (q.2.set i (some q.1)) S
  | .unp is x, μ, S => (evM F x μ S).then (freeze (ment x) 0 μ) fun q S => (match q.1.2 with
    | .tup ds => (match setAll is ds q.2 with
      | some μ => .nxt μ S
      | none => .stuck)
    | _ => .stuck)
  | .par i j a b, μ, S => (evM F a μ S).then (freeze (ment a) 0 μ) fun p S => (evM F b p.2 S).then (freeze (ment b) 0 p.2) fun q S => .nxt ((q.2.set i (some p.1)).set j (some q.1)) S
  | .ret x, μ, S => (match isVar x with
    | some i => (match μ[i]? with
      | some (some p) => .ret p S
      | _ => .stuck)
    | none => (evM F x μ S).then (freeze (ment x) 0 μ) fun q S => .ret q.1 S)
  | .retN, _, S => .ret (false, .non) S
  | .ifs c a b, μ, S => (evMB F c μ S).then (freeze (ment c) 0 μ) fun k S => if k.1 then exs F XF g a k.2 S else exs F XF g b k.2 S
  | .fors tg tp it body, μ, S => (evi F it (seen (menti it) 0 μ) S).then (freeze (menti it) 0 μ) fun ds S => forGo (bindM tg tp) (exs F XF g body) ds (freeze (menti it) 0 μ) S
  | .whl c body, μ, S => whlGo (evMB F c) (freeze (ment c) 0) (exs F XF g body) g μ S
  | .rais c es, μ, S => (evs F es (seen (ments es) 0 μ) S).then (freeze (ments es) 0 μ) fun ds S => (match XF.flds c ds with
    | some fs => .err ⟨c, fs⟩ S (freeze (ments es) 0 μ)
    | none => .stuck)
  | .mth r i m xs, μ, S => (match own? μ i with
    | some d0 => if mtTy m d0 then (evsM F xs μ S).then (freeze (ments xs) 0 μ) fun q S => (match own? q.2 i with
      | some d => (match opM m d q.1 with
        | some z => .nxt (setR r (q.2.set i (some (true, z.1))) z.2) S
        | none => .stuck)
      | none => .stuck) else .stuck
    | none => .stuck)
  | .sub i k x, μ, S => (evM F x μ S).then (freeze (ment x) 0 μ) fun p S => (match own? p.2 i with
    | some _ => (evM F k p.2 S).then (freeze (ment k) 0 p.2) fun q S => (match own? q.2 i with
      | some d => (match opP d q.1.2 p.1.2 with
        | some z => .nxt (q.2.set i (some (true, z))) S
        | none => .stuck)
      | none => .stuck)
    | none => .stuck)
  | .aug i k op x, μ, S => (match own? μ i with
    | some _ => (evM F k μ S).then (freeze (ment k) 0 μ) fun q S => (match own? q.2 i with
      | some d => (match opI d q.1.2 with
        | some c => (evM F x q.2 S).then (freeze (ment x) 0 q.2) fun p S => (match own? p.2 i with
          | some d => (match opB op c p.1.2 with
            | some z => (match opP d q.1.2 z.2 with
              | some z' => if z.1 then .stuck else .nxt (p.2.set i (some (true, z'))) S
              | none => .stuck)
            | none => .stuck)
          | none => .stuck)
        | none => .stuck)
      | none => .stuck)
    | none => .stuck)
  | .expr x, μ, S => (evM F x μ S).then (freeze (ment x) 0 μ) fun q S => .nxt q.2 S
  | .srcSet i k x, μ, S => (evM F x μ S).then (freeze (ment x) 0 μ) fun q S => (match q.1, isSrcAt q.2 i with
    | (false, .int v), true => (match S.put k v with
      | some S1 => .nxt q.2 S1
      | none => .stuck)
    | _, _ => .stuck)
  | .srcInc i k c, μ, S => (match isSrcAt μ i, S.get k with
    | true, some (.int v) => (match S.put k (v + c) with
      | some S1 => .nxt μ S1
      | none => .stuck)
    | _, _ => .stuck)
  | .tryx body hs, μ, S => (match exs F XF g body μ S with
    | .err x S1 μ1 => tryGo XF.sub x S1 μ1 hs
    | r => r)
  | .brk, μ, S => .brk μ S
  | .cont, μ, S => .cnt μ S
  | .pass, μ, S => .nxt μ S
def exs (F : FT) (XF : XT) (g : Nat) : Sms → Mem → Src → SR
  | .nil, μ, S => .nxt μ S
  | .cons s ss, μ, S => (ex F XF g s μ S).seq fun μ S => exs F XF g ss μ S
end
/-- a def: how many parameters, how many slots, its body -/
structure Fn where
  np : Nat
  ns : Nat
  body : Sms
def startM (ns : Nat) (ds : List D) : Mem := ds.map (fun d => some (false, d)) ++ List.replicate (ns - ds.length) none
def ofSR : SR → R (Bool × D)
  | .nxt _ S => .ok (false, .non) S
  | .ret p S => .ok p S
  | .err x S _ => .err x S
  | _ => .stuck
def runFn (F : FT) (XF : XT) (g : Nat) (fn : Fn) (ds : List D) (S : Src) : R (Bool × D) := if ds.length = fn.np then ofSR (exs F XF g fn.body (startM fn.ns ds) S) else .stuck
/-- a def that gets a lambda: names = constants; try: r = the lambda's value, its clauses; return names -/
structure OutS where
  ns : Nat
  inits : List (Nat × Lit)
  res : Option Nat
  hs : List Hd
  ret : List Nat
  tup : Bool
/-- the defs of a text: hand-made ones first -/
structure Prog where
  prim : Str → Option (List D → Src → R (Bool × D))
  tbl : Str → Option Fn
  outs : Str → Option OutS
  xf : XT
  fuel : Nat
def initR : List (Nat × Lit) → Rho → Rho
  | [], ρ => ρ
  | (i, l) :: r, ρ => initR r (ρ.set i (some l.d))
def getAll : List Nat → Rho → Option (List D)
  | [], _ => some []
  | i :: is, ρ => (match ρ[i]? with
    | some (some d) => (getAll is ρ).map (d :: ·)
    | _ => none)
def outEnd (o : OutS) (ρ : Rho) (S : Src) : R (Bool × D) := match getAll o.ret ρ with
  | some ds => if o.tup then .ok (false, .tup ds) S else (match ds with
    | [d] => .ok (false, d) S
    | _ => .stuck)
  | none => .stuck
def outErr (sub : Str → Str → Option Bool) (o : OutS) (x : Exc) (S : Src) (ρ : Rho) : R (Bool × D) := match pick sub x.cls o.hs with
  | some (some h) => (match h.x.val x.fs with
    | some d => outEnd o ((ρ.set h.r (some d)).set h.e none) S
    | none => .stuck)
  | _ => .stuck
def setO : Option Nat → D → Rho → Rho
  | none, _, ρ => ρ
  | some i, d, ρ => ρ.set i (some d)
def outRun (XF : XT) (o : OutS) (c : Src → R (Bool × D)) (S : Src) : R (Bool × D) := match c S with
  | .ok p S1 => outEnd o (setO o.res p.2 (initR o.inits (List.replicate o.ns none))) S1
  | .err x S1 => outErr XF.sub o x S1 (initR o.inits (List.replicate o.ns none))
  | .stuck => .stuck
def outF (P : Prog) (f : Str) (c : Src → R (Bool × D)) (S : Src) : R (Bool × D) := match P.outs f with
  | some o => outRun P.xf o c S
  | none => .stuck
def callN (P : Prog) : Nat → FT
  | 0 => ⟨fun _ _ _ => .stuck, outF P⟩
  | n + 1 => ⟨fun f ds S => match P.prim f with
    | some p => p ds S
    | none => (match P.tbl f with
      | some fn => runFn (callN P n) P.xf P.fuel fn ds S
      | none => .stuck), outF P⟩
end DW

/-! DwRep: how data stands in the layer's heap; worlds; what is kept. -/
namespace DW
open PySem L2

/-- the source's list, and its list of cells -/
abbrev SA := Addr × Addr
mutual
def Rep (K : PySem.W.Frag) (sa : SA) (G : Hp) : D → V → Prop
  | .non, v => v = .non
  | .bl b, v => v = .bl b
  | .int i, v => v = .int i
  | .str s, v => v = .str s
  | .tup l, v => l.length ≤ lim ∧ ∃ a vs, v = .ref a ∧ SqT K G a vs ∧ RepL K sa G l vs
  | .lst l, v => l.length ≤ lim ∧ ∃ a vs, v = .ref a ∧ G a = some (.lst vs) ∧ RepL K sa G l vs
  | .dct l, v => l.length ≤ lim ∧ ∃ a kvs, v = .ref a ∧ G a = some (.dK kvs) ∧ RepD K sa G l kvs
  | .src, v => v = .ref sa.1
def RepL (K : PySem.W.Frag) (sa : SA) (G : Hp) : List D → List V → Prop
  | [], vs => vs = []
  | d :: l, vs => ∃ v r, vs = v :: r ∧ Rep K sa G d v ∧ RepL K sa G l r
def RepD (K : PySem.W.Frag) (sa : SA) (G : Hp) : List (Str × D) → List (Key × V) → Prop
  | [], kvs => kvs = []
  | (k, d) :: l, kvs => ∃ v r, kvs = (Sum.inr k, v) :: r ∧ Rep K sa G d v ∧ RepD K sa G l r
end
/-- the topmost object of a thing that nobody else holds -/
def RepU (K : PySem.W.Frag) (sa : SA) (G : Hp) : D → HO → Prop
  | .lst l, .lst vs => l.length ≤ lim ∧ RepL K sa G l vs
  | .dct l, .dK kvs => l.length ≤ lim ∧ RepD K sa G l kvs
  | _, _ => False
def RepO (K : PySem.W.Frag) (sa : SA) (G' H H' : Hp) (p : Bool × D) (v : V) : Prop :=
  if p.1 then ∃ a u, v = .ref a ∧ H a = none ∧ G' a = none ∧ H' a = some u ∧ RepU K sa G' p.2 u else Rep K sa G' p.2 v
def Sub (G G' : Hp) : Prop := ∀ b u, G b = some u → G' b = some u
theorem Sub.refl (G : Hp) : Sub G G := fun _ _ h => h
theorem Sub.trans {G G1 G2 : Hp} (a : Sub G G1) (b : Sub G1 G2) : Sub G G2 := fun c u h => b c u (a c u h)
theorem Sub.upd {G : Hp} {a : Addr} {u : HO} (h : G a = none) : Sub G (upd G a u) := fun b o e => by
  rw [upd_ne (ne_of_none e h)]; exact e
section
variable {K : PySem.W.Frag} {sa : SA} {G G' : Hp}
theorem SqT.sub {a : Addr} {vs : List V} (s : Sub G G') (h : SqT K G a vs) : SqT K G' a vs := by
  rcases h with (h | ⟨o, h⟩) | h
  · exact .inl (.inl (s _ _ h))
  · exact .inl (.inr ⟨o, s _ _ h⟩)
  · exact .inr h
mutual
theorem Rep.sub (s : Sub G G') : ∀ (d : D) (v : V), Rep K sa G d v → Rep K sa G' d v
  | .non, _, h => by simpa [Rep] using h
  | .bl _, _, h => by simpa [Rep] using h
  | .int _, _, h => by simpa [Rep] using h
  | .str _, _, h => by simpa [Rep] using h
  | .src, _, h => by simpa [Rep] using h
  | .tup l, v, h => by
    rw [Rep] at h ⊢
    obtain ⟨z, a, vs, e, q, r⟩ := h
    exact ⟨z, a, vs, e, SqT.sub s q, RepL.sub s l vs r⟩
  | .lst l, v, h => by
    rw [Rep] at h ⊢
    obtain ⟨z, a, vs, e, q, r⟩ := h
    exact ⟨z, a, vs, e, s _ _ q, RepL.sub s l vs r⟩
  | .dct l, v, h => by
    rw [Rep] at h ⊢
    obtain ⟨z, a, vs, e, q, r⟩ := h
    exact ⟨z, a, vs, e, s _ _ q, RepD.sub s l vs r⟩
theorem RepL.sub (s : Sub G G') : ∀ (l : List D) (vs : List V), RepL K sa G l vs → RepL K sa G' l vs
  | [], _, h => by simpa [RepL] using h
  | d :: l, vs, h => by
    rw [RepL] at h ⊢
    obtain ⟨v, r, e, q, t⟩ := h
    exact ⟨v, r, e, Rep.sub s d v q, RepL.sub s l r t⟩
theorem RepD.sub (s : Sub G G') : ∀ (l : List (Str × D)) (vs : List (Key × V)), RepD K sa G l vs → RepD K sa G' l vs
  | [], _, h => by simpa [RepD] using h
  | (k, d) :: l, vs, h => by
    rw [RepD] at h ⊢
    obtain ⟨v, r, e, q, t⟩ := h
    exact ⟨v, r, e, Rep.sub s d v q, RepD.sub s l r t⟩
end
/-! what holds of what bears no list and no dict hangs on the tuples alone -/
mutual
theorem Rep.imm (s : ∀ b vs, G b = some (.tup vs) → G' b = some (.tup vs)) (nf : ∀ b o u, G b ≠ some (.frz o u)) : ∀ (d : D) (v : V), d.imm = true → Rep K sa G d v → Rep K sa G' d v
  | .non, _, _, h => by simpa [Rep] using h
  | .bl _, _, _, h => by simpa [Rep] using h
  | .int _, _, _, h => by simpa [Rep] using h
  | .str _, _, _, h => by simpa [Rep] using h
  | .src, _, z, _ => by simp [D.imm] at z
  | .tup l, v, z, h => by
    rw [Rep] at h ⊢
    rw [D.imm] at z
    obtain ⟨z', a, vs, e, q, r⟩ := h
    refine ⟨z', a, vs, e, ?_, RepL.imm s nf l vs z r⟩
    rcases q with (q | ⟨o, q⟩) | q
    · exact .inl (.inl (s _ _ q))
    · exact absurd q (nf _ _ _)
    · exact .inr q
  | .lst l, v, z, h => by simp [D.imm] at z
  | .dct l, v, z, h => by simp [D.imm] at z
theorem RepL.imm (s : ∀ b vs, G b = some (.tup vs) → G' b = some (.tup vs)) (nf : ∀ b o u, G b ≠ some (.frz o u)) : ∀ (l : List D) (vs : List V), immL l = true → RepL K sa G l vs → RepL K sa G' l vs
  | [], _, _, h => by simpa [RepL] using h
  | d :: l, vs, z, h => by
    rw [RepL] at h ⊢
    rw [immL, Bool.and_eq_true] at z
    obtain ⟨v, r, e, q, t⟩ := h
    exact ⟨v, r, e, Rep.imm s nf d v z.1 q, RepL.imm s nf l r z.2 t⟩
end
theorem RepD.imm (s : ∀ b vs, G b = some (.tup vs) → G' b = some (.tup vs)) (nf : ∀ b o u, G b ≠ some (.frz o u)) : ∀ (l : List (Str × D)) (vs : List (Key × V)), immL (l.map (·.2)) = true → RepD K sa G l vs → RepD K sa G' l vs
  | [], _, _, h => by simpa [RepD] using h
  | (k, d) :: l, vs, z, h => by
    rw [RepD] at h ⊢
    rw [List.map_cons, immL, Bool.and_eq_true] at z
    obtain ⟨v, r, e, q, t⟩ := h
    exact ⟨v, r, e, Rep.imm s nf d v z.1 q, RepD.imm s nf l r z.2 t⟩
theorem RepL.length : ∀ {l : List D} {vs : List V}, RepL K sa G l vs → vs.length = l.length
  | [], vs, h => by rw [RepL] at h; rw [h]; rfl
  | d :: l, vs, h => by
    rw [RepL] at h
    obtain ⟨v, r, rfl, _, t⟩ := h
    rw [List.length_cons, List.length_cons, RepL.length t]
theorem RepD.length : ∀ {l : List (Str × D)} {vs : List (Key × V)}, RepD K sa G l vs → vs.length = l.length
  | [], vs, h => by rw [RepD] at h; rw [h]; rfl
  | (k, d) :: l, vs, h => by
    rw [RepD] at h
    obtain ⟨v, r, rfl, _, t⟩ := h
    rw [List.length_cons, List.length_cons, RepD.length t]
theorem RepL.get : ∀ {l : List D} {vs : List V} {i : Nat} {d : D}, RepL K sa G l vs → l[i]? = some d → ∃ v, vs[i]? = some v ∧ Rep K sa G d v
  | [], vs, i, d, h, e => by simp at e
  | x :: l, vs, 0, d, h, e => by
    rw [RepL] at h
    obtain ⟨v, r, rfl, q, t⟩ := h
    simp at e; subst e
    exact ⟨v, rfl, q⟩
  | x :: l, vs, i + 1, d, h, e => by
    rw [RepL] at h
    obtain ⟨v, r, rfl, q, t⟩ := h
    simpa using RepL.get t (by simpa using e)
theorem RepL.append : ∀ {l m : List D} {vs ws : List V}, RepL K sa G l vs → RepL K sa G m ws → RepL K sa G (l ++ m) (vs ++ ws)
  | [], m, vs, ws, h, g => by rw [RepL] at h; subst h; exact g
  | x :: l, m, vs, ws, h, g => by
    rw [RepL] at h
    obtain ⟨v, r, rfl, q, t⟩ := h
    show RepL K sa G (x :: (l ++ m)) (v :: (r ++ ws))
    rw [RepL]
    exact ⟨v, r ++ ws, rfl, q, RepL.append t g⟩
theorem RepL.cons {d : D} {l : List D} {v : V} {vs : List V} (h : Rep K sa G d v) (t : RepL K sa G l vs) : RepL K sa G (d :: l) (v :: vs) := by
  rw [RepL]; exact ⟨v, vs, rfl, h, t⟩
theorem RepL.nil : RepL K sa G [] [] := by rw [RepL]
theorem RepL.take : ∀ (n : Nat) {l : List D} {vs : List V}, RepL K sa G l vs → RepL K sa G (l.take n) (vs.take n)
  | 0, l, vs, h => by simpa using RepL.nil
  | n + 1, [], vs, h => by rw [RepL] at h; subst h; simpa using RepL.nil
  | n + 1, d :: l, vs, h => by
    rw [RepL] at h
    obtain ⟨v, r, rfl, q, t⟩ := h
    exact RepL.cons q (RepL.take n t)
theorem RepL.drop : ∀ (n : Nat) {l : List D} {vs : List V}, RepL K sa G l vs → RepL K sa G (l.drop n) (vs.drop n)
  | 0, l, vs, h => by simpa using h
  | n + 1, [], vs, h => by rw [RepL] at h; subst h; simpa using RepL.nil
  | n + 1, d :: l, vs, h => by
    rw [RepL] at h
    obtain ⟨v, r, rfl, q, t⟩ := h
    exact RepL.drop n t
end
/-! ### worlds -/
def isK : HO → Prop
  | .lst _ => True
  | .tup _ => True
  | .dK _ => True
  | _ => False
structure Wd (K : PySem.W.Frag) (sa : SA) (T : List (Addr × Str)) (G H : Hp) (S : Src) : Prop where
  sub : ∀ b u, G b = some u → isK u ∧ (H b = some u ∨ ∃ o kvs, u = .dK kvs ∧ H b = some (.frz o u))
  srcH : ∃ vs, H sa.1 = some (.lst [.ref sa.2, .int S.pos, .int S.rest, .int S.st]) ∧ G sa.2 = some (.lst vs) ∧ vs = S.cells.map V.int ∧ S.cells.length ≤ lim
  srcG : G sa.1 = none
  tabs : LamX.Tabs T H
structure Ext (sa : SA) (G H G' H' : Hp) : Prop where
  g : Sub G G'
  n : ∀ b u, G b = none → G' b = some u → H b = none
  h : ∀ b u, b ≠ sa.1 → H b = some u → (∀ ps, u ≠ .tbl ps) → H' b = some u
  dom : ∀ b, H' b = none → H b = none
section
variable {K : PySem.W.Frag} {sa : SA} {T : List (Addr × Str)} {G H G' H' G1 H1 : Hp} {S S' : Src}
theorem Ext.refl : Ext sa G H G H := ⟨Sub.refl G, fun b u h e => (by rw [h] at e; cases e), fun _ _ _ h _ => h, fun _ h => h⟩
theorem Ext.trans (a : Ext sa G H G1 H1) (b : Ext sa G1 H1 G' H') : Ext sa G H G' H' where
  g := a.g.trans b.g
  n := fun c u h e => by
    cases q : G1 c with
    | none => exact a.dom c (b.n c u q e)
    | some o => exact a.n c o h q
  h := fun c u n e t => b.h c u n (a.h c u n e t) t
  dom := fun c h => a.dom c (b.dom c h)
theorem Wd.nofrz (w : Wd K sa T G H S) (b : Addr) (o : Obj) (u : HO) : G b ≠ some (.frz o u) := fun e => (w.sub b _ e).1
theorem Wd.lst (w : Wd K sa T G H S) {b : Addr} {vs : List V} (e : G b = some (.lst vs)) : H b = some (.lst vs) := by
  rcases (w.sub b _ e).2 with h | ⟨o, k, z, _⟩
  · exact h
  · cases z
theorem Wd.rd (w : Wd K sa T G H S) {b : Addr} {u : HO} (e : G b = some u) : Rd H b u := by
  rcases (w.sub b _ e).2 with h | ⟨o, k, z, h⟩
  · exact .inl h
  · exact .inr ⟨o, h⟩
theorem Wd.tup (w : Wd K sa T G H S) {b : Addr} {vs : List V} (e : SqT K G b vs) : SqT K H b vs := by
  rcases e with (e | ⟨o, e⟩) | e
  · exact .inl (w.rd e)
  · exact absurd e (w.nofrz _ _ _)
  · exact .inr e
theorem Wd.seq (w : Wd K sa T G H S) {b : Addr} {vs : List V} (e : G b = some (.lst vs)) : SqL K H b vs := .inl (.inl (w.lst e))
/-- a new object is laid and known -/
theorem Wd.new (w : Wd K sa T G H S) {p : Addr} {u : HO} (n : H p = none) (ku : isK u) : Wd K sa T (upd G p u) (upd H p u) S := by
  have gn : G p = none := by
    cases q : G p with
    | none => rfl
    | some o =>
      rcases (w.sub p o q).2 with h | ⟨_, _, _, h⟩ <;> rw [n] at h <;> cases h
  refine ⟨fun b o e => ?_, ?_, ?_, w.tabs.ext fun b o e => by rw [upd_ne (ne_of_none e n)]; exact e⟩
  · by_cases hb : b = p
    · subst hb; rw [upd_same] at e; cases e
      exact ⟨ku, .inl upd_same⟩
    · rw [upd_ne hb] at e
      rw [upd_ne hb]
      exact w.sub b o e
  · obtain ⟨vs, h1, h2, h3, h4⟩ := w.srcH
    exact ⟨vs, by rw [upd_ne (ne_of_none h1 n)]; exact h1, by rw [upd_ne (ne_of_none h2 gn)]; exact h2, h3, h4⟩
  · obtain ⟨vs, h1, _⟩ := w.srcH
    rw [upd_ne (ne_of_none h1 n)]; exact w.srcG
theorem Wd.gn (w : Wd K sa T G H S) {p : Addr} (n : H p = none) : G p = none := by
  cases q : G p with
  | none => rfl
  | some o =>
    rcases (w.sub p o q).2 with h | ⟨_, _, _, h⟩ <;> rw [n] at h <;> cases h
theorem Wd.sne (w : Wd K sa T G H S) {p : Addr} (n : H p = none) : p ≠ sa.1 := fun e => by
  obtain ⟨vs, h1, _⟩ := w.srcH
  rw [e, h1] at n; cases n
theorem Ext.new (w : Wd K sa T G H S) {p : Addr} {u : HO} (n : H p = none) : Ext sa G H (upd G p u) (upd H p u) where
  g := Sub.upd (w.gn n)
  n := fun b o e q => by
    by_cases hb : b = p
    · rw [hb]; exact n
    · rw [upd_ne hb, e] at q; cases q
  h := fun b o _ e _ => by rw [upd_ne (ne_of_none e n)]; exact e
  dom := fun b e => by
    by_cases hb : b = p
    · rw [hb]; exact n
    · rw [upd_ne hb] at e; exact e
/-- a new object is laid, nobody else's -/
theorem Wd.newH (w : Wd K sa T G H S) {p : Addr} {u : HO} (n : H p = none) : Wd K sa T G (upd H p u) S := by
  refine ⟨fun b o e => ?_, ?_, w.srcG, w.tabs.ext fun b o e => by rw [upd_ne (ne_of_none e n)]; exact e⟩
  · have hb : b ≠ p := fun z => by rw [z, w.gn n] at e; cases e
    rw [upd_ne hb]
    exact w.sub b o e
  · obtain ⟨vs, h1, h2, h3, h4⟩ := w.srcH
    exact ⟨vs, by rw [upd_ne (ne_of_none h1 n)]; exact h1, h2, h3, h4⟩
theorem Ext.newH {p : Addr} {u : HO} (n : H p = none) : Ext sa G H G (upd H p u) where
  g := Sub.refl G
  n := fun b o e q => by rw [e] at q; cases q
  h := fun b o _ e _ => by rw [upd_ne (ne_of_none e n)]; exact e
  dom := fun b e => by
    by_cases hb : b = p
    · rw [hb]; exact n
    · rw [upd_ne hb] at e; exact e
/-- the object that nobody else holds is written -/
theorem tabs_put {p : Addr} {u o : HO} (t : LamX.Tabs T H) (h : H p = some o) (n1 : ∀ ps, o ≠ .tbl ps) (n2 : ∀ φ, o ≠ .ext φ) : LamX.Tabs T (upd H p u) := fun q hq => by
  obtain ⟨ps, h1, h2, h3⟩ := t q hq
  refine ⟨ps, ?_, h2, fun pos cv hc => ?_⟩
  · rw [upd_ne (fun z => by rw [z, h] at h1; exact n1 ps (Option.some.inj h1))]; exact h1
  · obtain ⟨c, e, hcc⟩ := h3 pos cv hc
    exact ⟨c, e, by rw [upd_ne (fun z => by rw [z, h] at hcc; exact n2 _ (Option.some.inj hcc))]; exact hcc⟩
theorem isK_tbl {o : HO} (h : isK o) : (∀ ps, o ≠ .tbl ps) ∧ (∀ φ, o ≠ .ext φ) := by
  cases o <;> first | exact h.elim | exact ⟨fun _ z => (by cases z), fun _ z => (by cases z)⟩
theorem Wd.put (w : Wd K sa T G H S) {p : Addr} {u o : HO} (gn : G p = none) (ne : p ≠ sa.1) (h : H p = some o) (ko : isK o) : Wd K sa T G (upd H p u) S := by
  refine ⟨fun b x e => ?_, ?_, w.srcG, tabs_put w.tabs h (isK_tbl ko).1 (isK_tbl ko).2⟩
  · have hb : b ≠ p := fun z => by rw [z, gn] at e; cases e
    rw [upd_ne hb]
    exact w.sub b x e
  · obtain ⟨vs, h1, h2⟩ := w.srcH
    exact ⟨vs, by rw [upd_ne ne.symm]; exact h1, h2⟩
theorem Ext.put {p : Addr} {u : HO} (e : Ext sa G H G' H') (n : H p = none) : Ext sa G H G' (upd H' p u) where
  g := e.g
  n := e.n
  h := fun b x hb q t => by rw [upd_ne (ne_of_none q n)]; exact e.h b x hb q t
  dom := fun b q => by
    by_cases hb : b = p
    · rw [hb]; exact n
    · rw [upd_ne hb] at q; exact e.dom b q
theorem Ext.gnone (e : Ext sa G H G' H') {p : Addr} {o : HO} (gn : G p = none) (h : H p = some o) : G' p = none := by
  cases q : G' p with
  | none => rfl
  | some u => have := e.n p u gn q; rw [h] at this; cases this
theorem RepU.sub {d : D} {u : HO} (s : Sub G G') (h : RepU K sa G d u) : RepU K sa G' d u := by
  cases d <;> cases u <;> first | exact h.elim | exact ⟨h.1, RepL.sub s _ _ h.2⟩ | exact ⟨h.1, RepD.sub s _ _ h.2⟩
theorem RepU.isK {d : D} {u : HO} (h : RepU K sa G d u) : isK u := by
  cases d <;> cases u <;> first | exact h.elim | trivial
theorem RepU.rep {d : D} {u : HO} {p : Addr} (h : RepU K sa G d u) (e : G p = some u) : Rep K sa G d (.ref p) := by
  cases d with
  | lst l =>
    cases u with
    | lst vs => rw [Rep]; exact ⟨h.1, p, vs, rfl, e, h.2⟩
    | _ => exact h.elim
  | dct l =>
    cases u with
    | dK vs => rw [Rep]; exact ⟨h.1, p, vs, rfl, e, h.2⟩
    | _ => exact h.elim
  | _ => cases u <;> exact h.elim
/-- what nobody else held is known from now on -/
theorem frozen {p : Bool × D} {v : V} {S0 : Src} (w0 : Wd K sa T G H S0) (e : Ext sa G H G' H') (w : Wd K sa T G' H' S) (r : RepO K sa G' H H' p v) : ∃ G2, Sub G' G2 ∧ Ext sa G H G2 H' ∧ Wd K sa T G2 H' S ∧ Rep K sa G2 p.2 v := by
  obtain ⟨o, d⟩ := p
  cases o with
  | false => exact ⟨G', Sub.refl G', e, w, r⟩
  | true =>
    obtain ⟨a, u, ev, n, gn, hu, ru⟩ := (show ∃ a u, v = .ref a ∧ H a = none ∧ G' a = none ∧ H' a = some u ∧ RepU K sa G' d u from r)
    subst ev
    have s : Sub G' (upd G' a u) := Sub.upd gn
    refine ⟨upd G' a u, s, ⟨e.g.trans s, fun b o z q => ?_, e.h, e.dom⟩, ⟨fun b o q => ?_, ?_, ?_, w.tabs⟩, (ru.sub s).rep upd_same⟩
    · by_cases hb : b = a
      · rw [hb]; exact n
      · rw [upd_ne hb] at q; exact e.n b o z q
    · by_cases hb : b = a
      · subst hb; rw [upd_same] at q; cases q
        exact ⟨ru.isK, .inl hu⟩
      · rw [upd_ne hb] at q; exact w.sub b o q
    · obtain ⟨vs, h1, h2, h3⟩ := w.srcH
      exact ⟨vs, h1, s _ _ h2, h3⟩
    · have : sa.1 ≠ a := (w0.sne n).symm
      rw [upd_ne this]; exact w.srcG
end
end DW

/-! DwPost: what is wanted behind a piece of the small language. -/
namespace DW
open PySem L2

def ExcAt (K : PySem.W.Frag) (sa : SA) (x : Exc) (cls : Value) (dd : Option Addr) (G H : Hp) : Prop :=
  ∃ d fs, cls = .ref (He.ga K x.cls) ∧ dd = some d ∧ H d = some (.xd fs) ∧ ∀ p ∈ x.fs, ∃ v, fs.lookup p.1 = some v ∧ Rep K sa G p.2 v
/-- how a result stands: by the known heap behind, the heap ahead, the heap behind -/
structure Rl (K : PySem.W.Frag) (sa : SA) (α β : Type) where
  rel : α → Hp → Hp → Hp → β → Prop
  mono : ∀ {a : α} {G' H H1 H' : Hp} {b : β}, (∀ c, H1 c = none → H c = none) → rel a G' H1 H' b → rel a G' H H' b
def rlV (K : PySem.W.Frag) (sa : SA) : Rl K sa (Bool × D) V where
  rel := fun p G' H H' v => RepO K sa G' H H' p v
  mono := fun {p G' H H1 H' v} d r => by
    obtain ⟨o, x⟩ := p
    cases o with
    | false => exact r
    | true =>
      obtain ⟨a, u, e, n, r⟩ := (show ∃ a u, v = .ref a ∧ H1 a = none ∧ G' a = none ∧ H' a = some u ∧ RepU K sa G' x u from r)
      exact (show ∃ a u, v = .ref a ∧ H a = none ∧ G' a = none ∧ H' a = some u ∧ RepU K sa G' x u from ⟨a, u, e, d _ n, r⟩)
def rlL (K : PySem.W.Frag) (sa : SA) : Rl K sa (List D) (List V) where
  rel := fun ds G' _ _ vs => RepL K sa G' ds vs
  mono := fun _ r => r
def rlE (K : PySem.W.Frag) (sa : SA) (α : Type) : Rl K sa α α where
  rel := fun a _ _ _ b => b = a
  mono := fun _ r => r
section
variable {K : PySem.W.Frag} {sa : SA} {T : List (Addr × Str)} {E : XK} {α β γ δ : Type}
def post (T : List (Addr × Str)) (E : XK) (rl : Rl K sa α β) (r : R α) (G H : Hp) (Q : β → Hp → Prop) : Prop := match r with
  | .ok a S => ∀ v G' H', Ext sa G H G' H' → Wd K sa T G' H' S → rl.rel a G' H H' v → Q v H'
  | .err x S => ∀ cls dd G' H', Ext sa G H G' H' → Wd K sa T G' H' S → ExcAt K sa x cls dd G' H' → E cls dd H'
  | .stuck => False
theorem post.ext {rl : Rl K sa α β} {r : R α} {G H G1 H1 : Hp} {Q : β → Hp → Prop} (h : post T E rl r G H Q) (e : Ext sa G H G1 H1) : post T E rl r G1 H1 Q := by
  cases r with
  | ok a S => exact fun v G' H' e' w r => h v G' H' (e.trans e') w (rl.mono (fun c z => e.dom c z) r)
  | err x S => exact fun cls dd G' H' e' w r => h cls dd G' H' (e.trans e') w r
  | stuck => exact h
theorem post.imp {rl : Rl K sa α β} {r : R α} {G H : Hp} {Q Q' : β → Hp → Prop} (h : post T E rl r G H Q) (q : ∀ v H', Q v H' → Q' v H') : post T E rl r G H Q' := by
  cases r with
  | ok a S => exact fun v G' H' e' w r => q _ _ (h v G' H' e' w r)
  | err x S => exact h
  | stuck => exact h
/-- one expression, then the rest -/
theorem post.step {rl : Rl K sa γ δ} {r : R (Bool × D)} {f : Bool × D → Src → R γ} {G H : Hp} {S : Src} {Q : δ → Hp → Prop} {Φ : V → Hp → Prop} (w : Wd K sa T G H S) (h : post T E rl (r.bind f) G H Q)
    (k : ∀ p S1 v G1 H1, r = .ok p S1 → Ext sa G H G1 H1 → Wd K sa T G1 H1 S1 → Rep K sa G1 p.2 v → post T E rl (f p S1) G1 H1 Q → Φ v H1) : post T E (rlV K sa) r G H Φ := by
  cases r with
  | ok p S1 =>
    intro v G' H' e w' ro
    obtain ⟨G2, _, e2, w2, rep⟩ := frozen w e w' ro
    exact k p S1 v G2 H' rfl e2 w2 rep (post.ext h e2)
  | err x S1 => exact h
  | stuck => exact h
theorem post.stepG {rl : Rl K sa γ δ} {rl' : Rl K sa α β} {r : R α} {f : α → Src → R γ} {G H : Hp} {Q : δ → Hp → Prop} {Φ : β → Hp → Prop} (h : post T E rl (r.bind f) G H Q)
    (k : ∀ p S1 v G1 H1, r = .ok p S1 → Ext sa G H G1 H1 → Wd K sa T G1 H1 S1 → rl'.rel p G1 H H1 v → post T E rl (f p S1) G1 H1 Q → Φ v H1) : post T E rl' r G H Φ := by
  cases r with
  | ok p S1 => exact fun v G' H' e w' ro => k p S1 v G' H' rfl e w' ro (post.ext h e)
  | err x S1 => exact h
  | stuck => exact h
/-- at the end: a value that stands -/
theorem post.here {G H : Hp} {S : Src} {d : D} {v : V} {Q : VK} (h : post T E (rlV K sa) (.ok (false, d) S) G H Q) (w : Wd K sa T G H S) (r : Rep K sa G d v) : Q v H := h v G H Ext.refl w r
/-- a new object that nobody else holds -/
theorem post.new {G H : Hp} {S : Src} {d : D} {u : HO} {Q : VK} (h : post T E (rlV K sa) (.ok (true, d) S) G H Q) (w : Wd K sa T G H S) (r : RepU K sa G d u) {p : Addr} (n : H p = none) : Q (.ref p) (upd H p u) :=
  h (.ref p) G (upd H p u) (Ext.newH n) (w.newH n) ⟨p, u, rfl, n, w.gn n, upd_same, r⟩
theorem post.newT {G H : Hp} {S : Src} {l : List D} {vs : List V} {Q : VK} (h : post T E (rlV K sa) (.ok (false, .tup l) S) G H Q) (w : Wd K sa T G H S) (hz : l.length ≤ lim) (r : RepL K sa G l vs) {p : Addr} (n : H p = none) : Q (.ref p) (upd H p (.tup vs)) := by
  refine h (.ref p) (upd G p (.tup vs)) (upd H p (.tup vs)) (Ext.new w n) (w.new n trivial) ?_
  show Rep K sa (upd G p (.tup vs)) (.tup l) (.ref p)
  rw [Rep]
  exact ⟨hz, p, vs, rfl, .inl (.inl upd_same), RepL.sub (Sub.upd (w.gn n)) _ _ r⟩
structure EnvOk (K : PySem.W.Frag) (sa : SA) (G : Hp) (σ : L2.St) (ρ : Rho) : Prop where
  len : ρ.length ≤ σ.length
  get : ∀ (i : Nat) (d : D), ρ[i]? = some (some d) → ∃ v, σ[i]? = some (some v) ∧ Rep K sa G d v
theorem EnvOk.sub {G G' : Hp} {σ : L2.St} {ρ : Rho} (h : EnvOk K sa G σ ρ) (s : Sub G G') : EnvOk K sa G' σ ρ := ⟨h.len, fun i d e => by
  obtain ⟨v, e1, r⟩ := h.get i d e
  exact ⟨v, e1, Rep.sub s _ _ r⟩⟩
theorem EnvOk.set {G : Hp} {σ : L2.St} {ρ : Rho} {d : D} {v : V} (h : EnvOk K sa G σ ρ) (i : Nat) (r : Rep K sa G d v) : EnvOk K sa G (σ.set i (some v)) (ρ.set i (some d)) := ⟨by rw [List.length_set, List.length_set]; exact h.len, fun j x e => by
  by_cases hj : i = j
  · subst hj
    have hi : i < ρ.length := by
      have := (List.getElem?_eq_some_iff.mp e).1
      rw [List.length_set] at this; exact this
    rw [List.getElem?_set_self hi] at e
    cases e
    exact ⟨v, List.getElem?_set_self (Nat.lt_of_lt_of_le hi h.len), r⟩
  · rw [List.getElem?_set_ne hj] at e
    obtain ⟨u, e1, r1⟩ := h.get j x e
    exact ⟨u, by rw [List.getElem?_set_ne hj]; exact e1, r1⟩⟩
theorem R.bind_assoc {α β γ : Type} (r : R α) (f : α → Src → R β) (g : β → Src → R γ) : (r.bind f).bind g = r.bind fun a S => (f a S).bind g := by
  cases r <;> rfl
/-- what is wanted of an exception, by the slots -/
abbrev XS := L2.St → XK
/-- the readings -/
def TX (K : PySem.W.Frag) (sa : SA) (T : List (Addr × Str)) (F : FT) (E : XS) (x : Ex) : TE := fun σ H Q => ∃ G ρ S, Wd K sa T G H S ∧ EnvOk K sa G σ ρ ∧ post T (E σ) (rlV K sa) (ev F x ρ S) G H Q
def TXs (K : PySem.W.Frag) (sa : SA) (T : List (Addr × Str)) (F : FT) (E : XS) (x : Exs) : TA := fun σ H Q => ∃ G ρ S, Wd K sa T G H S ∧ EnvOk K sa G σ ρ ∧ post T (E σ) (rlL K sa) (evs F x ρ S) G H Q
def TXb (K : PySem.W.Frag) (sa : SA) (T : List (Addr × Str)) (F : FT) (E : XS) (x : Ex) : TT := fun σ H Q => ∃ G ρ S, Wd K sa T G H S ∧ EnvOk K sa G σ ρ ∧ post T (E σ) (rlE K sa Bool) (theB (ev F x ρ S)) G H Q
def TXo (K : PySem.W.Frag) (sa : SA) (T : List (Addr × Str)) (F : FT) (E : XS) (x : Exs) : TO := fun σ H Q => ∃ G ρ S, Wd K sa T G H S ∧ EnvOk K sa G σ ρ ∧ post T (E σ) (rlE K sa (Option Int)) (evo F x ρ S) G H Q
theorem _root_.L2.PE.imp {X : Cx} {e : Expr} {t t' : TE} (h : PE X e t) (i : ∀ σ H Q, t' σ H Q → t σ H Q) : PE X e t' := ⟨fun pins s σ H Q I w => h.run pins s σ H Q I (i σ H Q w)⟩
theorem _root_.L2.PT.imp {X : Cx} {e : Expr} {t t' : TT} (h : PT X e t) (i : ∀ σ H Q, t' σ H Q → t σ H Q) : PT X e t' := ⟨fun pins s σ H Q I w => h.run pins s σ H Q I (i σ H Q w)⟩
theorem _root_.L2.PW.imp {X : Cx} {e : Expr} {t t' : TT} (h : PW X e t) (i : ∀ σ H Q, t' σ H Q → t σ H Q) : PW X e t' := ⟨fun wh pins s σ H Q I w => h.run wh pins s σ H Q I (i σ H Q w)⟩
theorem _root_.L2.PA.imp {X : Cx} {e : List Expr} {t t' : TA} (h : PA X e t) (i : ∀ σ H Q, t' σ H Q → t σ H Q) : PA X e t' := ⟨fun pos pins s σ H Q I w => h.run pos pins s σ H Q I (i σ H Q w)⟩
theorem _root_.L2.PS.imp {X : Cx} {e : Stmt} {t t' : TS} (h : PS X e t) (i : ∀ D σ H, t' D σ H → t D σ H) : PS X e t' := ⟨fun pins s σ H D I w => h.run pins s σ H D I (i D σ H w)⟩
end
end DW

/-! DwOk: when a piece of the small language is what a piece of the text says. -/
namespace DW
open PySem L2

structure Shape where
  f : Str
  np : Nat
  ks : List Str
  perm : List (Nat ⊕ Lit)
  deriving DecidableEq
/-- what is known of the names where a piece of text stands -/
structure Cn where
  N : List Str
  sc : List (Str × NameKind)
  shapes : List Shape
  gl : List (Str × Gc)
  free : List Str
  outs : List Str
  excs : List XD
  hcs : List Str
  fls : List Str
def plainE : Expr → Bool
  | .Starred _ _ => false
  | .Set _ _ _ => false
  | .Slice _ _ _ _ => false
  | _ => true
theorem plain_star {e : Expr} (h : plainE e = true) (es : List Expr) (env : PySem.Env) : starEach (e :: es) env = (false, eval e env) :: starEach es env := by
  cases e <;> first | rfl | cases h
theorem plain_ix {e : Expr} (h : plainE e = true) : PlainIx e := fun o i => by
  cases e <;> first | rfl | cases h
theorem plain_mark {e : Expr} (h : plainE e = true) (op : CmpOp) : behindInMarks op e = false := by
  cases e <;> first | rfl | cases h
theorem plain_set {e : Expr} (h : plainE e = true) (env : PySem.Env) (x : Value) : foldedSetIterable e env x = pure x := by
  cases e <;> first | rfl | cases h
def noName (x : Str) : Bool := !(x == ("__debug__" : Str)) && (!(x == ("__classdict__" : Str)) && !decide (x = ("__name__" : Str)))
def visB (sc : List (Str × NameKind)) (x : Str) : Bool := match sc.lookup x with
  | some .local => true
  | some .cell => true
  | some .free => true
  | _ => false
def glB (sc : List (Str × NameKind)) (x : Str) : Bool := match sc.lookup x with
  | some .globalImplicit => noName x
  | _ => false
def litB : Lit → Const → Bool
  | .non, .none => true
  | .bl b, .bool c => b == c
  | .int i, .int j => decide (i = j)
  | .str s, .str t => decide (s = t)
  | _, _ => false
def bopB : BOp → Operator → Bool
  | .add, .Add => true
  | .sub, .Sub => true
  | .mul, .Mult => true
  | .fdiv, .FloorDiv => true
  | .mod, .Mod => true
  | .pow, .Pow => true
  | _, _ => false
def copB : COp → CmpOp → Bool
  | .lt, .Lt => true
  | .le, .LtE => true
  | .gt, .Gt => true
  | .ge, .GtE => true
  | .eq, .Eq => true
  | .ne, .NotEq => true
  | .isin, .In => true
  | .notin, .NotIn => true
  | .isN, .Is => true
  | .notN, .IsNot => true
  | _, _ => false
def biN : Bi → Str
  | .len => "len"
  | .abs => "abs"
  | .all => "all"
  | .any => "any"
  | .sum => "sum"
  | .list => "list"
  | .tuple => "tuple"
  | .dict => "dict"
  | .int => "int"
  | .sorted => "sorted"
  | .min => "min"
  | .max => "max"
def tyN : Ty → Str
  | .list => "list"
  | .tuple => "tuple"
  | .bool => "bool"
  | .int => "int"
  | .dict => "dict"
  | .str => "str"
/-- the name of a built-in thing that nobody has changed -/
def fbB (Γ : Cn) (x : Str) : Bool := glB Γ.sc x && decide (x ∈ Γ.free)
def tysB (Γ : Cn) : List Ty → List Expr → Bool
  | [], [] => true
  | t :: ts, .Name x _ :: es => decide (x = tyN t) && (fbB Γ x && tysB Γ ts es)
  | _, _ => false
def isiB (Γ : Cn) (ts : List Ty) (one : Bool) (e : Expr) : Bool := match one, e with
  | true, .Name x _ => (match ts with
    | [t] => decide (x = tyN t) && fbB Γ x
    | _ => false)
  | false, .Tuple es _ _ => tysB Γ ts es && decide (es.length ≤ 10)
  | _, _ => false
/-- a target: its slots -/
def tgN (Γ : Cn) (i : Nat) : Expr → Bool
  | .Name x _ => decide (Γ.N[i]? = some x) && (match Γ.sc.lookup x with
    | some .local => true
    | some .cell => true
    | _ => false)
  | _ => false
def tgsN (Γ : Cn) : List Nat → List Expr → Bool
  | [], [] => true
  | i :: is, e :: es => tgN Γ i e && tgsN Γ is es
  | _, _ => false
def tgB (Γ : Cn) (tg : List Nat) (tp : Bool) (e : Expr) : Bool := match tp, e with
  | true, .Tuple es _ _ => tgsN Γ tg es
  | false, e => tgsN Γ tg [e]
  | _, _ => false
def relN (sc names : List (Str × NameKind)) : List (Str × NameKind) := names.map fun (n, k) => if (k == .free && sc.lookup n == some .cell) then (n, .cell) else (n, k)
def scopeOf (sc : List (Str × NameKind)) : Scope := { kind := .function, names := sc, isGenerator := false, isCoroutine := false }
def ownOf (N : List Str) (tg : List Nat) : List (Str × Nat) := tg.filterMap fun i => (N[i]?).map fun x => (x, i)
/-- the block of a comprehension -/
def inner (Γ : Cn) (scope : Scope) : Cn := { Γ with sc := relN Γ.sc scope.names, outs := [] }
/-- a lambda without parameters -/
def noPar (a : Arguments) : Bool := match a with
  | ⟨[], [], none, [], [], none, []⟩ => true
  | _ => false
def inLam (Γ : Cn) (scope : Scope) : Cn := { Γ with sc := scope.names, outs := [] }
def blkB (Γ : Cn) (tg : List Nat) (scope : Scope) : Bool := blkC Γ.N (scopeOf Γ.sc) scope (ownOf Γ.N tg) && (decide ((ownOf Γ.N tg).map (·.2) = tg) && tg.all fun i => match Γ.N[i]? with
  | some x => (match scope.names.lookup x with
    | some .local => true
    | some .cell => true
    | _ => false)
  | none => false)
def kwN : List Keyword → List (Option Str)
  | [] => []
  | ⟨n, _, _⟩ :: ks => n :: kwN ks
/-- a name that a comprehension walks -/
def wlkB (Γ : Cn) : Itx → Expr → Bool
  | .walk i, .Name x _ => decide (Γ.N[i]? = some x) && (visB Γ.sc x && noName x)
  | _, _ => false
mutual
def okE (Γ : Cn) : Ex → Expr → Bool
  | .var i, .Name x _ => decide (Γ.N[i]? = some x) && (visB Γ.sc x && noName x)
  | .lit l, .Constant c _ _ => litB l c
  | .glb x c, .Name y _ => decide (x = y) && (glB Γ.sc y && decide (Γ.gl.lookup y = some c))
  | .bin op a b, .BinOp l o r _ => bopB op o && (okE Γ a l && okE Γ b r)
  | .neg a, .UnaryOp o e _ => (match o with
    | .USub => okE Γ a e
    | _ => false)
  | .nt a, .UnaryOp o e _ => (match o with
    | .Not => okE Γ a e
    | _ => false)
  | .cmp op a b, .Compare l [o] [r] _ => copB op o && (plainE r && (okE Γ a l && okE Γ b r))
  | .chn op op' a b c, .Compare l [o, o'] [r, r'] _ => copB op o && (copB op' o' && (plainE r && (plainE r' && (okE Γ a l && (okE Γ b r && okE Γ c r')))))
  | .band es, .BoolOp o vs _ => (match o with
    | .And => okEs Γ es vs && decide (0 < vs.length)
    | _ => false)
  | .bor es, .BoolOp o vs _ => (match o with
    | .Or => okEs Γ es vs && decide (0 < vs.length)
    | _ => false)
  | .ite c a b, .IfExp t x y _ => okE Γ c t && (okE Γ a x && okE Γ b y)
  | .call f es kx ks perm, .Call (.Name g _) args kws _ => decide (f = g) && (glB Γ.sc g && (okEs Γ es args && (okKs Γ kx kws && (decide (kwN kws = ks.map some) && decide (⟨g, args.length, ks, perm⟩ ∈ Γ.shapes)))))
  | .bi f es, .Call (.Name x _) args [] _ => decide (x = biN f) && (fbB Γ x && (okEs Γ es args && decide (0 < args.length)))
  | .isi a ts one, .Call (.Name x _) [e, t] [] _ => decide (x = ("isinstance" : Str)) && (fbB Γ x && (plainE e && (okE Γ a e && isiB Γ ts one t)))
  | .idx a i, .Subscript v s _ => plainE s && (okE Γ a v && okE Γ i s)
  | .slc a lo hi, .Subscript v (.Slice l h st _) _ => okE Γ a v && (okO Γ lo l && (okO Γ hi h && st.isNone))
  | .tup es, .Tuple xs _ _ => okEs Γ es xs && decide (xs.length ≤ 1000)
  | .lst es, .List xs _ => okEs Γ es xs && decide (xs.length ≤ 1000)
  | .lc tg tp it cond elt, .ListComp e [⟨t, i, ifs, asy⟩] scope _ => decide (asy = 0) && (plainE i && (blkB Γ tg scope && (tgB (inner Γ scope) tg tp t && ((okI Γ tp it i || wlkB Γ it i) && (okC (inner Γ scope) cond ifs && okE (inner Γ scope) elt e)))))
  | .lc2 tg tp it cond tg1 tp1 it1 cond1 elt, .ListComp e [⟨t, i, ifs, asy⟩, ⟨t1, i1, ifs1, asy1⟩] scope _ => decide (asy = 0) && (decide (asy1 = 0) && (plainE i && (plainE i1 && (blkB Γ (tg ++ tg1) scope && (tgB (inner Γ scope) tg tp t && (tgB (inner Γ scope) tg1 tp1 t1 && ((okI Γ tp it i || wlkB Γ it i) && (okC (inner Γ scope) cond ifs && (okI (inner Γ scope) tp1 it1 i1 && (okC (inner Γ scope) cond1 ifs1 && okE (inner Γ scope) elt e))))))))))
  | .nset a, .Call (.Name x _) [.Call (.Name y _) [e] [] _] [] _ => decide (x = ("len" : Str)) && (decide (y = ("set" : Str)) && (fbB Γ x && (fbB Γ y && (plainE e && okE Γ a e))))
  | .dct0, .Dict [] [] _ => true
  | .dc tg tp it cond kx vx, .DictComp ek e [⟨t, i, ifs, asy⟩] scope _ => decide (asy = 0) && (plainE i && (blkB Γ tg scope && (tgB (inner Γ scope) tg tp t && ((okI Γ tp it i || wlkB Γ it i) && (okC (inner Γ scope) cond ifs && (okE (inner Γ scope) kx ek && okE (inner Γ scope) vx e))))))
  | .out f x, .Call (.Name g _) [.Lambda params e scope _] [] _ => decide (f = g) && (glB Γ.sc g && (decide (f ∈ Γ.outs) && (noPar params && (LamX.lamSB (scopeOf Γ.sc) scope && okE (inLam Γ scope) x e))))
  | _, _ => false
def okEs (Γ : Cn) : Exs → List Expr → Bool
  | .nil, [] => true
  | .cons x xs, e :: es => plainE e && (okE Γ x e && okEs Γ xs es)
  | _, _ => false
def okKs (Γ : Cn) : Exs → List Keyword → Bool
  | .nil, [] => true
  | .cons x xs, ⟨_, e, _⟩ :: es => plainE e && (okE Γ x e && okKs Γ xs es)
  | _, _ => false
def okO (Γ : Cn) : Exs → Option Expr → Bool
  | .nil, none => true
  | .cons x .nil, some e => okE Γ x e
  | _, _ => false
def okC (Γ : Cn) : Exs → List Expr → Bool
  | .nil, [] => true
  | .cons x .nil, [e] => okE Γ x e
  | _, _ => false
def okI (Γ : Cn) (tp : Bool) : Itx → Expr → Bool
  | .ex x, e => okE Γ x e
  | .rng es, .Call (.Name x _) args [] _ => decide (x = ("range" : Str)) && (fbB Γ x && (okEs Γ es args && (decide (0 < args.length) && decide (args.length < 3))))
  | .enum a, .Call (.Name x _) [e] [] _ => tp && (decide (x = ("enumerate" : Str)) && (fbB Γ x && (plainE e && okE Γ a e)))
  | .rev a, .Call (.Name x _) [e] [] _ => decide (x = ("reversed" : Str)) && (fbB Γ x && (plainE e && okE Γ a e))
  | .zip a b, .Call (.Name x _) [e, f] [] _ => tp && (decide (x = ("zip" : Str)) && (fbB Γ x && (plainE e && (plainE f && (okE Γ a e && okE Γ b f)))))
  | _, _ => false
end
/-! ### statements -/
def noTup : Expr → Bool
  | .Tuple _ _ _ => false
  | .ListComp _ _ _ _ => false
  | .SetComp _ _ _ _ => false
  | .DictComp _ _ _ _ _ => false
  | _ => true
/-- how name = value goes: not through a comprehension's own frame; through it -/
def plainSet : Expr → Bool
  | .ListComp _ _ _ _ => false
  | .SetComp _ _ _ _ => false
  | .DictComp _ _ _ _ _ => false
  | _ => true
def compSet (Γ : Cn) (y : Str) (py : Pos) : Expr → Bool
  | .DictComp _ _ _ scope pos => decide (Γ.sc.lookup y = some .local) && ((py.line == pos.line) && !(scope.names.any fun (n, k) => n == y && (k == .local || k == .cell)))
  | .ListComp _ _ scope pos => decide (Γ.sc.lookup y = some .local) && ((py.line == pos.line) && !(scope.names.any fun (n, k) => n == y && (k == .local || k == .cell)))
  | _ => false
def locB (Γ : Cn) (i : Nat) (x : Str) : Bool := decide (Γ.N[i]? = some x) && decide (Γ.sc.lookup x = some .local)
def mtN : Mt → Str
  | .append => "append"
  | .insert => "insert"
  | .pop => "pop"
  | .popAt => "pop"
  | .clear => "clear"
  | .reverse => "reverse"
  | .dpop => "pop"
def mtAr : Mt → Nat
  | .append => 1
  | .insert => 2
  | .pop => 0
  | .popAt => 1
  | .clear => 0
  | .reverse => 0
  | .dpop => 1
def mthB (Γ : Cn) (i : Nat) (m : Mt) (xs : Exs) : Expr → Bool
  | .Call (.Attribute (.Name y _) n ap) args [] cp => decide (n = mtN m) && ((ap.endLine == cp.line) && (decide (Γ.N[i]? = some y) && (visB Γ.sc y && (noName y && (okEs Γ xs args && decide (args.length = mtAr m))))))
  | _ => false
/-! clauses -/
def hxB (n : Str) : Hx → Expr → Bool
  | .attr f, .Attribute (.Name m _) g _ => decide (m = n) && decide (g = f)
  | .pair x f, .Tuple [.Constant (.str z) _ _, .Attribute (.Name m _) g _] _ _ => decide (z = x) && (decide (m = n) && decide (g = f))
  | _, _ => false
def hdB (Γ : Cn) (h : Hd) : ExceptHandler → Bool
  | .ExceptHandler (some (.Name x _)) (some n) [.Assign [.Name y _] v _] _ => decide (x = h.c) && (glB Γ.sc x && (decide (x ∈ Γ.hcs) && (locB Γ h.e n && (locB Γ h.r y && (!decide (h.e = h.r) && (noName n && (decide (h.x.f ∈ Γ.fls) && hxB n h.x v)))))))
  | _ => false
def hdsB (Γ : Cn) : List Hd → List ExceptHandler → Bool
  | [], [] => true
  | h :: hs, e :: es => hdB Γ h e && hdsB Γ hs es
  | _, _ => false
mutual
def okS (Γ : Cn) : Sm → Stmt → Bool
  | .set i x, .Assign [.Name y py] e _ => tgN Γ i (.Name y py) && (okE Γ x e && (plainSet e || (compSet Γ y py e || decide (Γ.sc.lookup y = some .cell))))
  | .unp is x, .Assign [.Tuple es _ _] e _ => tgsN Γ is es && (okE Γ x e && noTup e)
  | .par i j a b, .Assign [.Tuple [.Name x px, .Name y py] _ _] (.Tuple [ea, eb] _ _) _ => locB Γ i x && (locB Γ j y && (!decide (i = j) && ((py.line == px.line) && (plainE ea && (plainE eb && (okE Γ a ea && (okE Γ b eb && (!foldedForSure 8 ea && !constantsAlone 8 ea))))))))
  | .ret x, .Return (some e) _ => okE Γ x e
  | .retN, .Return none _ => true
  | .ifs c a b, .If t x y _ => okE Γ c t && (okSs Γ a x && okSs Γ b y)
  | .fors tg tp it body, .For t i b [] _ => plainE i && (tgB Γ tg tp t && (okI Γ tp it i && okSs Γ body b))
  | .whl c body, .While t b [] _ => okE Γ c t && okSs Γ body b
  | .rais c es, .Raise (some (.Call (.Name x _) args [] _)) none _ => decide (x = c) && ((Γ.excs.find? fun y => decide (y.cls = c)).isSome && (glB Γ.sc x && okEs Γ es args))
  | .mth none i m xs, .Expr e _ => mthB Γ i m xs e
  | .mth (some r) i m xs, .Assign [.Name y py] e _ => tgN Γ r (.Name y py) && mthB Γ i m xs e
  | .sub i k x, .Assign [.Subscript (.Name y _) ek _] e _ => decide (Γ.N[i]? = some y) && (visB Γ.sc y && (noName y && (plainE ek && (okE Γ k ek && okE Γ x e))))
  | .expr x, .Expr e _ => okE Γ x e && plainSet e
  | .srcSet i k x, .Assign [.Subscript (.Name y _) (.Constant (.int j) _ _) _] e _ => decide (j = (k : Int)) && (decide (Γ.N[i]? = some y) && (visB Γ.sc y && (noName y && okE Γ x e)))
  | .srcInc i k c, .AugAssign (.Subscript (.Name y _) (.Constant (.int j) _ _) _) .Add (.Constant (.int z) _ _) _ => decide (j = (k : Int)) && (decide (z = c) && (decide (Γ.N[i]? = some y) && (visB Γ.sc y && noName y)))
  | .tryx body hs, .Try b hds [] [] _ => okSs Γ body b && (hdsB Γ hs hds && decide (0 < hs.length))
  | .brk, .Break _ => true
  | .cont, .Continue _ => true
  | .pass, .Pass _ => true
  | _, _ => false
def okSs (Γ : Cn) : Sms → List Stmt → Bool
  | .nil, [] => true
  | .cons s ss, t :: ts => okS Γ s t && okSs Γ ss ts
  | _, _ => false
end
end DW

/-! DwOps: the operators of the small language, by the layer's rules. -/
namespace DW
open PySem L2

/-! ### data as the library's -/
mutual
def toPy : D → PyData
  | .non => .none
  | .bl b => .bool b
  | .int i => .int i
  | .str s => .str s
  | .tup l => .tuple (toPys l)
  | .lst l => .list (toPys l)
  | .dct _ => .none
  | .src => .none
def toPys : List D → List PyData
  | [] => []
  | d :: l => toPy d :: toPys l
end
section
variable {K : PySem.W.Frag} {sa : SA} {T : List (Addr × Str)} {G H : Hp} {S : Src}
mutual
theorem dp_of (w : Wd K sa T G H S) : ∀ (n : Nat) (d : D) (v : V), shp n d = true → Rep K sa G d v → Dp K H v (toPy d) ∧ (toPy d).canLay0 = true ∧ (toPy d).depth ≤ n
  | n, .non, v, _, r => by rw [Rep] at r; subst r; rw [toPy]; exact ⟨.non, rfl, Nat.zero_le _⟩
  | n, .bl b, v, _, r => by rw [Rep] at r; subst r; rw [toPy]; exact ⟨.bl b, rfl, Nat.zero_le _⟩
  | n, .int b, v, _, r => by rw [Rep] at r; subst r; rw [toPy]; exact ⟨.int b, rfl, Nat.zero_le _⟩
  | n, .str b, v, z, r => by
    rw [Rep] at r; subst r; rw [toPy]
    cases n <;> exact ⟨.str b, (show (PyData.str b).canLay0 = true from z), Nat.zero_le _⟩
  | n, .dct _, v, z, _ => by cases n <;> simp [shp] at z
  | n, .src, v, z, _ => by cases n <;> simp [shp] at z
  | 0, .tup l, v, z, r => by simp [shp] at z
  | 0, .lst l, v, z, r => by simp [shp] at z
  | n + 1, .tup l, v, z, r => by
    rw [Rep] at r
    obtain ⟨_, a, vs, rfl, q, r⟩ := r
    rw [shp] at z
    obtain ⟨h1, h2, h3⟩ := dps_of w n l vs z r
    rw [toPy]
    exact ⟨.tup (w.tup q) h1, h2, Nat.succ_le_succ h3⟩
  | n + 1, .lst l, v, z, r => by
    rw [Rep] at r
    obtain ⟨_, a, vs, rfl, q, r⟩ := r
    rw [shp] at z
    obtain ⟨h1, h2, h3⟩ := dps_of w n l vs z r
    rw [toPy]
    exact ⟨.lst (w.seq q) h1, h2, Nat.succ_le_succ h3⟩
theorem dps_of (w : Wd K sa T G H S) : ∀ (n : Nat) (l : List D) (vs : List V), shpL n l = true → RepL K sa G l vs → DpAll K H vs (toPys l) ∧ PyData.canLayAll0 (toPys l) = true ∧ PyData.depthAll (toPys l) ≤ n
  | n, [], vs, _, r => by rw [RepL] at r; subst r; rw [toPys]; exact ⟨.nil, rfl, Nat.zero_le _⟩
  | n, d :: l, vs, z, r => by
    rw [RepL] at r
    obtain ⟨v, r', rfl, r1, r2⟩ := r
    rw [shpL, Bool.and_eq_true] at z
    obtain ⟨h1, h2, h3⟩ := dp_of w n d v z.1 r1
    obtain ⟨g1, g2, g3⟩ := dps_of w n l r' z.2 r2
    rw [toPys]
    refine ⟨.cons h1 g1, ?_, ?_⟩
    · rw [PyData.canLayAll0, h2, g2]; rfl
    · rw [PyData.depthAll]; exact Nat.max_le.mpr ⟨h3, g3⟩
end
mutual
theorem eqv_eq : ∀ (n m : Nat) (a b : D), shp n a = true → shp m b = true → PyData.eqv (toPy a) (toPy b) = eqD a b
  | n, m, .dct _, b, z, _ => by cases n <;> simp [shp] at z
  | n, m, .src, b, z, _ => by cases n <;> simp [shp] at z
  | 0, m, .tup _, b, z, _ => by simp [shp] at z
  | 0, m, .lst _, b, z, _ => by simp [shp] at z
  | n, m, .non, b, _, z => by cases b <;> first | rfl | (cases m <;> simp [shp] at z)
  | n, m, .bl _, b, _, z => by cases b <;> first | rfl | (cases m <;> simp [shp] at z)
  | n, m, .int _, b, _, z => by cases b <;> first | rfl | (cases m <;> simp [shp] at z)
  | n, m, .str _, b, _, z => by cases b <;> first | rfl | (cases m <;> simp [shp] at z)
  | n + 1, m, .tup l, b, z, z2 => by
    cases b with
    | tup l2 =>
      cases m with
      | zero => simp [shp] at z2
      | succ m =>
        rw [shp] at z z2
        rw [toPy, toPy, eqD, PyData.eqv]
        exact eqvs_eq n m l l2 z z2
    | dct _ => cases m <;> simp [shp] at z2
    | src => cases m <;> simp [shp] at z2
    | _ => rfl
  | n + 1, m, .lst l, b, z, z2 => by
    cases b with
    | lst l2 =>
      cases m with
      | zero => simp [shp] at z2
      | succ m =>
        rw [shp] at z z2
        rw [toPy, toPy, eqD, PyData.eqv]
        exact eqvs_eq n m l l2 z z2
    | dct _ => cases m <;> simp [shp] at z2
    | src => cases m <;> simp [shp] at z2
    | _ => rfl
theorem eqvs_eq : ∀ (n m : Nat) (a b : List D), shpL n a = true → shpL m b = true → PyData.eqvAll (toPys a) (toPys b) = eqDs a b
  | n, m, [], [], _, _ => rfl
  | n, m, [], _ :: _, _, _ => rfl
  | n, m, _ :: _, [], _, _ => rfl
  | n, m, a :: l, b :: k, z, z2 => by
    rw [shpL, Bool.and_eq_true] at z z2
    rw [toPys, toPys, eqDs, PyData.eqvAll, eqv_eq n m a b z.1 z2.1, eqvs_eq n m l k z.2 z2.2]
end
theorem shaped_of {d : D} {v : V} (w : Wd K sa T G H S) (z : shp 60 d = true) (r : Rep K sa G d v) : Dp K H v (toPy d) ∧ SeqAt.shaped (toPy d) = true := by
  obtain ⟨h1, h2, h3⟩ := dp_of w 60 d v z r
  refine ⟨h1, ?_⟩
  unfold SeqAt.shaped
  rw [h2, Bool.true_and]
  exact decide_eq_true (Nat.le_trans h3 (by decide))
/-! ### flat things -/
theorem flat_of {d : D} {v : V} (z : d.flat = true) (r : Rep K sa G d v) : flatV v = true := by
  cases d <;> first | (rw [Rep] at r; subst r; rfl) | (simp [D.flat] at z)
theorem eqV_of {a b : D} {x y : V} (za : a.flat = true) (zb : b.flat = true) (ra : Rep K sa G a x) (rb : Rep K sa G b y) : eqV x y = eqD a b := by
  cases a <;> first
    | (simp [D.flat] at za; done)
    | (cases b <;> first
      | (simp [D.flat] at zb; done)
      | (simp only [Rep] at ra rb; subst ra rb; rfl))
theorem flats_of : ∀ {l : List D} {vs : List V}, l.all D.flat = true → RepL K sa G l vs → vs.all flatV = true
  | [], vs, _, r => by rw [RepL] at r; subst r; rfl
  | d :: l, vs, z, r => by
    rw [RepL] at r
    obtain ⟨v, r', rfl, r1, r2⟩ := r
    rw [List.all_cons, Bool.and_eq_true] at z
    rw [List.all_cons, flat_of z.1 r1, flats_of z.2 r2]; rfl
theorem inV_of {x : D} {v : V} (zx : x.flat = true) (rx : Rep K sa G x v) : ∀ {l : List D} {vs : List V}, l.all D.flat = true → RepL K sa G l vs → inV v vs = inD x l
  | [], vs, _, r => by rw [RepL] at r; subst r; rfl
  | d :: l, vs, z, r => by
    rw [RepL] at r
    obtain ⟨y, r', rfl, r1, r2⟩ := r
    rw [List.all_cons, Bool.and_eq_true] at z
    have ih := inV_of zx rx z.2 r2
    unfold inV inD at ih ⊢
    rw [List.any_cons, List.any_cons, ih, eqV_of z.1 zx r1 rx]
/-! ### dicts -/
theorem valV_of {k : Str} : ∀ {l : List (Str × D)} {kvs : List (Key × V)}, RepD K sa G l kvs → match getK l k with
    | some d => ∃ v, valV kvs (Sum.inr k) = some v ∧ Rep K sa G d v
    | none => valV kvs (Sum.inr k) = none
  | [], kvs, r => by rw [RepD] at r; subst r; rfl
  | (j, d) :: l, kvs, r => by
    rw [RepD] at r
    obtain ⟨v, r', rfl, r1, r2⟩ := r
    by_cases h : j = k
    · subst h
      have e : getK ((j, d) :: l) j = some d := by simp [getK]
      rw [e]
      exact ⟨v, valV_pos rfl, r1⟩
    · have e : getK ((j, d) :: l) k = getK l k := by simp [getK, List.find?_cons, h]
      rw [e, valV_neg (by intro z; exact h (Sum.inr.inj z))]
      exact valV_of r2
theorem hasK_of (l : List (Str × D)) (k : Str) : hasK l k = (getK l k).isSome := by
  induction l with
  | nil => rfl
  | cons p l ih =>
    by_cases h : p.1 = k
    · simp [hasK, getK, List.find?_cons, h]
    · have e1 : hasK (p :: l) k = hasK l k := by simp [hasK, h]
      have e2 : getK (p :: l) k = getK l k := by simp [getK, List.find?_cons, h]
      rw [e1, e2, ih]
theorem has_of {k : Str} {l : List (Str × D)} {kvs : List (Key × V)} (r : RepD K sa G l kvs) : (valV kvs (Sum.inr k)).isSome = hasK l k := by
  have h := valV_of (k := k) r
  rw [hasK_of]
  cases e : getK l k with
  | none => rw [e] at h; rw [h]; rfl
  | some d => rw [e] at h; obtain ⟨v, e2, _⟩ := h; rw [e2]; rfl
end
/-! ### the relations by data -/
def rBin (K : PySem.W.Frag) (sa : SA) (op : BOp) : R2 := fun x y H Q => ∃ T E G S d1 d2 p, Wd K sa T G H S ∧ Rep K sa G d1 x ∧ Rep K sa G d2 y ∧ opB op d1 d2 = some p ∧ post T E (rlV K sa) (.ok p S) G H Q
def rCmp (K : PySem.W.Frag) (sa : SA) (op : COp) : R2 := fun x y H Q => ∃ T G S d1 d2 b, Wd K sa T G H S ∧ Rep K sa G d1 x ∧ Rep K sa G d2 y ∧ opC op d1 d2 = some b ∧ Q (.bl b) H
def rIdx (K : PySem.W.Frag) (sa : SA) : R2 := fun x y H Q => ∃ T G S d1 d2 d, Wd K sa T G H S ∧ Rep K sa G d1 x ∧ Rep K sa G d2 y ∧ opX S d1 d2 = some d ∧ ∀ v, Rep K sa G d v → Q v H
section
variable {X : Cx} {sa : SA}
theorem lim_line {n : Nat} (h : n ≤ lim) : n ≤ sizeLine := by
  rw [sizeLine_eq]; unfold lim at h; omega
theorem big_log {i : Int} (h : big i = true) : i.natAbs.log2 < 4097 := by
  have h1 : i.natAbs < 2 ^ 4096 := of_decide_eq_true h
  exact Nat.lt_of_lt_of_le (PySem.Flt.log2_lt_of (by decide) h1) (by decide)
theorem op_fdivB : OpR X (binaryOp .FloorDiv) (rI (fun _ j => j ≠ 0 ∧ big j = true) fun i j => .int (i.fdiv j)) := L2.opI fun i j _ _ _ _ _ hc q => by
  exact PyProof.Rows.floordiv_int hc.1 q (.inl (PyProof.noPylong_of_log2 (Nat.lt_trans (big_log hc.2) (by decide))))
theorem bin_dw {op : BOp} {o : Operator} (h : bopB op o = true) : OpR X (binaryOp o) (rBin X.K sa op) := by
  intro pins s σ H x y v u Q I rx ry hr
  obtain ⟨T, E, G, S, d1, d2, p, w, r1, r2, e, q⟩ := hr
  cases op <;> cases o <;> simp [bopB] at h
  · -- add
    cases d1 <;> cases d2 <;> simp [opB] at e
    · rw [Rep] at r1 r2; subst r1 r2 e
      exact op_add pins s σ H _ _ v u Q I rx ry ⟨_, _, rfl, rfl, q.here w (by rw [Rep])⟩
    · rw [Rep] at r1 r2; subst r1 r2
      obtain ⟨z, e⟩ := e
      subst e
      exact op_add_str pins s σ H _ _ v u Q I rx ry ⟨_, _, rfl, rfl, lim_line z, q.here w (by rw [Rep])⟩
    · obtain ⟨z, e⟩ := e
      subst e
      simp only [Rep] at r1 r2
      obtain ⟨z1, a, vs, rfl, g1, l1⟩ := r1
      obtain ⟨z2, b, ws, rfl, g2, l2⟩ := r2
      refine op_cat pins s σ H _ _ v u Q I rx ry ⟨a, b, vs, ws, rfl, rfl, w.lst g1, w.lst g2, ?_, fun p n => q.new w (u := .lst (vs ++ ws)) ⟨by rw [List.length_append]; exact z, l1.append l2⟩ n⟩
      rw [l1.length, l2.length]
      exact lim_line z
  · cases d1 <;> cases d2 <;> simp [opB] at e
    rw [Rep] at r1 r2; subst r1 r2 e
    exact op_sub pins s σ H _ _ v u Q I rx ry ⟨_, _, rfl, rfl, q.here w (by rw [Rep])⟩
  · cases d1 <;> cases d2 <;> simp [opB] at e
    rw [Rep] at r1 r2; subst r1 r2
    obtain ⟨z, e⟩ := e
    subst e
    refine op_mulW pins s σ H _ _ v u Q I rx ry ⟨_, _, rfl, rfl, ?_, q.here w (by rw [Rep])⟩
    have h1 := big_log z.1
    have h2 := big_log z.2
    unfold CMulW
    omega
  · cases d1 <;> cases d2 <;> simp [opB] at e
    rw [Rep] at r1 r2; subst r1 r2
    obtain ⟨z, e⟩ := e
    subst e
    exact op_fdivB pins s σ H _ _ v u Q I rx ry ⟨_, _, rfl, rfl, z, q.here w (by rw [Rep])⟩
  · cases d1 <;> cases d2 <;> simp [opB] at e
    rw [Rep] at r1 r2; subst r1 r2
    obtain ⟨z, e⟩ := e
    subst e
    exact op_modN pins s σ H _ _ v u Q I rx ry ⟨_, _, rfl, rfl, z, q.here w (by rw [Rep])⟩
  · cases d1 <;> cases d2 <;> simp [opB] at e
    rw [Rep] at r1 r2; subst r1 r2
    obtain ⟨z, e⟩ := e
    subst e
    exact op_pow pins s σ H _ _ v u Q I rx ry ⟨_, _, rfl, rfl, ⟨z.1, Int.le_trans z.2.1 (by decide), z.2.2⟩, q.here w (by rw [Rep])⟩
theorem eq_dw (hu : X.A.units + 64 < cLine) : OpR X (compareOp .Eq) (rCmp X.K sa .eq) := by
  intro pins s σ H x y v u Q I rx ry hr
  obtain ⟨T, G, S, d1, d2, b, w, r1, r2, e, q⟩ := hr
  rw [opC] at e
  split at e
  · rename_i z
    rw [Bool.and_eq_true] at z
    cases e
    obtain ⟨h1, h2⟩ := shaped_of w z.1 r1
    obtain ⟨g1, g2⟩ := shaped_of w z.2 r2
    refine op_eqD hu pins s σ H _ _ v u Q I rx ry ⟨_, _, h1, g1, h2, g2, ?_⟩
    rw [eqv_eq 60 60 d1 d2 z.1 z.2]
    exact q
  · cases e
theorem ne_dw (hu : X.A.units + 64 < cLine) : OpR X (compareOp .NotEq) (rCmp X.K sa .ne) := by
  intro pins s σ H x y v u Q I rx ry hr
  obtain ⟨T, G, S, d1, d2, b, w, r1, r2, e, q⟩ := hr
  rw [opC] at e
  split at e
  · rename_i z
    rw [Bool.and_eq_true] at z
    cases e
    obtain ⟨h1, h2⟩ := shaped_of w z.1 r1
    obtain ⟨g1, g2⟩ := shaped_of w z.2 r2
    refine op_neD hu pins s σ H _ _ v u Q I rx ry ⟨_, _, h1, g1, h2, g2, ?_⟩
    rw [eqv_eq 60 60 d1 d2 z.1 z.2]
    exact q
  · cases e
theorem cmp_dw {op : COp} {o : CmpOp} (hu : X.A.units + 64 < cLine) (h : copB op o = true) : OpR X (compareOp o) (rCmp X.K sa op) := by
  have hu1 : X.A.units + 1 < cLine := Nat.lt_of_le_of_lt (Nat.add_le_add_left (by decide) _) hu
  cases op <;> cases o <;> simp [copB] at h
  · intro pins s σ H x y v u Q I rx ry hr
    obtain ⟨T, G, S, d1, d2, b, w, r1, r2, e, q⟩ := hr
    cases d1 <;> cases d2 <;> first | (simp [opC] at e; done) | skip
    · rw [Rep] at r1 r2; subst r1 r2
      obtain rfl := Option.some.inj e
      exact op_lt pins s σ H _ _ v u Q I rx ry ⟨_, _, rfl, rfl, q⟩
    · rw [Rep] at r1 r2; subst r1 r2
      obtain rfl := Option.some.inj e
      exact op_lt_str pins s σ H _ _ v u Q I rx ry ⟨_, _, rfl, rfl, q⟩
  · intro pins s σ H x y v u Q I rx ry hr
    obtain ⟨T, G, S, d1, d2, b, w, r1, r2, e, q⟩ := hr
    cases d1 <;> cases d2 <;> first | (simp [opC] at e; done) | skip
    · rw [Rep] at r1 r2; subst r1 r2
      obtain rfl := Option.some.inj e
      exact op_le pins s σ H _ _ v u Q I rx ry ⟨_, _, rfl, rfl, q⟩
    · rw [Rep] at r1 r2; subst r1 r2
      obtain rfl := Option.some.inj e
      exact op_le_str pins s σ H _ _ v u Q I rx ry ⟨_, _, rfl, rfl, q⟩
  · intro pins s σ H x y v u Q I rx ry hr
    obtain ⟨T, G, S, d1, d2, b, w, r1, r2, e, q⟩ := hr
    cases d1 <;> cases d2 <;> simp [opC] at e
    rw [Rep] at r1 r2; subst r1 r2 e
    exact op_gt pins s σ H _ _ v u Q I rx ry ⟨_, _, rfl, rfl, q⟩
  · intro pins s σ H x y v u Q I rx ry hr
    obtain ⟨T, G, S, d1, d2, b, w, r1, r2, e, q⟩ := hr
    cases d1 <;> cases d2 <;> simp [opC] at e
    rw [Rep] at r1 r2; subst r1 r2 e
    exact op_ge pins s σ H _ _ v u Q I rx ry ⟨_, _, rfl, rfl, q⟩
  · exact eq_dw hu
  · exact ne_dw hu
  · -- in
    intro pins s σ H x y v u Q I rx ry hr
    obtain ⟨T, G, S, d1, d2, b, w, r1, r2, e, q⟩ := hr
    cases d2 with
    | lst l =>
      have e : (if d1.flat && l.all D.flat then some (inD d1 l) else none) = some b := by cases d1 <;> exact e
      split at e
      · rename_i z
        rw [Bool.and_eq_true] at z
        cases e
        rw [Rep] at r2
        obtain ⟨_, a, vs, rfl, g, rl⟩ := r2
        refine op_in_seq pins s σ H _ _ v u Q I rx ry ⟨a, vs, rfl, .inl (w.seq g), flat_of z.1 r1, flats_of z.2 rl, ?_⟩
        rw [inV_of z.1 r1 z.2 rl]
        exact q
      · cases e
    | tup l =>
      have e : (if d1.flat && l.all D.flat then some (inD d1 l) else none) = some b := by cases d1 <;> exact e
      split at e
      · rename_i z
        rw [Bool.and_eq_true] at z
        cases e
        rw [Rep] at r2
        obtain ⟨_, a, vs, rfl, g, rl⟩ := r2
        refine op_in_seq pins s σ H _ _ v u Q I rx ry ⟨a, vs, rfl, .inr (w.tup g), flat_of z.1 r1, flats_of z.2 rl, ?_⟩
        rw [inV_of z.1 r1 z.2 rl]
        exact q
      · cases e
    | dct l =>
      cases d1 <;> simp [opC] at e
      rename_i k
      subst e
      simp only [Rep] at r1 r2
      subst r1
      obtain ⟨_, a, kvs, rfl, g, rl⟩ := r2
      obtain rfl : u = Value.ref a := ry
      have dg : DGet H a (.str k) (valV kvs (Sum.inr k)) := .inl ⟨kvs, Sum.inr k, w.rd g, rfl, rfl⟩
      refine d_in hu1 I dg rx fun s' I' => ⟨.bl _, H, I', rfl, ?_⟩
      rw [has_of rl]
      exact q
    | str y =>
      cases d1 <;> first | (simp [opC] at e; done) | skip
      rename_i x0
      have e : (match x0.cps.toList with | [c] => some (decide (c ∈ y.cps.toList)) | _ => none) = some b := e
      split at e
      · rename_i c hc
        obtain rfl := Option.some.inj e
        rw [Rep] at r1 r2
        subst r1 r2
        have ex : x0 = ⟨#[c]⟩ := by
          obtain ⟨⟨l⟩⟩ := x0
          have : l = [c] := hc
          rw [this]
        exact L2.op_in_sign pins s σ H _ _ v u Q I rx ry ⟨c, y, by rw [ex], rfl, q⟩
      · cases e
    | _ => cases d1 <;> simp [opC] at e
  · -- not in
    intro pins s σ H x y v u Q I rx ry hr
    obtain ⟨T, G, S, d1, d2, b, w, r1, r2, e, q⟩ := hr
    cases d2 with
    | lst l =>
      have e : (if d1.flat && l.all D.flat then some (!inD d1 l) else none) = some b := by cases d1 <;> exact e
      split at e
      · rename_i z
        rw [Bool.and_eq_true] at z
        cases e
        rw [Rep] at r2
        obtain ⟨_, a, vs, rfl, g, rl⟩ := r2
        refine op_notIn_seq pins s σ H _ _ v u Q I rx ry ⟨a, vs, rfl, .inl (w.seq g), flat_of z.1 r1, flats_of z.2 rl, ?_⟩
        rw [inV_of z.1 r1 z.2 rl]
        exact q
      · cases e
    | tup l =>
      have e : (if d1.flat && l.all D.flat then some (!inD d1 l) else none) = some b := by cases d1 <;> exact e
      split at e
      · rename_i z
        rw [Bool.and_eq_true] at z
        cases e
        rw [Rep] at r2
        obtain ⟨_, a, vs, rfl, g, rl⟩ := r2
        refine op_notIn_seq pins s σ H _ _ v u Q I rx ry ⟨a, vs, rfl, .inr (w.tup g), flat_of z.1 r1, flats_of z.2 rl, ?_⟩
        rw [inV_of z.1 r1 z.2 rl]
        exact q
      · cases e
    | dct l =>
      cases d1 <;> first | (simp [opC] at e; done) | skip
      rename_i k
      obtain rfl := Option.some.inj e
      simp only [Rep] at r1 r2
      subst r1
      obtain ⟨_, a, kvs, rfl, g, rl⟩ := r2
      obtain rfl : u = Value.ref a := ry
      have dg : DGet H a (.str k) (valV kvs (Sum.inr k)) := .inl ⟨kvs, Sum.inr k, w.rd g, rfl, rfl⟩
      refine d_notIn hu1 I dg rx fun s' I' => ⟨.bl _, H, I', rfl, ?_⟩
      rw [has_of rl]
      exact q
    | _ => cases d1 <;> simp [opC] at e
  · -- is None
    intro pins s σ H x y v u Q I rx ry hr
    obtain ⟨T, G, S, d1, d2, b, w, r1, r2, e, q⟩ := hr
    cases d2 with
    | non =>
      have e : some (isNon d1) = some b := by cases d1 <;> exact e
      cases e
      rw [Rep] at r2; subst r2
      refine op_isN pins s σ H _ _ v u Q I rx ry ⟨rfl, ?_⟩
      have z : decide (x = .non) = isNon d1 := by
        cases d1 <;> simp only [Rep] at r1 <;> first
          | (subst r1; simp [isNon]; done)
          | (obtain ⟨a, vs, rfl, _⟩ := r1; simp [isNon]; done)
          | (obtain ⟨_, a, vs, rfl, _⟩ := r1; simp [isNon]; done)
      rw [z]; exact q
    | _ => cases d1 <;> simp [opC] at e
  · intro pins s σ H x y v u Q I rx ry hr
    obtain ⟨T, G, S, d1, d2, b, w, r1, r2, e, q⟩ := hr
    cases d2 with
    | non =>
      have e : some (!isNon d1) = some b := by cases d1 <;> exact e
      cases e
      rw [Rep] at r2; subst r2
      refine op_notN pins s σ H _ _ v u Q I rx ry ⟨rfl, ?_⟩
      have z : decide (x = .non) = isNon d1 := by
        cases d1 <;> simp only [Rep] at r1 <;> first
          | (subst r1; simp [isNon]; done)
          | (obtain ⟨a, vs, rfl, _⟩ := r1; simp [isNon]; done)
          | (obtain ⟨_, a, vs, rfl, _⟩ := r1; simp [isNon]; done)
      rw [z]; exact q
    | _ => cases d1 <;> simp [opC] at e
end
end DW

/-! DwRepD: dicts as they stand in the heap; sorting texts. -/
namespace DW
open PySem L2
section
variable {sa : SA}
theorem any_key {K : PySem.W.Frag} {G : Hp} (k : Str) : ∀ {l : List (Str × D)} {kvs : List (Key × V)}, RepD K sa G l kvs → (kvs.any fun kv => decide (kv.1 = Sum.inr k)) = hasK l k
  | [], kvs, r => by rw [RepD] at r; subst r; rfl
  | (j, d) :: l, kvs, r => by
    rw [RepD] at r
    obtain ⟨v, r', rfl, r1, r2⟩ := r
    have ih := any_key k r2
    unfold hasK at ih ⊢
    rw [List.any_cons, List.any_cons, ih]
    congr 1
    show decide ((Sum.inr j : Key) = Sum.inr k) = decide (j = k)
    exact key_rr j k
theorem RepD.append {K : PySem.W.Frag} {G : Hp} : ∀ {l m : List (Str × D)} {vs ws : List (Key × V)}, RepD K sa G l vs → RepD K sa G m ws → RepD K sa G (l ++ m) (vs ++ ws)
  | [], m, vs, ws, h, g => by rw [RepD] at h; subst h; exact g
  | (k, x) :: l, m, vs, ws, h, g => by
    rw [RepD] at h
    obtain ⟨v, r, rfl, q, t⟩ := h
    show RepD K sa G ((k, x) :: (l ++ m)) ((Sum.inr k, v) :: (r ++ ws))
    rw [RepD]
    exact ⟨v, r ++ ws, rfl, q, RepD.append t g⟩
theorem RepD.nil {K : PySem.W.Frag} {G : Hp} : RepD K sa G [] [] := by rw [RepD]
theorem RepD.cons {K : PySem.W.Frag} {G : Hp} {k : Str} {d : D} {l : List (Str × D)} {v : V} {vs : List (Key × V)} (h : Rep K sa G d v) (t : RepD K sa G l vs) : RepD K sa G ((k, d) :: l) ((Sum.inr k, v) :: vs) := by
  rw [RepD]; exact ⟨v, vs, rfl, h, t⟩
theorem RepD.mapK {K : PySem.W.Frag} {G : Hp} {k : Str} {d : D} {v : V} (rv : Rep K sa G d v) : ∀ {l : List (Str × D)} {kvs : List (Key × V)}, RepD K sa G l kvs → RepD K sa G (l.map (fun kv => if kv.1 = k then (kv.1, d) else kv)) (kvs.map (fun kv => if kv.1 = Sum.inr k then (kv.1, v) else kv))
  | [], kvs, r => by rw [RepD] at r; subst r; exact RepD.nil
  | (j, x) :: l, kvs, r => by
    rw [RepD] at r
    obtain ⟨w, r', rfl, r1, r2⟩ := r
    have ih := RepD.mapK rv (k := k) r2
    rw [List.map_cons, List.map_cons]
    by_cases h : j = k
    · subst h
      simp only [if_true]
      exact RepD.cons rv ih
    · have h2 : ¬ (Sum.inr j : Key) = Sum.inr k := fun z => h (Sum.inr.inj z)
      simp only [if_neg h, if_neg h2]
      exact RepD.cons r1 ih
theorem RepD.put {K : PySem.W.Frag} {G : Hp} {k : Str} {d : D} {v : V} (rv : Rep K sa G d v) {l : List (Str × D)} {kvs : List (Key × V)} (r : RepD K sa G l kvs) : RepD K sa G (DW.putK l k d) (L2.putK kvs (Sum.inr k) v) := by
  unfold L2.putK DW.putK
  rw [any_key k r]
  split
  · exact RepD.mapK rv r
  · exact r.append (RepD.cons rv RepD.nil)
theorem RepD.dropK {K : PySem.W.Frag} {G : Hp} {k : Str} : ∀ {l : List (Str × D)} {kvs : List (Key × V)}, RepD K sa G l kvs → RepD K sa G (DW.dropK l k) (L2.dropK kvs (Sum.inr k))
  | [], kvs, r => by rw [RepD] at r; subst r; exact RepD.nil
  | (j, x) :: l, kvs, r => by
    rw [RepD] at r
    obtain ⟨w, r', rfl, r1, r2⟩ := r
    have ih := RepD.dropK (k := k) r2
    unfold DW.dropK L2.dropK at ih ⊢
    by_cases h : j = k
    · subst h
      rw [List.filter_cons_of_neg (by simp), List.filter_cons_of_neg (by simp)]
      exact ih
    · have h2 : ¬ (Sum.inr j : Key) = Sum.inr k := fun z => h (Sum.inr.inj z)
      rw [List.filter_cons_of_pos (by simp [h]), List.filter_cons_of_pos (by simp [h])]
      exact RepD.cons r1 ih
/-! ### the methods -/
theorem RepD.keys {K : PySem.W.Frag} {G : Hp} : ∀ {l : List (Str × D)} {kvs : List (Key × V)}, RepD K sa G l kvs → kvs.map (·.1) = (l.map (·.1)).map Sum.inr
  | [], kvs, h => by rw [RepD] at h; rw [h]; rfl
  | (k, d) :: l, kvs, h => by
    rw [RepD] at h
    obtain ⟨v, r, rfl, _, t⟩ := h
    rw [List.map_cons, List.map_cons, List.map_cons, RepD.keys t]
theorem putK_len (l : List (Str × D)) (k : Str) (d : D) : (DW.putK l k d).length ≤ l.length + 1 := by
  unfold DW.putK
  split
  · rw [List.length_map]; omega
  · rw [List.length_append]; exact Nat.le_refl _
theorem RepD.merge {K : PySem.W.Frag} {G : Hp} : ∀ {m : List (Str × D)} {ms : List (Key × V)} {l : List (Str × D)} {kvs : List (Key × V)}, RepD K sa G m ms → RepD K sa G l kvs → RepD K sa G (m.foldl (fun a p => DW.putK a p.1 p.2) l) (L2.mergeK kvs ms)
  | [], ms, l, kvs, h, g => by rw [RepD] at h; subst h; exact g
  | (k, d) :: m, ms, l, kvs, h, g => by
    rw [RepD] at h
    obtain ⟨v, r, rfl, rv, t⟩ := h
    exact RepD.merge (m := m) (ms := r) (l := DW.putK l k d) (kvs := L2.putK kvs (Sum.inr k) v) t (RepD.put rv g)
theorem merge_len : ∀ (m l : List (Str × D)), (m.foldl (fun a p => DW.putK a p.1 p.2) l).length ≤ l.length + m.length
  | [], l => Nat.le_refl _
  | (k, d) :: m, l => by
    have h1 := merge_len m (DW.putK l k d)
    have h2 := putK_len l k d
    rw [List.foldl_cons, List.length_cons]
    exact Nat.le_trans h1 (by omega)
theorem strs_of {K : PySem.W.Frag} {G : Hp} : ∀ {l : List D} {vs : List V} {bs : List Str}, RepL K sa G l vs → strsD l = some bs → vs = bs.map V.str
  | [], vs, bs, r, e => by rw [RepL] at r; subst r; cases e; rfl
  | d :: l, vs, bs, r, e => by
    rw [RepL] at r
    obtain ⟨v, r', rfl, r1, r2⟩ := r
    cases d <;> first | (simp [strsD] at e; done) | skip
    rename_i b
    rw [strsD] at e
    cases q : strsD l with
    | none => rw [q] at e; cases e
    | some cs =>
      rw [q] at e
      obtain rfl := Option.some.inj e
      rw [strs_of r2 q, (show v = .str b by simpa only [Rep] using r1)]
      rfl
theorem repL_strs {K : PySem.W.Frag} {G : Hp} : ∀ l : List Str, RepL K sa G (l.map D.str) (l.map V.str)
  | [] => RepL.nil
  | x :: l => RepL.cons (by rw [Rep]) (repL_strs l)
end
/-! ### sorting texts -/
theorem leS_trans (a b c : Str) (h1 : leS a b = true) (h2 : leS b c = true) : leS a c = true := by
  unfold leS at *
  simp only [Bool.not_eq_true', decide_eq_false_iff_not] at *
  exact List.le_trans h1 h2
theorem leS_total (a b : Str) : (leS a b || leS b a) = true := by
  unfold leS
  simp only [Bool.or_eq_true, Bool.not_eq_true', decide_eq_false_iff_not]
  exact List.le_total a.cps.toList b.cps.toList
theorem leS_anti {a b : Str} (h1 : leS a b = true) (h2 : leS b a = true) : a = b := by
  unfold leS at *
  simp only [Bool.not_eq_true', decide_eq_false_iff_not] at *
  have : a.cps.toList = b.cps.toList := List.le_antisymm h1 h2
  obtain ⟨x⟩ := a
  obtain ⟨y⟩ := b
  congr 1
  exact Array.toList_inj.mp this
theorem sortS_pw (l : List Str) : (sortS l).Pairwise (fun a b => leS a b = true) := List.pairwise_mergeSort leS_trans leS_total l
theorem sortS_perm (l : List Str) : (sortS l).Perm l := List.mergeSort_perm l leS
theorem rising_pw : ∀ (p : Str) (l : List Str), PyProof.Rows.risingS p l = true → (p :: l).Pairwise (fun a b => leS a b = true)
  | p, [], _ => List.pairwise_singleton ..
  | p, x :: r, h => by
    have h : (!PySem.Spec.ltCps x.cps.toList p.cps.toList && PyProof.Rows.risingS x r) = true := h
    rw [Bool.and_eq_true, PyProof.Rows.ltCps_eq] at h
    have ih := rising_pw x r h.2
    have hx : leS p x = true := h.1
    refine List.pairwise_cons.mpr ⟨fun y hy => ?_, ih⟩
    rcases List.mem_cons.mp hy with rfl | hy
    · exact hx
    · exact leS_trans _ _ _ hx ((List.pairwise_cons.mp ih).1 y hy)
theorem sortedS_pw {l : List Str} (h : PyProof.Rows.sortedS l = true) : l.Pairwise (fun a b => leS a b = true) := by
  cases l with
  | nil => exact List.Pairwise.nil
  | cons x r => exact rising_pw x r h
/-- what sorted hands back -/
theorem sortS_uniq {l ys : List Str} (hp : ys.Perm l) (hs : PyProof.Rows.sortedS ys = true) : ys = sortS l :=
  List.Perm.eq_of_pairwise (fun a b _ _ h1 h2 => leS_anti h1 h2) (sortedS_pw hs) (sortS_pw l) (hp.trans (sortS_perm l).symm)
end DW

/-! DwEx: the expressions of the small language, by the layer's rules. -/
namespace DW
open PySem L2

section
variable {X : Cx} {sa : SA} {T : List (Addr × Str)} {F : FT} {E : XS} {pos : Pos}
theorem Lit.rep (K : PySem.W.Frag) (sa : SA) (G : Hp) (l : Lit) : Rep K sa G l.d l.v := by
  cases l <;> simp only [Lit.d, Lit.v, Rep]
theorem se_var {i : Nat} {x : Str} (hN : X.N[i]? = some x) (hv : Vis X.env.scope x) (hd : (x == ("__debug__" : Str)) = false) (hcd : (x == ("__classdict__" : Str)) = false) : PE X (.Name x pos) (TX X.K sa T F E (.var i)) :=
  (pe_var hN hv hd hcd).imp fun σ H Q h => by
    obtain ⟨G, ρ, S, w, en, h⟩ := h
    rw [ev] at h
    split at h
    · rename_i d e
      obtain ⟨v, e1, r⟩ := en.get i d e
      exact ⟨v, e1, h.here w r⟩
    · exact h.elim
theorem se_lit {l : Lit} {c : Const} {j : Nat} (h : litB l c = true) : PE X (.Constant c j pos) (TX X.K sa T F E (.lit l)) := by
  have key : ∀ {t : TE}, PE X (.Constant c j pos) t → t = tC l.v → PE X (.Constant c j pos) (TX X.K sa T F E (.lit l)) := fun {t} p e => by
    subst e
    refine p.imp fun σ H Q h => ?_
    obtain ⟨G, ρ, S, w, en, h⟩ := h
    rw [ev] at h
    exact h.here w (l.rep _ _ _)
  cases l <;> cases c <;> first | (simp [litB] at h; done) | skip
  · exact key pe_non rfl
  · rename_i a b
    obtain rfl : a = b := eq_of_beq h
    exact key pe_bl rfl
  · rename_i a b
    obtain rfl : a = b := of_decide_eq_true h
    exact key pe_int rfl
  · rename_i a b
    obtain rfl : a = b := of_decide_eq_true h
    exact key pe_str rfl
/-- a constant of the module -/
def GlFact (X : Cx) (x : Str) : Gc → Prop
  | .lit l => ∃ u, X.mg x = some u ∧ RelV l.v u
  | .tup ls => ∃ a, X.mg x = some (.ref a) ∧ ls.length ≤ lim ∧ SqT X.K (fun _ => none) a (ls.map Lit.v)
theorem reps_lit (K : PySem.W.Frag) (sa : SA) (G : Hp) : ∀ ls : List Lit, RepL K sa G (ls.map Lit.d) (ls.map Lit.v)
  | [] => RepL.nil
  | l :: ls => RepL.cons (l.rep K sa G) (reps_lit K sa G ls)
theorem se_glb {x : Str} {c : Gc} (hg : Gl X x) (hd : (x == ("__debug__" : Str)) = false) (h : GlFact X x c) : PE X (.Name x pos) (TX X.K sa T F E (.glb x c)) := by
  cases c with
  | lit l =>
    obtain ⟨u, hm, r⟩ := h
    refine (pe_glob hg hm r hd).imp fun σ H Q h => ?_
    obtain ⟨G, ρ, S, w, en, h⟩ := h
    rw [ev] at h
    exact h.here w (l.rep _ _ _)
  | tup ls =>
    obtain ⟨a, hm, hz, r⟩ := h
    refine (pe_glob (v := .ref a) hg hm rfl hd).imp fun σ H Q h => ?_
    obtain ⟨G, ρ, S, w, en, h⟩ := h
    rw [ev] at h
    refine h.here w ?_
    show Rep X.K sa G (.tup (ls.map Lit.d)) (.ref a)
    rw [Rep]
    refine ⟨by rw [List.length_map]; exact hz, a, _, rfl, ?_, reps_lit _ _ _ ls⟩
    rcases r with (r | ⟨o, r⟩) | r
    · cases r
    · cases r
    · exact .inr r
variable {a b c : Ex} {ea eb ec : Expr}
theorem se_bin {op : BOp} {o : Operator} (h : bopB op o = true) (ha : PE X ea (TX X.K sa T F E a)) (hb : PE X eb (TX X.K sa T F E b)) : PE X (.BinOp ea o eb pos) (TX X.K sa T F E (.bin op a b)) :=
  (pe_op (bin_dw (sa := sa) h) ha hb).imp fun σ H Q h => by
    obtain ⟨G, ρ, S, w, en, h⟩ := h
    rw [ev] at h
    refine ⟨G, ρ, S, w, en, h.step w fun p S1 v G1 H1 _ e1 w1 r1 h1 => ⟨G1, ρ, S1, w1, en.sub e1.g, h1.step w1 fun p2 S2 v2 G2 H2 _ e2 w2 r2 h2 => ?_⟩⟩
    cases e : opB op p.2 p2.2 with
    | none => rw [e] at h2; exact h2.elim
    | some q => rw [e] at h2; exact ⟨T, E σ, G2, S2, _, _, q, w2, Rep.sub e2.g _ _ r1, r2, e, h2⟩
theorem se_neg (ha : PE X ea (TX X.K sa T F E a)) : PE X (.UnaryOp .USub ea pos) (TX X.K sa T F E (.neg a)) :=
  (pe_un un_neg ha).imp fun σ H Q h => by
    obtain ⟨G, ρ, S, w, en, h⟩ := h
    rw [ev] at h
    refine ⟨G, ρ, S, w, en, h.step w fun p S1 v G1 H1 ee e1 w1 r1 h1 => ?_⟩
    clear ee
    obtain ⟨o, d⟩ := p
    cases d <;> first | exact h1.elim | skip
    rename_i i
    obtain rfl : v = .int i := by simpa only [Rep] using r1
    exact ⟨i, rfl, h1.here w1 (by rw [Rep])⟩
/-- a value as a test -/
theorem tb_of {t : TE} {σ : L2.St} {H : Hp} {Q : Bool → Hp → Prop} {x : Ex} (hx : ∀ Q', TX X.K sa T F E x σ H Q' → t σ H Q') (h : TXb X.K sa T F E x σ H Q) : L2.tB t σ H Q := by
  obtain ⟨G, ρ, S, w, en, h⟩ := h
  refine hx _ ⟨G, ρ, S, w, en, ?_⟩
  refine post.step w h fun p S1 v G1 H1 ee e1 w1 r1 h1 => ?_
  clear ee
  obtain ⟨o, d⟩ := p
  cases d <;> first | exact h1.elim | skip
  rename_i k
  obtain rfl : v = .bl k := by simpa only [Rep] using r1
  exact ⟨k, rfl, h1 k G1 H1 Ext.refl w1 rfl⟩
theorem st_val {x : Ex} {e : Expr} (h : PE X e (TX X.K sa T F E x)) (he : ∀ whole, isTrue e X.env whole = (do let v ← whole; standAt e.pos; holding [v] (truthy v))) : PT X e (TXb X.K sa T F E x) :=
  (pt_val h he).imp fun σ H Q q => tb_of (fun _ z => z) q
theorem se_nt (ha : PE X ea (TX X.K sa T F E a)) : PE X (.UnaryOp .Not ea pos) (TX X.K sa T F E (.nt a)) :=
  (pe_not ha).imp fun σ H Q h => by
    obtain ⟨G, ρ, S, w, en, h⟩ := h
    rw [ev] at h
    refine ⟨G, ρ, S, w, en, ?_⟩
    unfold theB at h
    rw [R.bind_assoc] at h
    refine post.step w h fun p S1 v G1 H1 ee e1 w1 r1 h1 => ?_
    clear ee
    obtain ⟨o, d⟩ := p
    cases d <;> first | exact h1.elim | skip
    rename_i k
    obtain rfl : v = .bl k := by simpa only [Rep] using r1
    exact ⟨k, rfl, h1.here w1 (by rw [Rep])⟩
theorem st_nt (ha : PT X ea (TXb X.K sa T F E a)) : PT X (.UnaryOp .Not ea pos) (TXb X.K sa T F E (.nt a)) :=
  (pt_not ha).imp fun σ H Q h => by
    obtain ⟨G, ρ, S, w, en, h⟩ := h
    refine ⟨G, ρ, S, w, en, ?_⟩
    rw [ev] at h
    cases e : theB (ev F a ρ S) with
    | ok b S1 =>
      rw [e] at h
      intro b' G' H' e1 w1 r1
      obtain rfl : b' = b := r1
      exact h (!b') G' H' e1 w1 rfl
    | err x S1 => rw [e] at h; exact h
    | stuck => rw [e] at h; exact h
theorem se_cmp {op : COp} {o : CmpOp} (hu : X.A.units + 64 < cLine) (h : copB op o = true) (hp : plainE eb = true) (ha : PE X ea (TX X.K sa T F E a)) (hb : PE X eb (TX X.K sa T F E b)) : PE X (.Compare ea [o] [eb] pos) (TX X.K sa T F E (.cmp op a b)) :=
  (pe_cmpR (cmp_dw (sa := sa) hu h) ha hb (plain_mark hp o)).imp fun σ H Q h => by
    obtain ⟨G, ρ, S, w, en, h⟩ := h
    rw [ev] at h
    refine ⟨G, ρ, S, w, en, h.step w fun p S1 v G1 H1 _ e1 w1 r1 h1 => ⟨G1, ρ, S1, w1, en.sub e1.g, h1.step w1 fun p2 S2 v2 G2 H2 _ e2 w2 r2 h2 => ?_⟩⟩
    cases e : opC op p.2 p2.2 with
    | none => rw [e] at h2; exact h2.elim
    | some q => rw [e] at h2; exact ⟨T, G2, S2, _, _, q, w2, Rep.sub e2.g _ _ r1, r2, e, h2.here w2 (by rw [Rep])⟩
theorem st_cmp {op : COp} {o : CmpOp} (hu : X.A.units + 64 < cLine) (h : copB op o = true) (hp : plainE eb = true) (ha : PE X ea (TX X.K sa T F E a)) (hb : PE X eb (TX X.K sa T F E b)) : PT X (.Compare ea [o] [eb] pos) (TXb X.K sa T F E (.cmp op a b)) :=
  (pt_cmpR (cmp_dw (sa := sa) hu h) ha hb (plain_mark hp o)).imp fun σ H Q h => by
    obtain ⟨G, ρ, S, w, en, h⟩ := h
    rw [ev] at h
    unfold theB at h
    rw [R.bind_assoc] at h
    refine ⟨G, ρ, S, w, en, h.step w fun p S1 v G1 H1 _ e1 w1 r1 h1 => ⟨G1, ρ, S1, w1, en.sub e1.g, (show post T (E σ) (rlE X.K sa Bool) ((ev F b ρ S1).bind _) G1 H1 Q from (by rw [R.bind_assoc] at h1; exact h1)).step w1 fun p2 S2 v2 G2 H2 _ e2 w2 r2 h2 => ?_⟩⟩
    cases e : opC op p.2 p2.2 with
    | none => rw [e] at h2; exact h2.elim
    | some q => rw [e] at h2; exact ⟨T, G2, S2, _, _, q, w2, Rep.sub e2.g _ _ r1, r2, e, q, rfl, h2 q G2 H2 Ext.refl w2 rfl⟩
end
end DW

/-! DwEx2: chains, and, or, conditional expressions, subscripts, displays. -/
namespace DW
open PySem PyProof.Rows L2

section
variable {X : Cx} {sa : SA} {T : List (Addr × Str)} {F : FT} {E : XS} {pos : Pos} {a b c : Ex} {ea eb ec : Expr}
theorem last_mark {o o' : CmpOp} (h : plainE ec = true) : lastMarks [o, o'] [eb, ec] = false := plain_mark h o'
theorem se_chn {op op' : COp} {o o' : CmpOp} (hu : X.A.units + 64 < cLine) (h : copB op o = true) (h' : copB op' o' = true) (hp : plainE ec = true) (ha : PE X ea (TX X.K sa T F E a)) (hb : PE X eb (TX X.K sa T F E b)) (hc : PE X ec (TX X.K sa T F E c)) :
    PE X (.Compare ea [o, o'] [eb, ec] pos) (TX X.K sa T F E (.chn op op' a b c)) :=
  (pe_chain (cmp_dw (sa := sa) hu h) (cmp_dw (sa := sa) hu h') ha hb hc (last_mark hp)).imp fun σ H Q h => by
    obtain ⟨G, ρ, S, w, en, h⟩ := h
    rw [ev] at h
    refine ⟨G, ρ, S, w, en, h.step w fun p S1 v G1 H1 _ e1 w1 r1 h1 => ⟨G1, ρ, S1, w1, en.sub e1.g, h1.step w1 fun p2 S2 v2 G2 H2 _ e2 w2 r2 h2 => ?_⟩⟩
    cases e : opC op p.2 p2.2 with
    | none => rw [e] at h2; exact h2.elim
    | some q =>
      rw [e] at h2
      refine ⟨T, G2, S2, _, _, q, w2, Rep.sub e2.g _ _ r1, r2, e, q, rfl, ?_⟩
      cases q with
      | false => rw [if_neg Bool.false_ne_true]; exact post.here (show post T (E σ) (rlV X.K sa) (.ok (false, .bl false) S2) G2 H2 Q from h2) w2 (by rw [Rep])
      | true =>
        rw [if_pos rfl]
        have h2 : post T (E σ) (rlV X.K sa) ((ev F c ρ S2).bind fun z S => (ofO (opC op' p2.2 z.2) S).bind fun b S => .ok (false, .bl b) S) G2 H2 Q := h2
        refine ⟨G2, ρ, S2, w2, en.sub (e1.trans e2).g, h2.step w2 fun p3 S3 v3 G3 H3 _ e3 w3 r3 h3 => ?_⟩
        cases e' : opC op' p2.2 p3.2 with
        | none => rw [e'] at h3; exact h3.elim
        | some q' => rw [e'] at h3; exact ⟨T, G3, S3, _, _, q', w3, Rep.sub e3.g _ _ r2, r3, e', h3.here w3 (by rw [Rep])⟩
/-- a value that is known to be a truth value, as a test -/
theorem tt_of {t : TE} {σ : L2.St} {H : Hp} {Q : Bool → Hp → Prop} {x : Ex} (hx : ∀ Q', TX X.K sa T F E x σ H Q' → t σ H Q') (h : TXb X.K sa T F E x σ H Q) : L2.tTest t σ H Q := tb_of hx h
theorem st_chn {op op' : COp} {o o' : CmpOp} (hu : X.A.units + 64 < cLine) (h : copB op o = true) (h' : copB op' o' = true) (hp : plainE ec = true) (ha : PE X ea (TX X.K sa T F E a)) (hb : PE X eb (TX X.K sa T F E b)) (hc : PE X ec (TX X.K sa T F E c)) :
    PT X (.Compare ea [o, o'] [eb, ec] pos) (TXb X.K sa T F E (.chn op op' a b c)) :=
  (pt_chain (cmp_dw (sa := sa) hu h) (cmp_dw (sa := sa) hu h') ha hb hc (last_mark hp)).imp fun σ H Q h => tt_of (fun Q h => by
    obtain ⟨G, ρ, S, w, en, h⟩ := h
    rw [ev] at h
    refine ⟨G, ρ, S, w, en, h.step w fun p S1 v G1 H1 _ e1 w1 r1 h1 => ⟨G1, ρ, S1, w1, en.sub e1.g, h1.step w1 fun p2 S2 v2 G2 H2 _ e2 w2 r2 h2 => ?_⟩⟩
    cases e : opC op p.2 p2.2 with
    | none => rw [e] at h2; exact h2.elim
    | some q =>
      rw [e] at h2
      refine ⟨T, G2, S2, _, _, q, w2, Rep.sub e2.g _ _ r1, r2, e, q, rfl, ?_⟩
      cases q with
      | false => rw [if_neg Bool.false_ne_true]; exact post.here (show post T (E σ) (rlV X.K sa) (.ok (false, .bl false) S2) G2 H2 Q from h2) w2 (by rw [Rep])
      | true =>
        rw [if_pos rfl]
        have h2 : post T (E σ) (rlV X.K sa) ((ev F c ρ S2).bind fun z S => (ofO (opC op' p2.2 z.2) S).bind fun b S => .ok (false, .bl b) S) G2 H2 Q := h2
        refine ⟨G2, ρ, S2, w2, en.sub (e1.trans e2).g, h2.step w2 fun p3 S3 v3 G3 H3 _ e3 w3 r3 h3 => ?_⟩
        cases e' : opC op' p2.2 p3.2 with
        | none => rw [e'] at h3; exact h3.elim
        | some q' => rw [e'] at h3; exact ⟨T, G3, S3, _, _, q', w3, Rep.sub e3.g _ _ r2, r3, e', h3.here w3 (by rw [Rep])⟩) h
/-! ### lists of expressions -/
def AllE (X : Cx) (sa : SA) (T : List (Addr × Str)) (F : FT) (E : XS) : Exs → List Expr → Prop
  | .nil, [] => True
  | .cons x xs, e :: es => (plainE e = true ∧ PE X e (TX X.K sa T F E x) ∧ PT X e (TXb X.K sa T F E x)) ∧ AllE X sa T F E xs es
  | _, _ => False
theorem pa_of : ∀ {xs : Exs} {es : List Expr}, AllE X sa T F E xs es → PA X es (TXs X.K sa T F E xs)
  | .nil, [], _ => pa_nil.imp fun σ H Q h => by
    obtain ⟨G, ρ, S, w, en, h⟩ := h
    rw [evs] at h
    exact h [] G H Ext.refl w (RepL.nil (K := X.K) (sa := sa) (G := G))
  | .cons x xs, e :: es, h => (pa_cons h.1.2.1 (pa_of h.2) (plain_star h.1.1 es X.env)).imp fun σ H Q h => by
    obtain ⟨G, ρ, S, w, en, h⟩ := h
    rw [evs] at h
    refine ⟨G, ρ, S, w, en, h.step w fun p S1 v G1 H1 _ e1 w1 r1 h1 => ⟨G1, ρ, S1, w1, en.sub e1.g, h1.stepG fun l S2 vs G2 H2 _ e2 w2 r2 h2 => ?_⟩⟩
    exact h2 (v :: vs) G2 H2 Ext.refl w2 (RepL.cons (Rep.sub e2.g _ _ r1) r2)
theorem all_plain (env : PySem.Env) (pos : Pos) : ∀ {xs : Exs} {es : List Expr}, AllE X sa T F E xs es → (backTo pos (starEach es env)).any (·.1) = false
  | .nil, [], _ => rfl
  | .cons x xs, e :: es, h => by
    rw [plain_star h.1.1 es env]
    have := all_plain env pos h.2
    simpa [backTo] using this
theorem AllE.len : ∀ {xs : Exs} {es : List Expr}, AllE X sa T F E xs es → xs.len = es.length
  | .nil, [], _ => rfl
  | .cons x xs, e :: es, h => by rw [Exs.len, List.length_cons, AllE.len h.2]
theorem se_and : ∀ {xs : Exs} {es : List Expr}, AllE X sa T F E xs es → 0 < es.length → PE X (.BoolOp .And es pos) (TX X.K sa T F E (.band xs))
  | .nil, [], _, h => absurd h (by decide)
  | .cons x .nil, [e], h, _ => (pe_one h.1.2.1).imp fun σ H Q h => by
    obtain ⟨G, ρ, S, w, en, h⟩ := h
    rw [ev, evAnd] at h
    exact ⟨G, ρ, S, w, en, h⟩
  | .cons x (.cons y ys), e :: f :: es, h, _ => (pe_and h.1.2.1 (se_and h.2 (Nat.succ_pos _))).imp fun σ H Q h => by
    obtain ⟨G, ρ, S, w, en, h⟩ := h
    rw [ev, evAnd] at h
    · unfold theB at h
      rw [R.bind_assoc] at h
      refine ⟨G, ρ, S, w, en, h.step w fun p S1 v G1 H1 ee e1 w1 r1 h1 => ?_⟩
      clear ee
      obtain ⟨o, d⟩ := p
      cases d <;> first | exact h1.elim | skip
      rename_i k
      obtain rfl : v = .bl k := by simpa only [Rep] using r1
      refine ⟨k, rfl, ?_⟩
      cases k with
      | false => exact iteF (post.here (show post T (E σ) (rlV X.K sa) (.ok (false, .bl false) S1) G1 H1 Q from h1) w1 (by rw [Rep]))
      | true => exact iteT ⟨G1, ρ, S1, w1, en.sub e1.g, by rw [ev]; exact h1⟩
    · intro z; cases z
theorem se_or : ∀ {xs : Exs} {es : List Expr}, AllE X sa T F E xs es → 0 < es.length → PE X (.BoolOp .Or es pos) (TX X.K sa T F E (.bor xs))
  | .nil, [], _, h => absurd h (by decide)
  | .cons x .nil, [e], h, _ => (pe_one h.1.2.1).imp fun σ H Q h => by
    obtain ⟨G, ρ, S, w, en, h⟩ := h
    rw [ev, evOr] at h
    exact ⟨G, ρ, S, w, en, h⟩
  | .cons x (.cons y ys), e :: f :: es, h, _ => (pe_or h.1.2.1 (se_or h.2 (Nat.succ_pos _))).imp fun σ H Q h => by
    obtain ⟨G, ρ, S, w, en, h⟩ := h
    rw [ev, evOr] at h
    · unfold theB at h
      rw [R.bind_assoc] at h
      refine ⟨G, ρ, S, w, en, h.step w fun p S1 v G1 H1 ee e1 w1 r1 h1 => ?_⟩
      clear ee
      obtain ⟨o, d⟩ := p
      cases d <;> first | exact h1.elim | skip
      rename_i k
      obtain rfl : v = .bl k := by simpa only [Rep] using r1
      refine ⟨k, rfl, ?_⟩
      cases k with
      | true => exact iteT (post.here (show post T (E σ) (rlV X.K sa) (.ok (false, .bl true) S1) G1 H1 Q from h1) w1 (by rw [Rep]))
      | false => exact iteF ⟨G1, ρ, S1, w1, en.sub e1.g, by rw [ev]; exact h1⟩
    · intro z; cases z
theorem st_and : ∀ {xs : Exs} {es : List Expr}, AllE X sa T F E xs es → 0 < es.length → PW X (.BoolOp .And es pos) (TXb X.K sa T F E (.band xs))
  | .nil, [], _, h => absurd h (by decide)
  | .cons x .nil, [e], h, _ => (pw_and1 h.1.2.2).imp fun σ H Q h => by
    obtain ⟨G, ρ, S, w, en, h⟩ := h
    rw [ev, evAnd] at h
    exact ⟨G, ρ, S, w, en, h⟩
  | .cons x (.cons y ys), e :: f :: es, h, _ => (pw_and h.1.2.2 (st_and h.2 (Nat.succ_pos _))).imp fun σ H Q h => by
    obtain ⟨G, ρ, S, w, en, h⟩ := h
    rw [ev, evAnd] at h
    · refine ⟨G, ρ, S, w, en, ?_⟩
      have h : post T (E σ) (rlE X.K sa Bool) ((theB (ev F x ρ S)).bind fun b S => theB (if b then evAnd F (.cons y ys) ρ S else .ok (false, .bl false) S)) G H Q := by
        unfold theB at h ⊢
        rw [R.bind_assoc] at h
        exact h
      refine h.stepG fun b S1 b' G1 H1 _ e1 w1 r1 h1 => ?_
      obtain rfl : b' = b := r1
      cases b' with
      | true => exact iteT ⟨G1, ρ, S1, w1, en.sub e1.g, by rw [ev]; exact h1⟩
      | false => exact iteF (h1 false G1 H1 Ext.refl w1 rfl)
    · intro z; cases z
theorem st_or : ∀ {xs : Exs} {es : List Expr}, AllE X sa T F E xs es → 0 < es.length → PW X (.BoolOp .Or es pos) (TXb X.K sa T F E (.bor xs))
  | .nil, [], _, h => absurd h (by decide)
  | .cons x .nil, [e], h, _ => (pw_or1 h.1.2.2).imp fun σ H Q h => by
    obtain ⟨G, ρ, S, w, en, h⟩ := h
    rw [ev, evOr] at h
    exact ⟨G, ρ, S, w, en, h⟩
  | .cons x (.cons y ys), e :: f :: es, h, _ => (pw_or h.1.2.2 (st_or h.2 (Nat.succ_pos _))).imp fun σ H Q h => by
    obtain ⟨G, ρ, S, w, en, h⟩ := h
    rw [ev, evOr] at h
    · refine ⟨G, ρ, S, w, en, ?_⟩
      have h : post T (E σ) (rlE X.K sa Bool) ((theB (ev F x ρ S)).bind fun b S => theB (if b then .ok (false, .bl true) S else evOr F (.cons y ys) ρ S)) G H Q := by
        unfold theB at h ⊢
        rw [R.bind_assoc] at h
        exact h
      refine h.stepG fun b S1 b' G1 H1 _ e1 w1 r1 h1 => ?_
      obtain rfl : b' = b := r1
      cases b' with
      | false => exact iteF ⟨G1, ρ, S1, w1, en.sub e1.g, by rw [ev]; exact h1⟩
      | true => exact iteT (h1 true G1 H1 Ext.refl w1 rfl)
    · intro z; cases z
/-! ### a if c else b -/
theorem se_ite (hc : PT X ec (TXb X.K sa T F E c)) (ha : PE X ea (TX X.K sa T F E a)) (hb : PE X eb (TX X.K sa T F E b)) : PE X (.IfExp ec ea eb pos) (TX X.K sa T F E (.ite c a b)) :=
  (pe_ifExp hc ha hb).imp fun σ H Q h => by
    obtain ⟨G, ρ, S, w, en, h⟩ := h
    rw [ev] at h
    refine ⟨G, ρ, S, w, en, h.stepG fun k S1 k' G1 H1 _ e1 w1 r1 h1 => ?_⟩
    obtain rfl : k' = k := r1
    cases k' with
    | true => exact iteT ⟨G1, ρ, S1, w1, en.sub e1.g, h1⟩
    | false => exact iteF ⟨G1, ρ, S1, w1, en.sub e1.g, h1⟩
theorem pt_ifExp {tc ta tb : TT} (hc : PT X ec tc) (ha : PT X ea ta) (hb : PT X eb tb) : PT X (.IfExp ec ea eb pos) (fun σ H Q => tc σ H fun k H1 => if k = true then ta σ H1 Q else tb σ H1 Q) := by
  refine ⟨fun pins s σ H Q I h => ?_⟩
  rw [PySem.isTrue]
  refine wpAny_bind (thn (hc.run pins s σ H _ I h) fun d s1 ⟨H1, I1, q1⟩ => ?_)
  cases d with
  | true => exact ha.run pins s1 σ H1 Q I1 q1
  | false => exact hb.run pins s1 σ H1 Q I1 q1
theorem st_ite (hc : PT X ec (TXb X.K sa T F E c)) (ha : PT X ea (TXb X.K sa T F E a)) (hb : PT X eb (TXb X.K sa T F E b)) : PT X (.IfExp ec ea eb pos) (TXb X.K sa T F E (.ite c a b)) :=
  (pt_ifExp hc ha hb).imp fun σ H Q h => by
    obtain ⟨G, ρ, S, w, en, h⟩ := h
    rw [ev] at h
    have h : post T (E σ) (rlE X.K sa Bool) ((theB (ev F c ρ S)).bind fun k S => theB (if k then ev F a ρ S else ev F b ρ S)) G H Q := by
      unfold theB at h ⊢
      rw [R.bind_assoc] at h
      exact h
    refine ⟨G, ρ, S, w, en, h.stepG fun k S1 k' G1 H1 _ e1 w1 r1 h1 => ?_⟩
    obtain rfl : k' = k := r1
    cases k' with
    | true => exact iteT ⟨G1, ρ, S1, w1, en.sub e1.g, h1⟩
    | false => exact iteF ⟨G1, ρ, S1, w1, en.sub e1.g, h1⟩
/-! ### subscripts -/
theorem repL_at {K : PySem.W.Frag} {G : Hp} {l : List D} {vs : List V} {i : Int} {d : D} (r : RepL K sa G l vs) (e : opI.atI l i = some d) : ∃ v, L2.atI vs i = some v ∧ Rep K sa G d v := by
  unfold opI.atI at e
  unfold L2.atI
  rw [r.length]
  cases q : ixN l.length i with
  | none => rw [q] at e; cases e
  | some j =>
    rw [q] at e
    exact r.get e
theorem repL_ints {K : PySem.W.Frag} {G : Hp} : ∀ l : List Int, RepL K sa G (l.map D.int) (l.map V.int)
  | [] => RepL.nil
  | x :: l => RepL.cons (by rw [Rep]) (repL_ints l)
theorem ix_dw (hu : X.A.units + 64 < cLine) : IxR X (rIdx X.K sa) := by
  intro value slice pins s σ H x y v u Q I rx ry h hs
  obtain ⟨T, G, S, d1, d2, d, w, r1, r2, e, q⟩ := h
  cases d1 with
  | lst l =>
    cases d2 <;> first | (simp [opX, opI] at e; done) | skip
    rename_i i
    have e : opI.atI l i = some d := e
    simp only [Rep] at r1 r2
    subst r2
    obtain ⟨_, a, vs, rfl, g, rl⟩ := r1
    obtain ⟨z, ez, rz⟩ := repL_at rl e
    exact ix_list value slice pins s σ H _ _ v u Q I rx ry ⟨a, vs, i, z, rfl, rfl, w.seq g, ez, q z rz⟩ hs
  | tup l =>
    cases d2 <;> first | (simp [opX, opI] at e; done) | skip
    rename_i i
    have e : opI.atI l i = some d := e
    simp only [Rep] at r1 r2
    subst r2
    obtain ⟨_, a, vs, rfl, g, rl⟩ := r1
    obtain ⟨z, ez, rz⟩ := repL_at rl e
    exact ix_tup value slice pins s σ H _ _ v u Q I rx ry ⟨a, vs, i, z, rfl, rfl, w.tup g, ez, q z rz⟩ hs
  | dct l =>
    cases d2 <;> first | (simp [opX, opI] at e; done) | skip
    rename_i k
    have e : getK l k = some d := e
    simp only [Rep] at r1 r2
    subst r2
    obtain ⟨_, a, kvs, rfl, g, rl⟩ := r1
    obtain rfl : v = Value.ref a := rx
    have hv := valV_of (k := k) rl
    rw [e] at hv
    obtain ⟨z, ez, rz⟩ := hv
    have dg : DGet H a (.str k) (some z) := .inl ⟨kvs, Sum.inr k, w.rd g, rfl, ez.symm⟩
    exact tail_any (dict_typeIs I dg) PySem.F.slot_dict_getitem.lookup (d_getItem (Nat.lt_of_le_of_lt (Nat.add_le_add_left (by decide) _) hu) I dg ry fun w' s' I' r' => ⟨z, H, I', r', q z rz⟩) hs
  | src =>
    cases d2 <;> first | (simp [opX, opI] at e; done) | skip
    rename_i i
    have e : S.get i = some d := e
    simp only [Rep] at r1 r2
    subst r2
    subst r1
    obtain ⟨vs, h1, h2, h3, h4⟩ := w.srcH
    have go : ∀ z, L2.atI [.ref sa.2, .int S.pos, .int S.rest, .int S.st] i = some z → Rep X.K sa G d z → wpAny (model X.prog X.w) X.A (subscriptTail value slice v u) (EP X pins σ Q) X.xe s := fun z ez rz =>
      ix_list value slice pins s σ H _ _ v u Q I rx ry ⟨sa.1, _, i, z, rfl, rfl, .inl (.inl h1), ez, q z rz⟩ hs
    unfold Src.get at e
    split at e
    · cases e
      refine go (.ref sa.2) rfl ?_
      rw [Rep]
      refine ⟨by rw [List.length_map]; exact h4, sa.2, vs, rfl, h2, ?_⟩
      rw [h3]
      exact repL_ints _
    · cases e; exact go _ rfl (by rw [Rep])
    · cases e; exact go _ rfl (by rw [Rep])
    · cases e; exact go _ rfl (by rw [Rep])
    · cases e
  | _ => cases d2 <;> simp [opX, opI] at e
theorem se_idx (hu : X.A.units + 64 < cLine) (hp : plainE eb = true) (ha : PE X ea (TX X.K sa T F E a)) (hb : PE X eb (TX X.K sa T F E b)) : PE X (.Subscript ea eb pos) (TX X.K sa T F E (.idx a b)) :=
  (pe_ix (ix_dw (sa := sa) hu) ha hb (plain_ix hp)).imp fun σ H Q h => by
    obtain ⟨G, ρ, S, w, en, h⟩ := h
    rw [ev] at h
    refine ⟨G, ρ, S, w, en, h.step w fun p S1 v G1 H1 _ e1 w1 r1 h1 => ⟨G1, ρ, S1, w1, en.sub e1.g, h1.step w1 fun p2 S2 v2 G2 H2 _ e2 w2 r2 h2 => ?_⟩⟩
    cases e : DW.opX S2 p.2 p2.2 with
    | none => rw [e] at h2; exact h2.elim
    | some q => rw [e] at h2; exact ⟨T, G2, S2, _, _, q, w2, Rep.sub e2.g _ _ r1, r2, e, fun v' r' => h2.here w2 r'⟩
/-! ### slices -/
def rSlc (K : PySem.W.Frag) (sa : SA) : V → Option Int → Option Int → Hp → VK → Prop := fun x lo hi H Q => ∃ T E G S d p, Wd K sa T G H S ∧ Rep K sa G d x ∧ opS d lo hi = some p ∧ post T E (rlV K sa) (.ok p S) G H Q
theorem repL_cut {K : PySem.W.Frag} {G : Hp} {l : List D} {vs : List V} (lo hi : Option Int) (r : RepL K sa G l vs) : RepL K sa G (cutD l lo hi) (cutV vs lo hi) := by
  unfold cutD cutV
  rw [r.length]
  exact (r.drop _).take _
theorem sl_dw : SlR X (rSlc X.K sa) := by
  intro pins s σ H x v vl vu lo hi sl Q I rx hs pl pu h
  obtain ⟨T, E, G, S, d, p, w, r, e, q⟩ := h
  cases d <;> first | (simp [opS] at e; done) | skip
  rename_i l
  obtain rfl := Option.some.inj e
  simp only [Rep] at r
  obtain ⟨z, a, vs, rfl, g, rl⟩ := r
  refine sl_list pins s σ H _ v vl vu lo hi sl Q I rx hs pl pu ⟨a, vs, rfl, w.seq g, fun p n => q.new w (u := .lst (cutV vs lo hi)) ⟨?_, repL_cut lo hi rl⟩ n⟩
  have := (repL_cut lo hi rl).length
  have h2 := cutV_length vs lo hi
  rw [← this]
  exact Nat.le_trans h2 (by rw [rl.length]; exact z)
theorem _root_.L2.PO.imp {e : Option Expr} {t t' : TO} (h : PO X e t) (i : ∀ σ H Q, t' σ H Q → t σ H Q) : PO X e t' := ⟨fun pins s σ H Q I w => h.run pins s σ H Q I (i σ H Q w)⟩
theorem so_none : PO X none (TXo X.K sa T F E .nil) := po_none.imp fun σ H Q h => by
  obtain ⟨G, ρ, S, w, en, h⟩ := h
  rw [evo] at h
  exact h none G H Ext.refl w rfl
theorem so_some {xs : Exs} (ha : PE X ea (TX X.K sa T F E a)) : PO X (some ea) (TXo X.K sa T F E (.cons a xs)) := (po_some ha).imp fun σ H Q h => by
  obtain ⟨G, ρ, S, w, en, h⟩ := h
  rw [evo] at h
  refine ⟨G, ρ, S, w, en, h.step w fun p S1 v G1 H1 ee e1 w1 r1 h1 => ?_⟩
  clear ee
  obtain ⟨o, d⟩ := p
  cases d <;> first | exact h1.elim | skip
  rename_i k
  obtain rfl : v = .int k := by simpa only [Rep] using r1
  exact ⟨k, rfl, h1 (some k) G1 H1 Ext.refl w1 rfl⟩
theorem se_slc {lo hi : Exs} {el eh : Option Expr} {p2 : Pos} (ha : PE X ea (TX X.K sa T F E a)) (hl : PO X el (TXo X.K sa T F E lo)) (hh : PO X eh (TXo X.K sa T F E hi)) : PE X (.Subscript ea (.Slice el eh none p2) pos) (TX X.K sa T F E (.slc a lo hi)) :=
  (pe_slice (sl_dw (sa := sa)) ha hl hh).imp fun σ H Q h => by
    obtain ⟨G, ρ, S, w, en, h⟩ := h
    rw [ev] at h
    refine ⟨G, ρ, S, w, en, h.step w fun p S1 v G1 H1 _ e1 w1 r1 h1 => ⟨G1, ρ, S1, w1, en.sub e1.g, h1.stepG fun l S2 l' G2 H2 _ e2 w2 r2 h2 => ⟨G2, ρ, S2, w2, en.sub (e1.trans e2).g, h2.stepG fun k S3 k' G3 H3 _ e3 w3 r3 h3 => ?_⟩⟩⟩
    obtain rfl : l' = l := r2
    obtain rfl : k' = k := r3
    cases e : opS p.2 l' k' with
    | none => rw [e] at h3; exact h3.elim
    | some q => rw [e] at h3; exact ⟨T, E σ, G3, S3, _, q, w3, Rep.sub (e2.trans e3).g _ _ r1, e, h3⟩
/-! ### displays -/
theorem evs_len : ∀ {xs : Exs} {ρ : Rho} {S S1 : Src} {l : List D}, evs F xs ρ S = .ok l S1 → l.length = xs.len
  | .nil, ρ, S, S1, l, h => by rw [evs] at h; cases h; rfl
  | .cons e es, ρ, S, S1, l, h => by
    rw [evs] at h
    cases q : ev F e ρ S with
    | ok p S2 =>
      rw [q] at h
      have h : ((evs F es ρ S2).bind fun l S => R.ok (p.2 :: l) S) = .ok l S1 := h
      cases q2 : evs F es ρ S2 with
      | ok l2 S3 =>
        rw [q2] at h
        cases h
        rw [List.length_cons, evs_len q2, Exs.len]
      | err x S3 => rw [q2] at h; cases h
      | stuck => rw [q2] at h; cases h
    | err x S2 => rw [q] at h; cases h
    | stuck => rw [q] at h; cases h
theorem se_tup {xs : Exs} {es : List Expr} {k : Nat} (h : AllE X sa T F E xs es) (hz : es.length ≤ 1000) : PE X (.Tuple es k pos) (TX X.K sa T F E (.tup xs)) :=
  (pe_tup (pa_of h)).imp fun σ H Q hh => by
    obtain ⟨G, ρ, S, w, en, hh⟩ := hh
    rw [ev] at hh
    refine ⟨G, ρ, S, w, en, hh.stepG fun l S1 vs G1 H1 ee e1 w1 r1 h1 => ?_⟩
    have z : l.length ≤ lim := by
      rw [evs_len ee, h.len]
      exact Nat.le_trans hz (by decide)
    exact ⟨by rw [RepL.length r1]; exact lim_line z, fun p n => h1.newT w1 z r1 n⟩
theorem se_lst {xs : Exs} {es : List Expr} (h : AllE X sa T F E xs es) (hz : es.length ≤ 1000) : PE X (.List es pos) (TX X.K sa T F E (.lst xs)) :=
  (pe_lst (pa_of h)).imp fun σ H Q hh => by
    obtain ⟨G, ρ, S, w, en, hh⟩ := hh
    rw [ev] at hh
    refine ⟨G, ρ, S, w, en, hh.stepG fun l S1 vs G1 H1 ee e1 w1 r1 h1 => ?_⟩
    have z : l.length ≤ lim := by
      rw [evs_len ee, h.len]
      exact Nat.le_trans hz (by decide)
    exact ⟨by rw [RepL.length r1]; exact lim_line z, fun p n => h1.new w1 (u := .lst vs) ⟨z, r1⟩ n⟩
end
end DW

/-! DwEx3: calls of built-in things and of the text's own defs. -/
namespace DW
open PySem PyProof.Rows L2

section
variable {X : Cx} {sa : SA} {T : List (Addr × Str)} {F : FT} {E : XS} {pos p1 : Pos} {a b c : Ex} {ea eb ec : Expr}
/-! ### built-in functions -/
def biV : Bi → Value
  | .len => .builtin "len"
  | .abs => .builtin "abs"
  | .all => .builtin "all"
  | .any => .builtin "any"
  | .sum => .builtin "sum"
  | .list => .type "list"
  | .tuple => .type "tuple"
  | .dict => .type "dict"
  | .int => .type "int"
  | .sorted => .builtin "sorted"
  | .min => .builtin "min"
  | .max => .builtin "max"
def rF (K : PySem.W.Frag) (sa : SA) (f : Bi) : List V → Hp → VK → Prop := fun vs H Q => ∃ T E G S ds p, Wd K sa T G H S ∧ RepL K sa G ds vs ∧ opF f ds = some p ∧ post T E (rlV K sa) (.ok p S) G H Q
theorem bools_of {K : PySem.W.Frag} {G : Hp} : ∀ {l : List D} {vs : List V} {bs : List Bool}, RepL K sa G l vs → bools l = some bs → vs = bs.map V.bl
  | [], vs, bs, r, e => by rw [RepL] at r; subst r; cases e; rfl
  | d :: l, vs, bs, r, e => by
    rw [RepL] at r
    obtain ⟨v, r', rfl, r1, r2⟩ := r
    cases d <;> first | (simp [bools] at e; done) | skip
    rename_i b
    rw [bools] at e
    cases q : bools l with
    | none => rw [q] at e; cases e
    | some cs =>
      rw [q] at e
      obtain rfl := Option.some.inj e
      rw [bools_of r2 q, (show v = .bl b by simpa only [Rep] using r1)]
      rfl
theorem ints_of {K : PySem.W.Frag} {G : Hp} : ∀ {l : List D} {vs : List V} {bs : List Int}, RepL K sa G l vs → intsD l = some bs → vs = bs.map V.int
  | [], vs, bs, r, e => by rw [RepL] at r; subst r; cases e; rfl
  | d :: l, vs, bs, r, e => by
    rw [RepL] at r
    obtain ⟨v, r', rfl, r1, r2⟩ := r
    cases d <;> first | (simp [intsD] at e; done) | skip
    rename_i b
    rw [intsD] at e
    cases q : intsD l with
    | none => rw [q] at e; cases e
    | some cs =>
      rw [q] at e
      obtain rfl := Option.some.inj e
      rw [ints_of r2 q, (show v = .int b by simpa only [Rep] using r1)]
      rfl
theorem repL1' {K : PySem.W.Frag} {G : Hp} {d : D} {vs : List V} (r : RepL K sa G [d] vs) : ∃ v, vs = [v] ∧ Rep K sa G d v := by
  rw [RepL] at r
  obtain ⟨v, r', rfl, r1, r2⟩ := r
  rw [RepL] at r2
  subst r2
  exact ⟨v, rfl, r1⟩
theorem pairs_of {K : PySem.W.Frag} {G H : Hp} {S : Src} (w : Wd K sa T G H S) : ∀ {l : List D} {ws : List V} {ps : List (Str × D)}, RepL K sa G l ws → pairsD l = some ps → ∃ (as : List Addr) (kvs : List (Key × V)), ws = as.map V.ref ∧ Paired (fun p kv => SqT K H p [kV kv.1, kv.2]) as kvs ∧ RepD K sa G ps kvs ∧ ps.length = l.length
  | [], ws, ps, r, e => by
    rw [RepL] at r; subst r
    cases e
    exact ⟨[], [], rfl, .nil, by rw [RepD], rfl⟩
  | d :: l, ws, ps, r, e => by
    rw [RepL] at r
    obtain ⟨v, r', rfl, r1, r2⟩ := r
    unfold pairsD at e
    split at e
    · rename_i heq; cases heq
    · rename_i k d' l' heq
      cases heq
      obtain ⟨qs, eq, rfl⟩ := Option.map_eq_some_iff.mp e
      obtain ⟨as, kvs, rfl, hp, rd, hl⟩ := pairs_of w r2 eq
      rw [Rep] at r1
      obtain ⟨_, a, vs, rfl, g, rl⟩ := r1
      rw [RepL] at rl
      obtain ⟨v1, r1', rfl, rk, rl⟩ := rl
      obtain ⟨v2, rfl, rd'⟩ := repL1' rl
      rw [Rep] at rk
      subst rk
      refine ⟨a :: as, (Sum.inr k, v2) :: kvs, rfl, .cons (w.tup g) hp, ?_, by rw [List.length_cons, List.length_cons, hl]⟩
      rw [RepD]
      exact ⟨v2, kvs, rfl, rd', rd⟩
    · cases e
theorem named_of {K : PySem.W.Frag} {G H : Hp} {S : Src} (w : Wd K sa T G H S) : ∀ {l : List D} {ws : List V} {ns : List (Str × List D)}, RepL K sa G l ws → namedD l = some ns → ∃ ts : List (Addr × Str × List D), ns = ts.map (·.2) ∧ ws = ts.map (fun t => V.ref t.1) ∧ (∀ t ∈ ts, Rep K sa G (nmD t.2) (.ref t.1)) ∧ (∀ t ∈ ts, ∃ r, SqT K H t.1 (.str t.2.1 :: r))
  | [], ws, ns, r, e => by
    rw [RepL] at r; subst r
    cases e
    refine ⟨[], rfl, rfl, fun t (h : t ∈ []) => ?_, fun t (h : t ∈ []) => ?_⟩ <;> cases h
  | d :: l, ws, ns, r, e => by
    rw [RepL] at r
    obtain ⟨v, r', rfl, r1, r2⟩ := r
    unfold namedD at e
    split at e
    · rename_i heq; cases heq
    · rename_i k rr l' heq
      cases heq
      obtain ⟨qs, eq, rfl⟩ := Option.map_eq_some_iff.mp e
      obtain ⟨ts, rfl, rfl, hr, ht⟩ := named_of w r2 eq
      have r1' := r1
      rw [Rep] at r1
      obtain ⟨_, a, vs, rfl, g, rl⟩ := r1
      rw [RepL] at rl
      obtain ⟨v1, r1', rfl, rk, rl⟩ := rl
      rw [Rep] at rk
      subst rk
      refine ⟨(a, k, rr) :: ts, rfl, rfl, fun t hm => ?_, fun t hm => ?_⟩
      · rcases List.mem_cons.mp hm with rfl | hm
        · assumption
        · exact hr t hm
      · rcases List.mem_cons.mp hm with rfl | hm
        · exact ⟨_, w.tup g⟩
        · exact ht t hm
    · cases e
theorem repL_named {K : PySem.W.Frag} {G : Hp} : ∀ {ts : List (Addr × Str × List D)}, (∀ t ∈ ts, Rep K sa G (nmD t.2) (.ref t.1)) → RepL K sa G ((ts.map (·.2)).map nmD) (ts.map fun t => V.ref t.1)
  | [], _ => RepL.nil
  | t :: ts, h => RepL.cons (h t (List.mem_cons_self ..)) (repL_named fun x hx => h x (List.mem_cons_of_mem _ hx))
theorem sortN_uniq {ts ts' : List (Addr × Str × List D)} (nd : (ts.map (·.2.1)).Nodup) (hp : ts'.Perm ts) (hs : ts'.Pairwise (fun x y => ¬ y.2.1.cps.toList < x.2.1.cps.toList)) : sortN (ts.map (·.2)) = ts'.map (·.2) := by
  refine List.Perm.eq_of_pairwise (le := fun (a b : Str × List D) => leS a.1 b.1 = true) (fun a b ha hb h1 h2 => ?_) (List.pairwise_mergeSort (fun a b c => leS_trans a.1 b.1 c.1) (fun a b => leS_total a.1 b.1) _) ?_ ((List.mergeSort_perm _ _).trans (hp.symm.map _))
  · have e := leS_anti h1 h2
    have ha := (List.mergeSort_perm _ _).mem_iff.mp ha
    have hb := (hp.map (·.2)).mem_iff.mp hb
    exact nodup_inj (nm := fun p : Str × List D => p.1) (by rw [List.map_map]; exact nd) a ha b hb e
  · refine List.pairwise_map.mpr (hs.imp fun {x y} h => ?_)
    show (!decide _) = true
    rw [decide_eq_false h]; rfl
theorem bi_dw (hc : X.calm = true) (f : Bi) : CallR X (biV f) (rF X.K sa f) := by
  intro pins s σ H vs us Q I r h
  obtain ⟨T, E, G, S, ds, p, w, rl, e, q⟩ := h
  cases f with
  | len =>
    rcases ds with _ | ⟨d, _ | ⟨d2, ds⟩⟩
    · simp [opF] at e
    · rw [RepL] at rl
      obtain ⟨v, r', rfl, r1, r2⟩ := rl
      rw [RepL] at r2; subst r2
      cases d <;> first | (simp [opF] at e; done) | skip
      · rename_i z
        have e : (if z.length ≤ lim then some (false, D.int z.length) else none) = some p := e
        split at e
        · rename_i hz
          obtain rfl := Option.some.inj e
          obtain rfl : v = .str z := by simpa only [Rep] using r1
          exact call_len pins s σ H _ us Q I r ⟨_, z.length, rfl, ⟨lim_line hz, rfl⟩, q.here w (by rw [Rep])⟩
        · cases e
      · rename_i l
        obtain rfl := Option.some.inj e
        simp only [Rep] at r1
        obtain ⟨_, a, ws, rfl, g, rl⟩ := r1
        exact call_len pins s σ H _ us Q I r ⟨_, ws.length, rfl, .inr ⟨ws, w.tup g, rfl⟩, q.here w (by rw [Rep, rl.length])⟩
      · rename_i l
        obtain rfl := Option.some.inj e
        simp only [Rep] at r1
        obtain ⟨_, a, ws, rfl, g, rl⟩ := r1
        exact call_len pins s σ H _ us Q I r ⟨_, ws.length, rfl, .inl ⟨ws, w.seq g, rfl⟩, q.here w (by rw [Rep, rl.length])⟩
      · rename_i l
        obtain rfl := Option.some.inj e
        simp only [Rep] at r1
        obtain ⟨_, a, ws, rfl, g, rl⟩ := r1
        obtain ⟨u, rfl, ru⟩ := vals1 r
        obtain rfl : u = Value.ref a := ru
        exact d_len I (w.rd g) fun t s' I' => ⟨.int ws.length, H, I', ⟨t, rfl⟩, q.here w (by rw [Rep, rl.length])⟩
    · simp [opF] at e
  | abs =>
    rcases ds with _ | ⟨d, _ | ⟨d2, ds⟩⟩
    · simp [opF] at e
    · rw [RepL] at rl
      obtain ⟨v, r', rfl, r1, r2⟩ := rl
      rw [RepL] at r2; subst r2
      cases d <;> first | (simp [opF] at e; done) | skip
      rename_i i
      obtain rfl := Option.some.inj e
      obtain rfl : v = .int i := by simpa only [Rep] using r1
      exact call_abs pins s σ H _ us Q I r ⟨i, rfl, q.here w (by rw [Rep])⟩
    · simp [opF] at e
  | all =>
    rcases ds with _ | ⟨d, _ | ⟨d2, ds⟩⟩
    · simp [opF] at e
    · rw [RepL] at rl
      obtain ⟨v, r', rfl, r1, r2⟩ := rl
      rw [RepL] at r2; subst r2
      cases d <;> first | (simp [opF] at e; done) | skip
      rename_i l
      have e : (bools l).map (fun bs => (false, D.bl (bs.all id))) = some p := e
      simp only [Rep] at r1
      obtain ⟨_, a, ws, rfl, g, rl⟩ := r1
      obtain ⟨bs, eb, rfl⟩ := Option.map_eq_some_iff.mp e
      have ew := bools_of rl eb
      subst ew
      exact cr_all hc pins s σ H _ us Q I r ⟨a, bs, rfl, w.seq g, q.here w (by rw [Rep])⟩
    · simp [opF] at e
  | any =>
    rcases ds with _ | ⟨d, _ | ⟨d2, ds⟩⟩
    · simp [opF] at e
    · rw [RepL] at rl
      obtain ⟨v, r', rfl, r1, r2⟩ := rl
      rw [RepL] at r2; subst r2
      cases d <;> first | (simp [opF] at e; done) | skip
      rename_i l
      have e : (bools l).map (fun bs => (false, D.bl (bs.any id))) = some p := e
      simp only [Rep] at r1
      obtain ⟨_, a, ws, rfl, g, rl⟩ := r1
      obtain ⟨bs, eb, rfl⟩ := Option.map_eq_some_iff.mp e
      have ew := bools_of rl eb
      subst ew
      exact cr_any hc pins s σ H _ us Q I r ⟨a, bs, rfl, w.seq g, q.here w (by rw [Rep])⟩
    · simp [opF] at e
  | sum =>
    rcases ds with _ | ⟨d, _ | ⟨d2, ds⟩⟩
    · simp [opF] at e
    · rw [RepL] at rl
      obtain ⟨v, r', rfl, r1, r2⟩ := rl
      rw [RepL] at r2; subst r2
      cases d <;> first | (simp [opF] at e; done) | skip
      rename_i l
      have e : (intsD l).map (fun bs => (false, D.int bs.sum)) = some p := e
      simp only [Rep] at r1
      obtain ⟨_, a, ws, rfl, g, rl⟩ := r1
      obtain ⟨bs, eb, rfl⟩ := Option.map_eq_some_iff.mp e
      have ew := ints_of rl eb
      subst ew
      exact cr_sum hc pins s σ H _ us Q I r ⟨a, bs, rfl, w.seq g, q.here w (by rw [Rep])⟩
    · simp [opF] at e
  | list =>
    rcases ds with _ | ⟨d, _ | ⟨d2, ds⟩⟩
    · simp [opF] at e
    · rw [RepL] at rl
      obtain ⟨v, r', rfl, r1, r2⟩ := rl
      rw [RepL] at r2; subst r2
      cases d <;> first | (simp [opF] at e; done) | skip
      · rename_i l
        obtain rfl := Option.some.inj e
        simp only [Rep] at r1
        obtain ⟨hz, a, ws, rfl, g, rl⟩ := r1
        exact call_list_of pins s σ H _ us Q I r ⟨a, ws, rfl, .inr (w.tup g), fun p n => q.new w (u := .lst ws) ⟨hz, rl⟩ n⟩
      · rename_i l
        obtain rfl := Option.some.inj e
        simp only [Rep] at r1
        obtain ⟨z, a, ws, rfl, g, rl⟩ := r1
        exact call_list_of pins s σ H _ us Q I r ⟨a, ws, rfl, .inl (w.seq g), fun p n => q.new w (u := .lst ws) ⟨z, rl⟩ n⟩
    · simp [opF] at e
  | tuple =>
    rcases ds with _ | ⟨d, _ | ⟨d2, ds⟩⟩
    · simp [opF] at e
    · rw [RepL] at rl
      obtain ⟨v, r', rfl, r1, r2⟩ := rl
      rw [RepL] at r2; subst r2
      cases d <;> first | (simp [opF] at e; done) | skip
      rename_i l
      obtain rfl := Option.some.inj e
      simp only [Rep] at r1
      obtain ⟨z, a, ws, rfl, g, rl⟩ := r1
      exact call_tuple_of pins s σ H _ us Q I r ⟨a, ws, rfl, .inl ⟨w.seq g, fun p n => q.newT w z rl n⟩⟩
    · simp [opF] at e
  | dict =>
    rcases ds with _ | ⟨d, _ | ⟨d2, ds⟩⟩
    · simp [opF] at e
    · obtain ⟨v, rfl, r1⟩ := repL1' rl
      cases d <;> first | (simp [opF] at e; done) | skip
      · rename_i l
        have e : (pairsD l).map (fun ps => (true, D.dct (ps.foldl (fun a p => DW.putK a p.1 p.2) []))) = some p := e
        obtain ⟨ps, ep, rfl⟩ := Option.map_eq_some_iff.mp e
        simp only [Rep] at r1
        obtain ⟨hz, a, ws, rfl, g, rl⟩ := r1
        obtain ⟨as, kvs, rfl, hp, rd, hl⟩ := pairs_of w rl ep
        refine call_dictP hc pins s σ H _ us Q I r ⟨a, as, kvs, rfl, w.seq g, hp, fun p n => q.new w (u := .dK (mergeK [] kvs)) ⟨?_, RepD.merge rd (by rw [RepD])⟩ n⟩
        have := merge_len ps []
        rw [List.length_nil, hl] at this
        exact Nat.le_trans this (by omega)
      · rename_i l
        obtain rfl := Option.some.inj e
        simp only [Rep] at r1
        obtain ⟨hz, a, kvs, rfl, g, rl⟩ := r1
        exact call_dictD pins s σ H _ us Q I r ⟨a, kvs, rfl, w.rd g, fun p n => q.new w (u := .dK kvs) ⟨hz, rl⟩ n⟩
    · simp [opF] at e
  | int =>
    rcases ds with _ | ⟨d, _ | ⟨d2, ds⟩⟩
    · simp [opF] at e
    · rw [RepL] at rl
      obtain ⟨v, r', rfl, r1, r2⟩ := rl
      rw [RepL] at r2; subst r2
      cases d <;> first | (simp [opF] at e; done) | skip
      · rename_i i
        obtain rfl := Option.some.inj e
        obtain rfl : v = .bl i := by simpa only [Rep] using r1
        exact call_int1 pins s σ H _ us Q I r (.inr ⟨i, rfl, q.here w (by rw [Rep])⟩)
      · rename_i i
        obtain rfl := Option.some.inj e
        obtain rfl : v = .int i := by simpa only [Rep] using r1
        exact call_int1 pins s σ H _ us Q I r (.inl ⟨i, rfl, q.here w (by rw [Rep])⟩)
    · simp [opF] at e
  | sorted =>
    rcases ds with _ | ⟨d, _ | ⟨d2, ds⟩⟩
    · simp [opF] at e
    · obtain ⟨v, rfl, r1⟩ := repL1' rl
      cases d <;> first | (simp [opF] at e; done) | skip
      · rename_i l
        have e : ((strsD l).bind fun xs => if xs.length < 64 then some (true, D.lst ((sortS xs).map D.str)) else none) = some p := e
        obtain ⟨xs, ex, e⟩ := Option.bind_eq_some_iff.mp e
        split at e
        · rename_i h64
          cases e
          simp only [Rep] at r1
          obtain ⟨hz, a, ws, rfl, g, rl⟩ := r1
          have ew := strs_of rl ex
          subst ew
          refine cr_sortedTu pins s σ H _ us Q I r ⟨a, xs, rfl, w.tup g, h64, fun ys p hp hs n => ?_⟩
          obtain rfl := sortS_uniq hp hs
          refine q.new w (u := .lst ((sortS xs).map V.str)) ⟨?_, repL_strs _⟩ n
          rw [List.length_map, (sortS_perm xs).length_eq]
          unfold lim; omega
        · cases e
      · rename_i l
        have e : opSrt l = some p := e
        unfold opSrt at e
        cases ex : strsD l with
        | some xs =>
          rw [ex] at e
          have e : (if xs.length < 64 then some (true, D.lst ((sortS xs).map D.str)) else none) = some p := e
          split at e
          · rename_i h64
            cases e
            simp only [Rep] at r1
            obtain ⟨hz, a, ws, rfl, g, rl⟩ := r1
            have ew := strs_of rl ex
            subst ew
            refine cr_sortedS pins s σ H _ us Q I r ⟨a, xs, rfl, w.seq g, h64, fun ys p hp hs n => ?_⟩
            obtain rfl := sortS_uniq hp hs
            refine q.new w (u := .lst ((sortS xs).map V.str)) ⟨?_, repL_strs _⟩ n
            rw [List.length_map, (sortS_perm xs).length_eq]
            unfold lim; omega
          · cases e
        | none =>
          rw [ex] at e
          cases en : namedD l with
          | none => rw [en] at e; cases e
          | some ns =>
            rw [en] at e
            have e : (if (ns.map (·.1)).Nodup then some (true, D.lst ((sortN ns).map nmD)) else none) = some p := e
            split at e
            · rename_i nd
              cases e
              simp only [Rep] at r1
              obtain ⟨hz, a, ws, rfl, g, rl⟩ := r1
              obtain ⟨ts, et, ew, hr, ht⟩ := named_of w rl en
              subst et
              subst ew
              refine cr_sortedN pins s σ H _ us Q I r ⟨_, ts, (·.1), (·.2.1), a, rfl, w.seq g, ht, by rw [List.map_map] at nd; exact nd, fun ts' p hp hs n => ?_⟩
              have es := sortN_uniq (nd := by rw [List.map_map] at nd; exact nd) hp hs
              rw [es] at q
              refine q.new w (u := .lst (ts'.map fun t => V.ref t.1)) ⟨?_, repL_named fun t hm => hr t (hp.mem_iff.mp hm)⟩ n
              rw [List.length_map, List.length_map, hp.length_eq]
              have := (RepL.length rl)
              rw [List.length_map] at this
              omega
            · cases e
      · rename_i l
        have e : (if l.length < 64 then some (true, D.lst ((sortS (l.map (·.1))).map D.str)) else none) = some p := e
        split at e
        · rename_i h64
          cases e
          simp only [Rep] at r1
          obtain ⟨hz, a, kvs, rfl, g, rl⟩ := r1
          refine call_sortedD hc pins s σ H _ us Q I r ⟨a, kvs, l.map (·.1), rfl, w.rd g, RepD.keys rl, by rw [List.length_map]; exact h64, fun ys p hp hs n => ?_⟩
          obtain rfl := sortS_uniq hp hs
          refine q.new w (u := .lst ((sortS (l.map (·.1))).map V.str)) ⟨?_, repL_strs _⟩ n
          rw [List.length_map, (sortS_perm _).length_eq, List.length_map]
          unfold lim; omega
        · cases e
    · simp [opF] at e
  | min =>
    rcases ds with _ | ⟨d, _ | ⟨d2, _ | ⟨d3, ds⟩⟩⟩
    · simp [opF] at e
    · obtain ⟨v, rfl, r1⟩ := repL1' rl
      cases d <;> first | (simp [opF] at e; done) | skip
      rename_i l
      have e : ((intsD l).bind fun ns => ns.min?.map fun n => (false, D.int n)) = some p := e
      obtain ⟨ns, en, e⟩ := Option.bind_eq_some_iff.mp e
      obtain ⟨M, eM, rfl⟩ := Option.map_eq_some_iff.mp e
      simp only [Rep] at r1
      obtain ⟨_, a, ws, rfl, g, rl⟩ := r1
      have ew := ints_of rl en
      subst ew
      obtain ⟨hm, hle⟩ := List.min?_eq_some_iff.mp eM
      refine cr_min hc pins s σ H _ us Q I r ⟨a, ns, rfl, w.seq g, List.length_pos_of_mem hm, fun m h1 h2 => ?_⟩
      have : m = M := Int.le_antisymm (h2 M hm) (hle m h1)
      subst this
      exact q.here w (by rw [Rep])
    · rw [RepL] at rl
      obtain ⟨v, r', rfl, r1, r2⟩ := rl
      obtain ⟨v2, rfl, r3⟩ := repL1' r2
      clear r2
      cases d <;> first | (simp [opF] at e; done) | skip
      cases d2 <;> first | (simp [opF] at e; done) | skip
      rename_i i j
      obtain rfl := Option.some.inj e
      obtain rfl : v = .int i := by simpa only [Rep] using r1
      obtain rfl : v2 = .int j := by simpa only [Rep] using r3
      exact call_min2 hc pins s σ H _ us Q I r ⟨i, j, rfl, q.here w (by rw [Rep])⟩
    · simp [opF] at e
  | max =>
    rcases ds with _ | ⟨d, _ | ⟨d2, _ | ⟨d3, ds⟩⟩⟩
    · simp [opF] at e
    · obtain ⟨v, rfl, r1⟩ := repL1' rl
      cases d <;> first | (simp [opF] at e; done) | skip
      rename_i l
      have e : ((intsD l).bind fun ns => ns.max?.map fun n => (false, D.int n)) = some p := e
      obtain ⟨ns, en, e⟩ := Option.bind_eq_some_iff.mp e
      obtain ⟨M, eM, rfl⟩ := Option.map_eq_some_iff.mp e
      simp only [Rep] at r1
      obtain ⟨_, a, ws, rfl, g, rl⟩ := r1
      have ew := ints_of rl en
      subst ew
      obtain ⟨hm, hle⟩ := List.max?_eq_some_iff.mp eM
      refine cr_max hc pins s σ H _ us Q I r ⟨a, ns, rfl, w.seq g, List.length_pos_of_mem hm, fun m h1 h2 => ?_⟩
      have : m = M := Int.le_antisymm (hle m h1) (h2 M hm)
      subst this
      exact q.here w (by rw [Rep])
    · rw [RepL] at rl
      obtain ⟨v, r', rfl, r1, r2⟩ := rl
      obtain ⟨v2, rfl, r3⟩ := repL1' r2
      clear r2
      cases d <;> first | (simp [opF] at e; done) | skip
      cases d2 <;> first | (simp [opF] at e; done) | skip
      rename_i i j
      obtain rfl := Option.some.inj e
      obtain rfl : v = .int i := by simpa only [Rep] using r1
      obtain rfl : v2 = .int j := by simpa only [Rep] using r3
      exact call_max2 hc pins s σ H _ us Q I r ⟨i, j, rfl, q.here w (by rw [Rep])⟩
    · simp [opF] at e
theorem biN_boot (f : Bi) : bootBuiltins (biN f) = some (biV f) := by cases f <;> decide +kernel
theorem biN_ok (f : Bi) : biN f ≠ "__name__" ∧ (biN f == ("__debug__" : Str)) = false := by cases f <;> exact ⟨by decide, by decide⟩
theorem se_bi {f : Bi} {xs : Exs} {es : List Expr} (hc : X.calm = true) (hg : Gl X (biN f)) (hm : X.mg (biN f) = none) (h : AllE X sa T F E xs es) (h0 : 0 < es.length) : PE X (.Call (.Name (biN f) p1) es [] pos) (TX X.K sa T F E (.bi f xs)) := by
  cases es with
  | nil => cases h0
  | cons e es =>
    cases xs with
    | nil => exact h.elim
    | cons x xs =>
      have he := plain_star h.1.1 es X.env
      have hpl : (backTo pos (starEach es X.env)).any (·.1) = false := all_plain X.env pos h.2
      have fin : ∀ {r : List V → Hp → VK → Prop}, r = rF X.K sa f → PE X (.Call (.Name (biN f) p1) (e :: es) [] pos) (tCB r (TXs X.K sa T F E (.cons x xs))) → PE X (.Call (.Name (biN f) p1) (e :: es) [] pos) (TX X.K sa T F E (.bi f (.cons x xs))) := fun er pe => by
        subst er
        refine pe.imp fun σ H Q hh => ?_
        obtain ⟨G, ρ, S, w, en, hh⟩ := hh
        rw [ev] at hh
        refine ⟨G, ρ, S, w, en, hh.stepG fun l S1 vs G1 H1 _ e1 w1 r1 h1 => ?_⟩
        cases e : opF f l with
        | none => rw [e] at h1; exact h1.elim
        | some q => rw [e] at h1; exact ⟨T, E σ, G1, S1, l, q, w1, r1, e, h1⟩
      have bb := biN_boot f
      have dw := bi_dw (X := X) (sa := sa) hc f
      cases q : biV f with
      | builtin id => rw [q] at bb dw; exact fin rfl (pe_callB dw hg hm bb (pa_of h) (biN_ok f).1 (biN_ok f).2 he hpl)
      | type id => rw [q] at bb dw; exact fin rfl (pe_callTy dw hg hm bb (pa_of h) (biN_ok f).1 (biN_ok f).2 he hpl)
      | _ => cases f <;> cases q
/-! ### isinstance -/
def kn : D → String
  | .non => "NoneType"
  | .bl _ => "bool"
  | .int _ => "int"
  | .str _ => "str"
  | .tup _ => "tuple"
  | .lst _ => "list"
  | .dct _ => "dict"
  | .src => "list"
def tyS : Ty → String
  | .list => "list"
  | .tuple => "tuple"
  | .bool => "bool"
  | .int => "int"
  | .dict => "dict"
  | .str => "str"
theorem ty_of {G H : Hp} {S : Src} {d : D} {v : V} (w : Wd X.K sa T G H S) (r : Rep X.K sa G d v) : TyX X.K H v (.type (kn d)) := by
  cases d with
  | non => rw [Rep] at r; subst r; exact .base .non
  | bl b => rw [Rep] at r; subst r; exact .base (.bl b)
  | int b => rw [Rep] at r; subst r; exact .base (.int b)
  | str b => rw [Rep] at r; subst r; exact .base (.str b)
  | tup l =>
    rw [Rep] at r
    obtain ⟨_, a, vs, rfl, q, _⟩ := r
    rcases w.tup q with (q | ⟨o, q⟩) | ⟨o, its, n, h1, h2, h3⟩
    · exact .base (.tup q)
    · exact .fTuple q
    · exact .kTuple h1 h2
  | lst l =>
    rw [Rep] at r
    obtain ⟨_, a, vs, rfl, q, _⟩ := r
    exact .base (.lst (w.lst q))
  | dct l =>
    rw [Rep] at r
    obtain ⟨_, a, vs, rfl, q, _⟩ := r
    rcases w.rd q with h | ⟨o, h⟩
    · exact .base (.dK h)
    · exact .fDict h
  | src =>
    rw [Rep] at r; subst r
    obtain ⟨vs, h, _⟩ := w.srcH
    exact .base (.lst h)
theorem kt_at (t : Ty) : kitB "NoneType" (tyS t) = some (tyIs .non t) ∧ kitB "bool" (tyS t) = some (tyIs (.bl true) t) ∧ kitB "int" (tyS t) = some (tyIs (.int 0) t) ∧ kitB "str" (tyS t) = some (tyIs (.str ⟨#[]⟩) t) ∧
    kitB "tuple" (tyS t) = some (tyIs (.tup []) t) ∧ kitB "list" (tyS t) = some (tyIs (.lst []) t) ∧ kitB "dict" (tyS t) = some (tyIs (.dct []) t) := by
  cases t <;> exact ⟨by decide +kernel, by decide +kernel, by decide +kernel, by decide +kernel, by decide +kernel, by decide +kernel, by decide +kernel⟩
theorem kit_ok (d : D) (t : Ty) (h : d.isSrc = false) : kitB (kn d) (tyS t) = some (tyIs d t) := by
  obtain ⟨h1, h2, h3, h4, h5, h6, h7⟩ := kt_at t
  cases d with
  | non => exact h1
  | bl b => cases t <;> exact h2
  | int b => cases t <;> exact h3
  | str b => cases t <;> exact h4
  | tup b => cases t <;> exact h5
  | lst b => cases t <;> exact h6
  | dct b => cases t <;> exact h7
  | src => cases h
theorem kits_ok (K : PySem.W.Frag) (d : D) (h : d.isSrc = false) : ∀ ts : List Ty, PySem.W.kitAny K (.type (kn d)) (ts.map fun t => .type (tyS t)) = some (ts.any (tyIs d))
  | [] => rfl
  | t :: ts => kitAny_cons (kit_ty (kit_ok d t h)) (fun hb => by rw [kits_ok K d h ts, List.any_cons, hb, Bool.false_or]) fun hb => by rw [List.any_cons, hb, Bool.true_or]
theorem ty_boot (t : Ty) : bootBuiltins (tyN t) = some (.type (tyS t)) := by cases t <;> decide +kernel
theorem ty_ok (t : Ty) : tyN t ≠ "__name__" ∧ (tyN t == ("__debug__" : Str)) = false := by cases t <;> exact ⟨by decide, by decide⟩
theorem pe_ty {t : Ty} (hg : Gl X (tyN t)) (hm : X.mg (tyN t) = none) : PE X (.Name (tyN t) pos) (tC (.ty (tyS t))) := pe_bltn hg hm (ty_boot t) rfl (ty_ok t).1 (ty_ok t).2
/-- names of types, as arguments -/
def tTys : List Ty → TA
  | [] => tNil
  | t :: ts => tCons (tC (.ty (tyS t))) (tTys ts)
theorem tTys_run {σ : L2.St} {H : Hp} {Q : List V → Hp → Prop} : ∀ {ts : List Ty}, Q (ts.map fun t => V.ty (tyS t)) H → tTys ts σ H Q
  | [], h => h
  | t :: ts, h => tTys_run (ts := ts) (Q := fun xs H => Q (.ty (tyS t) :: xs) H) h
theorem tys_pa {Γ : Cn} (hsc : ∀ x, fbB Γ x = true → Gl X x ∧ X.mg x = none) : ∀ {ts : List Ty} {es : List Expr}, tysB Γ ts es = true → PA X es (tTys ts)
  | [], [], _ => pa_nil
  | [], _ :: _, h => by simp [tysB] at h
  | _ :: _, [], h => by simp [tysB] at h
  | t :: ts, e :: es, h => by
    cases e <;> first | (simp [tysB] at h; done) | skip
    rename_i x px
    have h : (decide (x = tyN t) && (fbB Γ x && tysB Γ ts es)) = true := h
    rw [Bool.and_eq_true, Bool.and_eq_true] at h
    obtain ⟨h1, h2, h3⟩ := h
    obtain rfl := of_decide_eq_true h1
    obtain ⟨g, m⟩ := hsc _ h2
    exact pa_cons (pe_ty g m) (tys_pa hsc h3)
theorem tys_cls : ∀ ts : List Ty, Paired ClsV (ts.map fun t => V.ty (tyS t)) (ts.map fun t => Value.type (tyS t))
  | [] => .nil
  | t :: ts => .cons (.ty _) (tys_cls ts)
theorem tys_len {Γ : Cn} : ∀ {ts : List Ty} {es : List Expr}, tysB Γ ts es = true → ts.length = es.length
  | [], [], _ => rfl
  | [], _ :: _, h => by simp [tysB] at h
  | _ :: _, [], h => by simp [tysB] at h
  | t :: ts, e :: es, h => by
    cases e <;> first | (simp [tysB] at h; done) | skip
    rename_i x px
    have h : (decide (x = tyN t) && (fbB Γ x && tysB Γ ts es)) = true := h
    rw [Bool.and_eq_true, Bool.and_eq_true] at h
    rw [List.length_cons, List.length_cons, tys_len h.2.2]
theorem isi_boot : bootBuiltins ("isinstance" : Str) = some (.builtin "isinstance") := by decide +kernel
theorem se_isi {Γ : Cn} {ts : List Ty} {one : Bool} (hsc : ∀ x, fbB Γ x = true → Gl X x ∧ X.mg x = none) (hg : Gl X "isinstance") (hm : X.mg "isinstance" = none) (hp : plainE ea = true) (ha : PE X ea (TX X.K sa T F E a)) (ht : isiB Γ ts one eb = true) :
    PE X (.Call (.Name "isinstance" p1) [ea, eb] [] pos) (TX X.K sa T F E (.isi a ts one)) := by
  have core : ∀ {t : TE} {r : List V → Hp → VK → Prop}, CallR X (.builtin "isinstance") r → PE X eb t → plainE eb = true →
      (∀ {σ : L2.St} {G H : Hp} {S : Src} {d : D} {v : V} {Q : VK}, Wd X.K sa T G H S → Rep X.K sa G d v → d.isSrc = false → post T (E σ) (rlV X.K sa) (.ok (false, .bl (ts.any (tyIs d))) S) G H Q → t σ H fun y H2 => r [v, y] H2 Q) →
      PE X (.Call (.Name "isinstance" p1) [ea, eb] [] pos) (TX X.K sa T F E (.isi a ts one)) := fun {t r} hr hb hpb hk => by
    refine (pe_callB hr hg hm isi_boot (pa_cons ha (pa_cons hb pa_nil (plain_star hpb [] X.env)) (plain_star hp [eb] X.env)) (by decide) (by decide) (plain_star hp [eb] X.env) (by rw [plain_star hpb [] X.env]; rfl)).imp fun σ H Q h => ?_
    obtain ⟨G, ρ, S, w, en, h⟩ := h
    rw [ev] at h
    refine ⟨G, ρ, S, w, en, h.step w fun p S1 v G1 H1 _ e1 w1 r1 h1 => ?_⟩
    cases hs : p.2.isSrc with
    | true => rw [hs] at h1; exact h1.elim
    | false =>
      rw [hs] at h1
      exact hk w1 r1 hs h1
  cases one with
  | true =>
    cases eb <;> first | (simp [isiB] at ht; done) | skip
    rename_i x px
    rcases ts with _ | ⟨t, _ | ⟨t2, ts⟩⟩
    · simp [isiB] at ht
    · have ht : (decide (x = tyN t) && fbB Γ x) = true := ht
      rw [Bool.and_eq_true] at ht
      obtain rfl := of_decide_eq_true ht.1
      obtain ⟨g, m⟩ := hsc _ ht.2
      refine core call_isi (pe_ty g m) rfl fun {σ G H S d v Q} w r hs h => ?_
      refine ⟨v, .ty (tyS t), .type (kn d), .type (tyS t), tyIs d t, rfl, .ty _, ty_of w r, kit_ty (kit_ok d t hs), h.here w ?_⟩
      rw [Rep, List.any_cons, List.any_nil, Bool.or_false]
    · simp [isiB] at ht
  | false =>
    cases eb <;> first | (simp [isiB] at ht; done) | skip
    rename_i es k px
    have ht : (tysB Γ ts es && decide (es.length ≤ 10)) = true := ht
    rw [Bool.and_eq_true] at ht
    have hl := of_decide_eq_true ht.2
    refine core call_isiT (pe_tup (tys_pa hsc ht.1)) rfl fun {σ G H S d v Q} w r hs h => ?_
    refine tTys_run ⟨?_, fun p n => ?_⟩
    · rw [List.length_map, tys_len ht.1]
      exact lim_line (Nat.le_trans hl (by decide))
    · have w2 := w.newH (u := .tup (ts.map fun t => V.ty (tyS t))) n
      refine ⟨v, p, _, .type (kn d), ts.map fun t => .type (tyS t), ts.any (tyIs d), rfl, upd_same, tys_cls ts, ty_of w2 r, kits_ok X.K d hs ts, ?_⟩
      exact post.here (h.ext (Ext.newH n)) w2 (by rw [Rep])
end
end DW

/-! DwEx4: calls of the text's own defs; what a loop or a comprehension walks; list comprehensions. -/
namespace DW
open PySem PyProof.Rows L2

/-- a def's promise by its value -/
def spF (K : PySem.W.Frag) (sa : SA) (T : List (Addr × Str)) (F : FT) (f : Str) (n : Nat) : Sp := fun vs H Q E => vs.length = n ∧ ∃ G S ds, Wd K sa T G H S ∧ RepL K sa G ds vs ∧ post T E (rlV K sa) (F.call f ds S) G H Q
/-- a def that may be called so -/
def FnFact (sa : SA) (T : List (Addr × Str)) (F : FT) (k : Nat) (X : Cx) (sh : Shape) : Prop :=
  ∃ (a : Addr) (fd : FuncData) (ps : List Str) (g : List Value → List Value → List Value), X.mg sh.f = some (.ref a) ∧ PySem.W.keepIn X.K (.ref a) = true ∧
    FnOk X.prog X.w X.K X.mg X.base (L2.CX X.prog X.w) k a fd ps (spF X.K sa T F sh.f ps.length) ∧ KBn X.K fd ps sh.np sh.ks g (fun vs zs => permV sh.perm (vs ++ zs)) ∧ sh.perm.length = ps.length
section
variable {X : Cx} {sa : SA} {T : List (Addr × Str)} {F : FT} {E : XS} {pos p1 : Pos} {a b c : Ex} {ea eb ec : Expr} {k : Nat}
theorem permV_len : ∀ (perm : List (Nat ⊕ Lit)) (vs : List V), (permV perm vs).length = perm.length
  | [], _ => rfl
  | .inl _ :: ps, vs => by rw [permV, List.length_cons, List.length_cons, permV_len ps vs]
  | .inr _ :: ps, vs => by rw [permV, List.length_cons, List.length_cons, permV_len ps vs]
theorem perm_rep {K : PySem.W.Frag} {G : Hp} {ds : List D} {vs : List V} (r : RepL K sa G ds vs) : ∀ {perm : List (Nat ⊕ Lit)} {as : List D}, permD perm ds = some as → RepL K sa G as (permV perm vs)
  | [], as, e => by cases e; exact RepL.nil
  | .inl i :: ps, as, e => by
    rw [permD] at e
    cases q : ds[i]? with
    | none => rw [q] at e; cases e
    | some d =>
      rw [q] at e
      obtain ⟨l, el, rfl⟩ := Option.map_eq_some_iff.mp e
      obtain ⟨v, ev, rv⟩ := r.get q
      rw [permV]
      refine RepL.cons ?_ (perm_rep r el)
      rw [List.getD_eq_getElem?_getD, ev]
      exact rv
  | .inr l :: ps, as, e => by
    rw [permD] at e
    obtain ⟨m, el, rfl⟩ := Option.map_eq_some_iff.mp e
    rw [permV]
    exact RepL.cons (l.rep K sa G) (perm_rep r el)
def AllK (X : Cx) (sa : SA) (T : List (Addr × Str)) (F : FT) (E : XS) : Exs → List Keyword → Prop
  | .nil, [] => True
  | .cons x xs, ⟨_, e, _⟩ :: es => PE X e (TX X.K sa T F E x) ∧ AllK X sa T F E xs es
  | _, _ => False
theorem _root_.L2.PK.imp {e : List Keyword} {t t' : TA} (h : PK X e t) (i : ∀ σ H Q, t' σ H Q → t σ H Q) : PK X e t' := ⟨fun pos pins s σ H Q I w => h.run pos pins s σ H Q I (i σ H Q w)⟩
theorem pk_of : ∀ {xs : Exs} {es : List Keyword}, AllK X sa T F E xs es → PK X es (TXs X.K sa T F E xs)
  | .nil, [], _ => pk_nil.imp fun σ H Q h => by
    obtain ⟨G, ρ, S, w, en, h⟩ := h
    rw [evs] at h
    exact h [] G H Ext.refl w (RepL.nil (K := X.K) (sa := sa) (G := G))
  | .cons x xs, ⟨n, e, p⟩ :: es, h => (pk_cons h.1 (pk_of h.2)).imp fun σ H Q h => by
    obtain ⟨G, ρ, S, w, en, h⟩ := h
    rw [evs] at h
    refine ⟨G, ρ, S, w, en, h.step w fun p S1 v G1 H1 _ e1 w1 r1 h1 => ⟨G1, ρ, S1, w1, en.sub e1.g, h1.stepG fun l S2 vs G2 H2 _ e2 w2 r2 h2 => ?_⟩⟩
    exact h2 (v :: vs) G2 H2 Ext.refl w2 (RepL.cons (Rep.sub e2.g _ _ r1) r2)
theorem AllK.len : ∀ {xs : Exs} {es : List Keyword}, AllK X sa T F E xs es → xs.len = es.length
  | .nil, [], _ => rfl
  | .cons x xs, ⟨n, e, p⟩ :: es, h => by rw [Exs.len, List.length_cons, AllK.len h.2]
theorem kw_facts (env : PySem.Env) (pos : Pos) : ∀ {kws : List Keyword} {ks : List Str}, kwN kws = ks.map some → (backToKw pos (keywordEach kws env)).all (·.1.isSome) = true ∧ (backToKw pos (keywordEach kws env)).filterMap (·.1) = ks ∧ (backToKw pos (keywordEach kws env)).any (·.1.isNone) = false ∧ kws.length = ks.length
  | [], [], _ => ⟨rfl, rfl, rfl, rfl⟩
  | [], _ :: _, h => by simp [kwN] at h
  | ⟨n, e, p⟩ :: kws, [], h => by simp [kwN] at h
  | ⟨n, e, p⟩ :: kws, x :: ks, h => by
    have h : n :: kwN kws = some x :: ks.map some := h
    injection h with h1 h2
    subst h1
    obtain ⟨g1, g2, g3, g4⟩ := kw_facts env pos h2
    refine ⟨?_, ?_, ?_, by rw [List.length_cons, List.length_cons, g4]⟩
    · show (true && (backToKw pos (keywordEach kws env)).all (·.1.isSome)) = true
      rw [g1]; rfl
    · show x :: (backToKw pos (keywordEach kws env)).filterMap (·.1) = x :: ks
      rw [g2]
    · show (false || (backToKw pos (keywordEach kws env)).any (·.1.isNone)) = false
      rw [g3]; rfl
/-- what a callee lets out is taken, at the slots it meets -/
def PassAt (X : Cx) (E : XS) : Prop := ∀ (σ : L2.St) (pp : List (Addr × Obj)) (H : Hp) (s : Shared) (e : Value) (s' : Shared), Inv X pp σ H s → L2.CX X.prog X.w X.stack H s (E σ) e s' → X.xe e s'
theorem run_fnE {pp : List (Addr × Obj)} {σ : L2.St} {H : Hp} {s : Shared} {Q : VK} {us ws : List Value} {vs zs : List V} {fa : Addr} {fd : FuncData} {ps ks : List Str} {sp : Sp} {n : Nat} {gU : List Value → List Value → List Value} {gV : List V → List V → List V}
    (F1 : FnOk X.prog X.w X.K X.mg X.base (L2.CX X.prog X.w) k fa fd ps sp) (hr : Room k X.A) (hb : KBn X.K fd ps n ks gU gV) (hx : PassAt X E) (J : Inv X pp σ H s) (r : Vals vs us) (rz : Vals zs ws) (l1 : vs.length = n) (l2 : zs.length = ks.length) (h : sp (gV vs zs) H Q (E σ)) :
    wpAny (model X.prog X.w) X.A (call (.ref fa) us (ks.zip ws)) (EP X pp σ Q) X.xe s := by
  have go := F1.run X.A X.stack s H ⟨us, ks.zip ws⟩ (gU us ws) (gV vs zs) Q (E σ) hr J.env0 (hb.to s us ws J.kIn (r.length.symm.trans l1) (rz.length.symm.trans l2)) (hb.rel r rz) h
  refine wpAny_call (codeAny_mono go fun out s' hq => ?_)
  cases out with
  | error er => exact hx σ pp H s er s' J hq
  | ok fl => cases fl <;> first | exact J.after hq | exact False.elim hq
theorem se_call {sh : Shape} {xs kx : Exs} {es : List Expr} {kws : List Keyword} (ff : FnFact sa T F k X sh) (hr : Room k X.A) (hx : PassAt X E) (hg : Gl X sh.f) (hdb : (sh.f == ("__debug__" : Str)) = false)
    (h : AllE X sa T F E xs es) (hk : AllK X sa T F E kx kws) (hn : es.length = sh.np) (hks : kwN kws = sh.ks.map some) : PE X (.Call (.Name sh.f p1) es kws pos) (TX X.K sa T F E (.call sh.f xs kx sh.ks sh.perm)) := by
  obtain ⟨fa, fd, ps, g, hm, hkp, FO, KB, hpl⟩ := ff
  obtain ⟨k1, k2, k3, k4⟩ := kw_facts X.env pos hks
  have fin : ∀ (σ : L2.St) (H : Hp) (Q : VK), TX X.K sa T F E (.call sh.f xs kx sh.ks sh.perm) σ H Q → TXs X.K sa T F E xs σ H fun vs H1 => TXs X.K sa T F E kx σ H1 fun zs H2 => vs.length = sh.np ∧ zs.length = sh.ks.length ∧ spF X.K sa T F sh.f ps.length (permV sh.perm (vs ++ zs)) H2 Q (E σ) := fun σ H Q hh => by
    obtain ⟨G, ρ, S, w, en, hh⟩ := hh
    rw [ev] at hh
    refine ⟨G, ρ, S, w, en, hh.stepG fun l S1 vs G1 H1 ee1 e1 w1 r1 h1 => ⟨G1, ρ, S1, w1, en.sub e1.g, h1.stepG fun z S2 zs G2 H2 ee2 e2 w2 r2 h2 => ?_⟩⟩
    have r1' : RepL X.K sa G2 l vs := RepL.sub e2.g _ _ r1
    have r2' : RepL X.K sa G2 z zs := r2
    refine ⟨by rw [r1'.length, evs_len ee1, h.len, hn], by rw [r2'.length, evs_len ee2, hk.len, k4], by rw [permV_len, hpl], ?_⟩
    cases e : permD sh.perm (l ++ z) with
    | none => rw [e] at h2; exact h2.elim
    | some as => rw [e] at h2; exact ⟨G2, S2, as, w2, perm_rep (r1'.append r2') e, h2⟩
  refine ⟨fun pp s σ H Q J hh => wpAny_Call_Name_kw (ld_glob J hg hm ?_ hdb)⟩
  have hh := fin σ H Q hh
  cases es with
  | cons e es =>
    cases xs with
    | nil => exact h.elim
    | cons x xs =>
      refine PySem.W.callWith_KW (h₀ := X.base) J.ok.mod.kin hkp k1 (thn ((pa_of h).run pos pp s σ H _ J hh) fun us s1 ⟨vs, H1, J1, r, q⟩ => ?_) (by rw [all_plain X.env pos h, k3]; rfl) (plain_star h.1.1 es X.env)
      refine thn ((pk_of hk).run pos pp s1 σ H1 _ J1 q) fun ws s2 ⟨zs, H2, J2, rz, l1, l2, q2⟩ => ⟨J2.kIn, ?_⟩
      rw [k2]
      exact run_fnE FO hr KB hx J2 r rz l1 l2 q2
  | nil =>
    cases xs with
    | cons x xs => exact h.elim
    | nil =>
      obtain ⟨G, ρ, S, w, en, hh⟩ := hh
      rw [evs] at hh
      have hh := hh [] G H Ext.refl w (RepL.nil (K := X.K) (sa := sa) (G := G))
      refine PySem.W.callWith_KW0 (h₀ := X.base) J.ok.mod.kin hkp k1 ?_ (by rw [k3]; rfl)
      refine thn ((pk_of hk).run pos pp s σ H _ J hh) fun ws s2 ⟨zs, H2, J2, rz, l1, l2, q2⟩ => ⟨J2.kIn, ?_⟩
      rw [k2]
      exact run_fnE FO hr KB hx J2 .nil rz l1 l2 q2
/-! ### what is walked -/
/-- J yields ds, whatever is laid meanwhile -/
def IsW (K : PySem.W.Frag) (sa : SA) (T : List (Addr × Str)) (J : It) (ds : List D) (G : Hp) : Prop := ∀ (i : Nat) (G1 H1 : Hp) (S1 : Src), Sub G G1 → Wd K sa T G1 H1 S1 →
  (∀ d, ds[i]? = some d → J.go i H1 ∧ ∀ x H2, J.yld i H1 x H2 → ∃ G2, Ext sa G1 H1 G2 H2 ∧ Wd K sa T G2 H2 S1 ∧ Rep K sa G2 d x) ∧ (ds.length ≤ i → J.stop i H1)
def postI (K : PySem.W.Frag) (sa : SA) (T : List (Addr × Str)) (E : XK) (r : R (List D)) (G H : Hp) (Rk : It → Hp → Prop) : Prop := match r with
  | .ok ds S => ∀ J G' H', ds.length ≤ lim → Ext sa G H G' H' → Wd K sa T G' H' S → IsW K sa T J ds G' → Rk J H'
  | .err x S => ∀ cls dd G' H', Ext sa G H G' H' → Wd K sa T G' H' S → ExcAt K sa x cls dd G' H' → E cls dd H'
  | .stuck => False
def TXi (K : PySem.W.Frag) (sa : SA) (T : List (Addr × Str)) (F : FT) (E : XS) (it : Itx) : TI := fun σ H Rk => ∃ G ρ S, Wd K sa T G H S ∧ EnvOk K sa G σ ρ ∧ postI K sa T (E σ) (evi F it ρ S) G H Rk
theorem _root_.L2.PI.imp {tg iter : Expr} {t t' : TI} (h : PI X tg iter t) (i : ∀ σ H Rk, t' σ H Rk → t σ H Rk) : PI X tg iter t' := ⟨fun pins s σ H Rk I w => h.run pins s σ H Rk I (i σ H Rk w)⟩
theorem _root_.L2.PI.or {tg iter : Expr} {t t' : TI} (h : PI X tg iter t) (h' : PI X tg iter t') : PI X tg iter (fun σ H Rk => t σ H Rk ∨ t' σ H Rk) := ⟨fun pins s σ H Rk I w => w.elim (h.run pins s σ H Rk I) (h'.run pins s σ H Rk I)⟩
theorem postI.ext {E : XK} {r : R (List D)} {G H G1 H1 : Hp} {Rk : It → Hp → Prop} (h : postI X.K sa T E r G H Rk) (e : Ext sa G H G1 H1) : postI X.K sa T E r G1 H1 Rk := by
  cases r with
  | ok ds S => exact fun J G' H' z e' w i => h J G' H' z (e.trans e') w i
  | err x S => exact fun cls dd G' H' e' w r => h cls dd G' H' (e.trans e') w r
  | stuck => exact h
theorem postI.step {E : XK} {r : R (Bool × D)} {f : Bool × D → Src → R (List D)} {G H : Hp} {S : Src} {Rk : It → Hp → Prop} {Φ : V → Hp → Prop} (w : Wd X.K sa T G H S) (h : postI X.K sa T E (r.bind f) G H Rk)
    (k : ∀ p S1 v G1 H1, r = .ok p S1 → Ext sa G H G1 H1 → Wd X.K sa T G1 H1 S1 → Rep X.K sa G1 p.2 v → postI X.K sa T E (f p S1) G1 H1 Rk → Φ v H1) : post T E (rlV X.K sa) r G H Φ := by
  cases r with
  | ok p S1 =>
    intro v G' H' e w' ro
    obtain ⟨G2, _, e2, w2, rep⟩ := frozen w e w' ro
    exact k p S1 v G2 H' rfl e2 w2 rep (postI.ext h e2)
  | err x S1 => exact h
  | stuck => exact h
theorem isW_list {K : PySem.W.Frag} {G : Hp} {l : List D} {vs : List V} {p : Addr} (g : G p = some (.lst vs)) (r : RepL K sa G l vs) : IsW K sa T (Itl K p) l G := by
  intro i G1 H1 S1 s w
  have q : SqL K H1 p vs := w.seq (s _ _ g)
  refine ⟨fun d e => ?_, fun z => ⟨vs, q, by rw [r.length]; exact z⟩⟩
  obtain ⟨v, ev, rv⟩ := r.get e
  refine ⟨⟨vs, v, q, ev⟩, fun x H2 y => ?_⟩
  obtain ⟨eH, y⟩ := y
  subst eH
  have : x = v := Option.some.inj ((y vs q).symm.trans ev)
  subst this
  exact ⟨G1, Ext.refl, w, Rep.sub s _ _ rv⟩
theorem isW_tup {K : PySem.W.Frag} {G : Hp} {l : List D} {vs : List V} {p : Addr} (g : SqT K G p vs) (r : RepL K sa G l vs) : IsW K sa T (Itt K p) l G := by
  intro i G1 H1 S1 s w
  have q : SqT K H1 p vs := w.tup (SqT.sub s g)
  refine ⟨fun d e => ?_, fun z => ⟨vs, q, by rw [r.length]; exact z⟩⟩
  obtain ⟨v, ev, rv⟩ := r.get e
  refine ⟨⟨vs, v, q, ev⟩, fun x H2 y => ?_⟩
  obtain ⟨eH, y⟩ := y
  subst eH
  have : x = v := Option.some.inj ((y vs q).symm.trans ev)
  subst this
  exact ⟨G1, Ext.refl, w, Rep.sub s _ _ rv⟩
theorem si_ex {tg : Expr} (ha : PE X ea (TX X.K sa T F E a)) : PI X tg ea (TXi X.K sa T F E (.ex a)) :=
  ((pi_list ha).or (pi_tup ha)).imp fun σ H Rk h => by
    obtain ⟨G, ρ, S, w, en, h⟩ := h
    rw [evi] at h
    cases q : ev F a ρ S with
    | stuck => rw [q] at h; exact h.elim
    | err x S1 =>
      rw [q] at h
      exact .inl ⟨G, ρ, S, w, en, by rw [q]; exact h⟩
    | ok p S1 =>
      obtain ⟨o, d⟩ := p
      cases d with
      | lst l =>
        refine .inl ⟨G, ρ, S, w, en, postI.step w h fun p S2 v G1 H1 ee e1 w1 r1 h1 => ?_⟩
        rw [q] at ee
        cases ee
        rw [Rep] at r1
        obtain ⟨z, ad, vs, rfl, g, rl⟩ := r1
        exact ⟨ad, rfl, ⟨vs, w1.seq g⟩, h1 _ G1 H1 z Ext.refl w1 (isW_list g rl)⟩
      | tup l =>
        refine .inr ⟨G, ρ, S, w, en, postI.step w h fun p S2 v G1 H1 ee e1 w1 r1 h1 => ?_⟩
        rw [q] at ee
        cases ee
        rw [Rep] at r1
        obtain ⟨z, ad, vs, rfl, g, rl⟩ := r1
        exact ⟨ad, rfl, ⟨vs, w1.tup g⟩, h1 _ G1 H1 z Ext.refl w1 (isW_tup g rl)⟩
      | _ => rw [q] at h; exact h.elim
theorem rngD_len : ∀ (n : Nat) (lo : Int), (rngD lo n).length = n
  | 0, _ => rfl
  | n + 1, lo => by rw [rngD, List.length_cons, rngD_len n]
theorem rngD_get : ∀ (n : Nat) (lo : Int) (i : Nat), i < n → (rngD lo n)[i]? = some (.int (lo + i))
  | 0, _, _, h => by omega
  | n + 1, lo, 0, _ => by simp [rngD]
  | n + 1, lo, i + 1, h => by
    rw [rngD, List.getElem?_cons_succ, rngD_get n (lo + 1) i (by omega)]
    congr 2
    push_cast
    omega
theorem isW_rng {K : PySem.W.Frag} {G : Hp} {lo : Int} {n : Nat} : IsW K sa T (Itr lo n) (rngD lo n) G := by
  intro i G1 H1 S1 s w
  refine ⟨fun d e => ?_, fun z => by rw [rngD_len] at z; exact z⟩
  have hi : i < n := by
    have := (List.getElem?_eq_some_iff.mp e).1
    rw [rngD_len] at this; exact this
  rw [rngD_get n lo i hi] at e
  obtain rfl := Option.some.inj e
  refine ⟨hi, fun x H2 y => ?_⟩
  obtain ⟨eH, y⟩ := y
  subst eH y
  exact ⟨G1, Ext.refl, w, by rw [Rep]⟩
theorem postI.stepG {E : XK} {α β : Type} {rl' : Rl X.K sa α β} {r : R α} {f : α → Src → R (List D)} {G H : Hp} {Rk : It → Hp → Prop} {Φ : β → Hp → Prop} (h : postI X.K sa T E (r.bind f) G H Rk)
    (k : ∀ p S1 v G1 H1, r = .ok p S1 → Ext sa G H G1 H1 → Wd X.K sa T G1 H1 S1 → rl'.rel p G1 H H1 v → postI X.K sa T E (f p S1) G1 H1 Rk → Φ v H1) : post T E rl' r G H Φ := by
  cases r with
  | ok p S1 => exact fun v G' H' e w' ro => k p S1 v G' H' rfl e w' ro (postI.ext h e)
  | err x S1 => exact h
  | stuck => exact h
theorem inR_of {n : Int} (h : inR n = true) : -400000 ≤ n ∧ n ≤ 400000 := by
  unfold inR at h
  rw [Bool.and_eq_true] at h
  exact ⟨of_decide_eq_true h.1, of_decide_eq_true h.2⟩
theorem si_rng {tg : Expr} {xs : Exs} {es : List Expr} (hg : Gl X "range") (hm : X.mg "range" = none) (h : AllE X sa T F E xs es) (h0 : 0 < es.length) (h3 : es.length < 3) : PI X tg (.Call (.Name "range" p1) es [] pos) (TXi X.K sa T F E (.rng xs)) := by
  have pa := pa_of h
  rcases es with _ | ⟨e1, _ | ⟨e2, _ | ⟨e3, es⟩⟩⟩
  · cases h0
  · rcases xs with _ | ⟨x1, _ | ⟨x2, xs⟩⟩ <;> first | exact h.elim | exact h.2.elim | skip
    refine (pi_range1 hg hm pa (plain_star h.1.1 [] X.env)).imp fun σ H Rk hh => ?_
    obtain ⟨G, ρ, S, w, en, hh⟩ := hh
    rw [evi] at hh
    refine ⟨G, ρ, S, w, en, postI.stepG hh fun l S1 vs G1 H1 ee e1 w1 r1 h1 => ?_⟩
    have rl0 : RepL X.K sa G1 l vs := r1
    clear r1
    have hl := evs_len ee
    rcases l with _ | ⟨d, _ | ⟨d2, l⟩⟩ <;> first | (simp [Exs.len] at hl; done) | skip
    rw [RepL] at rl0
    obtain ⟨v, r', rfl, r1, r2⟩ := rl0
    rw [RepL] at r2; subst r2
    cases d <;> first | exact h1.elim | skip
    obtain ⟨n, rfl⟩ : ∃ n, v = .int n := ⟨_, by simpa only [Rep] using r1⟩
    simp only [Rep, V.int.injEq] at r1
    subst r1
    have h1 : postI X.K sa T (E σ) (ofO (if inR n then some (rngD 0 n.toNat) else none) S1) G1 H1 Rk := h1
    cases hz : inR n with
    | false => rw [hz] at h1; exact h1.elim
    | true =>
      rw [hz] at h1
      obtain ⟨z1, z2⟩ := inR_of hz
      exact ⟨n, rfl, by omega, by omega, h1 _ G1 H1 (by rw [rngD_len]; show n.toNat ≤ 1000000; omega) Ext.refl w1 isW_rng⟩
  · rcases xs with _ | ⟨x1, _ | ⟨x2, _ | ⟨x3, xs⟩⟩⟩ <;> first | exact h.elim | exact h.2.elim | exact h.2.2.elim | skip
    refine (pi_range2 hg hm pa (by rw [plain_star h.1.1 [e2] X.env, plain_star h.2.1.1 [] X.env]; rfl) (plain_star h.2.1.1 [] X.env)).imp fun σ H Rk hh => ?_
    obtain ⟨G, ρ, S, w, en, hh⟩ := hh
    rw [evi] at hh
    refine ⟨G, ρ, S, w, en, postI.stepG hh fun l S1 vs G1 H1 ee e1 w1 r1 h1 => ?_⟩
    have rl0 : RepL X.K sa G1 l vs := r1
    clear r1
    have hl := evs_len ee
    rcases l with _ | ⟨d, _ | ⟨d2, _ | ⟨d3, l⟩⟩⟩ <;> first | (simp [Exs.len] at hl; done) | skip
    rw [RepL] at rl0
    obtain ⟨v, r', rfl, r1, r2⟩ := rl0
    rw [RepL] at r2
    obtain ⟨v2, r', rfl, r2, r3⟩ := r2
    rw [RepL] at r3; subst r3
    cases d <;> first | exact h1.elim | skip
    cases d2 <;> first | exact h1.elim | skip
    obtain ⟨n, rfl⟩ : ∃ n, v = .int n := ⟨_, by simpa only [Rep] using r1⟩
    obtain ⟨m, rfl⟩ : ∃ n, v2 = .int n := ⟨_, by simpa only [Rep] using r2⟩
    simp only [Rep, V.int.injEq] at r1 r2
    subst r1 r2
    have h1 : postI X.K sa T (E σ) (ofO (if inR n && inR m then some (rngD n (m - n).toNat) else none) S1) G1 H1 Rk := h1
    cases hz : inR n with
    | false => rw [hz] at h1; exact h1.elim
    | true =>
      cases hz2 : inR m with
      | false => rw [hz, hz2] at h1; exact h1.elim
      | true =>
        rw [hz, hz2] at h1
        obtain ⟨z1, z2⟩ := inR_of hz
        obtain ⟨y1, y2⟩ := inR_of hz2
        exact ⟨n, m, rfl, ⟨by omega, by omega, by omega, by omega⟩, h1 _ G1 H1 (by rw [rngD_len]; show (m - n).toNat ≤ 1000000; omega) Ext.refl w1 isW_rng⟩
  · rw [List.length_cons, List.length_cons, List.length_cons] at h3
    omega
/-! ### enumerate, zip -/
theorem enumD_len : ∀ (l : List D) (i : Int), (enumD i l).length = l.length
  | [], _ => rfl
  | d :: l, i => by rw [enumD, List.length_cons, List.length_cons, enumD_len l]
theorem enumD_get : ∀ (l : List D) (j : Int) (i : Nat), (enumD j l)[i]? = (l[i]?).map fun d => .tup [.int (j + i), d]
  | [], _, _ => rfl
  | d :: l, j, 0 => by simp [enumD]
  | d :: l, j, i + 1 => by
    rw [enumD, List.getElem?_cons_succ, List.getElem?_cons_succ, enumD_get l (j + 1) i]
    congr 1
    funext d
    congr 3
    push_cast
    omega
/-- a pair that a walk has just laid -/
theorem pair_new {K : PySem.W.Frag} {G H : Hp} {S : Src} {d1 d2 : D} {v1 v2 : V} {t : Addr} (w : Wd K sa T G H S) (r1 : Rep K sa G d1 v1) (r2 : Rep K sa G d2 v2) (n : H t = none) :
    ∃ G2, Ext sa G H G2 (upd H t (.tup [v1, v2])) ∧ Wd K sa T G2 (upd H t (.tup [v1, v2])) S ∧ Rep K sa G2 (.tup [d1, d2]) (.ref t) := by
  refine ⟨upd G t (.tup [v1, v2]), Ext.new w n, w.new n trivial, ?_⟩
  rw [Rep]
  exact ⟨by show 2 ≤ 1000000; omega, t, _, rfl, .inl (.inl upd_same), RepL.cons (Rep.sub (Sub.upd (w.gn n)) _ _ r1) (RepL.cons (Rep.sub (Sub.upd (w.gn n)) _ _ r2) RepL.nil)⟩
theorem isW_enum {K : PySem.W.Frag} {G : Hp} {l : List D} {vs : List V} {p : Addr} (g : G p = some (.lst vs)) (r : RepL K sa G l vs) : IsW K sa T (Ite K p) (enumD 0 l) G := by
  intro i G1 H1 S1 s w
  have q : SqL K H1 p vs := w.seq (s _ _ g)
  refine ⟨fun d e => ?_, fun z => ⟨vs, q, by rw [r.length]; rw [enumD_len] at z; exact z⟩⟩
  rw [enumD_get] at e
  obtain ⟨d0, e0, rfl⟩ := Option.map_eq_some_iff.mp e
  obtain ⟨v, ev, rv⟩ := r.get e0
  refine ⟨⟨vs, v, q, ev⟩, fun x H2 y => ?_⟩
  obtain ⟨t, x', rfl, n, rfl, y⟩ := y
  have : x' = v := Option.some.inj ((y vs q).symm.trans ev)
  subst this
  have z : (0 : Int) + (i : Int) = (i : Int) := by omega
  rw [z]
  exact pair_new w (by rw [Rep]) (Rep.sub s _ _ rv) n
theorem si_enum {es : List Expr} {kk : Nat} {tp : Pos} (hg : Gl X "enumerate") (hm : X.mg "enumerate" = none) (hp : plainE ea = true) (ha : PE X ea (TX X.K sa T F E a)) : PI X (.Tuple es kk tp) (.Call (.Name "enumerate" p1) [ea] [] pos) (TXi X.K sa T F E (.enum a)) :=
  (pi_enum hg hm (pa_cons ha pa_nil (plain_star hp [] X.env)) (plain_star hp [] X.env)).imp fun σ H Rk h => by
    obtain ⟨G, ρ, S, w, en, h⟩ := h
    rw [evi] at h
    refine ⟨G, ρ, S, w, en, postI.step w h fun p S2 v G1 H1 ee e1 w1 r1 h1 => ?_⟩
    clear ee
    obtain ⟨o, d⟩ := p
    cases d <;> first | exact h1.elim | skip
    rename_i l
    rw [Rep] at r1
    obtain ⟨z, ad, vs, rfl, g, rl⟩ := r1
    have h1 : postI X.K sa T (E σ) (.ok (enumD 0 l) S2) G1 H1 Rk := h1
    exact ⟨ad, vs, rfl, w1.seq g, h1 _ G1 H1 (by rw [enumD_len]; exact z) Ext.refl w1 (isW_enum g rl)⟩
theorem isW_rev {K : PySem.W.Frag} {G : Hp} {l : List D} {vs : List V} {p : Addr} (g : G p = some (.lst vs)) (r : RepL K sa G l vs) : IsW K sa T (Itv K p vs.length) l.reverse G := by
  intro i G1 H1 S1 s w
  have q : SqL K H1 p vs := w.seq (s _ _ g)
  have hl := r.length
  refine ⟨fun d e => ?_, fun z => by rw [List.length_reverse] at z; show vs.length ≤ i; omega⟩
  have hi : i < l.length := by
    have := (List.getElem?_eq_some_iff.mp e).1
    rw [List.length_reverse] at this; exact this
  rw [List.getElem?_reverse hi, ← hl] at e
  obtain ⟨v, ev, rv⟩ := r.get e
  refine ⟨⟨by omega, vs, v, q, ev⟩, fun x H2 y => ?_⟩
  obtain ⟨eH, y⟩ := y
  subst eH
  have : x = v := Option.some.inj ((y vs q).symm.trans ev)
  subst this
  exact ⟨G1, Ext.refl, w, Rep.sub s _ _ rv⟩
theorem si_rev {tg : Expr} (hg : Gl X "reversed") (hm : X.mg "reversed" = none) (hp : plainE ea = true) (ha : PE X ea (TX X.K sa T F E a)) : PI X tg (.Call (.Name "reversed" p1) [ea] [] pos) (TXi X.K sa T F E (.rev a)) :=
  (pi_reversed hg hm (pa_cons ha pa_nil (plain_star hp [] X.env)) (plain_star hp [] X.env)).imp fun σ H Rk h => by
    obtain ⟨G, ρ, S, w, en, h⟩ := h
    rw [evi] at h
    refine ⟨G, ρ, S, w, en, postI.step w h fun p S2 v G1 H1 ee e1 w1 r1 h1 => ?_⟩
    clear ee
    obtain ⟨o, d⟩ := p
    cases d <;> first | exact h1.elim | skip
    rename_i l
    rw [Rep] at r1
    obtain ⟨z, ad, vs, rfl, g, rl⟩ := r1
    have h1 : postI X.K sa T (E σ) (.ok l.reverse S2) G1 H1 Rk := h1
    exact ⟨ad, vs, rfl, w1.seq g, h1 _ G1 H1 (by rw [List.length_reverse]; exact z) Ext.refl w1 (isW_rev g rl)⟩
theorem zipD_get : ∀ (l m : List D) (i : Nat), (zipD l m)[i]? = match l[i]?, m[i]? with
    | some x, some y => some (.tup [x, y])
    | _, _ => none
  | [], m, i => by simp [zipD]
  | x :: l, [], i => by cases i <;> simp [zipD]
  | x :: l, y :: m, 0 => by simp [zipD]
  | x :: l, y :: m, i + 1 => by rw [zipD, List.getElem?_cons_succ, List.getElem?_cons_succ, List.getElem?_cons_succ, zipD_get l m i]
theorem zipD_len : ∀ (l m : List D), (zipD l m).length = min l.length m.length
  | [], m => by simp [zipD]
  | x :: l, [] => by simp [zipD]
  | x :: l, y :: m => by rw [zipD, List.length_cons, List.length_cons, List.length_cons, zipD_len l m]; omega
theorem isW_zipL {K : PySem.W.Frag} {G : Hp} {l m : List D} {vs ws : List V} {p q : Addr} (g : G p = some (.lst vs)) (g2 : G q = some (.lst ws)) (r : RepL K sa G l vs) (r2 : RepL K sa G m ws) : IsW K sa T (Itz K p q) (zipD l m) G := by
  intro i G1 H1 S1 s w
  have q1 : SqL K H1 p vs := w.seq (s _ _ g)
  have q2 : SqL K H1 q ws := w.seq (s _ _ g2)
  refine ⟨fun d e => ?_, fun z => ⟨vs, ws, q1, q2, by rw [r.length, r2.length]; rw [zipD_len] at z; omega⟩⟩
  rw [zipD_get] at e
  cases e1 : l[i]? with
  | none => rw [e1] at e; cases e
  | some x =>
    cases e2 : m[i]? with
    | none => rw [e1, e2] at e; cases e
    | some y =>
      rw [e1, e2] at e
      obtain rfl := Option.some.inj e
      obtain ⟨v, ev, rv⟩ := r.get e1
      obtain ⟨v2, ev2, rv2⟩ := r2.get e2
      refine ⟨⟨vs, ws, v, v2, q1, q2, ev, ev2⟩, fun x H2 y => ?_⟩
      obtain ⟨t, x', y', rfl, n, rfl, y, y2⟩ := y
      have : x' = v := Option.some.inj ((y vs q1).symm.trans ev)
      subst this
      have : y' = v2 := Option.some.inj ((y2 ws q2).symm.trans ev2)
      subst this
      exact pair_new w (Rep.sub s _ _ rv) (Rep.sub s _ _ rv2) n
theorem isW_zipT {K : PySem.W.Frag} {G : Hp} {l m : List D} {vs ws : List V} {p q : Addr} (g : SqT K G p vs) (g2 : SqT K G q ws) (r : RepL K sa G l vs) (r2 : RepL K sa G m ws) : IsW K sa T (RZ.ItzT K p q) (zipD l m) G := by
  intro i G1 H1 S1 s w
  have q1 : SqT K H1 p vs := w.tup (SqT.sub s g)
  have q2 : SqT K H1 q ws := w.tup (SqT.sub s g2)
  refine ⟨fun d e => ?_, fun z => ⟨vs, ws, q1, q2, by rw [r.length, r2.length]; rw [zipD_len] at z; omega⟩⟩
  rw [zipD_get] at e
  cases e1 : l[i]? with
  | none => rw [e1] at e; cases e
  | some x =>
    cases e2 : m[i]? with
    | none => rw [e1, e2] at e; cases e
    | some y =>
      rw [e1, e2] at e
      obtain rfl := Option.some.inj e
      obtain ⟨v, ev, rv⟩ := r.get e1
      obtain ⟨v2, ev2, rv2⟩ := r2.get e2
      refine ⟨⟨vs, ws, v, v2, q1, q2, ev, ev2⟩, fun x H2 y => ?_⟩
      obtain ⟨t, x', y', rfl, n, rfl, y, y2⟩ := y
      have : x' = v := Option.some.inj ((y vs q1).symm.trans ev)
      subst this
      have : y' = v2 := Option.some.inj ((y2 ws q2).symm.trans ev2)
      subst this
      exact pair_new w (Rep.sub s _ _ rv) (Rep.sub s _ _ rv2) n
theorem si_zip {es : List Expr} {kk : Nat} {tp : Pos} (hg : Gl X "zip") (hm : X.mg "zip" = none) (hp : plainE ea = true) (hp2 : plainE eb = true) (ha : PE X ea (TX X.K sa T F E a)) (hb : PE X eb (TX X.K sa T F E b)) :
    PI X (.Tuple es kk tp) (.Call (.Name "zip" p1) [ea, eb] [] pos) (TXi X.K sa T F E (.zip a b)) :=
  (RZ.pi_zipA hg hm (pa_cons ha (pa_cons hb pa_nil (plain_star hp2 [] X.env)) (plain_star hp [eb] X.env)) (plain_star hp [eb] X.env) (by rw [plain_star hp2 [] X.env]; rfl)).imp fun σ H Rk h => by
    obtain ⟨G, ρ, S, w, en, h⟩ := h
    rw [evi] at h
    refine ⟨G, ρ, S, w, en, postI.step w h fun p S2 v G1 H1 ee e1 w1 r1 h1 => ⟨G1, ρ, S2, w1, en.sub e1.g, postI.step w1 h1 fun p3 S3 v3 G3 H3 ee3 e3 w3 r3 h3 => ?_⟩⟩
    clear ee ee3
    obtain ⟨o, d⟩ := p
    obtain ⟨o3, d3⟩ := p3
    cases d <;> cases d3 <;> first | exact h3.elim | skip
    · rename_i l m
      simp only [Rep] at r1 r3
      obtain ⟨z, ad, vs, rfl, g, rl⟩ := r1
      obtain ⟨z3, ad3, vs3, rfl, g3, rl3⟩ := r3
      have h3 : postI X.K sa T (E σ) (.ok (zipD l m) S3) G3 H3 Rk := h3
      exact ⟨ad, ad3, vs, vs3, rfl, .inr ⟨w3.tup (SqT.sub e3.g g), w3.tup g3, h3 _ G3 H3 (by rw [zipD_len]; exact Nat.le_trans (Nat.min_le_left _ _) z) Ext.refl w3 (isW_zipT (SqT.sub e3.g g) g3 (RepL.sub e3.g _ _ rl) rl3)⟩⟩
    · rename_i l m
      simp only [Rep] at r1 r3
      obtain ⟨z, ad, vs, rfl, g, rl⟩ := r1
      obtain ⟨z3, ad3, vs3, rfl, g3, rl3⟩ := r3
      have h3 : postI X.K sa T (E σ) (.ok (zipD l m) S3) G3 H3 Rk := h3
      exact ⟨ad, ad3, vs, vs3, rfl, .inl ⟨w3.seq (e3.g _ _ g), w3.seq g3, h3 _ G3 H3 (by rw [zipD_len]; exact Nat.le_trans (Nat.min_le_left _ _) z) Ext.refl w3 (isW_zipL (e3.g _ _ g) g3 (RepL.sub e3.g _ _ rl) rl3)⟩⟩
end
end DW

/-! DwWalk: what a comprehension walks; a dict is locked meanwhile. -/
namespace DW
open PySem PyProof.Rows L2
/-- J yields ds, as long as what was locked stays locked -/
def IsWk (K : PySem.W.Frag) (sa : SA) (T : List (Addr × Str)) (J : It) (ds : List D) (G H0 : Hp) : Prop := ∀ (i : Nat) (G1 H1 : Hp) (S1 : Src), Sub G G1 → (∀ b o u, b ≠ sa.1 → H0 b = some (.frz o u) → H1 b = some (.frz o u)) → Wd K sa T G1 H1 S1 →
  (∀ d, ds[i]? = some d → J.go i H1 ∧ ∀ x H2, J.yld i H1 x H2 → ∃ G2, Ext sa G1 H1 G2 H2 ∧ Wd K sa T G2 H2 S1 ∧ Rep K sa G2 d x) ∧ (ds.length ≤ i → J.stop i H1)
def postIk (K : PySem.W.Frag) (sa : SA) (T : List (Addr × Str)) (E : XK) (r : R (List D)) (G H : Hp) (Rk : It → Hp → Prop) : Prop := match r with
  | .ok ds S => ∀ J G' H', ds.length ≤ lim → Ext sa G H G' H' → Wd K sa T G' H' S → IsWk K sa T J ds G' H → Rk J H'
  | .err x S => ∀ cls dd G' H', Ext sa G H G' H' → Wd K sa T G' H' S → ExcAt K sa x cls dd G' H' → E cls dd H'
  | .stuck => False
def LkI (it : Itx) (ρ : Rho) (σ : L2.St) (H : Hp) : Prop := match it with
  | .walk i => ∀ l a kvs, ρ[i]? = some (some (.dct l)) → σ[i]? = some (some (.ref a)) → H a ≠ some (.dK kvs)
  | _ => True
def TXik (K : PySem.W.Frag) (sa : SA) (T : List (Addr × Str)) (F : FT) (E : XS) (it : Itx) : TI := fun σ H Rk => ∃ G ρ S, Wd K sa T G H S ∧ EnvOk K sa G σ ρ ∧ LkI it ρ σ H ∧ postIk K sa T (E σ) (evi F it ρ S) G H Rk
section
variable {X : Cx} {sa : SA} {T : List (Addr × Str)} {F : FT} {E : XS} {pos p1 : Pos}
theorem IsW.k {K : PySem.W.Frag} {J : It} {ds : List D} {G H0 : Hp} (h : IsW K sa T J ds G) : IsWk K sa T J ds G H0 := fun i G1 H1 S1 s _ w => h i G1 H1 S1 s w
theorem TXik.i {K : PySem.W.Frag} {it : Itx} {σ : L2.St} {H : Hp} {Rk : It → Hp → Prop} (h : TXik K sa T F E it σ H Rk) : TXi K sa T F E it σ H Rk := by
  obtain ⟨G, ρ, S, w, en, _, h⟩ := h
  refine ⟨G, ρ, S, w, en, ?_⟩
  cases q : evi F it ρ S with
  | stuck => rw [q] at h; exact h
  | err x S1 => rw [q] at h; exact h
  | ok ds S1 => rw [q] at h; exact fun J G' H' z e w' iw => h J G' H' z e w' iw.k
theorem si_k {tg e : Expr} {it : Itx} (h : PI X tg e (TXi X.K sa T F E it)) : PI X tg e (TXik X.K sa T F E it) := h.imp fun _ _ _ h => h.i
theorem isW_str {K : PySem.W.Frag} {G : Hp} {s : Str} : IsW K sa T (Its s) (s.cps.toList.map fun c => .str ⟨#[c]⟩) G := by
  intro i G1 H1 S1 sb w
  refine ⟨fun d e => ?_, fun z => by rw [List.length_map, Array.length_toList] at z; exact z⟩
  rw [List.getElem?_map, Array.getElem?_toList] at e
  cases q : s.cps[i]? with
  | none => rw [q] at e; cases e
  | some c =>
    rw [q] at e
    obtain rfl := Option.some.inj e
    refine ⟨(Array.getElem?_eq_some_iff.mp q).1, fun x H2 y => ?_⟩
    obtain ⟨eH, c', ec, ex⟩ := y
    subst eH
    rw [q] at ec
    obtain rfl := Option.some.inj ec
    exact ⟨G1, Ext.refl, w, by rw [Rep]; exact ex⟩
theorem RepD.getK {K : PySem.W.Frag} {G : Hp} : ∀ {l : List (Str × D)} {kvs : List (Key × V)} {i : Nat} {k : Key} {v : V}, RepD K sa G l kvs → kvs[i]? = some (k, v) → ∃ x d, l[i]? = some (x, d) ∧ k = .inr x
  | [], kvs, i, k, v, h, e => by rw [RepD] at h; subst h; simp at e
  | (x, d) :: l, kvs, 0, k, v, h, e => by
    rw [RepD] at h
    obtain ⟨u, r, rfl, _, _⟩ := h
    simp at e
    exact ⟨x, d, rfl, e.1.symm⟩
  | (x, d) :: l, kvs, i + 1, k, v, h, e => by
    rw [RepD] at h
    obtain ⟨u, r, rfl, _, t⟩ := h
    rw [List.getElem?_cons_succ] at e
    obtain ⟨y, d', e1, e2⟩ := RepD.getK t e
    exact ⟨y, d', by rw [List.getElem?_cons_succ]; exact e1, e2⟩
theorem isWk_keys {K : PySem.W.Frag} {G H0 : Hp} {l : List (Str × D)} {kvs : List (Key × V)} {a : Addr} {o : Obj} (ne : a ≠ sa.1) (h : H0 a = some (.frz o (.dK kvs))) (r : RepD K sa G l kvs) : IsWk K sa T (Itk a o kvs) (l.map fun p => .str p.1) G H0 := by
  intro i G1 H1 S1 sb lk w
  have h1 := lk a o _ ne h
  refine ⟨fun d e => ?_, fun z => ⟨h1, by rw [r.length]; rw [List.length_map] at z; exact z⟩⟩
  have hi : i < l.length := by
    have := (List.getElem?_eq_some_iff.mp e).1
    rw [List.length_map] at this; exact this
  refine ⟨⟨h1, by rw [r.length]; exact hi⟩, fun x H2 y => ?_⟩
  obtain ⟨eH, k, v, ek, ex⟩ := y
  subst eH
  obtain ⟨y, d', e1, e2⟩ := r.getK ek
  rw [List.getElem?_map, e1] at e
  obtain rfl := Option.some.inj e
  refine ⟨G1, Ext.refl, w, ?_⟩
  rw [ex, e2]
  show Rep K sa G1 (.str y) (kV (.inr y))
  rw [Rep]
  rfl
theorem si_walk {tg : Expr} {i : Nat} {x : Str} (hN : X.N[i]? = some x) (hv : Vis X.env.scope x) (hd : (x == ("__debug__" : Str)) = false) (hcd : (x == ("__classdict__" : Str)) = false) : PI X tg (.Name x pos) (TXik X.K sa T F E (.walk i)) :=
  (((pi_list (pe_var hN hv hd hcd)).or (pi_tup (pe_var hN hv hd hcd))).or ((pi_str (pe_var hN hv hd hcd)).or (pi_keys (pe_var hN hv hd hcd)))).imp fun σ H Rk h => by
    obtain ⟨G, ρ, S, w, en, lk, h⟩ := h
    rw [evi] at h
    rcases q : ρ[i]? with _ | _ | d
    · rw [q] at h; exact h.elim
    · rw [q] at h; exact h.elim
    · rw [q] at h
      have h : postIk X.K sa T (E σ) (ofO (itemsW d) S) G H Rk := h
      obtain ⟨v, ev, r⟩ := en.get i d q
      cases d with
      | lst l =>
        rw [Rep] at r
        obtain ⟨z, ad, vs, rfl, g, rl⟩ := r
        exact .inl (.inl ⟨_, ev, ad, rfl, ⟨vs, w.seq g⟩, h _ G H z Ext.refl w (isW_list g rl).k⟩)
      | tup l =>
        rw [Rep] at r
        obtain ⟨z, ad, vs, rfl, g, rl⟩ := r
        exact .inl (.inr ⟨_, ev, ad, rfl, ⟨vs, w.tup g⟩, h _ G H z Ext.refl w (isW_tup g rl).k⟩)
      | str s =>
        rw [Rep] at r
        subst r
        rw [itemsW] at h
        by_cases hs : s.cps.size ≤ lim
        · rw [if_pos hs] at h
          exact .inr (.inl ⟨_, ev, s, rfl, h _ G H (by rw [List.length_map, Array.length_toList]; exact hs) Ext.refl w isW_str.k⟩)
        · rw [if_neg hs] at h; exact h.elim
      | dct l =>
        rw [Rep] at r
        obtain ⟨z, ad, kvs, rfl, g, rl⟩ := r
        have lk : ∀ l a kvs, ρ[i]? = some (some (.dct l)) → σ[i]? = some (some (.ref a)) → H a ≠ some (.dK kvs) := lk
        rcases (w.sub ad _ g).2 with hh | ⟨o, kv2, e2, hh⟩
        · exact absurd hh (lk l ad _ q ev)
        · have ne : ad ≠ sa.1 := fun e => by rw [e, w.srcG] at g; cases g
          exact .inr (.inr ⟨_, ev, ad, o, rfl, .inl ⟨kvs, hh, h _ G H (by rw [List.length_map]; exact z) Ext.refl w (isWk_keys ne hh rl)⟩⟩)
      | _ => exact h.elim
/-! ### locked, unlocked -/
theorem Wd.lock {K : PySem.W.Frag} {G H : Hp} {S : Src} {d : Addr} {kvs : List (Key × V)} {od : Obj} (w : Wd K sa T G H S) (g : G d = some (.dK kvs)) (h : H d = some (.dK kvs)) : Wd K sa T G (upd H d (.frz od (.dK kvs))) S := by
  have ne : d ≠ sa.1 := fun e => by rw [e, w.srcG] at g; cases g
  refine ⟨fun b x e => ?_, ?_, w.srcG, tabs_put w.tabs h (isK_tbl (o := .dK kvs) trivial).1 (isK_tbl (o := .dK kvs) trivial).2⟩
  · by_cases hb : b = d
    · subst hb
      rw [g] at e
      cases e
      exact ⟨trivial, .inr ⟨od, kvs, rfl, upd_same⟩⟩
    · rw [upd_ne hb]; exact w.sub b x e
  · obtain ⟨vs, h1, h2⟩ := w.srcH
    exact ⟨vs, by rw [upd_ne ne.symm]; exact h1, h2⟩
theorem tabs_frz {H : Hp} {p : Addr} {u v : HO} {o : Obj} (t : LamX.Tabs T H) (h : H p = some (.frz o v)) : LamX.Tabs T (upd H p u) := tabs_put t h (fun _ z => nomatch z) (fun _ z => nomatch z)
theorem post_lock {K : PySem.W.Frag} {E : XK} {r : R (Bool × D)} {G H : Hp} {S : Src} {d : Addr} {kvs : List (Key × V)} {od : Obj} {Q : VK} (w : Wd K sa T G H S) (g : G d = some (.dK kvs)) (h : H d = some (.dK kvs)) (ne : ∀ x S', r ≠ .err x S') (p : post T E (rlV K sa) r G H Q) :
    post T E (rlV K sa) r G (upd H d (.frz od (.dK kvs))) fun v H' => H' d = some (.frz od (.dK kvs)) ∧ Q v (upd H' d (.dK kvs)) := by
  have nsa : d ≠ sa.1 := fun e => by rw [e, w.srcG] at g; cases g
  cases r with
  | stuck => exact p
  | err x S' => exact absurd rfl (ne x S')
  | ok a S' =>
    intro v G' H' e w' rel
    have hd : H' d = some (.frz od (.dK kvs)) := e.h d _ nsa upd_same (fun _ z => nomatch z)
    have g' : G' d = some (.dK kvs) := e.g _ _ g
    refine ⟨hd, p v G' (upd H' d (.dK kvs)) ⟨e.g, fun b u z q => ?_, fun b u n q t => ?_, fun b q => ?_⟩ ⟨fun b x q => ?_, ?_, w'.srcG, tabs_frz w'.tabs hd⟩ ?_⟩
    · have := e.n b u z q
      by_cases hb : b = d
      · subst hb; rw [upd_same] at this; cases this
      · rw [upd_ne hb] at this; exact this
    · by_cases hb : b = d
      · subst hb; rw [h] at q; rw [upd_same]; exact q
      · rw [upd_ne hb]; exact e.h b u n (by rw [upd_ne hb]; exact q) t
    · by_cases hb : b = d
      · subst hb; rw [upd_same] at q; cases q
      · rw [upd_ne hb] at q
        have := e.dom b q
        rw [upd_ne hb] at this; exact this
    · by_cases hb : b = d
      · subst hb
        rw [g'] at q
        cases q
        exact ⟨trivial, .inl upd_same⟩
      · rw [upd_ne hb]; exact w'.sub b x q
    · obtain ⟨vs, h1, h2⟩ := w'.srcH
      exact ⟨vs, by rw [upd_ne nsa.symm]; exact h1, h2⟩
    · obtain ⟨ow, x⟩ := a
      cases ow with
      | false => exact rel
      | true =>
        obtain ⟨ad, u, e1, n, gn, hu, ru⟩ := (show ∃ a u, v = .ref a ∧ upd H d (.frz od (.dK kvs)) a = none ∧ G' a = none ∧ H' a = some u ∧ RepU K sa G' x u from rel)
        have hb : ad ≠ d := fun z => by subst z; rw [upd_same] at n; cases n
        exact (show ∃ a u, v = .ref a ∧ H a = none ∧ G' a = none ∧ upd H' d (.dK kvs) a = some u ∧ RepU K sa G' x u from ⟨ad, u, e1, by rw [upd_ne hb] at n; exact n, gn, by rw [upd_ne hb]; exact hu, ru⟩)
/-- a comprehension's reading: it walks, or it locks and walks -/
def TXL (K : PySem.W.Frag) (sa : SA) (T : List (Addr × Str)) (F : FT) (E : XS) (it : Itx) (x : Ex) : TE := fun σ H Q => ∃ G ρ S, Wd K sa T G H S ∧ EnvOk K sa G σ ρ ∧ LkI it ρ σ H ∧ post T (E σ) (rlV K sa) (ev F x ρ S) G H Q
theorem lock_or {it : Itx} {x : Ex} {t : TE} (hy : ∀ (i : Nat), it = .walk i → ∀ (ρ : Rho) (S : Src) (y : Exc) (S' : Src), ev F x ρ S ≠ .err y S')
    (h : ∀ σ H Q, TXL X.K sa T F E it x σ H Q → t σ H Q) : ∀ σ H Q, TX X.K sa T F E x σ H Q → t σ H Q ∨ tLockE t σ H Q := by
  intro σ H Q hh
  obtain ⟨G, ρ, S, w, en, p⟩ := hh
  by_cases lk : LkI it ρ σ H
  · exact .inl (h σ H Q ⟨G, ρ, S, w, en, lk, p⟩)
  · cases it with
    | walk i =>
      obtain ⟨l, a, kvs, q, e, hk⟩ : ∃ l a kvs, ρ[i]? = some (some (.dct l)) ∧ σ[i]? = some (some (.ref a)) ∧ H a = some (.dK kvs) := by
        apply Classical.byContradiction
        intro z
        exact lk fun l a kvs q e hk => z ⟨l, a, kvs, q, e, hk⟩
      obtain ⟨v, ev, r⟩ := en.get i _ q
      rw [e] at ev
      obtain rfl := Option.some.inj (Option.some.inj ev)
      rw [Rep] at r
      obtain ⟨_, ad, k2, e1, g, _⟩ := r
      cases e1
      have gg : G a = some (.dK kvs) := by
        rcases (w.sub a _ g).2 with z | ⟨o, k3, _, z⟩
        · rw [hk] at z; cases z; exact g
        · rw [hk] at z; cases z
      refine .inr ⟨a, .dK kvs, hk, trivial, fun od => h σ _ _ ⟨G, ρ, S, w.lock gg hk, en, ?_, post_lock w gg hk (hy i rfl ρ S) p⟩⟩
      intro l2 b k2 _ e2
      rw [e] at e2
      cases e2
      rw [upd_same]
      exact fun z => nomatch z
    | _ => exact absurd trivial lk
theorem _root_.L2.PE.lor {e : Expr} {t t' : TE} (h : PE X e t) (i : ∀ σ H Q, t' σ H Q → t σ H Q ∨ tLockE t σ H Q) : PE X e t' := ⟨fun pins s σ H Q I w => (i σ H Q w).elim (h.run pins s σ H Q I) ((pe_lock h).run pins s σ H Q I)⟩
theorem _root_.L2.PS.lor {e : Stmt} {t t' : TS} (h : PS X e t) (i : ∀ D σ H, t' D σ H → t D σ H ∨ tLock t D σ H) : PS X e t' := ⟨fun pins s σ H D I w => (i D σ H w).elim (h.run pins s σ H D I) ((ps_lock h).run pins s σ H D I)⟩
theorem se_nset {a : Ex} {ea : Expr} {p p2 q : Pos} (hc : X.calm = true) (hg : Gl X "len") (hm : X.mg "len" = none) (hg2 : Gl X "set") (hm2 : X.mg "set" = none) (hp : plainE ea = true) (ha : PE X ea (TX X.K sa T F E a)) :
    PE X (.Call (.Name "len" p) [.Call (.Name "set" p2) [ea] [] q] [] pos) (TX X.K sa T F E (.nset a)) :=
  (pe_lenSetN hc hg hm hg2 hm2 ha (plain_star hp [] X.env)).imp fun σ H Q h => by
    obtain ⟨G, ρ, S, w, en, h⟩ := h
    rw [ev] at h
    refine ⟨G, ρ, S, w, en, post.step w h fun pp S1 v G1 H1 ee e1 w1 r1 h1 => ?_⟩
    obtain ⟨o, d⟩ := pp
    cases d with
    | lst l =>
      rw [Rep] at r1
      obtain ⟨z, ad, vs, rfl, g, rl⟩ := r1
      cases qs : strsD l with
      | none => simp only [items, qs] at h1; exact h1.elim
      | some ws =>
        simp only [items, qs] at h1
        by_cases hl : ws.length ≤ 2000
        · rw [if_pos hl] at h1
          have ev := strs_of rl qs
          subst ev
          exact ⟨ad, ws, rfl, .inl (w1.seq g), hl, h1.here w1 (by rw [Rep])⟩
        · rw [if_neg hl] at h1; exact h1.elim
    | tup l =>
      rw [Rep] at r1
      obtain ⟨z, ad, vs, rfl, g, rl⟩ := r1
      cases qs : strsD l with
      | none => simp only [items, qs] at h1; exact h1.elim
      | some ws =>
        simp only [items, qs] at h1
        by_cases hl : ws.length ≤ 2000
        · rw [if_pos hl] at h1
          have ev := strs_of rl qs
          subst ev
          exact ⟨ad, ws, rfl, .inr (w1.tup g), hl, h1.here w1 (by rw [Rep])⟩
        · rw [if_neg hl] at h1; exact h1.elim
    | _ => exact h1.elim
end
end DW

/-! DwEx5: targets, list comprehensions. -/
namespace DW
open PySem PyProof.Rows L2

/-! ### slots wiped -/
theorem wipe_get (σ : L2.St) (i : Nat) : ∀ vs : List Nat, (wipe σ vs)[i]? = if i ∈ vs then (σ[i]?).map (fun _ => none) else σ[i]?
  | [] => by simp [wipe]
  | v :: vs => by
    rw [wipe]
    by_cases h : v = i
    · subst h
      rw [if_pos (List.mem_cons_self ..)]
      by_cases hl : v < σ.length
      · rw [List.getElem?_set_self (by rw [wipe_length]; exact hl), List.getElem?_eq_getElem hl]; rfl
      · rw [List.getElem?_eq_none (by rw [List.length_set, wipe_length]; omega), List.getElem?_eq_none (by omega)]; rfl
    · rw [List.getElem?_set_ne h, wipe_get σ i vs]
      have : (i ∈ v :: vs) = (i ∈ vs) := by simp [show i ≠ v from fun z => h z.symm]
      simp only [this]
theorem wipeR_get (ρ : Rho) (i : Nat) : ∀ vs : List Nat, (wipeR ρ vs)[i]? = if i ∈ vs then (ρ[i]?).map (fun _ => none) else ρ[i]?
  | [] => by simp [wipeR]
  | v :: vs => by
    have hlen : ∀ ws : List Nat, (wipeR ρ ws).length = ρ.length := by
      intro ws
      induction ws with
      | nil => rfl
      | cons x xs ih => rw [wipeR, List.length_set, ih]
    rw [wipeR]
    by_cases h : v = i
    · subst h
      rw [if_pos (List.mem_cons_self ..)]
      by_cases hl : v < ρ.length
      · rw [List.getElem?_set_self (by rw [hlen]; exact hl), List.getElem?_eq_getElem hl]; rfl
      · rw [List.getElem?_eq_none (by rw [List.length_set, hlen]; omega), List.getElem?_eq_none (by omega)]; rfl
    · rw [List.getElem?_set_ne h, wipeR_get ρ i vs]
      have : (i ∈ v :: vs) = (i ∈ vs) := by simp [show i ≠ v from fun z => h z.symm]
      simp only [this]
theorem wipeR_len (ρ : Rho) : ∀ vs : List Nat, (wipeR ρ vs).length = ρ.length
  | [] => rfl
  | v :: vs => by rw [wipeR, List.length_set, wipeR_len ρ vs]
theorem wipe_wipe (σ : L2.St) (vs : List Nat) : wipe (wipe σ vs) vs = wipe σ vs := by
  apply List.ext_getElem?
  intro i
  rw [wipe_get, wipe_get]
  split
  · cases σ[i]? <;> rfl
  · rfl
theorem wipe_set {σ : L2.St} {i : Nat} {x : Option V} {vs : List Nat} (h : i ∈ vs) : wipe (σ.set i x) vs = wipe σ vs := by
  apply List.ext_getElem?
  intro j
  rw [wipe_get, wipe_get]
  by_cases hj : i = j
  · subst hj
    rw [if_pos h, if_pos h]
    by_cases hl : i < σ.length
    · rw [List.getElem?_set_self hl, List.getElem?_eq_getElem hl]; rfl
    · rw [List.getElem?_eq_none (by rw [List.length_set]; omega), List.getElem?_eq_none (by omega)]
  · rw [List.getElem?_set_ne hj]
section
variable {X : Cx} {sa : SA} {T : List (Addr × Str)} {F : FT} {E : XS} {pos p1 : Pos} {a b c : Ex} {ea eb ec : Expr} {k : Nat}
theorem EnvOk.wipe {K : PySem.W.Frag} {G : Hp} {σ : L2.St} {ρ : Rho} (h : EnvOk K sa G σ ρ) (vs : List Nat) : EnvOk K sa G (L2.wipe σ vs) (wipeR ρ vs) := ⟨by rw [wipe_length, wipeR_len]; exact h.len, fun i d e => by
  rw [wipeR_get] at e
  split at e
  · cases q : ρ[i]? <;> rw [q] at e <;> cases e
  · rename_i hi
    obtain ⟨v, e1, r⟩ := h.get i d e
    exact ⟨v, by rw [wipe_get, if_neg hi]; exact e1, r⟩⟩
/-! ### targets -/
def gNames : List Nat → TGs
  | [] => gNil
  | i :: is => gCons (gName i) (gNames is)
def gT (K : PySem.W.Frag) (tg : List Nat) (tp : Bool) : TG := if tp then gTup K tg.length (gNames tg) else fun v σ H Q => gNames tg [v] σ H Q
/-- what is stored: by the values -/
def setV : List Nat → List V → L2.St → L2.St
  | i :: is, v :: vs, σ => setV is vs (σ.set i (some v))
  | _, _, σ => σ
theorem gNames_run {K : PySem.W.Frag} {G H : Hp} {Q : L2.St → Hp → Prop} : ∀ {is : List Nat} {ds : List D} {vs : List V} {σ : L2.St} {ρ ρ' : Rho}, EnvOk K sa G σ ρ → RepL K sa G ds vs → bindR is ds ρ = some ρ' →
    (∀ σ', EnvOk K sa G σ' ρ' → (∀ ws, (∀ i ∈ is, i ∈ ws) → wipe σ' ws = wipe σ ws) → Q σ' H) → gNames is vs σ H Q
  | [], [], vs, σ, ρ, ρ', en, r, e, q => by
    rw [RepL] at r; subst r
    cases e
    exact ⟨rfl, q σ en fun _ _ => rfl⟩
  | [], _ :: _, vs, σ, ρ, ρ', en, r, e, q => by simp [bindR] at e
  | _ :: _, [], vs, σ, ρ, ρ', en, r, e, q => by simp [bindR] at e
  | i :: is, d :: ds, vs, σ, ρ, ρ', en, r, e, q => by
    rw [RepL] at r
    obtain ⟨v, r', rfl, r1, r2⟩ := r
    refine ⟨v, r', rfl, ?_⟩
    show gNames is r' (σ.set i (some v)) H Q
    refine gNames_run (en.set i r1) r2 e fun σ' en' hw => q σ' en' fun ws hws => ?_
    rw [hw ws fun j hj => hws j (List.mem_cons_of_mem _ hj), wipe_set (hws i (List.mem_cons_self ..))]
theorem bindR_len : ∀ {is : List Nat} {ds : List D} {ρ ρ' : Rho}, bindR is ds ρ = some ρ' → ds.length = is.length
  | [], [], _, _, _ => rfl
  | [], _ :: _, _, _, e => by simp [bindR] at e
  | _ :: _, [], _, _, e => by simp [bindR] at e
  | i :: is, d :: ds, ρ, ρ', e => by rw [List.length_cons, List.length_cons, bindR_len (show bindR is ds _ = some ρ' from e)]
theorem gT_run {K : PySem.W.Frag} {G H : Hp} {S : Src} {Q : L2.St → Hp → Prop} {tg : List Nat} {tp : Bool} {d : D} {v : V} {σ : L2.St} {ρ ρ' : Rho} (w : Wd K sa T G H S) (en : EnvOk K sa G σ ρ) (r : Rep K sa G d v) (e : bindT tg tp d ρ = some ρ')
    (q : ∀ σ', EnvOk K sa G σ' ρ' → (∀ ws, (∀ i ∈ tg, i ∈ ws) → wipe σ' ws = wipe σ ws) → Q σ' H) : gT K tg tp v σ H Q := by
  cases tp with
  | false => exact gNames_run en (RepL.cons r RepL.nil) e q
  | true =>
    cases d <;> first | (simp [bindT] at e; done) | skip
    rename_i ds
    rw [Rep] at r
    obtain ⟨_, ad, vs, rfl, g, rl⟩ := r
    have e : bindR tg ds ρ = some ρ' := e
    exact ⟨ad, vs, rfl, w.tup g, by rw [rl.length, bindR_len e], gNames_run en rl e q⟩
theorem tgN_ok {Γ : Cn} {i : Nat} {e : Expr} (hN : X.N.Nodup) (hl : tgN Γ i e = true → ∀ x, Γ.N[i]? = some x → X.N[i]? = some x ∧ Loc X.env.scope x ∧ (X.fn x = true ∨ X.env.scope.names.lookup x = some .local)) (h : tgN Γ i e = true) :
    PG X e (gName i) ∧ (∀ es env, (assignEach (e :: es) env) = (false, assign e env) :: assignEach es env) := by
  cases e <;> first | (simp [tgN] at h; done) | skip
  rename_i x px
  have h0 := h
  have h : (decide (Γ.N[i]? = some x) && (match Γ.sc.lookup x with | some .local => true | some .cell => true | _ => false)) = true := h
  rw [Bool.and_eq_true] at h
  obtain ⟨h1, h2, h3⟩ := hl h0 x (of_decide_eq_true h.1)
  exact ⟨pg_name hN h1 h2 h3, fun es env => rfl⟩
theorem tgsN_ok {Γ : Cn} (hN : X.N.Nodup) (hl : ∀ (i : Nat) (e : Expr), tgN Γ i e = true → ∀ x, Γ.N[i]? = some x → X.N[i]? = some x ∧ Loc X.env.scope x ∧ (X.fn x = true ∨ X.env.scope.names.lookup x = some .local)) : ∀ {is : List Nat} {es : List Expr}, tgsN Γ is es = true →
    PGs X es (gNames is) ∧ (assignEach es X.env).length = is.length ∧ (assignEach es X.env).findIdx? (·.1) = none
  | [], [], _ => ⟨pgs_nil, rfl, rfl⟩
  | [], _ :: _, h => by simp [tgsN] at h
  | _ :: _, [], h => by simp [tgsN] at h
  | i :: is, e :: es, h => by
    rw [tgsN, Bool.and_eq_true] at h
    obtain ⟨g1, g2⟩ := tgN_ok hN (hl i e) h.1
    obtain ⟨k1, k2, k3⟩ := tgsN_ok hN hl h.2
    refine ⟨pgs_cons g1 k1 (by rw [g2]; rfl), by rw [g2, List.length_cons, List.length_cons, k2], ?_⟩
    rw [g2, List.findIdx?_cons]
    simp only [k3]
    rfl
theorem tgB_ok {Γ : Cn} {tg : List Nat} {tp : Bool} {e : Expr} (hc : X.calm = true) (hN : X.N.Nodup) (hl : ∀ (i : Nat) (e : Expr), tgN Γ i e = true → ∀ x, Γ.N[i]? = some x → X.N[i]? = some x ∧ Loc X.env.scope x ∧ (X.fn x = true ∨ X.env.scope.names.lookup x = some .local)) (h : tgB Γ tg tp e = true) :
    PG X e (gT X.K tg tp) := by
  cases tp with
  | true =>
    cases e <;> first | (simp [tgB] at h; done) | skip
    rename_i es kk px
    obtain ⟨k1, k2, k3⟩ := tgsN_ok hN hl (show tgsN Γ tg es = true from h)
    exact pg_tup hc k1 k2 k3
  | false =>
    have h : tgsN Γ tg [e] = true := h
    rcases tg with _ | ⟨i, _ | ⟨j, tg⟩⟩
    · simp [tgsN] at h
    · rw [tgsN, Bool.and_eq_true] at h
      obtain ⟨g1, _⟩ := tgN_ok hN (hl i e) h.1
      refine ⟨fun pins s σ H v u Q I r q => g1.run pins s σ H v u Q I r ?_⟩
      obtain ⟨v', r', e', q⟩ := (show gNames [i] [v] σ H Q from q)
      cases e'
      obtain ⟨_, q⟩ := q
      exact q
    · simp [tgsN] at h
theorem tup_of {Γ : Cn} {tg : List Nat} {tp : Bool} {t : Expr} (h : tgB Γ tg tp t = true) (hp : tp = true) : ∃ es kk p, t = .Tuple es kk p := by
  subst hp
  cases t <;> first | (simp [tgB] at h; done) | exact ⟨_, _, _, rfl⟩
/-! ### tests of a comprehension -/
def TXc (K : PySem.W.Frag) (sa : SA) (T : List (Addr × Str)) (F : FT) (E : XS) (x : Exs) : TT := fun σ H Q => ∃ G ρ S, Wd K sa T G H S ∧ EnvOk K sa G σ ρ ∧ post T (E σ) (rlE K sa Bool) (evc F x ρ S) G H Q
theorem _root_.L2.PTs.imp {es : List Expr} {t t' : TT} (h : PTs X es t) (i : ∀ σ H Q, t' σ H Q → t σ H Q) : PTs X es t' := ⟨fun pins s σ H Q I w => h.run pins s σ H Q I (i σ H Q w)⟩
theorem sc_nil : PTs X [] (TXc X.K sa T F E .nil) := pts_nil.imp fun σ H Q h => by
  obtain ⟨G, ρ, S, w, en, h⟩ := h
  rw [evc] at h
  exact h true G H Ext.refl w rfl
theorem sc_one {xs : Exs} (ha : PT X ea (TXb X.K sa T F E a)) : PTs X [ea] (TXc X.K sa T F E (.cons a xs)) := (pts_one ha).imp fun σ H Q h => by
  obtain ⟨G, ρ, S, w, en, h⟩ := h
  rw [evc] at h
  exact ⟨G, ρ, S, w, en, h⟩
theorem calm_ok {α : Type} {r : R α} {p : α} {S : Src} (h : r.calm = .ok p S) : r = .ok p S := by
  cases r <;> first | exact h | cases h
abbrev EF : XS := fun _ _ _ _ => False
theorem se_lc {tg : List Nat} {tp : Bool} {it : Itx} {cond : Exs} {elt : Ex} {e t i : Expr} {ifs : List Expr} {scope : Scope} {own : List (Str × Nat)} (hc : X.calm = true) (hN : X.N.Nodup) (hp : plainE i = true) (hi : PI X t i (TXik X.K sa T F E it)) (ok : BlkOk X.N X.env.scope scope own) (hown : own.map (·.2) = tg)
    (hg : ∀ (s : Shared) (H : Hp) (C : Addr) (cl : List (Str × Addr)) (fp : List Addr), PG (X.blk s H scope (compEnvC scope cl C X.env) fp) t (gT X.K tg tp))
    (ht : ∀ (s : Shared) (H : Hp) (C : Addr) (cl : List (Str × Addr)) (fp : List Addr), PTs (X.blk s H scope (compEnvC scope cl C X.env) fp) ifs (TXc X.K sa T F EF cond))
    (he : ∀ (s : Shared) (H : Hp) (C : Addr) (cl : List (Str × Addr)) (fp : List Addr), PE (X.blk s H scope (compEnvC scope cl C X.env) fp) e (TX X.K sa T F EF elt)) :
    ∀ σ H Q, TXL X.K sa T F E it (.lc tg tp it cond elt) σ H Q → tLc (TXik X.K sa T F E it) (gT X.K tg tp) (TXc X.K sa T F EF cond) (TX X.K sa T F EF elt) (own.map (·.2)) σ H Q := by
  intro σ H Q h
  rw [hown]
  obtain ⟨G, ρ, S, w, en, lk, h⟩ := h
  rw [ev] at h
  refine ⟨G, ρ, S, w, en, lk, ?_⟩
  cases q : evi F it ρ S with
  | stuck => rw [q] at h; exact h.elim
  | err x S1 => rw [q] at h; exact h
  | ok ds S1 =>
    rw [q] at h
    have h : post T (E σ) (rlV X.K sa) ((lcGo (fun d => bindT tg tp d (wipeR ρ tg)) (evc F cond) (ev F elt) ds S1).bind fun l S => .ok (true, .lst l) S) G H Q := h
    intro J G1 H1 hz e1 w1 iw Da nD
    have nH : H Da = none := e1.dom Da nD
    have nsa : Da ≠ sa.1 := w1.sne nD
    refine ⟨fun i m H' => m = ds.length - i ∧ i ≤ ds.length ∧ ∃ G' S' acc accV, Sub G1 G' ∧ Ext sa G H G' H' ∧ Wd X.K sa T G' H' S' ∧ G' Da = none ∧ H' Da = some (.lst accV) ∧ RepL X.K sa G' acc accV ∧ acc.length ≤ i ∧
      post T (E σ) (rlV X.K sa) ((lcGo (fun d => bindT tg tp d (wipeR ρ tg)) (evc F cond) (ev F elt) (ds.drop i) S').bind fun l S => .ok (true, .lst (acc ++ l)) S) G H Q, ⟨ds.length, by simp, Nat.zero_le _, G1, S1, [], [], Sub.refl _, e1.put nH, w1.newH nD, w1.gn nD, upd_same, RepL.nil, Nat.le_refl _, ?_⟩, ?_⟩
    · exact h
    · rintro i m H' ⟨rfl, hi, G', S', acc, accV, s1, e', w', gn, hD, ra, hl, h'⟩
      by_cases hlt : i < ds.length
      · obtain ⟨it1, _⟩ := iw i G' H' S' s1 (fun b o u n z => e'.h b _ n z (fun _ y => nomatch y)) w'
        obtain ⟨go, yl⟩ := it1 ds[i] (List.getElem?_eq_getElem hlt)
        rw [List.drop_eq_getElem_cons hlt] at h'
        refine .inr ⟨go, fun H2 => i + 1 ≤ ds.length ∧ ∃ G' S' acc accV, Sub G1 G' ∧ Ext sa G H G' H2 ∧ Wd X.K sa T G' H2 S' ∧ G' Da = none ∧ H2 Da = some (.lst accV) ∧ RepL X.K sa G' acc accV ∧ acc.length ≤ i + 1 ∧
          post T (E σ) (rlV X.K sa) ((lcGo (fun d => bindT tg tp d (wipeR ρ tg)) (evc F cond) (ev F elt) (ds.drop (i + 1)) S').bind fun l S => .ok (true, .lst (acc ++ l)) S) G H Q, fun H2 hN => ⟨ds.length - (i + 1), by omega, rfl, hN⟩, fun x H2 y => ?_⟩
        obtain ⟨G2, e2, w2, r2⟩ := yl x H2 y
        have hD2 : H2 Da = some (.lst accV) := e2.h Da _ nsa hD (fun _ z => by cases z)
        have gn2 : G2 Da = none := e2.gnone gn hD
        rw [lcGo] at h'
        cases qb : bindT tg tp ds[i] (wipeR ρ tg) with
        | none => rw [qb] at h'; exact h'.elim
        | some ρ1 =>
          rw [qb] at h'
          have h' : post T (E σ) (rlV X.K sa) (((evc F cond ρ1 S').calm.bind fun b S => if b = true then (ev F elt ρ1 S).calm.bind fun y S => (lcGo (fun d => bindT tg tp d (wipeR ρ tg)) (evc F cond) (ev F elt) (ds.drop (i + 1)) S).bind fun l S => .ok (y.2 :: l) S
            else lcGo (fun d => bindT tg tp d (wipeR ρ tg)) (evc F cond) (ev F elt) (ds.drop (i + 1)) S).bind fun l S => .ok (true, .lst (acc ++ l)) S) G H Q := h'
          have en2 : EnvOk X.K sa G2 σ ρ := en.sub ((e'.g).trans e2.g)
          refine gT_run w2 (en2.wipe tg) r2 qb fun σ2 en3 hw => ⟨?_, ?_⟩
          · rw [hw tg fun _ z => z, wipe_wipe]
          · refine ⟨G2, ρ1, S', w2, en3, ?_⟩
            cases qc : evc F cond ρ1 S' with
            | stuck => rw [qc] at h'; exact h'.elim
            | err x S3 => rw [qc] at h'; exact h'.elim
            | ok b S3 =>
              rw [qc] at h'
              intro b' G3 H3 e3 w3 rb
              obtain rfl : b' = b := rb
              have hD3 : H3 Da = some (.lst accV) := e3.h Da _ nsa hD2 (fun _ z => by cases z)
              have gn3 : G3 Da = none := e3.gnone gn2 hD2
              cases b' with
              | false =>
                refine iteF ⟨hlt, G3, S3, acc, accV, s1.trans (e2.g.trans e3.g), e'.trans (e2.trans e3), w3, gn3, hD3, RepL.sub (e2.trans e3).g _ _ ra, Nat.le_succ_of_le hl, ?_⟩
                exact h'
              | true =>
                refine iteT ⟨G3, ρ1, S3, w3, en3.sub e3.g, ?_⟩
                have h' : post T (E σ) (rlV X.K sa) (((ev F elt ρ1 S3).calm.bind fun y S => (lcGo (fun d => bindT tg tp d (wipeR ρ tg)) (evc F cond) (ev F elt) (ds.drop (i + 1)) S).bind fun l S => .ok (y.2 :: l) S).bind fun l S => .ok (true, .lst (acc ++ l)) S) G H Q := h'
                cases qe : ev F elt ρ1 S3 with
                | stuck => rw [qe] at h'; exact h'.elim
                | err x S4 => rw [qe] at h'; exact h'.elim
                | ok p S4 =>
                  rw [qe] at h'
                  intro v G4 H4 e4 w4 ro
                  obtain ⟨G5, s5, e5, w5, r5⟩ := frozen w3 e4 w4 ro
                  have hD4 : H4 Da = some (.lst accV) := e5.h Da _ nsa hD3 (fun _ z => by cases z)
                  have gn5 : G5 Da = none := e5.gnone gn3 hD3
                  refine ⟨accV, hD4, ?_, hlt, G5, S4, acc ++ [p.2], accV ++ [v], s1.trans (e2.g.trans (e3.g.trans e5.g)), (e'.trans (e2.trans (e3.trans e5))).put nH, w5.put gn5 nsa hD4 trivial, gn5, upd_same, (RepL.sub (e2.trans (e3.trans e5)).g _ _ ra).append (RepL.cons r5 RepL.nil), ?_, ?_⟩
                  · rw [ra.length]
                    refine Nat.lt_of_lt_of_le (Nat.lt_of_le_of_lt hl hlt) (lim_line hz)
                  · rw [List.length_append]
                    exact Nat.succ_le_succ hl
                  · have h' : post T (E σ) (rlV X.K sa) (((lcGo (fun d => bindT tg tp d (wipeR ρ tg)) (evc F cond) (ev F elt) (ds.drop (i + 1)) S4).bind fun l S => .ok (p.2 :: l) S).bind fun l S => .ok (true, .lst (acc ++ l)) S) G H Q := h'
                    rw [R.bind_assoc] at h'
                    have ea : ∀ l : List D, acc ++ [p.2] ++ l = acc ++ p.2 :: l := fun l => by simp
                    simp only [ea]
                    exact h'
      · have hi2 : i = ds.length := by omega
        subst hi2
        obtain ⟨_, st⟩ := iw ds.length G' H' S' s1 (fun b o u n z => e'.h b _ n z (fun _ y => nomatch y)) w'
        refine .inl ⟨st (Nat.le_refl _), ?_⟩
        rw [List.drop_length] at h'
        have h' : post T (E σ) (rlV X.K sa) (.ok (true, .lst (acc ++ [])) S') G H Q := h'
        rw [List.append_nil] at h'
        exact h' (.ref Da) G' H' e' w' ⟨Da, .lst accV, rfl, nH, gn, hD, Nat.le_trans hl hz, ra⟩
theorem calm_err {α : Type} {r : R α} {y : Exc} {S' : Src} : r.calm ≠ .err y S' := by cases r <;> exact fun z => nomatch z
theorem bind_err {α β : Type} {r : R α} {f : α → Src → R β} (h1 : ∀ y S', r ≠ .err y S') (h2 : ∀ a S y S', f a S ≠ .err y S') (y : Exc) (S' : Src) : r.bind f ≠ .err y S' := by
  cases r with
  | ok a S => exact h2 a S y S'
  | err x S => exact absurd rfl (h1 x S)
  | stuck => exact fun z => nomatch z
theorem lcGo_err {bd : D → Option Rho} {cc : Rho → Src → R Bool} {ee : Rho → Src → R (Bool × D)} : ∀ (ds : List D) (S : Src) (y : Exc) (S' : Src), lcGo bd cc ee ds S ≠ .err y S'
  | [], S, y, S' => fun z => nomatch z
  | d :: ds, S, y, S' => by
    rw [lcGo]
    cases bd d with
    | none => exact fun z => nomatch z
    | some ρ =>
      refine bind_err (fun _ _ => calm_err) (fun b S y S' => ?_) y S'
      cases b with
      | false => exact lcGo_err ds S y S'
      | true => exact bind_err (fun _ _ => calm_err) (fun p S y S' => bind_err (lcGo_err ds S) (by intro _ _ _ _ z; cases z) y S') y S'
theorem walk_err {i : Nat} (ρ : Rho) (S : Src) (y : Exc) (S' : Src) : evi F (.walk i) ρ S ≠ .err y S' := by
  rw [evi]
  rcases ρ[i]? with _ | _ | d
  · exact fun z => nomatch z
  · exact fun z => nomatch z
  · show ofO (itemsW d) S ≠ _
    cases itemsW d <;> exact fun z => nomatch z
theorem lc_err {tg : List Nat} {tp : Bool} {it : Itx} {cond : Exs} {elt : Ex} (i : Nat) (e : it = .walk i) (ρ : Rho) (S : Src) (y : Exc) (S' : Src) : ev F (.lc tg tp it cond elt) ρ S ≠ .err y S' := by
  subst e
  rw [ev]
  exact bind_err (walk_err ρ S) (fun ds S y S' => bind_err (lcGo_err ds S) (by intro _ _ _ _ z; cases z) y S') y S'
end
end DW

/-! DwLc2: list comprehensions with two for. -/
namespace DW
open PySem PyProof.Rows L2
section
variable {X : Cx} {sa : SA} {T : List (Addr × Str)} {F : FT} {E : XS} {pos p1 : Pos}
theorem lc2Go_err {bd : D → Option Rho} {cc : Rho → Src → R Bool} {ii : Rho → Src → R (List D)} {bd1 : Rho → D → Option Rho} {cc1 : Rho → Src → R Bool} {ee : Rho → Src → R (Bool × D)} : ∀ (ds : List D) (S : Src) (y : Exc) (S' : Src), lc2Go bd cc ii bd1 cc1 ee ds S ≠ .err y S'
  | [], S, y, S' => fun z => nomatch z
  | d :: ds, S, y, S' => by
    rw [lc2Go]
    cases bd d with
    | none => exact fun z => nomatch z
    | some ρ =>
      refine bind_err (fun _ _ => calm_err) (fun b S y S' => ?_) y S'
      cases b with
      | false => exact lc2Go_err ds S y S'
      | true => exact bind_err (fun _ _ => calm_err) (fun p S y S' => bind_err (lcGo_err p S) (fun _ S y S' => bind_err (lc2Go_err ds S) (by intro _ _ _ _ z; cases z) y S') y S') y S'
/-- the end of it: the list is not too long -/
def fin2 (acc l : List D) (S : Src) : R (Bool × D) := if (acc ++ l).length ≤ lim then .ok (true, .lst (acc ++ l)) S else .stuck
theorem fin2_len {K : PySem.W.Frag} {E : XK} {r : R (List D)} {acc : List D} {G H : Hp} {Q : VK} (hr : ∀ y S', r ≠ .err y S') (h : post T E (rlV K sa) (r.bind fun l S => fin2 acc l S) G H Q) : acc.length ≤ lim := by
  cases r with
  | stuck => exact h.elim
  | err x S => exact absurd rfl (hr x S)
  | ok l S =>
    have h : post T E (rlV K sa) (fin2 acc l S) G H Q := h
    unfold fin2 at h
    by_cases hl : (acc ++ l).length ≤ lim
    · rw [List.length_append] at hl; omega
    · rw [if_neg hl] at h; exact h.elim
theorem se_lc2 {tg : List Nat} {tp : Bool} {it : Itx} {cond : Exs} {tg1 : List Nat} {tp1 : Bool} {it1 : Itx} {cond1 : Exs} {elt : Ex} {own : List (Str × Nat)} (hown : own.map (·.2) = tg ++ tg1) :
    ∀ σ H Q, TXL X.K sa T F E it (.lc2 tg tp it cond tg1 tp1 it1 cond1 elt) σ H Q → tLc2 (TXik X.K sa T F E it) (gT X.K tg tp) (TXc X.K sa T F EF cond) (TXi X.K sa T F EF it1) (gT X.K tg1 tp1) (TXc X.K sa T F EF cond1) (TX X.K sa T F EF elt) (own.map (·.2)) tg1 σ H Q := by
  intro σ H Q h
  rw [hown]
  obtain ⟨G, ρ, S, w, en, lk, h⟩ := h
  rw [ev] at h
  refine ⟨G, ρ, S, w, en, lk, ?_⟩
  cases q : evi F it ρ S with
  | stuck => rw [q] at h; exact h.elim
  | err x S1 => rw [q] at h; exact h
  | ok ds S1 =>
    rw [q] at h
    let bd : D → Option Rho := fun d => bindT tg tp d (wipeR ρ (tg ++ tg1))
    let bd1 : Rho → D → Option Rho := fun ρ d => bindT tg1 tp1 d (wipeR ρ tg1)
    let go : List D → Src → R (List D) := lc2Go bd (evc F cond) (evi F it1) bd1 (evc F cond1) (ev F elt)
    have h : post T (E σ) (rlV X.K sa) ((go ds S1).bind fun l S => fin2 [] l S) G H Q := h
    intro J G1 H1 hz e1 w1 iw Da nD
    have nH : H Da = none := e1.dom Da nD
    have nsa : Da ≠ sa.1 := w1.sne nD
    refine ⟨fun i m H' => m = ds.length - i ∧ i ≤ ds.length ∧ ∃ G' S' acc accV, Sub G1 G' ∧ Ext sa G H G' H' ∧ Wd X.K sa T G' H' S' ∧ G' Da = none ∧ H' Da = some (.lst accV) ∧ RepL X.K sa G' acc accV ∧
      post T (E σ) (rlV X.K sa) ((go (ds.drop i) S').bind fun l S => fin2 acc l S) G H Q, ⟨ds.length, by simp, Nat.zero_le _, G1, S1, [], [], Sub.refl _, e1.put nH, w1.newH nD, w1.gn nD, upd_same, RepL.nil, h⟩, ?_⟩
    rintro i m H' ⟨rfl, hi, G', S', acc, accV, s1, e', w', gn, hD, ra, h'⟩
    by_cases hlt : i < ds.length
    · obtain ⟨itt, _⟩ := iw i G' H' S' s1 (fun b o u n z => e'.h b _ n z (fun _ y => nomatch y)) w'
      obtain ⟨gg, yl⟩ := itt ds[i] (List.getElem?_eq_getElem hlt)
      rw [List.drop_eq_getElem_cons hlt] at h'
      refine .inr ⟨gg, fun H2 => i + 1 ≤ ds.length ∧ ∃ G' S' acc accV, Sub G1 G' ∧ Ext sa G H G' H2 ∧ Wd X.K sa T G' H2 S' ∧ G' Da = none ∧ H2 Da = some (.lst accV) ∧ RepL X.K sa G' acc accV ∧
        post T (E σ) (rlV X.K sa) ((go (ds.drop (i + 1)) S').bind fun l S => fin2 acc l S) G H Q, fun H2 hN => ⟨ds.length - (i + 1), by omega, rfl, hN⟩, fun x H2 y => ?_⟩
      obtain ⟨G2, e2, w2, r2⟩ := yl x H2 y
      have hD2 : H2 Da = some (.lst accV) := e2.h Da _ nsa hD (fun _ z => by cases z)
      have gn2 : G2 Da = none := e2.gnone gn hD
      have h' : post T (E σ) (rlV X.K sa) ((lc2Go bd (evc F cond) (evi F it1) bd1 (evc F cond1) (ev F elt) (ds[i] :: ds.drop (i + 1)) S').bind fun l S => fin2 acc l S) G H Q := h'
      rw [lc2Go] at h'
      cases qb : bd ds[i] with
      | none => rw [qb] at h'; exact h'.elim
      | some ρ1 =>
        rw [qb] at h'
        have h' : post T (E σ) (rlV X.K sa) (((evc F cond ρ1 S').calm.bind fun b S => if b = true then (evi F it1 ρ1 S).calm.bind fun ds1 S => (lcGo (bd1 ρ1) (evc F cond1) (ev F elt) ds1 S).bind fun l1 S => (go (ds.drop (i + 1)) S).bind fun l S => .ok (l1 ++ l) S
          else go (ds.drop (i + 1)) S).bind fun l S => fin2 acc l S) G H Q := h'
        have en2 : EnvOk X.K sa G2 σ ρ := en.sub ((e'.g).trans e2.g)
        refine gT_run w2 (en2.wipe (tg ++ tg1)) r2 qb fun σ2 en3 hw => ⟨?_, ?_⟩
        · rw [hw (tg ++ tg1) fun _ z => List.mem_append_left _ z, wipe_wipe]
        · refine ⟨G2, ρ1, S', w2, en3, ?_⟩
          cases qc : evc F cond ρ1 S' with
          | stuck => rw [qc] at h'; exact h'.elim
          | err x S3 => rw [qc] at h'; exact h'.elim
          | ok b S3 =>
            rw [qc] at h'
            intro b' G3 H3 e3 w3 rb
            obtain rfl : b' = b := rb
            have hD3 : H3 Da = some (.lst accV) := e3.h Da _ nsa hD2 (fun _ z => by cases z)
            have gn3 : G3 Da = none := e3.gnone gn2 hD2
            cases b' with
            | false =>
              exact iteF ⟨hlt, G3, S3, acc, accV, s1.trans (e2.g.trans e3.g), e'.trans (e2.trans e3), w3, gn3, hD3, RepL.sub (e2.trans e3).g _ _ ra, h'⟩
            | true =>
              refine iteT ⟨G3, ρ1, S3, w3, en3.sub e3.g, ?_⟩
              have h' : post T (E σ) (rlV X.K sa) (((evi F it1 ρ1 S3).calm.bind fun ds1 S => (lcGo (bd1 ρ1) (evc F cond1) (ev F elt) ds1 S).bind fun l1 S => (go (ds.drop (i + 1)) S).bind fun l S => .ok (l1 ++ l) S).bind fun l S => fin2 acc l S) G H Q := h'
              cases q1 : evi F it1 ρ1 S3 with
              | stuck => rw [q1] at h'; exact h'.elim
              | err x S4 => rw [q1] at h'; exact h'.elim
              | ok ds1 S4 =>
                rw [q1] at h'
                have h' : post T (E σ) (rlV X.K sa) (((lcGo (bd1 ρ1) (evc F cond1) (ev F elt) ds1 S4).bind fun l1 S => (go (ds.drop (i + 1)) S).bind fun l S => .ok (l1 ++ l) S).bind fun l S => fin2 acc l S) G H Q := h'
                intro J1 G4 H4 hz1 e4 w4 iw1
                have hD4 : H4 Da = some (.lst accV) := e4.h Da _ nsa hD3 (fun _ z => by cases z)
                have gn4 : G4 Da = none := e4.gnone gn3 hD3
                have e24 := e2.trans (e3.trans e4)
                refine ⟨fun j k H' => k = ds1.length - j ∧ j ≤ ds1.length ∧ ∃ G' S' acc accV, Sub G4 G' ∧ Ext sa G H G' H' ∧ Wd X.K sa T G' H' S' ∧ G' Da = none ∧ H' Da = some (.lst accV) ∧ RepL X.K sa G' acc accV ∧
                  post T (E σ) (rlV X.K sa) (((lcGo (bd1 ρ1) (evc F cond1) (ev F elt) (ds1.drop j) S').bind fun l1 S => (go (ds.drop (i + 1)) S).bind fun l S => .ok (l1 ++ l) S).bind fun l S => fin2 acc l S) G H Q,
                  ⟨ds1.length, by simp, Nat.zero_le _, G4, S4, acc, accV, Sub.refl _, e'.trans e24, w4, gn4, hD4, RepL.sub e24.g _ _ ra, h'⟩, ?_⟩
                rintro j k H5 ⟨rfl, hj, G5, S5, acc5, accV5, s5, e5, w5, gn5, hD5, ra5, h5⟩
                by_cases hlj : j < ds1.length
                · obtain ⟨itt1, _⟩ := iw1 j G5 H5 S5 s5 w5
                  obtain ⟨gg1, yl1⟩ := itt1 ds1[j] (List.getElem?_eq_getElem hlj)
                  rw [List.drop_eq_getElem_cons hlj] at h5
                  refine .inr ⟨gg1, fun H6 => j + 1 ≤ ds1.length ∧ ∃ G' S' acc accV, Sub G4 G' ∧ Ext sa G H G' H6 ∧ Wd X.K sa T G' H6 S' ∧ G' Da = none ∧ H6 Da = some (.lst accV) ∧ RepL X.K sa G' acc accV ∧
                    post T (E σ) (rlV X.K sa) (((lcGo (bd1 ρ1) (evc F cond1) (ev F elt) (ds1.drop (j + 1)) S').bind fun l1 S => (go (ds.drop (i + 1)) S).bind fun l S => .ok (l1 ++ l) S).bind fun l S => fin2 acc l S) G H Q, fun H6 hN => ⟨ds1.length - (j + 1), by omega, rfl, hN⟩, fun x6 H6 y6 => ?_⟩
                  obtain ⟨G6, e6, w6, r6⟩ := yl1 x6 H6 y6
                  have hD6 : H6 Da = some (.lst accV5) := e6.h Da _ nsa hD5 (fun _ z => by cases z)
                  have gn6 : G6 Da = none := e6.gnone gn5 hD5
                  rw [lcGo] at h5
                  cases qb1 : bd1 ρ1 ds1[j] with
                  | none => rw [qb1] at h5; exact h5.elim
                  | some ρ2 =>
                    rw [qb1] at h5
                    have h5 : post T (E σ) (rlV X.K sa) ((((evc F cond1 ρ2 S5).calm.bind fun b S => if b = true then (ev F elt ρ2 S).calm.bind fun y S => (lcGo (bd1 ρ1) (evc F cond1) (ev F elt) (ds1.drop (j + 1)) S).bind fun l S => .ok (y.2 :: l) S
                      else lcGo (bd1 ρ1) (evc F cond1) (ev F elt) (ds1.drop (j + 1)) S).bind fun l1 S => (go (ds.drop (i + 1)) S).bind fun l S => .ok (l1 ++ l) S).bind fun l S => fin2 acc5 l S) G H Q := h5
                    have en6 : EnvOk X.K sa G6 σ2 ρ1 := en3.sub (e3.g.trans (e4.g.trans (s5.trans e6.g)))
                    refine gT_run w6 (en6.wipe tg1) r6 qb1 fun σ3 en7 hw1 => ⟨?_, ?_⟩
                    · rw [hw1 tg1 fun _ z => z, wipe_wipe]
                    · refine ⟨G6, ρ2, S5, w6, en7, ?_⟩
                      cases qc1 : evc F cond1 ρ2 S5 with
                      | stuck => rw [qc1] at h5; exact h5.elim
                      | err x S7 => rw [qc1] at h5; exact h5.elim
                      | ok b7 S7 =>
                        rw [qc1] at h5
                        intro b8 G7 H7 e7 w7 rb7
                        obtain rfl : b8 = b7 := rb7
                        have hD7 : H7 Da = some (.lst accV5) := e7.h Da _ nsa hD6 (fun _ z => by cases z)
                        have gn7 : G7 Da = none := e7.gnone gn6 hD6
                        cases b8 with
                        | false =>
                          exact iteF ⟨hlj, G7, S7, acc5, accV5, s5.trans (e6.g.trans e7.g), e5.trans (e6.trans e7), w7, gn7, hD7, RepL.sub (e6.trans e7).g _ _ ra5, h5⟩
                        | true =>
                          refine iteT ⟨G7, ρ2, S7, w7, en7.sub e7.g, ?_⟩
                          have h5 : post T (E σ) (rlV X.K sa) ((((ev F elt ρ2 S7).calm.bind fun y S => (lcGo (bd1 ρ1) (evc F cond1) (ev F elt) (ds1.drop (j + 1)) S).bind fun l S => .ok (y.2 :: l) S).bind fun l1 S => (go (ds.drop (i + 1)) S).bind fun l S => .ok (l1 ++ l) S).bind fun l S => fin2 acc5 l S) G H Q := h5
                          cases qe : ev F elt ρ2 S7 with
                          | stuck => rw [qe] at h5; exact h5.elim
                          | err x S8 => rw [qe] at h5; exact h5.elim
                          | ok p S8 =>
                            rw [qe] at h5
                            have h5 : post T (E σ) (rlV X.K sa) ((((lcGo (bd1 ρ1) (evc F cond1) (ev F elt) (ds1.drop (j + 1)) S8).bind fun l S => .ok (p.2 :: l) S).bind fun l1 S => (go (ds.drop (i + 1)) S).bind fun l S => .ok (l1 ++ l) S).bind fun l S => fin2 acc5 l S) G H Q := h5
                            intro v G8 H8 e8 w8 ro
                            obtain ⟨G9, s9, e9, w9, r9⟩ := frozen w7 e8 w8 ro
                            have hD8 : H8 Da = some (.lst accV5) := e9.h Da _ nsa hD7 (fun _ z => by cases z)
                            have gn9 : G9 Da = none := e9.gnone gn7 hD7
                            have h6 : post T (E σ) (rlV X.K sa) (((lcGo (bd1 ρ1) (evc F cond1) (ev F elt) (ds1.drop (j + 1)) S8).bind fun l1 S => (go (ds.drop (i + 1)) S).bind fun l S => .ok (l1 ++ l) S).bind fun l S => fin2 (acc5 ++ [p.2]) l S) G H Q := by
                              rw [R.bind_assoc, R.bind_assoc] at h5
                              rw [R.bind_assoc]
                              have ef : (fun (l1 : List D) (S : Src) => R.bind (R.bind (go (ds.drop (i + 1)) S) fun l S => R.ok (l1 ++ l) S) fun l S => fin2 (acc5 ++ [p.2]) l S) = (fun (l1 : List D) (S : Src) => R.bind (R.ok (p.2 :: l1) S) fun l1 S => R.bind (R.bind (go (ds.drop (i + 1)) S) fun l S => R.ok (l1 ++ l) S) fun l S => fin2 acc5 l S) := by
                                funext l1 S
                                show _ = R.bind (R.bind (go (ds.drop (i + 1)) S) fun l S => R.ok (p.2 :: l1 ++ l) S) fun l S => fin2 acc5 l S
                                rw [R.bind_assoc, R.bind_assoc]
                                congr 1
                                funext l S
                                show fin2 (acc5 ++ [p.2]) (l1 ++ l) S = fin2 acc5 (p.2 :: l1 ++ l) S
                                unfold fin2
                                rw [show acc5 ++ [p.2] ++ (l1 ++ l) = acc5 ++ (p.2 :: l1 ++ l) by simp]
                              rw [ef]
                              exact h5
                            have hle := fin2_len (fun y S' => bind_err (lcGo_err _ _) (fun _ S y S' => bind_err (lc2Go_err _ S) (by intro _ _ _ _ z; cases z) y S') y S') h6
                            refine ⟨accV5, hD8, ?_, hlj, G9, S8, acc5 ++ [p.2], accV5 ++ [v], s5.trans (e6.g.trans (e7.g.trans e9.g)), (e5.trans (e6.trans (e7.trans e9))).put nH, w9.put gn9 nsa hD8 trivial, gn9, upd_same, (RepL.sub (e6.trans (e7.trans e9)).g _ _ ra5).append (RepL.cons r9 RepL.nil), h6⟩
                            rw [ra5.length]
                            rw [List.length_append] at hle
                            exact Nat.lt_of_lt_of_le (Nat.lt_of_succ_le hle) (lim_line (Nat.le_refl _))
                · have hj2 : j = ds1.length := by omega
                  subst hj2
                  obtain ⟨_, st⟩ := iw1 ds1.length G5 H5 S5 s5 w5
                  refine .inl ⟨st (Nat.le_refl _), hlt, G5, S5, acc5, accV5, s1.trans (e24.g.trans s5), e5, w5, gn5, hD5, ra5, ?_⟩
                  rw [List.drop_length] at h5
                  have h5 : post T (E σ) (rlV X.K sa) (((go (ds.drop (i + 1)) S5).bind fun l S => .ok ([] ++ l) S).bind fun l S => fin2 acc5 l S) G H Q := h5
                  rw [R.bind_assoc] at h5
                  exact h5
    · have hi2 : i = ds.length := by omega
      subst hi2
      obtain ⟨_, st⟩ := iw ds.length G' H' S' s1 (fun b o u n z => e'.h b _ n z (fun _ y => nomatch y)) w'
      refine .inl ⟨st (Nat.le_refl _), ?_⟩
      rw [List.drop_length] at h'
      have h' : post T (E σ) (rlV X.K sa) (fin2 acc [] S') G H Q := h'
      unfold fin2 at h'
      rw [List.append_nil] at h'
      by_cases hl : acc.length ≤ lim
      · rw [if_pos hl] at h'
        exact h' (.ref Da) G' H' e' w' ⟨Da, .lst accV, rfl, nH, gn, hD, hl, ra⟩
      · rw [if_neg hl] at h'; exact h'.elim
theorem lc2_err {tg : List Nat} {tp : Bool} {it : Itx} {cond : Exs} {tg1 : List Nat} {tp1 : Bool} {it1 : Itx} {cond1 : Exs} {elt : Ex} (i : Nat) (e : it = .walk i) (ρ : Rho) (S : Src) (y : Exc) (S' : Src) : ev F (.lc2 tg tp it cond tg1 tp1 it1 cond1 elt) ρ S ≠ .err y S' := by
  subst e
  rw [ev]
  refine bind_err (walk_err ρ S) (fun ds S y S' => bind_err (lc2Go_err ds S) (fun l S y S' => ?_) y S') y S'
  split <;> exact fun z => nomatch z
end
end DW

/-! DwDc: dicts written, dict comprehensions. -/
namespace DW
open PySem PyProof.Rows L2
section
variable {X : Cx} {sa : SA} {T : List (Addr × Str)} {F : FT} {E : XS} {pos p1 : Pos} {a b c : Ex} {ea eb ec : Expr} {k : Nat}
theorem se_dct0 : PE X (.Dict [] [] pos) (TX X.K sa T F E .dct0) := pe_dnewK.imp fun σ H Q h => by
  obtain ⟨G, ρ, S, w, en, h⟩ := h
  rw [ev] at h
  exact fun d nd => h.new w (u := .dK []) ⟨Nat.zero_le _, RepD.nil⟩ nd
theorem se_dc {tg : List Nat} {tp : Bool} {it : Itx} {cond : Exs} {kx vx : Ex} {ek e t i : Expr} {ifs : List Expr} {scope : Scope} {own : List (Str × Nat)} (hc : X.calm = true) (hN : X.N.Nodup) (hp : plainE i = true) (hi : PI X t i (TXik X.K sa T F E it)) (ok : BlkOk X.N X.env.scope scope own) (hown : own.map (·.2) = tg)
    (hg : ∀ (s : Shared) (H : Hp) (C : Addr) (cl : List (Str × Addr)) (fp : List Addr), PG (X.blk s H scope (compEnvC scope cl C X.env) fp) t (gT X.K tg tp))
    (ht : ∀ (s : Shared) (H : Hp) (C : Addr) (cl : List (Str × Addr)) (fp : List Addr), PTs (X.blk s H scope (compEnvC scope cl C X.env) fp) ifs (TXc X.K sa T F EF cond))
    (hk : ∀ (s : Shared) (H : Hp) (C : Addr) (cl : List (Str × Addr)) (fp : List Addr), PE (X.blk s H scope (compEnvC scope cl C X.env) fp) ek (TX X.K sa T F EF kx))
    (he : ∀ (s : Shared) (H : Hp) (C : Addr) (cl : List (Str × Addr)) (fp : List Addr), PE (X.blk s H scope (compEnvC scope cl C X.env) fp) e (TX X.K sa T F EF vx)) :
    ∀ σ H Q, TXL X.K sa T F E it (.dc tg tp it cond kx vx) σ H Q → tDc (TXik X.K sa T F E it) (gT X.K tg tp) (TXc X.K sa T F EF cond) (TX X.K sa T F EF kx) (TX X.K sa T F EF vx) (own.map (·.2)) σ H Q := by
  intro σ H Q h
  rw [hown]
  obtain ⟨G, ρ, S, w, en, lk, h⟩ := h
  rw [ev] at h
  refine ⟨G, ρ, S, w, en, lk, ?_⟩
  cases q : evi F it ρ S with
  | stuck => rw [q] at h; exact h.elim
  | err x S1 => rw [q] at h; exact h
  | ok ds S1 =>
    rw [q] at h
    have h : post T (E σ) (rlV X.K sa) ((dcGo (fun d => bindT tg tp d (wipeR ρ tg)) (evc F cond) (ev F kx) (ev F vx) ds [] S1).bind fun l S => .ok (true, .dct l) S) G H Q := h
    intro J G1 H1 hz e1 w1 iw Da nD
    have nH : H Da = none := e1.dom Da nD
    have nsa : Da ≠ sa.1 := w1.sne nD
    refine ⟨fun i m H' => m = ds.length - i ∧ i ≤ ds.length ∧ ∃ G' S' acc accV, Sub G1 G' ∧ Ext sa G H G' H' ∧ Wd X.K sa T G' H' S' ∧ G' Da = none ∧ H' Da = some (.dK accV) ∧ RepD X.K sa G' acc accV ∧ acc.length ≤ i ∧
      post T (E σ) (rlV X.K sa) ((dcGo (fun d => bindT tg tp d (wipeR ρ tg)) (evc F cond) (ev F kx) (ev F vx) (ds.drop i) acc S').bind fun l S => .ok (true, .dct l) S) G H Q, ⟨ds.length, by simp, Nat.zero_le _, G1, S1, [], [], Sub.refl _, e1.put nH, w1.newH nD, w1.gn nD, upd_same, RepD.nil, Nat.le_refl _, ?_⟩, ?_⟩
    · exact h
    · rintro i m H' ⟨rfl, hi, G', S', acc, accV, s1, e', w', gn, hD, ra, hl, h'⟩
      by_cases hlt : i < ds.length
      · obtain ⟨it1, _⟩ := iw i G' H' S' s1 (fun b o u n z => e'.h b _ n z (fun _ y => nomatch y)) w'
        obtain ⟨go, yl⟩ := it1 ds[i] (List.getElem?_eq_getElem hlt)
        rw [List.drop_eq_getElem_cons hlt] at h'
        refine .inr ⟨go, fun H2 => i + 1 ≤ ds.length ∧ ∃ G' S' acc accV, Sub G1 G' ∧ Ext sa G H G' H2 ∧ Wd X.K sa T G' H2 S' ∧ G' Da = none ∧ H2 Da = some (.dK accV) ∧ RepD X.K sa G' acc accV ∧ acc.length ≤ i + 1 ∧
          post T (E σ) (rlV X.K sa) ((dcGo (fun d => bindT tg tp d (wipeR ρ tg)) (evc F cond) (ev F kx) (ev F vx) (ds.drop (i + 1)) acc S').bind fun l S => .ok (true, .dct l) S) G H Q, fun H2 hN => ⟨ds.length - (i + 1), by omega, rfl, hN⟩, fun x H2 y => ?_⟩
        obtain ⟨G2, e2, w2, r2⟩ := yl x H2 y
        have hD2 : H2 Da = some (.dK accV) := e2.h Da _ nsa hD (fun _ z => by cases z)
        have gn2 : G2 Da = none := e2.gnone gn hD
        rw [dcGo] at h'
        cases qb : bindT tg tp ds[i] (wipeR ρ tg) with
        | none => rw [qb] at h'; exact h'.elim
        | some ρ1 =>
          rw [qb] at h'
          have h' : post T (E σ) (rlV X.K sa) (((evc F cond ρ1 S').calm.bind fun b S => if b = true then (ev F kx ρ1 S).calm.bind fun k S => (ev F vx ρ1 S).calm.bind fun v S => (match k.2 with
            | .str x => dcGo (fun d => bindT tg tp d (wipeR ρ tg)) (evc F cond) (ev F kx) (ev F vx) (ds.drop (i + 1)) (DW.putK acc x v.2) S
            | _ => .stuck) else dcGo (fun d => bindT tg tp d (wipeR ρ tg)) (evc F cond) (ev F kx) (ev F vx) (ds.drop (i + 1)) acc S).bind fun l S => .ok (true, .dct l) S) G H Q := h'
          have en2 : EnvOk X.K sa G2 σ ρ := en.sub ((e'.g).trans e2.g)
          refine gT_run w2 (en2.wipe tg) r2 qb fun σ2 en3 hw => ⟨?_, ?_⟩
          · rw [hw tg fun _ z => z, wipe_wipe]
          · refine ⟨G2, ρ1, S', w2, en3, ?_⟩
            cases qc : evc F cond ρ1 S' with
            | stuck => rw [qc] at h'; exact h'.elim
            | err x S3 => rw [qc] at h'; exact h'.elim
            | ok b S3 =>
              rw [qc] at h'
              intro b' G3 H3 e3 w3 rb
              obtain rfl : b' = b := rb
              have hD3 : H3 Da = some (.dK accV) := e3.h Da _ nsa hD2 (fun _ z => by cases z)
              have gn3 : G3 Da = none := e3.gnone gn2 hD2
              cases b' with
              | false =>
                refine iteF ⟨hlt, G3, S3, acc, accV, s1.trans (e2.g.trans e3.g), e'.trans (e2.trans e3), w3, gn3, hD3, RepD.sub (e2.trans e3).g _ _ ra, Nat.le_succ_of_le hl, ?_⟩
                exact h'
              | true =>
                refine iteT ⟨G3, ρ1, S3, w3, en3.sub e3.g, ?_⟩
                have h' : post T (E σ) (rlV X.K sa) (((ev F kx ρ1 S3).calm.bind fun k S => (ev F vx ρ1 S).calm.bind fun v S => (match k.2 with
                  | .str x => dcGo (fun d => bindT tg tp d (wipeR ρ tg)) (evc F cond) (ev F kx) (ev F vx) (ds.drop (i + 1)) (DW.putK acc x v.2) S
                  | _ => .stuck)).bind fun l S => .ok (true, .dct l) S) G H Q := h'
                cases qk : ev F kx ρ1 S3 with
                | stuck => rw [qk] at h'; exact h'.elim
                | err x S4 => rw [qk] at h'; exact h'.elim
                | ok kp S4 =>
                  rw [qk] at h'
                  have h' : post T (E σ) (rlV X.K sa) (((ev F vx ρ1 S4).calm.bind fun v S => (match kp.2 with
                    | .str x => dcGo (fun d => bindT tg tp d (wipeR ρ tg)) (evc F cond) (ev F kx) (ev F vx) (ds.drop (i + 1)) (DW.putK acc x v.2) S
                    | _ => .stuck)).bind fun l S => .ok (true, .dct l) S) G H Q := h'
                  intro yv G4 H4 e4 w4 ro
                  obtain ⟨G5, s5, e5, w5, r5⟩ := frozen w3 e4 w4 ro
                  have hD4 : H4 Da = some (.dK accV) := e5.h Da _ nsa hD3 (fun _ z => by cases z)
                  have gn5 : G5 Da = none := e5.gnone gn3 hD3
                  refine ⟨G5, ρ1, S4, w5, en3.sub (e3.g.trans e5.g), ?_⟩
                  cases qe : ev F vx ρ1 S4 with
                  | stuck => rw [qe] at h'; exact h'.elim
                  | err x S6 => rw [qe] at h'; exact h'.elim
                  | ok p S6 =>
                    rw [qe] at h'
                    have h' : post T (E σ) (rlV X.K sa) ((match kp.2 with
                      | .str x => dcGo (fun d => bindT tg tp d (wipeR ρ tg)) (evc F cond) (ev F kx) (ev F vx) (ds.drop (i + 1)) (DW.putK acc x p.2) S6
                      | _ => .stuck).bind fun l S => .ok (true, .dct l) S) G H Q := h'
                    intro v G6 H6 e6 w6 ro6
                    obtain ⟨G7, s7, e7, w7, r7⟩ := frozen w5 e6 w6 ro6
                    have hD6 : H6 Da = some (.dK accV) := e7.h Da _ nsa hD4 (fun _ z => by cases z)
                    have gn7 : G7 Da = none := e7.gnone gn5 hD4
                    obtain ⟨ko, kd⟩ := kp
                    obtain ⟨kx1, rfl⟩ : ∃ z, kd = .str z := by
                      cases kd with
                      | str z => exact ⟨z, rfl⟩
                      | _ => exact h'.elim
                    have ey : yv = .str kx1 := by
                      have r5' : Rep X.K sa G5 (.str kx1) yv := r5
                      rw [Rep] at r5'; exact r5'
                    have rput := RepD.put r7 (RepD.sub (e2.trans (e3.trans (e5.trans e7))).g _ _ ra) (k := kx1)
                    refine ⟨accV, Sum.inr kx1, ey, hD6, ?_, hlt, G7, S6, DW.putK acc kx1 p.2, L2.putK accV (Sum.inr kx1) v, s1.trans (e2.g.trans (e3.g.trans (e5.g.trans e7.g))), (e'.trans (e2.trans (e3.trans (e5.trans e7)))).put nH, w7.put gn7 nsa hD6 trivial, gn7, upd_same, rput, ?_, h'⟩
                    · rw [ra.length]
                      exact Nat.lt_of_lt_of_le (Nat.lt_of_le_of_lt hl hlt) (lim_line hz)
                    · have := putK_len acc kx1 p.2
                      omega
      · have hi2 : i = ds.length := by omega
        subst hi2
        obtain ⟨_, st⟩ := iw ds.length G' H' S' s1 (fun b o u n z => e'.h b _ n z (fun _ y => nomatch y)) w'
        refine .inl ⟨st (Nat.le_refl _), ?_⟩
        rw [List.drop_length] at h'
        have h' : post T (E σ) (rlV X.K sa) (.ok (true, .dct acc) S') G H Q := h'
        exact h' (.ref Da) G' H' e' w' ⟨Da, .dK accV, rfl, nH, gn, hD, Nat.le_trans hl hz, ra⟩
theorem dcGo_err {bd : D → Option Rho} {cc : Rho → Src → R Bool} {kk vv : Rho → Src → R (Bool × D)} : ∀ (ds : List D) (acc : List (Str × D)) (S : Src) (y : Exc) (S' : Src), dcGo bd cc kk vv ds acc S ≠ .err y S'
  | [], acc, S, y, S' => fun z => nomatch z
  | d :: ds, acc, S, y, S' => by
    rw [dcGo]
    cases bd d with
    | none => exact fun z => nomatch z
    | some ρ =>
      refine bind_err (fun _ _ => calm_err) (fun b S y S' => ?_) y S'
      cases b with
      | false => exact dcGo_err ds acc S y S'
      | true =>
        refine bind_err (fun _ _ => calm_err) (fun k S y S' => bind_err (fun _ _ => calm_err) (fun v S y S' => ?_) y S') y S'
        obtain ⟨ko, kd⟩ := k
        cases kd with
        | str z => exact dcGo_err ds _ S y S'
        | _ => exact fun z => nomatch z
theorem dc_err {tg : List Nat} {tp : Bool} {it : Itx} {cond : Exs} {kx vx : Ex} (i : Nat) (e : it = .walk i) (ρ : Rho) (S : Src) (y : Exc) (S' : Src) : ev F (.dc tg tp it cond kx vx) ρ S ≠ .err y S' := by
  subst e
  rw [ev]
  exact bind_err (walk_err ρ S) (fun ds S y S' => bind_err (dcGo_err ds [] S) (by intro _ _ _ _ z; cases z) y S') y S'
/-- name = {k: v for ..} on one line, the name a local -/
theorem ps_setDc {i : Nat} {y : Str} {py : Pos} {kx vx tg iter : Expr} {ifs : List Expr} {scope : Scope} {own : List (Str × Nat)} {pos spos : Pos} {wi : TI} {g : TG} {tt : TT} {tk tv : TE} (hc : X.calm = true) (hN : X.N.Nodup) (hy : X.N[i]? = some y) (hyl : X.env.scope.names.lookup y = some .local)
    (hsw : swapsWith (.DictComp kx vx [⟨tg, iter, ifs, 0⟩] scope pos) (some (.Name y py)) spos.line X.env = pure true) (hi : PI X tg iter wi) (ok : BlkOk X.N X.env.scope scope own)
    (hg : ∀ (s : Shared) (H : Hp) (C : Addr) (cl : List (Str × Addr)) (fp : List Addr), PG (X.blk s H scope (compEnvC scope cl C X.env) fp) tg g) (ht : ∀ (s : Shared) (H : Hp) (C : Addr) (cl : List (Str × Addr)) (fp : List Addr), PTs (X.blk s H scope (compEnvC scope cl C X.env) fp) ifs tt)
    (hk : ∀ (s : Shared) (H : Hp) (C : Addr) (cl : List (Str × Addr)) (fp : List Addr), PE (X.blk s H scope (compEnvC scope cl C X.env) fp) kx tk)
    (he : ∀ (s : Shared) (H : Hp) (C : Addr) (cl : List (Str × Addr)) (fp : List Addr), PE (X.blk s H scope (compEnvC scope cl C X.env) fp) vx tv) (hs : ∀ x, foldedSetIterable iter X.env x = pure x) :
    PS X (.Assign [.Name y py] (.DictComp kx vx [⟨tg, iter, ifs, 0⟩] scope pos) spos) (tAsg (tDc wi g tt tk tv (own.map (·.2))) (gName i)) := by
  refine ⟨fun pins s σ H D I h => ?_⟩
  rw [exec_Assign_Name_used _ _ _ _ hsw]
  refine wpAny_bind (wpAny_standAt (wpAny_bind ?_))
  show wpAny _ X.A (do let _ ← comprehension (.DictComp kx vx [⟨tg, iter, ifs, 0⟩] scope pos) scope X.env (firstIterPos [⟨tg, iter, ifs, 0⟩] pos) newDict false (eval iter X.env) (some (assign (.Name y py) X.env))) _ _ s
  have h : tDc wi g tt tk tv (own.map (·.2)) σ H (fun x H1 => gName i x σ H1 D.nx) := h
  refine wpAny_bind (thn (dc_core (Qf := fun _ s' => SP X pins D .next s') hc hN I hi ok hg ht hk he hs h fun L C s' m H' I' q hn f => ?_) fun _ s' hq => wpAny_pure (wpAny_pure hq))
  show wpAny _ _ (assign (.Name y py) X.env (.ref L)) _ _ _
  refine wpAny_assign_Name (store_ok2 (v := V.ref L) I' hN hy (.inl hyl) rfl (fun s2 I2 ⟨a, sb, ha⟩ => ?_) (.inr hyl))
  obtain ⟨f0, f1, f2, f3, f4, f5⟩ := f
  have haC : C ≠ a := by
    rcases ha with z | z
    · rw [z]; exact f1
    · exact fun e => f4 y a z e.symm
  refine ⟨m, hn.sameBut sb haC, fun h3 sb3 => ?_⟩
  exact ⟨_, H', I2.turned (t' := s2.toks) (fun b o hb e => (sb3.2 b hb).trans e) f0 f1 f3 f4 f5, q⟩
theorem sw_trueD {kx vx : Expr} {gs : List Comprehension} {scope : Scope} {pos py : Pos} {y : Str} {l : Nat} {env : PySem.Env} (hk : env.scope.kind = .function) (hy : env.scope.names.lookup y = some .local) (hl : (py.line == pos.line) = true)
    (ha : (scope.names.any fun (n, k) => n == y && (k == .local || k == .cell)) = false) : swapsWith (.DictComp kx vx gs scope pos) (some (.Name y py)) l env = pure true := by
  have ky : env.kindOf y = some .local := hy
  have hb : env.blockKind = .function := by unfold PySem.Env.blockKind; rw [hk]; rfl
  unfold swapsWith
  simp only [hb, ky, ha, Expr.pos, hl]
  rfl
end
end DW

/-! DwLam: f(lambda: body). -/
namespace DW
open PySem PySem.Spec PyProof.Rows L2 LamX
section
variable {X : Cx} {pp : List (Addr × Obj)} {σ : L2.St} {H : Hp} {s : Shared}
/-- what a lambda's making leaves of the heap -/
structure LExt (H H1 : Hp) : Prop where
  keep : ExtN H H1
  dom : ∀ b, H1 b = none → H b = none
theorem lam_new {T : List (Addr × Str)} {c P : Addr} {params : Arguments} {body : Expr} {scope : Scope} {pos : Pos} {Ex0 : Value → Shared → Prop} {Q : Value → Shared → Prop} (J : Inv X pp σ H s) (TB : TabB X.base X.mg c P) (hcode : X.env.code = .ref c)
    (hm : (P, X.env.qual ++ "<lambda>") ∈ T) (hu : ∀ p ∈ T, p.1 = P → p.2 = X.env.qual ++ "<lambda>") (hT : Tabs T H) (hdef : defaultsOf params X.env = ([], [])) (hfree : ∀ y ∈ scope.names, y.2 = .free → ∃ c, X.env.cells.lookup y.1 = some c)
    (want : ∀ (f c' : Addr) (pm ctv : Value) (H1 : Hp) (s' : Shared), Inv X pp σ H1 s' → LExt H H1 → Tabs T H1 →
      s'.heap.get? f = some (PySem.W.kla_obj "<lambda>" (X.env.qual ++ "<lambda>") params body scope (cloFrom X.env.cells scope.names []) pm c' ctv) → H1 f = none → f ∉ frs X.stack → H1 c' = some (CodeO c' (X.env.qual ++ "<lambda>")) → Q (.ref f) s') :
    wpAny (model X.prog X.w) X.A (eval (.Lambda params body scope pos) X.env) Q Ex0 s := by
  obtain ⟨ps, hP, ht, ha⟩ := hT _ hm
  have bP : s.heap.BuiltinsAt X.mg P := TB.bm.keeps J.bk
  have atP : s.heap.get? P = some { cls := .none, data := .fields ps } := J.hok P _ hP
  have away : ∀ f, s.heap.objs.size ≤ f → f ∉ frs X.stack := fun f hf z => by
    rcases List.mem_cons.mp (J.stkSub _ z) with e | e
    · have l1 := J.lt
      rw [← e] at l1
      exact absurd (Nat.lt_of_lt_of_le l1 hf) (Nat.lt_irrefl _)
    · exact J.nofs hf e
  refine PySem.W.kla_eval hdef ?_
  cases among : codeAmong pos ps.toList with
  | some cv =>
    obtain ⟨c', rfl, hco⟩ := ha pos cv among
    refine PySem.W.kla_makeFunctionHit (mg := X.mg) (c := c) (P := P) (ps := ps) (closure_ok hfree) J.ok.glob (J.mod.glob.keeps J.bk) hcode (TB.code.keeps J.bk) atP ht among bP fun ctv h2 tk keep grown => ?_
    have J1 : Inv X pp σ H { s with heap := h2.push (PySem.W.kla_obj "<lambda>" (X.env.qual ++ "<lambda>") params body scope (cloFrom X.env.cells scope.names []) ((X.mg "__name__").getD .none) c' ctv), toks := tk } := J.kept fun b o e => Heap.get?_push_of_some _ (keep b o e)
    exact want h2.objs.size c' ((X.mg "__name__").getD .none) ctv H _ J1 ⟨ExtN.refl H, fun _ z => z⟩ hT (Heap.get?_push_size _ rfl) (J.hok.fresh grown) (away _ grown) hco
  | none =>
    refine PySem.W.kla_makeFunction (mg := X.mg) (c := c) (P := P) (ps := ps) (closure_ok hfree) J.ok.glob (J.mod.glob.keeps J.bk) hcode (TB.code.keeps J.bk) atP ht among TB.gP bP fun c' ctv h2 tk keep lo lt rec tab => ?_
    obtain ⟨c2, oc, vs, t, e2, hoc, hd, hv⟩ := rec
    cases e2
    have grown : s.heap.objs.size ≤ h2.objs.size := Nat.le_trans lo (Nat.le_of_lt lt)
    have nC : H c' = none := J.hok.fresh lo
    have J1 := inv_table (t' := tk) (more := #[rawInt pos.line, rawInt pos.col, .ref c']) (h' := h2.push (PySem.W.kla_obj "<lambda>" (X.env.qual ++ "<lambda>") params body scope (cloFrom X.env.cells scope.names []) ((X.mg "__name__").getD .none) c' ctv)) J hP
      (fun b o hb e => Heap.get?_push_of_some _ (keep b o hb e)) (Heap.get?_push_of_some _ tab) lo ⟨oc, vs, t, Heap.get?_push_of_some _ hoc, hd, hv⟩
    have eN : ExtN H (upd (upd H P (.tbl (ps ++ #[rawInt pos.line, rawInt pos.col, .ref c']))) c' (CodeO c' (X.env.qual ++ "<lambda>"))) := fun b o e n => by
      rw [upd_ne (ne_of_none e nC), upd_ne fun z => n ps (Option.some.inj (e.symm.trans (by rw [z]; exact hP)))]
      exact e
    have dm : ∀ b, upd (upd H P (.tbl (ps ++ #[rawInt pos.line, rawInt pos.col, .ref c']))) c' (CodeO c' (X.env.qual ++ "<lambda>")) b = none → H b = none := fun b z => by
      by_cases b1 : b = c'
      · rw [b1, upd_same] at z; cases z
      · rw [upd_ne b1] at z
        by_cases b2 : b = P
        · rw [b2, upd_same] at z; cases z
        · rw [upd_ne b2] at z; exact z
    have eL : (ps ++ #[rawInt pos.line, rawInt pos.col, .ref c']).toList = ps.toList ++ [rawInt pos.line, rawInt pos.col, .ref c'] := by simp
    refine want h2.objs.size c' ((X.mg "__name__").getD .none) ctv _ _ J1 ⟨eN, dm⟩ (fun p hp => ?_) (Heap.get?_push_size _ rfl) ?_ (away _ grown) upd_same
    · by_cases hb : p.1 = P
      · rw [hu p hp hb, hb]
        refine ⟨_, by rw [upd_ne (ne_of_none hP nC), upd_same], by rw [eL]; exact PySem.TriplesOk_snoc _ _ _ _ ht, fun p' cv hcv => ?_⟩
        rw [eL] at hcv
        rcases among_app _ ht hcv with z | z
        · obtain ⟨c0, a1, a2⟩ := ha p' cv z
          exact ⟨c0, a1, eN _ _ a2 codeO_ne⟩
        · exact ⟨c', z, upd_same⟩
      · obtain ⟨ps', a1, a2, a3⟩ := hT p hp
        refine ⟨ps', by rw [upd_ne (ne_of_none a1 nC), upd_ne hb]; exact a1, a2, fun p' cv hcv => ?_⟩
        obtain ⟨c0, z1, z2⟩ := a3 p' cv hcv
        exact ⟨c0, z1, eN _ _ z2 codeO_ne⟩
    · have n1 : h2.objs.size ≠ c' := Nat.ne_of_gt lt
      have n2 : h2.objs.size ≠ P := Nat.ne_of_gt (Nat.lt_of_lt_of_le (Heap.lt_size atP) grown)
      rw [upd_ne n1, upd_ne n2]
      exact J.hok.fresh grown
/-- a(), in the def that got the lambda; W may look at the slots -/
theorem act_run {CXg : CXT} {Eg : XK} {Ng : List Str} {qg : Str} {sg : Scope} {g f c' : Addr} {cdg pm ctv : Value} {params : Arguments} {body : Expr} {scope : Scope} {k i : Nat} {a : Str} {pn : List (Addr × Obj)} {xe : Value → Shared → Prop} {W : WX} {tb : XK → TE} {p1 p2 : Pos}
    (J : Inv X pp σ H s) (L : LamS X.env.scope scope) (hf : s.heap.get? f = some (PySem.W.kla_obj "<lambda>" (X.env.qual ++ "<lambda>") params body scope (cloFrom X.env.cells scope.names []) pm c' ctv)) (hfn : H f = none) (hfr : f ∉ frs X.stack)
    (hbind : bindArgs (PySem.W.kla_fn "<lambda>" (X.env.qual ++ "<lambda>") params body scope (cloFrom X.env.cells scope.names []) pm (.ref c') ctv) ⟨[], []⟩ = pure [])
    (tk : Takes ((cxOf CXg X.prog X.w X.K X.mg X.base Ng qg sg g cdg X.A X.stack s H Eg).tr pn xe) W) (hr : Room (k + 1) (X.A.deeper (envOfC qg sg s.heap.objs.size g cdg)))
    (hbody : ∀ (A : Around) (outer : List Env) (s : Shared) (H : Hp) (E : XK), Room k (A.deeper (lamEnv X scope s.heap.objs.size f c')) → PE (lamCx X A outer s H E scope f c') body (tb E))
    (hN : Ng[i]? = some a) (hv : Vis sg a) (hd : (a == ("__debug__" : Str)) = false) (hcd : (a == ("__classdict__" : Str)) = false) :
    PE ((cxOf CXg X.prog X.w X.K X.mg X.base Ng qg sg g cdg X.A X.stack s H Eg).tr pn xe) (.Call (.Name a p1) [] [] p2)
      (fun σZ HZ Q => σZ[i]? = some (some (.ref f)) ∧ HZ c' = some (CodeO c' (X.env.qual ++ "<lambda>")) ∧ ∃ E : XK, (∀ cls d H', E cls d H' → W cls d σZ H') ∧ tb E σ HZ Q) := by
  refine ⟨fun pz sz σz Hz Q Iz want => ?_⟩
  obtain ⟨hs, hc, E, hW, ht⟩ := want
  refine wpAny_Call_Name_kw (thn ((pe_var (pos := p1) (i := i) hN hv hd hcd).run pz sz σz Hz (fun v H1 => v = .ref f ∧ H1 = Hz) Iz ⟨.ref f, hs, rfl, rfl⟩) fun u s1 ⟨v, H1, I1, r1, q1⟩ => ?_)
  obtain ⟨rfl, rfl⟩ := q1
  obtain rfl : u = Value.ref f := r1
  have of1 : s1.heap.get? f = some (PySem.W.kla_obj "<lambda>" (X.env.qual ++ "<lambda>") params body scope (cloFrom X.env.cells scope.names []) pm c' ctv) := I1.base.keep f _ hf hfn hfr fun z => nomatch (show f ∈ ([] : List Addr) from z)
  have un : Un (frs X.stack) [] H H1 s.heap s1.heap := I1.base
  obtain ⟨⟨oc, vs, t, hoc, hdc, hvc⟩, _, _⟩ := I1.hok c' _ hc
  refine PySem.W.callWith_F0 ⟨_, _, _, _, of1⟩ ?_
  have rc : codeAny (model X.prog X.w) (X.A.deeper (envOfC qg sg s.heap.objs.size g cdg)) (.call (.ref f) ⟨[], []⟩) (CR (L2.CX X.prog X.w) (envOfC qg sg s.heap.objs.size g cdg :: X.stack) X.prog X.w H1 s1 Q E) s1 := by
    refine PySem.W.kla_callFunE hr.depth of1 rfl L.co L.gen rfl ⟨c', oc, vs, t, rfl, hoc, hdc, hvc⟩ ?_
    rw [hbind]
    refine wpAny_pure (wpAny_newFunctionEnv (fun y hy => (L.own y hy).2) (fun y hy => absurd hy (by simp)) (fun hh hns hsb => ⟨I1.nolimit.fresh _ hsb, ?_⟩) L.kind)
    show codeAny _ _ (.expr body (lamEnv X scope s1.heap.objs.size f c')) _ _
    have kp : ∀ b o, s1.heap.get? b = some o → hh.get? b = some o := fun b o e => hsb.extBut b o (Nat.ne_of_lt (Heap.lt_size e)) (Heap.get?_push_of_some _ e)
    have JL : Inv (lamCx X (X.A.deeper (envOfC qg sg s.heap.objs.size g cdg)) (envOfC qg sg s.heap.objs.size g cdg :: X.stack) s1 H1 E scope f c') [] σ H1 { s1 with heap := hh, toks := s1.toks + ([] : List (Str × Value)).length } := lam_start2 J L I1.env0 hr.hd un hns kp
    refine PySem.W.kla_codeExpr (wpAny_mono ((hbody _ _ s1 H1 E (hr.deeper _)).run [] _ _ H1 Q JL ht) (fun v s' hq => ?_) fun e s' hq => hq)
    obtain ⟨w', H', J', rv, q⟩ := hq
    exact ⟨w', H', J'.os, J'.bare, J'.base, J'.hok, rv, q⟩
  refine wpAny_call (codeAny_mono rc fun r s' hq => ?_)
  cases r with
  | error e => exact tk e s' (XE.of_call I1 (fun cls d H' z => hW cls d H' z) hq)
  | ok fl => cases fl <;> first | exact I1.after hq | exact False.elim hq
end
/-- the def that calls what it got: a calls it; TT: what it makes of the lambda's reading -/
def Gives (X : Cx) (Ng : List Str) (x : Str) (sg : Scope) (g : Addr) (cdg : Value) (bg : List Stmt) (a : Str) (q : Str) (TT : (XK → Hp → VK → Prop) → Hp → VK → Prop) : Prop :=
  ∀ (f c' : Addr) (s : Shared) (H : Hp) (Q : VK) (tl : XK → Hp → VK → Prop),
    (∀ (W : WX) (pn : List (Addr × Obj)) (xe : Value → Shared → Prop) (p1 p2 : Pos), Takes ((cxOf CX0 X.prog X.w X.K X.mg X.base Ng x sg g cdg X.A X.stack s H E0).tr pn xe) W →
      PE ((cxOf CX0 X.prog X.w X.K X.mg X.base Ng x sg g cdg X.A X.stack s H E0).tr pn xe) (.Call (.Name a p1) [] [] p2) (fun σZ HZ Q => σZ[0]? = some (some (.ref f)) ∧ HZ c' = some (CodeO c' q) ∧ ∃ E : XK, (∀ cls d H', E cls d H' → W cls d σZ H') ∧ tl E HZ Q)) →
    H c' = some (CodeO c' q) → TT tl H Q →
    ∃ t, PSs (cxOf CX0 X.prog X.w X.K X.mg X.base Ng x sg g cdg X.A X.stack s H E0).nox bg t ∧ t { nx := fun _ H' => Q .non H', rt := Q } (L2.start Ng [.ref f]) H
def tLamx (T : List (Addr × Str)) (TT : (XK → Hp → VK → Prop) → Hp → VK → Prop) (t : XK → TE) : TE := fun σ H Q => Tabs T H ∧ ∀ H1, LExt H H1 → Tabs T H1 → TT (fun E H' Q' => t E σ H' Q') H1 Q
theorem pe_lamx {X : Cx} {T : List (Addr × Str)} {TT : (XK → Hp → VK → Prop) → Hp → VK → Prop} {x a : Str} {g c P : Addr} {k : Nat} {pg : Arguments} {bg : List Stmt} {sg : Scope} {dV kV doc pm cdv ct oc : Value} {an od : Option Addr} {osl : Array (Option Value)} {Ng : List Str}
    {params : Arguments} {body : Expr} {scope : Scope} {t : XK → TE} {p lpos pos : Pos} (hg : Gl X x) (hm : X.mg x = some (.ref g)) (hk : PySem.W.keepIn X.K (.ref g) = true)
    (lk : X.K.lookup g = some ⟨oc, od, .func (PySem.W.fnOf x x pg bg sg dV kV doc pm an cdv ct), osl⟩) (hcg : PySem.W.codeIn X.K cdv x = true) (hb : L2.Binds X.K (PySem.W.fnOf x x pg bg sg dV kV doc pm an cdv ct) [a] []) (Sg : FnScope Ng [a] sg) (hNg : Ng[0]? = some a)
    (hG : Gives X Ng x sg g cdv bg a (X.env.qual ++ "<lambda>") TT)
    (TB : TabB X.base X.mg c P) (hcode : X.env.code = .ref c) (hmT : (P, X.env.qual ++ "<lambda>") ∈ T) (hu : ∀ p ∈ T, p.1 = P → p.2 = X.env.qual ++ "<lambda>") (hr : Room (k + 2) X.A) (L : LamS X.env.scope scope) (hdef : defaultsOf params X.env = ([], []))
    (hbind : ∀ (q : Str) (cl : List (Str × Addr)) (pm cv ctv : Value), bindArgs (PySem.W.kla_fn "<lambda>" q params body scope cl pm cv ctv) ⟨[], []⟩ = pure [])
    (hbody : ∀ (A : Around) (outer : List Env) (s : Shared) (H : Hp) (E : XK) (f c' : Addr), Room k (A.deeper (lamEnv X scope s.heap.objs.size f c')) → PE (lamCx X A outer s H E scope f c') body (t E))
    (hdb : (x == ("__debug__" : Str)) = false) (hd : (a == ("__debug__" : Str)) = false) (hcd : (a == ("__classdict__" : Str)) = false) :
    PE X (.Call (.Name x p) [.Lambda params body scope lpos] [] pos) (tLamx T TT t) := by
  refine ⟨fun pp s σ H Q J want => ?_⟩
  obtain ⟨hT, want⟩ := want
  refine wpAny_Call_Name_kw (ld_glob J hg hm ?_ hdb)
  refine PySem.W.callWith_K (h₀ := X.base) J.ok.mod.kin hk ?_ (by rfl) (by rfl)
  show wpAny _ _ (spliced ((false, eval (.Lambda params body scope lpos) X.env) :: backTo pos (starEach [] X.env))) _ _ s
  refine Calls.spliced_cons (lam_new J TB hcode hmT hu hT hdef (L.has J.ok) fun f c' pm' ctv H1 s' J1 eN T1 hf hfn hfr hco => Calls.spliced_nil ⟨J1.kIn, ?_⟩)
  have va : Vis sg a := (Sg.par a (List.mem_cons_self ..)).elim .inl fun z => .inr (.inl z)
  have rc : codeAny (model X.prog X.w) X.A (.call (.ref g) ⟨[.ref f], []⟩) (CR CX0 X.stack X.prog X.w H1 s' Q E0) s' := by
    refine run_ofS (N := Ng) (ps := [a]) (us := [.ref f]) (vs := [.ref f]) lk hcg Sg hr J1.env0 (hb s' [.ref f] J1.kIn rfl) (.cons rfl .nil) rfl fun hr' => ?_
    obtain ⟨t', ht', hq'⟩ := hG f c' s' H1 Q (fun E H' Q' => t E σ H' Q') (fun W pn xe p1 p2 tk => act_run (i := 0) (tb := t) J1 L hf hfn hfr (hbind _ _ _ _ _) tk hr' (fun A outer s H E hr2 => hbody A outer s H E f c' hr2) hNg va hd hcd) hco (want H1 eN T1)
    exact ⟨t', ht'.nox, hq'⟩
  refine wpAny_call (codeAny_mono rc fun r s2 hq => ?_)
  cases r with
  | error e => exact (show False from hq).elim
  | ok fl => cases fl <;> first | exact J1.after hq | exact False.elim hq
end DW

/-! DwTry: try with several clauses, each except x as n. -/
namespace DW
open PySem PySem.Spec PyProof.Rows L2
/-- the clauses: the class, the slot of the name, the suite's reading -/
abbrev Cl := Value × Nat × (Addr → Value → Option Addr → TS)
def wCls (K : PySem.W.Frag) (Wout : WX) (D : Ends) : List Cl → WX
  | [] => Wout
  | (c, i, ts) :: r => fun cls d σ H => ∃ b, PySem.W.exmOne K cls c = some b ∧
      (b = true → ∀ a, H a = none → ts a cls d { nx := fun σ' H' => D.nx (σ'.set i none) H', rt := D.rt, bk := fun σ' H' => D.bk (σ'.set i none) H', ct := fun σ' H' => D.ct (σ'.set i none) H' } (σ.set i (some (.ref a))) H) ∧ (b = false → wCls K Wout D r cls d σ H)
inductive ClsOk (X : Cx) : List ExceptHandler → List Cl → Prop
  | nil : ClsOk X [] []
  | cons {x n : Str} {c : Value} {i : Nat} {ts : Addr → Value → Option Addr → TS} {b0 : Stmt} {suite : List Stmt} {np pos' : Pos} {hds : List ExceptHandler} {l : List Cl} (hc : Names X x c) (hi : X.N[i]? = some n) (hln : X.env.kindOf n = some .local)
      (hsu : ∀ (a : Addr) (oe : Obj) (cls : Value) (d : Option Addr) (pn : List (Addr × Obj)), Zc cls d oe → (∃ vs, oe.data = .fields vs) → PSs (X.suite a ((a, oe) :: pn)) (b0 :: suite) (ts a cls d)) (r : ClsOk X hds l) :
      ClsOk X (.ExceptHandler (some (.Name x np)) (some n) (b0 :: suite) pos' :: hds) ((c, i, ts) :: l)
section
variable {X : Cx} {body : List Stmt} {h0 : ExceptHandler} {hds : List ExceptHandler} {l : List Cl} {pos : Pos} {tb : WX → TS} {Wout : WX}
theorem ps_tryx (hs : X.stack = X.env :: X.outer) (hf : X.env.frame = some X.env.locals) (nd : X.N.Nodup) (tk : Takes X Wout)
    (hb : ∀ (W : WX) (pn : List (Addr × Obj)) (xe : Value → Shared → Prop), Takes (X.tr pn xe) W → PassesOwn (model X.prog X.w) X.A X.env xe → PSs (X.tr pn xe) body (tb W))
    (hh : ClsOk X (h0 :: hds) l) : PS X (.Try body (h0 :: hds) [] [] pos) (fun D σ H => tb (wCls X.K Wout D l) D σ H) := by
  refine ⟨fun pp s σ H D J want => ?_⟩
  have ok := J.ok
  have fr : X.A.frames = some (X.env :: X.outer) := by rw [ok.frames, hs]
  have run := hb (wCls X.K Wout D l) (X.pn ++ pp) (fun e s1 => wpAny (model X.prog X.w) X.A (noteFrame e X.env) (fun _ s2 => wpAny (model X.prog X.w) X.A (setFlight e none) (fun _ s3 =>
    wpAny (model X.prog X.w) X.A (handleBy e X.env (h0 :: hds)) (SP X pp D) X.xe s3) X.xe s2) X.xe s1) (fun u s' air => ?_) PassesOwn.looking
  · refine wpAny_Try_except (wpAny_mono (run.run [] s σ H D (J.toTry _) want) (fun f s1 out => ?_) fun e s1 he => he)
    cases f with
    | next =>
      obtain ⟨σ', H', J', q⟩ := out
      exact wpAny_execs_nil ⟨σ', H', J'.ofTry ok, q⟩
    | brk =>
      obtain ⟨σ', H', J', q⟩ := out
      exact ⟨σ', H', J'.ofTry ok, q⟩
    | cont =>
      obtain ⟨σ', H', J', q⟩ := out
      exact ⟨σ', H', J'.ofTry ok, q⟩
    | ret u =>
      obtain ⟨v, σ', H', J', r, q⟩ := out
      exact ⟨v, σ', H', J'.ofTry ok, r, q⟩
  · obtain ⟨a, B, sI, p2, σ', H', cls, d, rfl, J', nb, up, sky, na, os, ag, wish⟩ := air
    have JI : Inv X pp σ' H' sI := J'.ofTry ok
    have sky2 : Sky B (X.env :: X.outer) a (Zc cls d) X.env.locals s'.heap := by rw [← hs]; exact sky
    show wpAny (model X.prog X.w) X.A (noteFrame (.ref a) X.env) _ _ _
    refine Sky.land Zc.steady fr hf sky2 fun h3 fl3 up3 => ?_
    have J3 : Inv X pp σ' H' { s' with heap := h3 } := JI.landed nb fl3.1 (up.trans up3) os ag
    obtain ⟨oe3, vs3, he3, hz3, hd3⟩ := fl3.there
    have noFrame : a ∉ frs (X.env :: X.outer) := fun hm => by
      obtain ⟨_, o', e', hnf⟩ := fl3.2.2.1.mem hm
      rw [he3] at e'
      cases e'
      exact hnf _ hd3
    have nL : a ≠ X.env.locals := fun z => noFrame (List.mem_filterMap.mpr ⟨X.env, List.mem_cons_self, by rw [hf, z]⟩)
    have nF : a ∉ X.fs := fun hm => by
      obtain ⟨e, he, q⟩ := List.mem_filterMap.mp hm
      exact noFrame (List.mem_filterMap.mpr ⟨e, List.mem_cons_of_mem _ he, q⟩)
    have S3 := J3.suite he3 hd3 na nL nF
    have go : ∀ {hs' : List ExceptHandler} {l' : List Cl}, ClsOk X hs' l' → wCls X.K Wout D l' cls d σ' H' → wpAny (model X.prog X.w) X.A (handleBy (.ref a) X.env hs') (SP X pp D) X.xe { s' with heap := h3 } := by
      intro hs' l' hk
      induction hk with
      | nil =>
        intro w
        obtain ⟨k1, k2, k3, oe, vs, T, oT, ts', he, hz, hd, h1, hr⟩ := id fl3
        have fin : wpAny (model X.prog X.w) X.A (setFlight (.ref a) X.env.frame) (fun _ s4 => wpAny (model X.prog X.w) X.A (throw (.ref a) : Sem Flow) (SP X pp D) X.xe s4) X.xe { s' with heap := h3 } := by
          rw [hf]
          exact HandSPX.setFlight_upZ fl3 fun h4 hh4 up4 => wpAny_throw (tk _ _ ⟨a, B, sI, pp, σ', H', cls, d, rfl, JI, nb, (up.trans up3).trans up4, .inr (.inr (by rw [hs]; exact hh4)), na, os, ag, w⟩)
        refine wpAny_handleBy_nil ?_
        unfold PySem.passOn
        refine wpAny_bind (wpAny_field he hd h1 ?_)
        rw [if_neg (show ¬ ((Value.ref T == Value.none) = true) from by simp)]
        first | exact wpAny_bind (wpAny_pure (wpAny_bind fin)) | exact wpAny_bind fin
      | @cons x n c i ts b0 suite np pos' hds2 l2 hc hi hln hsu r ih =>
        intro w
        obtain ⟨b, hb1, yes, no⟩ := w
        refine wpAny_handleBy_cons (codeAny_handlers_test ?_) (by intro q; cases q)
        have LT : PySem.W.Looks (model X.prog X.w) h3 (typeOf (.ref a)) cls := fun A Q E s k q => wpAny_typeOf_ref (k _ _ he3) (by rw [hz3.1]; exact q)
        have LM := PySem.W.exm_one (M := model X.prog X.w) J3.kIn LT hb1
        have test : ∀ {Q : Value → Shared → Prop} {E : Value → Shared → Prop}, Q c { s' with heap := h3 } → wpAny (model X.prog X.w) (X.A.mark (some (.ref a))) (eval (.Name x np) X.env) Q E { s' with heap := h3 } := fun {Q E} q => by
          obtain ⟨gl, db, hm | ⟨hm, hv, hnn⟩⟩ := hc
          · exact ld_glob (X := X.suite a ((a, oe3) :: (X.pn ++ pp))) S3 gl hm q db
          · exact ld_blt (X := X.suite a ((a, oe3) :: (X.pn ++ pp))) S3 gl hm hv q hnn db
        refine test (LM.here ?_)
        cases b with
        | false => exact ih (no rfl)
        | true =>
          refine codeAny_handlers_suite_as (HandSPX.lands_againZ fl3 fun h4 fl4 up4 => ?_)
          have J4 : Inv X pp σ' H' { s' with heap := h4 } := JI.landed nb fl4.1 ((up.trans up3).trans up4) os ag
          obtain ⟨oe4, vs4, he4, hz4, hd4⟩ := fl4.there
          have S4 := J4.suite he4 hd4 na nL nF
          refine store_ok (X := X.suite a ((a, oe4) :: (X.pn ++ pp))) (v := .ref a) S4 nd hi (.inl hln) rfl (fun s5 S5 => ?_) (.inr hln)
          refine wpAny_mono ((hsu a oe4 cls d (X.pn ++ pp) hz4 ⟨_, hd4⟩).run [] s5 _ H' _ S5 (yes rfl a na)) (fun f s6 out => ?_) fun _ _ z => False.elim z
          have gone : ∀ {σ6 : L2.St} {H6 : Hp} {Q : Shared → Prop}, Inv (X.suite a ((a, oe4) :: (X.pn ++ pp))) [] σ6 H6 s6 → (∀ s7, Inv X pp (σ6.set i none) H6 s7 → Q s7) →
              wpAny (model X.prog X.w) X.A (do bindName X.env n .none; unbindBehindTheSuite X.env n pos') (fun _ s7 => Q s7) X.xe s6 := fun {σ6 H6 Q} S6 hq => gone_ok (S6.unsuite ok) nd hi hln hq
          cases f with
          | next =>
            obtain ⟨σ6, H6, S6, q6⟩ := out
            exact gone S6 fun s7 J7 => ⟨_, _, J7, q6⟩
          | brk =>
            obtain ⟨σ6, H6, S6, q6⟩ := out
            exact gone S6 fun s7 J7 => ⟨_, _, J7, q6⟩
          | cont =>
            obtain ⟨σ6, H6, S6, q6⟩ := out
            exact gone S6 fun s7 J7 => ⟨_, _, J7, q6⟩
          | ret u =>
            obtain ⟨v6, σ6, H6, S6, r6, q6⟩ := out
            exact gone S6 fun s7 J7 => ⟨_, _, _, J7, r6, q6⟩
    exact go hh wish
end
end DW

/-! DwOut: f(lambda: body), f a def that calls what it got in a try. -/
namespace DW
open PySem PySem.Spec PyProof.Rows L2 LamX
theorem Wd.lext {K : PySem.W.Frag} {sa : SA} {T : List (Addr × Str)} {G H H1 : Hp} {S : Src} (w : Wd K sa T G H S) (e : LExt H H1) (t : Tabs T H1) : Wd K sa T G H1 S ∧ Ext sa G H G H1 := by
  refine ⟨⟨fun b u q => ?_, ?_, w.srcG, t⟩, ⟨Sub.refl _, fun b u z q => (by rw [z] at q; cases q), fun b u _ q n => e.keep b u q n, e.dom⟩⟩
  · obtain ⟨ku, h | ⟨o, kvs, z, h⟩⟩ := w.sub b u q
    · exact ⟨ku, .inl (e.keep b u h (isK_tbl ku).1)⟩
    · exact ⟨ku, .inr ⟨o, kvs, z, e.keep b _ h (fun ps z => by cases z)⟩⟩
  · obtain ⟨vs, h1, h2⟩ := w.srcH
    exact ⟨vs, e.keep _ _ h1 (fun ps z => by cases z), h2⟩
/-- what such a def makes of the lambda -/
def TTo (K : PySem.W.Frag) (sa : SA) (T : List (Addr × Str)) (xf : XT) (o : OutS) : (XK → Hp → VK → Prop) → Hp → VK → Prop := fun tl H Q => ∃ (G : Hp) (S : Src) (c : Src → R (Bool × D)) (E : XK), Wd K sa T G H S ∧
  (∀ E' G' H' S' Q', Sub G G' → Wd K sa T G' H' S' → post T E' (rlV K sa) (c S') G' H' Q' → tl E' H' Q') ∧ post T E (rlV K sa) (outRun xf o c S) G H Q
def OutFact (sa : SA) (T : List (Addr × Str)) (F : FT) (k : Nat) (X : Cx) (f : Str) : Prop := ∃ (xf : XT) (o : OutS) (a : Str) (g c P : Addr) (pg : Arguments) (bg : List Stmt) (sg : Scope) (dV kV doc pm cdv ct oc : Value) (an od : Option Addr) (osl : Array (Option Value)) (Ng : List Str),
  F.out f = outRun xf o ∧ X.mg f = some (.ref g) ∧ PySem.W.keepIn X.K (.ref g) = true ∧ X.K.lookup g = some ⟨oc, od, .func (PySem.W.fnOf f f pg bg sg dV kV doc pm an cdv ct), osl⟩ ∧ PySem.W.codeIn X.K cdv f = true ∧ L2.Binds X.K (PySem.W.fnOf f f pg bg sg dV kV doc pm an cdv ct) [a] [] ∧
  FnScope Ng [a] sg ∧ Ng[0]? = some a ∧ noName a = true ∧ Gives X Ng f sg g cdv bg a (X.env.qual ++ "<lambda>") (TTo X.K sa T xf o) ∧ TabB X.base X.mg c P ∧ X.env.code = .ref c ∧ (P, X.env.qual ++ "<lambda>") ∈ T ∧ (∀ p ∈ T, p.1 = P → p.2 = X.env.qual ++ "<lambda>") ∧ Room (k + 2) X.A
section
variable {X : Cx} {sa : SA} {T : List (Addr × Str)} {F : FT} {E : XS} {pos p1 : Pos} {k : Nat}
theorem noName_at {x : Str} (h : noName x = true) : (x == ("__debug__" : Str)) = false ∧ (x == ("__classdict__" : Str)) = false ∧ x ≠ "__name__" := by
  unfold noName at h
  simp only [Bool.and_eq_true, Bool.not_eq_true', decide_eq_false_iff_not] at h
  exact ⟨h.1, h.2.1, h.2.2⟩
theorem se_out {f : Str} {x : Ex} {params : Arguments} {body : Expr} {scope : Scope} {lpos : Pos} (ff : OutFact sa T F k X f) (hg : Gl X f) (hdb : (f == ("__debug__" : Str)) = false) (hp : noPar params = true) (L : LamS X.env.scope scope)
    (hbody : ∀ (A : Around) (outer : List Env) (s : Shared) (H : Hp) (E : XK) (f c' : Addr), Room k (A.deeper (lamEnv X scope s.heap.objs.size f c')) → PE (lamCx X A outer s H E scope f c') body (TX X.K sa T F (fun _ => E) x)) :
    PE X (.Call (.Name f p1) [.Lambda params body scope lpos] [] pos) (TX X.K sa T F E (.out f x)) := by
  obtain ⟨xf, o, a, g, c, P, pg, bg, sg, dV, kV, doc, pm, cdv, ct, oc, an, od, osl, Ng, eF, hm, hk, lk, hcg, hb, Sg, hNg, ha, hG, TB, hcode, hmT, hu, hr⟩ := ff
  obtain ⟨d1, d2, _⟩ := noName_at ha
  have hpar : params = ⟨[], [], none, [], [], none, []⟩ := by
    unfold noPar at hp
    split at hp
    · rfl
    · cases hp
  subst hpar
  refine (pe_lamx (t := fun E => TX X.K sa T F (fun _ => E) x) hg hm hk lk hcg hb Sg hNg hG TB hcode hmT hu hr L rfl (fun q cl pm cv ctv => rfl) hbody hdb d1 d2).imp fun σ H Q h => ?_
  obtain ⟨G, ρ, S, w, en, h⟩ := h
  rw [ev, eF] at h
  refine ⟨w.tabs, fun H1 e t => ?_⟩
  obtain ⟨w1, e1⟩ := w.lext e t
  exact ⟨G, S, _, E σ, w1, fun E' G' H' S' Q' sb w' h' => ⟨G', ρ, S', w', en.sub sb, h'⟩, h.ext e1⟩
end
end DW

/-! DwSound: every expression that is checked keeps its reading. -/
namespace DW
open PySem PyProof.Rows L2

structure Cok (Γ : Cn) (F : FT) (k : Nat) (sa : SA) (T : List (Addr × Str)) (E : XS) (X : Cx) : Prop where
  N : X.N = Γ.N
  nd : X.N.Nodup
  kind : X.env.scope.kind = .function
  sc : ∀ x, X.env.scope.names.lookup x = Γ.sc.lookup x
  calm : X.calm = true
  room : Room k X.A
  pass : PassAt X E
  fns : ∀ sh ∈ Γ.shapes, FnFact sa T F k X sh
  blt : ∀ x ∈ Γ.free, X.mg x = none
  gl : ∀ x c, Γ.gl.lookup x = some c → GlFact X x c
  outs : ∀ f ∈ Γ.outs, OutFact sa T F k X f
section
variable {Γ : Cn} {F : FT} {k : Nat} {sa : SA} {T : List (Addr × Str)} {E : XS} {X : Cx}
theorem Cok.hu (C : Cok Γ F k sa T E X) : X.A.units + 64 < cLine := C.room.units
theorem noName_of {x : Str} (h : noName x = true) : (x == ("__debug__" : Str)) = false ∧ (x == ("__classdict__" : Str)) = false ∧ x ≠ "__name__" := by
  unfold noName at h
  simp only [Bool.and_eq_true, Bool.not_eq_true', decide_eq_false_iff_not] at h
  exact ⟨h.1, h.2.1, h.2.2⟩
theorem Cok.glob (C : Cok Γ F k sa T E X) {x : Str} (h : glB Γ.sc x = true) : Gl X x ∧ (x == ("__debug__" : Str)) = false := by
  unfold glB at h
  split at h
  · rename_i e
    exact ⟨by show X.env.scope.names.lookup x = _; rw [C.sc]; exact e, (noName_of h).1⟩
  · cases h
theorem Cok.fb (C : Cok Γ F k sa T E X) {x : Str} (h : fbB Γ x = true) : Gl X x ∧ X.mg x = none := by
  unfold fbB at h
  rw [Bool.and_eq_true] at h
  exact ⟨(C.glob h.1).1, C.blt x (of_decide_eq_true h.2)⟩
theorem Cok.blk (C : Cok Γ F k sa T E X) {scope : Scope} (hk : scope.kind = .function) (s : Shared) (H : Hp) (Ca : Addr) (cl : List (Str × Addr)) (fp : List Addr) : Cok (inner Γ scope) F k sa T EF (X.blk s H scope (compEnvC scope cl Ca X.env) fp) where
  N := C.N
  nd := C.nd
  kind := hk
  sc := fun x => by
    show (relS scope X.env.scope).names.lookup x = (relN Γ.sc scope.names).lookup x
    unfold relS relN
    congr 1
    apply List.map_congr_left
    intro y _
    obtain ⟨n, kd⟩ := y
    show (if (kd == .free && X.env.scope.kind == .function && X.env.scope.names.lookup n == some .cell) = true then (n, NameKind.cell) else (n, kd)) = (if (kd == .free && Γ.sc.lookup n == some .cell) = true then (n, NameKind.cell) else (n, kd))
    rw [C.kind, C.sc]
    simp
  calm := C.calm
  room := C.room
  pass := fun σ pins H s e s' I h => by
    obtain ⟨_, _, _, _, _, _, _, _, _, _, _, _, z⟩ := h
    exact z.elim
  fns := C.fns
  blt := C.blt
  gl := C.gl
  outs := fun f h => by cases h
/-- what is taken may be let out by a callee -/
theorem passAt_of (tk : Takes X (fun cls d σ H => E σ cls d H)) : PassAt X E := fun σ pp H s e s' J c => tk e s' (XE.of_call J (fun cls d H' z => z) c)
theorem Cok.lam (C : Cok Γ F k sa T E X) {scope : Scope} (L : LamX.LamS X.env.scope scope) {A : Around} {outer : List PySem.Env} {s : Shared} {H : Hp} {E' : XK} {f c' : Addr} (hr : Room k (A.deeper (LamX.lamEnv X scope s.heap.objs.size f c'))) :
    Cok (inLam Γ scope) F k sa T (fun _ => E') (LamX.lamCx X A outer s H E' scope f c') where
  N := C.N
  nd := C.nd
  kind := L.kind
  sc := fun _ => rfl
  calm := rfl
  room := hr
  pass := passAt_of (E := fun _ => E') (takes_of (X := LamX.lamCx X A outer s H E' scope f c') (E := E') rfl rfl rfl rfl)
  fns := C.fns
  blt := C.blt
  gl := C.gl
  outs := fun f h => by cases h
theorem vis_of (C : Cok Γ F k sa T E X) {x : Str} (h : visB Γ.sc x = true) : Vis X.env.scope x := by
  unfold visB at h
  unfold Vis
  rw [C.sc]
  split at h
  · exact .inl (by assumption)
  · exact .inr (.inl (by assumption))
  · exact .inr (.inr (by assumption))
  · cases h
/-- the block of a comprehension, its targets -/
theorem blk_parts (C : Cok Γ F k sa T E X) {tga tg : List Nat} {tp : Bool} {scope : Scope} {t : Expr} (hb : blkB Γ tga scope = true) (ht : tgB (inner Γ scope) tg tp t = true) (hsub : ∀ i ∈ tg, i ∈ tga := by exact fun _ z => z) :
    scope.kind = .function ∧ BlkOk X.N X.env.scope scope (ownOf Γ.N tga) ∧ (ownOf Γ.N tga).map (·.2) = tga ∧
      ∀ (s : Shared) (H : Hp) (Ca : Addr) (cl : List (Str × Addr)) (fp : List Addr), PG (X.blk s H scope (compEnvC scope cl Ca X.env) fp) t (gT X.K tg tp) := by
  unfold blkB at hb
  rw [Bool.and_eq_true, Bool.and_eq_true] at hb
  obtain ⟨h1, h2, h3⟩ := hb
  have ok := blkOk_by h1
  have ok2 : BlkOk X.N X.env.scope scope (ownOf Γ.N tga) := ⟨ok.kind, ok.uniq, fun p hp => by rw [C.N]; exact ok.ix p hp, fun y hy e => by rw [C.sc]; exact ok.free y hy e, fun y hy e => by rw [C.N]; exact ok.own y hy e⟩
  refine ⟨ok.kind, ok2, of_decide_eq_true h2, fun s H Ca cl fp => ?_⟩
  have CB := C.blk ok.kind s H Ca cl fp
  -- the slots of the target are the block's own names
  have loc : ∀ i ∈ tg, ∀ x, Γ.N[i]? = some x → (X.blk s H scope (compEnvC scope cl Ca X.env) fp).N[i]? = some x ∧ Loc (X.blk s H scope (compEnvC scope cl Ca X.env) fp).env.scope x ∧ ((X.blk s H scope (compEnvC scope cl Ca X.env) fp).fn x = true ∨ (X.blk s H scope (compEnvC scope cl Ca X.env) fp).env.scope.names.lookup x = some .local) := fun i hi x hx => by
    have z := List.all_eq_true.mp h3 i (hsub i hi)
    rw [hx] at z
    have z : (match scope.names.lookup x with | some .local => true | some .cell => true | _ => false) = true := z
    refine ⟨by show X.N[i]? = some x; rw [C.N]; exact hx, ?_⟩
    cases q : scope.names.lookup x with
    | none => rw [q] at z; cases z
    | some kd =>
      rw [q] at z
      cases kd <;> first | (cases z; done) | skip
      · have e : (X.blk s H scope (compEnvC scope cl Ca X.env) fp).env.scope.names.lookup x = some .local := lookup_relS_keep (by decide) q
        exact ⟨.inl e, .inr e⟩
      · have e : (X.blk s H scope (compEnvC scope cl Ca X.env) fp).env.scope.names.lookup x = some .cell := lookup_relS_keep (by decide) q
        exact ⟨.inr e, .inl (by show (scope.names.lookup x == some .cell) = true; rw [q]; rfl)⟩
  -- a target names slots of tg alone
  have key : ∀ {is : List Nat} {es : List Expr}, (∀ i ∈ is, i ∈ tg) → tgsN (inner Γ scope) is es = true → PGs (X.blk s H scope (compEnvC scope cl Ca X.env) fp) es (gNames is) ∧ (assignEach es (compEnvC scope cl Ca X.env)).length = is.length ∧ (assignEach es (compEnvC scope cl Ca X.env)).findIdx? (·.1) = none := by
    intro is
    induction is with
    | nil => intro es _ h; cases es <;> first | exact ⟨pgs_nil, rfl, rfl⟩ | (simp [tgsN] at h; done)
    | cons i is ih =>
      intro es hs h
      cases es with
      | nil => simp [tgsN] at h
      | cons e es =>
        rw [tgsN, Bool.and_eq_true] at h
        obtain ⟨g1, g2⟩ := tgN_ok (X := X.blk s H scope (compEnvC scope cl Ca X.env) fp) (Γ := inner Γ scope) CB.nd (fun _ x hx => loc i (hs i (List.mem_cons_self ..)) x hx) h.1
        obtain ⟨k1, k2, k3⟩ := ih (fun j hj => hs j (List.mem_cons_of_mem _ hj)) h.2
        refine ⟨pgs_cons g1 k1 (by show (assignEach (e :: es) (compEnvC scope cl Ca X.env)).map (·.2) = _; rw [g2]; rfl), by rw [g2, List.length_cons, List.length_cons, k2], ?_⟩
        rw [g2, List.findIdx?_cons]
        simp only [k3]
        rfl
  cases tp with
  | true =>
    cases t <;> first | (simp [tgB] at ht; done) | skip
    rename_i es kk px
    obtain ⟨k1, k2, k3⟩ := key (fun _ z => z) (show tgsN (inner Γ scope) tg es = true from ht)
    exact pg_tup C.calm k1 k2 k3
  | false =>
    have ht : tgsN (inner Γ scope) tg [t] = true := ht
    rcases tg with _ | ⟨i, _ | ⟨j, tg⟩⟩
    · simp [tgsN] at ht
    · rw [tgsN, Bool.and_eq_true] at ht
      obtain ⟨g1, _⟩ := tgN_ok (X := X.blk s H scope (compEnvC scope cl Ca X.env) fp) (Γ := inner Γ scope) CB.nd (fun _ x hx => loc i (List.mem_cons_self ..) x hx) ht.1
      refine ⟨fun pins s σ H v u Q I r q => g1.run pins s σ H v u Q I r ?_⟩
      obtain ⟨v', r', e', q⟩ := (show gNames [i] [v] σ H Q from q)
      cases e'
      obtain ⟨_, q⟩ := q
      exact q
    · simp [tgsN] at ht
end
section
variable {F : FT} {k : Nat} {sa : SA} {T : List (Addr × Str)}
theorem sK {Γ : Cn} {F : FT} {k : Nat} {sa : SA} {T : List (Addr × Str)} {E : XS} {X : Cx} {it : Itx} {tp : Bool} {t e : Expr} (C : Cok Γ F k sa T E X) (h : (okI Γ tp it e || wlkB Γ it e) = true) (hi : okI Γ tp it e = true → PI X t e (TXi X.K sa T F E it)) : PI X t e (TXik X.K sa T F E it) := by
  rw [Bool.or_eq_true] at h
  rcases h with h | h
  · exact si_k (hi h)
  · cases it <;> first | (cases h; done) | skip
    cases e <;> first | (cases h; done) | skip
    rename_i i x px
    have h : (decide (Γ.N[i]? = some x) && (visB Γ.sc x && noName x)) = true := h
    rw [Bool.and_eq_true, Bool.and_eq_true] at h
    obtain ⟨n1, n2, _⟩ := noName_of h.2.2
    exact si_walk (show X.N[i]? = some x by rw [C.N]; exact of_decide_eq_true h.1) (vis_of C h.2.1) n1 n2
mutual
theorem sE : ∀ (x : Ex) {Γ : Cn} {X : Cx} {E : XS} {e : Expr}, Cok Γ F k sa T E X → okE Γ x e = true → PE X e (TX X.K sa T F E x) ∧ PT X e (TXb X.K sa T F E x)
  | .var i, Γ, X, E, e, C, h => by
    cases e <;> first | exact Bool.noConfusion (show false = true from h) | skip
    rename_i x px
    have h : (decide (Γ.N[i]? = some x) && (visB Γ.sc x && noName x)) = true := by simpa only [okE] using h
    rw [Bool.and_eq_true, Bool.and_eq_true] at h
    obtain ⟨n1, n2, _⟩ := noName_of h.2.2
    have p := se_var (pos := px) (sa := sa) (T := T) (F := F) (E := E) (show X.N[i]? = some x by rw [C.N]; exact of_decide_eq_true h.1) (vis_of C h.2.1) n1 n2
    exact ⟨p, st_val p fun _ => rfl⟩
  | .lit l, Γ, X, E, e, C, h => by
    cases e <;> first | exact Bool.noConfusion (show false = true from h) | skip
    rename_i c j px
    have p := se_lit (X := X) (j := j) (pos := px) (sa := sa) (T := T) (F := F) (E := E) (show litB l c = true by simpa only [okE] using h)
    exact ⟨p, st_val p fun _ => rfl⟩
  | .glb y c, Γ, X, E, e, C, h => by
    cases e <;> first | exact Bool.noConfusion (show false = true from h) | skip
    rename_i x px
    have h : (decide (y = x) && (glB Γ.sc x && decide (Γ.gl.lookup x = some c))) = true := by simpa only [okE] using h
    rw [Bool.and_eq_true, Bool.and_eq_true] at h
    obtain rfl := of_decide_eq_true h.1
    obtain ⟨g, hd⟩ := C.glob h.2.1
    have p := se_glb (pos := px) (sa := sa) (T := T) (F := F) (E := E) g hd (C.gl _ _ (of_decide_eq_true h.2.2))
    exact ⟨p, st_val p fun _ => rfl⟩
  | .bin op a b, Γ, X, E, e, C, h => by
    cases e <;> first | exact Bool.noConfusion (show false = true from h) | skip
    rename_i l o r px
    have h : (bopB op o && (okE Γ a l && okE Γ b r)) = true := by simpa only [okE] using h
    rw [Bool.and_eq_true, Bool.and_eq_true] at h
    have p := se_bin (pos := px) h.1 (sE a C h.2.1).1 (sE b C h.2.2).1
    exact ⟨p, st_val p fun _ => rfl⟩
  | .neg a, Γ, X, E, e, C, h => by
    cases e <;> first | exact Bool.noConfusion (show false = true from h) | skip
    rename_i o r px
    cases o <;> first | exact Bool.noConfusion (show false = true from h) | skip
    have p := se_neg (pos := px) (sE a C (show okE Γ a r = true by simpa only [okE] using h)).1
    exact ⟨p, st_val p fun _ => rfl⟩
  | .nt a, Γ, X, E, e, C, h => by
    cases e <;> first | exact Bool.noConfusion (show false = true from h) | skip
    rename_i o r px
    cases o <;> first | exact Bool.noConfusion (show false = true from h) | skip
    have q := sE a C (show okE Γ a r = true by simpa only [okE] using h)
    exact ⟨se_nt q.1, st_nt q.2⟩
  | .cmp op a b, Γ, X, E, e, C, h => by
    cases e <;> first | exact Bool.noConfusion (show false = true from h) | skip
    rename_i l os rs px
    rcases os with _ | ⟨o, _ | ⟨o2, os⟩⟩ <;> first | exact Bool.noConfusion (show false = true from h) | skip
    rcases rs with _ | ⟨r, _ | ⟨r2, rs⟩⟩ <;> first | exact Bool.noConfusion (show false = true from h) | skip
    have h : (copB op o && (plainE r && (okE Γ a l && okE Γ b r))) = true := by simpa only [okE] using h
    simp only [Bool.and_eq_true] at h
    have pa := (sE a C h.2.2.1).1
    have pb := (sE b C h.2.2.2).1
    exact ⟨se_cmp C.hu h.1 h.2.1 pa pb, st_cmp C.hu h.1 h.2.1 pa pb⟩
  | .chn op op' a b c, Γ, X, E, e, C, h => by
    cases e <;> first | exact Bool.noConfusion (show false = true from h) | skip
    rename_i l os rs px
    rcases os with _ | ⟨o, _ | ⟨o2, _ | ⟨o3, os⟩⟩⟩ <;> first | exact Bool.noConfusion (show false = true from h) | skip
    rcases rs with _ | ⟨r, _ | ⟨r2, _ | ⟨r3, rs⟩⟩⟩ <;> first | exact Bool.noConfusion (show false = true from h) | skip
    have h : (copB op o && (copB op' o2 && (plainE r && (plainE r2 && (okE Γ a l && (okE Γ b r && okE Γ c r2)))))) = true := by simpa only [okE] using h
    simp only [Bool.and_eq_true] at h
    obtain ⟨h1, h2, h3, h4, h5, h6, h7⟩ := h
    have pa := (sE a C h5).1
    have pb := (sE b C h6).1
    have pc := (sE c C h7).1
    exact ⟨se_chn C.hu h1 h2 h4 pa pb pc, st_chn C.hu h1 h2 h4 pa pb pc⟩
  | .band es, Γ, X, E, e, C, h => by
    cases e <;> first | exact Bool.noConfusion (show false = true from h) | skip
    rename_i o vs px
    cases o <;> first | exact Bool.noConfusion (show false = true from h) | skip
    have h : (okEs Γ es vs && decide (0 < vs.length)) = true := by simpa only [okE] using h
    rw [Bool.and_eq_true] at h
    have q := sEs es C h.1
    exact ⟨se_and q (of_decide_eq_true h.2), (st_and q (of_decide_eq_true h.2)).pt⟩
  | .bor es, Γ, X, E, e, C, h => by
    cases e <;> first | exact Bool.noConfusion (show false = true from h) | skip
    rename_i o vs px
    cases o <;> first | exact Bool.noConfusion (show false = true from h) | skip
    have h : (okEs Γ es vs && decide (0 < vs.length)) = true := by simpa only [okE] using h
    rw [Bool.and_eq_true] at h
    have q := sEs es C h.1
    exact ⟨se_or q (of_decide_eq_true h.2), (st_or q (of_decide_eq_true h.2)).pt⟩
  | .ite c a b, Γ, X, E, e, C, h => by
    cases e <;> first | exact Bool.noConfusion (show false = true from h) | skip
    rename_i t x y px
    have h : (okE Γ c t && (okE Γ a x && okE Γ b y)) = true := by simpa only [okE] using h
    simp only [Bool.and_eq_true] at h
    have pa := sE a C h.2.1
    have pb := sE b C h.2.2
    have pc := sE c C h.1
    exact ⟨se_ite pc.2 pa.1 pb.1, st_ite pc.2 pa.2 pb.2⟩
  | .call f es kx ks perm, Γ, X, E, e, C, h => by
    cases e <;> first | exact Bool.noConfusion (show false = true from h) | skip
    rename_i fn args kws px
    cases fn <;> first | exact Bool.noConfusion (show false = true from h) | skip
    rename_i g pg
    have h : (decide (f = g) && (glB Γ.sc g && (okEs Γ es args && (okKs Γ kx kws && (decide (kwN kws = ks.map some) && decide (⟨g, args.length, ks, perm⟩ ∈ Γ.shapes)))))) = true := by simpa only [okE] using h
    simp only [Bool.and_eq_true, decide_eq_true_eq] at h
    obtain ⟨rfl, h2, h3, h4, h5, h6⟩ := h
    obtain ⟨gl, hd⟩ := C.glob h2
    have p := se_call (sh := ⟨f, args.length, ks, perm⟩) (p1 := pg) (pos := px) (C.fns _ h6) C.room C.pass gl hd (sEs es C h3) (sKs kx C h4) rfl h5
    exact ⟨p, st_val p fun _ => rfl⟩
  | .bi f es, Γ, X, E, e, C, h => by
    cases e <;> first | exact Bool.noConfusion (show false = true from h) | skip
    rename_i fn args kws px
    cases fn <;> first | exact Bool.noConfusion (show false = true from h) | skip
    rename_i g pg
    cases kws <;> first | exact Bool.noConfusion (show false = true from h) | skip
    have h : (decide (g = biN f) && (fbB Γ g && (okEs Γ es args && decide (0 < args.length)))) = true := by simpa only [okE] using h
    simp only [Bool.and_eq_true, decide_eq_true_eq] at h
    obtain ⟨rfl, h2, h3, h4⟩ := h
    obtain ⟨gl, hm⟩ := C.fb h2
    have p := se_bi (p1 := pg) (pos := px) C.calm gl hm (sEs es C h3) h4
    exact ⟨p, st_val p fun _ => rfl⟩
  | .isi a ts one, Γ, X, E, e, C, h => by
    cases e <;> first | exact Bool.noConfusion (show false = true from h) | skip
    rename_i fn args kws px
    cases fn <;> first | exact Bool.noConfusion (show false = true from h) | skip
    rename_i g pg
    rcases args with _ | ⟨e1, _ | ⟨e2, _ | ⟨e3, args⟩⟩⟩ <;> first | exact Bool.noConfusion (show false = true from h) | skip
    cases kws <;> first | exact Bool.noConfusion (show false = true from h) | skip
    have h : (decide (g = ("isinstance" : Str)) && (fbB Γ g && (plainE e1 && (okE Γ a e1 && isiB Γ ts one e2)))) = true := by simpa only [okE] using h
    simp only [Bool.and_eq_true, decide_eq_true_eq] at h
    obtain ⟨rfl, h2, h3, h4, h5⟩ := h
    obtain ⟨gl, hm⟩ := C.fb h2
    have p := se_isi (p1 := pg) (pos := px) (fun x hx => C.fb hx) gl hm h3 (sE a C h4).1 h5
    exact ⟨p, st_val p fun _ => rfl⟩
  | .idx a i, Γ, X, E, e, C, h => by
    cases e <;> first | exact Bool.noConfusion (show false = true from h) | skip
    rename_i v s px
    have h' : (plainE s && (okE Γ a v && okE Γ i s)) = true := by
      cases s <;> first | simpa only [okE] using h | (simp [okE, plainE] at h; done)
    simp only [Bool.and_eq_true] at h'
    have p := se_idx (pos := px) C.hu h'.1 (sE a C h'.2.1).1 (sE i C h'.2.2).1
    exact ⟨p, st_val p fun _ => rfl⟩
  | .slc a lo hi, Γ, X, E, e, C, h => by
    cases e <;> first | exact Bool.noConfusion (show false = true from h) | skip
    rename_i v s px
    cases s <;> first | exact Bool.noConfusion (show false = true from h) | skip
    rename_i l u st p2
    have h : (okE Γ a v && (okO Γ lo l && (okO Γ hi u && st.isNone))) = true := by simpa only [okE] using h
    simp only [Bool.and_eq_true] at h
    obtain ⟨h1, h2, h3, h4⟩ := h
    cases st <;> first | (cases h4; done) | skip
    have p := se_slc (pos := px) (p2 := p2) (sE a C h1).1 (sO lo C h2) (sO hi C h3)
    exact ⟨p, st_val p fun _ => rfl⟩
  | .tup es, Γ, X, E, e, C, h => by
    cases e <;> first | exact Bool.noConfusion (show false = true from h) | skip
    rename_i xs kk px
    have h : (okEs Γ es xs && decide (xs.length ≤ 1000)) = true := by simpa only [okE] using h
    simp only [Bool.and_eq_true, decide_eq_true_eq] at h
    have p := se_tup (k := kk) (pos := px) (sEs es C h.1) h.2
    exact ⟨p, st_val p fun _ => rfl⟩
  | .lst es, Γ, X, E, e, C, h => by
    cases e <;> first | exact Bool.noConfusion (show false = true from h) | skip
    rename_i xs px
    have h : (okEs Γ es xs && decide (xs.length ≤ 1000)) = true := by simpa only [okE] using h
    simp only [Bool.and_eq_true, decide_eq_true_eq] at h
    have p := se_lst (pos := px) (sEs es C h.1) h.2
    exact ⟨p, st_val p fun _ => rfl⟩
  | .lc tg tp it cond elt, Γ, X, E, e, C, h => by
    cases e <;> first | exact Bool.noConfusion (show false = true from h) | skip
    rename_i el gs scope px
    rcases gs with _ | ⟨⟨t, i, ifs, asy⟩, _ | ⟨g2, gs⟩⟩ <;> first | exact Bool.noConfusion (show false = true from h) | skip
    have h : (decide (asy = 0) && (plainE i && (blkB Γ tg scope && (tgB (inner Γ scope) tg tp t && ((okI Γ tp it i || wlkB Γ it i) && (okC (inner Γ scope) cond ifs && okE (inner Γ scope) elt el)))))) = true := by simpa only [okE] using h
    simp only [Bool.and_eq_true, decide_eq_true_eq] at h
    obtain ⟨rfl, h2, h3, h4, h5, h6, h7⟩ := h
    obtain ⟨hk, ok, ho, hg⟩ := blk_parts C h3 h4
    have hi := sK (t := t) C h5 fun z => sI it (t := t) C z (tup_of h4)
    have ht := fun s H Ca cl fp => sC cond (C.blk hk s H Ca cl fp) h6
    have he := fun s H Ca cl fp => (sE elt (C.blk hk s H Ca cl fp) h7).1
    have p := (pe_lc (pos := px) C.calm C.nd hi ok hg ht he (fun x => plain_set h2 X.env x)).lor (lock_or lc_err (se_lc C.calm C.nd h2 hi ok ho hg ht he))
    exact ⟨p, st_val p fun _ => rfl⟩
  | .lc2 tg tp it cond tg1 tp1 it1 cond1 elt, Γ, X, E, e, C, h => by
    cases e <;> first | exact Bool.noConfusion (show false = true from h) | skip
    rename_i el gs scope px
    rcases gs with _ | ⟨⟨t, i, ifs, asy⟩, _ | ⟨⟨t1, i1, ifs1, asy1⟩, _ | ⟨g3, gs⟩⟩⟩ <;> first | exact Bool.noConfusion (show false = true from h) | skip
    have h : (decide (asy = 0) && (decide (asy1 = 0) && (plainE i && (plainE i1 && (blkB Γ (tg ++ tg1) scope && (tgB (inner Γ scope) tg tp t && (tgB (inner Γ scope) tg1 tp1 t1 && ((okI Γ tp it i || wlkB Γ it i) && (okC (inner Γ scope) cond ifs && (okI (inner Γ scope) tp1 it1 i1 && (okC (inner Γ scope) cond1 ifs1 && okE (inner Γ scope) elt el))))))))))) = true := by simpa only [okE] using h
    simp only [Bool.and_eq_true, decide_eq_true_eq] at h
    obtain ⟨rfl, rfl, h2, h2', h3, h4, h4', h5, h6, h5', h6', h7⟩ := h
    obtain ⟨hk, ok, ho, hg⟩ := blk_parts C h3 h4 (fun _ z => List.mem_append_left _ z)
    obtain ⟨_, _, _, hg1⟩ := blk_parts C h3 h4' (fun _ z => List.mem_append_right _ z)
    have hi := sK (t := t) C h5 fun z => sI it (t := t) C z (tup_of h4)
    have ht := fun s H Ca cl fp => sC cond (C.blk hk s H Ca cl fp) h6
    have hi1 := fun s H Ca cl fp => sI it1 (t := t1) (C.blk hk s H Ca cl fp) h5' (tup_of h4')
    have ht1 := fun s H Ca cl fp => sC cond1 (C.blk hk s H Ca cl fp) h6'
    have he := fun s H Ca cl fp => (sE elt (C.blk hk s H Ca cl fp) h7).1
    have p := (pe_lc2 (pos := px) (vs1 := tg1) C.calm C.nd hi ok (by rw [ho]; exact fun _ z => List.mem_append_right _ z) hg ht hi1 hg1 ht1 he (fun x => plain_set h2 X.env x) (fun env x => plain_set h2' env x)).lor (lock_or lc2_err (se_lc2 ho))
    exact ⟨p, st_val p fun _ => rfl⟩
  | .nset a, Γ, X, E, e, C, h => by
    cases e <;> first | exact Bool.noConfusion (show false = true from h) | skip
    rename_i fn args kws px
    cases fn <;> first | exact Bool.noConfusion (show false = true from h) | skip
    rename_i g pg
    rcases args with _ | ⟨e1, _ | ⟨e2, args⟩⟩ <;> first | exact Bool.noConfusion (show false = true from h) | skip
    · cases e1 <;> first | exact Bool.noConfusion (show false = true from h) | skip
      rename_i fn2 args2 kws2 px2
      cases fn2 <;> first | exact Bool.noConfusion (show false = true from h) | skip
      rename_i g2 pg2
      rcases args2 with _ | ⟨e3, _ | ⟨e4, args2⟩⟩ <;> first | exact Bool.noConfusion (show false = true from h) | skip
      · cases kws2 <;> first | exact Bool.noConfusion (show false = true from h) | skip
        cases kws <;> first | exact Bool.noConfusion (show false = true from h) | skip
        have h : (decide (g = ("len" : Str)) && (decide (g2 = ("set" : Str)) && (fbB Γ g && (fbB Γ g2 && (plainE e3 && okE Γ a e3))))) = true := by simpa only [okE] using h
        simp only [Bool.and_eq_true, decide_eq_true_eq] at h
        obtain ⟨rfl, rfl, h2, h3, h4, h5⟩ := h
        obtain ⟨gl, hm⟩ := C.fb h2
        obtain ⟨gl2, hm2⟩ := C.fb h3
        have p := se_nset (pos := px) (p := pg) (p2 := pg2) (q := px2) C.calm gl hm gl2 hm2 h4 (sE a C h5).1
        exact ⟨p, st_val p fun _ => rfl⟩
    · exfalso
      cases e1 <;> first | exact Bool.noConfusion (show false = true from h) | (simp [okE] at h; done)
  | .dct0, Γ, X, E, e, C, h => by
    cases e <;> first | exact Bool.noConfusion (show false = true from h) | skip
    rename_i ks vs px
    cases ks <;> cases vs <;> first | exact Bool.noConfusion (show false = true from h) | skip
    exact ⟨se_dct0, st_val se_dct0 fun _ => rfl⟩
  | .dc tg tp it cond kx vx, Γ, X, E, e, C, h => by
    cases e <;> first | exact Bool.noConfusion (show false = true from h) | skip
    rename_i ek el gs scope px
    rcases gs with _ | ⟨⟨t, i, ifs, asy⟩, _ | ⟨g2, gs⟩⟩ <;> first | exact Bool.noConfusion (show false = true from h) | skip
    have h : (decide (asy = 0) && (plainE i && (blkB Γ tg scope && (tgB (inner Γ scope) tg tp t && ((okI Γ tp it i || wlkB Γ it i) && (okC (inner Γ scope) cond ifs && (okE (inner Γ scope) kx ek && okE (inner Γ scope) vx el))))))) = true := by simpa only [okE] using h
    simp only [Bool.and_eq_true, decide_eq_true_eq] at h
    obtain ⟨rfl, h2, h3, h4, h5, h6, h7, h8⟩ := h
    obtain ⟨hk, ok, ho, hg⟩ := blk_parts C h3 h4
    have hi := sK (t := t) C h5 fun z => sI it (t := t) C z (tup_of h4)
    have ht := fun s H Ca cl fp => sC cond (C.blk hk s H Ca cl fp) h6
    have hkx := fun s H Ca cl fp => (sE kx (C.blk hk s H Ca cl fp) h7).1
    have he := fun s H Ca cl fp => (sE vx (C.blk hk s H Ca cl fp) h8).1
    have p := (pe_dc (pos := px) C.calm C.nd hi ok hg ht hkx he (fun x => plain_set h2 X.env x)).lor (lock_or dc_err (se_dc C.calm C.nd h2 hi ok ho hg ht hkx he))
    exact ⟨p, st_val p fun _ => rfl⟩
  | .out f b, Γ, X, E, e, C, h => by
    cases e <;> first | exact Bool.noConfusion (show false = true from h) | skip
    rename_i fn args kws px
    cases fn <;> first | exact Bool.noConfusion (show false = true from h) | skip
    rename_i g pg
    rcases args with _ | ⟨e1, _ | ⟨e2, args⟩⟩ <;> first | exact Bool.noConfusion (show false = true from h) | skip
    · cases e1 <;> first | exact Bool.noConfusion (show false = true from h) | skip
      rename_i params body scope lpos
      cases kws <;> first | exact Bool.noConfusion (show false = true from h) | skip
      have h : (decide (f = g) && (glB Γ.sc g && (decide (f ∈ Γ.outs) && (noPar params && (LamX.lamSB (scopeOf Γ.sc) scope && okE (inLam Γ scope) b body))))) = true := by simpa only [okE] using h
      simp only [Bool.and_eq_true, decide_eq_true_eq] at h
      obtain ⟨rfl, h2, h3, h4, h5, h6⟩ := h
      obtain ⟨gl, hd⟩ := C.glob h2
      have L0 := LamX.lamS_by h5
      have L : LamX.LamS X.env.scope scope := ⟨L0.kind, L0.co, L0.gen, L0.own, fun y hy e => by rw [C.sc]; exact L0.free y hy e⟩
      have p := se_out (p1 := pg) (pos := px) (lpos := lpos) (E := E) (C.outs f h3) gl hd h4 L fun A outer s H E' fa c' hr => (sE b (C.lam L hr) h6).1
      exact ⟨p, st_val p fun _ => rfl⟩
    · cases e1 <;> exact Bool.noConfusion (show false = true from h)
termination_by x => sizeOf x
theorem sEs : ∀ (xs : Exs) {Γ : Cn} {X : Cx} {E : XS} {es : List Expr}, Cok Γ F k sa T E X → okEs Γ xs es = true → AllE X sa T F E xs es
  | .nil, Γ, X, E, es, C, h => by
    cases es <;> first | trivial | exact Bool.noConfusion (show false = true from h)
  | .cons x xs, Γ, X, E, es, C, h => by
    cases es <;> first | exact Bool.noConfusion (show false = true from h) | skip
    rename_i e es
    have h : (plainE e && (okE Γ x e && okEs Γ xs es)) = true := by simpa only [okEs] using h
    simp only [Bool.and_eq_true] at h
    have q := sE x C h.2.1
    exact ⟨⟨h.1, q.1, q.2⟩, sEs xs C h.2.2⟩
termination_by x => sizeOf x
theorem sKs : ∀ (xs : Exs) {Γ : Cn} {X : Cx} {E : XS} {es : List Keyword}, Cok Γ F k sa T E X → okKs Γ xs es = true → AllK X sa T F E xs es
  | .nil, Γ, X, E, es, C, h => by
    cases es <;> first | trivial | exact Bool.noConfusion (show false = true from h)
  | .cons x xs, Γ, X, E, es, C, h => by
    cases es <;> first | exact Bool.noConfusion (show false = true from h) | skip
    rename_i e es
    obtain ⟨n, e, p⟩ := e
    have h : (plainE e && (okE Γ x e && okKs Γ xs es)) = true := by simpa only [okKs] using h
    simp only [Bool.and_eq_true] at h
    exact ⟨(sE x C h.2.1).1, sKs xs C h.2.2⟩
termination_by x => sizeOf x
theorem sO : ∀ (xs : Exs) {Γ : Cn} {X : Cx} {E : XS} {e : Option Expr}, Cok Γ F k sa T E X → okO Γ xs e = true → PO X e (TXo X.K sa T F E xs)
  | .nil, Γ, X, E, e, C, h => by
    cases e <;> first | exact so_none | exact Bool.noConfusion (show false = true from h)
  | .cons x .nil, Γ, X, E, e, C, h => by
    cases e <;> first | exact Bool.noConfusion (show false = true from h) | skip
    exact so_some (sE x C (by simpa only [okO] using h)).1
  | .cons x (.cons y ys), Γ, X, E, e, C, h => by
    cases e <;> exact Bool.noConfusion (show false = true from h)
termination_by x => sizeOf x
theorem sC : ∀ (xs : Exs) {Γ : Cn} {X : Cx} {E : XS} {e : List Expr}, Cok Γ F k sa T E X → okC Γ xs e = true → PTs X e (TXc X.K sa T F E xs)
  | .nil, Γ, X, E, e, C, h => by
    cases e <;> first | exact sc_nil | exact Bool.noConfusion (show false = true from h)
  | .cons x .nil, Γ, X, E, e, C, h => by
    rcases e with _ | ⟨e1, _ | ⟨e2, es⟩⟩ <;> first | exact Bool.noConfusion (show false = true from h) | skip
    exact sc_one (sE x C (by simpa only [okC] using h)).2
  | .cons x (.cons y ys), Γ, X, E, e, C, h => by
    rcases e with _ | ⟨e1, _ | ⟨e2, es⟩⟩ <;> exact Bool.noConfusion (show false = true from h)
termination_by x => sizeOf x
theorem sI : ∀ (it : Itx) {Γ : Cn} {X : Cx} {E : XS} {tp : Bool} {t e : Expr}, Cok Γ F k sa T E X → okI Γ tp it e = true → (tp = true → ∃ es kk p, t = .Tuple es kk p) → PI X t e (TXi X.K sa T F E it)
  | .ex x, Γ, X, E, tp, t, e, C, h, ht => si_ex (sE x C (by simpa only [okI] using h)).1
  | .rng es, Γ, X, E, tp, t, e, C, h, ht => by
    cases e <;> first | exact Bool.noConfusion (show false = true from h) | skip
    rename_i fn args kws px
    cases fn <;> first | exact Bool.noConfusion (show false = true from h) | skip
    rename_i g pg
    cases kws <;> first | exact Bool.noConfusion (show false = true from h) | skip
    have h : (decide (g = ("range" : Str)) && (fbB Γ g && (okEs Γ es args && (decide (0 < args.length) && decide (args.length < 3))))) = true := by simpa only [okI] using h
    simp only [Bool.and_eq_true, decide_eq_true_eq] at h
    obtain ⟨rfl, h2, h3, h4, h5⟩ := h
    obtain ⟨gl, hm⟩ := C.fb h2
    exact si_rng gl hm (sEs es C h3) h4 h5
  | .enum a, Γ, X, E, tp, t, e, C, h, ht => by
    cases e <;> first | exact Bool.noConfusion (show false = true from h) | skip
    rename_i fn args kws px
    cases fn <;> first | exact Bool.noConfusion (show false = true from h) | skip
    rename_i g pg
    rcases args with _ | ⟨e1, _ | ⟨e2, args⟩⟩ <;> first | exact Bool.noConfusion (show false = true from h) | skip
    cases kws <;> first | exact Bool.noConfusion (show false = true from h) | skip
    have h : (tp && (decide (g = ("enumerate" : Str)) && (fbB Γ g && (plainE e1 && okE Γ a e1)))) = true := by simpa only [okI] using h
    simp only [Bool.and_eq_true, decide_eq_true_eq] at h
    obtain ⟨h1, rfl, h2, h3, h4⟩ := h
    obtain ⟨gl, hm⟩ := C.fb h2
    obtain ⟨es, kk, p, rfl⟩ := ht h1
    exact si_enum gl hm h3 (sE a C h4).1
  | .rev a, Γ, X, E, tp, t, e, C, h, ht => by
    cases e <;> first | exact Bool.noConfusion (show false = true from h) | skip
    rename_i fn args kws px
    cases fn <;> first | exact Bool.noConfusion (show false = true from h) | skip
    rename_i g pg
    rcases args with _ | ⟨e1, _ | ⟨e2, args⟩⟩ <;> first | exact Bool.noConfusion (show false = true from h) | skip
    cases kws <;> first | exact Bool.noConfusion (show false = true from h) | skip
    have h : (decide (g = ("reversed" : Str)) && (fbB Γ g && (plainE e1 && okE Γ a e1))) = true := by simpa only [okI] using h
    simp only [Bool.and_eq_true, decide_eq_true_eq] at h
    obtain ⟨rfl, h2, h3, h4⟩ := h
    obtain ⟨gl, hm⟩ := C.fb h2
    exact si_rev gl hm h3 (sE a C h4).1
  | .zip a b, Γ, X, E, tp, t, e, C, h, ht => by
    cases e <;> first | exact Bool.noConfusion (show false = true from h) | skip
    rename_i fn args kws px
    cases fn <;> first | exact Bool.noConfusion (show false = true from h) | skip
    rename_i g pg
    rcases args with _ | ⟨e1, _ | ⟨e2, _ | ⟨e3, args⟩⟩⟩ <;> first | exact Bool.noConfusion (show false = true from h) | skip
    cases kws <;> first | exact Bool.noConfusion (show false = true from h) | skip
    have h : (tp && (decide (g = ("zip" : Str)) && (fbB Γ g && (plainE e1 && (plainE e2 && (okE Γ a e1 && okE Γ b e2)))))) = true := by simpa only [okI] using h
    simp only [Bool.and_eq_true, decide_eq_true_eq] at h
    obtain ⟨h1, rfl, h2, h3, h4, h5, h6⟩ := h
    obtain ⟨gl, hm⟩ := C.fb h2
    obtain ⟨es, kk, p, rfl⟩ := ht h1
    exact si_zip gl hm h3 h4 (sE a C h5).1 (sE b C h6).1
  | .walk i, Γ, X, E, tp, t, e, C, h, ht => by cases e <;> exact Bool.noConfusion (show false = true from h)
termination_by x => sizeOf x
end
end
end DW

/-! DwSt: a def's slots, some of them owned; expressions of statements. -/
namespace DW
open PySem PyProof.Rows L2

def Owned (K : PySem.W.Frag) (sa : SA) (H0 G H : Hp) (d : D) (v : V) : Prop := ∃ a u, v = .ref a ∧ a ≠ sa.1 ∧ H0 a = none ∧ G a = none ∧ H a = some u ∧ RepU K sa G d u
structure StOk (K : PySem.W.Frag) (sa : SA) (H0 G H : Hp) (σ : L2.St) (μ : Mem) : Prop where
  len : μ.length ≤ σ.length
  frz : ∀ (i : Nat) (d : D), μ[i]? = some (some (false, d)) → ∃ v, σ[i]? = some (some v) ∧ Rep K sa G d v
  own : ∀ (i : Nat) (d : D), μ[i]? = some (some (true, d)) → ∃ v, σ[i]? = some (some v) ∧ Owned K sa H0 G H d v
  apart : ∀ (i j : Nat) (d d' : D), i ≠ j → μ[i]? = some (some (true, d)) → μ[j]? = some (some (true, d')) → σ[i]? ≠ σ[j]?
theorem seen_get (m : Nat → Bool) : ∀ (μ : Mem) (j i : Nat), (seen m j μ)[i]? = (μ[i]?).map fun o => match o with
    | none => none
    | some (b, d) => if b && !m (j + i) then none else some d
  | [], _, _ => rfl
  | none :: μ, j, 0 => rfl
  | none :: μ, j, i + 1 => by rw [seen, List.getElem?_cons_succ, List.getElem?_cons_succ, seen_get m μ (j + 1) i, show j + 1 + i = j + (i + 1) by omega]
  | some (b, d) :: μ, j, 0 => rfl
  | some (b, d) :: μ, j, i + 1 => by rw [seen, List.getElem?_cons_succ, List.getElem?_cons_succ, seen_get m μ (j + 1) i, show j + 1 + i = j + (i + 1) by omega]
theorem freeze_get (m : Nat → Bool) : ∀ (μ : Mem) (j i : Nat), (freeze m j μ)[i]? = (μ[i]?).map fun o => match o with
    | none => none
    | some (b, d) => some (b && !m (j + i), d)
  | [], _, _ => rfl
  | none :: μ, j, 0 => rfl
  | none :: μ, j, i + 1 => by rw [freeze, List.getElem?_cons_succ, List.getElem?_cons_succ, freeze_get m μ (j + 1) i, show j + 1 + i = j + (i + 1) by omega]
  | some (b, d) :: μ, j, 0 => rfl
  | some (b, d) :: μ, j, i + 1 => by rw [freeze, List.getElem?_cons_succ, List.getElem?_cons_succ, freeze_get m μ (j + 1) i, show j + 1 + i = j + (i + 1) by omega]
theorem seen_len (m : Nat → Bool) : ∀ (μ : Mem) (j : Nat), (seen m j μ).length = μ.length
  | [], _ => rfl
  | none :: μ, j => by rw [seen, List.length_cons, List.length_cons, seen_len]
  | some (b, d) :: μ, j => by rw [seen, List.length_cons, List.length_cons, seen_len]
theorem freeze_len (m : Nat → Bool) : ∀ (μ : Mem) (j : Nat), (freeze m j μ).length = μ.length
  | [], _ => rfl
  | none :: μ, j => by rw [freeze, List.length_cons, List.length_cons, freeze_len]
  | some (b, d) :: μ, j => by rw [freeze, List.length_cons, List.length_cons, freeze_len]
section
variable {K : PySem.W.Frag} {sa : SA} {T : List (Addr × Str)} {G0 H0 G H G' H' : Hp} {S S' : Src} {σ : L2.St} {μ : Mem} {m : Nat → Bool}
/-- the owned things that are named -/
def Lent (σ : L2.St) (μ : Mem) (m : Nat → Bool) (b : Addr) : Prop := ∃ (i : Nat) (d : D), μ[i]? = some (some (true, d)) ∧ m i = true ∧ σ[i]? = some (some (.ref b))
open Classical in
noncomputable def lendG (σ : L2.St) (μ : Mem) (m : Nat → Bool) (G H : Hp) : Hp := fun b => if Lent σ μ m b then H b else G b
open Classical in
noncomputable def backG (σ : L2.St) (μ : Mem) (m : Nat → Bool) (G : Hp) : Hp := fun b => if Lent σ μ m b then none else G b
theorem lendG_in {b : Addr} (h : Lent σ μ m b) : lendG σ μ m G H b = H b := if_pos h
theorem lendG_out {b : Addr} (h : ¬ Lent σ μ m b) : lendG σ μ m G H b = G b := if_neg h
theorem backG_in {b : Addr} (h : Lent σ μ m b) : backG σ μ m G b = none := if_pos h
theorem backG_out {b : Addr} (h : ¬ Lent σ μ m b) : backG σ μ m G b = G b := if_neg h
theorem Lent.owned (St : StOk K sa H0 G H σ μ) {b : Addr} (h : Lent σ μ m b) : ∃ d u, b ≠ sa.1 ∧ H0 b = none ∧ G b = none ∧ H b = some u ∧ RepU K sa G d u := by
  obtain ⟨i, d, h1, _, h3⟩ := h
  obtain ⟨v, e, a, u, rfl, q⟩ := St.own i d h1
  rw [h3] at e
  cases e
  exact ⟨d, u, q⟩
theorem lend_sub (St : StOk K sa H0 G H σ μ) : Sub G (lendG σ μ m G H) := fun b u e => by
  have : ¬ Lent σ μ m b := fun z => by
    obtain ⟨_, _, _, _, g, _⟩ := z.owned St
    rw [g] at e; cases e
  rw [lendG_out this]; exact e
theorem lend_wd (St : StOk K sa H0 G H σ μ) (w : Wd K sa T G H S) : Wd K sa T (lendG σ μ m G H) H S := by
  refine ⟨fun b u e => ?_, ?_, ?_, w.tabs⟩
  · by_cases z : Lent σ μ m b
    · obtain ⟨d, u', _, _, _, hu, ru⟩ := z.owned St
      rw [lendG_in z, hu] at e
      cases e
      exact ⟨ru.isK, .inl hu⟩
    · rw [lendG_out z] at e
      exact w.sub b u e
  · obtain ⟨vs, h1, h2, h3⟩ := w.srcH
    exact ⟨vs, h1, lend_sub St _ _ h2, h3⟩
  · have : ¬ Lent σ μ m sa.1 := fun z => by
      obtain ⟨_, _, n, _⟩ := z.owned St
      exact n rfl
    rw [lendG_out this]; exact w.srcG
theorem lend_env (St : StOk K sa H0 G H σ μ) : EnvOk K sa (lendG σ μ m G H) σ (seen m 0 μ) := by
  refine ⟨by rw [seen_len]; exact St.len, fun i d e => ?_⟩
  rw [seen_get] at e
  cases q : μ[i]? with
  | none => rw [q] at e; cases e
  | some o =>
    rw [q] at e
    cases o with
    | none => cases e
    | some p =>
      obtain ⟨b, d'⟩ := p
      simp only [Option.map_some, Nat.zero_add] at e
      cases b with
      | false =>
        have e : some (some d') = some (some d) := e
        cases e
        obtain ⟨v, ev, r⟩ := St.frz i d q
        exact ⟨v, ev, Rep.sub (lend_sub St) _ _ r⟩
      | true =>
        cases hm : m i with
        | false => rw [hm] at e; cases e
        | true =>
          rw [hm] at e
          have e : some (some d') = some (some d) := e
          cases e
          obtain ⟨v, ev, a, u, rfl, h1, h2, h3, h4, h5⟩ := St.own i d q
          refine ⟨.ref a, ev, (h5.sub (lend_sub St)).rep ?_⟩
          rw [lendG_in ⟨i, d, q, hm, ev⟩]; exact h4
/-- behind an expression whose value holds nothing of what is owned -/
theorem thaw1 (St : StOk K sa H0 G H σ μ) (e0 : Ext sa G0 H0 G H) (w : Wd K sa T G H S) (e : Ext sa (lendG σ μ m G H) H G' H') (w' : Wd K sa T G' H' S') :
    Ext sa G0 H0 (backG σ μ m G') H' ∧ Wd K sa T (backG σ μ m G') H' S' ∧ StOk K sa H0 (backG σ μ m G') H' σ μ ∧ (∀ d v, d.imm = true → Rep K sa G' d v → Rep K sa (backG σ μ m G') d v) ∧ (∀ d u, d.immT = true → RepU K sa G' d u → RepU K sa (backG σ μ m G') d u) := by
  have sG : Sub G (backG σ μ m G') := fun b u q => by
    have : ¬ Lent σ μ m b := fun z => by
      obtain ⟨_, _, _, _, g, _⟩ := z.owned St
      rw [g] at q; cases q
    rw [backG_out this]
    exact e.g _ _ (lend_sub St _ _ q)
  have tG : ∀ b vs, G' b = some (.tup vs) → backG σ μ m G' b = some (.tup vs) := fun b vs q => by
    have : ¬ Lent σ μ m b := fun z => by
      obtain ⟨d, u, n1, n2, n3, hu, ru⟩ := z.owned St
      have q2 : G' b = some u := e.g b u (by rw [lendG_in z]; exact hu)
      rw [q] at q2
      cases q2
      cases d <;> exact ru.elim
    rw [backG_out this]; exact q
  refine ⟨⟨e0.g.trans sG, fun b u z q => ?_, fun b u n q t => e.h b u n (e0.h b u n q t) t, fun b q => e0.dom b (e.dom b q)⟩, ⟨fun b u q => ?_, ?_, ?_, w'.tabs⟩, ⟨St.len, fun i d q => ?_, fun i d q => ?_, St.apart⟩, fun d v z r => Rep.imm tG w'.nofrz d v z r, fun d u z r => ?_⟩
  · by_cases hl : Lent σ μ m b
    · rw [backG_in hl] at q; cases q
    · rw [backG_out hl] at q
      cases q2 : G b with
      | some o => exact e0.n b o z q2
      | none => exact e0.dom b (e.n b u (by rw [lendG_out hl]; exact q2) q)
  · by_cases hl : Lent σ μ m b
    · rw [backG_in hl] at q; cases q
    · rw [backG_out hl] at q; exact w'.sub b u q
  · obtain ⟨vs, h1, h2, h3⟩ := w'.srcH
    obtain ⟨vs0, _, g2, _⟩ := w.srcH
    have : ¬ Lent σ μ m sa.2 := fun z => by
      obtain ⟨_, _, _, _, g, _⟩ := z.owned St
      rw [g] at g2; cases g2
    exact ⟨vs, h1, by rw [backG_out this]; exact h2, h3⟩
  · by_cases hl : Lent σ μ m sa.1
    · exact backG_in hl
    · rw [backG_out hl]; exact w'.srcG
  · obtain ⟨v, ev, r⟩ := St.frz i d q
    exact ⟨v, ev, Rep.sub sG _ _ r⟩
  · obtain ⟨v, ev, a, u, rfl, h1, h2, h3, h4, h5⟩ := St.own i d q
    refine ⟨.ref a, ev, a, u, rfl, h1, h2, ?_, e.h a u h1 h4 (isK_tbl h5.isK).1, h5.sub sG⟩
    by_cases hl : Lent σ μ m a
    · exact backG_in hl
    · rw [backG_out hl]
      exact e.gnone (by rw [lendG_out hl]; exact h3) h4
  · cases d <;> cases u <;> first | exact r.elim | exact ⟨r.1, RepL.imm tG w'.nofrz _ _ z r.2⟩ | exact ⟨r.1, RepD.imm tG w'.nofrz _ _ z r.2⟩
theorem freeze_own {i : Nat} {d : D} (q : (freeze m 0 μ)[i]? = some (some (true, d))) : μ[i]? = some (some (true, d)) := by
  rw [freeze_get] at q
  cases q1 : μ[i]? with
  | none => rw [q1] at q; cases q
  | some o =>
    rw [q1] at q
    cases o with
    | none => cases q
    | some p =>
      obtain ⟨b, d'⟩ := p
      simp only [Option.map_some, Nat.zero_add, Option.some.injEq, Prod.mk.injEq, Bool.and_eq_true] at q
      obtain ⟨⟨rfl, _⟩, rfl⟩ := q
      rfl
/-- .. that may hold it: what was named is nobody's own from now on -/
theorem thaw2 (St : StOk K sa H0 G H σ μ) (e0 : Ext sa G0 H0 G H) (e : Ext sa (lendG σ μ m G H) H G' H') : Ext sa G0 H0 G' H' ∧ StOk K sa H0 G' H' σ (freeze m 0 μ) := by
  refine ⟨⟨fun b u q => e.g _ _ (lend_sub St _ _ (e0.g _ _ q)), fun b u z q => ?_, fun b u n q t => e.h b u n (e0.h b u n q t) t, fun b q => e0.dom b (e.dom b q)⟩, ⟨by rw [freeze_len]; exact St.len, fun i d q => ?_, fun i d q => ?_, fun i j d d' hij q1 q2 => ?_⟩⟩
  · by_cases hl : Lent σ μ m b
    · obtain ⟨_, _, _, n, _⟩ := hl.owned St
      exact n
    · cases q2 : G b with
      | some o => exact e0.n b o z q2
      | none => exact e0.dom b (e.n b u (by rw [lendG_out hl]; exact q2) q)
  · rw [freeze_get] at q
    cases q1 : μ[i]? with
    | none => rw [q1] at q; cases q
    | some o =>
      rw [q1] at q
      cases o with
      | none => cases q
      | some p =>
        obtain ⟨b, d'⟩ := p
        simp only [Option.map_some, Nat.zero_add, Option.some.injEq, Prod.mk.injEq] at q
        obtain ⟨hb, rfl⟩ := q
        cases b with
        | false =>
          obtain ⟨v, ev, r⟩ := St.frz i d' q1
          exact ⟨v, ev, Rep.sub ((lend_sub St).trans e.g) _ _ r⟩
        | true =>
          have hm : m i = true := by simpa using hb
          obtain ⟨v, ev, a, u, rfl, h1, h2, h3, h4, h5⟩ := St.own i d' q1
          refine ⟨.ref a, ev, (h5.sub ((lend_sub St).trans e.g)).rep (e.g _ _ ?_)⟩
          rw [lendG_in ⟨i, d', q1, hm, ev⟩]; exact h4
  · rw [freeze_get] at q
    cases q1 : μ[i]? with
    | none => rw [q1] at q; cases q
    | some o =>
      rw [q1] at q
      cases o with
      | none => cases q
      | some p =>
        obtain ⟨b, d'⟩ := p
        simp only [Option.map_some, Nat.zero_add, Option.some.injEq, Prod.mk.injEq] at q
        obtain ⟨hb, rfl⟩ := q
        rw [Bool.and_eq_true] at hb
        obtain ⟨rfl, hm⟩ := hb
        obtain ⟨v, ev, a, u, rfl, h1, h2, h3, h4, h5⟩ := St.own i d' q1
        have hl : ¬ Lent σ μ m a := fun ⟨j, dj, k1, k2, k3⟩ => by
          by_cases hij : j = i
          · subst hij
            rw [k2] at hm; cases hm
          · exact St.apart j i dj d' hij k1 q1 (k3.trans ev.symm)
        exact ⟨.ref a, ev, a, u, rfl, h1, h2, e.gnone (by rw [lendG_out hl]; exact h3) h4, e.h a u h1 h4 (isK_tbl h5.isK).1, h5.sub ((lend_sub St).trans e.g)⟩
  · exact St.apart i j d d' hij (freeze_own q1) (freeze_own q2)
/-- an expression of a statement -/
theorem thaw {p : Bool × D} {v : V} (St : StOk K sa H0 G H σ μ) (e0 : Ext sa G0 H0 G H) (w : Wd K sa T G H S) (e : Ext sa (lendG σ μ m G H) H G' H') (w' : Wd K sa T G' H' S') (r : RepO K sa G' H H' p v) :
    ∃ G2, Ext sa G0 H0 G2 H' ∧ Wd K sa T G2 H' S' ∧ StOk K sa H0 G2 H' σ (if loose p then μ else freeze m 0 μ) ∧ RepO K sa G2 H0 H' p v ∧ (p.1 = true → (∃ a, v = .ref a ∧ a ≠ sa.1) ∧ ∀ (j : Nat) (d : D), (if loose p then μ else freeze m 0 μ)[j]? = some (some (true, d)) → σ[j]? ≠ some (some v)) ∧ Sub G2 G' := by
  obtain ⟨o, d⟩ := p
  have ap : o = true → (∃ a, v = .ref a ∧ a ≠ sa.1) ∧ ∀ (j : Nat) (d : D), μ[j]? = some (some (true, d)) → σ[j]? ≠ some (some v) := fun ho => by
    subst ho
    obtain ⟨a, u, rfl, n, _⟩ := (show ∃ a u, v = .ref a ∧ H a = none ∧ G' a = none ∧ H' a = some u ∧ RepU K sa G' d u from r)
    refine ⟨⟨a, rfl, w.sne n⟩, fun j dj q z => ?_⟩
    obtain ⟨v', ev, a', u', rfl, h1, h2, h3, h4, h5⟩ := St.own j dj q
    rw [z] at ev
    cases ev
    rw [n] at h4; cases h4
  cases hl : loose (o, d) with
  | true =>
    obtain ⟨t1, t2, t3, t4, t5⟩ := thaw1 St e0 w e w'
    refine ⟨backG σ μ m G', t1, t2, t3, ?_, ap, fun b u q => by
      by_cases z : Lent σ μ m b
      · rw [backG_in z] at q; cases q
      · rw [backG_out z] at q; exact q⟩
    cases o with
    | false => exact t4 d v hl r
    | true =>
      obtain ⟨a, u, rfl, n, gn, hu, ru⟩ := (show ∃ a u, v = .ref a ∧ H a = none ∧ G' a = none ∧ H' a = some u ∧ RepU K sa G' d u from r)
      refine ⟨a, u, rfl, e0.dom a n, ?_, hu, t5 d u hl ru⟩
      by_cases z : Lent σ μ m a
      · exact backG_in z
      · rw [backG_out z]; exact gn
  | false =>
    obtain ⟨t1, t2⟩ := thaw2 St e0 e
    refine ⟨G', t1, w', t2, ?_, fun ho => ⟨(ap ho).1, fun j dj q => (ap ho).2 j dj (freeze_own q)⟩, Sub.refl _⟩
    cases o with
    | false => exact r
    | true =>
      obtain ⟨a, u, rfl, n, gn, hu, ru⟩ := (show ∃ a u, v = .ref a ∧ H a = none ∧ G' a = none ∧ H' a = some u ∧ RepU K sa G' d u from r)
      exact ⟨a, u, rfl, e0.dom a n, gn, hu, ru⟩
end
/-! ### slots are stored -/
section
variable {K : PySem.W.Frag} {sa : SA} {T : List (Addr × Str)} {H0 G H : Hp} {σ : L2.St} {μ : Mem} {i : Nat}
theorem set_get {α : Type} {l : List α} {i j : Nat} {x y : α} (h : (l.set i x)[j]? = some y) : (i = j ∧ y = x ∧ i < l.length) ∨ (i ≠ j ∧ l[j]? = some y) := by
  by_cases hij : i = j
  · subst hij
    have hi : i < l.length := by
      have := (List.getElem?_eq_some_iff.mp h).1
      rw [List.length_set] at this; exact this
    rw [List.getElem?_set_self hi] at h
    exact .inl ⟨rfl, (Option.some.inj h).symm, hi⟩
  · rw [List.getElem?_set_ne hij] at h
    exact .inr ⟨hij, h⟩
theorem StOk.setF {d : D} {v : V} (St : StOk K sa H0 G H σ μ) (r : Rep K sa G d v) : StOk K sa H0 G H (σ.set i (some v)) (μ.set i (some (false, d))) := by
  refine ⟨by rw [List.length_set, List.length_set]; exact St.len, fun j x e => ?_, fun j x e => ?_, fun j l x y hjl e1 e2 => ?_⟩
  · rcases set_get e with ⟨rfl, h, hi⟩ | ⟨hij, e⟩
    · cases h
      exact ⟨v, List.getElem?_set_self (Nat.lt_of_lt_of_le hi St.len), r⟩
    · obtain ⟨u, e1, r1⟩ := St.frz j x e
      exact ⟨u, by rw [List.getElem?_set_ne hij]; exact e1, r1⟩
  · rcases set_get e with ⟨rfl, h, hi⟩ | ⟨hij, e⟩
    · cases h
    · obtain ⟨u, e1, r1⟩ := St.own j x e
      exact ⟨u, by rw [List.getElem?_set_ne hij]; exact e1, r1⟩
  · rcases set_get e1 with ⟨rfl, h, hi⟩ | ⟨hij, e1⟩
    · cases h
    · rcases set_get e2 with ⟨rfl, h, hi⟩ | ⟨hil, e2⟩
      · cases h
      · rw [List.getElem?_set_ne hij, List.getElem?_set_ne hil]
        exact St.apart j l x y hjl e1 e2
theorem StOk.setO {d : D} {v : V} (St : StOk K sa H0 G H σ μ) (r : Owned K sa H0 G H d v) (ap : ∀ (j : Nat) (d : D), μ[j]? = some (some (true, d)) → σ[j]? ≠ some (some v)) : StOk K sa H0 G H (σ.set i (some v)) (μ.set i (some (true, d))) := by
  refine ⟨by rw [List.length_set, List.length_set]; exact St.len, fun j x e => ?_, fun j x e => ?_, fun j l x y hjl e1 e2 => ?_⟩
  · rcases set_get e with ⟨rfl, h, hi⟩ | ⟨hij, e⟩
    · cases h
    · obtain ⟨u, e1, r1⟩ := St.frz j x e
      exact ⟨u, by rw [List.getElem?_set_ne hij]; exact e1, r1⟩
  · rcases set_get e with ⟨rfl, h, hi⟩ | ⟨hij, e⟩
    · cases h
      exact ⟨v, List.getElem?_set_self (Nat.lt_of_lt_of_le hi St.len), r⟩
    · obtain ⟨u, e1, r1⟩ := St.own j x e
      exact ⟨u, by rw [List.getElem?_set_ne hij]; exact e1, r1⟩
  · rcases set_get e1 with ⟨rfl, h, hi⟩ | ⟨hij, e1⟩
    · rcases set_get e2 with ⟨rfl, h2, hi2⟩ | ⟨hil, e2⟩
      · exact absurd rfl hjl
      · rw [List.getElem?_set_self (Nat.lt_of_lt_of_le hi St.len), List.getElem?_set_ne hil]
        exact fun z => ap l y e2 z.symm
    · rcases set_get e2 with ⟨rfl, h2, hi2⟩ | ⟨hil, e2⟩
      · rw [List.getElem?_set_self (Nat.lt_of_lt_of_le hi2 St.len), List.getElem?_set_ne hij]
        exact ap j x e1
      · rw [List.getElem?_set_ne hij, List.getElem?_set_ne hil]
        exact St.apart j l x y hjl e1 e2
/-- the owned thing at a slot is changed -/
theorem StOk.put {d d' : D} {a : Addr} {u : HO} (St : StOk K sa H0 G H σ μ) (hi : μ[i]? = some (some (true, d))) (hs : σ[i]? = some (some (.ref a))) (ru : RepU K sa G d' u) : StOk K sa H0 G (upd H a u) σ (μ.set i (some (true, d'))) := by
  have hlt : i < μ.length := (List.getElem?_eq_some_iff.mp hi).1
  obtain ⟨v0, ev0, a0, u0, rfl, k1, k2, k3, k4, k5⟩ := St.own i d hi
  rw [hs] at ev0
  cases ev0
  refine ⟨by rw [List.length_set]; exact St.len, fun j x e => ?_, fun j x e => ?_, fun j l x y hjl e1 e2 => ?_⟩
  · rcases set_get e with ⟨rfl, h, _⟩ | ⟨hij, e⟩
    · cases h
    · exact St.frz j x e
  · rcases set_get e with ⟨rfl, h, _⟩ | ⟨hij, e⟩
    · cases h
      exact ⟨.ref a, hs, a, u, rfl, k1, k2, k3, upd_same, ru⟩
    · obtain ⟨v, ev, a1, u1, rfl, h1, h2, h3, h4, h5⟩ := St.own j x e
      refine ⟨.ref a1, ev, a1, u1, rfl, h1, h2, h3, ?_, h5⟩
      have : a1 ≠ a := fun z => by
        subst z
        exact St.apart i j d x hij hi e (hs.trans ev.symm)
      rw [upd_ne this]; exact h4
  · have key : ∀ (j : Nat) (x : D), (μ.set i (some (true, d')))[j]? = some (some (true, x)) → ∃ x', μ[j]? = some (some (true, x')) := fun j x e => by
      rcases set_get e with ⟨rfl, h, _⟩ | ⟨hij, e⟩
      · exact ⟨d, hi⟩
      · exact ⟨x, e⟩
    obtain ⟨x', e1⟩ := key j x e1
    obtain ⟨y', e2⟩ := key l y e2
    exact St.apart j l x' y' hjl e1 e2
theorem StOk.repO {p : Bool × D} {v : V} (St : StOk K sa H0 G H σ μ) (h : μ[i]? = some (some p)) (hs : σ[i]? = some (some v)) : RepO K sa G H0 H p v := by
  obtain ⟨o, d⟩ := p
  cases o with
  | false =>
    obtain ⟨v', e, r⟩ := St.frz i d h
    rw [hs] at e; cases e
    exact r
  | true =>
    obtain ⟨v', e, a, u, rfl, h1, h2, h3, h4, h5⟩ := St.own i d h
    rw [hs] at e; cases e
    exact ⟨a, u, rfl, h2, h3, h4, h5⟩
/-- what an expression gave is stored -/
theorem StOk.setP {p : Bool × D} {v : V} (St : StOk K sa H0 G H σ μ) (r : RepO K sa G H0 H p v) (ap : p.1 = true → (∃ a, v = .ref a ∧ a ≠ sa.1) ∧ ∀ (j : Nat) (d : D), μ[j]? = some (some (true, d)) → σ[j]? ≠ some (some v)) : StOk K sa H0 G H (σ.set i (some v)) (μ.set i (some p)) := by
  obtain ⟨o, d⟩ := p
  cases o with
  | false => exact St.setF r
  | true =>
    obtain ⟨⟨a, rfl, hn⟩, ap⟩ := ap rfl
    obtain ⟨a', u, e, n, gn, hu, ru⟩ := (show ∃ a' u, V.ref a = .ref a' ∧ H0 a' = none ∧ G a' = none ∧ H a' = some u ∧ RepU K sa G d u from r)
    cases e
    exact St.setO ⟨a, u, rfl, hn, n, gn, hu, ru⟩ ap
end
end DW

/-! DwStm: the statements of the small language, by the layer's rules. -/
namespace DW
open PySem PyProof.Rows L2

section
variable {K : PySem.W.Frag} {sa : SA} {T : List (Addr × Str)} {E : XS}
/-- what is wanted behind a statement; G0, H0: the def's entry -/
def spost (K : PySem.W.Frag) (sa : SA) (T : List (Addr × Str)) (E : XS) (G0 H0 : Hp) (r : SR) (Dn : Ends) : Prop := match r with
  | .nxt μ S => ∀ σ G H, Ext sa G0 H0 G H → Wd K sa T G H S → StOk K sa H0 G H σ μ → Dn.nx σ H
  | .brk μ S => ∀ σ G H, Ext sa G0 H0 G H → Wd K sa T G H S → StOk K sa H0 G H σ μ → Dn.bk σ H
  | .cnt μ S => ∀ σ G H, Ext sa G0 H0 G H → Wd K sa T G H S → StOk K sa H0 G H σ μ → Dn.ct σ H
  | .ret p S => ∀ v G H, Ext sa G0 H0 G H → Wd K sa T G H S → RepO K sa G H0 H p v → Dn.rt v H
  | .err x S μ => ∀ cls dd σ G H, Ext sa G0 H0 G H → Wd K sa T G H S → StOk K sa H0 G H σ μ → ExcAt K sa x cls dd G H → E σ cls dd H
  | .stuck => False
def TSx (K : PySem.W.Frag) (sa : SA) (T : List (Addr × Str)) (F : FT) (XF : XT) (g : Nat) (E : XS) (G0 H0 : Hp) (s : Sm) : TS := fun Dn σ H => ∃ G μ S, Ext sa G0 H0 G H ∧ Wd K sa T G H S ∧ StOk K sa H0 G H σ μ ∧ spost K sa T E G0 H0 (ex F XF g s μ S) Dn
def TSs (K : PySem.W.Frag) (sa : SA) (T : List (Addr × Str)) (F : FT) (XF : XT) (g : Nat) (E : XS) (G0 H0 : Hp) (s : Sms) : TS := fun Dn σ H => ∃ G μ S, Ext sa G0 H0 G H ∧ Wd K sa T G H S ∧ StOk K sa H0 G H σ μ ∧ spost K sa T E G0 H0 (exs F XF g s μ S) Dn
end
section
variable {X : Cx} {sa : SA} {T : List (Addr × Str)} {F : FT} {XF : XT} {g : Nat} {E : XS} {G0 H0 : Hp} {pos p1 : Pos} {a b c : Ex} {ea eb ec : Expr}
/-- an expression of a statement, by its value -/
theorem evM_run {K : PySem.W.Frag} {G H : Hp} {S : Src} {σ : L2.St} {μ : Mem} {x : Ex} {f : (Bool × D) × Mem → Src → SR} {Dn : Ends} {Φ : V → Hp → Prop} (e0 : Ext sa G0 H0 G H) (w : Wd K sa T G H S) (so : StOk K sa H0 G H σ μ) (h : spost K sa T E G0 H0 ((evM F x μ S).then (freeze (ment x) 0 μ) f) Dn)
    (k : ∀ p S' v G' H', Ext sa G0 H0 G' H' → Wd K sa T G' H' S' → StOk K sa H0 G' H' σ (if loose p then μ else freeze (ment x) 0 μ) → RepO K sa G' H0 H' p v →
      (p.1 = true → (∃ a, v = .ref a ∧ a ≠ sa.1) ∧ ∀ (j : Nat) (d : D), (if loose p then μ else freeze (ment x) 0 μ)[j]? = some (some (true, d)) → σ[j]? ≠ some (some v)) →
      spost K sa T E G0 H0 (f (p, if loose p then μ else freeze (ment x) 0 μ) S') Dn → Φ v H') : TX K sa T F E x σ H Φ := by
  refine ⟨lendG σ μ (ment x) G H, seen (ment x) 0 μ, S, lend_wd so w, lend_env so, ?_⟩
  unfold evM at h
  cases q : ev F x (seen (ment x) 0 μ) S with
  | stuck => rw [q] at h; exact h.elim
  | err y S1 =>
    rw [q] at h
    exact fun cls dd G' H' e' w' r => h cls dd σ G' H' (thaw2 so e0 e').1 w' (thaw2 so e0 e').2 r
  | ok p S1 =>
    rw [q] at h
    intro v G' H' e' w' r
    obtain ⟨G2, t1, t2, t3, t4, t5, _⟩ := thaw so e0 w e' w' r
    exact k p S1 v G2 H' t1 t2 t3 t4 t5 h
theorem imm_loose {b : Bool} : loose (false, D.bl b) = true := rfl
/-- a test of a statement -/
theorem evMB_run {K : PySem.W.Frag} {G H : Hp} {S : Src} {σ : L2.St} {μ : Mem} {x : Ex} {f : Bool × Mem → Src → SR} {Dn : Ends} {Φ : Bool → Hp → Prop} (e0 : Ext sa G0 H0 G H) (w : Wd K sa T G H S) (so : StOk K sa H0 G H σ μ) (h : spost K sa T E G0 H0 ((evMB F x μ S).then (freeze (ment x) 0 μ) f) Dn)
    (k : ∀ b μ' S' G' H', Ext sa G0 H0 G' H' → Wd K sa T G' H' S' → StOk K sa H0 G' H' σ μ' → spost K sa T E G0 H0 (f (b, μ') S') Dn → Φ b H') : TXb K sa T F E x σ H Φ := by
  refine ⟨lendG σ μ (ment x) G H, seen (ment x) 0 μ, S, lend_wd so w, lend_env so, ?_⟩
  unfold evMB evM at h
  unfold theB
  cases q : ev F x (seen (ment x) 0 μ) S with
  | stuck => rw [q] at h; exact h.elim
  | err y S1 =>
    rw [q] at h
    exact fun cls dd G' H' e' w' r => h cls dd σ G' H' (thaw2 so e0 e').1 w' (thaw2 so e0 e').2 r
  | ok p S1 =>
    rw [q] at h
    obtain ⟨o, d⟩ := p
    cases d <;> first | exact h.elim | skip
    rename_i b
    intro b' G' H' e' w' r
    obtain rfl : b' = b := r
    have r : RepO K sa G' H H' (false, .bl b') (.bl b') := by show Rep K sa G' (.bl b') (.bl b'); rw [Rep]
    cases o with
    | false =>
      obtain ⟨G2, t1, t2, t3, _, _, _⟩ := thaw so e0 w e' w' r
      exact k b' _ S1 G2 H' t1 t2 t3 h
    | true =>
      have hl : loose (true, D.bl b') = true := rfl
      obtain ⟨G2, t1, t2, t3, _, _, _⟩ := thaw so e0 w e' w' r
      exact k b' _ S1 G2 H' t1 t2 t3 h
/-! ### name = value -/
def tSetK (te : TE) (i : Nat) : TS := tAsg te (gName i)
theorem ss_set {i : Nat} {x : Ex} {s : Stmt} (h : PS X s (tAsg (TX X.K sa T F E x) (gName i))) : PS X s (TSx X.K sa T F XF g E G0 H0 (.set i x)) :=
  h.imp fun Dn σ H h => by
    obtain ⟨G, μ, S, e0, w, so, h⟩ := h
    rw [ex] at h
    exact evM_run e0 w so h fun p S' v G' H' e' w' so' r ap h' => h' _ G' H' e' w' (so'.setP r ap)
/-! ### return -/
theorem ss_ret {x : Ex} (h : PE X ea (TX X.K sa T F E x)) (hv : ∀ i, isVar x = some i → PE X ea (tVar i)) : PS X (.Return (some ea) pos) (TSx X.K sa T F XF g E G0 H0 (.ret x)) := by
  cases q : isVar x with
  | none =>
    refine (ps_ret h).imp fun Dn σ H h => ?_
    obtain ⟨G, μ, S, e0, w, so, h⟩ := h
    rw [ex, q] at h
    exact evM_run e0 w so h fun p S' v G' H' e' w' so' r ap h' => h' v G' H' e' w' r
  | some i =>
    refine (ps_ret (hv i q)).imp fun Dnn σ H h => ?_
    obtain ⟨G, μ, S, e0, w, so, h⟩ := h
    rw [ex, q] at h
    cases qm : μ[i]? with
    | none => simp only [qm] at h; exact h.elim
    | some o =>
      cases o with
      | none => simp only [qm] at h; exact h.elim
      | some p =>
        simp only [qm] at h
        obtain ⟨b, d⟩ := p
        have hs : ∃ v, σ[i]? = some (some v) := by
          cases b with
          | false => obtain ⟨v, e, _⟩ := so.frz i d qm; exact ⟨v, e⟩
          | true => obtain ⟨v, e, _⟩ := so.own i d qm; exact ⟨v, e⟩
        obtain ⟨v, ev⟩ := hs
        exact ⟨v, ev, h v G H e0 w (so.repO qm ev)⟩
theorem ss_retN : PS X (.Return none pos) (TSx X.K sa T F XF g E G0 H0 .retN) := ps_retN.imp fun Dn σ H h => by
  obtain ⟨G, μ, S, e0, w, so, h⟩ := h
  rw [ex] at h
  exact h .non G H e0 w (by show Rep X.K sa G .non .non; rw [Rep])
theorem ss_expr {x : Ex} (h : PE X ea (TX X.K sa T F E x)) (hs : swapsWith ea none pos.line X.env = pure false) : PS X (.Expr ea pos) (TSx X.K sa T F XF g E G0 H0 (.expr x)) :=
  (ps_expr h hs).imp fun Dn σ H h => by
    obtain ⟨G, μ, S, e0, w, so, h⟩ := h
    rw [ex] at h
    exact evM_run e0 w so h fun p S' v G' H' e' w' so' r ap h' => h' σ G' H' e' w' so'
theorem ss_brk : PS X (.Break pos) (TSx X.K sa T F XF g E G0 H0 .brk) := ps_break.imp fun Dn σ H h => by
  obtain ⟨G, μ, S, e0, w, so, h⟩ := h
  rw [ex] at h
  exact h σ G H e0 w so
theorem ss_cont : PS X (.Continue pos) (TSx X.K sa T F XF g E G0 H0 .cont) := ps_continue.imp fun Dn σ H h => by
  obtain ⟨G, μ, S, e0, w, so, h⟩ := h
  rw [ex] at h
  exact h σ G H e0 w so
theorem ss_pass : PS X (.Pass pos) (TSx X.K sa T F XF g E G0 H0 .pass) := ps_pass.imp fun Dn σ H h => by
  obtain ⟨G, μ, S, e0, w, so, h⟩ := h
  rw [ex] at h
  exact h σ G H e0 w so
/-! ### blocks, if -/
theorem _root_.L2.PSs.imp {es : List Stmt} {t t' : TS} (h : PSs X es t) (i : ∀ Dn σ H, t' Dn σ H → t Dn σ H) : PSs X es t' := ⟨fun pins s σ H Dn I w => h.run pins s σ H Dn I (i Dn σ H w)⟩
theorem sss_nil : PSs X [] (TSs X.K sa T F XF g E G0 H0 .nil) := pss_nil.imp fun Dn σ H h => by
  obtain ⟨G, μ, S, e0, w, so, h⟩ := h
  rw [exs] at h
  exact h σ G H e0 w so
theorem sss_cons {s : Sm} {ss : Sms} {st : Stmt} {sts : List Stmt} (h1 : PS X st (TSx X.K sa T F XF g E G0 H0 s)) (h2 : PSs X sts (TSs X.K sa T F XF g E G0 H0 ss)) : PSs X (st :: sts) (TSs X.K sa T F XF g E G0 H0 (.cons s ss)) :=
  (pss_cons h1 h2).imp fun Dn σ H h => by
    obtain ⟨G, μ, S, e0, w, so, h⟩ := h
    rw [exs] at h
    refine ⟨G, μ, S, e0, w, so, ?_⟩
    cases q : ex F XF g s μ S with
    | nxt μ1 S1 =>
      rw [q] at h
      exact fun σ' G' H' e' w' so' => ⟨G', μ1, S1, e', w', so', h⟩
    | ret p S1 => rw [q] at h; exact h
    | brk μ1 S1 => rw [q] at h; exact h
    | cnt μ1 S1 => rw [q] at h; exact h
    | err y S1 μ1 => rw [q] at h; exact h
    | stuck => rw [q] at h; exact h
theorem ss_if {A B : Sms} {sa1 sb1 : List Stmt} (hc : PT X ec (TXb X.K sa T F E c)) (h1 : PSs X sa1 (TSs X.K sa T F XF g E G0 H0 A)) (h2 : PSs X sb1 (TSs X.K sa T F XF g E G0 H0 B)) : PS X (.If ec sa1 sb1 pos) (TSx X.K sa T F XF g E G0 H0 (.ifs c A B)) :=
  (ps_if hc h1 h2).imp fun Dn σ H h => by
    obtain ⟨G, μ, S, e0, w, so, h⟩ := h
    rw [ex] at h
    refine evMB_run e0 w so h fun b μ' S' G' H' e' w' so' h' => ?_
    cases b with
    | true => exact iteT ⟨G', μ', S', e', w', so', h'⟩
    | false => exact iteF ⟨G', μ', S', e', w', so', h'⟩
/-! ### for -/
theorem setAll_run {K : PySem.W.Frag} {G H : Hp} {Q : L2.St → Hp → Prop} : ∀ {is : List Nat} {ds : List D} {vs : List V} {σ : L2.St} {μ μ' : Mem}, StOk K sa H0 G H σ μ → RepL K sa G ds vs → setAll is ds μ = some μ' →
    (∀ σ', StOk K sa H0 G H σ' μ' → Q σ' H) → gNames is vs σ H Q
  | [], [], vs, σ, μ, μ', so, r, e, q => by
    rw [RepL] at r; subst r
    cases e
    exact ⟨rfl, q σ so⟩
  | [], _ :: _, vs, σ, μ, μ', so, r, e, q => by simp [setAll] at e
  | _ :: _, [], vs, σ, μ, μ', so, r, e, q => by simp [setAll] at e
  | i :: is, d :: ds, vs, σ, μ, μ', so, r, e, q => by
    rw [RepL] at r
    obtain ⟨v, r', rfl, r1, r2⟩ := r
    exact ⟨v, r', rfl, setAll_run (so.setF r1) r2 e q⟩
theorem setAll_len : ∀ {is : List Nat} {ds : List D} {μ μ' : Mem}, setAll is ds μ = some μ' → ds.length = is.length
  | [], [], _, _, _ => rfl
  | [], _ :: _, _, _, e => by simp [setAll] at e
  | _ :: _, [], _, _, e => by simp [setAll] at e
  | i :: is, d :: ds, μ, μ', e => by rw [List.length_cons, List.length_cons, setAll_len (show setAll is ds _ = some μ' from e)]
theorem bindM_run {K : PySem.W.Frag} {G H : Hp} {S : Src} {Q : L2.St → Hp → Prop} {tg : List Nat} {tp : Bool} {d : D} {v : V} {σ : L2.St} {μ μ' : Mem} (w : Wd K sa T G H S) (so : StOk K sa H0 G H σ μ) (r : Rep K sa G d v) (e : bindM tg tp d μ = some μ')
    (q : ∀ σ', StOk K sa H0 G H σ' μ' → Q σ' H) : gT K tg tp v σ H Q := by
  cases tp with
  | false => exact setAll_run so (RepL.cons r RepL.nil) e q
  | true =>
    cases d <;> first | (simp [bindM] at e; done) | skip
    rename_i ds
    rw [Rep] at r
    obtain ⟨_, ad, vs, rfl, g, rl⟩ := r
    have e : setAll tg ds μ = some μ' := e
    exact ⟨ad, vs, rfl, w.tup g, by rw [rl.length, setAll_len e], setAll_run so rl e q⟩
theorem StOk.ext {K : PySem.W.Frag} {G H G1 H1 : Hp} {σ : L2.St} {μ : Mem} (so : StOk K sa H0 G H σ μ) (e : Ext sa G H G1 H1) : StOk K sa H0 G1 H1 σ μ :=
  ⟨so.len, fun i d q => by
    obtain ⟨v, ev, r⟩ := so.frz i d q
    exact ⟨v, ev, Rep.sub e.g _ _ r⟩, fun i d q => by
    obtain ⟨v, ev, a, u, rfl, h1, h2, h3, h4, h5⟩ := so.own i d q
    exact ⟨.ref a, ev, a, u, rfl, h1, h2, e.gnone h3 h4, e.h a u h1 h4 (isK_tbl h5.isK).1, h5.sub e.g⟩, so.apart⟩
/-- a further ground -/
theorem ext_base {K : PySem.W.Frag} {G1 H1 G H : Hp} (t : Ext sa G0 H0 G1 H1) (e : Ext sa G1 H0 G H) : Ext sa G0 H0 G H where
  g := t.g.trans e.g
  n := fun b u z q => by
    cases q1 : G1 b with
    | none => exact e.n b u q1 q
    | some o => exact t.n b o z q1
  h := e.h
  dom := e.dom
theorem ext_self {G1 H1 : Hp} (t : Ext sa G0 H0 G1 H1) : Ext sa G1 H0 G1 H1 := ⟨Sub.refl _, fun b u z q => (by rw [z] at q; cases q), t.h, t.dom⟩
theorem spost.base {K : PySem.W.Frag} {G1 H1 : Hp} {r : SR} {Dn : Ends} (t : Ext sa G0 H0 G1 H1) (h : spost K sa T E G0 H0 r Dn) : spost K sa T E G1 H0 r Dn := by
  cases r with
  | nxt μ S => exact fun σ G H e w so => h σ G H (ext_base (K := K) t e) w so
  | brk μ S => exact fun σ G H e w so => h σ G H (ext_base (K := K) t e) w so
  | cnt μ S => exact fun σ G H e w so => h σ G H (ext_base (K := K) t e) w so
  | ret p S => exact fun v G H e w r => h v G H (ext_base (K := K) t e) w r
  | err x S μ => exact fun cls dd σ G H e w so r => h cls dd σ G H (ext_base (K := K) t e) w so r
  | stuck => exact h
theorem pss_any {ι : Type} {sts : List Stmt} {t : ι → TS} (h : ∀ i, PSs X sts (t i)) : PSs X sts (fun Dn σ H => ∃ i, t i Dn σ H) := ⟨fun pins s σ H Dn I ⟨i, q⟩ => (h i).run pins s σ H Dn I q⟩
theorem ss_for {tg : List Nat} {tp : Bool} {it : Itx} {body : Sms} {t i : Expr} {sb1 : List Stmt} (ho : PassesOwn (model X.prog X.w) X.A X.env X.xe) (hc : X.calm = true) (hp : plainE i = true) (hi : PI X t i (TXi X.K sa T F E it)) (hg : PG X t (gT X.K tg tp)) (hb : ∀ G0, PSs X sb1 (TSs X.K sa T F XF g E G0 H0 body)) :
    PS X (.For t i sb1 [] pos) (TSx X.K sa T F XF g E G0 H0 (.fors tg tp it body)) :=
  (ps_for ho hc hi hg (pss_any hb) (fun x => plain_set hp X.env x)).imp fun Dn σ H h => by
    obtain ⟨G, μ, S, e0, w, so, h⟩ := h
    rw [ex] at h
    refine ⟨lendG σ μ (menti it) G H, seen (menti it) 0 μ, S, lend_wd so w, lend_env so, ?_⟩
    cases q : evi F it (seen (menti it) 0 μ) S with
    | stuck => rw [q] at h; exact h.elim
    | err y S1 =>
      rw [q] at h
      exact fun cls dd G' H' e' w' r => h cls dd σ G' H' (thaw2 so e0 e').1 w' (thaw2 so e0 e').2 r
    | ok ds S1 =>
      rw [q] at h
      have h : spost X.K sa T E G0 H0 (forGo (bindM tg tp) (exs F XF g body) ds (freeze (menti it) 0 μ) S1) Dn := h
      intro J G1 H1 hz e1 w1 iw
      obtain ⟨t1, t2⟩ := thaw2 so e0 e1
      have h := spost.base t1 h
      refine ⟨fun i m σ' H' => m = ds.length - i ∧ i ≤ ds.length ∧ ∃ G' μ' S', Ext sa G1 H0 G' H' ∧ Wd X.K sa T G' H' S' ∧ StOk X.K sa H0 G' H' σ' μ' ∧ spost X.K sa T E G1 H0 (forGo (bindM tg tp) (exs F XF g body) (ds.drop i) μ' S') Dn,
        ⟨ds.length, by simp, Nat.zero_le _, G1, _, S1, ext_self t1, w1, t2, h⟩, ?_⟩
      rintro i m σ' H' ⟨rfl, hi, G', μ', S', e', w', so', h'⟩
      by_cases hlt : i < ds.length
      · obtain ⟨it1, _⟩ := iw i G' H' S' e'.g w'
        obtain ⟨go, yl⟩ := it1 ds[i] (List.getElem?_eq_getElem hlt)
        rw [List.drop_eq_getElem_cons hlt, forGo] at h'
        refine .inr ⟨go, fun σ2 H2 => i + 1 ≤ ds.length ∧ ∃ G' μ' S', Ext sa G1 H0 G' H2 ∧ Wd X.K sa T G' H2 S' ∧ StOk X.K sa H0 G' H2 σ2 μ' ∧ spost X.K sa T E G1 H0 (forGo (bindM tg tp) (exs F XF g body) (ds.drop (i + 1)) μ' S') Dn,
          fun σ2 H2 hN => ⟨ds.length - (i + 1), by omega, rfl, hN⟩, fun x H2 y => ?_⟩
        obtain ⟨G2, e2, w2, r2⟩ := yl x H2 y
        cases qb : bindM tg tp ds[i] μ' with
        | none => rw [qb] at h'; exact h'.elim
        | some μ1 =>
          rw [qb] at h'
          refine bindM_run w2 (so'.ext e2) r2 qb fun σ2 so2 => ⟨G1, G2, μ1, S', e'.trans e2, w2, so2, ?_⟩
          cases qr : exs F XF g body μ1 S' with
          | nxt μ2 S2 =>
            simp only [qr] at h'
            exact fun σ3 G3 H3 e3 w3 so3 => ⟨hlt, G3, μ2, S2, e3, w3, so3, h'⟩
          | cnt μ2 S2 =>
            simp only [qr] at h'
            exact fun σ3 G3 H3 e3 w3 so3 => ⟨hlt, G3, μ2, S2, e3, w3, so3, h'⟩
          | brk μ2 S2 =>
            simp only [qr] at h'
            exact fun σ3 G3 H3 e3 w3 so3 => h' σ3 G3 H3 e3 w3 so3
          | ret p S2 => simp only [qr] at h'; exact h'
          | err y S2 μ2 => simp only [qr] at h'; exact h'
          | stuck => simp only [qr] at h'; exact h'
      · have hi2 : i = ds.length := by omega
        subst hi2
        obtain ⟨_, st⟩ := iw ds.length G' H' S' e'.g w'
        refine .inl ⟨st (Nat.le_refl _), ?_⟩
        rw [List.drop_length] at h'
        exact h' σ' G' H' e' w' so'
/-! ### while -/
theorem ss_whl {body : Sms} {sb1 : List Stmt} (ho : PassesOwn (model X.prog X.w) X.A X.env X.xe) (hc : PT X ec (TXb X.K sa T F E c)) (hb : PSs X sb1 (TSs X.K sa T F XF g E G0 H0 body)) : PS X (.While ec sb1 [] pos) (TSx X.K sa T F XF g E G0 H0 (.whl c body)) :=
  (ps_while ho hc hb).imp fun Dn σ H h => by
    obtain ⟨G, μ, S, e0, w, so, h⟩ := h
    rw [ex] at h
    refine ⟨fun m σ' H' => ∃ G' μ' S', Ext sa G0 H0 G' H' ∧ Wd X.K sa T G' H' S' ∧ StOk X.K sa H0 G' H' σ' μ' ∧ spost X.K sa T E G0 H0 (whlGo (evMB F c) (freeze (ment c) 0) (exs F XF g body) m μ' S') Dn, ⟨g, G, μ, S, e0, w, so, h⟩, ?_⟩
    rintro m σ' H' ⟨G', μ', S', e', w', so', h'⟩
    cases m with
    | zero => exact h'.elim
    | succ m =>
      rw [whlGo] at h'
      refine evMB_run e' w' so' h' fun b μ2 S2 G2 H2 e2 w2 so2 h2 => ?_
      cases b with
      | false => exact iteF (h2 σ' G2 H2 e2 w2 so2)
      | true =>
        refine iteT ⟨fun σ3 H3 => ∃ G' μ' S', Ext sa G0 H0 G' H3 ∧ Wd X.K sa T G' H3 S' ∧ StOk X.K sa H0 G' H3 σ3 μ' ∧ spost X.K sa T E G0 H0 (whlGo (evMB F c) (freeze (ment c) 0) (exs F XF g body) m μ' S') Dn, fun σ3 H3 hN => ⟨m, Nat.lt_succ_self m, hN⟩, G2, μ2, S2, e2, w2, so2, ?_⟩
        cases qr : exs F XF g body μ2 S2 with
        | nxt μ3 S3 =>
          simp only [qr] at h2
          exact fun σ3 G3 H3 e3 w3 so3 => ⟨G3, μ3, S3, e3, w3, so3, h2⟩
        | cnt μ3 S3 =>
          simp only [qr] at h2
          exact fun σ3 G3 H3 e3 w3 so3 => ⟨G3, μ3, S3, e3, w3, so3, h2⟩
        | brk μ3 S3 =>
          simp only [qr] at h2
          exact fun σ3 G3 H3 e3 w3 so3 => h2 σ3 G3 H3 e3 w3 so3
        | ret p S3 => simp only [qr] at h2; exact h2
        | err y S3 μ3 => simp only [qr] at h2; exact h2
        | stuck => simp only [qr] at h2; exact h2
/-! ### a, b = value -/
theorem ss_unp {is : List Nat} {x : Ex} {es : List Expr} {kk : Nat} {tp : Pos} (h : PE X ea (TX X.K sa T F E x)) (hg : PG X (.Tuple es kk tp) (gT X.K is true)) (hn : noTup ea = true) : PS X (.Assign [.Tuple es kk tp] ea pos) (TSx X.K sa T F XF g E G0 H0 (.unp is x)) :=
  (ps_asg h hg (by cases ea <;> first | rfl | cases hn) (by cases ea <;> first | rfl | cases hn) (by rfl)).imp fun Dn σ H h => by
    obtain ⟨G, μ, S, e0, w, so, h⟩ := h
    rw [ex] at h
    refine evM_run e0 w so h fun p S' v G' H' e' w' so' r ap h' => ?_
    clear ap
    obtain ⟨o, d⟩ := p
    cases d <;> first | exact h'.elim | skip
    rename_i ds
    cases o with
    | true =>
      obtain ⟨a, u, rfl, n, gn, hu, ru⟩ := (show ∃ a u, v = .ref a ∧ H0 a = none ∧ G' a = none ∧ H' a = some u ∧ RepU X.K sa G' (.tup ds) u from r)
      cases u <;> exact ru.elim
    | false =>
      cases qs : setAll is ds (if loose (false, D.tup ds) then μ else freeze (ment x) 0 μ) with
      | none => simp only [qs] at h'; exact h'.elim
      | some μ1 =>
        simp only [qs] at h'
        exact bindM_run (tp := true) (d := .tup ds) w' so' r qs fun σ2 so2 => h' σ2 G' H' e' w' so2
end
end DW

/-! DwStm2: methods that change a list or a dict, stores to items, two names at once. -/
namespace DW
open PySem PyProof.Rows L2

section
variable {X : Cx} {sa : SA} {T : List (Addr × Str)} {F : FT} {XF : XT} {g : Nat} {E : XS} {G0 H0 : Hp} {pos p1 : Pos} {a b c : Ex} {ea eb ec : Expr}
/-- the arguments of a statement's method -/
theorem evsM_run {K : PySem.W.Frag} {G H : Hp} {S : Src} {σ : L2.St} {μ : Mem} {xs : Exs} {f : List D × Mem → Src → SR} {Dn : Ends} {Φ : List V → Hp → Prop} (e0 : Ext sa G0 H0 G H) (w : Wd K sa T G H S) (so : StOk K sa H0 G H σ μ) (h : spost K sa T E G0 H0 ((evsM F xs μ S).then (freeze (ments xs) 0 μ) f) Dn)
    (k : ∀ l S' vs G' H', Ext sa G0 H0 G' H' → Wd K sa T G' H' S' → StOk K sa H0 G' H' σ (if immL l then μ else freeze (ments xs) 0 μ) → RepL K sa G' l vs → spost K sa T E G0 H0 (f (l, if immL l then μ else freeze (ments xs) 0 μ) S') Dn → Φ vs H') : TXs K sa T F E xs σ H Φ := by
  refine ⟨lendG σ μ (ments xs) G H, seen (ments xs) 0 μ, S, lend_wd so w, lend_env so, ?_⟩
  unfold evsM at h
  cases q : evs F xs (seen (ments xs) 0 μ) S with
  | stuck => rw [q] at h; exact h.elim
  | err y S1 =>
    rw [q] at h
    exact fun cls dd G' H' e' w' r => h cls dd σ G' H' (thaw2 so e0 e').1 w' (thaw2 so e0 e').2 r
  | ok l S1 =>
    rw [q] at h
    intro vs G' H' e' w' r
    have r : RepL K sa G' l vs := r
    have h : spost K sa T E G0 H0 (f (l, if immL l then μ else freeze (ments xs) 0 μ) S1) Dn := h
    cases hl : immL l with
    | true =>
      obtain ⟨t1, t2, t3, t4, t5⟩ := thaw1 so e0 w e' w'
      have k := k l S1 vs (backG σ μ (ments xs) G') H' t1 t2
      rw [hl] at h k
      refine k t3 ?_ h
      clear k h e' w' q
      have key : ∀ (l : List D) (vs : List V), immL l = true → RepL K sa G' l vs → RepL K sa (backG σ μ (ments xs) G') l vs := by
        intro l
        induction l with
        | nil => intro vs _ r; rw [RepL] at r ⊢; exact r
        | cons d l ih =>
          intro vs hl r
          rw [RepL] at r ⊢
          rw [immL, Bool.and_eq_true] at hl
          obtain ⟨v, r', e, r1, r2⟩ := r
          exact ⟨v, r', e, t4 d v hl.1 r1, ih r' hl.2 r2⟩
      exact key l vs hl r
    | false =>
      obtain ⟨t1, t2⟩ := thaw2 so e0 e'
      have k := k l S1 vs G' H' t1 w'
      rw [hl] at h k
      exact k t2 r h
theorem own_get {μ : Mem} {i : Nat} {d : D} (h : own? μ i = some d) : μ[i]? = some (some (true, d)) := by
  unfold own? at h
  split at h
  · rename_i d' e
    cases h
    exact e
  · cases h
theorem own_ty {K : PySem.W.Frag} {G H : Hp} {σ : L2.St} {μ : Mem} {i : Nat} {d : D} (so : StOk K sa H0 G H σ μ) (h : own? μ i = some d) : ∃ a u, σ[i]? = some (some (.ref a)) ∧ a ≠ sa.1 ∧ H0 a = none ∧ G a = none ∧ H a = some u ∧ RepU K sa G d u := by
  obtain ⟨v, ev, a, u, rfl, h1, h2, h3, h4, h5⟩ := so.own i d (own_get h)
  exact ⟨a, u, ev, h1, h2, h3, h4, h5⟩
/-! ### o.m(..) -/
def mtT (m : Mt) : String := if m.lst then "list" else "dict"
/-- what a method does, by data -/
def rMt (K : PySem.W.Frag) (sa : SA) (m : Mt) : V → List V → Hp → VK → Prop := fun x vs H Q => ∃ G a u d ds z, x = .ref a ∧ H a = some u ∧ RepU K sa G d u ∧ RepL K sa G ds vs ∧ opM m d ds = some z ∧ ∀ u' v, RepU K sa G z.1 u' → Rep K sa G z.2 v → Q v (upd H a u')
theorem RepL.get' {K : PySem.W.Frag} {G : Hp} {l : List D} {vs : List V} (r : RepL K sa G l vs) : vs.length = l.length := r.length
theorem RepL.eraseIdx {K : PySem.W.Frag} {G : Hp} : ∀ (i : Nat) {l : List D} {vs : List V}, RepL K sa G l vs → RepL K sa G (l.eraseIdx i) (vs.eraseIdx i)
  | i, [], vs, r => by rw [RepL] at r; subst r; simpa using RepL.nil
  | 0, d :: l, vs, r => by
    rw [RepL] at r
    obtain ⟨v, r', rfl, _, r2⟩ := r
    exact r2
  | i + 1, d :: l, vs, r => by
    rw [RepL] at r
    obtain ⟨v, r', rfl, r1, r2⟩ := r
    exact RepL.cons r1 (RepL.eraseIdx i r2)
theorem RepL.dropLast {K : PySem.W.Frag} {G : Hp} {l : List D} {vs : List V} (r : RepL K sa G l vs) : RepL K sa G l.dropLast vs.dropLast := by
  rw [List.dropLast_eq_take, List.dropLast_eq_take, r.length]
  exact r.take _
theorem RepL.reverse {K : PySem.W.Frag} {G : Hp} : ∀ {l : List D} {vs : List V}, RepL K sa G l vs → RepL K sa G l.reverse vs.reverse
  | [], vs, r => by rw [RepL] at r; subst r; simpa using RepL.nil
  | d :: l, vs, r => by
    rw [RepL] at r
    obtain ⟨v, r', rfl, r1, r2⟩ := r
    rw [List.reverse_cons, List.reverse_cons]
    exact (RepL.reverse r2).append (RepL.cons r1 RepL.nil)
theorem RepL.set {K : PySem.W.Frag} {G : Hp} {d : D} {v : V} (rv : Rep K sa G d v) : ∀ (i : Nat) {l : List D} {vs : List V}, RepL K sa G l vs → RepL K sa G (l.set i d) (vs.set i v)
  | i, [], vs, r => by rw [RepL] at r; subst r; simpa using RepL.nil
  | 0, d :: l, vs, r => by
    rw [RepL] at r
    obtain ⟨v, r', rfl, _, r2⟩ := r
    exact RepL.cons rv r2
  | i + 1, d :: l, vs, r => by
    rw [RepL] at r
    obtain ⟨v, r', rfl, r1, r2⟩ := r
    exact RepL.cons r1 (RepL.set rv i r2)
theorem repU_lst {K : PySem.W.Frag} {G : Hp} {l : List D} {u : HO} (r : RepU K sa G (.lst l) u) : ∃ vs, u = .lst vs ∧ l.length ≤ lim ∧ RepL K sa G l vs := by
  cases u <;> first | exact r.elim | exact ⟨_, rfl, r.1, r.2⟩
theorem repU_dct {K : PySem.W.Frag} {G : Hp} {l : List (Str × D)} {u : HO} (r : RepU K sa G (.dct l) u) : ∃ vs, u = .dK vs ∧ l.length ≤ lim ∧ RepD K sa G l vs := by
  cases u <;> first | exact r.elim | exact ⟨_, rfl, r.1, r.2⟩
theorem repL1 {K : PySem.W.Frag} {G : Hp} {d : D} {vs : List V} (r : RepL K sa G [d] vs) : ∃ v, vs = [v] ∧ Rep K sa G d v := by
  rw [RepL] at r
  obtain ⟨v, r', rfl, r1, r2⟩ := r
  rw [RepL] at r2
  subst r2
  exact ⟨v, rfl, r1⟩
theorem repL2 {K : PySem.W.Frag} {G : Hp} {d e : D} {vs : List V} (r : RepL K sa G [d, e] vs) : ∃ v w, vs = [v, w] ∧ Rep K sa G d v ∧ Rep K sa G e w := by
  rw [RepL] at r
  obtain ⟨v, r', rfl, r1, r2⟩ := r
  obtain ⟨w, rfl, r3⟩ := repL1 r2
  exact ⟨v, w, rfl, r1, r3⟩
/-! ### dicts are written -/
theorem mth_dw {m : Mt} : (match m with
    | .append => MtR X "list.append" (rMt X.K sa .append)
    | .insert => MtR X "list.insert" (rMt X.K sa .insert)
    | .pop => MtR X "list.pop" (rMt X.K sa .pop)
    | .popAt => MtR X "list.pop" (rMt X.K sa .popAt)
    | .clear => MtR X "list.clear" (rMt X.K sa .clear)
    | .reverse => MtR X "list.reverse" (rMt X.K sa .reverse)
    | .dpop => MtR X "dict.pop" (rMt X.K sa .dpop)) := by
  cases m <;> intro pins s σ H x vs v us Q I rx rv h <;> obtain ⟨G, a, u, d, ds, z, rfl, hu, ru, rl, e, q⟩ := h
  · -- append
    cases d <;> first | (simp [opM] at e; done) | skip
    rename_i l
    rcases ds with _ | ⟨d, _ | ⟨d2, ds⟩⟩ <;> first | (simp [opM] at e; done) | skip
    have e : (if l.length < lim then some (D.lst (l ++ [d]), D.non) else none) = some z := e
    split at e
    · rename_i hz
      cases e
      obtain ⟨ws, rfl, hl, rw'⟩ := repU_lst ru
      obtain ⟨y, rfl, ry⟩ := repL1 rl
      refine mt_append pins s σ H _ _ v us Q I rx rv ⟨a, ws, y, rfl, rfl, hu, ?_, q _ _ ⟨?_, rw'.append (RepL.cons ry RepL.nil)⟩ (by rw [Rep])⟩
      · rw [rw'.length]; exact Nat.lt_of_lt_of_le hz (lim_line (Nat.le_refl _))
      · rw [List.length_append]; exact hz
    · cases e
  · -- insert
    cases d <;> first | (simp [opM] at e; done) | skip
    rename_i l
    rcases ds with _ | ⟨d1, _ | ⟨d, _ | ⟨d2, ds⟩⟩⟩ <;> first | (simp [opM] at e; done) | (cases d1 <;> simp [opM] at e; done) | skip
    cases d1 <;> first | (simp [opM] at e; done) | skip
    rename_i j
    have e : (if l.length < lim ∧ 0 ≤ j ∧ j ≤ l.length then some (D.lst (l.take j.toNat ++ [d] ++ l.drop j.toNat), D.non) else none) = some z := e
    split at e
    · rename_i hz
      cases e
      obtain ⟨ws, rfl, hl, rw'⟩ := repU_lst ru
      obtain ⟨y1, y, rfl, ry1, ry⟩ := repL2 rl
      obtain rfl : y1 = .int j := by simpa only [Rep] using ry1
      refine mt_insert pins s σ H _ _ v us Q I rx rv ⟨a, ws, j, y, rfl, rfl, hu, ?_, hz.2.1, ?_, q _ _ ⟨?_, ((rw'.take _).append (RepL.cons ry RepL.nil)).append (rw'.drop _)⟩ (by rw [Rep])⟩
      · rw [rw'.length]; exact Nat.lt_of_lt_of_le hz.1 (lim_line (Nat.le_refl _))
      · have : lim = 1000000 := rfl
        omega
      · rw [List.length_append, List.length_append, List.length_take, List.length_drop, List.length_singleton]
        omega
    · cases e
  · -- pop
    cases d <;> first | (simp [opM] at e; done) | skip
    rename_i l
    rcases ds with _ | ⟨d, ds⟩ <;> first | (simp [opM] at e; done) | skip
    have e : (match l[l.length - 1]? with
      | some d => some (D.lst l.dropLast, d)
      | none => none) = some z := e
    cases q1 : l[l.length - 1]? with
    | none => rw [q1] at e; cases e
    | some d =>
      rw [q1] at e
      cases e
      obtain ⟨ws, rfl, hl, rw'⟩ := repU_lst ru
      rw [RepL] at rl; subst rl
      obtain ⟨y, ey, ry⟩ := rw'.get q1
      refine mt_pop pins s σ H _ _ v us Q I rx rv ⟨a, ws, y, rfl, rfl, hu, by rw [rw'.length]; exact ey, q _ _ ⟨?_, rw'.dropLast⟩ ry⟩
      rw [List.length_dropLast]; omega
  · -- popAt
    cases d <;> first | (simp [opM] at e; done) | skip
    rename_i l
    rcases ds with _ | ⟨d1, _ | ⟨d2, ds⟩⟩ <;> first | (simp [opM] at e; done) | (cases d1 <;> simp [opM] at e; done) | skip
    cases d1 <;> first | (simp [opM] at e; done) | skip
    rename_i j
    have e : (if 0 ≤ j then (match l[j.toNat]? with
      | some d => some (D.lst (l.eraseIdx j.toNat), d)
      | none => none) else none) = some z := e
    split at e
    · rename_i hj
      cases q1 : l[j.toNat]? with
      | none => rw [q1] at e; cases e
      | some d =>
        rw [q1] at e
        cases e
        obtain ⟨ws, rfl, hl, rw'⟩ := repU_lst ru
        obtain ⟨y1, rfl, ry1⟩ := repL1 rl
        obtain rfl : y1 = .int j := by simpa only [Rep] using ry1
        obtain ⟨y, ey, ry⟩ := rw'.get q1
        have hlt : j.toNat < l.length := (List.getElem?_eq_some_iff.mp q1).1
        have : lim = 1000000 := rfl
        refine mt_popAt pins s σ H _ _ v us Q I rx rv ⟨a, ws, j, j.toNat, y, rfl, rfl, hu, by omega, by omega, seqIndex_of hj (by rw [rw'.length]; omega), ey, q _ _ ⟨?_, rw'.eraseIdx _⟩ ry⟩
        exact Nat.le_trans (len_erase l _) hl
    · cases e
  · -- clear
    cases d <;> first | (simp [opM] at e; done) | skip
    rename_i l
    rcases ds with _ | ⟨d, ds⟩ <;> first | (simp [opM] at e; done) | skip
    obtain rfl := Option.some.inj e
    obtain ⟨ws, rfl, hl, rw'⟩ := repU_lst ru
    rw [RepL] at rl; subst rl
    exact mt_clear pins s σ H _ _ v us Q I rx rv ⟨a, ws, rfl, rfl, hu, q _ _ ⟨Nat.zero_le _, RepL.nil⟩ (by rw [Rep])⟩
  · -- reverse
    cases d <;> first | (simp [opM] at e; done) | skip
    rename_i l
    rcases ds with _ | ⟨d, ds⟩ <;> first | (simp [opM] at e; done) | skip
    obtain rfl := Option.some.inj e
    obtain ⟨ws, rfl, hl, rw'⟩ := repU_lst ru
    rw [RepL] at rl; subst rl
    exact mt_reverse pins s σ H _ _ v us Q I rx rv ⟨a, ws, rfl, rfl, hu, q _ _ ⟨by rw [List.length_reverse]; exact hl, rw'.reverse⟩ (by rw [Rep])⟩
  · -- dict.pop
    cases d <;> first | (simp [opM] at e; done) | skip
    rename_i l
    rcases ds with _ | ⟨d1, _ | ⟨d2, ds⟩⟩ <;> first | (simp [opM] at e; done) | (cases d1 <;> simp [opM] at e; done) | skip
    cases d1 <;> first | (simp [opM] at e; done) | skip
    rename_i k
    have e : (match getK l k with
      | some d => some (D.dct (DW.dropK l k), d)
      | none => none) = some z := e
    cases q1 : getK l k with
    | none => rw [q1] at e; cases e
    | some d =>
      rw [q1] at e
      cases e
      obtain ⟨kvs, rfl, hl, rw'⟩ := repU_dct ru
      obtain ⟨y1, rfl, ry1⟩ := repL1 rl
      obtain rfl : y1 = .str k := by simpa only [Rep] using ry1
      have hv := valV_of (k := k) rw'
      rw [q1] at hv
      obtain ⟨y, ey, ry⟩ := hv
      obtain rfl : v = Value.ref a := rx
      obtain ⟨u1, rfl, ru1⟩ := rv.one
      refine d_pop (more := []) (k := Sum.inr k) I hu ru1 ey (.inl rfl) fun w' s' I' r' => ⟨y, _, I', r', q _ _ ⟨?_, rw'.dropK⟩ ry⟩
      unfold DW.dropK
      exact Nat.le_trans (List.length_filter_le _ _) hl
end
end DW

/-! DwStm3: o.m(..), o[k] = e, o[k] op= e, a, b = x, y as statements. -/
namespace DW
open PySem PyProof.Rows L2

section
variable {X : Cx} {sa : SA} {T : List (Addr × Str)} {F : FT} {XF : XT} {g : Nat} {E : XS} {G0 H0 : Hp} {pos p1 : Pos} {a b c : Ex} {ea eb ec : Expr}
def tMth (K : PySem.W.Frag) (sa : SA) (T : List (Addr × Str)) (F : FT) (E : XS) (i : Nat) (m : Mt) (xs : Exs) : TE := fun σ H Q => ∃ a, σ[i]? = some (some (.ref a)) ∧ tyV K (mtT m) (.ref a) H ∧ TXs K sa T F E xs σ H fun vs H2 => rMt K sa m (.ref a) vs H2 Q
theorem few_of {xs : Exs} {es : List Expr} (h : AllE X sa T F E xs es) (hz : es.length < 20) : ((backTo pos (starEach es X.env)).all (fun x => !x.1) && (backToKw pos (keywordEach [] X.env)).all (fun x => x.1.isSome)
      && decide (es.length + ([] : List Keyword).length + (if ([] : List Keyword).isEmpty then 0 else 1) < 30)) = true := by
  have h1 : (backTo pos (starEach es X.env)).all (fun x => !x.1) = true := by
    have := all_plain X.env pos h
    rw [List.all_eq_true]
    intro x hx
    have := List.any_eq_false.mp this x hx
    simpa using this
  rw [h1]
  have h2 : (backToKw pos (keywordEach [] X.env)).all (fun x => x.1.isSome) = true := rfl
  rw [h2]
  simp only [Bool.true_and, decide_eq_true_eq, List.length_nil, List.isEmpty_nil, if_true]
  omega
theorem pe_mth {i : Nat} {m : Mt} {xs : Exs} {es : List Expr} {y n : Str} {py ap cp : Pos} (hn : n = mtN m) (hl : (ap.endLine == cp.line) = true) (hN : X.N[i]? = some y) (hv : Vis X.env.scope y) (hy : noName y = true) (h : AllE X sa T F E xs es) (ha : es.length = mtAr m) :
    PE X (.Call (.Attribute (.Name y py) n ap) es [] cp) (tMth X.K sa T F E i m xs) := by
  have hd := noName_of hy
  have pv : PE X (.Name y py) (tVar i) := pe_var hN hv hd.1 hd.2.1
  have dw := mth_dw (X := X) (sa := sa) (m := m)
  have bm : ∀ {id : String} {r : V → List V → Hp → VK → Prop}, r = rMt X.K sa m → PlainAttrs (mtT m) → Slot (mtT m) n id → typeOf (.builtin id) = pure (.type "method_descriptor") → MtR X id r → PE X (.Call (.Attribute (.Name y py) n ap) es [] cp) (tMth X.K sa T F E i m xs) := fun {id r} er pa sl ty mt => by
    subst er
    cases es with
    | nil =>
      refine (pe_bm0 pa sl ty mt pv (by rfl) hl).imp fun σ H Q hh => ?_
      obtain ⟨a, e1, e2, hh⟩ := hh
      cases xs with
      | cons x xs => exact h.elim
      | nil =>
        obtain ⟨G, ρ, S, w, en, hh⟩ := hh
        rw [evs] at hh
        exact ⟨.ref a, e1, e2, hh [] G H Ext.refl w (RepL.nil (K := X.K) (sa := sa) (G := G))⟩
    | cons e es =>
      cases xs with
      | nil => exact h.elim
      | cons x xs =>
        have hz : (e :: es).length < 20 := by rw [ha]; cases m <;> decide
        refine (pe_bm pa sl ty mt pv (pa_of h) (by rfl) (few_of h hz) hl (plain_star h.1.1 es X.env) (all_plain X.env cp h.2)).imp fun σ H Q hh => ?_
        obtain ⟨a, e1, e2, hh⟩ := hh
        exact ⟨.ref a, e1, e2, hh⟩
  subst hn
  cases m
  · exact bm rfl PySem.F.plainAttrs_list PySem.F.slot_list_append PySem.F.type_list_append dw
  · exact bm rfl PySem.F.plainAttrs_list PySem.F.slot_list_insert PySem.F.type_list_insert dw
  · exact bm rfl PySem.F.plainAttrs_list PySem.F.slot_list_pop PySem.F.type_list_pop dw
  · exact bm rfl PySem.F.plainAttrs_list PySem.F.slot_list_pop PySem.F.type_list_pop dw
  · exact bm rfl PySem.F.plainAttrs_list PySem.F.slot_list_clear PySem.F.type_list_clear dw
  · exact bm rfl PySem.F.plainAttrs_list PySem.F.slot_list_reverse PySem.F.type_list_reverse dw
  · exact bm rfl PySem.F.plainAttrs_dict PySem.F.slot_dict_pop PySem.F.type_dict_pop dw
theorem ty_own {K : PySem.W.Frag} {G H : Hp} {m : Mt} {d : D} {u : HO} {a : Addr} (ht : mtTy m d = true) (hu : H a = some u) (ru : RepU K sa G d u) : tyV K (mtT m) (.ref a) H := by
  cases d with
  | lst l =>
    obtain ⟨vs, rfl, _, _⟩ := repU_lst ru
    have : mtT m = "list" := by cases m <;> first | rfl | cases ht
    exact .inl ⟨this, vs, .inl (.inl hu)⟩
  | dct l =>
    obtain ⟨vs, rfl, _, _⟩ := repU_dct ru
    have : mtT m = "dict" := by cases m <;> first | rfl | cases ht
    exact .inr (.inr (.inl ⟨this, .inl ⟨vs, hu⟩⟩))
  | _ => cases m <;> cases ht
/-- what is left of the evaluation of a method statement -/
theorem mth_run {K : PySem.W.Frag} {r : Option Nat} {i : Nat} {m : Mt} {xs : Exs} {Dn : Ends} {σ : L2.St} {H : Hp} (h : TSx K sa T F XF g E G0 H0 (.mth r i m xs) Dn σ H) :
    tMth K sa T F E i m xs σ H (fun v H' => ∃ μ G S d, Ext sa G0 H0 G H' ∧ Wd K sa T G H' S ∧ StOk K sa H0 G H' σ μ ∧ Rep K sa G d v ∧ spost K sa T E G0 H0 (.nxt (setR r μ d) S) Dn) := by
  obtain ⟨G, μ, S, e0, w, so, h⟩ := h
  rw [ex] at h
  cases q : own? μ i with
  | none => simp only [q] at h; exact h.elim
  | some d0 =>
    simp only [q] at h
    cases ht : mtTy m d0 with
    | false => rw [ht] at h; exact h.elim
    | true =>
      rw [ht, if_pos rfl] at h
      obtain ⟨a, u, hs, ne, h0, hg, hu, ru⟩ := own_ty so q
      refine ⟨a, hs, ty_own ht hu ru, evsM_run e0 w so h fun l S' vs G' H' e' w' so' rl h' => ?_⟩
      cases q2 : own? (if immL l then μ else freeze (ments xs) 0 μ) i with
      | none => simp only [q2] at h'; exact h'.elim
      | some d =>
        simp only [q2] at h'
        cases q3 : opM m d l with
        | none => simp only [q3] at h'; exact h'.elim
        | some z =>
          simp only [q3] at h'
          obtain ⟨a2, u2, hs2, ne2, h02, hg2, hu2, ru2⟩ := own_ty so' q2
          rw [hs] at hs2
          cases hs2
          refine ⟨G', a, u2, d, l, z, rfl, hu2, ru2, rl, q3, fun u' v r1 r2 => ?_⟩
          exact ⟨_, G', S', z.2, e'.put h02, w'.put hg2 ne2 hu2 ru2.isK, so'.put (own_get q2) hs r1, r2, h'⟩
theorem ss_mthE {i : Nat} {m : Mt} {xs : Exs} (h : PE X ea (tMth X.K sa T F E i m xs)) (hs : swapsWith ea none pos.line X.env = pure false) : PS X (.Expr ea pos) (TSx X.K sa T F XF g E G0 H0 (.mth none i m xs)) :=
  (ps_expr h hs).imp fun Dn σ H h => by
    obtain ⟨a, e1, e2, h⟩ := mth_run h
    refine ⟨a, e1, e2, ?_⟩
    obtain ⟨G, ρ, S, w, en, h⟩ := h
    refine ⟨G, ρ, S, w, en, h.imp fun vs H' hh => ?_⟩
    obtain ⟨G, a, u, d, ds, z, ea, hu, ru, rl, e, q⟩ := hh
    refine ⟨G, a, u, d, ds, z, ea, hu, ru, rl, e, fun u' v r1 r2 => ?_⟩
    obtain ⟨μ, G2, S2, d2, t1, t2, t3, t4, t5⟩ := q u' v r1 r2
    exact t5 σ G2 _ t1 t2 t3
theorem ss_mthA {j i : Nat} {m : Mt} {xs : Exs} {s : Stmt} (h : PS X s (tAsg (tMth X.K sa T F E i m xs) (gName j))) : PS X s (TSx X.K sa T F XF g E G0 H0 (.mth (some j) i m xs)) :=
  h.imp fun Dn σ H h => by
    obtain ⟨a, e1, e2, h⟩ := mth_run h
    refine ⟨a, e1, e2, ?_⟩
    obtain ⟨G, ρ, S, w, en, h⟩ := h
    refine ⟨G, ρ, S, w, en, h.imp fun vs H' hh => ?_⟩
    obtain ⟨G, a, u, d, ds, z, ea, hu, ru, rl, e, q⟩ := hh
    refine ⟨G, a, u, d, ds, z, ea, hu, ru, rl, e, fun u' v r1 r2 => ?_⟩
    obtain ⟨μ, G2, S2, d2, t1, t2, t3, t4, t5⟩ := q u' v r1 r2
    exact t5 _ G2 _ t1 t2 (t3.setF t4)
/-! ### o[k] = e -/
def rPut (K : PySem.W.Frag) (sa : SA) : TSet := fun o i v H Q => ∃ G a u d k x z, o = .ref a ∧ H a = some u ∧ RepU K sa G d u ∧ Rep K sa G k i ∧ Rep K sa G x v ∧ opP d k x = some z ∧ ∀ u', RepU K sa G z u' → Q (upd H a u')
theorem put_dw (hu : X.A.units + 64 < cLine) : PSet X (rPut X.K sa) := by
  intro pins s σ H o i v ov iv u Q I ro ri rv h
  obtain ⟨G, a, u0, d, k, x, z, rfl, h0, ru, rk, rx, e, q⟩ := h
  cases d with
  | lst l =>
    cases k <;> first | (simp [opP] at e; done) | skip
    rename_i j
    have e : ((ixN l.length j).map fun j => D.lst (l.set j x)) = some z := e
    obtain ⟨ws, rfl, hl, rw'⟩ := repU_lst ru
    obtain rfl : i = .int j := by simpa only [Rep] using rk
    obtain ⟨jj, ej, rfl⟩ := Option.map_eq_some_iff.mp e
    exact set_list pins s σ H _ _ v ov iv u Q I ro ri rv ⟨a, ws, j, jj, rfl, rfl, h0, by rw [rw'.length]; exact ej, q _ ⟨by rw [List.length_set]; exact hl, rw'.set rx jj⟩⟩
  | dct l =>
    cases k <;> first | (simp [opP] at e; done) | skip
    rename_i j
    have e : (if l.length < lim then some (D.dct (DW.putK l j x)) else none) = some z := e
    split at e
    · rename_i hz
      cases e
      obtain ⟨kvs, rfl, hl, rw'⟩ := repU_dct ru
      obtain rfl : i = .str j := by simpa only [Rep] using rk
      refine set_dict (Nat.lt_of_le_of_lt (Nat.add_le_add_left (by decide) _) hu) pins s σ H _ _ v ov iv u Q I ro ri rv ⟨a, _, rfl, DPut.k (k := Sum.inr j) h0 ?_, q _ ⟨?_, rw'.put rx⟩⟩
      · rw [rw'.length]; exact Nat.lt_of_lt_of_le hz (lim_line (Nat.le_refl _))
      · unfold DW.putK
        split
        · rw [List.length_map]; exact hl
        · rw [List.length_append]; exact hz
    · cases e
  | _ => cases k <;> simp [opP] at e
theorem plain_asg {o i : Expr} (hp : plainE i = true) (env : PySem.Env) (v : Value) : assign (.Subscript o i pos) env v = (do
      let ov ← holding [v] (eval o env)
      let iv ← holding [v, ov] (eval i env)
      standAt pos
      holding [v, ov, iv] (setItem ov iv v)
      release [v, ov, iv] []) := by
  cases i <;> first | rfl | cases hp
/-- what an expression gave is known from now on -/
theorem StOk.know {K : PySem.W.Frag} {G H : Hp} {S : Src} {σ : L2.St} {μ : Mem} {p : Bool × D} {v : V} (e0 : Ext sa G0 H0 G H) (w : Wd K sa T G H S) (so : StOk K sa H0 G H σ μ) (r : RepO K sa G H0 H p v)
    (ap : p.1 = true → (∃ a, v = .ref a ∧ a ≠ sa.1) ∧ ∀ (j : Nat) (d : D), μ[j]? = some (some (true, d)) → σ[j]? ≠ some (some v)) : ∃ G2, Sub G G2 ∧ Ext sa G0 H0 G2 H ∧ Wd K sa T G2 H S ∧ StOk K sa H0 G2 H σ μ ∧ Rep K sa G2 p.2 v := by
  obtain ⟨o, d⟩ := p
  cases o with
  | false => exact ⟨G, Sub.refl G, e0, w, so, r⟩
  | true =>
    obtain ⟨⟨a', ev', nsa⟩, ap⟩ := ap rfl
    obtain ⟨a, u, ev, n, gn, hu, ru⟩ := (show ∃ a u, v = .ref a ∧ H0 a = none ∧ G a = none ∧ H a = some u ∧ RepU K sa G d u from r)
    subst ev
    have nsa : a ≠ sa.1 := fun z => nsa (by cases ev'; exact z)
    have s : Sub G (upd G a u) := Sub.upd gn
    refine ⟨upd G a u, s, ⟨e0.g.trans s, fun b o z q => ?_, e0.h, e0.dom⟩, ⟨fun b o q => ?_, ?_, ?_, w.tabs⟩, ⟨so.len, fun i d q => ?_, fun i d q => ?_, so.apart⟩, (ru.sub s).rep upd_same⟩
    · by_cases hb : b = a
      · rw [hb]; exact n
      · rw [upd_ne hb] at q; exact e0.n b o z q
    · by_cases hb : b = a
      · subst hb; rw [upd_same] at q; cases q
        exact ⟨ru.isK, .inl hu⟩
      · rw [upd_ne hb] at q; exact w.sub b o q
    · obtain ⟨vs, h1, h2, h3⟩ := w.srcH
      exact ⟨vs, h1, s _ _ h2, h3⟩
    · rw [upd_ne (Ne.symm nsa)]; exact w.srcG
    · obtain ⟨v, ev, r⟩ := so.frz i d q
      exact ⟨v, ev, Rep.sub s _ _ r⟩
    · obtain ⟨v, ev, a1, u1, rfl, h1, h2, h3, h4, h5⟩ := so.own i d q
      have : a1 ≠ a := fun z => by subst z; exact ap i d q ev
      exact ⟨.ref a1, ev, a1, u1, rfl, h1, h2, by rw [upd_ne this]; exact h3, h4, h5.sub s⟩
/-- .. and stays so behind the next expression of the statement -/
theorem evM_run2 {K : PySem.W.Frag} {G H : Hp} {S : Src} {σ : L2.St} {μ : Mem} {x : Ex} {f : (Bool × D) × Mem → Src → SR} {Dn : Ends} {Φ : V → Hp → Prop} {d0 : D} {v0 : V} (r0 : Rep K sa G d0 v0) (e0 : Ext sa G0 H0 G H) (w : Wd K sa T G H S) (so : StOk K sa H0 G H σ μ) (h : spost K sa T E G0 H0 ((evM F x μ S).then (freeze (ment x) 0 μ) f) Dn)
    (k : ∀ p S' v G' H', Ext sa G0 H0 G' H' → Wd K sa T G' H' S' → StOk K sa H0 G' H' σ (if loose p then μ else freeze (ment x) 0 μ) → RepO K sa G' H0 H' p v →
      (p.1 = true → (∃ a, v = .ref a ∧ a ≠ sa.1) ∧ ∀ (j : Nat) (d : D), (if loose p then μ else freeze (ment x) 0 μ)[j]? = some (some (true, d)) → σ[j]? ≠ some (some v)) → Rep K sa G' d0 v0 →
      spost K sa T E G0 H0 (f (p, if loose p then μ else freeze (ment x) 0 μ) S') Dn → Φ v H') : TX K sa T F E x σ H Φ := by
  refine ⟨lendG σ μ (ment x) G H, seen (ment x) 0 μ, S, lend_wd so w, lend_env so, ?_⟩
  unfold evM at h
  cases q : ev F x (seen (ment x) 0 μ) S with
  | stuck => rw [q] at h; exact h.elim
  | err y S1 =>
    rw [q] at h
    exact fun cls dd G' H' e' w' r => h cls dd σ G' H' (thaw2 so e0 e').1 w' (thaw2 so e0 e').2 r
  | ok p S1 =>
    rw [q] at h
    intro v G' H' e' w' r
    have key : ∃ G2, Sub G G2 ∧ Ext sa G0 H0 G2 H' ∧ Wd K sa T G2 H' S1 ∧ StOk K sa H0 G2 H' σ (if loose p then μ else freeze (ment x) 0 μ) ∧ RepO K sa G2 H0 H' p v ∧ (p.1 = true → (∃ a, v = .ref a ∧ a ≠ sa.1) ∧ ∀ (j : Nat) (d : D), (if loose p then μ else freeze (ment x) 0 μ)[j]? = some (some (true, d)) → σ[j]? ≠ some (some v)) := by
      obtain ⟨G2, t1, t2, t3, t4, t5, _⟩ := thaw (G0 := G) (H0 := H0) so (⟨Sub.refl G, fun b u z q => (by rw [z] at q; cases q), e0.h, e0.dom⟩) w e' w' r
      exact ⟨G2, t1.g, ⟨e0.g.trans t1.g, fun b u z q => by
        cases q1 : G b with
        | none => exact t1.n b u q1 q
        | some o => exact e0.n b o z q1, t1.h, t1.dom⟩, t2, t3, t4, t5⟩
    obtain ⟨G2, s2, t1, t2, t3, t4, t5⟩ := key
    exact k p S1 v G2 H' t1 t2 t3 t4 t5 (Rep.sub s2 _ _ r0) h
theorem loose_own {μ : Mem} {p : Bool × D} {m : Nat → Bool} {i : Nat} {d : D} (h : own? (if loose p then μ else freeze m 0 μ) i = some d) : own? μ i = some d := by
  cases hl : loose p with
  | true => rw [hl] at h; exact h
  | false =>
    rw [hl] at h
    have := freeze_own (own_get h)
    unfold own?
    rw [this]
theorem ss_sub {i : Nat} {k x : Ex} {y : Str} {py p2 : Pos} (hu : X.A.units + 64 < cLine) (hN : X.N[i]? = some y) (hv : Vis X.env.scope y) (hy : noName y = true) (hp : plainE eb = true) (hk : PE X eb (TX X.K sa T F E k)) (hx : PE X ea (TX X.K sa T F E x)) :
    PS X (.Assign [.Subscript (.Name y py) eb p2] ea pos) (TSx X.K sa T F XF g E G0 H0 (.sub i k x)) := by
  have hd := noName_of hy
  have pv : PE X (.Name y py) (tVar i) := pe_var hN hv hd.1 hd.2.1
  have sw : swapsWithSole [.Subscript (.Name y py) eb p2] ea pos.line X.env = pure false := by cases ea <;> rfl
  have sw2 : swappedStores [.Subscript (.Name y py) eb p2] ea X.env = pure none := by cases ea <;> rfl
  refine (ps_asg hx (pg_sub pv hk (put_dw (sa := sa) hu) (plain_asg hp X.env)) sw sw2 rfl).imp fun Dn σ H h => ?_
  obtain ⟨G, μ, S, e0, w, so, h⟩ := h
  rw [ex] at h
  refine evM_run e0 w so h fun p S' v G' H' e' w' so' r ap h' => ?_
  obtain ⟨G1, s1, e1, w1, so1, r1⟩ := StOk.know e' w' so' r ap
  cases q : own? (if loose p then μ else freeze (ment x) 0 μ) i with
  | none => simp only [q] at h'; exact h'.elim
  | some d0 =>
    simp only [q] at h'
    obtain ⟨a, u, hs, ne, h0, hg, hu', ru⟩ := own_ty so1 q
    refine ⟨.ref a, hs, evM_run2 r1 e1 w1 so1 h' fun p3 S3 v3 G3 H3 e3 w3 so3 r3 ap3 rr h3 => ?_⟩
    obtain ⟨G4, s4, e4, w4, so4, r4⟩ := StOk.know e3 w3 so3 r3 ap3
    generalize hm : (if loose p3 = true then (if loose p = true then μ else freeze (ment x) 0 μ) else freeze (ment k) 0 (if loose p = true then μ else freeze (ment x) 0 μ)) = μ3 at h3 so4
    cases q2 : own? μ3 i with
    | none => simp only [q2] at h3; exact h3.elim
    | some d =>
      simp only [q2] at h3
      obtain ⟨a2, u2, hs2, ne2, h02, hg2, hu2, ru2⟩ := own_ty so4 q2
      rw [hs] at hs2
      cases hs2
      cases q3 : opP d p3.2 p.2 with
      | none => simp only [q3] at h3; exact h3.elim
      | some z =>
        simp only [q3] at h3
        refine ⟨G4, a, u2, d, p3.2, p.2, z, rfl, hu2, ru2, r4, Rep.sub s4 _ _ rr, q3, fun u' ru' => ?_⟩
        exact h3 σ G4 _ (e4.put h02) (w4.put hg2 ne2 hu2 ru2.isK) (so4.put (own_get q2) hs ru')
/-! ### a, b = x, y -/
/-- an expression while another one's value is held -/
theorem evM_runO {K : PySem.W.Frag} {G H : Hp} {S : Src} {σ : L2.St} {μ : Mem} {x : Ex} {f : (Bool × D) × Mem → Src → SR} {Dn : Ends} {Φ : V → Hp → Prop} {p0 : Bool × D} {v0 : V} (r0 : RepO K sa G H0 H p0 v0) (ap0 : p0.1 = true → (∃ a, v0 = .ref a ∧ a ≠ sa.1) ∧ ∀ (j : Nat) (d : D), μ[j]? = some (some (true, d)) → σ[j]? ≠ some (some v0))
    (e0 : Ext sa G0 H0 G H) (w : Wd K sa T G H S) (so : StOk K sa H0 G H σ μ) (h : spost K sa T E G0 H0 ((evM F x μ S).then (freeze (ment x) 0 μ) f) Dn)
    (k : ∀ p S' v G' H', Ext sa G0 H0 G' H' → Wd K sa T G' H' S' → StOk K sa H0 G' H' σ (if loose p then μ else freeze (ment x) 0 μ) → RepO K sa G' H0 H' p v →
      (p.1 = true → (∃ a, v = .ref a ∧ a ≠ sa.1) ∧ ∀ (j : Nat) (d : D), (if loose p then μ else freeze (ment x) 0 μ)[j]? = some (some (true, d)) → σ[j]? ≠ some (some v)) → RepO K sa G' H0 H' p0 v0 → (p.1 = true → p0.1 = true → v ≠ v0) →
      spost K sa T E G0 H0 (f (p, if loose p then μ else freeze (ment x) 0 μ) S') Dn → Φ v H') : TX K sa T F E x σ H Φ := by
  refine ⟨lendG σ μ (ment x) G H, seen (ment x) 0 μ, S, lend_wd so w, lend_env so, ?_⟩
  unfold evM at h
  cases q : ev F x (seen (ment x) 0 μ) S with
  | stuck => rw [q] at h; exact h.elim
  | err y S1 =>
    rw [q] at h
    exact fun cls dd G' H' e' w' r => h cls dd σ G' H' (thaw2 so e0 e').1 w' (thaw2 so e0 e').2 r
  | ok p S1 =>
    rw [q] at h
    intro v G' H' e' w' r
    obtain ⟨G2, t1, t2, t3, t4, t5, t6⟩ := thaw (G0 := G) (H0 := H0) so (⟨Sub.refl G, fun b u z q => (by rw [z] at q; cases q), e0.h, e0.dom⟩) w e' w' r
    have x1 : Ext sa G0 H0 G2 H' := ⟨e0.g.trans t1.g, fun b u z q => by
        cases q1 : G b with
        | none => exact t1.n b u q1 q
        | some o => exact e0.n b o z q1, t1.h, t1.dom⟩
    obtain ⟨o0, d0⟩ := p0
    cases o0 with
    | false => exact k p S1 v G2 H' x1 t2 t3 t4 t5 (Rep.sub t1.g _ _ r0) (fun _ z => by cases z) h
    | true =>
      obtain ⟨⟨a', ev', nsa⟩, ap0⟩ := ap0 rfl
      obtain ⟨a0, u0, ev, n, gn, hu, ru⟩ := (show ∃ a u, v0 = .ref a ∧ H0 a = none ∧ G a = none ∧ H a = some u ∧ RepU K sa G d0 u from r0)
      subst ev
      have nsa : a0 ≠ sa.1 := fun z => nsa (by cases ev'; exact z)
      have nl : ¬ Lent σ μ (ment x) a0 := fun ⟨j, dj, k1, k2, k3⟩ => ap0 j dj k1 k3
      have g' : G' a0 = none := e'.gnone (by rw [lendG_out nl]; exact gn) hu
      have g2 : G2 a0 = none := by
        cases q2 : G2 a0 with
        | none => rfl
        | some z => rw [t6 _ _ q2] at g'; cases g'
      refine k p S1 v G2 H' x1 t2 t3 t4 t5 ⟨a0, u0, rfl, n, g2, e'.h a0 u0 nsa hu (isK_tbl ru.isK).1, ru.sub t1.g⟩ (fun hp _ z => ?_) h
      obtain ⟨o, d⟩ := p
      cases (show o = true from hp)
      obtain ⟨a, u, ev, na, _⟩ := (show ∃ a u, v = .ref a ∧ H a = none ∧ G' a = none ∧ H' a = some u ∧ RepU K sa G' d u from r)
      rw [z] at ev
      cases ev
      rw [na] at hu; cases hu
theorem ss_par {i j : Nat} {x y : Str} {px py pt pt2 : Pos} {kt k2 : Nat} (hc : X.calm = true) (hN : X.N.Nodup) (hi : X.N[i]? = some x) (hj : X.N[j]? = some y) (hij : i ≠ j) (hx : X.env.scope.names.lookup x = some .local) (hy : X.env.scope.names.lookup y = some .local)
    (hpa : plainE ea = true) (hpb : plainE eb = true) (ha : PE X ea (TX X.K sa T F E a)) (hb : PE X eb (TX X.K sa T F E b)) (hw : swappedStores [.Tuple [.Name x px, .Name y py] kt pt] (.Tuple [ea, eb] k2 pt2) X.env = pure (some [x, y])) :
    PS X (.Assign [.Tuple [.Name x px, .Name y py] kt pt] (.Tuple [ea, eb] k2 pt2) pos) (TSx X.K sa T F XF g E G0 H0 (.par i j a b)) :=
  (ps_par hc hN hi hj hij hx hy (pa_cons ha (pa_cons hb pa_nil (plain_star hpb [] X.env)) (plain_star hpa [eb] X.env)) hw (by rfl)).imp fun Dn σ H h => by
    obtain ⟨G, μ, S, e0, w, so, h⟩ := h
    rw [ex] at h
    refine evM_run e0 w so h fun p S' v G' H' e' w' so' r ap h' => ?_
    generalize hm : (if loose p = true then μ else freeze (ment a) 0 μ) = μ1 at h' so' ap
    refine evM_runO r ap e' w' so' h' fun p2 S2 v2 G2 H2 e2 w2 so2 r2 ap2 rr dn h2 => ?_
    generalize hm2 : (if loose p2 = true then μ1 else freeze (ment b) 0 μ1) = μ2 at h2 so2 ap2
    have sub2 : ∀ (j : Nat) (d : D), μ2[j]? = some (some (true, d)) → μ1[j]? = some (some (true, d)) := fun j d q => by
      rw [← hm2] at q
      cases hl : loose p2 with
      | true => rw [hl] at q; exact q
      | false => rw [hl] at q; exact freeze_own q
    have ap1 : p.1 = true → (∃ a, v = .ref a ∧ a ≠ sa.1) ∧ ∀ (j : Nat) (d : D), μ2[j]? = some (some (true, d)) → σ[j]? ≠ some (some v) := fun hp => ⟨(ap hp).1, fun j d q => (ap hp).2 j d (sub2 j d q)⟩
    have so3 := so2.setP (i := i) rr ap1
    refine ⟨v, v2, rfl, h2 _ G2 H2 e2 w2 (so3.setP (i := j) r2 fun hp => ⟨(ap2 hp).1, fun l d q => ?_⟩)⟩
    rcases set_get q with ⟨rfl, z, hlt⟩ | ⟨hne, q⟩
    · rw [List.getElem?_set_self (Nat.lt_of_lt_of_le hlt so2.len)]
      intro z2
      have hp0 : p.1 = true := by
        have : some (true, d) = some p := z
        cases this; rfl
      exact dn hp hp0 (Option.some.inj (Option.some.inj z2)).symm
    · rw [List.getElem?_set_ne hne]
      exact (ap2 hp).2 l d q
/-! ### o[k] op= e -/
def rGet (K : PySem.W.Frag) (sa : SA) : V → V → Hp → VK → Prop := fun o i H Q => ∃ T G S a u d k c, Wd K sa T G H S ∧ o = .ref a ∧ H a = some u ∧ RepU K sa G d u ∧ Rep K sa G k i ∧ opI d k = some c ∧ ∀ v, Rep K sa G c v → Q v H
end
end DW

/-! DwSrc: stores into the source of draws. -/
namespace DW
open PySem PyProof.Rows L2
section
variable {K : PySem.W.Frag} {sa : SA} {T : List (Addr × Str)} {G H : Hp} {S S1 : Src}
def srcV (sa : SA) (S : Src) : List V := [.ref sa.2, .int S.pos, .int S.rest, .int S.st]
theorem put_cells {k : Nat} {v : Int} (h : S.put k v = some S1) : S1.cells = S.cells ∧ (srcV sa S).set k (.int v) = srcV sa S1 ∧ 0 < k ∧ k < 4 := by
  unfold Src.put at h
  split at h <;> first | (cases h; done) | (cases h; exact ⟨rfl, rfl, by decide, by decide⟩)
theorem Wd.srcPut {k : Nat} {v : Int} (w : Wd K sa T G H S) (h : S.put k v = some S1) : Wd K sa T G (upd H sa.1 (.lst ((srcV sa S).set k (.int v)))) S1 ∧ Ext sa G H G (upd H sa.1 (.lst ((srcV sa S).set k (.int v)))) := by
  obtain ⟨e1, e2, _, _⟩ := put_cells (sa := sa) h
  obtain ⟨vs, h1, h2, h3, h4⟩ := w.srcH
  refine ⟨⟨fun b u q => ?_, ⟨vs, ?_, h2, by rw [e1]; exact h3, by rw [e1]; exact h4⟩, w.srcG, tabs_put w.tabs h1 (fun _ z => by cases z) (fun _ z => by cases z)⟩, ⟨Sub.refl _, fun b u z q => (by rw [z] at q; cases q), fun b u n q _ => by rw [upd_ne n]; exact q, fun b q => ?_⟩⟩
  · have : b ≠ sa.1 := fun z => by rw [z, w.srcG] at q; cases q
    rw [upd_ne this]; exact w.sub b u q
  · rw [upd_same, e2]; rfl
  · by_cases hb : b = sa.1
    · rw [hb, upd_same] at q; cases q
    · rw [upd_ne hb] at q; exact q
theorem StOk.srcPut {H0 : Hp} {σ : L2.St} {μ : Mem} {u : HO} (so : StOk K sa H0 G H σ μ) : StOk K sa H0 G (upd H sa.1 u) σ μ :=
  ⟨so.len, so.frz, fun i d q => by
    obtain ⟨v, ev, a, u', rfl, h1, h2, h3, h4, h5⟩ := so.own i d q
    exact ⟨.ref a, ev, a, u', rfl, h1, h2, h3, by rw [upd_ne h1]; exact h4, h5⟩, so.apart⟩
theorem src_at {H0 : Hp} {σ : L2.St} {μ : Mem} {i : Nat} (so : StOk K sa H0 G H σ μ) (h : isSrcAt μ i = true) : σ[i]? = some (some (.ref sa.1)) := by
  unfold isSrcAt at h
  split at h
  · rename_i e
    obtain ⟨v, ev, r⟩ := so.frz i _ e
    rw [Rep] at r
    rw [ev, r]
  · cases h
end
section
variable {X : Cx} {sa : SA} {T : List (Addr × Str)} {F : FT} {XF : XT} {g : Nat} {E : XS} {G0 H0 : Hp} {pos : Pos} {ea : Expr}
/-- a list's item by its place -/
def rGetL : V → V → Hp → VK → Prop := fun o i H Q => ∃ p xs k z, o = .ref p ∧ i = .int k ∧ 0 ≤ k ∧ H p = some (.lst xs) ∧ xs[k.toNat]? = some z ∧ Q z H
theorem get_lst : PGet X rGetL := by
  intro pp s σ H o i ov iv Q J ro ri h
  obtain ⟨p, xs, k, z, rfl, rfl, k0, hp, hz, q⟩ := h
  cases ro
  obtain ⟨t, rfl⟩ := ri
  obtain ⟨its, n, r, ho, hl⟩ := J.lst hp
  obtain ⟨u, eu, ru⟩ := r.get hz
  have lt := (List.getElem?_eq_some_iff.mp hz).1
  have := sizeLine_eq
  refine wpAny_getItem_list (items := its.toArray) ⟨_, ho, rfl, _, rfl⟩ k0 (by omega) (by simpa using eu) ⟨z, H, J, ru, q⟩
theorem ss_srcSet {i k : Nat} {x : Ex} {y : Str} {py p2 p3 : Pos} {j : Nat} (hN : X.N[i]? = some y) (hv : Vis X.env.scope y) (hy : noName y = true) (hx : PE X ea (TX X.K sa T F E x)) :
    PS X (.Assign [.Subscript (.Name y py) (.Constant (.int (k : Int)) j p3) p2] ea pos) (TSx X.K sa T F XF g E G0 H0 (.srcSet i k x)) := by
  have hd := noName_of hy
  have pv : PE X (.Name y py) (tVar i) := pe_var hN hv hd.1 hd.2.1
  have sw : swapsWithSole [.Subscript (.Name y py) (.Constant (.int (k : Int)) j p3) p2] ea pos.line X.env = pure false := by cases ea <;> rfl
  have sw2 : swappedStores [.Subscript (.Name y py) (.Constant (.int (k : Int)) j p3) p2] ea X.env = pure none := by cases ea <;> rfl
  refine (ps_asg hx (pg_sub pv (pe_int (pos := p3)) set_list (plain_asg rfl X.env)) sw sw2 rfl).imp fun Dn σ H h => ?_
  obtain ⟨G, μ, S, e0, w, so, h⟩ := h
  rw [ex] at h
  refine evM_run e0 w so h fun p S' v G' H' e' w' so' r ap h' => ?_
  generalize (if loose p = true then μ else freeze (ment x) 0 μ) = μ1 at h' so'
  obtain ⟨o, d⟩ := p
  cases o with
  | true => exact h'.elim
  | false =>
    cases d <;> first | exact h'.elim | skip
    rename_i n
    cases q : isSrcAt μ1 i with
    | false => simp only [q] at h'; exact h'.elim
    | true =>
      simp only [q] at h'
      cases q2 : S'.put k n with
      | none => rw [q2] at h'; exact h'.elim
      | some S1 =>
        rw [q2] at h'
        have r : v = .int n := by
          have r' : Rep X.K sa G' (.int n) v := r
          rw [Rep] at r'; exact r'
        subst r
        obtain ⟨w2, e2⟩ := w'.srcPut q2
        obtain ⟨_, _, k1, k2⟩ := put_cells (sa := sa) q2
        obtain ⟨vs, hs1, _⟩ := w'.srcH
        refine ⟨.ref sa.1, src_at so' q, sa.1, srcV sa S', (k : Int), k, rfl, rfl, hs1, ?_, h' σ G' _ (e'.trans e2) w2 so'.srcPut⟩
        show ixN 4 (k : Int) = some k
        have : k = 1 ∨ k = 2 ∨ k = 3 := by omega
        rcases this with rfl | rfl | rfl <;> decide +kernel
theorem ss_srcInc {i k : Nat} {c : Int} {y : Str} {py p2 p3 p4 : Pos} {j j' : Nat} (hN : X.N[i]? = some y) (hv : Vis X.env.scope y) (hy : noName y = true) :
    PS X (.AugAssign (.Subscript (.Name y py) (.Constant (.int (k : Int)) j p3) p2) .Add (.Constant (.int c) j' p4) pos) (TSx X.K sa T F XF g E G0 H0 (.srcInc i k c)) := by
  have hd := noName_of hy
  have pv : PE X (.Name y py) (tVar i) := pe_var hN hv hd.1 hd.2.1
  refine (ps_augS pv (pe_int (pos := p3)) get_lst (pe_int (pos := p4)) ip_add set_list).imp fun Dn σ H h => ?_
  obtain ⟨G, μ, S, e0, w, so, h⟩ := h
  rw [ex] at h
  cases q : isSrcAt μ i with
  | false => simp only [q] at h; exact h.elim
  | true =>
    simp only [q] at h
    cases q1 : S.get (k : Int) with
    | none => rw [q1] at h; exact h.elim
    | some d =>
      rw [q1] at h
      cases d <;> first | exact h.elim | skip
      rename_i n
      simp only at h
      cases q2 : S.put k (n + c) with
      | none => rw [q2] at h; exact h.elim
      | some S1 =>
        rw [q2] at h
        obtain ⟨w2, e2⟩ := w.srcPut q2
        obtain ⟨_, _, k1, k2⟩ := put_cells (sa := sa) q2
        obtain ⟨vs, hs1, _⟩ := w.srcH
        have hk : k = 1 ∨ k = 2 ∨ k = 3 := by omega
        have hg : (srcV sa S)[((k : Int)).toNat]? = some (.int n) := by
          rcases hk with rfl | rfl | rfl <;> (cases q1; rfl)
        refine ⟨.ref sa.1, src_at so q, sa.1, srcV sa S, (k : Int), .int n, rfl, rfl, Int.natCast_nonneg k, hs1, hg, n, c, rfl, rfl, sa.1, srcV sa S, (k : Int), k, rfl, rfl, hs1, ?_, h σ G _ (e0.trans e2) w2 so.srcPut⟩
        show ixN 4 (k : Int) = some k
        rcases hk with rfl | rfl | rfl <;> decide +kernel
end
end DW

/-! DwExc: exceptions of the text's own classes (over ValueError, over LookupError): made, their fields stored. -/
namespace DW
section
open PySem PySem.W PySem.HandSPX PyProof.Rows Builtin Builtin.ObjectAttr
/-- classes of the text, then a built-in class's line -/
def overB (tl : List Value) : List Value → Bool
  | .ref _ :: r => overB tl r
  | l => l == tl
structure BaseF (B nw ini : String) (tl : List Value) : Prop where
  facts : ExcBaseFacts B nw ini tl
  pass : ∀ v, refuseLoop v "__setattr__" tl = pure ()
  obj : tl.contains (.type "object") = true
  ne : tl.isEmpty = false
theorem overB_cases {tl : List Value} : ∀ l : List Value, overB tl l = true → (∃ c r, l = .ref c :: r ∧ overB tl r = true) ∨ l = tl := fun l e => by
  cases l with
  | nil => exact .inr (beq_iff_eq.mp e)
  | cons v r => cases v <;> first | exact .inl ⟨_, _, rfl, e⟩ | exact .inr (beq_iff_eq.mp e)
section
variable {B nw ini : String} {tl : List Value} (Fb : BaseF B nw ini tl)
include Fb
theorem overB_pass (me : Value) : ∀ l : List Value, overB tl l = true → refuseLoop me "__setattr__" l = pure ()
  | [], e => by
    rcases overB_cases [] e with ⟨_, _, z, _⟩ | z
    · cases z
    · rw [z]; exact Fb.pass me
  | v :: r, e => by
    rcases overB_cases (v :: r) e with ⟨c, r', z, e'⟩ | z
    · cases z
      rw [refuseLoop_ref]
      exact overB_pass me r e'
    · rw [z]; exact Fb.pass me
theorem overB_has (Y : String) : ∀ l : List Value, overB tl l = true → l.contains (.type Y) = tl.contains (.type Y)
  | [], e => by
    rcases overB_cases [] e with ⟨_, _, z, _⟩ | z
    · cases z
    · rw [z]
  | v :: r, e => by
    rcases overB_cases (v :: r) e with ⟨c, r', z, e'⟩ | z
    · cases z
      rw [List.contains_cons, overB_has Y r e']; rfl
    · rw [z]
theorem overB_ne : ∀ l : List Value, overB tl l = true → l.isEmpty = false
  | [], e => by
    rcases overB_cases [] e with ⟨_, _, z, _⟩ | z
    · cases z
    · rw [z]; exact Fb.ne
  | _ :: _, _ => rfl
end
theorem baseVE : BaseF "ValueError" "ValueError.__new__" "ValueError.__init__" [.type "ValueError", .type "Exception", .type "BaseException", .type "object"] :=
  ⟨F.excBase_ValueError, F.store_ValueError.passes, by decide +kernel, rfl⟩
theorem baseLE : BaseF "LookupError" "LookupError.__new__" "LookupError.__init__" [.type "LookupError", .type "Exception", .type "BaseException", .type "object"] :=
  ⟨F.excBase_LookupError, F.store_LookupError.passes, by decide +kernel, rfl⟩
section
variable {pr : Program} {wo : World} {Ar : Around} {Rs : Result → Shared → Prop} {hh : Heap} {gs : Array GenState} {dr : Drawn} {tt : Nat} {so : OsState} {B nw ini : String} {tl : List Value}
/-- a first field of an exception -/
theorem sa_new {K : W.Frag} {nm : Str} {tk : Tok} {val : Value} {me C : Addr} {fv : Array Value} {cd : ClassData} (Fb : BaseF B nw ini tl) (kin : K.In hh) (hme : hh.get? me = some { cls := .ref C, data := .fields fv }) (hcd : W.clsIn K C = some cd) (hmro : overB tl cd.mro = true) (hdict : cd.hasDict = true) (hno : W.findIn K (.ref C) nm = some none)
    (fin : ∀ h' tk' dx, (∀ b o, b ≠ me → hh.get? b = some o → h'.get? b = some o) → hh.objs.size ≤ dx → dx ≠ me → h'.get? me = some { cls := .ref C, dict := some dx, data := .fields fv } → h'.Ns1 dx (fun y => if y = nm then some val else none) → Rs (.ok (.ret .none)) ⟨h', gs, dr, tk', so⟩) :
    codeAny (model pr wo) Ar (.call (.builtin "object.__setattr__") ⟨[.ref me, .str nm tk, val], []⟩) Rs ⟨hh, gs, dr, tt, so⟩ := by
  have inst : W.InstAt hh me { cls := .ref C, data := .fields fv } C none := ⟨hme, rfl, rfl, trivial⟩
  have sf := F.store_object
  have nemp := overB_ne Fb _ hmro
  have hobj : cd.mro.contains (.type "object") = true := (overB_has Fb "object" _ hmro).trans Fb.obj
  have ns : me ≠ hh.objs.size := Nat.ne_of_lt (Heap.lt_size hme)
  have isO : W.Looks (model pr wo) hh (isInstance (.ref me) (.type "object")) true := inst.type.andThen (W.looks_mroIn kin (by unfold W.mroIn; rw [hcd, Option.bind_some, if_neg (by rw [nemp]; decide), hobj]))
  refine codeAny_call_builtin sf.slot.plain sf.entry (@W.check_slot (model pr wo) _ _ ⟨hh, gs, dr, tt, so⟩ "object.__setattr__" "object" "__setattr__" (.ref me) [.str nm tk, val] [] _ sf.kind sf.split isO (sf.args (.ref me) (.str nm tk) val) ?_)
  have lm : W.Looks (model pr wo) hh (mroOf (.ref C)) cd.mro := (W.looks_clsIn kin hcd).andThen .now
  have ls : W.Looks (model pr wo) hh (storeTaker? none) none := .now
  have lc : W.Looks (model pr wo) hh (classData C) cd := W.looks_clsIn kin hcd
  rw [W.osa_eq, refuse_eq]
  refine wpAny_bind (wpAny_bind (inst.type.at (wpAny_bind (lm.at ?_))))
  rw [overB_pass Fb _ _ hmro]
  refine wpAny_pure (wpAny_bind (inst.type.at (wpAny_bind ((W.looks_findIn kin hno).at (wpAny_bind (ls.at ?_))))))
  show wpAny _ _ (storeInOwnDict (.ref me) (.ref C) (.str nm tk) nm val false) _ _ _
  obtain ⟨c1, c2, c3, c4, c5, c6, c7, c8, c9, c10, c11⟩ := cd
  dsimp only at hdict
  subst hdict
  unfold storeInOwnDict ownDictForStores
  repeat (first | with_reducible refine store_in_new ?_ ?_ | with_reducible refine wpAny_loadPart_at hme ?_ | with_reducible refine lc.at ?_ | wp_step)
  · exact ⟨_, #[], _, (Heap.get?_update_ne _ _ _ _ ns.symm).trans (Heap.get?_push_at rfl rfl), rfl, fun e he => absurd he (by simp), fun _ => rfl⟩
  · intro h' tk' hn' hs
    have hme1 : (hh.push { cls := .type "dict", data := .dict #[] }).get? me = some { cls := .ref C, data := .fields fv } := Heap.get?_push_of_some _ hme
    refine fin h' tk' hh.objs.size (fun b o hb ho => ?_) (Nat.le_refl _) ns.symm ?_ hn'
    · exact (hs.2 b (Nat.ne_of_lt (Heap.lt_size ho))).trans ((Heap.get?_update_ne _ _ _ _ hb).trans (Heap.get?_push_of_some _ ho))
    · exact (hs.2 me ns).trans (Heap.get?_update_self _ hme1 rfl)
/-- a further field -/
theorem sa_old {K : W.Frag} {nm : Str} {tk : Tok} {val : Value} {me C dx : Addr} {fv : Array Value} {cd : ClassData} {m0 : Str → Option Value} {nl : List Str} (Fb : BaseF B nw ini tl) (kin : K.In hh) (hme : hh.get? me = some { cls := .ref C, dict := some dx, data := .fields fv }) (hns : hh.Ns1 dx m0) (hw : Within m0 nl) (hz : nl.length ≤ 1000)
    (hcd : W.clsIn K C = some cd) (hmro : overB tl cd.mro = true) (hdict : cd.hasDict = true) (hno : W.findIn K (.ref C) nm = some none)
    (fin : ∀ h' tk', (∀ b o, b ≠ dx → hh.get? b = some o → h'.get? b = some o) → h'.Ns1 dx (fun y => if y = nm then some val else m0 y) → Rs (.ok (.ret .none)) ⟨h', gs, dr, tk', so⟩) :
    codeAny (model pr wo) Ar (.call (.builtin "object.__setattr__") ⟨[.ref me, .str nm tk, val], []⟩) Rs ⟨hh, gs, dr, tt, so⟩ := by
  obtain ⟨oD, esD, epD, hoD, hdD, _⟩ := hns.count hw
  have inst : W.InstAt hh me { cls := .ref C, dict := some dx, data := .fields fv } C (some oD) := ⟨hme, rfl, rfl, hoD⟩
  have sf := F.store_object
  have nemp := overB_ne Fb _ hmro
  have hobj : cd.mro.contains (.type "object") = true := (overB_has Fb "object" _ hmro).trans Fb.obj
  have isO : W.Looks (model pr wo) hh (isInstance (.ref me) (.type "object")) true := inst.type.andThen (W.looks_mroIn kin (by unfold W.mroIn; rw [hcd, Option.bind_some, if_neg (by rw [nemp]; decide), hobj]))
  refine codeAny_call_builtin sf.slot.plain sf.entry (@W.check_slot (model pr wo) _ _ ⟨hh, gs, dr, tt, so⟩ "object.__setattr__" "object" "__setattr__" (.ref me) [.str nm tk, val] [] _ sf.kind sf.split isO (sf.args (.ref me) (.str nm tk) val) ?_)
  have lm : W.Looks (model pr wo) hh (mroOf (.ref C)) cd.mro := (W.looks_clsIn kin hcd).andThen .now
  have ls : W.Looks (model pr wo) hh (storeTaker? none) none := .now
  have lc : W.Looks (model pr wo) hh (classData C) cd := W.looks_clsIn kin hcd
  rw [W.osa_eq, refuse_eq]
  refine wpAny_bind (wpAny_bind (inst.type.at (wpAny_bind (lm.at ?_))))
  rw [overB_pass Fb _ _ hmro]
  refine wpAny_pure (wpAny_bind (inst.type.at (wpAny_bind ((W.looks_findIn kin hno).at (wpAny_bind (ls.at ?_))))))
  show wpAny _ _ (storeInOwnDict (.ref me) (.ref C) (.str nm tk) nm val false) _ _ _
  obtain ⟨c1, c2, c3, c4, c5, c6, c7, c8, c9, c10, c11⟩ := cd
  dsimp only at hdict
  subst hdict
  unfold storeInOwnDict ownDictForStores
  repeat (first | with_reducible refine PySem.OEX.store_in_old hns hw hz ?_ | with_reducible refine wpAny_loadPart_at hme ?_ | with_reducible refine lc.at ?_ | wp_step)
  intro h' tk' hn' hs
  exact fin h' tk' (fun b o hb ho => (hs.2 b hb).trans ho) hn'
end
end
end DW

/-! DwExc2: what __init__ of an exception class of the text does; the making of an exception. -/
namespace DW
open PySem PySem.Spec PyProof.Rows L2
/-- what the written part says of the class -/
structure ExC (K : PySem.W.Frag) (C : Addr) (nw : String) (tl : List Value) : Prop where
  cls : ∃ nm q N bs bm sn sub ab col dd k0 k1 k2 k3 k5, K.lookup C = some (excClassObj nm q C N bs bm true sn sub ab col dd k0 k1 k2 k3 k5 nw) ∧ overB tl bm = true
  sa : PySem.W.findIn K (.ref C) "__setattr__" = some (some (.builtin "object.__setattr__"))
  exC : PySem.W.subIn K (.ref C) (.type "BaseException") = some true
  tyC : PySem.W.typeIn K (.ref C) = some (.type "type")
  kC : PySem.W.keepIn K (.ref C) = true
section
variable {X : Cx} {pp : List (Addr × Obj)} {σ : L2.St} {H : Hp} {s : Shared} {a C dx : Addr} {f : Str} {y : V} {u : Value} {fs : List (Str × V)} {Q : Unit → Shared → Prop} {E : Value → Shared → Prop} {A : Around} {B nw ini : String} {tl : List Value}
theorem stx_new (Fb : BaseF B nw ini tl) (T : ExC X.K C nw tl) (I : Inv X pp σ H s) (e : H a = some (exo a C none)) (hno : PySem.W.findIn X.K (.ref C) f = some none) (ry : RelV y u)
    (h : ∀ dx s', H dx = none → dx ≠ a → Inv X pp σ (upd (upd H dx (exd dx [(f, y)])) a (exo a C (some dx))) s' → Q () s') : wpAny (model X.prog X.w) A (setAttr (.ref a) f u) Q E s := by
  obtain ⟨nm, q, N, bs, bm, sn, sub, ab, col, dd, k0, k1, k2, k3, k5, hC, hbm⟩ := T.cls
  have hcl : PySem.W.clsIn X.K C = some { name := nm, bases := bs, mro := .ref C :: bm, ns := N, qualname := q, hasDict := true, slotNames := sn, subclasses := sub, abstract := ab, collection := col, hasDel := false } := by
    unfold PySem.W.clsIn; rw [hC] <;> rfl
  obtain ⟨t1, ho⟩ := exo_at I.hok e
  obtain ⟨hp, gg, dr, tk, os⟩ := s
  refine PySem.W.set_plain I.kIn (ox := { cls := .ref C, dict := none, data := .fields #[.ref t1, .none, .none, .none, .bool false, .none] }) (od := none) ⟨ho, rfl, rfl, trivial⟩ T.sa (sa_new Fb I.kIn ho hcl (show overB tl (.ref C :: bm) = true from hbm) rfl hno fun h' tk' dx k dn dne hx hn => ?_)
  have hnd : H dx = none := I.hok.fresh dn
  have nd : ∀ {b : Addr} {o : Obj}, hp.get? b = some o → b ≠ dx := fun {b o} z => Nat.ne_of_lt (Nat.lt_of_lt_of_le (Heap.lt_size z) dn)
  have na : ∀ {b : Addr}, H b = none → b ≠ a := fun {b} n z => by rw [z, e] at n; cases n
  have U : Un X.fs [] H (upd (upd H dx (exd dx [(f, y)])) a (exo a C (some dx))) hp h' := {
    keep := fun b o z n _ _ => k b o (na n) z
    slot := fun b o z n _ _ => ⟨o.slots, k b o (na n) z⟩
    free := fun b o z n _ => by rw [upd_ne (na n), upd_ne (nd z)]; exact n
    there := fun b o z _ => by
      by_cases hb : b = a
      · exact ⟨_, by rw [hb]; exact hx⟩
      · exact ⟨o, k b o hb z⟩
    tups := fun b xs z => by rw [upd_ne (at_ne e z exo_tup), upd_ne (ne_of_none z hnd)]; exact z
    frzs := fun b o v z => by rw [upd_ne (at_ne e z exo_frz), upd_ne (ne_of_none z hnd)]; exact z
    tbls := fun b ps z => ⟨#[], by rw [upd_ne (at_ne e z exo_tbl), upd_ne (ne_of_none z hnd), z]; simp⟩ }
  refine h dx _ hnd dne (I.un (t' := tk') U fun b o z => ?_)
  by_cases hb : b = a
  · subst hb
    rw [upd_same] at z; cases z
    exact exo_ok hx
  · rw [upd_ne hb] at z
    by_cases hd : b = dx
    · subst hd
      rw [upd_same] at z; cases z
      exact exd_ok hn (relO_put (fs := []) ry fun g => True.intro)
    · rw [upd_ne hd] at z
      refine (I.hok b o z).stay (fun c v hc w => k c v ?_ w) (fun c hc => by rw [upd_ne (at_ne e hc exo_own), upd_ne (ne_of_none hc hnd)]; exact hc) fun c xs hc => by rw [upd_ne (at_ne e hc exo_tup), upd_ne (ne_of_none hc hnd)]; exact hc
      rcases hc with hc | hc
      · rw [hc]; exact hb
      · exact at_ne e hc exo_own
theorem stx_old (Fb : BaseF B nw ini tl) (T : ExC X.K C nw tl) (I : Inv X pp σ H s) (e : H a = some (exo a C (some dx))) (ed : H dx = some (exd dx fs)) (hl : fs.length ≤ 900) (hno : PySem.W.findIn X.K (.ref C) f = some none) (ry : RelV y u)
    (h : ∀ s', Inv X pp σ (upd H dx (exd dx ((f, y) :: fs))) s' → Q () s') : wpAny (model X.prog X.w) A (setAttr (.ref a) f u) Q E s := by
  obtain ⟨nm, q, N, bs, bm, sn, sub, ab, col, dd, k0, k1, k2, k3, k5, hC, hbm⟩ := T.cls
  have hcl : PySem.W.clsIn X.K C = some { name := nm, bases := bs, mro := .ref C :: bm, ns := N, qualname := q, hasDict := true, slotNames := sn, subclasses := sub, abstract := ab, collection := col, hasDel := false } := by
    unfold PySem.W.clsIn; rw [hC] <;> rfl
  obtain ⟨t1, ho⟩ := exo_at I.hok e
  obtain ⟨mA, hns, rel⟩ := exd_at I.hok ed
  have hw := within_of rel
  obtain ⟨hp, gg, dr, tk, os⟩ := s
  obtain ⟨oD, _, _, hoD, _, _⟩ := hns.count hw
  refine PySem.W.set_plain I.kIn (ox := { cls := .ref C, dict := some dx, data := .fields #[.ref t1, .none, .none, .none, .bool false, .none] }) (od := some oD) ⟨ho, rfl, rfl, hoD⟩ T.sa (sa_old Fb I.kIn ho hns hw (by rw [List.length_map]; omega) hcl (show overB tl (.ref C :: bm) = true from hbm) rfl hno fun h' tk' k hn => ?_)
  have hd : ∃ o, h'.get? dx = some o := let ⟨o, _, _, e', _⟩ := hn; ⟨o, e'⟩
  exact h _ (I.write (t' := tk') (x := dx) (e := dx) (o := exd dx ((f, y) :: fs)) (by rw [ed]; exact True.intro) (.inl rfl) k hd (exd_ok hn (relO_put ry rel)))
end
/-! ### self.f = e -/
def tSx (K : PySem.W.Frag) (nw : String) (tl : List Value) (f : Str) (to te : TE) : TS := fun D σ H => te σ H fun y H1 => to σ H1 fun x H2 => ∃ a C : Addr, x = .ref a ∧ ExC K C nw tl ∧ PySem.W.findIn K (.ref C) f = some none ∧
  ((H2 a = some (exo a C none) ∧ ∀ dx, H2 dx = none → dx ≠ a → D.nx σ (upd (upd H2 dx (exd dx [(f, y)])) a (exo a C (some dx)))) ∨
    ∃ (dx : Addr) (fs : List (Str × V)), H2 a = some (exo a C (some dx)) ∧ H2 dx = some (exd dx fs) ∧ fs.length ≤ 900 ∧ D.nx σ (upd H2 dx (exd dx ((f, y) :: fs))))
section
variable {X : Cx} {o e : Expr} {es : List Expr} {to te : TE} {ta : TA} {f : Str} {p p' p1 p2 pos : Pos} {B nw ini : String} {tl : List Value}
theorem ps_stx (Fb : BaseF B nw ini tl) (ho : PE X o to) (he : PE X e te) (hs : swapsWith e (some (.Attribute o f p')) pos.line X.env = pure false := by rfl) : PS X (.Assign [.Attribute o f p'] e pos) (tSx X.K nw tl f to te) := by
  refine ⟨fun pp s σ H D I h => plainObj_wpAny_Assign_Attribute (thn (he.run pp s σ H _ I h) fun v s1 ⟨y, H1, I1, r1, q1⟩ => thn (ho.run pp s1 σ H1 _ I1 q1) fun u s2 ⟨x, H2, I2, r2, a, C, ex, T, hno, q⟩ => ?_) hs⟩
  subst ex
  obtain rfl : u = Value.ref a := r2
  rcases q with ⟨ea, q⟩ | ⟨dx, fs, ea, ed, hl, q⟩
  · exact stx_new Fb T I2 ea hno r1 fun dx s' n ne J => ⟨σ, _, J, q dx n ne⟩
  · exact stx_old Fb T I2 ea ed hl hno r1 fun s' J => ⟨σ, _, J, q⟩
/-! ### Base.__init__(self, e) -/
theorem pe_binit {x : Str} {Cb fb : Addr} {k : Nat} {fd : FuncData} {ps : List Str} {sp : Sp} {ap cp : Pos} {pl : Sem Bool} (hg : Gl X x) (hm : X.mg x = some (.ref Cb)) (hd : (x == ("__debug__" : Str)) = false) (rd : ClX.CRead X.K Cb (.type "type")) (cv : ClX.CVal X.K Cb (.type "type") "__init__" (.ref fb) (.ref fb)) (kp : PySem.W.keepIn X.K (.ref fb) = true)
    (F1 : FnOk X.prog X.w X.K X.mg X.base CX0 k fb fd ps sp) (hr : Room k X.A) (hb : Binds X.K fd ps []) (ha : PA X (e :: es) ta)
    (hc : eval (.Call (.Attribute (.Name x p) "__init__" ap) (e :: es) [] cp) X.env = (do
      let ov ← eval (.Name x p) X.env
      standAt ap.atName
      let (f, first) ← holding [ov] (getMethod ov "__init__" pl)
      callWith cp f first (backTo cp (starEach (e :: es) X.env)) (backToKw cp (keywordEach [] X.env))))
    (he : starEach (e :: es) X.env = (false, eval e X.env) :: starEach es X.env := by rfl) (hpl : (backTo cp (starEach es X.env)).any (·.1) = false := by rfl) :
    PE X (.Call (.Attribute (.Name x p) "__init__" ap) (e :: es) [] cp) (fun σ H Q => ta σ H fun vs H1 => sp vs H1 Q E0) := by
  refine ⟨fun pp s σ H Q I h => PySem.W.methodCall_KW (ld_glob I hg hm ?_ hd) hc⟩
  refine PySem.W.method_cls I.kIn rd.ga (ClX.getcval_ok I rd cv fun s1 I1 => ?_)
  refine PySem.W.callWith_K (h₀ := X.base) I.ok.mod.kin kp (thn (ha.run cp pp s1 σ H _ I1 h) fun us s2 ⟨vs, H1, I2, r1, q1⟩ => ⟨I2.kIn, ?_⟩) he hpl
  have hl : us.length = ps.length := by rw [← r1.length]; exact F1.len _ _ _ _ q1
  have hbt := hb s2 us I2.kIn (by rw [List.append_nil]; exact hl)
  rw [List.append_nil] at hbt
  refine wpAny_call (codeAny_mono (F1.run X.A X.stack s2 H1 ⟨us, []⟩ us vs Q E0 hr I2.env0 hbt r1 q1) fun r s' hq => ?_)
  cases r with
  | error er => exact (show False from hq).elim
  | ok fl =>
    cases fl with
    | ret u => exact I2.after hq
    | next => exact False.elim hq
    | brk => exact False.elim hq
    | cont => exact False.elim hq
end
end DW

/-! DwExc3: an exception of a class of the text is made, its __init__ walked. -/
namespace DW
open PySem PySem.Spec PyProof.Rows L2
section
variable {X : Cx} {pp : List (Addr × Obj)} {σ : L2.St} {H1 : Hp} {s1 : Shared} {C fI : Addr} {CX : CXT} {k : Nat} {fd : FuncData} {ps : List Str} {sp : Sp} {ds : List Value} {dvs : List V} {B nw ini : String} {tl : List Value}
/-- what is wanted of __init__ -/
def mkQ (C : Addr) (H1 : Hp) (Q : XK) (a : Addr) : VK := fun v H2 => v = .non ∧ ∃ (d : Addr) (fs : List (Str × V)), H2 a = some (exo a C (some d)) ∧ H2 d = some (exd d fs) ∧ H1 d = none ∧ Q (.ref C) (some d) (upd (del H2 a) d (.xd fs))
theorem mkx_run (Fb : BaseF B nw ini tl) (T : ExC X.K C nw tl) (iC : PySem.W.findIn X.K (.ref C) "__init__" = some (some (.ref fI))) (tI : PySem.W.typeIn X.K (.ref fI) = some (.type "function"))
    (F1 : FnOk X.prog X.w X.K X.mg X.base CX k fI fd ps sp) (hr : Room (k + 1) X.A) (hb : L2.Binds X.K fd ps ds) (hd : Vals dvs ds) (hx : Passes CX X (fun _ _ _ => False)) {us : List Value} {vs : List V} {Q : XK}
    (J : Inv X pp σ H1 s1) (r1 : Vals vs us) (hz : vs.length ≤ 1000) (q1 : ∀ a, H1 a = none → sp (.ref a :: (vs ++ dvs)) (upd H1 a (exo a C none)) (mkQ C H1 Q a) (fun _ _ _ => False)) :
    wpAny (model X.prog X.w) X.A (call (.ref C) us) (MkP X pp σ Q) X.xe s1 := by
  obtain ⟨nm, q, N, bs, bm, sn, sub, ab, col, dd, k0, k1, k2, k3, k5, hC, hbm⟩ := T.cls
  obtain ⟨hh, gg, dr, tk, so⟩ := s1
  have lt1 : hh.objs.size ≤ hh.objs.size + 1 := Nat.le_succ _
  have nH : H1 (hh.objs.size + 1) = none := J.hok.fresh lt1
  have want := q1 (hh.objs.size + 1) nH
  have keep : ∀ b o, hh.get? b = some o → ((hh.push (PySem.W.kdv_tup us)).push (PySem.HandSPX.excO C hh.objs.size)).get? b = some o := fun b o e => Heap.get?_push_of_some _ (Heap.get?_push_of_some _ e)
  have at1 : ((hh.push (PySem.W.kdv_tup us)).push (PySem.HandSPX.excO C hh.objs.size)).get? (hh.objs.size + 1) = some (PySem.HandSPX.excO C hh.objs.size) := by heap_get
  have J2 : Inv X pp σ (upd H1 (hh.objs.size + 1) (exo (hh.objs.size + 1) C none)) ⟨(hh.push (PySem.W.kdv_tup us)).push (PySem.HandSPX.excO C hh.objs.size), gg, dr, tk, so⟩ :=
    J.laid (t' := tk) (a := hh.objs.size + 1) (o := exo (hh.objs.size + 1) C none) (h' := (hh.push (PySem.W.kdv_tup us)).push (PySem.HandSPX.excO C hh.objs.size)) keep lt1 (exo_ok at1)
  have rr : Vals (V.ref (hh.objs.size + 1) :: (vs ++ dvs)) (Value.ref (hh.objs.size + 1) :: (us ++ ds)) := .cons rfl (r1.append hd)
  have ln : (Value.ref (hh.objs.size + 1) :: us ++ ds).length = ps.length := by
    have e := rr.length
    rw [F1.len _ _ _ _ want] at e
    exact e.symm
  have lu : us.length ≤ sizeLine := by
    rw [← Paired.length r1, sizeLine_eq]; omega
  have go := F1.run _ X.stack _ _ ⟨Value.ref (hh.objs.size + 1) :: us, []⟩ (Value.ref (hh.objs.size + 1) :: (us ++ ds)) _ _ (fun _ _ _ => False) (hr.make C us []) (J2.env0.make C us []) (hb _ (Value.ref (hh.objs.size + 1) :: us) J2.kIn ln) rr want
  refine wpAny_call (PySem.HandSPX.call_own Fb.facts (fun Y => overB_has Fb Y bm hbm) (J.kIn _ _ hC) (PySem.W.looks_findIn J.kIn iC) (fun me => PySem.W.bind_fn J.kIn me tI) lu (codeAny_mono go fun r s' out => ?_))
  cases r with
  | error er => exact hx pp σ _ _ er s' J2 out
  | ok fl =>
    cases fl with
    | ret u =>
      obtain ⟨v, H2, os2, bare2, un2, hok2, rv, ev, d, fs, ea, ed, hd1, q2⟩ := out
      subst ev
      obtain ⟨h2, g2, d2, t2, so2⟩ := s'
      exact ⟨rv, mk_end (raises_own T.exC T.tyC) J lt1 keep un2 hok2 os2 bare2 ea ed hd1 q2⟩
    | next => exact False.elim out
    | brk => exact False.elim out
    | cont => exact False.elim out
def tMkx (C : Addr) (sp : Sp) (dvs : List V) (ta : TA) : L2.St → Hp → XK → Prop := fun σ H Q => ta σ H fun vs H1 => vs.length ≤ 1000 ∧ ∀ a, H1 a = none → sp (.ref a :: (vs ++ dvs)) (upd H1 a (exo a C none)) (mkQ C H1 Q a) (fun _ _ _ => False)
theorem pmk_x {x : Str} {p pos : Pos} {ta : TA} (Fb : BaseF B nw ini tl) (T : ExC X.K C nw tl) (iC : PySem.W.findIn X.K (.ref C) "__init__" = some (some (.ref fI))) (tI : PySem.W.typeIn X.K (.ref fI) = some (.type "function"))
    (F1 : FnOk X.prog X.w X.K X.mg X.base CX k fI fd ps sp) (hr : Room (k + 1) X.A) (hb : L2.Binds X.K fd ps ds) (hd : Vals dvs ds) (hx : Passes CX X (fun _ _ _ => False)) (hg : Gl X x) (hm : X.mg x = some (.ref C)) (hdb : (x == ("__debug__" : Str)) = false) :
    (∀ (e : Expr) (es : List Expr), PA X (e :: es) ta → starEach (e :: es) X.env = (false, eval e X.env) :: starEach es X.env → (backTo pos (starEach es X.env)).any (·.1) = false → PMk X (.Call (.Name x p) (e :: es) [] pos) (tMkx C sp dvs ta)) ∧
    PMk X (.Call (.Name x p) [] [] pos) (tMkx C sp dvs tNil) := by
  refine ⟨fun e es ha he hpl pp s σ H Q J h => ?_, fun pp s σ H Q J h => ?_⟩
  · refine wpAny_Call_Name_kw (ld_glob J hg hm ?_ hdb)
    exact PySem.W.callWith_K (h₀ := X.base) J.ok.mod.kin T.kC (thn (ha.run pos pp s σ H _ J h) fun us s1 ⟨vs, H1, J1, r1, hz, q1⟩ => ⟨J1.kIn, mkx_run Fb T iC tI F1 hr hb hd hx J1 r1 hz q1⟩) he hpl
  · refine wpAny_Call_Name_kw (ld_glob J hg hm ?_ hdb)
    obtain ⟨hz, q1⟩ := (show ([] : List V).length ≤ 1000 ∧ ∀ a, H a = none → sp (.ref a :: ([] ++ dvs)) (upd H a (exo a C none)) (mkQ C H Q a) (fun _ _ _ => False) from h)
    exact PySem.W.callWith_K0 J.kIn T.kC (mkx_run (us := []) Fb T iC tI F1 hr hb hd hx J .nil hz q1)
end
end DW

/-! DwExc4: __init__ of the exception classes of this text; raise. -/
namespace DW
open PySem PySem.Spec PyProof.Rows L2

/-- __init__(self, code) of a base -/
def spB (K : PySem.W.Frag) (nw : String) (tl : List Value) : Sp := fun vs H Q _ => ∃ (a C : Addr) (v : V), vs = [.ref a, v] ∧ ExC K C nw tl ∧ PySem.W.findIn K (.ref C) "code" = some none ∧ H a = some (exo a C none) ∧
  ∀ dx, H dx = none → dx ≠ a → Q .non (upd (upd H dx (exd dx [("code", v)])) a (exo a C (some dx)))
/-- __init__ of a class over it -/
def spI (K : PySem.W.Frag) (nw : String) (tl : List Value) (code : Str) (fld : Option Str) : Sp := fun vs H Q _ => ∃ (a C : Addr) (ws : List V), vs = .ref a :: ws ∧ ExC K C nw tl ∧ PySem.W.findIn K (.ref C) "code" = some none ∧ H a = some (exo a C none) ∧
  match fld with
  | none => ws = [] ∧ ∀ dx, H dx = none → dx ≠ a → Q .non (upd (upd H dx (exd dx [("code", .str code)])) a (exo a C (some dx)))
  | some f => PySem.W.findIn K (.ref C) f = some none ∧ ∃ v, ws = [v] ∧ ∀ dx, H dx = none → dx ≠ a → Q .non (upd (upd (upd H dx (exd dx [("code", .str code)])) a (exo a C (some dx))) dx (exd dx [(f, v), ("code", .str code)]))
theorem vis_par {N ps : List Str} {sc : Scope} (S : FnScope N ps sc) {x : Str} (h : x ∈ ps) : Vis sc x := (S.par x h).elim .inl fun z => .inr (.inl z)
def psI : Option Str → List Str
  | none => ["self"]
  | some f => ["self", f]
section
variable {P : Program} {w : World} {K : PySem.W.Frag} {mg : Str → Option Value} {base : Heap} {qual : Str} {params : Arguments} {scope : Scope} {dvs : List V} {kws : List (Str × V)} {fa : Addr} {fd : FuncData} {B nw ini : String} {tl : List Value}
theorem fn_base {nm : Str} {p1 p2 p3 p4 : Pos} (Fb : BaseF B nw ini tl) (FD : FunD K nm qual params [.Assign [.Attribute (.Name "self" p1) "code" p2] (.Name "code" p3) p4] scope dvs kws fa fd) (S : FnScope ["self", "code"] ["self", "code"] scope) :
    FnOk P w K mg base CX0 1 fa fd ["self", "code"] (spB K nw tl) := by
  refine FD.ok (k := 0) S (fun vs H Q E ⟨a, C, v, e, _⟩ => by rw [e]; rfl) fun cdv A outer s H vs Q E hr h => ?_
  obtain ⟨a, C, v, rfl, hC, hc, ea, q⟩ := h
  refine ⟨_, pss_one (ps_stx Fb (pe_var (i := 0) rfl (vis_par S (x := "self") (by decide))) (pe_var (i := 1) rfl (vis_par S (x := "code") (by decide)))), ?_⟩
  exact ⟨v, rfl, .ref a, rfl, a, C, rfl, hC, hc, .inl ⟨ea, q⟩⟩
theorem binit_eval {x m : Str} {p ap cp : Pos} {args : List Expr} {env : PySem.Env} (hf : methodCallForm (args.length + ([] : List Keyword).length) (backTo cp (starEach args env)) (backToKw cp (keywordEach [] env)) = true) (hl : (ap.endLine == cp.line) = true) :
    eval (.Call (.Attribute (.Name x p) m ap) args [] cp) env = (do
      let ov ← eval (.Name x p) env
      standAt ap.atName
      let (f, first) ← holding [ov] (getMethod ov m (plainOf (.Name x p) env))
      callWith cp f first (backTo cp (starEach args env)) (backToKw cp (keywordEach [] env))) := mcall_of rfl fun ov => mcall_line hf hl
theorem fn_init {nm x code : Str} {Cb fb : Addr} {fdb : FuncData} {fld : Option Str} {p p1 p2 p3 ap cp pos : Pos} {j : Nat} {rest : List Stmt} (Fb : BaseF B nw ini tl) (hrest : match fld with
      | none => rest = []
      | some f => ∃ q1 q2 q3 q4, rest = [.Assign [.Attribute (.Name "self" q1) f q2] (.Name f q3) q4] ∧ (f == ("__debug__" : Str)) = false ∧ (f == ("__classdict__" : Str)) = false)
    (FD : FunD K nm qual params (.Expr (.Call (.Attribute (.Name x p) "__init__" ap) [.Name "self" p1, .Constant (.str code) j p2] [] cp) pos :: rest) scope dvs kws fa fd) (S : FnScope (psI fld) (psI fld) scope) (hgl : scope.names.lookup x = some .globalImplicit)
    (hl : (ap.endLine == cp.line) = true) (hm : mg x = some (.ref Cb)) (hd : (x == ("__debug__" : Str)) = false) (rd : ClX.CRead K Cb (.type "type")) (cv : ClX.CVal K Cb (.type "type") "__init__" (.ref fb) (.ref fb)) (kp : PySem.W.keepIn K (.ref fb) = true)
    (F1 : FnOk P w K mg base CX0 1 fb fdb ["self", "code"] (spB K nw tl)) (hb : L2.Binds K fdb ["self", "code"] []) : FnOk P w K mg base CX0 2 fa fd (psI fld) (spI K nw tl code fld) := by
  refine FD.ok (k := 1) S (fun vs H Q E ⟨a, C, ws, e, _, _, _, h⟩ => ?_) fun cdv A outer s H vs Q E hr h => ?_
  · cases fld with
    | none => rw [e, h.1]; rfl
    | some f => obtain ⟨v, hv, _⟩ := h.2; rw [e, hv]; rfl
  · obtain ⟨a, C, ws, rfl, hC, hc, ea, h⟩ := h
    have vs0 : Vis scope "self" := vis_par S (x := "self") (by cases fld <;> exact List.mem_cons_self ..)
    have hN0 : (psI fld)[0]? = some ("self" : Str) := by cases fld <;> rfl
    have call := pe_binit (X := cxOf CX0 P w K mg base (psI fld) qual scope fa cdv A outer s H E) (ta := tCons (tVar 0) (tCons (tC (.str code)) tNil)) (p := p) (pl := plainOf (.Name x p) (cxOf CX0 P w K mg base (psI fld) qual scope fa cdv A outer s H E).env) hgl hm hd rd cv kp F1 hr hb (pa_cons (e := .Name "self" p1) (pe_var (i := 0) hN0 vs0) (pa_cons (e := .Constant (.str code) j p2) pe_str pa_nil)) (binit_eval (ap := ap) (cp := cp) rfl hl) rfl rfl
    cases fld with
    | none =>
      subst hrest
      obtain ⟨rfl, q⟩ := h
      refine ⟨_, pss_one (ps_expr call (by rfl)), ?_⟩
      exact ⟨.ref a, rfl, a, C, .str code, rfl, hC, hc, ea, fun dx n ne => q dx n ne⟩
    | some f =>
      obtain ⟨q1, q2, q3, q4, rfl, hf1, hf2⟩ := hrest
      obtain ⟨hf, v, rfl, q⟩ := h
      have vs1 : Vis scope f := vis_par S (x := f) (List.mem_cons_of_mem _ (List.mem_cons_self ..))
      refine ⟨_, pss_cons (ps_expr call (by rfl)) (pss_one (ps_stx Fb (pe_var (i := 0) rfl vs0) (pe_var (i := 1) (x := f) rfl vs1 hf1 hf2))), ?_⟩
      refine ⟨.ref a, rfl, a, C, .str code, rfl, hC, hc, ea, fun dx n ne => ?_⟩
      refine ⟨v, rfl, .ref a, rfl, a, C, rfl, hC, hf, .inr ⟨dx, [("code", .str code)], upd_same, ?_, by simp, q dx n ne⟩⟩
      rw [upd_ne ne, upd_same]
end
/-! ### what is known of an exception class -/
structure XFact (X : Cx) (x : XD) : Prop where
  mg : X.mg x.cls = some (.ref (He.ga X.K x.cls))
  db : (x.cls == ("__debug__" : Str)) = false
  ne : x.f ≠ some ("code" : Str)
  all : ∃ (B nw ini : String) (tl : List Value) (fI : Addr) (fd : FuncData), BaseF B nw ini tl ∧ ExC X.K (He.ga X.K x.cls) nw tl ∧ PySem.W.findIn X.K (.ref (He.ga X.K x.cls)) "code" = some none ∧ (∀ f, x.f = some f → PySem.W.findIn X.K (.ref (He.ga X.K x.cls)) f = some none) ∧
    PySem.W.findIn X.K (.ref (He.ga X.K x.cls)) "__init__" = some (some (.ref fI)) ∧ PySem.W.typeIn X.K (.ref fI) = some (.type "function") ∧ FnOk X.prog X.w X.K X.mg X.base CX0 2 fI fd (psI x.f) (spI X.K nw tl x.code x.f) ∧
    (∃ ds, Vals ((x.fld.map fun p => p.2.v).toList) ds ∧ L2.Binds X.K fd (psI x.f) ds) ∧ (x.f ≠ none → L2.Binds X.K fd (psI x.f) [])
section
variable {X : Cx} {sa : SA} {T : List (Addr × Str)} {F : FT} {g : Nat} {E : XS} {G0 H0 : Hp} {pos p1 p2 : Pos}
/-- behind __init__ -/
theorem heap_end {H H2 : Hp} {a d C : Addr} {fs gs : List (Str × V)} (na : H a = none) (hd : H d = none) (ne : d ≠ a) (h : H2 = upd (upd (upd H a (exo a C none)) d (exd d gs)) a (exo a C (some d)) ∨ H2 = upd (upd (upd (upd H a (exo a C none)) d (exd d gs)) a (exo a C (some d))) d (exd d fs)) (u : HO) :
    upd (del H2 a) d u = upd H d u := by
  funext b
  by_cases hb : b = d
  · rw [hb, upd_same, upd_same]
  · rw [upd_ne hb, upd_ne hb]
    by_cases hb2 : b = a
    · rw [hb2, del_same, na]
    · rw [del_ne hb2]
      rcases h with rfl | rfl
      · rw [upd_ne hb2, upd_ne hb, upd_ne hb2]
      · rw [upd_ne hb, upd_ne hb2, upd_ne hb, upd_ne hb2]
theorem rais_make {x : XD} (XF1 : XFact X x) (hr : Room 3 X.A) (hg : Gl X x.cls) {xs : Exs} {es : List Expr} (h : AllE X sa T F E xs es) :
    PMk X (.Call (.Name x.cls p1) es [] pos) (fun σ H Q => TXs X.K sa T F E xs σ H fun vs H1 => ∃ G S ds fs, Wd X.K sa T G H1 S ∧ RepL X.K sa G ds vs ∧ xdFs x ds = some fs ∧ ∀ d H2 gs, H1 d = none → H2 = upd H1 d (.xd gs) → (∀ p ∈ fs, ∃ v, gs.lookup p.1 = some v ∧ Rep X.K sa G p.2 v) → Q (.ref (He.ga X.K x.cls)) (some d) H2) := by
  obtain ⟨hm, hdb, hne, B, nw, ini, tl, fI, fd, Fb, hC, hcode, hfld, iC, tI, F1, ⟨ds0, hv0, hb0⟩, hb1⟩ := XF1
  have look : ∀ (f : Str), f ≠ "code" → ∀ (v w : V), [(f, v), (("code" : Str), w)].lookup ("code" : Str) = some w := fun f hf v w => by
    simp [List.lookup, show ((("code" : Str) == f) = false) from beq_false_of_ne (Ne.symm hf)]
  -- from a written argument list
  have fin1 : ∀ (H1 : Hp) (vs : List V) (Q : XK), (∃ G S ds fs, Wd X.K sa T G H1 S ∧ RepL X.K sa G ds vs ∧ xdFs x ds = some fs ∧ ∀ d H2 gs, H1 d = none → H2 = upd H1 d (.xd gs) → (∀ p ∈ fs, ∃ v, gs.lookup p.1 = some v ∧ Rep X.K sa G p.2 v) → Q (.ref (He.ga X.K x.cls)) (some d) H2) →
      (∃ v f l, vs = [v] ∧ x.fld = some (f, l)) → vs.length ≤ 1000 ∧ ∀ a, H1 a = none → spI X.K nw tl x.code x.f (.ref a :: (vs ++ [])) (upd H1 a (exo a (He.ga X.K x.cls) none)) (mkQ (He.ga X.K x.cls) H1 Q a) (fun _ _ _ => False) := by
    rintro H1 vs Q ⟨G, S, ds, fs, w, r, hx, q⟩ ⟨v, f, l, rfl, hfl⟩
    have hxf : x.f = some f := by unfold XD.f; rw [hfl]; rfl
    refine ⟨by simp, fun a na => ⟨a, He.ga X.K x.cls, [v], by simp, hC, hcode, upd_same, ?_⟩⟩
    rw [hxf]
    refine ⟨hfld f hxf, v, rfl, fun dx nd ne => ⟨rfl, dx, [(f, v), ("code", .str x.code)], ?_, upd_same, ?_, ?_⟩⟩
    · rw [upd_ne ne.symm, upd_same]
    · rw [upd_ne ne] at nd; exact nd
    · rw [upd_ne ne] at nd
      refine q dx _ [(f, v), ("code", .str x.code)] nd (heap_end na nd ne (.inr rfl) _) ?_
      have hnf : f ≠ "code" := fun z => hne (by rw [hxf, z])
      cases ds with
      | nil => rw [RepL] at r; cases r
      | cons d ds =>
        rw [RepL] at r
        obtain ⟨v', r', e', rv, rr⟩ := r
        cases e'
        cases ds with
        | cons d2 ds => rw [RepL] at rr; obtain ⟨_, _, z, _⟩ := rr; cases z
        | nil =>
          rw [xdFs, hfl] at hx
          cases hx
          intro p hp
          rcases List.mem_cons.mp hp with rfl | hp
          · exact ⟨v, by simp [List.lookup], rv⟩
          · rcases List.mem_cons.mp hp with rfl | hp
            · exact ⟨.str x.code, look f hnf v _, by rw [Rep]⟩
            · cases hp
  have fin0 : ∀ (H1 : Hp) (Q : XK), (∃ G S ds fs, Wd X.K sa T G H1 S ∧ RepL X.K sa G ds [] ∧ xdFs x ds = some fs ∧ ∀ d H2 gs, H1 d = none → H2 = upd H1 d (.xd gs) → (∀ p ∈ fs, ∃ v, gs.lookup p.1 = some v ∧ Rep X.K sa G p.2 v) → Q (.ref (He.ga X.K x.cls)) (some d) H2) →
      ([] : List V).length ≤ 1000 ∧ ∀ a, H1 a = none → spI X.K nw tl x.code x.f (.ref a :: ([] ++ (x.fld.map fun p => p.2.v).toList)) (upd H1 a (exo a (He.ga X.K x.cls) none)) (mkQ (He.ga X.K x.cls) H1 Q a) (fun _ _ _ => False) := by
    rintro H1 Q ⟨G, S, ds, fs, w, r, hx, q⟩
    have hds : ds = [] := by
      cases ds with
      | nil => rfl
      | cons d ds => rw [RepL] at r; obtain ⟨_, _, z, _⟩ := r; cases z
    subst hds
    refine ⟨by simp, fun a na => ⟨a, He.ga X.K x.cls, (x.fld.map fun p => p.2.v).toList, by simp, hC, hcode, upd_same, ?_⟩⟩
    cases hfl : x.fld with
    | none =>
      have hxf : x.f = none := by unfold XD.f; rw [hfl]; rfl
      rw [hxf]
      refine ⟨rfl, fun dx nd ne => ⟨rfl, dx, [("code", .str x.code)], upd_same, ?_, ?_, ?_⟩⟩
      · rw [upd_ne ne, upd_same]
      · rw [upd_ne ne] at nd; exact nd
      · rw [upd_ne ne] at nd
        refine q dx _ [("code", .str x.code)] nd (heap_end (fs := []) na nd ne (.inl rfl) _) ?_
        rw [xdFs, hfl] at hx
        cases hx
        intro p hp
        rcases List.mem_cons.mp hp with rfl | hp
        · exact ⟨.str x.code, by simp [List.lookup], by rw [Rep]⟩
        · cases hp
    | some fl =>
      obtain ⟨f, l⟩ := fl
      have hxf : x.f = some f := by unfold XD.f; rw [hfl]; rfl
      rw [hxf]
      refine ⟨hfld f hxf, l.v, rfl, fun dx nd ne => ⟨rfl, dx, [(f, l.v), ("code", .str x.code)], ?_, upd_same, ?_, ?_⟩⟩
      · rw [upd_ne ne.symm, upd_same]
      · rw [upd_ne ne] at nd; exact nd
      · rw [upd_ne ne] at nd
        refine q dx _ [(f, l.v), ("code", .str x.code)] nd (heap_end na nd ne (.inr rfl) _) ?_
        have hnf : f ≠ "code" := fun z => hne (by rw [hxf, z])
        rw [xdFs, hfl] at hx
        cases hx
        intro p hp
        rcases List.mem_cons.mp hp with rfl | hp
        · exact ⟨l.v, by simp [List.lookup], l.rep _ _ _⟩
        · rcases List.mem_cons.mp hp with rfl | hp
          · exact ⟨.str x.code, look f hnf l.v _, by rw [Rep]⟩
          · cases hp
  cases es with
  | nil =>
    cases xs with
    | cons y ys => exact h.elim
    | nil =>
      have mk := (pmk_x (ta := tNil) (p := p1) (pos := pos) Fb hC iC tI F1 hr hb0 hv0 pass0 hg hm hdb).2
      intro pp s σ H Q J hh
      obtain ⟨G, ρ, S, w, en, hh⟩ := hh
      rw [evs] at hh
      exact mk pp s σ H Q J (fin0 H Q (hh [] G H Ext.refl w (RepL.nil (K := X.K) (sa := sa) (G := G))))
  | cons e es =>
    cases xs with
    | nil => exact h.elim
    | cons y ys =>
      have hbn : L2.Binds X.K fd (psI x.f) [] := by
        cases hfl : x.fld with
        | none =>
          rw [hfl] at hv0
          cases hv0
          exact hb0
        | some p => exact hb1 (by unfold XD.f; rw [hfl]; simp)
      have mk := (pmk_x (ta := TXs X.K sa T F E (.cons y ys)) (p := p1) (pos := pos) Fb hC iC tI F1 hr hbn .nil pass0 hg hm hdb).1 e es (pa_of h) (plain_star h.1.1 es X.env) (all_plain X.env pos h.2)
      intro pp s σ H Q J hh
      refine mk pp s σ H Q J ?_
      obtain ⟨G, ρ, S, w, en, hh⟩ := hh
      refine ⟨G, ρ, S, w, en, ?_⟩
      cases qe : evs F (.cons y ys) ρ S with
      | stuck => rw [qe] at hh; exact hh.elim
      | err z S1 => rw [qe] at hh; exact hh
      | ok l S1 =>
        rw [qe] at hh
        intro vs G1 H1 e1 w1 r1
        have q := hh vs G1 H1 e1 w1 r1
        refine fin1 H1 vs Q q ?_
        obtain ⟨G', S', ds, fs, w', r, hx, _⟩ := q
        have r1 : RepL X.K sa G1 l vs := r1
        have hl : ds.length = ys.len + 1 := by rw [← r.length, r1.length, evs_len qe]; rfl
        cases ds with
        | nil => cases hl
        | cons d ds =>
          cases ds with
          | cons d2 ds => exact absurd hx (by simp [xdFs])
          | nil =>
            obtain ⟨v, rfl, _⟩ := repL1 r
            cases hfl : x.fld with
            | none => rw [xdFs, hfl] at hx; cases hx
            | some p => exact ⟨v, p.1, p.2, rfl, rfl⟩
/-! ### raise -/
theorem ss_rais {xds : List XD} {x : XD} {xs : Exs} {es : List Expr} (hc : X.calm = true) (tk : Takes X (fun cls d σ H => E σ cls d H)) (hx : xds.find? (fun y => decide (y.cls = x.cls)) = some x) (XF1 : XFact X x) (hr : Room 3 X.A) (hg : Gl X x.cls) (h : AllE X sa T F E xs es) :
    PS X (.Raise (some (.Call (.Name x.cls p1) es [] p2)) none pos) (TSx X.K sa T F (xfOf xds) g E G0 H0 (.rais x.cls xs)) :=
  (ps_raise hc tk (rais_make XF1 hr hg h)).imp fun Dn σ H h => by
    obtain ⟨G, μ, S, e0, w, so, h⟩ := h
    rw [ex] at h
    refine ⟨lendG σ μ (ments xs) G H, seen (ments xs) 0 μ, S, lend_wd so w, lend_env so, ?_⟩
    cases q : evs F xs (seen (ments xs) 0 μ) S with
    | stuck => rw [q] at h; exact h.elim
    | err y S1 =>
      rw [q] at h
      exact fun cls dd G' H' e' w' r => h cls dd σ G' H' (thaw2 so e0 e').1 w' (thaw2 so e0 e').2 r
    | ok ds S1 =>
      rw [q] at h
      have h : spost X.K sa T E G0 H0 (match (xfOf xds).flds x.cls ds with
        | some fs => .err ⟨x.cls, fs⟩ S1 (freeze (ments xs) 0 μ)
        | none => .stuck) Dn := h
      have hxf : (xfOf xds).flds x.cls ds = xdFs x ds := by
        show (xds.find? fun y => decide (y.cls = x.cls)).bind (fun x => xdFs x ds) = _
        rw [hx]; rfl
      rw [hxf] at h
      intro vs G1 H1 e1 w1 r1
      cases qf : xdFs x ds with
      | none => rw [qf] at h; exact h.elim
      | some fs =>
        rw [qf] at h
        obtain ⟨t1, t2⟩ := thaw2 so e0 e1
        refine ⟨G1, S1, ds, fs, w1, r1, qf, fun d H2 gs nd eH hgs => ?_⟩
        subst eH
        exact h _ (some d) σ G1 _ (t1.trans (Ext.newH nd)) (w1.newH nd) (t2.ext (Ext.newH nd)) ⟨d, gs, rfl, rfl, upd_same, hgs⟩
end
end DW

/-! DwHd: the clauses of a try; defs that get a lambda. -/
namespace DW
open PySem PySem.Spec PyProof.Rows L2 LamX
/-- what is known of the exception classes and of the classes that clauses name -/
structure XAll (X : Cx) (xds : List XD) (hcs fls : List Str) : Prop where
  rd : ∀ x ∈ xds, XfC X.K (He.ga X.K x.cls)
  noat : ∀ x ∈ xds, ∀ f ∈ fls, PySem.W.findIn X.K (.ref (He.ga X.K x.cls)) f = some none
  exm : ∀ x ∈ xds, ∀ h ∈ hcs, PySem.W.exmOne X.K (.ref (He.ga X.K x.cls)) (.ref (He.ga X.K h)) = some (decide (x.cls = h) || decide (x.base = h))
  mgh : ∀ h ∈ hcs, X.mg h = some (.ref (He.ga X.K h))
/-- the reading of a clause's suite -/
def tsH (K : PySem.W.Frag) (h : Hd) (a : Addr) (cls : Value) (d : Option Addr) : TS := fun Dn σ H => ∃ (dd C : Addr) (gs : List (Str × V)) (v : V), σ[h.e]? = some (some (.ref a)) ∧ cls = .ref C ∧ XfC K C ∧ PySem.W.findIn K (.ref C) h.x.f = some none ∧ d = some dd ∧ H dd = some (.xd gs) ∧ gs.lookup h.x.f = some v ∧
  match h.x with
  | .attr _ => Dn.nx (σ.set h.r (some v)) H
  | .pair x _ => ∀ p, H p = none → Dn.nx (σ.set h.r (some (.ref p))) (upd H p (.tup [.str x, v]))
def clOf (K : PySem.W.Frag) (h : Hd) : Cl := (.ref (He.ga K h.c), h.e, tsH K h)
section
variable {X : Cx} {Γ : Cn}
/-- the names of a context -/
structure Nok (Γ : Cn) (X : Cx) : Prop where
  N : X.N = Γ.N
  nd : X.N.Nodup
  sc : ∀ x, X.env.scope.names.lookup x = Γ.sc.lookup x
theorem loc_of (C : Nok Γ X) {i : Nat} {x : Str} (h : locB Γ i x = true) : X.N[i]? = some x ∧ X.env.scope.names.lookup x = some .local := by
  unfold locB at h
  rw [Bool.and_eq_true] at h
  exact ⟨by rw [C.N]; exact of_decide_eq_true h.1, by rw [C.sc]; exact of_decide_eq_true h.2⟩
theorem suite_ok (C : Nok Γ X) {h : Hd} {n y : Str} {py pos : Pos} {v : Expr} (hn : locB Γ h.e n = true) (hy : locB Γ h.r y = true) (nn : noName n = true) (hx : hxB n h.x v = true) (a : Addr) (oe : Obj) (cls : Value) (d : Option Addr) (pn : List (Addr × Obj)) (hz : Zc cls d oe) (hf : ∃ vs, oe.data = .fields vs) :
    PSs (X.suite a ((a, oe) :: pn)) [.Assign [.Name y py] v pos] (tsH X.K h a cls d) := by
  obtain ⟨n1, n2⟩ := loc_of C hn
  obtain ⟨y1, y2⟩ := loc_of C hy
  obtain ⟨d1, d2, _⟩ := noName_at nn
  refine ⟨fun pp s σ H Dn J want => ?_⟩
  obtain ⟨dd, Ca, gs, u, he, rfl, rd, na, hd, hdd, hl, go⟩ := want
  have pv : ∀ p, PE (X.suite a ((a, oe) :: pn)) (.Name n p) (tVar h.e) := fun p => pe_var n1 (.inl n2) d1 d2
  generalize qx : h.x = hx0 at hx na hl go
  unfold hxB at hx
  split at hx
  · rename_i f m pm g pa
    simp only [Bool.and_eq_true, decide_eq_true_eq] at hx
    obtain ⟨rfl, rfl⟩ := hx
    have st := pss_one (ps_set (X := X.suite a ((a, oe) :: pn)) (i := h.r) (pos' := py) (pos := pos) C.nd y1 (.inl y2) (pe_xf (pos := pa) rd na hz hf (pv pm) rfl) (by rfl) (.inr y2))
    exact st.run pp s σ H Dn J ⟨.ref a, he, rfl, rfl, dd, gs, u, hd, hdd, hl, go⟩
  · rename_i x f z j pc m pm g pa kk pt
    simp only [Bool.and_eq_true, decide_eq_true_eq] at hx
    obtain ⟨rfl, rfl, rfl⟩ := hx
    have st := pss_one (ps_set (X := X.suite a ((a, oe) :: pn)) (i := h.r) (pos' := py) (pos := pos) C.nd y1 (.inl y2) (pe_tup (x1 := kk) (pos := pt) (pa_cons (show PE (X.suite a ((a, oe) :: pn)) (.Constant (.str z) j pc) (tC (.str z)) from pe_str) (pa_cons (pe_xf (pos := pa) rd na hz hf (pv pm) rfl) pa_nil))) (by rfl) (.inr y2))
    refine st.run pp s σ H Dn J ⟨.ref a, he, rfl, rfl, dd, gs, u, hd, hdd, hl, ?_, fun p np => go p np⟩
    show 2 ≤ sizeLine
    rw [sizeLine_eq]; omega
  · cases hx
theorem hds_ok {xds : List XD} (C : Nok Γ X) (XA : XAll X xds Γ.hcs Γ.fls) : ∀ {hs : List Hd} {es : List ExceptHandler}, hdsB Γ hs es = true → ClsOk X es (hs.map (clOf X.K))
  | [], [], _ => .nil
  | [], _ :: _, h => by simp [hdsB] at h
  | _ :: _, [], h => by simp [hdsB] at h
  | h :: hs, e :: es, hh => by
    rw [hdsB, Bool.and_eq_true] at hh
    obtain ⟨h1, h2⟩ := hh
    unfold hdB at h1
    split at h1
    · rename_i x px n y py v ps pos
      simp only [Bool.and_eq_true, decide_eq_true_eq] at h1
      obtain ⟨rfl, g2, g3, g4, g5, g6, g7, g8, g9⟩ := h1
      have gl : Gl X h.c ∧ (h.c == ("__debug__" : Str)) = false := by
        unfold glB at g2
        split at g2
        · rename_i e
          exact ⟨by show X.env.scope.names.lookup h.c = _; rw [C.sc]; exact e, (noName_at g2).1⟩
        · cases g2
      obtain ⟨n1, n2⟩ := loc_of C g4
      exact .cons ⟨gl.1, gl.2, .inl (XA.mgh _ g3)⟩ n1 n2 (fun a oe cls d pn hz hf => suite_ok C g4 g5 g7 g9 a oe cls d pn hz hf) (hds_ok C XA h2)
    · cases h1
/-- which slots the clauses need to be apart -/
theorem hdsB_mem : ∀ {hs : List Hd} {es : List ExceptHandler}, hdsB Γ hs es = true → ∀ h ∈ hs, h.c ∈ Γ.hcs ∧ h.e ≠ h.r ∧ h.x.f ∈ Γ.fls ∧ h.e < Γ.N.length
  | [], _, _, h, hm => by cases hm
  | _ :: _, [], hh, _, _ => by simp [hdsB] at hh
  | h0 :: hs, e :: es, hh, h, hm => by
    rw [hdsB, Bool.and_eq_true] at hh
    obtain ⟨h1, h2⟩ := hh
    rcases List.mem_cons.mp hm with rfl | hm
    · unfold hdB at h1
      split at h1
      · simp only [Bool.and_eq_true, Bool.not_eq_true', decide_eq_true_eq, decide_eq_false_iff_not] at h1
        obtain ⟨rfl, g2, g3, g4, g5, g6, g7, g8, g9⟩ := h1
        unfold locB at g4
        rw [Bool.and_eq_true] at g4
        exact ⟨g3, g6, g8, (List.getElem?_eq_some_iff.mp (of_decide_eq_true g4.1)).1⟩
      · cases h1
    · exact hdsB_mem h2 h hm
/-- the clauses take what pick takes -/
theorem wCls_pick {xds : List XD} {c : Str} {cls : Value} {dd : Option Addr} {Wout : WX} {Dn : Ends} {σ : L2.St} {H : Hp} (XA : XAll X xds Γ.hcs Γ.fls) (ec : cls = .ref (He.ga X.K c)) : ∀ {hs : List Hd} {r : Option Hd}, (∀ h ∈ hs, h.c ∈ Γ.hcs) → pick (xfOf xds).sub c hs = some r →
    (∀ h ∈ hs, r = some h → ∀ a, H a = none → tsH X.K h a cls dd { nx := fun σ' H' => Dn.nx (σ'.set h.e none) H', rt := Dn.rt, bk := fun σ' H' => Dn.bk (σ'.set h.e none) H', ct := fun σ' H' => Dn.ct (σ'.set h.e none) H' } (σ.set h.e (some (.ref a))) H) →
    (r = none → Wout cls dd σ H) → wCls X.K Wout Dn (hs.map (clOf X.K)) cls dd σ H
  | [], r, _, hp, _, h2 => h2 (by cases hp; rfl)
  | h :: hs, r, hm, hp, h1, h2 => by
    rw [pick] at hp
    have sb : (xfOf xds).sub c h.c = (xds.find? fun x => decide (x.cls = c)).map fun x => decide (x.cls = h.c) || decide (x.base = h.c) := rfl
    cases q : xds.find? fun x => decide (x.cls = c) with
    | none => rw [sb, q] at hp; cases hp
    | some x =>
      rw [sb, q] at hp
      have hc : x.cls = c := by simpa using List.find?_some q
      have hm1 := List.mem_of_find?_eq_some q
      have ex := XA.exm x hm1 h.c (hm h (List.mem_cons_self ..))
      rw [hc, ← ec] at ex
      refine ⟨_, ex, fun hb a na => ?_, fun hb => ?_⟩
      · rw [Option.map_some, hc, hb] at hp
        cases hp
        exact h1 h (List.mem_cons_self ..) rfl a na
      · rw [Option.map_some, hc, hb] at hp
        exact wCls_pick XA ec (fun h' z => hm h' (List.mem_cons_of_mem _ z)) hp (fun h' z => h1 h' (List.mem_cons_of_mem _ z)) h2
theorem pick_known {xds : List XD} {c : Str} : ∀ {hs : List Hd} {h : Hd}, pick (xfOf xds).sub c hs = some (some h) → h ∈ hs ∧ ∃ x ∈ xds, x.cls = c
  | [], h, hp => by cases hp
  | h0 :: hs, h, hp => by
    rw [pick] at hp
    have sb : (xfOf xds).sub c h0.c = (xds.find? fun x => decide (x.cls = c)).map fun x => decide (x.cls = h0.c) || decide (x.base = h0.c) := rfl
    cases q : xds.find? fun x => decide (x.cls = c) with
    | none => rw [sb, q] at hp; cases hp
    | some x =>
      have hc : x.cls = c := by simpa using List.find?_some q
      have hm1 := List.mem_of_find?_eq_some q
      rw [sb, q, Option.map_some] at hp
      cases qb : (decide (x.cls = h0.c) || decide (x.base = h0.c)) with
      | true => rw [qb] at hp; cases hp; exact ⟨List.mem_cons_self .., x, hm1, hc⟩
      | false => rw [qb] at hp; exact ⟨List.mem_cons_of_mem _ (pick_known hp).1, x, hm1, hc⟩
/-- the suite of the clause that takes it -/
theorem tsH_run {xds : List XD} {sa : SA} {x : Exc} {cls : Value} {dd : Option Addr} {G H : Hp} {h : Hd} {d : D} {σ : L2.St} {Dn : Ends} {a : Addr} (XA : XAll X xds Γ.hcs Γ.fls) (xa : ExcAt X.K sa x cls dd G H) (hk : ∃ y ∈ xds, y.cls = x.cls) (hf : h.x.f ∈ Γ.fls) (hv : h.x.val x.fs = some d) (he : σ[h.e]? = some (some (.ref a)))
    (go : match h.x with
      | .attr _ => ∀ v, Rep X.K sa G d v → Dn.nx (σ.set h.r (some v)) H
      | .pair z _ => ∀ p v d0, d = .tup [.str z, d0] → Rep X.K sa G d0 v → H p = none → Dn.nx (σ.set h.r (some (.ref p))) (upd H p (.tup [.str z, v]))) : tsH X.K h a cls dd Dn σ H := by
  obtain ⟨y, hy, ey⟩ := hk
  obtain ⟨da, gs, ec, ed, hd, hgs⟩ := xa
  have look : ∀ {l : List (Str × D)} {f : Str} {d : D}, getK l f = some d → (f, d) ∈ l := fun {l f d} q => by
    unfold getK at q
    obtain ⟨p, e1, e2⟩ := Option.map_eq_some_iff.mp q
    have z := List.find?_some e1
    have m := List.mem_of_find?_eq_some e1
    obtain ⟨p1, p2⟩ := p
    simp only [decide_eq_true_eq] at z
    subst z
    cases e2
    exact m
  cases qx : h.x with
  | attr f =>
    rw [qx] at hv hf go
    have hv : getK x.fs f = some d := hv
    obtain ⟨v, e1, e2⟩ := hgs _ (look hv)
    refine ⟨da, He.ga X.K x.cls, gs, v, he, ec, by rw [← ey]; exact XA.rd y hy, ?_, ed, hd, ?_, ?_⟩
    · rw [qx, ← ey]; exact XA.noat y hy _ hf
    · rw [qx]; exact e1
    · rw [qx]; exact go v e2
  | pair z f =>
    rw [qx] at hv hf go
    have hv : (getK x.fs f).map (fun d => D.tup [.str z, d]) = some d := hv
    obtain ⟨d0, q0, rfl⟩ := Option.map_eq_some_iff.mp hv
    obtain ⟨v, e1, e2⟩ := hgs _ (look q0)
    refine ⟨da, He.ga X.K x.cls, gs, v, he, ec, by rw [← ey]; exact XA.rd y hy, ?_, ed, hd, ?_, ?_⟩
    · rw [qx, ← ey]; exact XA.noat y hy _ hf
    · rw [qx]; exact e1
    · rw [qx]; exact fun p np => go p v d0 rfl e2 np
end
end DW

/-! DwOutS: a def that gets a lambda, by its shape. -/
namespace DW
open PySem PySem.Spec PyProof.Rows L2 LamX
def actB (Γ : Cn) (a : Str) : Option Nat → Stmt → Bool
  | some r, .Assign [.Name y _] (.Call (.Name b _) [] [] _) _ => decide (b = a) && (locB Γ r y && !decide (r = 0))
  | none, .Expr (.Call (.Name b _) [] [] _) _ => decide (b = a)
  | _, _ => false
def namesB (Γ : Cn) : List Nat → List Expr → Bool
  | [], [] => true
  | i :: is, .Name y _ :: es => decide (Γ.N[i]? = some y) && (visB Γ.sc y && (noName y && namesB Γ is es))
  | _, _ => false
def retB (Γ : Cn) (o : OutS) (e : Expr) : Bool := match o.tup, e with
  | true, .Tuple es _ _ => namesB Γ o.ret es && decide (es.length ≤ 1000)
  | false, e => namesB Γ o.ret [e]
  | _, _ => false
def outsB (Γ : Cn) (a : Str) (o : OutS) : List (Nat × Lit) → List Stmt → Bool
  | (i, l) :: r, .Assign [.Name y _] (.Constant c _ _) _ :: rest => locB Γ i y && (!decide (i = 0) && (litB l c && outsB Γ a o r rest))
  | [], [.Try [st] hds [] [] _, .Return (some e) _] => actB Γ a o.res st && (hdsB Γ o.hs hds && (decide (0 < o.hs.length) && ((o.hs.all fun h => !decide (h.e = 0) && !decide (h.r = 0)) && retB Γ o e)))
  | _, _ => false
def initS : List (Nat × Lit) → L2.St → L2.St
  | [], σ => σ
  | (i, l) :: r, σ => initS r (σ.set i (some l.v))
def getV : List Nat → L2.St → Option (List V)
  | [], _ => some []
  | i :: is, σ => (match σ[i]? with
    | some (some v) => (getV is σ).map (v :: ·)
    | _ => none)
section
variable {X : Cx} {Γ : Cn}
theorem vis_N (C : Nok Γ X) {x : Str} (h : visB Γ.sc x = true) : Vis X.env.scope x := by
  unfold visB at h
  unfold Vis
  rw [C.sc]
  split at h
  · exact .inl (by assumption)
  · exact .inr (.inl (by assumption))
  · exact .inr (.inr (by assumption))
  · cases h
theorem names_pa (C : Nok Γ X) : ∀ {is : List Nat} {es : List Expr}, namesB Γ is es = true → PA X es (fun σ H Q => ∃ vs, getV is σ = some vs ∧ Q vs H)
  | [], [], _ => pa_nil.imp fun σ H Q ⟨vs, e, q⟩ => by cases e; exact q
  | [], _ :: _, h => by simp [namesB] at h
  | _ :: _, [], h => by simp [namesB] at h
  | i :: is, e :: es, h => by
    unfold namesB at h
    split at h
    · rename_i heq; cases heq
    · rename_i i' is' y p es' e1 e2
      cases e1; cases e2
      simp only [Bool.and_eq_true, decide_eq_true_eq] at h
      obtain ⟨h1, h2, h3, h4⟩ := h
      obtain ⟨d1, d2, _⟩ := noName_at h3
      refine (pa_cons (pe_var (i := i) (by rw [C.N]; exact h1) (vis_N C h2) d1 d2) (names_pa C h4)).imp fun σ H Q ⟨vs, e, q⟩ => ?_
      rw [getV] at e
      cases qi : σ[i]? with
      | none => rw [qi] at e; cases e
      | some ov =>
        rw [qi] at e
        cases ov with
        | none => cases e
        | some v =>
          obtain ⟨ws, e2, rfl⟩ := Option.map_eq_some_iff.mp e
          exact ⟨v, qi, ws, e2, q⟩
    · cases h
/-- return names -/
def tRetO (o : OutS) : TS := fun Dn σ H => ∃ vs, getV o.ret σ = some vs ∧ (if o.tup = true then vs.length ≤ sizeLine ∧ ∀ p, H p = none → Dn.rt (.ref p) (upd H p (.tup vs)) else ∃ v, vs = [v] ∧ Dn.rt v H)
theorem ret_ps (C : Nok Γ X) {o : OutS} {e : Expr} {pos : Pos} (h : retB Γ o e = true) : PS X (.Return (some e) pos) (tRetO o) := by
  unfold retB at h
  split at h
  · rename_i es k p ht
    rw [Bool.and_eq_true] at h
    refine (ps_ret (pe_tup (x1 := k) (pos := p) (names_pa C h.1))).imp fun Dn σ H ⟨vs, e1, e2⟩ => ?_
    rw [if_pos ht] at e2
    exact ⟨vs, e1, e2⟩
  · rename_i ht
    have hr : ∃ i, o.ret = [i] := by
      revert h
      cases o.ret with
      | nil => intro h; simp [namesB] at h
      | cons i is =>
        cases is with
        | nil => exact fun _ => ⟨i, rfl⟩
        | cons j js =>
          intro h
          unfold namesB at h
          split at h
          · rename_i heq; cases heq
          · rename_i e1 e2
            cases e1; cases e2
            simp [namesB] at h
          · cases h
    obtain ⟨i, hr⟩ := hr
    rw [hr] at h
    unfold namesB at h
    split at h
    · rename_i heq; cases heq
    · rename_i i' is' y p es' e1 e2
      cases e1; cases e2
      simp only [Bool.and_eq_true, decide_eq_true_eq] at h
      obtain ⟨h1, h2, h3, h4⟩ := h
      obtain ⟨d1, d2, _⟩ := noName_at h3
      refine (ps_ret (pe_var (i := i) (by rw [C.N]; exact h1) (vis_N C h2) d1 d2)).imp fun Dn σ H ⟨vs, e1, e2⟩ => ?_
      rw [if_neg (by rw [ht]; decide)] at e2
      obtain ⟨v, rfl, q⟩ := e2
      rw [hr, getV] at e1
      cases qi : σ[i]? with
      | none => rw [qi] at e1; cases e1
      | some ov =>
        rw [qi] at e1
        cases ov with
        | none => cases e1
        | some w =>
          obtain ⟨ws, e3, e4⟩ := Option.map_eq_some_iff.mp e1
          cases e4
          exact ⟨v, qi, q⟩
    · cases h
  · cases h
/-- x = a(), a() -/
def tActO (t : TE) : Option Nat → TS
  | some r => fun Dn σ H => t σ H fun v H1 => Dn.nx (σ.set r (some v)) H1
  | none => fun Dn σ H => t σ H fun _ H1 => Dn.nx σ H1
theorem act_ps (C : Nok Γ X) {a : Str} {res : Option Nat} {st : Stmt} {t : TE} (h : actB Γ a res st = true) (ha : ∀ p1 p2, PE X (.Call (.Name a p1) [] [] p2) t) : PSs X [st] (tActO t res) := by
  unfold actB at h
  split at h
  · rename_i r y py b pb pc ps
    simp only [Bool.and_eq_true, decide_eq_true_eq] at h
    obtain ⟨rfl, h2, h3⟩ := h
    obtain ⟨l1, l2⟩ := loc_of C h2
    exact pss_one (ps_set C.nd l1 (.inl l2) (ha _ _) (by rfl) (.inr l2))
  · rename_i b pb pc ps
    obtain rfl := of_decide_eq_true h
    exact pss_one (ps_expr (ha _ _) (by rfl))
  · cases h
theorem lit_pe {l : Lit} {c : Const} {j : Nat} {pos : Pos} (h : litB l c = true) : PE X (.Constant c j pos) (tC l.v) := by
  cases l <;> cases c <;> first | (cases h; done) | skip
  · exact pe_non
  · obtain rfl := eq_of_beq h
    exact pe_bl
  · obtain rfl := of_decide_eq_true h
    exact pe_int
  · obtain rfl := of_decide_eq_true h
    exact pe_str
theorem outs_ps {xds : List XD} {a : Str} {o : OutS} {t : WX → TE} {Wout : WX} (C : Nok Γ X) (XA : XAll X xds Γ.hcs Γ.fls) (hs : X.stack = X.env :: X.outer) (hf : X.env.frame = some X.env.locals) (tk : Takes X Wout)
    (ha : ∀ (W : WX) (pn : List (Addr × Obj)) (xe : Value → Shared → Prop) (p1 p2 : Pos), Takes (X.tr pn xe) W → PE (X.tr pn xe) (.Call (.Name a p1) [] [] p2) (t W)) :
    ∀ {ins : List (Nat × Lit)} {body : List Stmt}, outsB Γ a o ins body = true → (∀ h ∈ o.hs, h.c ∈ Γ.hcs ∧ h.e ≠ h.r ∧ h.x.f ∈ Γ.fls ∧ h.e < Γ.N.length) ∧ PSs X body (fun Dn σ H => tActO (t (wCls X.K Wout { Dn with nx := fun σ' H' => tRetO o Dn σ' H' } (o.hs.map (clOf X.K)))) o.res { Dn with nx := fun σ' H' => tRetO o Dn σ' H' } (initS ins σ) H)
  | [], body, h => by
    unfold outsB at h
    split at h
    · rename_i heq; cases heq
    · rename_i st hds p1 e p2 _
      simp only [Bool.and_eq_true, decide_eq_true_eq] at h
      obtain ⟨h1, h2, h3, h4, h5⟩ := h
      refine ⟨hdsB_mem h2, ?_⟩
      have CO := hds_ok C XA h2
      cases hds with
      | nil =>
        cases qh : o.hs with
        | nil => rw [qh] at h3; cases h3
        | cons x xs => rw [qh] at h2; simp [hdsB] at h2
      | cons h0 hds =>
        exact pss_cons (ps_tryx hs hf C.nd tk (tb := fun W => tActO (t W) o.res) (fun W pn xe tk _ => act_ps (X := X.tr pn xe) ⟨C.N, C.nd, C.sc⟩ h1 fun q1 q2 => ha W pn xe q1 q2 tk) CO) (pss_one (ret_ps C h5))
    · cases h
  | (i, l) :: ins, body, h => by
    unfold outsB at h
    split at h
    · rename_i i' l' r y py c j pc ps rest heq
      cases heq
      simp only [Bool.and_eq_true, decide_eq_true_eq] at h
      obtain ⟨h1, h2, h3, h4⟩ := h
      obtain ⟨l1, l2⟩ := loc_of C h1
      obtain ⟨g1, g2⟩ := outs_ps C XA hs hf tk ha h4
      exact ⟨g1, (pss_cons (ps_set C.nd l1 (.inl l2) (lit_pe h3) (by rfl) (.inr l2)) g2)⟩
    · rename_i heq; cases heq
    · cases h
theorem init_get {i : Nat} : ∀ {ins : List (Nat × Lit)} {σ : L2.St}, (∀ p ∈ ins, p.1 ≠ i) → (initS ins σ)[i]? = σ[i]?
  | [], _, _ => rfl
  | (j, l) :: ins, σ, h => by
    rw [initS, init_get fun p hp => h p (List.mem_cons_of_mem _ hp), List.getElem?_set_ne (h _ (List.mem_cons_self ..))]
theorem outsB_ne {a : Str} {o : OutS} : ∀ {ins : List (Nat × Lit)} {body : List Stmt}, outsB Γ a o ins body = true → (∀ p ∈ ins, p.1 ≠ 0) ∧ (o.hs.all fun h => !decide (h.e = 0) && !decide (h.r = 0)) = true
  | [], body, h => by
    unfold outsB at h
    split at h
    · rename_i heq; cases heq
    · simp only [Bool.and_eq_true, decide_eq_true_eq] at h
      refine ⟨fun p hp => ?_, h.2.2.2.1⟩
      cases hp
    · cases h
  | (i, l) :: ins, body, h => by
    unfold outsB at h
    split at h
    · rename_i heq
      cases heq
      simp only [Bool.and_eq_true, Bool.not_eq_true', decide_eq_false_iff_not] at h
      obtain ⟨g1, g2⟩ := outsB_ne h.2.2.2
      exact ⟨fun p hp => (List.mem_cons.mp hp).elim (fun z => by rw [z]; exact h.2.1) (g1 p), g2⟩
    · rename_i heq; cases heq
    · cases h
theorem init_env {K : PySem.W.Frag} {sa : SA} {G : Hp} : ∀ {ins : List (Nat × Lit)} {σ : L2.St} {ρ : Rho}, EnvOk K sa G σ ρ → EnvOk K sa G (initS ins σ) (initR ins ρ)
  | [], _, _, h => h
  | (j, l) :: ins, σ, ρ, h => init_env (ins := ins) (h.set j (l.rep K sa G))
theorem getAll_rep {K : PySem.W.Frag} {sa : SA} {G : Hp} {σ : L2.St} {ρ : Rho} (en : EnvOk K sa G σ ρ) : ∀ {is : List Nat} {ds : List D}, getAll is ρ = some ds → ∃ vs, getV is σ = some vs ∧ RepL K sa G ds vs
  | [], ds, e => by cases e; exact ⟨[], rfl, RepL.nil⟩
  | i :: is, ds, e => by
    rw [getAll] at e
    cases q : ρ[i]? with
    | none => rw [q] at e; cases e
    | some od =>
      rw [q] at e
      cases od with
      | none => cases e
      | some d =>
        obtain ⟨l, e2, rfl⟩ := Option.map_eq_some_iff.mp e
        obtain ⟨v, e3, r⟩ := en.get i d q
        obtain ⟨vs, e4, r2⟩ := getAll_rep en e2
        exact ⟨v :: vs, by rw [getV, e3, e4]; rfl, RepL.cons r r2⟩
/-- the names handed back -/
theorem outEnd_run {K : PySem.W.Frag} {sa : SA} {T : List (Addr × Str)} {E : XK} {G H : Hp} {S : Src} {σ : L2.St} {ρ : Rho} {o : OutS} {Q : VK} {Dn : Ends} (w : Wd K sa T G H S) (en : EnvOk K sa G σ ρ) (h : post T E (rlV K sa) (outEnd o ρ S) G H Q) (hz : o.ret.length ≤ 1000) (hq : Dn.rt = Q) : tRetO o Dn σ H := by
  subst hq
  unfold outEnd at h
  cases q : getAll o.ret ρ with
  | none => rw [q] at h; exact h.elim
  | some ds =>
    rw [q] at h
    obtain ⟨vs, e1, r⟩ := getAll_rep en q
    have ln : ∀ {is : List Nat} {vs : List V}, getV is σ = some vs → vs.length = is.length := by
      intro is
      induction is with
      | nil => intro vs e; cases e; rfl
      | cons i is ih =>
        intro vs e
        rw [getV] at e
        cases qi : σ[i]? with
        | none => rw [qi] at e; cases e
        | some ov =>
          rw [qi] at e
          cases ov with
          | none => cases e
          | some v =>
            obtain ⟨l, e2, rfl⟩ := Option.map_eq_some_iff.mp e
            rw [List.length_cons, List.length_cons, ih e2]
    refine ⟨vs, e1, ?_⟩
    cases ht : o.tup with
    | true =>
      simp only [ht, if_true] at h ⊢
      have lz : ds.length ≤ lim := by rw [← r.length, ln e1]; unfold lim; omega
      exact ⟨by rw [ln e1, sizeLine_eq]; omega, fun p np => post.newT h w lz r np⟩
    | false =>
      simp only [ht, Bool.false_eq_true, if_false] at h ⊢
      cases ds with
      | nil => exact h.elim
      | cons d ds =>
        cases ds with
        | cons d2 ds => exact h.elim
        | nil =>
          obtain ⟨v, rfl, rv⟩ := repL1 r
          exact ⟨v, rfl, post.here h w rv⟩
theorem EnvOk.forget {K : PySem.W.Frag} {sa : SA} {G : Hp} {σ : L2.St} {ρ : Rho} (h : EnvOk K sa G σ ρ) (i : Nat) (x : Option V) : EnvOk K sa G (σ.set i x) (ρ.set i none) := ⟨by rw [List.length_set, List.length_set]; exact h.len, fun j d e => by
  rcases set_get e with ⟨_, z, _⟩ | ⟨ne, e⟩
  · cases z
  · obtain ⟨v, e1, r⟩ := h.get j d e
    exact ⟨v, by rw [List.getElem?_set_ne ne]; exact e1, r⟩⟩
theorem set_about {α : Type} {l : List α} {i j : Nat} {x y z : α} (h : i ≠ j) : ((l.set i x).set j y).set i z = (l.set j y).set i z := by
  rw [List.set_comm _ _ h, List.set_set]
theorem init_len : ∀ {ins : List (Nat × Lit)} {σ : L2.St}, (initS ins σ).length = σ.length
  | [], _ => rfl
  | (j, l) :: ins, σ => by rw [initS, init_len, List.length_set]
theorem gives_out {xds : List XD} {x a : Str} {o : OutS} {sg : Scope} {g : Addr} {cdg : Value} {bg : List Stmt} {q : Str} {sa : SA} {T : List (Addr × Str)} (hsc : Γ.sc = sg.names) (S : FnScope Γ.N [a] sg) (hns : o.ns = Γ.N.length) (hz : o.ret.length ≤ 1000)
    (XA : XAll X xds Γ.hcs Γ.fls) (h : outsB Γ a o o.inits bg = true) : Gives X Γ.N x sg g cdg bg a q (TTo X.K sa T (xfOf xds) o) := by
  intro f c' s H Q tl act hc want
  obtain ⟨G, S0, c, E, w, htl, hpost⟩ := want
  have C : Nok Γ (cxOf CX0 X.prog X.w X.K X.mg X.base Γ.N x sg g cdg X.A X.stack s H E0).nox := ⟨rfl, S.nd, fun y => by rw [hsc]; rfl⟩
  have XA' : XAll (cxOf CX0 X.prog X.w X.K X.mg X.base Γ.N x sg g cdg X.A X.stack s H E0).nox xds Γ.hcs Γ.fls := ⟨XA.rd, XA.noat, XA.exm, XA.mgh⟩
  obtain ⟨hm, ps⟩ := outs_ps (o := o) (t := fun W σZ HZ Q => σZ[0]? = some (some (.ref f)) ∧ HZ c' = some (CodeO c' q) ∧ ∃ E : XK, (∀ cls d H', E cls d H' → W cls d σZ H') ∧ tl E HZ Q) (Wout := fun _ _ _ _ => False) C XA' rfl rfl takes0 (fun W pn xe p1 p2 tk => act W pn xe p1 p2 tk) h
  refine ⟨_, ps, ?_⟩
  obtain ⟨ne0, _⟩ := outsB_ne h
  have hpre : Γ.N.take 1 = [a] := S.pre
  have lenN : 0 < Γ.N.length := by
    cases qn : Γ.N with
    | nil => rw [qn] at hpre; cases hpre
    | cons _ _ => simp
  have lenS : (L2.start Γ.N [V.ref f]).length = Γ.N.length := by
    unfold L2.start
    rw [List.length_append, List.length_map, List.length_replicate, List.length_cons, List.length_nil]
    omega
  have s0 : (initS o.inits (L2.start Γ.N [V.ref f]))[0]? = some (some (.ref f)) := by
    rw [init_get ne0]; rfl
  have en : EnvOk X.K sa G (initS o.inits (L2.start Γ.N [V.ref f])) (initR o.inits (List.replicate o.ns none)) := init_env ⟨by rw [List.length_replicate, lenS, hns]; exact Nat.le_refl _, fun i d e => by
    rw [List.getElem?_replicate] at e
    split at e <;> cases e⟩
  generalize hσ : initS o.inits (L2.start Γ.N [V.ref f]) = σ1 at s0 en
  generalize hρ : initR o.inits (List.replicate o.ns none) = ρ1 at en
  have lenσ : σ1.length = Γ.N.length := by rw [← hσ, init_len, lenS]
  unfold outRun at hpost
  rw [hρ] at hpost
  have key : ∀ Q1 : VK, (∀ v G' H' p S1, Ext sa G H G' H' → Wd X.K sa T G' H' S1 → Rep X.K sa G' p v → post T E (rlV X.K sa) (outEnd o (setO o.res p ρ1) S1) G' H' Q → Q1 v H') →
      σ1[0]? = some (some (.ref f)) ∧ H c' = some (CodeO c' q) ∧ ∃ E' : XK, (∀ cls d H', E' cls d H' → wCls X.K (fun _ _ _ _ => False) { nx := fun σ' H' => tRetO o { nx := fun _ H' => Q .non H', rt := Q } σ' H', rt := Q } (o.hs.map (clOf X.K)) cls d σ1 H') ∧ tl E' H Q1 := fun Q1 hQ1 => by
    refine ⟨s0, hc, fun cls d H' => _, fun _ _ _ z => z, htl _ G H S0 Q1 (Sub.refl _) w ?_⟩
    cases qc : c S0 with
    | stuck => rw [qc] at hpost; exact hpost.elim
    | ok p S1 =>
      rw [qc] at hpost
      intro v G' H' e w' ro
      obtain ⟨G2, _, e2, w2, rep⟩ := frozen w e w' ro
      exact hQ1 v G2 H' p.2 S1 e2 w2 rep (post.ext hpost e2)
    | err y S1 =>
      rw [qc] at hpost
      have hpost : post T E (rlV X.K sa) (outErr (xfOf xds).sub o y S1 ρ1) G H Q := hpost
      intro cls dd G' H' e w' xa
      unfold outErr at hpost
      cases qp : pick (xfOf xds).sub y.cls o.hs with
      | none => rw [qp] at hpost; exact hpost.elim
      | some r =>
        rw [qp] at hpost
        cases r with
        | none => exact hpost.elim
        | some hd =>
          simp only at hpost
          cases qv : hd.x.val y.fs with
          | none => rw [qv] at hpost; exact hpost.elim
          | some d =>
            rw [qv] at hpost
            have hp : post T E (rlV X.K sa) (outEnd o ((ρ1.set hd.r (some d)).set hd.e none) S1) G' H' Q := post.ext hpost e
            obtain ⟨mem, known⟩ := pick_known qp
            obtain ⟨_, ner, hfl, hlt⟩ := hm hd mem
            have ec : cls = .ref (He.ga X.K y.cls) := by obtain ⟨_, _, z, _⟩ := xa; exact z
            refine wCls_pick (Γ := Γ) XA ec (fun h' hh' => (hm h' hh').1) qp (fun h' hh' er a' na => ?_) fun z => by cases z
            cases er
            refine tsH_run (Γ := Γ) XA xa known hfl qv (by rw [List.getElem?_set_self (by rw [lenσ]; exact hlt)]) ?_
            have en1 := (en.sub e.g).forget hd.e (some (V.ref a'))
            cases qx : hd.x with
            | attr fl =>
              intro v rv
              have en2 := (en1.set hd.r rv).forget hd.e none
              rw [set_about (l := ρ1) ner] at en2
              exact outEnd_run w' en2 hp hz rfl
            | pair z fl =>
              intro p v d0 ed rv np
              subst ed
              have w2 := w'.new (u := .tup [.str z, v]) np trivial
              have e2 := Ext.new (u := .tup [.str z, v]) w' np
              have rt : Rep X.K sa (upd G' p (.tup [.str z, v])) (.tup [.str z, d0]) (.ref p) := by
                rw [Rep]
                refine ⟨by unfold lim; simp, p, [.str z, v], rfl, .inl (.inl upd_same), RepL.cons (by rw [Rep]) (RepL.cons (Rep.sub e2.g _ _ rv) RepL.nil)⟩
              have en2 := ((en1.sub e2.g).set hd.r rt).forget hd.e none
              rw [set_about (l := ρ1) ner] at en2
              exact outEnd_run w2 en2 (post.ext hp e2) hz rfl
  cases qr : o.res with
  | some r =>
    rw [qr] at key
    refine key _ fun v G' H' p S1 e w' rep hp => ?_
    exact outEnd_run w' ((en.sub e.g).set r rep) hp hz rfl
  | none =>
    rw [qr] at key
    refine key _ fun v G' H' p S1 e w' rep hp => ?_
    exact outEnd_run w' (en.sub e.g) hp hz rfl
end
end DW

/-! DwSS: every statement that is checked keeps its reading. -/
namespace DW
open PySem PySem.Spec PyProof.Rows L2
theorem StOk.forget {K : PySem.W.Frag} {sa : SA} {H0 G H : Hp} {σ : L2.St} {μ : Mem} (so : StOk K sa H0 G H σ μ) (i : Nat) (x : Option V) : StOk K sa H0 G H (σ.set i x) (μ.set i none) := by
  refine ⟨by rw [List.length_set, List.length_set]; exact so.len, fun j d e => ?_, fun j d e => ?_, fun j l d d' hjl e1 e2 => ?_⟩
  · rcases set_get e with ⟨_, z, _⟩ | ⟨ne, e⟩
    · cases z
    · obtain ⟨v, e1, r⟩ := so.frz j d e
      exact ⟨v, by rw [List.getElem?_set_ne ne]; exact e1, r⟩
  · rcases set_get e with ⟨_, z, _⟩ | ⟨ne, e⟩
    · cases z
    · obtain ⟨v, e1, r⟩ := so.own j d e
      exact ⟨v, by rw [List.getElem?_set_ne ne]; exact e1, r⟩
  · rcases set_get e1 with ⟨_, z, _⟩ | ⟨n1, e1⟩
    · cases z
    · rcases set_get e2 with ⟨_, z, _⟩ | ⟨n2, e2⟩
      · cases z
      · rw [List.getElem?_set_ne n1, List.getElem?_set_ne n2]
        exact so.apart j l d d' hjl e1 e2
section
variable {X : Cx} {Γ : Cn} {sa : SA} {T : List (Addr × Str)} {F : FT} {g : Nat} {E : XS} {G0 H0 : Hp} {pos : Pos}
theorem ss_try {xds : List XD} {body : Sms} {hs : List Hd} {sb : List Stmt} {h0 : ExceptHandler} {hds : List ExceptHandler} (nd : X.N.Nodup) (XA : XAll X xds Γ.hcs Γ.fls) (hst : X.stack = X.env :: X.outer) (hf : X.env.frame = some X.env.locals) (tk : Takes X (fun cls d σ H => E σ cls d H))
    (hm : ∀ h ∈ hs, h.c ∈ Γ.hcs ∧ h.e ≠ h.r ∧ h.x.f ∈ Γ.fls ∧ h.e < Γ.N.length) (CO : ClsOk X (h0 :: hds) (hs.map (clOf X.K)))
    (hb : ∀ (W : WX) (pn : List (Addr × Obj)) (xe : Value → Shared → Prop), Takes (X.tr pn xe) W → PassesOwn (model X.prog X.w) X.A X.env xe → PSs (X.tr pn xe) sb (TSs X.K sa T F (xfOf xds) g (fun σ cls d H => W cls d σ H) G0 H0 body)) :
    PS X (.Try sb (h0 :: hds) [] [] pos) (TSx X.K sa T F (xfOf xds) g E G0 H0 (.tryx body hs)) := by
  refine ⟨fun pp s σ H Dn J want => (ps_tryx hst hf nd tk (tb := fun W => TSs X.K sa T F (xfOf xds) g (fun σ cls d H => W cls d σ H) G0 H0 body) hb CO (pos := pos)).run pp s σ H Dn J ?_⟩
  obtain ⟨G, μ, S, e0, w, so, h⟩ := want
  rw [ex] at h
  refine ⟨G, μ, S, e0, w, so, ?_⟩
  cases qr : exs F (xfOf xds) g body μ S with
  | nxt μ1 S1 => rw [qr] at h; exact h
  | ret p S1 => rw [qr] at h; exact h
  | brk μ1 S1 => rw [qr] at h; exact h
  | cnt μ1 S1 => rw [qr] at h; exact h
  | stuck => rw [qr] at h; exact h
  | err x S1 μ1 =>
    rw [qr] at h
    have h : spost X.K sa T E G0 H0 (tryGo (xfOf xds).sub x S1 μ1 hs) Dn := h
    intro cls dd σ' G' H' e' w' so' xa
    show wCls X.K (fun cls d σ H => E σ cls d H) Dn (hs.map (clOf X.K)) cls dd σ' H'
    have ec : cls = .ref (He.ga X.K x.cls) := by obtain ⟨_, _, z, _⟩ := xa; exact z
    unfold tryGo at h
    cases qp : pick (xfOf xds).sub x.cls hs with
    | none => rw [qp] at h; exact h.elim
    | some r =>
      rw [qp] at h
      refine wCls_pick (Γ := Γ) XA ec (fun h' hh' => (hm h' hh').1) qp (fun hd hh' er a na => ?_) fun er => ?_
      · cases er
        simp only at h
        cases qv : hd.x.val x.fs with
        | none => rw [qv] at h; exact h.elim
        | some d =>
          rw [qv] at h
          have h : spost X.K sa T E G0 H0 (if hd.e < μ1.length then .nxt ((μ1.set hd.r (some (false, d))).set hd.e none) S1 else .stuck) Dn := h
          obtain ⟨mem, known⟩ := pick_known qp
          obtain ⟨_, ner, hfl, _⟩ := hm hd mem
          by_cases hlt : hd.e < μ1.length
          case neg => rw [if_neg hlt] at h; exact h.elim
          rw [if_pos hlt] at h
          have lt' : hd.e < σ'.length := Nat.lt_of_lt_of_le hlt so'.len
          refine tsH_run (Γ := Γ) XA xa known hfl qv (by rw [List.getElem?_set_self lt']) ?_
          have so1 := so'.forget hd.e (some (V.ref a))
          cases qx : hd.x with
          | attr fl =>
            intro v rv
            have so2 := (StOk.setF (i := hd.r) so1 rv).forget hd.e none
            rw [set_about (l := μ1) ner] at so2
            exact h _ G' H' e' w' so2
          | pair z fl =>
            intro p v d0 ed rv np
            subst ed
            have w2 := w'.new (u := .tup [.str z, v]) np trivial
            have e2 := Ext.new (u := .tup [.str z, v]) w' np
            have rt : Rep X.K sa (upd G' p (.tup [.str z, v])) (.tup [.str z, d0]) (.ref p) := by
              rw [Rep]
              refine ⟨by unfold lim; simp, p, [.str z, v], rfl, .inl (.inl upd_same), RepL.cons (by rw [Rep]) (RepL.cons (Rep.sub e2.g _ _ rv) RepL.nil)⟩
            have so2 := (StOk.setF (i := hd.r) (so1.ext e2) rt).forget hd.e none
            rw [set_about (l := μ1) ner] at so2
            exact h _ _ _ (e'.trans e2) w2 so2
      · cases er
        exact h cls dd σ' G' H' e' w' so' xa
end
end DW

/-! DwSS2: every block that is checked keeps its reading. -/
namespace DW
open PySem PySem.Spec PyProof.Rows L2
structure Sok (Γ : Cn) (F : FT) (k : Nat) (sa : SA) (T : List (Addr × Str)) (E : XS) (X : Cx) : Prop extends Cok Γ F k sa T E X where
  tk : Takes X (fun cls d σ H => E σ cls d H)
  own : PassesOwn (model X.prog X.w) X.A X.env X.xe
  fn : ∀ x, X.fn x = true
  xf : ∀ x ∈ Γ.excs, XFact X x
  xa : XAll X Γ.excs Γ.hcs Γ.fls
  st : X.stack = X.env :: X.outer
  fr : X.env.frame = some X.env.locals
  r3 : Room 3 X.A
section
variable {Γ : Cn} {F : FT} {k : Nat} {sa : SA} {T : List (Addr × Str)} {E : XS} {X : Cx} {g : Nat}
theorem Sok.tr (C : Sok Γ F k sa T E X) {W : WX} {pn : List (Addr × Obj)} {xe : Value → Shared → Prop} (tk : Takes (X.tr pn xe) W) (ow : PassesOwn (model X.prog X.w) X.A X.env xe) : Sok Γ F k sa T (fun σ cls d H => W cls d σ H) (X.tr pn xe) :=
  { N := C.N, nd := C.nd, kind := C.kind, sc := C.sc, calm := C.calm, room := C.room, pass := passAt_of tk, fns := C.fns, blt := C.blt, gl := C.gl, outs := C.outs, tk := tk, own := ow, fn := C.fn,
    xf := fun x hx => by
      obtain ⟨a, b, c, d⟩ := C.xf x hx
      exact ⟨a, b, c, d⟩
    xa := ⟨C.xa.rd, C.xa.noat, C.xa.exm, C.xa.mgh⟩, st := C.st, fr := C.fr, r3 := C.r3 }
theorem Sok.tgN (C : Sok Γ F k sa T E X) {i : Nat} {e : Expr} : tgN Γ i e = true → ∀ x, Γ.N[i]? = some x → X.N[i]? = some x ∧ Loc X.env.scope x ∧ (X.fn x = true ∨ X.env.scope.names.lookup x = some .local) := fun h x hx => by
  cases e <;> first | (simp [DW.tgN] at h; done) | skip
  rename_i y py
  unfold DW.tgN at h
  rw [Bool.and_eq_true] at h
  have hy := of_decide_eq_true h.1
  rw [hx] at hy
  cases hy
  refine ⟨by rw [C.N]; exact hx, ?_, .inl (C.fn x)⟩
  have h2 := h.2
  unfold L2.Loc
  rw [C.sc]
  split at h2
  · exact .inl (by assumption)
  · exact .inr (by assumption)
  · cases h2
theorem Sok.tg (C : Sok Γ F k sa T E X) {tg : List Nat} {tp : Bool} {t : Expr} (h : tgB Γ tg tp t = true) : PG X t (gT X.K tg tp) := by
  cases tp with
  | true =>
    cases t <;> first | (simp [tgB] at h; done) | skip
    rename_i es kk px
    obtain ⟨k1, k2, k3⟩ := tgsN_ok (X := X) (Γ := Γ) C.nd (fun i e => C.tgN) (show tgsN Γ tg es = true from h)
    exact pg_tup C.calm k1 k2 k3
  | false =>
    have h : tgsN Γ tg [t] = true := h
    rcases tg with _ | ⟨i, _ | ⟨j, tg⟩⟩
    · simp [tgsN] at h
    · rw [tgsN, Bool.and_eq_true] at h
      obtain ⟨g1, _⟩ := tgN_ok (X := X) (Γ := Γ) C.nd C.tgN h.1
      refine ⟨fun pins s σ H v u Q I r q => g1.run pins s σ H v u Q I r ?_⟩
      obtain ⟨v', r', e', q⟩ := (show gNames [i] [v] σ H Q from q)
      cases e'
      obtain ⟨_, q⟩ := q
      exact q
    · simp [tgsN] at h
theorem sw_plain {e : Expr} {t : Option Expr} {l : Nat} {env : PySem.Env} (h : plainSet e = true) : swapsWith e t l env = pure false := by
  cases e <;> first | rfl | (cases h; done)
theorem sw_cell {e : Expr} {y : Str} {py : Pos} {l : Nat} {env : PySem.Env} (h : env.scope.names.lookup y = some .cell) : swapsWith e (some (.Name y py)) l env = pure false := by
  have ky : env.kindOf y = some .cell := h
  cases e <;> first | rfl | skip
  all_goals
    unfold swapsWith
    simp only [ky, show (some NameKind.cell == some NameKind.local) = false from by decide, Bool.and_false, Bool.false_and]
/-- a target's slot, a value: name = value -/
theorem Sok.set (C : Sok Γ F k sa T E X) {i : Nat} {x : Ex} {y : Str} {py pos : Pos} {e : Expr} (h1 : DW.tgN Γ i (.Name y py) = true) (h2 : okE Γ x e = true) (h3 : (plainSet e || (compSet Γ y py e || decide (Γ.sc.lookup y = some .cell))) = true) : PS X (.Assign [.Name y py] e pos) (tAsg (TX X.K sa T F E x) (gName i)) := by
  have hN : Γ.N[i]? = some y := by
    have h : (decide (Γ.N[i]? = some y) && (match Γ.sc.lookup y with | some .local => true | some .cell => true | _ => false)) = true := h1
    rw [Bool.and_eq_true] at h
    exact of_decide_eq_true h.1
  obtain ⟨n1, n2, n3⟩ := C.tgN h1 y hN
  rw [Bool.or_eq_true, Bool.or_eq_true] at h3
  rcases h3 with h3 | h3 | h3
  · exact ps_set C.nd n1 n2 (sE x C.toCok h2).1 (sw_plain h3) n3
  · cases e <;> first | (cases h3; done) | skip
    · rename_i el gs scope px
      have h3 : (decide (Γ.sc.lookup y = some .local) && ((py.line == px.line) && !(scope.names.any fun (n, k) => n == y && (k == .local || k == .cell)))) = true := h3
      rw [Bool.and_eq_true, Bool.and_eq_true] at h3
      obtain ⟨g1, g2, g3⟩ := h3
      have g1 := of_decide_eq_true g1
      cases x <;> first | exact Bool.noConfusion (show false = true from h2) | skip
      · rename_i tg tp it cond elt
        rcases gs with _ | ⟨⟨t, it1, ifs, asy⟩, _ | ⟨g2, gs⟩⟩ <;> first | exact Bool.noConfusion (show false = true from h2) | skip
        have h : (decide (asy = 0) && (plainE it1 && (blkB Γ tg scope && (tgB (inner Γ scope) tg tp t && ((okI Γ tp it it1 || wlkB Γ it it1) && (okC (inner Γ scope) cond ifs && okE (inner Γ scope) elt el)))))) = true := by simpa only [okE] using h2
        simp only [Bool.and_eq_true, decide_eq_true_eq] at h
        obtain ⟨rfl, h2, h3, h4, h5, h6, h7⟩ := h
        obtain ⟨hk, ok, ho, hg⟩ := blk_parts C.toCok h3 h4
        have hi := sK (t := t) C.toCok h5 fun z => sI it (t := t) C.toCok z (tup_of h4)
        have ht : ∀ (s : Shared) (H : Hp) (Ca : Addr) (cl : List (Str × Addr)) (fp : List Addr), PTs (X.blk s H scope (compEnvC scope cl Ca X.env) fp) ifs (TXc X.K sa T F EF cond) := fun s H Ca cl fp => sC cond (C.toCok.blk hk s H Ca cl fp) h6
        have he : ∀ (s : Shared) (H : Hp) (Ca : Addr) (cl : List (Str × Addr)) (fp : List Addr), PE (X.blk s H scope (compEnvC scope cl Ca X.env) fp) el (TX X.K sa T F EF elt) := fun s H Ca cl fp => (sE elt (C.toCok.blk hk s H Ca cl fp) h7).1
        have yl : X.env.scope.names.lookup y = some .local := by rw [C.sc]; exact g1
        refine (ps_setLc C.calm C.nd n1 yl (sw_true C.kind yl g2 (by simpa using g3)) hi ok hg ht he (fun x => plain_set h2 X.env x)).lor fun Dn σ H hh => ?_
        exact lock_or lc_err (se_lc C.calm C.nd h2 hi ok ho hg ht he) σ H _ hh
      · rename_i tg tp it cond tg1 tp1 it1 cond1 elt
        rcases gs with _ | ⟨⟨t, i, ifs, asy⟩, _ | ⟨⟨t1, i1, ifs1, asy1⟩, _ | ⟨g3, gs⟩⟩⟩ <;> first | exact Bool.noConfusion (show false = true from h2) | skip
        have h : (decide (asy = 0) && (decide (asy1 = 0) && (plainE i && (plainE i1 && (blkB Γ (tg ++ tg1) scope && (tgB (inner Γ scope) tg tp t && (tgB (inner Γ scope) tg1 tp1 t1 && ((okI Γ tp it i || wlkB Γ it i) && (okC (inner Γ scope) cond ifs && (okI (inner Γ scope) tp1 it1 i1 && (okC (inner Γ scope) cond1 ifs1 && okE (inner Γ scope) elt el))))))))))) = true := by simpa only [okE] using h2
        simp only [Bool.and_eq_true, decide_eq_true_eq] at h
        obtain ⟨rfl, rfl, h2, h2', h3, h4, h4', h5, h6, h5', h6', h7⟩ := h
        obtain ⟨hk, ok, ho, hg⟩ := blk_parts C.toCok h3 h4 (fun _ z => List.mem_append_left _ z)
        obtain ⟨_, _, _, hg1⟩ := blk_parts C.toCok h3 h4' (fun _ z => List.mem_append_right _ z)
        have hi := sK (t := t) C.toCok h5 fun z => sI it (t := t) C.toCok z (tup_of h4)
        have ht : ∀ (s : Shared) (H : Hp) (Ca : Addr) (cl : List (Str × Addr)) (fp : List Addr), PTs (X.blk s H scope (compEnvC scope cl Ca X.env) fp) ifs (TXc X.K sa T F EF cond) := fun s H Ca cl fp => sC cond (C.toCok.blk hk s H Ca cl fp) h6
        have hi1 : ∀ (s : Shared) (H : Hp) (Ca : Addr) (cl : List (Str × Addr)) (fp : List Addr), PI (X.blk s H scope (compEnvC scope cl Ca X.env) fp) t1 i1 (TXi X.K sa T F EF it1) := fun s H Ca cl fp => sI it1 (t := t1) (C.toCok.blk hk s H Ca cl fp) h5' (tup_of h4')
        have ht1 : ∀ (s : Shared) (H : Hp) (Ca : Addr) (cl : List (Str × Addr)) (fp : List Addr), PTs (X.blk s H scope (compEnvC scope cl Ca X.env) fp) ifs1 (TXc X.K sa T F EF cond1) := fun s H Ca cl fp => sC cond1 (C.toCok.blk hk s H Ca cl fp) h6'
        have he : ∀ (s : Shared) (H : Hp) (Ca : Addr) (cl : List (Str × Addr)) (fp : List Addr), PE (X.blk s H scope (compEnvC scope cl Ca X.env) fp) el (TX X.K sa T F EF elt) := fun s H Ca cl fp => (sE elt (C.toCok.blk hk s H Ca cl fp) h7).1
        have yl : X.env.scope.names.lookup y = some .local := by rw [C.sc]; exact g1
        refine (ps_setLc2 (vs1 := tg1) C.calm C.nd n1 yl (sw_true C.kind yl g2 (by simpa using g3)) hi ok (by rw [ho]; exact fun _ z => List.mem_append_right _ z) hg ht hi1 hg1 ht1 he (fun x => plain_set h2 X.env x) (fun env x => plain_set h2' env x)).lor fun Dn σ H hh => ?_
        exact lock_or lc2_err (se_lc2 ho) σ H _ hh
    · rename_i ek el gs scope px
      have h3 : (decide (Γ.sc.lookup y = some .local) && ((py.line == px.line) && !(scope.names.any fun (n, k) => n == y && (k == .local || k == .cell)))) = true := h3
      rw [Bool.and_eq_true, Bool.and_eq_true] at h3
      obtain ⟨g1, g2, g3⟩ := h3
      have g1 := of_decide_eq_true g1
      cases x <;> first | exact Bool.noConfusion (show false = true from h2) | skip
      rename_i tg tp it cond kx vx
      rcases gs with _ | ⟨⟨t, it1, ifs, asy⟩, _ | ⟨g2, gs⟩⟩ <;> first | exact Bool.noConfusion (show false = true from h2) | skip
      have h : (decide (asy = 0) && (plainE it1 && (blkB Γ tg scope && (tgB (inner Γ scope) tg tp t && ((okI Γ tp it it1 || wlkB Γ it it1) && (okC (inner Γ scope) cond ifs && (okE (inner Γ scope) kx ek && okE (inner Γ scope) vx el))))))) = true := by simpa only [okE] using h2
      simp only [Bool.and_eq_true, decide_eq_true_eq] at h
      obtain ⟨rfl, h2, h3, h4, h5, h6, h7, h8⟩ := h
      obtain ⟨hk, ok, ho, hg⟩ := blk_parts C.toCok h3 h4
      have hi := sK (t := t) C.toCok h5 fun z => sI it (t := t) C.toCok z (tup_of h4)
      have ht : ∀ (s : Shared) (H : Hp) (Ca : Addr) (cl : List (Str × Addr)) (fp : List Addr), PTs (X.blk s H scope (compEnvC scope cl Ca X.env) fp) ifs (TXc X.K sa T F EF cond) := fun s H Ca cl fp => sC cond (C.toCok.blk hk s H Ca cl fp) h6
      have he : ∀ (s : Shared) (H : Hp) (Ca : Addr) (cl : List (Str × Addr)) (fp : List Addr), PE (X.blk s H scope (compEnvC scope cl Ca X.env) fp) el (TX X.K sa T F EF vx) := fun s H Ca cl fp => (sE vx (C.toCok.blk hk s H Ca cl fp) h8).1
      have hkx : ∀ (s : Shared) (H : Hp) (Ca : Addr) (cl : List (Str × Addr)) (fp : List Addr), PE (X.blk s H scope (compEnvC scope cl Ca X.env) fp) ek (TX X.K sa T F EF kx) := fun s H Ca cl fp => (sE kx (C.toCok.blk hk s H Ca cl fp) h7).1
      have yl : X.env.scope.names.lookup y = some .local := by rw [C.sc]; exact g1
      refine (ps_setDc C.calm C.nd n1 yl (sw_trueD C.kind yl g2 (by simpa using g3)) hi ok hg ht hkx he (fun x => plain_set h2 X.env x)).lor fun Dn σ H hh => ?_
      exact lock_or dc_err (se_dc C.calm C.nd h2 hi ok ho hg ht hkx he) σ H _ hh
  · exact ps_set C.nd n1 n2 (sE x C.toCok h2).1 (sw_cell (by rw [C.sc]; exact of_decide_eq_true h3)) n3
theorem Sok.mth (C : Sok Γ F k sa T E X) {i : Nat} {m : Mt} {xs : Exs} {e : Expr} (h : mthB Γ i m xs e = true) : PE X e (tMth X.K sa T F E i m xs) ∧ plainSet e = true := by
  unfold mthB at h
  split at h
  · rename_i y py n ap args cp
    simp only [Bool.and_eq_true, decide_eq_true_eq] at h
    obtain ⟨h1, h2, h3, h4, h5, h6, h7⟩ := h
    exact ⟨pe_mth h1 h2 (by rw [C.N]; exact h3) (vis_of C.toCok h4) h5 (sEs xs C.toCok h6) h7, rfl⟩
  · cases h
end
theorem swapped_of {env : PySem.Env} {x y : Str} {px py pt pt2 : Pos} {kt k2 : Nat} {ea eb : Expr} (hk : env.scope.kind = .function) (hx : env.scope.names.lookup x = some .local) (hy : env.scope.names.lookup y = some .local) (hl : (py.line == px.line) = true) (ne : x ≠ y)
    (pa : plainE ea = true) (pb : plainE eb = true) (h1 : foldedForSure 8 ea = false) (h2 : constantsAlone 8 ea = false) : swappedStores [.Tuple [.Name x px, .Name y py] kt pt] (.Tuple [ea, eb] k2 pt2) env = pure (some [x, y]) := by
  have kx : env.kindOf x = some .local := hx
  have ky : env.kindOf y = some .local := hy
  have hb : env.blockKind = .function := by unfold Env.blockKind; rw [hk]; rfl
  have ed : [x, y].eraseDups.length = 2 := by
    have : (y == x) = false := beq_false_of_ne (Ne.symm ne)
    simp [List.eraseDups_cons, this]
  have ll : py.line = px.line := beq_iff_eq.mp hl
  unfold swappedStores
  simp [hb, kx, ky, Expr.pos, ll, ed, h1, h2]
  rintro (z | z)
  · cases ea <;> first | (cases pa; done) | (cases z; done)
  · cases eb <;> first | (cases pb; done) | (cases z; done)
section
variable {F : FT} {k : Nat} {sa : SA} {T : List (Addr × Str)} {g : Nat}
mutual
theorem sS : ∀ (s : Sm) {Γ : Cn} {X : Cx} {E : XS} {t : Stmt}, Sok Γ F k sa T E X → okS Γ s t = true → ∀ G0 H0, PS X t (TSx X.K sa T F (xfOf Γ.excs) g E G0 H0 s)
  | .set i x, Γ, X, E, t, C, h, G0, H0 => by
    unfold okS at h
    split at h
    all_goals first | (cases h; done) | (rename_i heq; cases heq; done) | skip
    rename_i heq
    cases heq
    · simp only [Bool.and_eq_true] at h
      exact ss_set (C.set h.1 h.2.1 h.2.2)
  | .unp is x, Γ, X, E, t, C, h, G0, H0 => by
    unfold okS at h
    split at h
    all_goals first | (cases h; done) | (rename_i heq; cases heq; done) | skip
    rename_i heq
    cases heq
    · simp only [Bool.and_eq_true] at h
      exact ss_unp (sE x C.toCok h.2.1).1 (C.tg (tp := true) h.1) h.2.2
  | .par i j a b, Γ, X, E, t, C, h, G0, H0 => by
    unfold okS at h
    split at h
    all_goals first | (cases h; done) | (rename_i heq; cases heq; done) | skip
    rename_i heq
    cases heq
    · simp only [Bool.and_eq_true, Bool.not_eq_true', decide_eq_false_iff_not] at h
      obtain ⟨h1, h2, h3, h4, h5, h6, h7, h8, h9, h10⟩ := h
      have Nk : Nok Γ X := ⟨C.N, C.nd, C.sc⟩
      obtain ⟨i1, i2⟩ := loc_of Nk h1
      obtain ⟨j1, j2⟩ := loc_of Nk h2
      refine ss_par C.calm C.nd i1 j1 h3 i2 j2 h5 h6 (sE a C.toCok h7).1 (sE b C.toCok h8).1 (swapped_of C.kind i2 j2 h4 (fun z => ?_) h5 h6 h9 h10)
      subst z
      exact h3 (nodup_ix C.nd i1 j1)
  | .ret x, Γ, X, E, t, C, h, G0, H0 => by
    unfold okS at h
    split at h
    all_goals first | (cases h; done) | (rename_i heq; cases heq; done) | skip
    rename_i heq
    cases heq
    · refine ss_ret (sE x C.toCok h).1 fun i hi => ?_
      cases x <;> first | (cases hi; done) | skip
      cases hi
      rename_i e pe
      cases e <;> first | exact Bool.noConfusion (show false = true from h) | skip
      rename_i y py
      have h : (decide (Γ.N[i]? = some y) && (visB Γ.sc y && noName y)) = true := by simpa only [okE] using h
      rw [Bool.and_eq_true, Bool.and_eq_true] at h
      obtain ⟨n1, n2, _⟩ := noName_at h.2.2
      exact pe_var (by rw [C.N]; exact of_decide_eq_true h.1) (vis_of C.toCok h.2.1) n1 n2
  | .retN, Γ, X, E, t, C, h, G0, H0 => by
    unfold okS at h
    split at h
    all_goals first | (cases h; done) | (rename_i heq; cases heq; done) | skip
    rename_i heq
    cases heq
    · exact ss_retN
  | .ifs c a b, Γ, X, E, t, C, h, G0, H0 => by
    unfold okS at h
    split at h
    all_goals first | (cases h; done) | (rename_i heq; cases heq; done) | skip
    rename_i heq
    cases heq
    · simp only [Bool.and_eq_true] at h
      exact ss_if (sE c C.toCok h.1).2 (sSs a C h.2.1 G0 H0) (sSs b C h.2.2 G0 H0)
  | .fors tg tp it body, Γ, X, E, t, C, h, G0, H0 => by
    unfold okS at h
    split at h
    all_goals first | (cases h; done) | (rename_i heq; cases heq; done) | skip
    rename_i heq
    cases heq
    · simp only [Bool.and_eq_true] at h
      exact ss_for C.own C.calm h.1 (sI it C.toCok h.2.2.1 (tup_of h.2.1)) (C.tg h.2.1) fun G0 => sSs body C h.2.2.2 G0 H0
  | .whl c body, Γ, X, E, t, C, h, G0, H0 => by
    unfold okS at h
    split at h
    all_goals first | (cases h; done) | (rename_i heq; cases heq; done) | skip
    rename_i heq
    cases heq
    · simp only [Bool.and_eq_true] at h
      exact ss_whl C.own (sE c C.toCok h.1).2 (sSs body C h.2 G0 H0)
  | .rais c es, Γ, X, E, t, C, h, G0, H0 => by
    unfold okS at h
    split at h
    all_goals first | (cases h; done) | (rename_i heq; cases heq; done) | skip
    rename_i heq
    cases heq
    · simp only [Bool.and_eq_true, decide_eq_true_eq] at h
      obtain ⟨rfl, h2, h3, h4⟩ := h
      obtain ⟨x, hx⟩ := Option.isSome_iff_exists.mp h2
      have hc := List.find?_some hx
      simp only [decide_eq_true_eq] at hc
      subst hc
      exact ss_rais C.calm C.tk hx (C.xf x (List.mem_of_find?_eq_some hx)) C.r3 (C.toCok.glob h3).1 (sEs es C.toCok h4)
  | .mth r i m xs, Γ, X, E, t, C, h, G0, H0 => by
    unfold okS at h
    split at h
    all_goals first | (cases h; done) | (rename_i heq; cases heq; done) | skip
    · rename_i heq
      cases heq
      obtain ⟨p, q⟩ := C.mth h
      exact ss_mthE p (sw_plain q)
    · rename_i heq
      cases heq
      rename_i r y py e ps
      simp only [Bool.and_eq_true] at h
      obtain ⟨p, q⟩ := C.mth h.2
      have h1 := h.1
      have hN : Γ.N[r]? = some y := by
        have h : (decide (Γ.N[r]? = some y) && (match Γ.sc.lookup y with | some .local => true | some .cell => true | _ => false)) = true := h1
        rw [Bool.and_eq_true] at h
        exact of_decide_eq_true h.1
      obtain ⟨n1, n2, n3⟩ := C.tgN h1 y hN
      exact ss_mthA (ps_set C.nd n1 n2 p (sw_plain q) n3)
  | .sub i k x, Γ, X, E, t, C, h, G0, H0 => by
    unfold okS at h
    split at h
    all_goals first | (cases h; done) | (rename_i heq; cases heq; done) | skip
    rename_i heq
    cases heq
    · simp only [Bool.and_eq_true, decide_eq_true_eq] at h
      obtain ⟨h1, h2, h3, h4, h5, h6⟩ := h
      exact ss_sub C.toCok.hu (by rw [C.N]; exact h1) (vis_of C.toCok h2) h3 h4 (sE k C.toCok h5).1 (sE x C.toCok h6).1
  | .aug i k op x, Γ, X, E, t, C, h, G0, H0 => by
    unfold okS at h
    cases h
  | .expr x, Γ, X, E, t, C, h, G0, H0 => by
    unfold okS at h
    split at h
    all_goals first | (cases h; done) | (rename_i heq; cases heq; done) | skip
    rename_i heq
    cases heq
    · simp only [Bool.and_eq_true] at h
      exact ss_expr (sE x C.toCok h.1).1 (sw_plain h.2)
  | .srcSet i k x, Γ, X, E, t, C, h, G0, H0 => by
    unfold okS at h
    split at h
    all_goals first | (cases h; done) | (rename_i heq; cases heq; done) | skip
    rename_i heq
    cases heq
    · simp only [Bool.and_eq_true, decide_eq_true_eq] at h
      obtain ⟨rfl, h1, h2, h3, h4⟩ := h
      exact ss_srcSet (by rw [C.N]; exact h1) (vis_of C.toCok h2) h3 (sE x C.toCok h4).1
  | .srcInc i k c, Γ, X, E, t, C, h, G0, H0 => by
    unfold okS at h
    split at h
    all_goals first | (cases h; done) | (rename_i heq; cases heq; done) | skip
    rename_i heq
    cases heq
    · simp only [Bool.and_eq_true, decide_eq_true_eq] at h
      obtain ⟨rfl, rfl, h1, h2, h3⟩ := h
      exact ss_srcInc (by rw [C.N]; exact h1) (vis_of C.toCok h2) h3
  | .tryx body hs, Γ, X, E, t, C, h, G0, H0 => by
    unfold okS at h
    split at h
    all_goals first | (cases h; done) | (rename_i heq; cases heq; done) | skip
    rename_i heq
    cases heq
    · rename_i b hds p
      simp only [Bool.and_eq_true, decide_eq_true_eq] at h
      obtain ⟨h1, h2, h3⟩ := h
      cases hds with
      | nil =>
        cases hs with
        | nil => cases h3
        | cons x xs => simp [hdsB] at h2
      | cons h0 hds =>
        exact ss_try C.nd C.xa C.st C.fr C.tk (hdsB_mem h2) (hds_ok ⟨C.N, C.nd, C.sc⟩ C.xa h2) fun W pn xe tk ow => sSs body (C.tr tk ow) h1 G0 H0
  | .brk, Γ, X, E, t, C, h, G0, H0 => by
    unfold okS at h
    split at h
    all_goals first | (cases h; done) | (rename_i heq; cases heq; done) | skip
    rename_i heq
    cases heq
    · exact ss_brk
  | .cont, Γ, X, E, t, C, h, G0, H0 => by
    unfold okS at h
    split at h
    all_goals first | (cases h; done) | (rename_i heq; cases heq; done) | skip
    rename_i heq
    cases heq
    · exact ss_cont
  | .pass, Γ, X, E, t, C, h, G0, H0 => by
    unfold okS at h
    split at h
    all_goals first | (cases h; done) | (rename_i heq; cases heq; done) | skip
    rename_i heq
    cases heq
    · exact ss_pass
termination_by s => sizeOf s
theorem sSs : ∀ (s : Sms) {Γ : Cn} {X : Cx} {E : XS} {t : List Stmt}, Sok Γ F k sa T E X → okSs Γ s t = true → ∀ G0 H0, PSs X t (TSs X.K sa T F (xfOf Γ.excs) g E G0 H0 s)
  | .nil, Γ, X, E, t, C, h, G0, H0 => by
    unfold okSs at h
    split at h
    · exact sss_nil
    · rename_i heq; cases heq
    · cases h
  | .cons s ss, Γ, X, E, t, C, h, G0, H0 => by
    unfold okSs at h
    split at h
    · rename_i heq; cases heq
    · rename_i heq
      cases heq
      rw [Bool.and_eq_true] at h
      exact sss_cons (sS s C h.1 G0 H0) (sSs ss C h.2 G0 H0)
    · cases h
termination_by s => sizeOf s
end
end
end DW

/-! DwProg: a text whose defs are checked keeps what the small language computes. -/
namespace DW
open PySem PySem.Spec PyProof.Rows L2 LamX
/-- a def of the text: its datum, its slots, its parameters, its body -/
structure Dfn where
  D : He.DefD
  N : List Str
  ps : List Str
  fn : Fn
  shs : List Shape
/-- a def that gets a lambda -/
structure Odf where
  D : He.DefD
  N : List Str
  a : Str
  o : OutS
structure Txt where
  dfs : List Dfn
  ods : List Odf
  gl : List (Str × Gc)
  free : List Str
  excs : List XD
  hcs : List Str
  fls : List Str
  /-- the defs in which a lambda stands -/
  lams : List Str
def Txt.shapes (t : Txt) : List Shape := t.dfs.flatMap (·.shs)
def Txt.cn (t : Txt) (N : List Str) (sc : List (Str × NameKind)) (lam : Bool) : Cn :=
  { N := N, sc := sc, shapes := t.shapes, gl := t.gl, free := t.free, outs := if lam then t.ods.map (·.D.name) else [], excs := t.excs, hcs := t.hcs, fls := t.fls }
def Txt.prog (t : Txt) (prim : Str → Option (List D → Src → R (Bool × D))) (fuel : Nat) : Prog where
  prim := prim
  tbl := fun f => (t.dfs.find? fun d => decide (d.D.name = f)).map (·.fn)
  outs := fun f => (t.ods.find? fun d => decide (d.D.name = f)).map (·.o)
  xf := xfOf t.excs
  fuel := fuel
def scB (N ps : List Str) (sc : Scope) : Bool := decide (sc.kind = .function) && (!sc.isCoroutine && (!sc.isGenerator && (decide N.Nodup && (decide (N.take ps.length = ps) && ((ps.all fun x => match sc.names.lookup x with
  | some .local => true
  | some .cell => true
  | _ => false) && sc.names.all fun y => !decide (y.2 = .free))))))
theorem scB_ok {N ps : List Str} {sc : Scope} (h : scB N ps sc = true) : FnScope N ps sc := by
  unfold scB at h
  simp only [Bool.and_eq_true, Bool.not_eq_true', decide_eq_true_eq, List.all_eq_true, decide_eq_false_iff_not] at h
  obtain ⟨h1, h2, h3, h4, h5, h6, h7⟩ := h
  refine ⟨h1, h2, h3, h4, h5, fun x hx => ?_, h7⟩
  have := h6 x hx
  split at this
  · exact .inl (by assumption)
  · exact .inr (by assumption)
  · cases this
/-- what is checked of a def -/
def Dfn.ok (t : Txt) (d : Dfn) : Bool := (decide (d.D.name = d.D.qual) && decide (d.D.at_ = (d.D.name, none))) && (scB d.N d.ps d.D.scope && (decide (d.fn.np = d.ps.length) && (decide (d.fn.ns = d.N.length) && ((d.shs.all fun sh => decide (sh.f = d.D.name) && decide (sh.perm.length = d.ps.length)) && okSs (t.cn d.N d.D.scope.names (decide (d.D.name ∈ t.lams))) d.fn.body d.D.body))))
def Odf.ok (t : Txt) (d : Odf) : Bool := decide (d.D.name = d.D.qual) && (scB d.N [d.a] d.D.scope && (noName d.a && (decide (d.o.ns = d.N.length) && (decide (d.o.ret.length ≤ 1000) && outsB (t.cn d.N d.D.scope.names false) d.a d.o d.o.inits d.D.body))))
/-- a context by which facts of the text are told -/
def cx0 (P : Program) (w : World) (K : PySem.W.Frag) (mg : Str → Option Value) (base : Heap) : Cx := cxOf (L2.CX P w) P w K mg base [] "" ⟨.function, [], false, false, []⟩ 0 .none callerA [] ⟨base, #[], {}, 0, {}⟩ (fun _ => none) (fun _ _ _ => False)
/-- how a lambda of the def is called -/
def lamQ (q : Str) : Str := (envOfC q ⟨.function, [], false, false, []⟩ 0 0 .none).qual ++ "<lambda>"
def lev (n : Nat) : Nat := 3 * n + 3
structure Stat (t : Txt) (P : Program) (w : World) (K : PySem.W.Frag) (mg : Str → Option Value) (base : Heap) (T : List (Addr × Str)) : Prop where
  fnd : ∀ d ∈ t.dfs, ∃ fd, FunD K d.D.name d.D.qual d.D.params d.D.body d.D.scope (d.D.dvs K) (d.D.kws K) (He.fAd K d.D.at_) fd ∧ ∀ sh ∈ d.shs, ∃ g, KBn K fd d.ps sh.np sh.ks g (fun vs zs => permV sh.perm (vs ++ zs))
  mgf : ∀ d ∈ t.dfs, mg d.D.name = some (.ref (He.fAd K d.D.at_))
  ond : ∀ d ∈ t.ods, ∃ fd, FunD K d.D.name d.D.qual d.D.params d.D.body d.D.scope [] (d.D.kws K) (He.fAd K d.D.at_) fd ∧ L2.Binds K fd [d.a] []
  mgo : ∀ d ∈ t.ods, mg d.D.name = some (.ref (He.fAd K d.D.at_))
  blt : ∀ x ∈ t.free, mg x = none
  gl : ∀ x c, t.gl.lookup x = some c → GlFact (cx0 P w K mg base) x c
  xf : ∀ x ∈ t.excs, XFact (cx0 P w K mg base) x
  xa : XAll (cx0 P w K mg base) t.excs t.hcs t.fls
  tab : ∀ x ∈ t.lams, TabB base mg (He.cT K (x, none)).1 (He.cT K (x, none)).2 ∧ ((He.cT K (x, none)).2, lamQ x) ∈ T ∧ ∀ p ∈ T, p.1 = (He.cT K (x, none)).2 → p.2 = lamQ x
section
variable {t : Txt} {P : Program} {w : World} {K : PySem.W.Frag} {mg : Str → Option Value} {base : Heap} {T : List (Addr × Str)} {prim : Str → Option (List D → Src → R (Bool × D))} {fuel : Nat}
theorem start_get {N : List Str} {vs : List V} {i : Nat} {v : V} (h : vs[i]? = some v) : (L2.start N vs)[i]? = some (some v) := by
  unfold L2.start
  have hi : i < (vs.map some).length := by rw [List.length_map]; exact (List.getElem?_eq_some_iff.mp h).1
  rw [List.getElem?_append_left hi, List.getElem?_map, h]; rfl
theorem start_ok {sa : SA} {G H : Hp} {N : List Str} {ns : Nat} {ds : List D} {vs : List V} (r : RepL K sa G ds vs) (hn : ns ≤ N.length) : StOk K sa H G H (L2.start N vs) (startM ns ds) := by
  have key : ∀ (i : Nat) (b : Bool) (d : D), (startM ns ds)[i]? = some (some (b, d)) → b = false ∧ ds[i]? = some d := fun i b d e => by
    unfold startM at e
    by_cases hi : i < ds.length
    · rw [List.getElem?_append_left (by rw [List.length_map]; exact hi), List.getElem?_map] at e
      cases q : ds[i]? with
      | none => rw [q] at e; cases e
      | some d' => rw [q] at e; cases e; exact ⟨rfl, rfl⟩
    · rw [List.getElem?_append_right (by rw [List.length_map]; omega), List.getElem?_replicate] at e
      split at e <;> cases e
  refine ⟨?_, fun i d e => ?_, fun i d e => ?_, fun i j d d' _ e _ => ?_⟩
  · unfold startM L2.start
    rw [List.length_append, List.length_append, List.length_map, List.length_map, List.length_replicate, List.length_replicate, r.length]
    omega
  · obtain ⟨_, q⟩ := key i false d e
    obtain ⟨v, ev, rv⟩ := r.get q
    exact ⟨v, start_get ev, rv⟩
  · obtain ⟨z, _⟩ := key i true d e
    cases z
  · obtain ⟨z, _⟩ := key i true d e
    cases z
theorem mem_find {dfs : List Dfn} {d : Dfn} (nd : (dfs.map (·.D.name)).Nodup) (h : d ∈ dfs) : dfs.find? (fun x => decide (x.D.name = d.D.name)) = some d := by
  induction dfs with
  | nil => cases h
  | cons x xs ih =>
    rw [List.map_cons, List.nodup_cons] at nd
    rw [List.find?_cons]
    rcases List.mem_cons.mp h with rfl | h
    · rw [decide_eq_true rfl]
    · have : x.D.name ≠ d.D.name := fun z => nd.1 (by rw [z]; exact List.mem_map.mpr ⟨d, h, rfl⟩)
      rw [decide_eq_false this]
      exact ih nd.2 h
theorem mem_findO {ods : List Odf} {d : Odf} (nd : (ods.map (·.D.name)).Nodup) (h : d ∈ ods) : ods.find? (fun x => decide (x.D.name = d.D.name)) = some d := by
  induction ods with
  | nil => cases h
  | cons x xs ih =>
    rw [List.map_cons, List.nodup_cons] at nd
    rw [List.find?_cons]
    rcases List.mem_cons.mp h with rfl | h
    · rw [decide_eq_true rfl]
    · have : x.D.name ≠ d.D.name := fun z => nd.1 (by rw [z]; exact List.mem_map.mpr ⟨d, h, rfl⟩)
      rw [decide_eq_false this]
      exact ih nd.2 h
theorem out_eq (n : Nat) (f : Str) : (callN (t.prog prim fuel) n).out f = outF (t.prog prim fuel) f := by cases n <;> rfl
section
variable {CX : CXT} {N : List Str} {qu : Str} {sc : Scope} {f : Addr} {cd : Value} {A : Around} {outer : List PySem.Env} {s : Shared} {H : Hp} {E : XK}
theorem FnFact.on {sa : SA} {F : FT} {k : Nat} {sh : Shape} (h : FnFact sa T F k (cx0 P w K mg base) sh) : FnFact sa T F k (cxOf CX P w K mg base N qu sc f cd A outer s H E) sh := by
  obtain ⟨a, fd, ps, g, h1, h2, h3, h4, h5⟩ := h
  exact ⟨a, fd, ps, g, h1, h2, h3, h4, h5⟩
theorem GlFact.on {x : Str} {c : Gc} (h : GlFact (cx0 P w K mg base) x c) : GlFact (cxOf CX P w K mg base N qu sc f cd A outer s H E) x c := by
  cases c with
  | lit l => exact h
  | tup ls => exact h
theorem XFact.on {x : XD} (h : XFact (cx0 P w K mg base) x) : XFact (cxOf CX P w K mg base N qu sc f cd A outer s H E) x := by
  obtain ⟨a, b, c, B, nw, ini, tl, fI, fd, h1, h2, h3, h4, h5, h6, h7, h8, h9⟩ := h
  exact ⟨a, b, c, B, nw, ini, tl, fI, fd, h1, h2, h3, h4, h5, h6, h7, h8, h9⟩
theorem XAll.on {xds : List XD} {hcs fls : List Str} (h : XAll (cx0 P w K mg base) xds hcs fls) : XAll (cxOf CX P w K mg base N qu sc f cd A outer s H E) xds hcs fls := by
  obtain ⟨h1, h2, h3, h4⟩ := h
  exact ⟨h1, h2, h3, h4⟩
end
section
variable {sa : SA} {n k : Nat} {d : Dfn} {oc : Value} {od : Option Addr} {dV kV doc pm : Value} {an : Option Addr} {cdv ct : Value} {osl : Array (Option Value)} {A : Around} {outer : List PySem.Env} {s : Shared} {H : Hp} {E : XK}
theorem out_fact (S : Stat t P w K mg base T) (ndo : (t.ods.map (·.D.name)).Nodup) (oko : ∀ d ∈ t.ods, d.ok t = true) (hat : d.D.at_ = (d.D.name, none)) (hqu : d.D.name = d.D.qual) (hl : d.D.name ∈ t.lams) (lk : K.lookup (He.fAd K d.D.at_) = some ⟨oc, od, .func (PySem.W.fnOf d.D.name d.D.qual d.D.params d.D.body d.D.scope dV kV doc pm an cdv ct), osl⟩) (hcd : PySem.W.codeIn K cdv d.D.qual = true)
    (hr : Room (k + 2) (A.deeper (envOfC d.D.qual d.D.scope s.heap.objs.size (He.fAd K d.D.at_) cdv))) {x : Odf} (hx : x ∈ t.ods) :
    OutFact sa T (callN (t.prog prim fuel) n) k (cxOf (L2.CX P w) P w K mg base d.N d.D.qual d.D.scope (He.fAd K d.D.at_) cdv A outer s H E) x.D.name := by
  obtain ⟨fdx, ⟨⟨oc', od', dV', kV', doc', pm', an', cdv', ct', osl', rfl, lk', hcd', hdv, _⟩, kp'⟩, hb⟩ := S.ond x hx
  have okx := oko x hx
  unfold Odf.ok at okx
  simp only [Bool.and_eq_true, decide_eq_true_eq] at okx
  obtain ⟨x1, x2, x3, x4, x5, x6⟩ := okx
  have tbs := S.tab d.D.name hl
  rw [← hat, hqu] at tbs
  obtain ⟨tb1, tb2, tb3⟩ := tbs
  obtain ⟨c, hc⟩ := He.codeIn_ref hcd
  have hcode : (He.cT K d.D.at_).1 = c := He.codeOf_eq lk (by subst hc; rfl)
  have scx := scB_ok x2
  have n0 : x.N[0]? = some x.a := by
    have hp : x.N.take 1 = [x.a] := scx.pre
    cases qn : x.N with
    | nil => rw [qn] at hp; cases hp
    | cons y ys => rw [qn] at hp; simp at hp; rw [hp]; rfl
  rw [← x1] at lk' hcd' hb
  have eF : (callN (t.prog prim fuel) n).out x.D.name = outRun (xfOf t.excs) x.o := by
    rw [out_eq]
    unfold outF
    have : (t.prog prim fuel).outs x.D.name = some x.o := by
      show (t.ods.find? fun d => decide (d.D.name = x.D.name)).map (·.o) = some x.o
      rw [mem_findO ndo hx]; rfl
    rw [this]; rfl
  have eq : (cxOf (L2.CX P w) P w K mg base d.N d.D.qual d.D.scope (He.fAd K d.D.at_) cdv A outer s H E).env.qual ++ "<lambda>" = lamQ d.D.qual := rfl
  have hG := gives_out (X := cxOf (L2.CX P w) P w K mg base d.N d.D.qual d.D.scope (He.fAd K d.D.at_) cdv A outer s H E) (Γ := t.cn x.N x.D.scope.names false) (x := x.D.name) (g := He.fAd K x.D.at_) (cdg := cdv') (q := lamQ d.D.qual) (sa := sa) (T := T) rfl scx x4 x5 S.xa.on x6
  rw [← eq] at hG tb2 tb3
  exact ⟨xfOf t.excs, x.o, x.a, He.fAd K x.D.at_, (He.cT K d.D.at_).1, (He.cT K d.D.at_).2, x.D.params, x.D.body, x.D.scope, dV', kV', doc', pm', cdv', ct', oc', an', od', osl', x.N, eF, S.mgo x hx, kp', lk', hcd', hb, scx, n0, x3, hG, tb1, hc.trans (by rw [hcode]), tb2, tb3, hr⟩
/-- the context of a def's body -/
theorem sok_of (S : Stat t P w K mg base T) (ndo : (t.ods.map (·.D.name)).Nodup) (oko : ∀ d ∈ t.ods, d.ok t = true) (ih : ∀ sh ∈ t.shapes, FnFact sa T (callN (t.prog prim fuel) n) k (cx0 P w K mg base) sh) (hk : 3 ≤ k)
    (hat : d.D.at_ = (d.D.name, none)) (hqu : d.D.name = d.D.qual) (sc : FnScope d.N d.ps d.D.scope) (lk : K.lookup (He.fAd K d.D.at_) = some ⟨oc, od, .func (PySem.W.fnOf d.D.name d.D.qual d.D.params d.D.body d.D.scope dV kV doc pm an cdv ct), osl⟩) (hcd : PySem.W.codeIn K cdv d.D.qual = true)
    (hr : Room (k + 2) (A.deeper (envOfC d.D.qual d.D.scope s.heap.objs.size (He.fAd K d.D.at_) cdv))) :
    Sok (t.cn d.N d.D.scope.names (decide (d.D.name ∈ t.lams))) (callN (t.prog prim fuel) n) k sa T (fun _ => E) (cxOf (L2.CX P w) P w K mg base d.N d.D.qual d.D.scope (He.fAd K d.D.at_) cdv A outer s H E) := by
  have tk : Takes (cxOf (L2.CX P w) P w K mg base d.N d.D.qual d.D.scope (He.fAd K d.D.at_) cdv A outer s H E) (fun cls d _ H => E cls d H) := takes_of rfl rfl rfl rfl
  have c : Cok (t.cn d.N d.D.scope.names (decide (d.D.name ∈ t.lams))) (callN (t.prog prim fuel) n) k sa T (fun _ => E) (cxOf (L2.CX P w) P w K mg base d.N d.D.qual d.D.scope (He.fAd K d.D.at_) cdv A outer s H E) := by
    refine ⟨rfl, sc.nd, sc.kind, fun _ => rfl, rfl, hr.mono (by omega), passAt_of (E := fun _ => E) tk, fun sh h => (ih sh h).on, S.blt, fun x c h => (S.gl x c h).on, fun f hf => ?_⟩
    by_cases hl : d.D.name ∈ t.lams
    case neg =>
      have : (t.cn d.N d.D.scope.names (decide (d.D.name ∈ t.lams))).outs = [] := by unfold Txt.cn; rw [decide_eq_false hl]; rfl
      rw [this] at hf; cases hf
    have hf : f ∈ t.ods.map (·.D.name) := by
      have e : (t.cn d.N d.D.scope.names (decide (d.D.name ∈ t.lams))).outs = t.ods.map (·.D.name) := by unfold Txt.cn; rw [decide_eq_true hl]; rfl
      rw [e] at hf; exact hf
    obtain ⟨x, hx, rfl⟩ := List.mem_map.mp hf
    exact out_fact S ndo oko hat hqu hl lk hcd hr hx
  exact ⟨c, tk, passes_of rfl, fun _ => rfl, fun x hx => (S.xf x hx).on, S.xa.on, rfl, rfl, hr.mono (by omega)⟩
end
/-- what the end of a body hands on -/
theorem ends_of {sa : SA} {G H : Hp} {E : XK} {Q : VK} {r : SR} (h : post T E (rlV K sa) (ofSR r) G H Q) : spost K sa T (fun _ => E) G H r { nx := fun _ H' => Q .non H', rt := Q } := by
  cases r with
  | nxt μ S => exact fun σ G' H' e w so => h .non G' H' e w (by show Rep K sa G' .non .non; rw [Rep])
  | ret p S => exact fun v G' H' e w r => h v G' H' e w r
  | err x S μ => exact fun cls dd σ G' H' e w so r => h cls dd G' H' e w r
  | brk μ S => exact h.elim
  | cnt μ S => exact h.elim
  | stuck => exact h.elim
/-- a def one level up -/
theorem fn_step {sa : SA} {n : Nat} (S : Stat t P w K mg base T) (ndd : (t.dfs.map (·.D.name)).Nodup) (ndo : (t.ods.map (·.D.name)).Nodup) (oko : ∀ d ∈ t.ods, d.ok t = true) (ih : ∀ sh ∈ t.shapes, FnFact sa T (callN (t.prog prim fuel) n) (lev n) (cx0 P w K mg base) sh) {d : Dfn} (hd : d ∈ t.dfs) (ok : d.ok t = true) (hp : prim d.D.name = none)
    {fd : FuncData} (FD : FunD K d.D.name d.D.qual d.D.params d.D.body d.D.scope (d.D.dvs K) (d.D.kws K) (He.fAd K d.D.at_) fd) :
    FnOk P w K mg base (L2.CX P w) (lev (n + 1)) (He.fAd K d.D.at_) fd d.ps (spF K sa T (callN (t.prog prim fuel) (n + 1)) d.D.name d.ps.length) := by
  obtain ⟨oc, od, dV, kV, doc, pm, an, cdv, ct, osl, rfl, lk, hcd, _, _⟩ := FD.ex
  have ok' := ok
  unfold Dfn.ok at ok'
  simp only [Bool.and_eq_true, decide_eq_true_eq] at ok'
  obtain ⟨⟨o1, oa⟩, o2, o3, o4, _, o5⟩ := ok'
  refine fn_of (k := lev n + 2) lk hcd (scB_ok o2) (fun vs H Q E h => h.1) fun A outer s H vs Q E hr h => ?_
  obtain ⟨hl, G, S0, ds, wd, r, h⟩ := h
  have sok := sok_of (prim := prim) (fuel := fuel) (sa := sa) (n := n) (A := A) (outer := outer) (s := s) (H := H) (E := E) S ndo oko ih (by unfold lev; omega) oa o1 (scB_ok o2) lk hcd hr
  refine ⟨_, sSs (g := fuel) d.fn.body sok o5 G H, G, startM d.fn.ns ds, S0, Ext.refl, wd, start_ok r (by rw [o4]; exact Nat.le_refl _), ?_⟩
  have e : (callN (t.prog prim fuel) (n + 1)).call d.D.name ds S0 = runFn (callN (t.prog prim fuel) n) (xfOf t.excs) fuel d.fn ds S0 := by
    show (match prim d.D.name with
      | some p => p ds S0
      | none => (match (t.dfs.find? fun (x : Dfn) => decide (x.D.name = d.D.name)).map (fun (x : Dfn) => x.fn) with
        | some fn => runFn (callN (t.prog prim fuel) n) (xfOf t.excs) fuel fn ds S0
        | none => .stuck)) = _
    rw [hp, mem_find ndd hd]; rfl
  rw [e] at h
  unfold runFn at h
  rw [if_pos (by rw [o3, ← r.length, hl])] at h
  exact ends_of h
/-- every def of the text, at every level -/
theorem fns_all {sa : SA} (S : Stat t P w K mg base T) (ndd : (t.dfs.map (·.D.name)).Nodup) (ndo : (t.ods.map (·.D.name)).Nodup) (okd : ∀ d ∈ t.dfs, d.ok t = true ∧ prim d.D.name = none) (oko : ∀ d ∈ t.ods, d.ok t = true) : ∀ n, ∀ sh ∈ t.shapes, FnFact sa T (callN (t.prog prim fuel) n) (lev n) (cx0 P w K mg base) sh := fun n sh hs => by
  obtain ⟨d, hd, hsd⟩ := List.mem_flatMap.mp hs
  obtain ⟨fd, FD, kb⟩ := S.fnd d hd
  obtain ⟨g, hg⟩ := kb sh hsd
  have ok := (okd d hd).1
  unfold Dfn.ok at ok
  simp only [Bool.and_eq_true, decide_eq_true_eq, List.all_eq_true] at ok
  obtain ⟨ef, hl⟩ := ok.2.2.2.2.1 sh hsd
  refine ⟨He.fAd K d.D.at_, fd, d.ps, g, by rw [ef]; exact S.mgf d hd, FD.kp, ?_, hg, hl⟩
  cases n with
  | zero =>
    refine ⟨fun vs H Q E h => h.1, fun A outer s H args us vs Q E hr e0 hb hv h => ?_⟩
    obtain ⟨_, _, _, _, _, _, z⟩ := h
    exact (show False from z).elim
  | succ n =>
    rw [ef]
    exact fn_step S ndd ndo oko (fns_all S ndd ndo okd oko n) hd (okd d hd).1 (okd d hd).2 FD
termination_by n => n
end
end DW

/-! DwXf: the exception classes of the text, by what the head tells. -/
namespace DW
open PySem PySem.Spec PyProof.Rows L2
structure Xdf where
  x : XD
  D : He.DefD
structure Bdf where
  nm : Str
  ve : Bool
  D : He.DefD
def nwOf : Bool → String
  | true => "ValueError.__new__"
  | false => "LookupError.__new__"
def tlOf : Bool → List Value
  | true => [.type "ValueError", .type "Exception", .type "BaseException", .type "object"]
  | false => [.type "LookupError", .type "Exception", .type "BaseException", .type "object"]
theorem baseF_of (b : Bool) : ∃ B ini, BaseF B (nwOf b) ini (tlOf b) := by
  cases b
  · exact ⟨_, _, baseLE⟩
  · exact ⟨_, _, baseVE⟩
def excO1 (C : Addr) (nw : String) (tl : List Value) : Option Obj → Bool
  | some ⟨.type ty, _, .cls cd, sl⟩ => decide (ty = "type") && (match cd.mro, sl.toList with
    | .ref C' :: bm, [_, _, _, _, some (.builtin n), _] => decide (C' = C) && (decide (n = nw) && (!cd.hasDel && (cd.hasDict && overB tl bm)))
    | _, _ => false)
  | _ => false
def excB (K : PySem.W.Frag) (C : Addr) (nw : String) (tl : List Value) : Bool := excO1 C nw tl (K.lookup C) && (He.eqO (PySem.W.findIn K (.ref C) "__setattr__") (some (some (.builtin "object.__setattr__"))) && (decide (PySem.W.subIn K (.ref C) (.type "BaseException") = some true) && (decide (PySem.W.typeIn K (.ref C) = some (.type "type")) && PySem.W.keepIn K (.ref C))))
theorem excO1_ok {C : Addr} {nw : String} {tl : List Value} {o : Option Obj} (h : excO1 C nw tl o = true) : ∃ nm q N bs bm sn sub ab col dd k0 k1 k2 k3 k5, o = some (excClassObj nm q C N bs bm true sn sub ab col dd k0 k1 k2 k3 k5 nw) ∧ overB tl bm = true := by
  unfold excO1 at h
  split at h
  · rename_i ty dd cd sl
    rw [Bool.and_eq_true] at h
    obtain ⟨h1, h2⟩ := h
    obtain rfl := of_decide_eq_true h1
    split at h2
    · rename_i C' bm k0 k1 k2 k3 n k5 e1 e2
      simp only [Bool.and_eq_true, decide_eq_true_eq, Bool.not_eq_true'] at h2
      obtain ⟨rfl, rfl, h3, h4, h5⟩ := h2
      obtain ⟨c1, c2, c3, c4, c5, c6, c7, c8, c9, c10, c11⟩ := cd
      have es : sl = #[k0, k1, k2, k3, some (.builtin n), k5] := by
        rw [← Array.toArray_toList (xs := sl), e2]
      dsimp only at e1 h3 h4
      subst e1 h3 h4 es
      exact ⟨_, _, _, _, bm, _, _, _, _, _, k0, k1, k2, k3, k5, rfl, h5⟩
    · cases h2
  · cases h
theorem excB_ok {K : PySem.W.Frag} {C : Addr} {nw : String} {tl : List Value} (h : excB K C nw tl = true) : ExC K C nw tl := by
  unfold excB at h
  simp only [Bool.and_eq_true, decide_eq_true_eq] at h
  obtain ⟨h1, h2, h3, h4, h5⟩ := h
  exact ⟨excO1_ok h1, He.eqO_ok h2, h3, h4, h5⟩
/-! ### parameters -/
def parB : Option Str → Arguments → Bool
  | none, ⟨[], [⟨s, none, _⟩], none, [], [], none, []⟩ => decide (s = ("self" : Str))
  | some f, ⟨[], [⟨s, none, _⟩, ⟨g, none, _⟩], none, [], [], none, [_]⟩ => decide (s = ("self" : Str)) && (decide (g = f) && (decide (f = ("name" : Str)) || (decide (f = ("index" : Str)) || decide (f = ("count" : Str)))))
  | _, _ => false
def parC : Arguments → Bool
  | ⟨[], [⟨s, none, _⟩, ⟨g, none, _⟩], none, [], [], none, []⟩ => decide (s = ("self" : Str)) && decide (g = ("code" : Str))
  | _ => false
section
variable {K : PySem.W.Frag} {x qual : Str} {params : Arguments} {body : List Stmt} {scope : Scope} {dvs : List V} {kws : List (Str × V)} {fa : Addr} {fd : FuncData}
theorem binds_C (FD : FunD K x qual params body scope [] kws fa fd) (h : parC params = true) : L2.Binds K fd ["self", "code"] [] := by
  unfold parC at h
  split at h
  · rename_i s p1 g p2
    simp only [Bool.and_eq_true, decide_eq_true_eq] at h
    obtain ⟨rfl, rfl⟩ := h
    exact FD.bindsN fun kV doc pm an cdv ct us hl => match us, hl with | [_, _], _ => rfl
  · cases h
theorem binds_N (FD : FunD K x qual params body scope [] kws fa fd) (h : parB none params = true) : L2.Binds K fd ["self"] [] := by
  unfold parB at h
  split at h
  · rename_i s p1 _
    obtain rfl := of_decide_eq_true h
    exact FD.bindsN fun kV doc pm an cdv ct us hl => match us, hl with | [_], _ => rfl
  · rename_i heq; cases heq
  · cases h
theorem binds_F {f : Str} {v : V} (FD : FunD K x qual params body scope [v] kws fa fd) (h : parB (some f) params = true) : (∃ ds, Vals [v] ds ∧ L2.Binds K fd ["self", f] ds) ∧ L2.Binds K fd ["self", f] [] := by
  unfold parB at h
  split at h
  · rename_i heq; cases heq
  · rename_i s p1 g p2 e1 heq
    cases heq
    simp only [Bool.and_eq_true, Bool.or_eq_true, decide_eq_true_eq] at h
    obtain ⟨rfl, rfl, h⟩ := h
    have key : ∀ {q : Str}, (∀ (T : Addr) (kV doc pm : Value) (an : Option Addr) (cdv ct : Value) (us its : List Value), us.length = 1 → its.length = 1 → ∃ k, bindArgs (PySem.W.fnOf x qual ⟨[], [⟨"self", none, p1⟩, ⟨q, none, p2⟩], none, [], [], none, [e1]⟩ body scope (.ref T) kV doc pm an cdv ct) ⟨us, []⟩ = seqItems? (.ref T) >>= k ∧ k (some its.toArray) = pure ([("self" : Str), q].zip (us ++ its.drop 0))) →
        (∀ (T : Addr) (kV doc pm : Value) (an : Option Addr) (cdv ct : Value) (us its : List Value), us.length = 2 → its.length = 1 → ∃ k, bindArgs (PySem.W.fnOf x qual ⟨[], [⟨"self", none, p1⟩, ⟨q, none, p2⟩], none, [], [], none, [e1]⟩ body scope (.ref T) kV doc pm an cdv ct) ⟨us, []⟩ = seqItems? (.ref T) >>= k ∧ k (some its.toArray) = pure ([("self" : Str), q].zip (us ++ its.drop 1))) →
        FunD K x qual ⟨[], [⟨"self", none, p1⟩, ⟨q, none, p2⟩], none, [], [], none, [e1]⟩ body scope [v] kws fa fd → (∃ ds, Vals [v] ds ∧ L2.Binds K fd ["self", q] ds) ∧ L2.Binds K fd ["self", q] [] := fun {q} k1 k2 FD => by
      refine ⟨FD.binds1 1 0 (by simp) rfl k1, ?_⟩
      obtain ⟨ds, hv, hb⟩ := FD.binds1 2 1 (by simp) rfl k2
      cases hv
      exact hb
    rcases h with rfl | rfl | rfl
    · exact key (fun T kV doc pm an cdv ct us its h1 h2 => match us, its, h1, h2 with | [_], [_], _, _ => ⟨_, rfl, rfl⟩) (fun T kV doc pm an cdv ct us its h1 h2 => match us, its, h1, h2 with | [_, _], [_], _, _ => ⟨_, rfl, rfl⟩) FD
    · exact key (fun T kV doc pm an cdv ct us its h1 h2 => match us, its, h1, h2 with | [_], [_], _, _ => ⟨_, rfl, rfl⟩) (fun T kV doc pm an cdv ct us its h1 h2 => match us, its, h1, h2 with | [_, _], [_], _, _ => ⟨_, rfl, rfl⟩) FD
    · exact key (fun T kV doc pm an cdv ct us its h1 h2 => match us, its, h1, h2 with | [_], [_], _, _ => ⟨_, rfl, rfl⟩) (fun T kV doc pm an cdv ct us its h1 h2 => match us, its, h1, h2 with | [_, _], [_], _, _ => ⟨_, rfl, rfl⟩) FD
  · cases h
end
/-! ### the bodies -/
def restB : Option Str → List Stmt → Bool
  | none, [] => true
  | some f, [.Assign [.Attribute (.Name s _) g _] (.Name h _) _] => decide (s = ("self" : Str)) && (decide (g = f) && (decide (h = f) && noName f))
  | _, _ => false
def bodyB (base code : Str) (f : Option Str) : List Stmt → Bool
  | .Expr (.Call (.Attribute (.Name x _) m ap) [.Name s _, .Constant (.str c) _ _] [] cp) _ :: rest => decide (x = base) && (decide (m = ("__init__" : Str)) && (decide (s = ("self" : Str)) && (decide (c = code) && ((ap.endLine == cp.line) && restB f rest))))
  | _ => false
def bodyC : List Stmt → Bool
  | [.Assign [.Attribute (.Name s _) g _] (.Name h _) _] => decide (s = ("self" : Str)) && (decide (g = ("code" : Str)) && decide (h = ("code" : Str)))
  | _ => false
def dvLit : Lit → He.Dv
  | .non => .non
  | .bl b => .bl b
  | .int i => .int i
  | .str s => .str s
theorem dvLit_v (K : PySem.W.Frag) (l : Lit) : (dvLit l).v K = l.v := by cases l <;> rfl
def dflOk (x : XD) : List He.Dv → Bool
  | [] => x.fld.isNone
  | [.non] => decide (x.fld.map (·.2) = some .non)
  | [.bl b] => decide (x.fld.map (·.2) = some (.bl b))
  | [.int i] => decide (x.fld.map (·.2) = some (.int i))
  | [.str s] => decide (x.fld.map (·.2) = some (.str s))
  | _ => false
theorem dflOk_v {K : PySem.W.Frag} {x : XD} {l : List He.Dv} (h : dflOk x l = true) : l.map (He.Dv.v K) = (x.fld.map fun p => p.2.v).toList := by
  unfold dflOk at h
  split at h
  · cases q : x.fld with
    | none => rfl
    | some p => rw [q] at h; cases h
  all_goals first
    | (have h := of_decide_eq_true h
       cases q : x.fld with
       | none => rw [q] at h; cases h
       | some p =>
         rw [q] at h
         have h : p.2 = _ := Option.some.inj h
         show _ = [p.2.v]
         rw [h]; rfl)
    | (cases h; done)
/-- the text of an exception class's __init__, of a base's -/
def Xdf.txt (x : Xdf) : Bool := decide (x.D.at_ = (x.x.cls, some ("__init__" : Str))) && (scB (psI x.x.f) (psI x.x.f) x.D.scope && (decide (x.D.scope.names.lookup x.x.base = some .globalImplicit) && (noName x.x.base && (noName x.x.cls && (!decide (x.x.f = some ("code" : Str)) && (bodyB x.x.base x.x.code x.x.f x.D.body && (parB x.x.f x.D.params && dflOk x.x x.D.dfl)))))))
def Bdf.txt (b : Bdf) : Bool := decide (b.D.at_ = (b.nm, some ("__init__" : Str))) && (scB ["self", "code"] ["self", "code"] b.D.scope && (bodyC b.D.body && (parC b.D.params && b.D.dfl.isEmpty)))
def valAt (K : PySem.W.Frag) (C fb : Addr) : Bool := match PySem.W.findCls K (.ref C) (.type "type") "__init__" with
  | some (.val (.ref a)) => decide (a = fb)
  | _ => false
def Bdf.in (K : PySem.W.Frag) (b : Bdf) : Bool := PySem.W.readsIn K (He.ga K b.nm) (.type "type") && (He.eqO (PySem.W.specialIn K (.ref (He.ga K b.nm)) "__getattribute__") (some (some (.builtin "type.__getattribute__"))) && valAt K (He.ga K b.nm) (He.fAd K b.D.at_))
def Xdf.in (K : PySem.W.Frag) (ve : Bool) (hcs fls : List Str) (x : Xdf) : Bool := excB K (He.ga K x.x.cls) (nwOf ve) (tlOf ve) && (He.eqO (PySem.W.findIn K (.ref (He.ga K x.x.cls)) "code") (some none) && ((match x.x.f with
  | some f => He.eqO (PySem.W.findIn K (.ref (He.ga K x.x.cls)) f) (some none)
  | none => true) && (He.eqO (PySem.W.findIn K (.ref (He.ga K x.x.cls)) "__init__") (some (some (.ref (He.fAd K x.D.at_)))) && (decide (PySem.W.typeIn K (.ref (He.fAd K x.D.at_)) = some (.type "function")) && (xfB K (He.ga K x.x.cls) && ((fls.all fun f => He.eqO (PySem.W.findIn K (.ref (He.ga K x.x.cls)) f) (some none)) &&
  hcs.all fun h => decide (PySem.W.exmOne K (.ref (He.ga K x.x.cls)) (.ref (He.ga K h)) = some (decide (x.x.cls = h) || decide (x.x.base = h)))))))))
section
variable {P : Program} {w : World} {K : PySem.W.Frag} {mg : Str → Option Value} {base : Heap}
theorem base_ok {b : Bdf} (ht : b.txt = true) {fd : FuncData} (FD : FunD K b.D.name b.D.qual b.D.params b.D.body b.D.scope (b.D.dvs K) (b.D.kws K) (He.fAd K b.D.at_) fd) : FnOk P w K mg base CX0 1 (He.fAd K b.D.at_) fd ["self", "code"] (spB K (nwOf b.ve) (tlOf b.ve)) ∧ L2.Binds K fd ["self", "code"] [] := by
  unfold Bdf.txt at ht
  simp only [Bool.and_eq_true, decide_eq_true_eq] at ht
  obtain ⟨h1, h2, h3, h4, h5⟩ := ht
  have hdv : b.D.dvs K = [] := by
    unfold He.DefD.dvs
    rw [List.isEmpty_iff.mp h5]; rfl
  rw [hdv] at FD
  refine ⟨?_, binds_C FD h4⟩
  obtain ⟨B, ini, Fb⟩ := baseF_of b.ve
  generalize b.D.body = bd at FD h3
  unfold bodyC at h3
  split at h3
  · simp only [Bool.and_eq_true, decide_eq_true_eq] at h3
    obtain ⟨rfl, rfl, rfl⟩ := h3
    exact fn_base Fb FD (scB_ok h2)
  · cases h3
theorem xfact_of {x : Xdf} {b : Bdf} {hcs fls : List Str} (hb : b.nm = x.x.base) (ht : x.txt = true) (hbt : b.txt = true) (hi : x.in K b.ve hcs fls = true) (hbi : b.in K = true) {fd fdb : FuncData} (FD : FunD K x.D.name x.D.qual x.D.params x.D.body x.D.scope (x.D.dvs K) (x.D.kws K) (He.fAd K x.D.at_) fd)
    (FB : FunD K b.D.name b.D.qual b.D.params b.D.body b.D.scope (b.D.dvs K) (b.D.kws K) (He.fAd K b.D.at_) fdb) (hm : mg x.x.cls = some (.ref (He.ga K x.x.cls))) (hmb : mg b.nm = some (.ref (He.ga K b.nm))) : XFact (cx0 P w K mg base) x.x := by
  obtain ⟨F1, hbn⟩ := base_ok (P := P) (w := w) (mg := mg) (base := base) hbt FB
  unfold Xdf.txt at ht
  simp only [Bool.and_eq_true, decide_eq_true_eq, Bool.not_eq_true', decide_eq_false_iff_not] at ht
  obtain ⟨t1, t2, t3, t4, t5, t6, t7, t8, t9⟩ := ht
  unfold Xdf.in at hi
  simp only [Bool.and_eq_true, decide_eq_true_eq] at hi
  obtain ⟨i1, i2, i3, i4, i5, i6, i7, i8⟩ := hi
  unfold Bdf.in at hbi
  simp only [Bool.and_eq_true] at hbi
  obtain ⟨b1, b2, b3⟩ := hbi
  have cv : ClX.CVal K (He.ga K b.nm) (.type "type") "__init__" (.ref (He.fAd K b.D.at_)) (.ref (He.fAd K b.D.at_)) := by
    unfold valAt at b3
    split at b3
    · rename_i a e
      obtain rfl := of_decide_eq_true b3
      exact ⟨e, rfl⟩
    · cases b3
  obtain ⟨B, ini, Fb⟩ := baseF_of b.ve
  have hdv : x.D.dvs K = (x.x.fld.map fun p => p.2.v).toList := dflOk_v t9
  rw [hdv] at FD
  have F2 : FnOk P w K mg base CX0 2 (He.fAd K x.D.at_) fd (psI x.x.f) (spI K (nwOf b.ve) (tlOf b.ve) x.x.code x.x.f) := by
    generalize x.D.body = bd at FD t7
    unfold bodyB at t7
    split at t7
    · rename_i y py m ap s ps c j pc cp pe rest
      simp only [Bool.and_eq_true, decide_eq_true_eq] at t7
      obtain ⟨rfl, rfl, rfl, rfl, t71, t72⟩ := t7
      refine fn_init (p3 := pe) (Cb := He.ga K b.nm) Fb ?_ FD (scB_ok t2) t3 t71 (by rw [← hb]; exact hmb) (noName_at t4).1 ⟨b1, He.eqO_ok b2⟩ cv FB.kp F1 hbn
      cases qf : x.x.f with
      | none =>
        rw [qf] at t72
        unfold restB at t72
        split at t72
        · rfl
        · rename_i heq; cases heq
        · cases t72
      | some f =>
        rw [qf] at t72
        unfold restB at t72
        split at t72
        · rename_i heq; cases heq
        · rename_i heq
          cases heq
          simp only [Bool.and_eq_true, decide_eq_true_eq] at t72
          obtain ⟨rfl, rfl, rfl, t73⟩ := t72
          exact ⟨_, _, _, _, rfl, (noName_at t73).1, (noName_at t73).2.1⟩
        · cases t72
    · cases t7
  refine ⟨hm, (noName_at t5).1, t6, B, nwOf b.ve, ini, tlOf b.ve, He.fAd K x.D.at_, fd, Fb, excB_ok i1, He.eqO_ok i2, fun f hf => ?_, He.eqO_ok i4, i5, F2, ?_⟩
  · rw [hf] at i3; exact He.eqO_ok i3
  · cases qf : x.x.fld with
    | none =>
      have hxf : x.x.f = none := by unfold XD.f; rw [qf]; rfl
      rw [qf] at FD
      rw [hxf] at t8 ⊢
      exact ⟨⟨[], .nil, binds_N FD t8⟩, fun z => absurd rfl z⟩
    | some p =>
      have hxf : x.x.f = some p.1 := by unfold XD.f; rw [qf]; rfl
      rw [qf] at FD
      rw [hxf] at t8 ⊢
      obtain ⟨k1, k2⟩ := binds_F (v := p.2.v) FD t8
      exact ⟨k1, fun _ => k2⟩
end
end DW

/-! DwLaw: the law's own def; what the head must tell. -/
namespace DW
open PySem PySem.Spec PyProof.Rows L2 LamX
/-! ### how calls bind -/
def permU : List (Nat ⊕ Lit) → List Value → List Value → List Value
  | [], _, _ => []
  | .inl i :: ps, ds, us => us.getD i .none :: permU ps ds us
  | .inr _ :: ps, d :: ds, us => d :: permU ps ds us
  | .inr _ :: ps, [], us => .none :: permU ps [] us
def litsOf : List (Nat ⊕ Lit) → List Lit
  | [] => []
  | .inl _ :: ps => litsOf ps
  | .inr l :: ps => l :: litsOf ps
theorem vals_getD {vs : List V} {us : List Value} (r : Vals vs us) (i : Nat) : L2.RelV (vs.getD i .non) (us.getD i .none) := by
  rw [List.getD_eq_getElem?_getD, List.getD_eq_getElem?_getD]
  cases q : vs[i]? with
  | none =>
    have : us[i]? = none := by
      rw [List.getElem?_eq_none_iff] at q ⊢
      rw [← r.length]; exact q
    rw [this]; rfl
  | some v =>
    obtain ⟨u, e, ru⟩ := r.get q
    rw [e]; exact ru
theorem permU_rel {vs : List V} {us : List Value} (r : Vals vs us) : ∀ {perm : List (Nat ⊕ Lit)} {ds : List Value}, Vals ((litsOf perm).map Lit.v) ds → Vals (permV perm vs) (permU perm ds us)
  | [], _, _ => .nil
  | .inl i :: ps, ds, h => .cons (vals_getD r i) (permU_rel r (perm := ps) h)
  | .inr l :: ps, [], h => by cases h
  | .inr l :: ps, d :: ds, h => by
    cases h with
    | cons h1 h2 => exact .cons h1 (permU_rel r h2)
section
variable {K : PySem.W.Frag} {x qual : Str} {params : Arguments} {body : List Stmt} {scope : Scope} {dvs : List V} {kws : List (Str × V)} {fa : Addr} {fd : FuncData} {ps ks : List Str} {n : Nat} {perm : List (Nat ⊕ Lit)}
theorem kb1 (FD : FunD K x qual params body scope [] kws fa fd) (hl : litsOf perm = []) (h : ∀ (kV doc pm : Value) (an : Option Addr) (cdv ct : Value) (us ws : List Value), us.length = n → ws.length = ks.length → bindArgs (PySem.W.fnOf x qual params body scope .none kV doc pm an cdv ct) ⟨us, ks.zip ws⟩ = pure (ps.zip (permU perm [] (us ++ ws)))) :
    ∃ g, KBn K fd ps n ks g (fun vs zs => permV perm (vs ++ zs)) := by
  obtain ⟨oc, od, dV, kV, doc, pm, an, cdv, ct, osl, rfl, lk, hcd, hD, hK⟩ := FD.ex
  rcases hD with ⟨_, rfl⟩ | ⟨e, _⟩
  · exact ⟨fun us ws => permU perm [] (us ++ ws), fun s us ws _ h1 h2 => .of_eq (h kV doc pm an cdv ct us ws h1 h2), fun r1 r2 => permU_rel (r1.append r2) (by rw [hl]; exact .nil)⟩
  · exact absurd rfl e
theorem kb2 (j : Nat) (FD : FunD K x qual params body scope dvs kws fa fd) (hd : dvs ≠ []) (hl : (litsOf perm).map Lit.v = dvs.drop j) (h : ∀ (T : Addr) (kV doc pm : Value) (an : Option Addr) (cdv ct : Value) (us ws its : List Value), us.length = n → ws.length = ks.length → its.length = dvs.length →
      ∃ k, bindArgs (PySem.W.fnOf x qual params body scope (.ref T) kV doc pm an cdv ct) ⟨us, ks.zip ws⟩ = seqItems? (.ref T) >>= k ∧ k (some its.toArray) = pure (ps.zip (permU perm (its.drop j) (us ++ ws)))) : ∃ g, KBn K fd ps n ks g (fun vs zs => permV perm (vs ++ zs)) := by
  obtain ⟨oc, od, dV, kV, doc, pm, an, cdv, ct, osl, rfl, lk, hcd, hD, hK⟩ := FD.ex
  rcases hD with ⟨e, _⟩ | ⟨_, T, o, its, m, rfl, lT, oT, rT⟩
  · exact absurd e hd
  · refine ⟨fun us ws => permU perm (its.drop j) (us ++ ws), fun s us ws X h1 h2 => ?_, fun r1 r2 => permU_rel (r1.append r2) (by rw [hl]; exact rT.drop j)⟩
    obtain ⟨k, e1, e2⟩ := h T kV doc pm an cdv ct us ws its h1 h2 rT.length.symm
    refine BindsTo.of_looks fun M => ?_
    rw [e1]
    exact looks_items X lT oT (.of_pure e2)
theorem kb3 (ms : List (Str × V)) (FD : FunD K x qual params body scope [] kws fa fd) (hk : kws ≠ []) (hms : ∀ q ∈ ms, q ∈ kws) (hl : (litsOf perm).map Lit.v = ms.map (·.2)) (h : ∀ (D : Addr) (doc pm : Value) (an : Option Addr) (cdv ct : Value) (us ws mv : List Value), us.length = n → ws.length = ks.length → mv.length = ms.length →
      KwChain D ((ms.map (·.1)).zip mv) (bindArgs (PySem.W.fnOf x qual params body scope .none (.ref D) doc pm an cdv ct) ⟨us, ks.zip ws⟩) (ps.zip (permU perm mv (us ++ ws)))) : ∃ g, KBn K fd ps n ks g (fun vs zs => permV perm (vs ++ zs)) := by
  obtain ⟨oc, od, dV, kV, doc, pm, an, cdv, ct, osl, rfl, lk, hcd, hD, hK⟩ := FD.ex
  rcases hD with ⟨_, rfl⟩ | ⟨e, _⟩
  · rcases hK with e | ⟨D, rfl, hq⟩
    · exact absurd e hk
    · obtain ⟨mv, hlen, rk, hks⟩ := kwd_vals (ms := ms) fun q hm => hq q (hms q hm)
      exact ⟨fun us ws => permU perm mv (us ++ ws), fun s us ws X h1 h2 => BindsTo.of_looks fun M => KwChain.looks X hks (h D doc pm an cdv ct us ws mv h1 h2 hlen), fun r1 r2 => permU_rel (r1.append r2) (by rw [hl]; exact rk)⟩
  · exact absurd rfl e
end
/-! ### the source is made -/
def spSrc (K : PySem.W.Frag) : Sp := fun vs H Q _ => ∃ (a : Addr) (ns : List Int), vs = [.ref a] ∧ SqL K H a (ns.map V.int) ∧ ns.length ≤ 1000 ∧ ∀ (c s : Addr) (H' : Hp), H c = none → H s = none → c ≠ s → H' s = some (.lst [.ref c, .int 0, .int 0, .int 4711]) → H' c = some (.lst ((ns.take 63).map V.int)) → (∀ b u, H b = some u → H' b = some u) → Q (.ref s) H'
def srcB (sc : Scope) (a : Str) : List Stmt → Bool
  | [.Return (some (.List [.Call (.Name l _) [.Subscript (.Name y _) (.Slice none (some (.Constant (.int k) _ _)) none _) _] [] _, .Constant (.int z1) _ _, .Constant (.int z2) _ _, .Constant (.int z3) _ _] _)) _] => decide (l = ("list" : Str)) && (decide (y = a) && (decide (k = 63) && (decide (z1 = 0) && (decide (z2 = 0) && (decide (z3 = 4711) && (decide (sc.names.lookup l = some .globalImplicit) && noName a))))))
  | _ => false
section
variable {P : Program} {w : World} {K : PySem.W.Frag} {mg : Str → Option Value} {base : Heap}
theorem cut63 (ns : List Int) (h : ns.length ≤ 1000) : cutV (ns.map V.int) none (some 63) = (ns.take 63).map V.int := by
  unfold cutV
  have e1 : HT.sIx (ns.map V.int).length 0 none = 0 := rfl
  have e2 : HT.sIx (ns.map V.int).length (ns.map V.int).length (some 63) = min 63 ns.length := by
    rw [List.length_map]
    unfold HT.sIx
    simp
    try omega
  rw [e1, e2, List.drop_zero, Nat.sub_zero, ← List.map_take]
  congr 1
  rw [List.take_eq_take_iff]
  omega
theorem src_ok {x qual a : Str} {params : Arguments} {body : List Stmt} {scope : Scope} {dvs : List V} {kws : List (Str × V)} {fa : Addr} {fd : FuncData} (FD : FunD K x qual params body scope dvs kws fa fd) (sc : FnScope [a] [a] scope) (h : srcB scope a body = true) (hl : mg "list" = none) : FnOk P w K mg base CX0 1 fa fd [a] (spSrc K) := by
  unfold srcB at h
  split at h
  · simp only [Bool.and_eq_true, decide_eq_true_eq] at h
    obtain ⟨rfl, rfl, rfl, rfl, rfl, rfl, h1, h2⟩ := h
    refine FD.ok (k := 0) sc (fun vs H Q E ⟨a, ns, e, _⟩ => by rw [e]; rfl) fun cdv A outer s H vs Q E hr hh => ?_
    obtain ⟨a, ns, rfl, hq, hz, q⟩ := hh
    have va : Vis scope _ := vis_par sc (List.mem_cons_self ..)
    refine ⟨_, pss_one (ps_ret (pe_lst (pa_cons (pe_callTy call_list_of h1 hl (biN_boot .list) (pa_cons (pe_slice sl_list (pe_var (i := 0) rfl va (noName_at h2).1 (noName_at h2).2.1) po_none (po_some pe_int)) pa_nil)) (pa_cons pe_int (pa_cons pe_int (pa_cons pe_int pa_nil)))))), ?_⟩
    refine ⟨.ref a, rfl, 63, rfl, a, _, rfl, hq, fun t ht => ⟨t, _, rfl, .inl (.inl (.inl upd_same)), fun c hc => ⟨by rw [sizeLine_eq]; simp, fun s1 hs => ?_⟩⟩⟩
    rw [cut63 ns hz] at hc hs ⊢
    have ct : c ≠ t := fun z => by rw [z, upd_same] at hc; cases hc
    rw [upd_ne ct] at hc
    have sc1 : s1 ≠ c := fun z => by rw [z, upd_same] at hs; cases hs
    rw [upd_ne sc1] at hs
    have st : s1 ≠ t := fun z => by rw [z, upd_same] at hs; cases hs
    rw [upd_ne st] at hs
    refine q c s1 _ hc hs sc1.symm upd_same ?_ fun b u hb => ?_
    · rw [upd_ne sc1.symm, upd_same]
    · rw [upd_ne (ne_of_none hb hs), upd_ne (ne_of_none hb hc), upd_ne (ne_of_none hb ht)]; exact hb
  · cases h
/-! ### the law -/
def memS (ns i : Nat) : Mem := (List.replicate ns none).set i (some (false, .src))
def firstB (d : Dfn) (i : Nat) (sn : Str) (sc : List (Str × NameKind)) (t : Txt) : List Stmt → Bool
  | .Assign [.Name y _] (.Call (.Name f _) [.Name z _] [] _) _ :: rest => decide (d.N[i]? = some y) && ((match sc.lookup y with
    | some .local => true
    | some .cell => true
    | _ => false) && (decide (f = sn) && (decide (d.ps = [z]) && (noName z && (glB sc f && okSs (t.cn d.N sc (decide (d.D.name ∈ t.lams))) d.fn.body rest)))))
  | _ => false
def lawB (t : Txt) (d : Dfn) (i : Nat) (sn : Str) : Bool := (decide (d.D.name = d.D.qual) && decide (d.D.at_ = (d.D.name, none))) && (scB d.N d.ps d.D.scope && (decide (d.fn.ns = d.N.length) && firstB d i sn d.D.scope.names t d.D.body))
def spLaw (K : PySem.W.Frag) (T : List (Addr × Str)) (Pg : Prog) (n : Nat) (d : Dfn) (i : Nat) : Sp := fun vs H Q _ => ∃ (a : Addr) (ns : List Int), vs = [.ref a] ∧ d.ps.length = 1 ∧ SqL K H a (ns.map V.int) ∧ ns.length ≤ 1000 ∧ (∀ p ∈ T, H p.1 = some (.tbl #[])) ∧ (∀ H', Q (.bl true) H') ∧
  ∃ o S', exs (callN Pg n) Pg.xf Pg.fuel d.fn.body (memS d.fn.ns i) ⟨ns.take 63, 0, 0, 4711⟩ = .ret (o, .bl true) S'
theorem law_fn {t : Txt} {T : List (Addr × Str)} {prim : Str → Option (List D → Src → R (Bool × D))} {fuel n i : Nat} {d : Dfn} {sn : Str} {fs : Addr} {fds : FuncData} {b : Str} (S : Stat t P w K mg base T) (ndd : (t.dfs.map (·.D.name)).Nodup) (ndo : (t.ods.map (·.D.name)).Nodup) (okd : ∀ d ∈ t.dfs, d.ok t = true ∧ prim d.D.name = none) (oko : ∀ d ∈ t.ods, d.ok t = true)
    (hl : lawB t d i sn = true) {fd : FuncData} (FD : FunD K d.D.name d.D.qual d.D.params d.D.body d.D.scope (d.D.dvs K) (d.D.kws K) (He.fAd K d.D.at_) fd) (FS : FnOk P w K mg base CX0 1 fs fds [b] (spSrc K)) (hms : mg sn = some (.ref fs)) (kps : PySem.W.keepIn K (.ref fs) = true) (hbs : L2.Binds K fds [b] []) :
    FnOk P w K mg base (L2.CX P w) (lev (n + 1)) (He.fAd K d.D.at_) fd d.ps (spLaw K T (t.prog prim fuel) n d i) := by
  obtain ⟨oc, od, dV, kV, doc, pm, an, cdv, ct, osl, rfl, lk, hcd, _, _⟩ := FD.ex
  unfold lawB at hl
  simp only [Bool.and_eq_true, decide_eq_true_eq] at hl
  obtain ⟨⟨o1, oa⟩, o2, o3, o4⟩ := hl
  have sc := scB_ok o2
  have fin : ∀ bd, d.D.body = bd → firstB d i sn d.D.scope.names t bd = true → ∀ (A : Around) (outer : List PySem.Env) (s : Shared) (H : Hp) (vs : List V) (Q : VK) (E : XK), Room (lev n + 2) (A.deeper (envOfC d.D.qual d.D.scope s.heap.objs.size (He.fAd K d.D.at_) cdv)) → spLaw K T (t.prog prim fuel) n d i vs H Q E →
      ∃ t1, PSs (cxOf (L2.CX P w) P w K mg base d.N d.D.qual d.D.scope (He.fAd K d.D.at_) cdv A outer s H E) bd t1 ∧ t1 { nx := fun _ H' => Q .non H', rt := Q } (L2.start d.N vs) H := by
    intro bd eb hf A outer s H vs Q E hr h
    obtain ⟨a, ns, rfl, hp1, hq, hz, htab, hQ, o, S', hev⟩ := h
    unfold firstB at hf
    split at hf
    · rename_i y py f pf z pz pc ps rest
      simp only [Bool.and_eq_true, decide_eq_true_eq] at hf
      obtain ⟨f1, f2, rfl, f4, f5, f6, f7⟩ := hf
      have sok := fun sa : SA => sok_of (prim := prim) (fuel := fuel) (sa := sa) (n := n) (A := A) (outer := outer) (s := s) (H := H) (E := E) S ndo oko (fns_all S ndd ndo okd oko n) (by unfold lev; omega) oa o1 sc lk hcd hr
      have hloc : L2.Loc d.D.scope y := by
        unfold L2.Loc
        split at f2
        · exact .inl (by assumption)
        · exact .inr (by assumption)
        · cases f2
      have hgl : d.D.scope.names.lookup f = some .globalImplicit ∧ (f == ("__debug__" : Str)) = false := by
        unfold glB at f6
        split at f6
        · rename_i e
          exact ⟨e, (noName_at f6).1⟩
        · cases f6
      have vz : Vis d.D.scope z := vis_par sc (by rw [f4]; exact List.mem_cons_self ..)
      have nz : d.N[0]? = some z := by
        have hp := sc.pre
        rw [f4] at hp
        cases qn : d.N with
        | nil => rw [qn] at hp; cases hp
        | cons x xs => rw [qn] at hp; simp at hp; rw [hp]; rfl
      have first := ps_set (X := cxOf (L2.CX P w) P w K mg base d.N d.D.qual d.D.scope (He.fAd K d.D.at_) cdv A outer s H E) (i := i) (pos := ps) (pos' := py) sc.nd f1 hloc (pe_call (pos := pc) (p := pf) (E := E0) FS (hr.mono (by unfold lev; omega)) hgl.1 hms kps hbs .nil pass0 (pa_cons (pe_var (i := 0) (pos := pz) nz vz (noName_at f5).1 (noName_at f5).2.1) pa_nil) hgl.2) (by rfl) (.inl rfl)
      have more : PSs (cxOf (L2.CX P w) P w K mg base d.N d.D.qual d.D.scope (He.fAd K d.D.at_) cdv A outer s H E) rest (fun Dn σ H => ∃ q : SA × Hp × Hp, TSs K q.1 T (callN (t.prog prim fuel) n) (xfOf t.excs) fuel (fun _ => E) q.2.1 q.2.2 d.fn.body Dn σ H) := pss_any fun q => sSs (g := fuel) d.fn.body (sok q.1) f7 q.2.1 q.2.2
      refine ⟨_, pss_cons first more, ?_⟩
      refine ⟨.ref a, rfl, a, ns, rfl, hq, hz, fun c s1 H' nc nss ne h1 h2 h3 => ?_⟩
      have cne : s1 ≠ c := ne.symm
      have wd : Wd K (s1, c) T (fun b => if b = c then some (.lst ((ns.take 63).map V.int)) else none) H' ⟨ns.take 63, 0, 0, 4711⟩ := by
        refine ⟨fun b u e => ?_, ⟨_, h1, if_pos rfl, rfl, ?_⟩, if_neg cne, fun p hp => TabS.nil (h3 _ _ (htab p hp))⟩
        · by_cases hb : b = c
          · subst hb
            rw [if_pos rfl] at e
            cases e
            exact ⟨trivial, .inl h2⟩
          · rw [if_neg hb] at e; cases e
        · show (ns.take 63).length ≤ lim
          rw [List.length_take]; unfold lim; omega
      refine ⟨((s1, c), _, H'), _, memS d.fn.ns i, ⟨ns.take 63, 0, 0, 4711⟩, Ext.refl, wd, ?_, ?_⟩
      · have lenS : (L2.start d.N [V.ref a]).length = d.N.length := by
          unfold L2.start
          rw [List.length_append, List.length_map, List.length_replicate, List.length_cons, List.length_nil]
          have : 0 < d.N.length := (List.getElem?_eq_some_iff.mp nz).1
          omega
        have key : ∀ (j : Nat) (bo : Bool) (dd : D), (memS d.fn.ns i)[j]? = some (some (bo, dd)) → j = i ∧ bo = false ∧ dd = .src := fun j bo dd e => by
          rcases set_get e with ⟨rfl, z, _⟩ | ⟨_, e⟩
          · cases z; exact ⟨rfl, rfl, rfl⟩
          · rw [List.getElem?_replicate] at e
            split at e <;> cases e
        have il : i < d.N.length := (List.getElem?_eq_some_iff.mp f1).1
        refine ⟨?_, fun j dd e => ?_, fun j dd e => ?_, fun j l dd d' _ e _ => ?_⟩
        · unfold memS
          rw [List.length_set, List.length_set, List.length_replicate, lenS, o3]
          exact Nat.le_refl _
        · obtain ⟨rfl, _, rfl⟩ := key j false dd e
          exact ⟨.ref s1, List.getElem?_set_self (by rw [lenS]; exact il), by rw [Rep]⟩
        · obtain ⟨_, z, _⟩ := key j true dd e
          cases z
        · obtain ⟨_, z, _⟩ := key j true dd e
          cases z
      · show spost K (s1, c) T (fun _ => E) _ H' (exs (callN (t.prog prim fuel) n) (xfOf t.excs) fuel d.fn.body (memS d.fn.ns i) ⟨ns.take 63, 0, 0, 4711⟩) _
        have hev : exs (callN (t.prog prim fuel) n) (xfOf t.excs) fuel d.fn.body (memS d.fn.ns i) ⟨ns.take 63, 0, 0, 4711⟩ = .ret (o, .bl true) S' := hev
        rw [hev]
        intro v G2 H2 _ _ r
        cases o with
        | false =>
          have r : Rep K (s1, c) G2 (.bl true) v := r
          rw [Rep] at r
          subst r
          exact hQ H2
        | true =>
          obtain ⟨aa, u, _, _, _, _, ru⟩ := (show ∃ aa u, v = .ref aa ∧ H' aa = none ∧ G2 aa = none ∧ H2 aa = some u ∧ RepU K (s1, c) G2 (.bl true) u from r)
          cases u <;> exact ru.elim
    · cases hf
  exact fn_of (k := lev n + 2) lk hcd sc (fun vs H Q E ⟨_, _, e, hp1, _⟩ => by rw [e, hp1]; rfl) fun A outer s H vs Q E hr h => fin _ rfl o4 A outer s H vs Q E hr h
end
end DW

/-! DwEnd: from what the head tells to the law. -/
namespace DW
open PySem PySem.Spec PyProof.Rows L2 LamX
/-- a def of the top; a class's method -/
def noD : He.DefD := ⟨("", none), "", "", ⟨[], [], none, [], [], none, []⟩, [], ⟨.function, [], false, false, []⟩, [], []⟩
def defD (s : Stmt) (dfl : List He.Dv) (kwd : List (Str × He.Dv)) : He.DefD := match s with
  | .FunctionDef n a b _ _ _ sc _ _ _ => ⟨(n, none), n, n, a, b, sc, dfl, kwd⟩
  | _ => noD
def metD (s : Stmt) (j : Nat) (dfl : List He.Dv) (kwd : List (Str × He.Dv)) : He.DefD := match s with
  | .ClassDef c _ _ body _ _ _ _ _ _ _ => (match body.getD j (.Pass ⟨0, 0, 0, 0⟩) with
    | .FunctionDef n a b _ _ _ sc _ _ _ => ⟨(c, some n), n, c ++ "." ++ n, a, b, sc, dfl, kwd⟩
    | _ => noD)
  | _ => noD
structure LT where
  t : Txt
  xdfs : List Xdf
  bdfs : List Bdf
  law : Dfn
  i : Nat
  src : He.DefD
  sa : Str
def KbOk (d : Dfn) : Prop := ∀ (K : PySem.W.Frag) (fd : FuncData), FunD K d.D.name d.D.qual d.D.params d.D.body d.D.scope (d.D.dvs K) (d.D.kws K) (He.fAd K d.D.at_) fd → ∀ sh ∈ d.shs, ∃ g, KBn K fd d.ps sh.np sh.ks g (fun vs zs => permV sh.perm (vs ++ zs))
/-- one parameter of such a name -/
def oneB (a : Str) : Arguments → Bool
  | ⟨[], [⟨s, none, _⟩], none, [], [], none, []⟩ => decide (s = a) && (decide (a = ("_law_script" : Str)) || (decide (a = ("_law_call" : Str)) || decide (a = ("_law_call_here" : Str))))
  | _ => false
theorem one_bind {a x qual : Str} {params : Arguments} {body : List Stmt} {scope : Scope} (h : oneB a params = true) (kV doc pm : Value) (an : Option Addr) (cdv ct : Value) (us : List Value) (hl : us.length = [a].length) : bindArgs (PySem.W.fnOf x qual params body scope .none kV doc pm an cdv ct) ⟨us, []⟩ = pure ([a].zip us) := by
  unfold oneB at h
  split at h
  · simp only [Bool.and_eq_true, Bool.or_eq_true, decide_eq_true_eq] at h
    obtain ⟨rfl, rfl | rfl | rfl⟩ := h
    · exact match us, hl with | [_], _ => rfl
    · exact match us, hl with | [_], _ => rfl
    · exact match us, hl with | [_], _ => rfl
  · cases h
def glFa : Str × Gc → List He.Fa
  | (x, .lit (.int i)) => [.int x i]
  | (x, .lit (.str s)) => [.str x s]
  | (x, .tup _) => [.glo x]
  | _ => []
def glIn (K : PySem.W.Frag) : Str × Gc → Bool
  | (_, .lit (.int _)) => true
  | (_, .lit (.str _)) => true
  | (x, .tup ls) => He.tupB K x (ls.map dvLit) && decide (ls.length ≤ lim)
  | _ => false
def LT.fn (L : LT) : List He.DefD := L.t.dfs.map (·.D) ++ (L.t.ods.map (·.D) ++ (L.law.D :: L.src :: (L.xdfs.map (·.D) ++ L.bdfs.map (·.D))))
def LT.fa (L : LT) : List He.Fa := L.t.dfs.map (fun d => .glo d.D.name) ++ (L.t.ods.map (fun d => .glo d.D.name) ++ (.glo L.law.D.name :: .glo L.src.name :: (L.t.free.map He.Fa.free ++ (L.t.gl.flatMap glFa ++ (L.t.hcs.map He.Fa.glo ++ (L.t.excs.map (fun x => He.Fa.glo x.cls) ++ L.bdfs.map fun b => He.Fa.glo b.nm))))))
def LT.ve (L : LT) (x : XD) : Option Bdf := L.bdfs.find? fun b => decide (b.nm = x.base)
def LT.ex (L : LT) (K : PySem.W.Frag) : Bool := (L.xdfs.all fun x => match L.ve x.x with
  | some b => x.in K b.ve L.t.hcs L.t.fls
  | none => false) && ((L.bdfs.all fun b => b.in K) && ((L.t.gl.all (glIn K)) && L.t.lams.all fun x => L.t.lams.all fun y => decide (x = y) || !decide ((He.cT K (x, none)).2 = (He.cT K (y, none)).2)))
/-- what is checked of the text alone -/
def LT.ok (L : LT) : Bool := decide ((L.t.dfs.map (·.D.name)).Nodup) && (decide ((L.t.ods.map (·.D.name)).Nodup) && ((L.t.dfs.all fun d => d.ok L.t) && ((L.t.ods.all fun d => d.ok L.t && (oneB d.a d.D.params && (d.D.dfl.isEmpty && decide (d.D.at_ = (d.D.name, none))))) && (lawB L.t L.law L.i L.src.name && ((decide (L.src.at_ = (L.src.name, none)) && (decide (L.law.ps = [("_law_script" : Str)]) && (oneB "_law_script" L.law.D.params && L.law.D.dfl.isEmpty))) &&
  ((scB [L.sa] [L.sa] L.src.scope && (srcB L.src.scope L.sa L.src.body && (oneB L.sa L.src.params && L.src.dfl.isEmpty))) && (decide (L.t.excs = L.xdfs.map (·.x)) && ((L.xdfs.all fun x => x.txt && (L.ve x.x).isSome) && ((L.bdfs.all fun b => b.txt) && (decide (("list" : Str) ∈ L.t.free) && (L.t.lams.all fun x => decide (x = L.law.D.name) || (L.t.dfs.map (·.D.name)).contains x)))))))))))
section
variable {P : Program} {w : World} {K : PySem.W.Frag} {mg : Str → Option Value} {base h : Heap} {L : LT}
def LT.T (L : LT) (K : PySem.W.Frag) : List (Addr × Str) := L.t.lams.map fun x => ((He.cT K (x, none)).2, lamQ x)
def LT.cs (L : LT) (K : PySem.W.Frag) : List (Addr × Addr) := L.t.lams.map fun x => He.cT K (x, none)
theorem stat_of (ok : L.ok = true) (kb : ∀ d ∈ L.t.dfs, KbOk d) (X : K.In h) (G : h.Ns mainGlobals mg) (c : He.SaysX L.fa L.fn [] (L.t.lams.map fun x => (x, none)) L.ex w h K) (hT : ∀ p ∈ L.cs K, TabB base mg p.1 p.2) : Stat L.t P w K mg base (L.T K) := by
  unfold LT.ok at ok
  simp only [Bool.and_eq_true, decide_eq_true_eq, List.all_eq_true] at ok
  obtain ⟨n1, n2, n3, n4, n5, n6, n7, n8, n9, n10, n11, n12⟩ := ok
  have more := c.more
  unfold LT.ex at more
  simp only [Bool.and_eq_true, List.all_eq_true] at more
  obtain ⟨m1, m2, m3, m4⟩ := more
  have sd := c.t.d
  have fact : ∀ {f : He.Fa}, f ∈ L.fa → f.ok K = true := fun hf => sd.facts hf
  have defs : ∀ {d : He.DefD}, d ∈ L.fn → ∃ fd, FunD K d.name d.qual d.params d.body d.scope (d.dvs K) (d.kws K) (He.fAd K d.at_) fd := fun hf => sd.defs hf
  have ad : ∀ {d : He.DefD}, d.at_ = (d.name, none) → He.fAd K d.at_ = He.ga K d.name := fun e => by rw [e]; rfl
  have inD : ∀ {d : He.DefD}, d ∈ L.t.dfs.map (·.D) → d ∈ L.fn := fun hd => List.mem_append_left _ hd
  have inO : ∀ {d : He.DefD}, d ∈ L.t.ods.map (·.D) → d ∈ L.fn := fun hd => List.mem_append_right _ (List.mem_append_left _ hd)
  have inX : ∀ {d : He.DefD}, d ∈ L.xdfs.map (·.D) → d ∈ L.fn := fun hd => List.mem_append_right _ (List.mem_append_right _ (List.mem_cons_of_mem _ (List.mem_cons_of_mem _ (List.mem_append_left _ hd))))
  have inB : ∀ {d : He.DefD}, d ∈ L.bdfs.map (·.D) → d ∈ L.fn := fun hd => List.mem_append_right _ (List.mem_append_right _ (List.mem_cons_of_mem _ (List.mem_cons_of_mem _ (List.mem_append_right _ hd))))
  have deep : ∀ {f : He.Fa}, f ∈ L.t.free.map He.Fa.free ++ (L.t.gl.flatMap glFa ++ (L.t.hcs.map He.Fa.glo ++ (L.t.excs.map (fun x => He.Fa.glo x.cls) ++ L.bdfs.map fun b => He.Fa.glo b.nm))) → f ∈ L.fa := fun hf => List.mem_append_right _ (List.mem_append_right _ (List.mem_cons_of_mem _ (List.mem_cons_of_mem _ hf)))
  have glo : ∀ {x : Str}, He.Fa.glo x ∈ L.fa → mg x = some (.ref (He.ga K x)) := fun hf => He.glo_ok X G (fact hf)
  refine ⟨fun d hd => ?_, fun d hd => ?_, fun d hd => ?_, fun d hd => ?_, fun x hx => ?_, fun x g hx => ?_, fun x hx => ?_, ⟨fun x hx => ?_, fun x hx f hf => ?_, fun x hx hc hhc => ?_, fun hc hhc => ?_⟩, fun x hx => ?_⟩
  · obtain ⟨fd, FD⟩ := defs (inD (List.mem_map.mpr ⟨d, hd, rfl⟩))
    exact ⟨fd, FD, kb d hd K fd FD⟩
  · have okd := n3 d hd
    unfold Dfn.ok at okd
    simp only [Bool.and_eq_true, decide_eq_true_eq] at okd
    rw [ad okd.1.2]
    exact glo (List.mem_append_left _ (List.mem_map.mpr ⟨d, hd, rfl⟩))
  · obtain ⟨fd, FD⟩ := defs (inO (List.mem_map.mpr ⟨d, hd, rfl⟩))
    obtain ⟨_, g1, g2, g3⟩ := n4 d hd
    have hdv : d.D.dvs K = [] := by
      unfold He.DefD.dvs
      rw [List.isEmpty_iff.mp g2]; rfl
    rw [hdv] at FD
    exact ⟨fd, FD, FD.bindsN fun kV doc pm an cdv ct us hl => one_bind g1 kV doc pm an cdv ct us hl⟩
  · rw [ad (n4 d hd).2.2.2]
    exact glo (List.mem_append_right _ (List.mem_append_left _ (List.mem_map.mpr ⟨d, hd, rfl⟩)))
  · exact He.free_ok X G (fact (deep (List.mem_append_left _ (List.mem_map.mpr ⟨x, hx, rfl⟩))))
  · have hm : (x, g) ∈ L.t.gl := PySem.mem_of_lookup hx
    have hin := m3 (x, g) hm
    have hfa : ∀ {f : He.Fa}, f ∈ glFa (x, g) → f ∈ L.fa := fun hf => deep (List.mem_append_right _ (List.mem_append_left _ (List.mem_flatMap.mpr ⟨(x, g), hm, hf⟩)))
    cases g with
    | lit l =>
      cases l with
      | int i =>
        obtain ⟨t, e⟩ := He.int_ok X G (fact (hfa (List.mem_singleton.mpr rfl)))
        exact ⟨_, e, t, rfl⟩
      | str s =>
        obtain ⟨t, e⟩ := He.str_ok X G (fact (hfa (List.mem_singleton.mpr rfl)))
        exact ⟨_, e, t, rfl⟩
      | non => cases hin
      | bl b => cases hin
    | tup ls =>
      have hin : (He.tupB K x (ls.map dvLit) && decide (ls.length ≤ lim)) = true := hin
      rw [Bool.and_eq_true] at hin
      refine ⟨He.ga K x, glo (hfa (List.mem_singleton.mpr rfl)), of_decide_eq_true hin.2, ?_⟩
      have := He.tupB_ok hin.1 (fun _ => none)
      rw [List.map_map] at this
      have e : (He.Dv.v K ∘ dvLit) = Lit.v := funext fun l => dvLit_v K l
      rw [e] at this
      exact this
  · rw [n8] at hx
    obtain ⟨xd, hxd, rfl⟩ := List.mem_map.mp hx
    obtain ⟨ht, hv⟩ := n9 xd hxd
    obtain ⟨b, hb⟩ := Option.isSome_iff_exists.mp hv
    have hbm : b ∈ L.bdfs := List.mem_of_find?_eq_some hb
    have hbn : b.nm = xd.x.base := by simpa using List.find?_some hb
    have hi := m1 xd hxd
    rw [hb] at hi
    obtain ⟨fd, FD⟩ := defs (inX (List.mem_map.mpr ⟨xd, hxd, rfl⟩))
    obtain ⟨fdb, FB⟩ := defs (inB (List.mem_map.mpr ⟨b, hbm, rfl⟩))
    refine xfact_of hbn ht (n10 b hbm) hi (m2 b hbm) FD FB (glo (deep ?_)) (glo (deep ?_))
    · refine List.mem_append_right _ (List.mem_append_right _ (List.mem_append_right _ (List.mem_append_left _ (List.mem_map.mpr ⟨xd.x, ?_, rfl⟩))))
      rw [n8]; exact hx
    · exact List.mem_append_right _ (List.mem_append_right _ (List.mem_append_right _ (List.mem_append_right _ (List.mem_map.mpr ⟨b, hbm, rfl⟩))))
  all_goals try
    rw [n8] at hx
    obtain ⟨xd, hxd, rfl⟩ := List.mem_map.mp hx
    obtain ⟨ht, hv⟩ := n9 xd hxd
    obtain ⟨b, hb⟩ := Option.isSome_iff_exists.mp hv
    have hi := m1 xd hxd
    rw [hb] at hi
    have hi : xd.in K b.ve L.t.hcs L.t.fls = true := hi
    unfold Xdf.in at hi
    simp only [Bool.and_eq_true, decide_eq_true_eq, List.all_eq_true] at hi
    obtain ⟨i1, i2, i3, i4, i5, i6, i7, i8⟩ := hi
  · exact xfB_ok i6
  · exact He.eqO_ok (i7 f hf)
  · exact i8 hc hhc
  · exact glo (deep (List.mem_append_right _ (List.mem_append_right _ (List.mem_append_left _ (List.mem_map.mpr ⟨hc, hhc, rfl⟩)))))
  · refine ⟨hT _ (List.mem_map.mpr ⟨x, hx, rfl⟩), List.mem_map.mpr ⟨x, hx, rfl⟩, fun p hp e => ?_⟩
    obtain ⟨y, hy, rfl⟩ := List.mem_map.mp hp
    have := m4 x hx y hy
    rw [Bool.or_eq_true, decide_eq_true_eq, Bool.not_eq_true', decide_eq_false_iff_not] at this
    rcases this with rfl | z
    · rfl
    · exact absurd e.symm z
/-- the law, by what its text computes -/
theorem law_at {l : PySem.W.OpenLaw} {fuel n : Nat} {fa : Addr} (ok : L.ok = true) (kb : ∀ d ∈ L.t.dfs, KbOk d) (X : K.In h) (G : h.Ns mainGlobals mg) (c : He.SaysX L.fa L.fn [] (L.t.lams.map fun x => (x, none)) L.ex w h K) (hfa : mg L.law.D.name = some (.ref fa))
    (main : ∀ ns : List Int, ns.length ≤ 63 → ∃ o S', exs (callN (L.t.prog (fun _ => none) fuel) n) (xfOf L.t.excs) fuel L.law.fn.body (memS L.law.fn.ns L.i) ⟨ns, 0, 0, 4711⟩ = .ret (o, .bl true) S') :
    LawAtS l w K (L2.CX l.prog w) (lev (n + 1)) 63 "_law_script" mg fa h := by
  have ok0 := ok
  unfold LT.ok at ok
  simp only [Bool.and_eq_true, decide_eq_true_eq, List.all_eq_true] at ok
  obtain ⟨n1, n2, n3, n4, n5, ⟨n61, n62, n63, n64⟩, ⟨n71, n72, n73, n74⟩, n8, n9, n10, n11, n12⟩ := ok
  have sd := c.t.d
  have inL : L.law.D ∈ L.fn := List.mem_append_right _ (List.mem_append_right _ (List.mem_cons_self ..))
  have inS : L.src ∈ L.fn := List.mem_append_right _ (List.mem_append_right _ (List.mem_cons_of_mem _ (List.mem_cons_self ..)))
  obtain ⟨fd, FD⟩ := sd.defs inL
  obtain ⟨fds, FS⟩ := sd.defs inS
  have gl : mg L.law.D.name = some (.ref (He.ga K L.law.D.name)) := He.glo_ok X G (sd.facts (List.mem_append_right _ (List.mem_append_right _ (List.mem_cons_self ..))))
  have gs : mg L.src.name = some (.ref (He.ga K L.src.name)) := He.glo_ok X G (sd.facts (List.mem_append_right _ (List.mem_append_right _ (List.mem_cons_of_mem _ (List.mem_cons_self ..)))))
  have n5' := n5
  unfold lawB at n5'
  simp only [Bool.and_eq_true, decide_eq_true_eq] at n5'
  have el : He.fAd K L.law.D.at_ = fa := by
    rw [n5'.1.2]
    show He.ga K L.law.D.name = fa
    rw [gl] at hfa
    cases hfa; rfl
  have es : He.fAd K L.src.at_ = He.ga K L.src.name := by rw [n61]; rfl
  have dv1 : L.law.D.dvs K = [] := by
    unfold He.DefD.dvs
    rw [List.isEmpty_iff.mp n64]; rfl
  have dv2 : L.src.dvs K = [] := by
    unfold He.DefD.dvs
    rw [List.isEmpty_iff.mp n74]; rfl
  have FD1 := FD
  rw [dv1] at FD1
  have FS1 := FS
  rw [dv2] at FS1
  refine ⟨fd, L.cs K, spLaw K (L.T K) (L.t.prog (fun _ => none) fuel) n L.law L.i, fun p hp => ?_, fun p hp => ?_, fun p hp => ?_, fun s u => ?_, fun H a ns hl _ htb hq => ?_, fun bs hK hG hT => ?_⟩
  · obtain ⟨x, hx, rfl⟩ := List.mem_map.mp hp
    exact c.empty (x, none) (List.mem_map.mpr ⟨x, hx, rfl⟩)
  · obtain ⟨x, hx, rfl⟩ := List.mem_map.mp hp
    exact c.out (x, none) (List.mem_map.mpr ⟨x, hx, rfl⟩)
  · obtain ⟨x, hx, rfl⟩ := List.mem_map.mp hp
    exact PySem.W.codeHd_of_K X (c.hd (x, none) (List.mem_map.mpr ⟨x, hx, rfl⟩))
  · exact FunD.bindsA (ps := ["_law_script"]) FD1 (fun kV doc pm an cdv ct us hl => one_bind n63 kV doc pm an cdv ct us hl) s [u] rfl
  · refine ⟨a, ns, rfl, by rw [n62]; rfl, hq, by omega, fun p hp => ?_, fun _ => rfl, ?_⟩
    · obtain ⟨x, hx, rfl⟩ := List.mem_map.mp hp
      exact htb _ (List.mem_map.mpr ⟨x, hx, rfl⟩)
    · obtain ⟨o, S', e⟩ := main ns hl
      refine ⟨o, S', ?_⟩
      rw [List.take_of_length_le hl]
      exact e
  · have S := stat_of (P := l.prog) (w := w) ok0 kb X G c hT
    have FSo := src_ok (P := l.prog) (w := w) (mg := mg) (base := bs) FS1 (scB_ok n71) n72 (S.blt _ n11)
    have hbs : L2.Binds K fds [L.sa] [] := FS1.bindsN fun kV doc pm an cdv ct us hl => one_bind n73 kV doc pm an cdv ct us hl
    have := law_fn (prim := fun _ => none) (fuel := fuel) (n := n) S n1 n2 (fun d hd => ⟨n3 d hd, rfl⟩) (fun d hd => (n4 d hd).1) n5 FD FSo (by rw [es]; exact gs) FS1.kp hbs
    rw [n62, el] at this
    exact this
end
/-! ### the Hook: also where the C statics stand -/
def asY (g : Addr → Option Obj) (n : Nat) : List Addr := cStatics :: He.asD g n
def obsY (n : Nat) (fa : List He.Fa) (fn : List He.DefD) (tf : List He.Defn) (ex : PySem.W.Frag → Bool) (g : Addr → Option Obj) : He.AlX := (He.obsT fa fn [] (He.frT g (asY g n)), ex (He.frT g (asY g n)) && He.tabsB g tf (He.frT g (asY g n)))
theorem saysY_of {n : Nat} {fa : List He.Fa} {fn : List He.DefD} {tf : List He.Defn} {ex : PySem.W.Frag → Bool} {w : World} {h : Heap} (e : obsY n fa fn tf ex h.get? = He.valX fn [] w) : He.SaysX fa fn [] tf ex w h (He.frT h.get? (asY h.get? n)) := by
  have e1 : He.obsT fa fn [] (He.frT h.get? (asY h.get? n)) = He.valT fn [] w := congrArg (fun z : He.AlX => z.1) e
  have e2 : (ex (He.frT h.get? (asY h.get? n)) && He.tabsB h.get? tf (He.frT h.get? (asY h.get? n))) = true := congrArg (fun z : He.AlX => z.2) e
  rw [Bool.and_eq_true] at e2
  have tab : ∀ p ∈ tf, PySem.W.codeHdIn (He.frT h.get? (asY h.get? n)) (He.cT (He.frT h.get? (asY h.get? n)) p).1 (He.cT (He.frT h.get? (asY h.get? n)) p).2 = true ∧ ∃ o, h.get? (He.cT (He.frT h.get? (asY h.get? n)) p).2 = some o ∧ He.emptyTab o = true := fun p hp => by
    have z := List.all_eq_true.mp e2.2 p hp
    rw [Bool.and_eq_true] at z
    refine ⟨z.1, ?_⟩
    have z2 := z.2
    split at z2
    · rename_i o q
      exact ⟨o, q, z2⟩
    · cases z2
  exact ⟨e1, e2.1, fun p hp => (tab p hp).1, fun p hp => let ⟨_, _, q, z⟩ := tab p hp; He.frT_none q z, fun p hp => by
    obtain ⟨_, o, q, z⟩ := tab p hp
    rw [q, He.emptyTab_eq z]⟩
def hookY (n : Nat) (fa : List He.Fa) (fn : List He.DefD) (tf : List He.Defn) (ex : PySem.W.Frag → Bool) : PySem.W.Hook where
  α := He.AlX
  obs := fun s => obsY n fa fn tf ex s.heap.get?
  val := fun w => He.valX fn [] w
  says := fun w h => ∃ K : PySem.W.Frag, K.In h ∧ He.SaysX fa fn [] tf ex w h K
  of := fun _ _ e => ⟨_, He.frT_in, saysY_of e⟩
  keeps := fun _ _ _ ⟨K, hK, c⟩ k => ⟨K, PySem.W.Frag.In.keeps hK k, ⟨c.t, c.more, c.hd, c.out, fun p hp => k _ _ (c.empty p hp)⟩⟩
theorem obsY_eq {n : Nat} {fa : List He.Fa} {fn : List He.DefD} {tf : List He.Defn} {ex : PySem.W.Frag → Bool} {g : Addr → Option Obj} {s : Shared} (h : ∀ a, g a = s.heap.get? a) : obsY n fa fn tf ex g = (hookY n fa fn tf ex).obs s := by
  have e : g = s.heap.get? := funext h
  rw [e]; rfl
end DW

/-! DwStd: what the small programs of the text compute. -/
namespace DW
open PySem
def b_gcd : Sms := (.cons (.whl (.cmp .ne (.var 1) (.lit (.int 0))) (.cons (.par 0 1 (.var 1) (.bin .mod (.var 0) (.var 1))) .nil)) (.cons (.ret (.bi .abs (.cons (.var 0) .nil))) .nil))
section
variable {F : FT} {XF : XT} {g : Nat} {S : Src}
theorem gcd_turn (a b : Int) (m : Nat) : whlGo (evMB F (.cmp .ne (.var 1) (.lit (.int 0)))) (freeze (ment (.cmp .ne (.var 1) (.lit (.int 0)))) 0) (exs F XF g (.cons (.par 0 1 (.var 1) (.bin .mod (.var 0) (.var 1))) .nil)) (m + 1) [some (false, .int a), some (false, .int b)] S =
    if b = 0 then .nxt [some (false, .int a), some (false, .int b)] S else whlGo (evMB F (.cmp .ne (.var 1) (.lit (.int 0)))) (freeze (ment (.cmp .ne (.var 1) (.lit (.int 0)))) 0) (exs F XF g (.cons (.par 0 1 (.var 1) (.bin .mod (.var 0) (.var 1))) .nil)) m [some (false, .int b), some (false, .int (a.fmod b))] S := by
  rw [whlGo]
  by_cases hb : b = 0
  · simp [hb, evMB, evM, ev, seen, ment, R.bind, R.then, opC, shp, eqD, ofO, loose, D.imm, Lit.d]
  · simp [hb, evMB, evM, ev, seen, ment, R.bind, R.then, opC, shp, eqD, ofO, loose, D.imm, Lit.d, exs, ex, SR.seq, opB, freeze]
theorem gcd_mod (a b : Int) : b.gcd (a % b) = a.gcd b := by
  apply Nat.dvd_antisymm
  · apply Int.dvd_gcd
    · have h1 : ((b.gcd (a % b) : Nat) : Int) ∣ b := Int.gcd_dvd_left ..
      have h2 : ((b.gcd (a % b) : Nat) : Int) ∣ a % b := Int.gcd_dvd_right ..
      have e : a = a % b + b * (a / b) := (Int.emod_add_mul_ediv a b).symm
      rw [e]
      refine Int.dvd_add ?_ (Int.dvd_trans ?_ (Int.dvd_mul_right b _))
      · rw [← e]; exact h2
      · rw [← e]; exact h1
    · exact Int.gcd_dvd_left ..
  · apply Int.dvd_gcd
    · exact Int.gcd_dvd_right ..
    · have h1 : ((a.gcd b : Nat) : Int) ∣ a := Int.gcd_dvd_left ..
      have h2 : ((a.gcd b : Nat) : Int) ∣ b := Int.gcd_dvd_right ..
      rw [Int.emod_def]
      exact Int.dvd_sub h1 (Int.dvd_trans h2 (Int.dvd_mul_right b _))
theorem gcd_loop : ∀ (k : Nat) (a b : Int) (m : Nat), 0 ≤ b → b < 2 ^ k → 2 * k + 1 ≤ m → ∃ a' : Int, whlGo (evMB F (.cmp .ne (.var 1) (.lit (.int 0)))) (freeze (ment (.cmp .ne (.var 1) (.lit (.int 0)))) 0) (exs F XF g (.cons (.par 0 1 (.var 1) (.bin .mod (.var 0) (.var 1))) .nil)) m [some (false, .int a), some (false, .int b)] S = .nxt [some (false, .int a'), some (false, .int 0)] S ∧ a'.natAbs = a.gcd b
  | 0, a, b, m, h0, h1, hm => by
    have hb : b = 0 := by simp at h1; omega
    subst hb
    obtain ⟨m, rfl⟩ : ∃ j, m = j + 1 := ⟨m - 1, by omega⟩
    rw [gcd_turn, if_pos rfl]
    exact ⟨a, rfl, by simp⟩
  | k + 1, a, b, m, h0, h1, hm => by
    obtain ⟨m, rfl⟩ : ∃ j, m = j + 1 := ⟨m - 1, by omega⟩
    rw [gcd_turn]
    by_cases hb : b = 0
    · rw [if_pos hb]; subst hb; exact ⟨a, rfl, by simp⟩
    rw [if_neg hb]
    have bp : 0 < b := by omega
    have e1 : a.fmod b = a % b := Int.fmod_eq_emod_of_nonneg a h0
    have r0 : 0 ≤ a % b := Int.emod_nonneg a hb
    have r1 : a % b < b := Int.emod_lt_of_pos a bp
    obtain ⟨m, rfl⟩ : ∃ j, m = j + 1 := ⟨m - 1, by omega⟩
    rw [gcd_turn, e1]
    by_cases hr : a % b = 0
    · rw [if_pos hr, hr]
      refine ⟨b, rfl, ?_⟩
      rw [← gcd_mod a b, hr]; simp
    rw [if_neg hr]
    have rp : 0 < a % b := by omega
    have e2 : b.fmod (a % b) = b % (a % b) := Int.fmod_eq_emod_of_nonneg b r0
    have s0 : 0 ≤ b % (a % b) := Int.emod_nonneg b hr
    have s1 : b % (a % b) < a % b := Int.emod_lt_of_pos b rp
    have s2 : b % (a % b) < 2 ^ k := by
      have p2 : (2 : Int) ^ (k + 1) = 2 * 2 ^ k := by rw [Int.pow_succ]; omega
      have dm := Int.emod_add_mul_ediv b (a % b)
      have q1 : 1 ≤ b / (a % b) := by
        rw [Int.le_ediv_iff_mul_le rp]; omega
      have : a % b * 1 ≤ a % b * (b / (a % b)) := Int.mul_le_mul_of_nonneg_left q1 r0
      omega
    rw [e2]
    obtain ⟨a', e3, e4⟩ := gcd_loop k (a % b) (b % (a % b)) m s0 s2 (by omega)
    exact ⟨a', e3, by rw [e4, gcd_mod, gcd_mod]⟩
theorem big_lt {b : Int} (h : big b = true) (h0 : 0 ≤ b) : b < 2 ^ 4096 := by
  unfold big at h
  have h := of_decide_eq_true h
  have e : ((b.natAbs : Nat) : Int) = b := Int.natAbs_of_nonneg h0
  have h2 := Int.ofNat_lt.mpr h
  rw [e, Int.natCast_pow] at h2
  exact h2
theorem run_gcd {a b : Int} (h0 : 0 ≤ b) (hb : big b = true) (hg : 8193 ≤ g) : runFn F XF g ⟨2, 2, b_gcd⟩ [.int a, .int b] S = .ok (false, .int (a.gcd b : Nat)) S := by
  obtain ⟨a', e1, e2⟩ := gcd_loop (F := F) (XF := XF) (g := g) (S := S) 4096 a b g h0 (big_lt hb h0) hg
  show ofSR (SR.seq (whlGo (evMB F (.cmp .ne (.var 1) (.lit (.int 0)))) (freeze (ment (.cmp .ne (.var 1) (.lit (.int 0)))) 0) (exs F XF g (.cons (.par 0 1 (.var 1) (.bin .mod (.var 0) (.var 1))) .nil)) g [some (false, .int a), some (false, .int b)] S) fun μ S => exs F XF g (.cons (.ret (.bi .abs (.cons (.var 0) .nil))) .nil) μ S) = _
  rw [e1]
  have e3 : (if a' < 0 then -a' else a') = ((a.gcd b : Nat) : Int) := by
    rw [← e2]
    split <;> omega
  simp [SR.seq, exs, ex, evM, ev, evs, seen, ment, ments, R.bind, R.then, opF, ofO, loose, D.imm, isVar, ofSR, e3]
end
/-! ### draws -/
def s_draw1 : Sm := (.ifs (.band (.cons (.cmp .eq (.idx (.var 0) (.lit (.int 2))) (.lit (.int 0))) (.cons (.cmp .lt (.idx (.var 0) (.lit (.int 1))) (.bi .len (.cons (.idx (.var 0) (.lit (.int 0))) .nil))) .nil))) (.cons (.set 2 (.idx (.idx (.var 0) (.lit (.int 0))) (.idx (.var 0) (.lit (.int 1)))))
    (.cons (.srcInc 0 1 1)
    (.cons (.ifs (.cmp .ge (.bi .abs (.cons (.var 2) .nil)) (.bin .pow (.lit (.int 10)) (.lit (.int 18)))) (.cons (.srcSet 0 2 (.bi .abs (.cons (.var 2) .nil)))
    .nil) (.cons (.srcSet 0 3 (.bin .mod (.bin .add (.bin .add (.bin .mul (.idx (.var 0) (.lit (.int 3))) (.lit (.int 52511))) (.bin .mul (.bin .mod (.var 2) (.lit (.int 1000033))) (.lit (.int 613)))) (.lit (.int 7))) (.lit (.int 2147483587))))
    .nil))
    .nil))) .nil)
def s_draw2 : Sms := (.cons (.ifs (.cmp .gt (.idx (.var 0) (.lit (.int 2))) (.lit (.int 0))) (.cons (.set 3 (.idx (.var 0) (.lit (.int 2))))
    (.cons (.srcSet 0 2 (.bin .fdiv (.var 3) (.var 1)))
    (.cons (.ret (.bin .mod (.var 3) (.var 1)))
    .nil))) .nil)
    (.cons (.set 4 (.bin .mod (.bin .mul (.idx (.var 0) (.lit (.int 3))) (.idx (.var 0) (.lit (.int 3)))) (.lit (.int 2147483587))))
    (.cons (.srcSet 0 3 (.bin .mod (.bin .add (.bin .add (.bin .mul (.var 4) (.lit (.int 69069))) (.bin .mul (.idx (.var 0) (.lit (.int 3))) (.lit (.int 30011)))) (.lit (.int 5557))) (.lit (.int 2147483587))))
    (.cons (.ret (.bin .mod (.bin .fdiv (.idx (.var 0) (.lit (.int 3))) (.lit (.int 128))) (.var 1)))
    .nil))))
def s_draw : Sms := .cons s_draw1 s_draw2
structure SI (S : Src) : Prop where
  pos : 0 ≤ S.pos
  rest : 0 ≤ S.rest
  st0 : 0 ≤ S.st
  st1 : S.st < 2147483587
theorem get0 (S : Src) : S.get 0 = some (.lst (S.cells.map D.int)) := rfl
theorem get1 (S : Src) : S.get 1 = some (.int S.pos) := rfl
theorem get2 (S : Src) : S.get 2 = some (.int S.rest) := rfl
theorem get3 (S : Src) : S.get 3 = some (.int S.st) := rfl
theorem at_of {l : List D} {i : Int} (h0 : 0 ≤ i) (h1 : i < l.length) : opI.atI l i = l[i.toNat]? := by
  unfold opI.atI L2.ixN
  simp [h0, h1]
  try omega
theorem big_of {i : Int} (h : -1000000000000000000000000000000000000000000000000000 < i) (h2 : i < 1000000000000000000000000000000000000000000000000000) : big i = true := by
  unfold big
  apply decide_eq_true
  have h3 : i.natAbs < 2 ^ 200 := by
    have : (2 : Nat) ^ 200 = 1606938044258990275541962092341162602522202993782792835301376 := by decide
    omega
  exact Nat.lt_of_lt_of_le h3 (Nat.pow_le_pow_right (by decide) (by decide))
section
variable {F : FT} {XF : XT} {g : Nat} {S : Src}
theorem draw1 {c : Int} (h : SI S) : ∃ x S1, (x = none ∨ ∃ y, x = some (false, D.int y)) ∧ SI S1 ∧ ex F XF g s_draw1 [some (false, .src), some (false, .int c), none, none, none] S = .nxt [some (false, .src), some (false, .int c), x, none, none] S1 := by
  by_cases hr : S.rest = 0
  case neg =>
    refine ⟨none, S, .inl rfl, h, ?_⟩
    simp [s_draw1, SR.seq, exs, ex, evM, evMB, ev, evs, evAnd, evOr, evi, evc, evo, theB, seen, ment, ments, menti, R.bind, R.then, R.calm, opB, opC, opF, opX, opI, ofO, loose, D.imm, immL, isVar, ofSR, Lit.d, shp, shpL, eqD, eqDs, freeze, permD, isSrcAt, Src.put, get0, get1, get2, get3, hr]
  by_cases hp : S.pos < S.cells.length
  case neg =>
    refine ⟨none, S, .inl rfl, h, ?_⟩
    simp [s_draw1, SR.seq, exs, ex, evM, evMB, ev, evs, evAnd, evOr, evi, evc, evo, theB, seen, ment, ments, menti, R.bind, R.then, R.calm, opB, opC, opF, opX, opI, ofO, loose, D.imm, immL, isVar, ofSR, Lit.d, shp, shpL, eqD, eqDs, freeze, permD, isSrcAt, Src.put, get0, get1, get2, get3, hr, hp]
  obtain ⟨cell, hcell⟩ : ∃ y, S.cells[S.pos.toNat]? = some y := by
    have : S.pos.toNat < S.cells.length := by have := h.pos; omega
    exact ⟨_, List.getElem?_eq_getElem this⟩
  have ha : opI.atI (S.cells.map D.int) S.pos = some (.int cell) := by
    rw [at_of h.pos (by rw [List.length_map]; exact hp), List.getElem?_map, hcell]; rfl
  have h0 := h.st0
  have h1 := h.st1
  have hm0 : 0 ≤ cell.fmod 1000033 := Int.fmod_nonneg_of_pos _ (by decide)
  have hm1 : cell.fmod 1000033 < 1000033 := Int.fmod_lt_of_pos _ (by decide)
  have b1 : big S.st = true := big_of (by omega) (by omega)
  have b2 : big (cell.fmod 1000033) = true := big_of (by omega) (by omega)
  have b3 : big 52511 = true := big_of (by omega) (by omega)
  have b4 : big 613 = true := big_of (by omega) (by omega)
  by_cases hc : (1000000000000000000 : Int) ≤ (if cell < 0 then -cell else cell)
  · refine ⟨some (false, .int cell), { S with pos := S.pos + 1, rest := (if cell < 0 then -cell else cell) }, .inr ⟨cell, rfl⟩, ⟨by have := h.pos; show 0 ≤ S.pos + 1; omega, by show 0 ≤ (if cell < 0 then -cell else cell); split <;> omega, h.st0, h.st1⟩, ?_⟩
    simp [s_draw1, SR.seq, exs, ex, evM, evMB, ev, evs, evAnd, evOr, evi, evc, evo, theB, seen, ment, ments, menti, R.bind, R.then, R.calm, opB, opC, opF, opX, opI, ofO, loose, D.imm, immL, isVar, ofSR, Lit.d, shp, shpL, eqD, eqDs, freeze, permD, isSrcAt, Src.put, get0, get1, get2, get3, hr, hp, ha, hc]
  · refine ⟨some (false, .int cell), { S with pos := S.pos + 1, st := (S.st * 52511 + cell.fmod 1000033 * 613 + 7).fmod 2147483587 }, .inr ⟨cell, rfl⟩, ⟨by have := h.pos; show 0 ≤ S.pos + 1; omega, h.rest, Int.fmod_nonneg_of_pos _ (by decide), Int.fmod_lt_of_pos _ (by decide)⟩, ?_⟩
    simp [s_draw1, SR.seq, exs, ex, evM, evMB, ev, evs, evAnd, evOr, evi, evc, evo, theB, seen, ment, ments, menti, R.bind, R.then, R.calm, opB, opC, opF, opX, opI, ofO, loose, D.imm, immL, isVar, ofSR, Lit.d, shp, shpL, eqD, eqDs, freeze, permD, isSrcAt, Src.put, get0, get1, get2, get3, hr, hp, ha, hc, b1, b2, b3, b4]
theorem draw2 {c : Int} {x : Option (Bool × D)} (hx : x = none ∨ ∃ y, x = some (false, D.int y)) (h : SI S) (hc : 1 ≤ c) (hb : big c = true) : ∃ v S', exs F XF g s_draw2 [some (false, .src), some (false, .int c), x, none, none] S = .ret (false, .int v) S' ∧ 0 ≤ v ∧ v < c ∧ SI S' := by
  have cp : 0 < c := by omega
  have c0 : ¬ c = 0 := by omega
  have h0 := h.st0
  have h1 := h.st1
  by_cases hr : 0 < S.rest
  · refine ⟨S.rest.fmod c, { S with rest := S.rest.fdiv c }, ?_, Int.fmod_nonneg_of_pos _ cp, Int.fmod_lt_of_pos _ cp, h.pos, Int.fdiv_nonneg h.rest (by omega), h.st0, h.st1⟩
    rcases hx with rfl | ⟨y, rfl⟩ <;> simp [s_draw2, SR.seq, exs, ex, evM, evMB, ev, evs, evAnd, evOr, evi, evc, evo, theB, seen, ment, ments, menti, R.bind, R.then, R.calm, opB, opC, opF, opX, opI, ofO, loose, D.imm, immL, isVar, ofSR, Lit.d, shp, shpL, eqD, eqDs, freeze, permD, isSrcAt, Src.put, get0, get1, get2, get3, hr, c0, hb]
  · have b1 : big S.st = true := big_of (by omega) (by omega)
    have t0 : 0 ≤ (S.st * S.st).fmod 2147483587 := Int.fmod_nonneg_of_pos _ (by decide)
    have t1 : (S.st * S.st).fmod 2147483587 < 2147483587 := Int.fmod_lt_of_pos _ (by decide)
    have b2 : big ((S.st * S.st).fmod 2147483587) = true := big_of (by omega) (by omega)
    have b3 : big 69069 = true := big_of (by omega) (by omega)
    have b4 : big 30011 = true := big_of (by omega) (by omega)
    have b5 : big 128 = true := big_of (by omega) (by omega)
    refine ⟨((((S.st * S.st).fmod 2147483587 * 69069 + S.st * 30011 + 5557).fmod 2147483587).fdiv 128).fmod c, { S with st := ((S.st * S.st).fmod 2147483587 * 69069 + S.st * 30011 + 5557).fmod 2147483587 }, ?_, Int.fmod_nonneg_of_pos _ cp, Int.fmod_lt_of_pos _ cp, h.pos, h.rest, Int.fmod_nonneg_of_pos _ (by decide), Int.fmod_lt_of_pos _ (by decide)⟩
    rcases hx with rfl | ⟨y, rfl⟩ <;> simp [s_draw2, SR.seq, exs, ex, evM, evMB, ev, evs, evAnd, evOr, evi, evc, evo, theB, seen, ment, ments, menti, R.bind, R.then, R.calm, opB, opC, opF, opX, opI, ofO, loose, D.imm, immL, isVar, ofSR, Lit.d, shp, shpL, eqD, eqDs, freeze, permD, isSrcAt, Src.put, get0, get1, get2, get3, hr, c0, hb, b1, b2, b3, b4, b5]
theorem run_draw {c : Int} (h : SI S) (hc : 1 ≤ c) (hb : big c = true) : ∃ v S', runFn F XF g ⟨2, 5, s_draw⟩ [.src, .int c] S = .ok (false, .int v) S' ∧ 0 ≤ v ∧ v < c ∧ SI S' := by
  obtain ⟨x, S1, hx, h1, e1⟩ := draw1 (F := F) (XF := XF) (g := g) (c := c) h
  obtain ⟨v, S', e2, v0, v1, h2⟩ := draw2 (F := F) (XF := XF) (g := g) hx h1 hc hb
  refine ⟨v, S', ?_, v0, v1, h2⟩
  show ofSR (SR.seq (ex F XF g s_draw1 [some (false, .src), some (false, .int c), none, none, none] S) fun μ S => exs F XF g s_draw2 μ S) = _
  rw [e1]
  show ofSR (exs F XF g s_draw2 [some (false, .src), some (false, .int c), x, none, none] S1) = _
  rw [e2]; rfl
end

end DW

/-! DwTerms: printed by mklib.py -/
namespace DW
namespace Lib
def f_gcd_L1 : Sms := (.cons (.par 0 1 (.var 1) (.bin .mod (.var 0) (.var 1)))
    .nil)
def f_gcd : Fn := ⟨2, 2, (.cons (.whl (.cmp .ne (.var 1) (.lit (.int 0))) f_gcd_L1)
    (.cons (.ret (.bi .abs (.cons (.var 0) .nil)))
    .nil))⟩
def f_reduced : Fn := ⟨2, 3, (.cons (.set 2 (.call "gcd" (.cons (.var 0) (.cons (.var 1) .nil)) .nil [] [.inl 0, .inl 1]))
    (.cons (.ret (.tup (.cons (.bin .fdiv (.var 0) (.var 2)) (.cons (.bin .fdiv (.var 1) (.var 2)) .nil))))
    .nil))⟩
def f_rational : Fn := ⟨2, 2, (.cons (.ifs (.cmp .eq (.var 1) (.lit (.int 0))) (.cons (.rais "InvalidFraction" .nil)
    .nil) .nil)
    (.cons (.ifs (.cmp .lt (.var 1) (.lit (.int 0))) (.cons (.ret (.call "reduced" (.cons (.neg (.var 0)) (.cons (.neg (.var 1)) .nil)) .nil [] [.inl 0, .inl 1]))
    .nil) .nil)
    (.cons (.ret (.call "reduced" (.cons (.var 0) (.cons (.var 1) .nil)) .nil [] [.inl 0, .inl 1]))
    .nil)))⟩
def f__law_draw : Fn := ⟨2, 5, (.cons (.ifs (.band (.cons (.cmp .eq (.idx (.var 0) (.lit (.int 2))) (.lit (.int 0))) (.cons (.cmp .lt (.idx (.var 0) (.lit (.int 1))) (.bi .len (.cons (.idx (.var 0) (.lit (.int 0))) .nil))) .nil))) (.cons (.set 2 (.idx (.idx (.var 0) (.lit (.int 0))) (.idx (.var 0) (.lit (.int 1)))))
    (.cons (.srcInc 0 1 1)
    (.cons (.ifs (.cmp .ge (.bi .abs (.cons (.var 2) .nil)) (.bin .pow (.lit (.int 10)) (.lit (.int 18)))) (.cons (.srcSet 0 2 (.bi .abs (.cons (.var 2) .nil)))
    .nil) (.cons (.srcSet 0 3 (.bin .mod (.bin .add (.bin .add (.bin .mul (.idx (.var 0) (.lit (.int 3))) (.lit (.int 52511))) (.bin .mul (.bin .mod (.var 2) (.lit (.int 1000033))) (.lit (.int 613)))) (.lit (.int 7))) (.lit (.int 2147483587))))
    .nil))
    .nil))) .nil)
    (.cons (.ifs (.cmp .gt (.idx (.var 0) (.lit (.int 2))) (.lit (.int 0))) (.cons (.set 3 (.idx (.var 0) (.lit (.int 2))))
    (.cons (.srcSet 0 2 (.bin .fdiv (.var 3) (.var 1)))
    (.cons (.ret (.bin .mod (.var 3) (.var 1)))
    .nil))) .nil)
    (.cons (.set 4 (.bin .mod (.bin .mul (.idx (.var 0) (.lit (.int 3))) (.idx (.var 0) (.lit (.int 3)))) (.lit (.int 2147483587))))
    (.cons (.srcSet 0 3 (.bin .mod (.bin .add (.bin .add (.bin .mul (.var 4) (.lit (.int 69069))) (.bin .mul (.idx (.var 0) (.lit (.int 3))) (.lit (.int 30011)))) (.lit (.int 5557))) (.lit (.int 2147483587))))
    (.cons (.ret (.bin .mod (.bin .fdiv (.idx (.var 0) (.lit (.int 3))) (.lit (.int 128))) (.var 1)))
    .nil)))))⟩
def f__law_choice : Fn := ⟨2, 2, (.cons (.ret (.idx (.var 1) (.call "_law_draw" (.cons (.var 0) (.cons (.bi .len (.cons (.var 1) .nil)) .nil)) .nil [] [.inl 0, .inl 1])))
    .nil)⟩
def f__law_same : Fn := ⟨2, 4, (.cons (.ifs (.isi (.var 1) [.list, .tuple] false) (.cons (.ifs (.bor (.cons (.cmp .ne (.isi (.var 0) [.list] true) (.isi (.var 1) [.list] true)) (.cons (.cmp .ne (.isi (.var 0) [.tuple] true) (.isi (.var 1) [.tuple] true)) .nil))) (.cons (.ret (.lit (.bl false)))
    .nil) .nil)
    (.cons (.ret (.band (.cons (.cmp .eq (.bi .len (.cons (.var 0) .nil)) (.bi .len (.cons (.var 1) .nil))) (.cons (.bi .all (.cons (.lc [2, 3] true (.zip (.var 0) (.var 1)) .nil (.call "_law_same" (.cons (.var 2) (.cons (.var 3) .nil)) .nil [] [.inl 0, .inl 1])) .nil)) .nil))))
    .nil)) .nil)
    (.cons (.ifs (.bor (.cons (.cmp .ne (.cmp .isN (.var 0) (.lit .non)) (.cmp .isN (.var 1) (.lit .non))) (.cons (.cmp .ne (.isi (.var 0) [.bool] true) (.isi (.var 1) [.bool] true)) .nil))) (.cons (.ret (.lit (.bl false)))
    .nil) .nil)
    (.cons (.ifs (.bor (.cons (.cmp .ne (.isi (.var 0) [.int] true) (.isi (.var 1) [.int] true)) (.cons (.cmp .ne (.isi (.var 0) [.dict] true) (.isi (.var 1) [.dict] true)) .nil))) (.cons (.ret (.lit (.bl false)))
    .nil) .nil)
    (.cons (.ret (.band (.cons (.cmp .eq (.isi (.var 0) [.str] true) (.isi (.var 1) [.str] true)) (.cons (.cmp .eq (.var 0) (.var 1)) .nil))))
    .nil))))⟩
def f__law_gcd_L1 : Sms := (.cons (.set 2 (.bin .mod (.var 0) (.var 1)))
    (.cons (.set 0 (.var 1))
    (.cons (.set 1 (.var 2))
    .nil)))
def f__law_gcd : Fn := ⟨2, 3, (.cons (.whl (.cmp .ne (.var 1) (.lit (.int 0))) f__law_gcd_L1)
    (.cons (.ret (.bi .abs (.cons (.var 0) .nil)))
    .nil))⟩
def f__law_is_fraction : Fn := ⟨1, 2, (.cons (.ifs (.bor (.cons (.nt (.isi (.var 0) [.tuple] true)) (.cons (.cmp .ne (.bi .len (.cons (.var 0) .nil)) (.lit (.int 2))) (.cons (.nt (.bi .all (.cons (.lc [1] false (.walk 0) .nil (.isi (.var 1) [.int] true)) .nil))) .nil)))) (.cons (.ret (.lit (.bl false)))
    .nil) .nil)
    (.cons (.ret (.band (.cons (.cmp .ge (.idx (.var 0) (.lit (.int 1))) (.lit (.int 1))) (.cons (.cmp .eq (.call "_law_gcd" (.cons (.idx (.var 0) (.lit (.int 0))) (.cons (.idx (.var 0) (.lit (.int 1))) .nil)) .nil [] [.inl 0, .inl 1]) (.lit (.int 1))) .nil))))
    .nil))⟩
def f__law_whole_of : Fn := ⟨1, 2, (.cons (.set 1 (.call "_law_choice" (.cons (.var 0) (.cons (.lst (.cons (.call "_law_draw" (.cons (.var 0) (.cons (.lit (.int 7)) .nil)) .nil [] [.inl 0, .inl 1]) (.cons (.call "_law_draw" (.cons (.var 0) (.cons (.lit (.int 300)) .nil)) .nil [] [.inl 0, .inl 1]) (.cons (.call "_law_draw" (.cons (.var 0) (.cons (.bin .pow (.lit (.int 10)) (.lit (.int 30))) .nil)) .nil [] [.inl 0, .inl 1]) .nil)))) .nil)) .nil [] [.inl 0, .inl 1]))
    (.cons (.ret (.bin .sub (.var 1) (.bin .mul (.bin .mul (.lit (.int 2)) (.var 1)) (.call "_law_draw" (.cons (.var 0) (.cons (.lit (.int 2)) .nil)) .nil [] [.inl 0, .inl 1]))))
    .nil))⟩
def f_require_fraction : Fn := ⟨1, 1, (.cons (.ifs (.bor (.cons (.cmp .ne (.bi .len (.cons (.var 0) .nil)) (.lit (.int 2))) (.cons (.cmp .lt (.idx (.var 0) (.lit (.int 1))) (.lit (.int 1))) (.cons (.cmp .ne (.call "gcd" (.cons (.idx (.var 0) (.lit (.int 0))) (.cons (.idx (.var 0) (.lit (.int 1))) .nil)) .nil [] [.inl 0, .inl 1]) (.lit (.int 1))) .nil)))) (.cons (.rais "InvalidFraction" .nil)
    .nil) .nil)
    .nil)⟩
def f_less : Fn := ⟨2, 2, (.cons (.ret (.cmp .lt (.bin .mul (.idx (.var 0) (.lit (.int 0))) (.idx (.var 1) (.lit (.int 1)))) (.bin .mul (.idx (.var 1) (.lit (.int 0))) (.idx (.var 0) (.lit (.int 1))))))
    .nil)⟩
def f_at_most : Fn := ⟨2, 2, (.cons (.ret (.cmp .le (.bin .mul (.idx (.var 0) (.lit (.int 0))) (.idx (.var 1) (.lit (.int 1)))) (.bin .mul (.idx (.var 1) (.lit (.int 0))) (.idx (.var 0) (.lit (.int 1))))))
    .nil)⟩
def f_negated : Fn := ⟨1, 1, (.cons (.ret (.tup (.cons (.bin .sub (.lit (.int 0)) (.idx (.var 0) (.lit (.int 0)))) (.cons (.idx (.var 0) (.lit (.int 1))) .nil))))
    .nil)⟩
def f_interpolate : Fn := ⟨4, 5, (.cons (.set 4 (.bin .add (.bin .mul (.bin .mul (.idx (.var 0) (.lit (.int 0))) (.idx (.var 1) (.lit (.int 1)))) (.bin .sub (.var 2) (.var 3))) (.bin .mul (.bin .mul (.idx (.var 1) (.lit (.int 0))) (.idx (.var 0) (.lit (.int 1)))) (.var 3))))
    (.cons (.ret (.call "reduced" (.cons (.var 4) (.cons (.bin .mul (.bin .mul (.idx (.var 0) (.lit (.int 1))) (.idx (.var 1) (.lit (.int 1)))) (.var 2)) .nil)) .nil [] [.inl 0, .inl 1]))
    .nil))⟩
def f_midpoint : Fn := ⟨2, 2, (.cons (.ret (.call "interpolate" (.cons (.var 0) (.cons (.var 1) (.cons (.lit (.int 2)) (.cons (.lit (.int 1)) .nil)))) .nil [] [.inl 0, .inl 1, .inl 2, .inl 3]))
    .nil)⟩
def f_is_name : Fn := ⟨1, 2, (.cons (.ret (.band (.cons (.chn .le .le (.lit (.int 1)) (.bi .len (.cons (.var 0) .nil)) (.glb "MAX_NAME_LENGTH" (.lit (.int 6)))) (.cons (.bi .all (.cons (.lc [1] false (.walk 0) .nil (.cmp .isin (.var 1) (.glb "LETTERS" (.lit (.str "abcdefghijklmnopqrstuvwxyz"))))) .nil)) .nil))))
    .nil)⟩
def f_require_intervals_L1 : Sms := (.cons (.expr (.call "require_fraction" (.cons (.var 3) .nil) .nil [] [.inl 0]))
    (.cons (.expr (.call "require_fraction" (.cons (.var 4) .nil) .nil [] [.inl 0]))
    (.cons (.ifs (.bor (.cons (.nt (.call "is_name" (.cons (.var 2) .nil) .nil [] [.inl 0])) (.cons (.cmp .le (.var 2) (.var 1)) (.cons (.call "less" (.cons (.var 4) (.cons (.var 3) .nil)) .nil [] [.inl 0, .inl 1]) .nil)))) (.cons (.rais "InvalidIntervals" .nil)
    .nil) .nil)
    (.cons (.set 1 (.var 2))
    .nil))))
def f_require_intervals : Fn := ⟨1, 5, (.cons (.ifs (.cmp .gt (.bi .len (.cons (.var 0) .nil)) (.glb "CAPACITY" (.lit (.int 24)))) (.cons (.rais "InvalidIntervals" .nil)
    .nil) .nil)
    (.cons (.set 1 (.lit (.str "")))
    (.cons (.fors [2, 3, 4] true (.ex (.var 0)) f_require_intervals_L1)
    .nil)))⟩
def f_by_name : Fn := ⟨1, 4, (.cons (.ret (.dc [1, 2, 3] true (.walk 0) .nil (.var 1) (.tup (.cons (.var 2) (.cons (.var 3) .nil)))))
    .nil)⟩
def f_as_list : Fn := ⟨1, 2, (.cons (.ret (.lc [1] false (.ex (.bi .sorted (.cons (.var 0) .nil))) .nil (.tup (.cons (.var 1) (.cons (.idx (.idx (.var 0) (.var 1)) (.lit (.int 0))) (.cons (.idx (.idx (.var 0) (.var 1)) (.lit (.int 1))) .nil))))))
    .nil)⟩
def f_is_known : Fn := ⟨1, 1, (.cons (.ret (.cmp .eq (.idx (.var 0) (.lit (.int 0))) (.idx (.var 0) (.lit (.int 1)))))
    .nil)⟩
def f_strictly_inside : Fn := ⟨2, 2, (.cons (.ret (.band (.cons (.call "less" (.cons (.idx (.var 1) (.lit (.int 0))) (.cons (.var 0) .nil)) .nil [] [.inl 0, .inl 1]) (.cons (.call "less" (.cons (.var 0) (.cons (.idx (.var 1) (.lit (.int 1))) .nil)) .nil [] [.inl 0, .inl 1]) .nil))))
    .nil)⟩
def f_never_above : Fn := ⟨2, 2, (.cons (.ret (.call "at_most" (.cons (.idx (.var 0) (.lit (.int 1))) (.cons (.idx (.var 1) (.lit (.int 0))) .nil)) .nil [] [.inl 0, .inl 1]))
    .nil)⟩
def f_is_separated : Fn := ⟨2, 2, (.cons (.ret (.bor (.cons (.call "never_above" (.cons (.var 0) (.cons (.var 1) .nil)) .nil [] [.inl 0, .inl 1]) (.cons (.call "never_above" (.cons (.var 1) (.cons (.var 0) .nil)) .nil [] [.inl 0, .inl 1]) .nil))))
    .nil)⟩
def f_must_contain : Fn := ⟨2, 2, (.cons (.ifs (.call "is_known" (.cons (.var 0) .nil) .nil [] [.inl 0]) (.cons (.ret (.lit (.bl false)))
    .nil) .nil)
    (.cons (.ifs (.call "is_known" (.cons (.var 1) .nil) .nil [] [.inl 0]) (.cons (.ret (.call "strictly_inside" (.cons (.idx (.var 1) (.lit (.int 0))) (.cons (.var 0) .nil)) .nil [] [.inl 0, .inl 1]))
    .nil) .nil)
    (.cons (.ret (.band (.cons (.call "at_most" (.cons (.idx (.var 0) (.lit (.int 0))) (.cons (.idx (.var 1) (.lit (.int 0))) .nil)) .nil [] [.inl 0, .inl 1]) (.cons (.call "at_most" (.cons (.idx (.var 1) (.lit (.int 1))) (.cons (.idx (.var 0) (.lit (.int 1))) .nil)) .nil [] [.inl 0, .inl 1]) .nil))))
    .nil)))⟩
def f_mirrored : Fn := ⟨1, 2, (.cons (.ret (.dc [1] false (.walk 0) .nil (.var 1) (.tup (.cons (.call "negated" (.cons (.idx (.idx (.var 0) (.var 1)) (.lit (.int 1))) .nil) .nil [] [.inl 0]) (.cons (.call "negated" (.cons (.idx (.idx (.var 0) (.var 1)) (.lit (.int 0))) .nil) .nil [] [.inl 0]) .nil)))))
    .nil)⟩
def f_price_table_L1 : Sms := (.cons (.ifs (.cmp .notin (.var 3) (.var 0)) (.cons (.rais "UnknownItem" (.cons (.var 3) .nil))
    .nil) .nil)
    (.cons (.ifs (.nt (.chn .le .le (.lit (.int 1)) (.idx (.var 1) (.var 3)) (.glb "MAX_PRICE" (.lit (.int 1000))))) (.cons (.rais "InvalidPrice" (.cons (.var 3) .nil))
    .nil) .nil)
    (.cons (.sub 2 (.var 3) (.idx (.var 1) (.var 3)))
    .nil)))
def f_price_table : Fn := ⟨2, 4, (.cons (.set 2 (.dc [3] false (.walk 0) .nil (.var 3) (.lit (.int 1))))
    (.cons (.ifs (.cmp .notN (.var 1) (.lit .non)) (.cons (.fors [3] false (.ex (.bi .sorted (.cons (.var 1) .nil))) f_price_table_L1)
    .nil) .nil)
    (.cons (.ret (.var 2))
    .nil)))⟩
def f_value_of : Fn := ⟨3, 5, (.cons (.ifs (.cmp .notin (.var 1) (.var 0)) (.cons (.rais "MissingValue" (.cons (.var 1) .nil))
    .nil) .nil)
    (.cons (.set 3 (.idx (.var 0) (.var 1)))
    (.cons (.expr (.call "require_fraction" (.cons (.var 3) .nil) .nil [] [.inl 0]))
    (.cons (.set 4 (.ite (.call "is_known" (.cons (.var 2) .nil) .nil [] [.inl 0]) (.cmp .eq (.var 3) (.idx (.var 2) (.lit (.int 0)))) (.call "strictly_inside" (.cons (.var 3) (.cons (.var 2) .nil)) .nil [] [.inl 0, .inl 1])))
    (.cons (.ifs (.nt (.var 4)) (.cons (.rais "InvalidValue" (.cons (.var 1) .nil))
    .nil) .nil)
    (.cons (.ret (.var 3))
    .nil))))))⟩
def f_query_items : Fn := ⟨1, 1, (.cons (.ret (.ite (.cmp .eq (.idx (.var 0) (.lit (.int 0))) (.lit (.str "compare"))) (.tup (.cons (.idx (.var 0) (.lit (.int 1))) (.cons (.idx (.var 0) (.lit (.int 2))) .nil))) (.idx (.var 0) (.lit (.int 1)))))
    .nil)⟩
def f_is_query : Fn := ⟨2, 4, (.cons (.ifs (.bor (.cons (.cmp .eq (.bi .len (.cons (.var 0) .nil)) (.lit (.int 0))) (.cons (.cmp .notin (.idx (.var 0) (.lit (.int 0))) (.glb "KINDS" (.tup [(.str "sort"), (.str "min"), (.str "max"), (.str "above"), (.str "compare")]))) .nil))) (.cons (.ret (.lit (.bl false)))
    .nil) .nil)
    (.cons (.ifs (.cmp .ne (.bi .len (.cons (.var 0) .nil)) (.ite (.cmp .isin (.idx (.var 0) (.lit (.int 0))) (.tup (.cons (.lit (.str "sort")) (.cons (.lit (.str "min")) (.cons (.lit (.str "max")) .nil))))) (.lit (.int 2)) (.lit (.int 3)))) (.cons (.ret (.lit (.bl false)))
    .nil) .nil)
    (.cons (.set 2 (.call "query_items" (.cons (.var 0) .nil) .nil [] [.inl 0]))
    (.cons (.ifs (.bor (.cons (.cmp .eq (.bi .len (.cons (.var 2) .nil)) (.lit (.int 0))) (.cons (.cmp .lt (.nset (.var 2)) (.bi .len (.cons (.var 2) .nil))) .nil))) (.cons (.ret (.lit (.bl false)))
    .nil) .nil)
    (.cons (.ret (.bi .all (.cons (.lc [3] false (.walk 2) .nil (.cmp .isin (.var 3) (.var 1))) .nil)))
    .nil)))))⟩
def f_require_queries_L1 : Sms := (.cons (.ifs (.nt (.call "is_query" (.cons (.var 3) (.cons (.var 1) .nil)) .nil [] [.inl 0, .inl 1])) (.cons (.rais "InvalidQuery" (.cons (.var 2) .nil))
    .nil) .nil)
    (.cons (.ifs (.cmp .eq (.idx (.var 3) (.lit (.int 0))) (.lit (.str "above"))) (.cons (.expr (.call "require_fraction" (.cons (.idx (.var 3) (.lit (.int 2))) .nil) .nil [] [.inl 0]))
    .nil) .nil)
    .nil))
def f_require_queries : Fn := ⟨2, 4, (.cons (.ifs (.cmp .gt (.bi .len (.cons (.var 0) .nil)) (.glb "MAX_QUERIES" (.lit (.int 8)))) (.cons (.rais "InvalidQuery" (.cons (.glb "MAX_QUERIES" (.lit (.int 8))) .nil))
    .nil) .nil)
    (.cons (.fors [2, 3] true (.enum (.var 0)) f_require_queries_L1)
    .nil))⟩
def f_relevant : Fn := ⟨2, 3, (.cons (.ret (.dc [2] false (.ex (.bi .sorted (.cons (.call "query_items" (.cons (.var 1) .nil) .nil [] [.inl 0]) .nil))) .nil (.var 2) (.idx (.var 0) (.var 2))))
    .nil)⟩
def f_certain_minimum_L1 : Sms := (.cons (.ifs (.bi .all (.cons (.lc [2] false (.walk 0) .nil (.bor (.cons (.cmp .eq (.var 2) (.var 1)) (.cons (.call "never_above" (.cons (.idx (.var 0) (.var 1)) (.cons (.idx (.var 0) (.var 2)) .nil)) .nil [] [.inl 0, .inl 1]) .nil)))) .nil)) (.cons (.ret (.var 1))
    .nil) .nil)
    .nil)
def f_certain_minimum : Fn := ⟨1, 3, (.cons (.fors [1] false (.ex (.bi .sorted (.cons (.var 0) .nil))) f_certain_minimum_L1)
    (.cons (.ret (.lit .non))
    .nil))⟩
def f_all_separated : Fn := ⟨1, 5, (.cons (.set 1 (.bi .sorted (.cons (.var 0) .nil)))
    (.cons (.ret (.bi .all (.cons (.lc2 [2, 3] true (.enum (.var 1)) .nil [4] false (.ex (.slc (.var 1) (.cons (.bin .add (.var 2) (.lit (.int 1))) .nil) .nil)) .nil (.call "is_separated" (.cons (.idx (.var 0) (.var 3)) (.cons (.idx (.var 0) (.var 4)) .nil)) .nil [] [.inl 0, .inl 1])) .nil)))
    .nil))⟩
def f_certain_in : Fn := ⟨2, 4, (.cons (.set 2 (.call "relevant" (.cons (.var 0) (.cons (.var 1) .nil)) .nil [] [.inl 0, .inl 1]))
    (.cons (.ifs (.cmp .isin (.idx (.var 1) (.lit (.int 0))) (.tup (.cons (.lit (.str "sort")) (.cons (.lit (.str "compare")) .nil)))) (.cons (.ret (.call "all_separated" (.cons (.var 2) .nil) .nil [] [.inl 0]))
    .nil) .nil)
    (.cons (.ifs (.cmp .eq (.idx (.var 1) (.lit (.int 0))) (.lit (.str "above"))) (.cons (.ret (.nt (.bi .any (.cons (.lc [3] false (.walk 2) .nil (.call "strictly_inside" (.cons (.idx (.var 1) (.lit (.int 2))) (.cons (.idx (.var 2) (.var 3)) .nil)) .nil [] [.inl 0, .inl 1])) .nil))))
    .nil) .nil)
    (.cons (.ret (.cmp .notN (.call "certain_minimum" (.cons (.ite (.cmp .eq (.idx (.var 1) (.lit (.int 0))) (.lit (.str "min"))) (.var 2) (.call "mirrored" (.cons (.var 2) .nil) .nil [] [.inl 0])) .nil) .nil [] [.inl 0]) (.lit .non)))
    .nil))))⟩
def f_is_certain : Fn := ⟨2, 3, (.cons (.expr (.call "require_intervals" (.cons (.var 0) .nil) .nil [] [.inl 0]))
    (.cons (.set 2 (.call "by_name" (.cons (.var 0) .nil) .nil [] [.inl 0]))
    (.cons (.expr (.call "require_queries" (.cons (.lst (.cons (.var 1) .nil)) (.cons (.var 2) .nil)) .nil [] [.inl 0, .inl 1]))
    (.cons (.ret (.call "certain_in" (.cons (.var 2) (.cons (.var 1) .nil)) .nil [] [.inl 0, .inl 1]))
    .nil))))⟩
def f_unknown_items : Fn := ⟨1, 2, (.cons (.ret (.lc [1] false (.ex (.bi .sorted (.cons (.var 0) .nil))) (.cons (.nt (.call "is_known" (.cons (.idx (.var 0) (.var 1)) .nil) .nil [] [.inl 0])) .nil) (.var 1)))
    .nil)⟩
def f_sort_required : Fn := ⟨1, 3, (.cons (.ret (.lc [1] false (.ex (.call "unknown_items" (.cons (.var 0) .nil) .nil [] [.inl 0])) (.cons (.bi .any (.cons (.lc [2] false (.walk 0) .nil (.band (.cons (.cmp .ne (.var 2) (.var 1)) (.cons (.call "must_contain" (.cons (.idx (.var 0) (.var 1)) (.cons (.idx (.var 0) (.var 2)) .nil)) .nil [] [.inl 0, .inl 1]) .nil)))) .nil)) .nil) (.var 1)))
    .nil)⟩
def f_sort_pairs : Fn := ⟨1, 5, (.cons (.set 1 (.call "unknown_items" (.cons (.var 0) .nil) .nil [] [.inl 0]))
    (.cons (.ret (.lc2 [2, 3] true (.enum (.var 1)) .nil [4] false (.ex (.slc (.var 1) (.cons (.bin .add (.var 2) (.lit (.int 1))) .nil) .nil)) (.cons (.nt (.call "is_separated" (.cons (.idx (.var 0) (.var 3)) (.cons (.idx (.var 0) (.var 4)) .nil)) .nil [] [.inl 0, .inl 1])) .nil) (.tup (.cons (.var 3) (.cons (.var 4) .nil)))))
    .nil))⟩
def f_frontier : Fn := ⟨1, 6, (.cons (.set 1 (.call "unknown_items" (.cons (.var 0) .nil) .nil [] [.inl 0]))
    (.cons (.set 2 (.lc [3] false (.walk 1) (.cons (.bi .all (.cons (.lc [4] false (.walk 1) .nil (.call "at_most" (.cons (.idx (.idx (.var 0) (.var 3)) (.lit (.int 0))) (.cons (.idx (.idx (.var 0) (.var 4)) (.lit (.int 0))) .nil)) .nil [] [.inl 0, .inl 1])) .nil)) .nil) (.var 3)))
    (.cons (.ifs (.cmp .eq (.var 2) (.lst .nil)) (.cons (.ret (.lst .nil))
    .nil) .nil)
    (.cons (.set 5 (.idx (.idx (.var 0) (.idx (.var 2) (.lit (.int 0)))) (.lit (.int 0))))
    (.cons (.ifs (.bi .any (.cons (.lc [3] false (.walk 0) .nil (.band (.cons (.call "is_known" (.cons (.idx (.var 0) (.var 3)) .nil) .nil [] [.inl 0]) (.cons (.call "at_most" (.cons (.idx (.idx (.var 0) (.var 3)) (.lit (.int 0))) (.cons (.var 5) .nil)) .nil [] [.inl 0, .inl 1]) .nil)))) .nil)) (.cons (.ret (.lst .nil))
    .nil) .nil)
    (.cons (.ret (.var 2))
    .nil))))))⟩
def f_blocks : Fn := ⟨2, 2, (.cons (.ret (.ite (.call "is_known" (.cons (.var 1) .nil) .nil [] [.inl 0]) (.call "less" (.cons (.idx (.var 1) (.lit (.int 0))) (.cons (.idx (.var 0) (.lit (.int 1))) .nil)) .nil [] [.inl 0, .inl 1]) (.call "at_most" (.cons (.idx (.var 1) (.lit (.int 1))) (.cons (.idx (.var 0) (.lit (.int 1))) .nil)) .nil [] [.inl 0, .inl 1])))
    .nil)⟩
def f_minimum_required : Fn := ⟨1, 3, (.cons (.ret (.lc [1] false (.ex (.call "frontier" (.cons (.var 0) .nil) .nil [] [.inl 0])) (.cons (.bi .any (.cons (.lc [2] false (.walk 0) .nil (.band (.cons (.cmp .ne (.var 2) (.var 1)) (.cons (.call "blocks" (.cons (.idx (.var 0) (.var 1)) (.cons (.idx (.var 0) (.var 2)) .nil)) .nil [] [.inl 0, .inl 1]) .nil)))) .nil)) .nil) (.var 1)))
    .nil)⟩
def f_required_in : Fn := ⟨2, 4, (.cons (.set 2 (.call "relevant" (.cons (.var 0) (.cons (.var 1) .nil)) .nil [] [.inl 0, .inl 1]))
    (.cons (.ifs (.cmp .isin (.idx (.var 1) (.lit (.int 0))) (.tup (.cons (.lit (.str "sort")) (.cons (.lit (.str "compare")) .nil)))) (.cons (.ret (.call "sort_required" (.cons (.var 2) .nil) .nil [] [.inl 0]))
    .nil) .nil)
    (.cons (.ifs (.cmp .eq (.idx (.var 1) (.lit (.int 0))) (.lit (.str "above"))) (.cons (.ret (.lc [3] false (.walk 2) (.cons (.call "strictly_inside" (.cons (.idx (.var 1) (.lit (.int 2))) (.cons (.idx (.var 2) (.var 3)) .nil)) .nil [] [.inl 0, .inl 1]) .nil) (.var 3)))
    .nil) .nil)
    (.cons (.ret (.call "minimum_required" (.cons (.ite (.cmp .eq (.idx (.var 1) (.lit (.int 0))) (.lit (.str "min"))) (.var 2) (.call "mirrored" (.cons (.var 2) .nil) .nil [] [.inl 0])) .nil) .nil [] [.inl 0]))
    .nil))))⟩
def f_pairs_in : Fn := ⟨2, 3, (.cons (.set 2 (.call "relevant" (.cons (.var 0) (.cons (.var 1) .nil)) .nil [] [.inl 0, .inl 1]))
    (.cons (.ifs (.cmp .isin (.idx (.var 1) (.lit (.int 0))) (.tup (.cons (.lit (.str "sort")) (.cons (.lit (.str "compare")) .nil)))) (.cons (.ret (.call "sort_pairs" (.cons (.var 2) .nil) .nil [] [.inl 0]))
    .nil) .nil)
    (.cons (.ifs (.cmp .eq (.idx (.var 1) (.lit (.int 0))) (.lit (.str "above"))) (.cons (.ret (.lst .nil))
    .nil) .nil)
    (.cons (.ret (.call "minimum_pairs" (.cons (.ite (.cmp .eq (.idx (.var 1) (.lit (.int 0))) (.lit (.str "min"))) (.var 2) (.call "mirrored" (.cons (.var 2) .nil) .nil [] [.inl 0])) .nil) .nil [] [.inl 0]))
    .nil))))⟩
def f_checked_table : Fn := ⟨2, 3, (.cons (.expr (.call "require_intervals" (.cons (.var 0) .nil) .nil [] [.inl 0]))
    (.cons (.set 2 (.call "by_name" (.cons (.var 0) .nil) .nil [] [.inl 0]))
    (.cons (.expr (.call "require_queries" (.cons (.lst (.cons (.var 1) .nil)) (.cons (.var 2) .nil)) .nil [] [.inl 0, .inl 1]))
    (.cons (.ret (.var 2))
    .nil))))⟩
def f_required_items : Fn := ⟨2, 2, (.cons (.ret (.call "required_in" (.cons (.call "checked_table" (.cons (.var 0) (.cons (.var 1) .nil)) .nil [] [.inl 0, .inl 1]) (.cons (.var 1) .nil)) .nil [] [.inl 0, .inl 1]))
    .nil)⟩
def f__law_reduced : Fn := ⟨2, 3, (.cons (.set 2 (.call "_law_gcd" (.cons (.var 0) (.cons (.var 1) .nil)) .nil [] [.inl 0, .inl 1]))
    (.cons (.ifs (.cmp .lt (.var 1) (.lit (.int 0))) (.cons (.set 2 (.bin .sub (.lit (.int 0)) (.var 2)))
    .nil) .nil)
    (.cons (.ret (.tup (.cons (.bin .fdiv (.var 0) (.var 2)) (.cons (.bin .fdiv (.var 1) (.var 2)) .nil))))
    .nil)))⟩
def f__law_less : Fn := ⟨2, 2, (.cons (.ret (.cmp .lt (.bin .mul (.idx (.var 0) (.lit (.int 0))) (.idx (.var 1) (.lit (.int 1)))) (.bin .mul (.idx (.var 1) (.lit (.int 0))) (.idx (.var 0) (.lit (.int 1))))))
    .nil)⟩
def f_revealed_L1 : Sms := (.cons (.ifs (.cmp .notin (.var 4) (.var 0)) (.cons (.rais "UnknownItem" (.cons (.var 4) .nil))
    .nil) .nil)
    (.cons (.set 5 (.call "value_of" (.cons (.var 1) (.cons (.var 4) (.cons (.idx (.var 3) (.var 4)) .nil))) .nil [] [.inl 0, .inl 1, .inl 2]))
    (.cons (.sub 3 (.var 4) (.tup (.cons (.var 5) (.cons (.var 5) .nil))))
    .nil)))
def f_revealed : Fn := ⟨3, 6, (.cons (.set 3 (.bi .dict (.cons (.var 0) .nil)))
    (.cons (.fors [4] false (.ex (.var 2)) f_revealed_L1)
    (.cons (.ret (.var 3))
    .nil)))⟩
def f__law_shuffled_L1 : Sms := (.cons (.mth none 2 .insert (.cons (.call "_law_draw" (.cons (.var 0) (.cons (.bin .add (.bi .len (.cons (.var 2) .nil)) (.lit (.int 1))) .nil)) .nil [] [.inl 0, .inl 1]) (.cons (.var 3) .nil)))
    .nil)
def f__law_shuffled : Fn := ⟨2, 4, (.cons (.set 2 (.lst .nil))
    (.cons (.fors [3] false (.ex (.var 1)) f__law_shuffled_L1)
    (.cons (.ret (.var 2))
    .nil)))⟩
def f__law_bound : Fn := ⟨2, 2, (.cons (.ifs (.cmp .eq (.call "_law_draw" (.cons (.var 0) (.cons (.lit (.int 4)) .nil)) .nil [] [.inl 0, .inl 1]) (.lit (.int 0))) (.cons (.ret (.call "_law_reduced" (.cons (.bin .sub (.call "_law_draw" (.cons (.var 0) (.cons (.bin .add (.bin .mul (.lit (.int 4)) (.var 1)) (.lit (.int 1))) .nil)) .nil [] [.inl 0, .inl 1]) (.bin .mul (.lit (.int 2)) (.var 1))) (.cons (.bin .add (.lit (.int 2)) (.call "_law_draw" (.cons (.var 0) (.cons (.lit (.int 3)) .nil)) .nil [] [.inl 0, .inl 1])) .nil)) .nil [] [.inl 0, .inl 1]))
    .nil) .nil)
    (.cons (.ret (.tup (.cons (.bin .sub (.call "_law_draw" (.cons (.var 0) (.cons (.bin .add (.var 1) (.lit (.int 1))) .nil)) .nil [] [.inl 0, .inl 1]) (.bin .fdiv (.var 1) (.lit (.int 2)))) (.cons (.lit (.int 1)) .nil))))
    .nil))⟩
def f__law_interval : Fn := ⟨3, 6, (.cons (.set 3 (.call "_law_bound" (.cons (.var 0) (.cons (.var 1) .nil)) .nil [] [.inl 0, .inl 1]))
    (.cons (.set 4 (.call "_law_bound" (.cons (.var 0) (.cons (.var 1) .nil)) .nil [] [.inl 0, .inl 1]))
    (.cons (.set 5 (.call "_law_draw" (.cons (.var 0) (.cons (.lit (.int 6)) .nil)) .nil [] [.inl 0, .inl 1]))
    (.cons (.ifs (.band (.cons (.cmp .ne (.var 2) (.lst .nil)) (.cons (.cmp .eq (.var 5) (.lit (.int 0))) .nil))) (.cons (.ret (.call "_law_choice" (.cons (.var 0) (.cons (.var 2) .nil)) .nil [] [.inl 0, .inl 1]))
    .nil) .nil)
    (.cons (.ifs (.band (.cons (.cmp .ne (.var 2) (.lst .nil)) (.cons (.cmp .eq (.var 5) (.lit (.int 1))) .nil))) (.cons (.set 3 (.idx (.call "_law_choice" (.cons (.var 0) (.cons (.var 2) .nil)) .nil [] [.inl 0, .inl 1]) (.call "_law_draw" (.cons (.var 0) (.cons (.lit (.int 2)) .nil)) .nil [] [.inl 0, .inl 1])))
    .nil) .nil)
    (.cons (.ifs (.call "_law_less" (.cons (.var 4) (.cons (.var 3) .nil)) .nil [] [.inl 0, .inl 1]) (.cons (.ret (.tup (.cons (.var 4) (.cons (.var 3) .nil))))
    .nil) .nil)
    (.cons (.ifs (.band (.cons (.cmp .eq (.var 4) (.var 3)) (.cons (.cmp .gt (.var 5) (.lit (.int 2))) .nil))) (.cons (.ret (.tup (.cons (.var 3) (.cons (.tup (.cons (.bin .add (.idx (.var 3) (.lit (.int 0))) (.idx (.var 3) (.lit (.int 1)))) (.cons (.idx (.var 3) (.lit (.int 1))) .nil))) .nil))))
    .nil) .nil)
    (.cons (.ret (.tup (.cons (.var 3) (.cons (.var 4) .nil))))
    .nil))))))))⟩
def f__law_intervals_L1 : Sms := (.cons (.mth none 6 .append (.cons (.call "_law_interval" (.cons (.var 0) (.cons (.var 2) (.cons (.var 6) .nil))) .nil [] [.inl 0, .inl 1, .inl 2]) .nil))
    .nil)
def f__law_intervals : Fn := ⟨3, 9, (.cons (.set 3 (.lst (.cons (.lit (.str "a")) (.cons (.lit (.str "b")) (.cons (.lit (.str "bb")) (.cons (.lit (.str "item")) (.cons (.lit (.str "d")) (.cons (.lit (.str "xyzxyz")) (.cons (.lit (.str "z")) .nil)))))))))
    (.cons (.set 4 (.bin .add (.lit (.int 1)) (.call "_law_draw" (.cons (.var 0) (.cons (.var 1) .nil)) .nil [] [.inl 0, .inl 1])))
    (.cons (.set 5 (.slc (.call "_law_shuffled" (.cons (.var 0) (.cons (.var 3) .nil)) .nil [] [.inl 0, .inl 1]) .nil (.cons (.var 4) .nil)))
    (.cons (.set 6 (.lst .nil))
    (.cons (.fors [7] false (.ex (.var 5)) f__law_intervals_L1)
    (.cons (.ret (.bi .sorted (.cons (.lc [8] false (.rng (.cons (.var 4) .nil)) .nil (.tup (.cons (.idx (.var 5) (.var 8)) (.cons (.idx (.idx (.var 6) (.var 8)) (.lit (.int 0))) (.cons (.idx (.idx (.var 6) (.var 8)) (.lit (.int 1))) .nil))))) .nil)))
    .nil))))))⟩
def f__law_bent : Fn := ⟨2, 11, (.cons (.set 2 (.call "_law_draw" (.cons (.var 0) (.cons (.bi .len (.cons (.var 1) .nil)) .nil)) .nil [] [.inl 0, .inl 1]))
    (.cons (.unp [3, 4, 5] (.idx (.var 1) (.var 2)))
    (.cons (.set 6 (.call "_law_draw" (.cons (.var 0) (.cons (.lit (.int 7)) .nil)) .nil [] [.inl 0, .inl 1]))
    (.cons (.set 7 (.bi .list (.cons (.var 1) .nil)))
    (.cons (.ifs (.cmp .eq (.var 6) (.lit (.int 0))) (.cons (.sub 7 (.var 2) (.tup (.cons (.call "_law_choice" (.cons (.var 0) (.cons (.lst (.cons (.lit (.str "")) (.cons (.lit (.str "A")) (.cons (.lit (.str "a1")) (.cons (.lit (.str "abcdefg")) (.cons (.lit (.str "a b")) .nil)))))) .nil)) .nil [] [.inl 0, .inl 1]) (.cons (.var 4) (.cons (.var 5) .nil)))))
    (.cons (.ret (.tup (.cons (.var 7) (.cons (.lit (.str "intervals")) .nil))))
    .nil)) .nil)
    (.cons (.ifs (.cmp .eq (.var 6) (.lit (.int 1))) (.cons (.mth none 7 .insert (.cons (.var 2) (.cons (.idx (.var 7) (.var 2)) .nil)))
    (.cons (.ret (.tup (.cons (.var 7) (.cons (.lit (.str "intervals")) .nil))))
    .nil)) .nil)
    (.cons (.ifs (.cmp .eq (.var 6) (.lit (.int 2))) (.cons (.sub 7 (.var 2) (.tup (.cons (.var 3) (.cons (.tup (.cons (.bin .add (.idx (.var 5) (.lit (.int 0))) (.idx (.var 5) (.lit (.int 1)))) (.cons (.idx (.var 5) (.lit (.int 1))) .nil))) (.cons (.var 5) .nil)))))
    (.cons (.ret (.tup (.cons (.var 7) (.cons (.lit (.str "intervals")) .nil))))
    .nil)) .nil)
    (.cons (.ifs (.cmp .eq (.var 6) (.lit (.int 3))) (.cons (.set 8 (.call "_law_choice" (.cons (.var 0) (.cons (.lst (.cons (.tup (.cons (.lit (.int 2)) (.cons (.lit (.int 4)) .nil))) (.cons (.tup (.cons (.lit (.int 1)) (.cons (.lit (.int 0)) .nil))) (.cons (.tup (.cons (.lit (.int 1)) (.cons (.neg (.lit (.int 1))) .nil))) (.cons (.tup (.cons (.lit (.int 0)) (.cons (.lit (.int 2)) .nil))) (.cons (.tup (.cons (.lit (.int 3)) (.cons (.neg (.lit (.int 3))) .nil))) .nil)))))) .nil)) .nil [] [.inl 0, .inl 1]))
    (.cons (.sub 7 (.var 2) (.call "_law_choice" (.cons (.var 0) (.cons (.lst (.cons (.tup (.cons (.var 3) (.cons (.var 8) (.cons (.var 5) .nil)))) (.cons (.tup (.cons (.var 3) (.cons (.var 4) (.cons (.var 8) .nil)))) (.cons (.tup (.cons (.lit (.str "A")) (.cons (.var 4) (.cons (.var 8) .nil)))) .nil)))) .nil)) .nil [] [.inl 0, .inl 1]))
    (.cons (.ret (.tup (.cons (.var 7) (.cons (.lit (.str "fraction")) .nil))))
    .nil))) .nil)
    (.cons (.ifs (.cmp .eq (.var 6) (.lit (.int 4))) (.cons (.sub 7 (.var 2) (.tup (.cons (.lit (.str "zz")) (.cons (.var 4) (.cons (.var 5) .nil)))))
    (.cons (.mth none 7 .append (.cons (.tup (.cons (.lit (.str "zy")) (.cons (.var 4) (.cons (.var 5) .nil)))) .nil))
    (.cons (.ret (.tup (.cons (.var 7) (.cons (.lit (.str "intervals")) .nil))))
    .nil))) .nil)
    (.cons (.ifs (.cmp .eq (.var 6) (.lit (.int 5))) (.cons (.set 9 (.lit (.str "abcdefghijklmnopqrstuvwxy")))
    (.cons (.ret (.tup (.cons (.lc [10] false (.walk 9) .nil (.tup (.cons (.var 10) (.cons (.var 4) (.cons (.var 5) .nil))))) (.cons (.lit (.str "intervals")) .nil))))
    .nil)) .nil)
    (.cons (.ret (.tup (.cons (.var 7) (.cons (.lit (.str "")) .nil))))
    .nil)))))))))))⟩
def f__law_inside : Fn := ⟨3, 3, (.cons (.ret (.band (.cons (.call "_law_less" (.cons (.var 1) (.cons (.var 0) .nil)) .nil [] [.inl 0, .inl 1]) (.cons (.call "_law_less" (.cons (.var 0) (.cons (.var 2) .nil)) .nil [] [.inl 0, .inl 1]) .nil))))
    .nil)⟩
def f__law_interpolate : Fn := ⟨4, 5, (.cons (.set 4 (.bin .add (.bin .mul (.bin .mul (.idx (.var 0) (.lit (.int 0))) (.idx (.var 1) (.lit (.int 1)))) (.bin .sub (.var 2) (.var 3))) (.bin .mul (.bin .mul (.idx (.var 1) (.lit (.int 0))) (.idx (.var 0) (.lit (.int 1)))) (.var 3))))
    (.cons (.ret (.call "_law_reduced" (.cons (.var 4) (.cons (.bin .mul (.bin .mul (.idx (.var 0) (.lit (.int 1))) (.idx (.var 1) (.lit (.int 1)))) (.var 2)) .nil)) .nil [] [.inl 0, .inl 1]))
    .nil))⟩
def f__law_by_name : Fn := ⟨1, 4, (.cons (.ret (.bi .dict (.cons (.lc [1, 2, 3] true (.walk 0) .nil (.tup (.cons (.var 1) (.cons (.tup (.cons (.var 2) (.cons (.var 3) .nil))) .nil)))) .nil)))
    .nil)⟩
def f__law_as_list : Fn := ⟨1, 2, (.cons (.ret (.lc [1] false (.ex (.bi .sorted (.cons (.var 0) .nil))) .nil (.tup (.cons (.var 1) (.cons (.idx (.idx (.var 0) (.var 1)) (.lit (.int 0))) (.cons (.idx (.idx (.var 0) (.var 1)) (.lit (.int 1))) .nil))))))
    .nil)⟩
def f__law_is_known : Fn := ⟨1, 1, (.cons (.ret (.cmp .eq (.idx (.var 0) (.lit (.int 0))) (.idx (.var 0) (.lit (.int 1)))))
    .nil)⟩
def f__law_value : Fn := ⟨3, 6, (.cons (.ifs (.call "_law_is_known" (.cons (.var 1) .nil) .nil [] [.inl 0]) (.cons (.ret (.idx (.var 1) (.lit (.int 0))))
    .nil) .nil)
    (.cons (.set 3 (.lc [4] false (.walk 2) (.cons (.call "_law_inside" (.cons (.var 4) (.cons (.idx (.var 1) (.lit (.int 0))) (.cons (.idx (.var 1) (.lit (.int 1))) .nil))) .nil [] [.inl 0, .inl 1, .inl 2]) .nil) (.var 4)))
    (.cons (.ifs (.band (.cons (.cmp .ne (.var 3) (.lst .nil)) (.cons (.cmp .eq (.call "_law_draw" (.cons (.var 0) (.cons (.lit (.int 2)) .nil)) .nil [] [.inl 0, .inl 1]) (.lit (.int 0))) .nil))) (.cons (.ret (.call "_law_choice" (.cons (.var 0) (.cons (.var 3) .nil)) .nil [] [.inl 0, .inl 1]))
    .nil) .nil)
    (.cons (.set 5 (.bin .add (.lit (.int 2)) (.call "_law_draw" (.cons (.var 0) (.cons (.lit (.int 5)) .nil)) .nil [] [.inl 0, .inl 1])))
    (.cons (.ret (.call "_law_interpolate" (.cons (.idx (.var 1) (.lit (.int 0))) (.cons (.idx (.var 1) (.lit (.int 1))) (.cons (.var 5) (.cons (.bin .add (.lit (.int 1)) (.call "_law_draw" (.cons (.var 0) (.cons (.bin .sub (.var 5) (.lit (.int 1))) .nil)) .nil [] [.inl 0, .inl 1])) .nil)))) .nil [] [.inl 0, .inl 1, .inl 2, .inl 3]))
    .nil)))))⟩
def f__law_all_bounds : Fn := ⟨1, 4, (.cons (.ret (.bin .add (.lc [1, 2, 3] true (.walk 0) .nil (.var 2)) (.lc [1, 2, 3] true (.walk 0) .nil (.var 3))))
    .nil)⟩
def f__law_scenario : Fn := ⟨2, 6, (.cons (.set 2 (.call "_law_all_bounds" (.cons (.var 1) .nil) .nil [] [.inl 0]))
    (.cons (.ret (.bi .dict (.cons (.lc [3, 4, 5] true (.walk 1) .nil (.tup (.cons (.var 3) (.cons (.call "_law_value" (.cons (.var 0) (.cons (.tup (.cons (.var 4) (.cons (.var 5) .nil))) (.cons (.var 2) .nil))) .nil [] [.inl 0, .inl 1, .inl 2]) .nil)))) .nil)))
    .nil))⟩
def f__law_revealed_L1 : Sms := (.cons (.sub 3 (.var 4) (.tup (.cons (.idx (.var 1) (.var 4)) (.cons (.idx (.var 1) (.var 4)) .nil))))
    .nil)
def f__law_revealed : Fn := ⟨3, 5, (.cons (.set 3 (.bi .dict (.cons (.var 0) .nil)))
    (.cons (.fors [4] false (.ex (.var 2)) f__law_revealed_L1)
    (.cons (.ret (.var 3))
    .nil)))⟩
def f_smaller : Fn := ⟨2, 2, (.cons (.ret (.ite (.call "at_most" (.cons (.var 0) (.cons (.var 1) .nil)) .nil [] [.inl 0, .inl 1]) (.var 0) (.var 1)))
    .nil)⟩
def f_charged_names : Fn := ⟨1, 1, (.cons (.ret (.ite (.cmp .eq (.idx (.var 0) (.lit (.int 0))) (.lit (.str "required"))) (.slc (.var 0) (.cons (.lit (.int 1)) .nil) (.cons (.lit (.int 2)) .nil)) (.slc (.var 0) (.cons (.lit (.int 1)) .nil) (.cons (.lit (.int 3)) .nil))))
    .nil)⟩
def f_probed_name : Fn := ⟨1, 1, (.cons (.ret (.ite (.cmp .eq (.idx (.var 0) (.lit (.int 0))) (.lit (.str "required"))) (.idx (.var 0) (.lit (.int 1))) (.idx (.var 0) (.lit (.int 4)))))
    .nil)⟩
def f_charged_amount : Fn := ⟨1, 1, (.cons (.ret (.ite (.cmp .eq (.idx (.var 0) (.lit (.int 0))) (.lit (.str "required"))) (.idx (.var 0) (.lit (.int 2))) (.idx (.var 0) (.lit (.int 3)))))
    .nil)⟩
def f_has_entry_shape : Fn := ⟨1, 1, (.cons (.ret (.bor (.cons (.band (.cons (.cmp .eq (.bi .len (.cons (.var 0) .nil)) (.lit (.int 4))) (.cons (.cmp .eq (.idx (.var 0) (.lit (.int 0))) (.lit (.str "required"))) .nil))) (.cons (.band (.cons (.cmp .eq (.bi .len (.cons (.var 0) .nil)) (.lit (.int 6))) (.cons (.cmp .eq (.idx (.var 0) (.lit (.int 0))) (.lit (.str "pair"))) .nil))) .nil))))
    .nil)⟩
def f_is_witness : Fn := ⟨3, 4, (.cons (.ifs (.cmp .eq (.bi .len (.cons (.var 2) .nil)) (.lit (.int 1))) (.cons (.ret (.bi .any (.cons (.lc [3] false (.walk 1) .nil (.cmp .isin (.idx (.var 2) (.lit (.int 0))) (.call "required_in" (.cons (.var 0) (.cons (.var 3) .nil)) .nil [] [.inl 0, .inl 1]))) .nil)))
    .nil) .nil)
    (.cons (.ret (.bi .any (.cons (.lc [3] false (.walk 1) .nil (.cmp .isin (.tup (.cons (.bi .min (.cons (.var 2) .nil)) (.cons (.bi .max (.cons (.var 2) .nil)) .nil))) (.call "pairs_in" (.cons (.var 0) (.cons (.var 3) .nil)) .nil [] [.inl 0, .inl 1]))) .nil)))
    .nil))⟩
def f_forced_items_L1 : Sms := (.cons (.set 4 (.lc [5] false (.ex (.bi .sorted (.cons (.var 0) .nil))) (.cons (.band (.cons (.cmp .ne (.var 5) (.var 3)) (.cons (.call "strictly_inside" (.cons (.idx (.var 1) (.var 5)) (.cons (.idx (.var 0) (.var 3)) .nil)) .nil [] [.inl 0, .inl 1]) .nil))) .nil) (.var 5)))
    (.cons (.ifs (.cmp .ne (.var 4) (.lst .nil)) (.cons (.mth none 2 .append (.cons (.tup (.cons (.var 3) (.cons (.idx (.var 4) (.lit (.int 0))) .nil))) .nil))
    .nil) .nil)
    .nil))
def f_forced_items : Fn := ⟨2, 6, (.cons (.set 2 (.lst .nil))
    (.cons (.fors [3] false (.ex (.call "unknown_items" (.cons (.var 0) .nil) .nil [] [.inl 0])) f_forced_items_L1)
    (.cons (.ret (.var 2))
    .nil)))⟩
def f_covers_end : Fn := ⟨3, 4, (.cons (.set 3 (.idx (.idx (.var 2) (.var 1)) (.lit (.int 1))))
    (.cons (.ret (.band (.cons (.call "less" (.cons (.idx (.var 0) (.lit (.int 0))) (.cons (.var 3) .nil)) .nil [] [.inl 0, .inl 1]) (.cons (.call "at_most" (.cons (.var 3) (.cons (.idx (.var 0) (.lit (.int 1))) .nil)) .nil [] [.inl 0, .inl 1]) .nil))))
    .nil))⟩
def f_by_upper_bound_L1 : Sms := (.cons (.set 4 (.bi .len (.cons (.lc [5] false (.walk 2) (.cons (.call "at_most" (.cons (.idx (.idx (.var 0) (.var 5)) (.lit (.int 1))) (.cons (.idx (.idx (.var 0) (.var 3)) (.lit (.int 1))) .nil)) .nil [] [.inl 0, .inl 1]) .nil) (.var 5)) .nil)))
    (.cons (.mth none 2 .insert (.cons (.var 4) (.cons (.var 3) .nil)))
    .nil))
def f_by_upper_bound : Fn := ⟨2, 6, (.cons (.set 2 (.lst .nil))
    (.cons (.fors [3] false (.ex (.bi .sorted (.cons (.var 1) .nil))) f_by_upper_bound_L1)
    (.cons (.ret (.var 2))
    .nil)))⟩
def f_cheapest_sort : Fn := ⟨3, 11, (.cons (.set 3 (.call "forced_items" (.cons (.var 0) (.cons (.var 1) .nil)) .nil [] [.inl 0, .inl 1]))
    (.cons (.set 4 (.lc [5, 6] true (.walk 3) .nil (.var 5)))
    (.cons (.set 7 (.lc [5] false (.ex (.call "unknown_items" (.cons (.var 0) .nil) .nil [] [.inl 0])) (.cons (.cmp .notin (.var 5) (.var 4)) .nil) (.var 5)))
    (.cons (.unp [8, 9] (.call "sweep" (.cons (.var 0) (.cons (.var 7) (.cons (.var 2) .nil))) .nil [] [.inl 0, .inl 1, .inl 2]))
    (.cons (.set 10 (.bi .sorted (.cons (.bin .add (.var 4) (.lc [5] false (.walk 7) (.cons (.cmp .notin (.var 5) (.var 9)) .nil) (.var 5))) .nil)))
    (.cons (.ret (.tup (.cons (.bi .sum (.cons (.lc [5] false (.walk 10) .nil (.idx (.var 2) (.var 5))) .nil)) (.cons (.var 10) (.cons (.tup (.cons (.lit (.str "sweep")) (.cons (.var 3) (.cons (.var 8) .nil)))) .nil)))))
    .nil))))))⟩
def f_minimum_options_L1 : Sms := (.cons (.set 7 (.idx (.idx (.var 0) (.var 6)) (.lit (.int 1))))
    (.cons (.set 8 (.lc [4] false (.ex (.call "unknown_items" (.cons (.var 0) .nil) .nil [] [.inl 0])) (.cons (.band (.cons (.cmp .ne (.var 4) (.var 6)) (.cons (.call "less" (.cons (.idx (.idx (.var 0) (.var 4)) (.lit (.int 0))) (.cons (.var 7) .nil)) .nil [] [.inl 0, .inl 1]) .nil))) .nil) (.var 4)))
    (.cons (.set 9 (.lc [4] false (.walk 0) (.cons (.bor (.cons (.cmp .isin (.var 4) (.var 8)) (.cons (.call "is_known" (.cons (.idx (.var 0) (.var 4)) .nil) .nil [] [.inl 0]) .nil))) .nil) (.var 4)))
    (.cons (.ifs (.bi .all (.cons (.lc [4] false (.walk 9) .nil (.call "at_most" (.cons (.var 7) (.cons (.idx (.var 1) (.var 4)) .nil)) .nil [] [.inl 0, .inl 1])) .nil)) (.cons (.mth none 5 .append (.cons (.tup (.cons (.var 6) (.cons (.var 8) .nil))) .nil))
    .nil) .nil)
    .nil))))
def f_minimum_options_L2 : Sms := (.cons (.set 3 (.call "smaller" (.cons (.var 3) (.cons (.idx (.var 1) (.var 4)) .nil)) .nil [] [.inl 0, .inl 1]))
    .nil)
def f_minimum_options : Fn := ⟨2, 10, (.cons (.set 2 (.bi .sorted (.cons (.var 0) .nil)))
    (.cons (.set 3 (.idx (.var 1) (.idx (.var 2) (.lit (.int 0)))))
    (.cons (.fors [4] false (.ex (.var 2)) f_minimum_options_L2)
    (.cons (.set 5 (.lst (.cons (.tup (.cons (.lit .non) (.cons (.lc [4] false (.ex (.call "unknown_items" (.cons (.var 0) .nil) .nil [] [.inl 0])) (.cons (.call "less" (.cons (.idx (.idx (.var 0) (.var 4)) (.lit (.int 0))) (.cons (.var 3) .nil)) .nil [] [.inl 0, .inl 1]) .nil) (.var 4)) .nil))) .nil)))
    (.cons (.fors [6] false (.ex (.call "unknown_items" (.cons (.var 0) .nil) .nil [] [.inl 0])) f_minimum_options_L1)
    (.cons (.ret (.var 5))
    .nil))))))⟩
def f_cheapest_minimum : Fn := ⟨3, 10, (.cons (.set 3 (.lc [5, 6] true (.ex (.call "minimum_options" (.cons (.var 0) (.cons (.var 1) .nil)) .nil [] [.inl 0, .inl 1])) .nil (.tup (.cons (.var 5) (.cons (.var 6) (.cons (.bi .sum (.cons (.lc [4] false (.walk 6) .nil (.idx (.var 2) (.var 4))) .nil)) .nil))))))
    (.cons (.set 7 (.bi .min (.cons (.lc [5, 6, 8] true (.walk 3) .nil (.var 8)) .nil)))
    (.cons (.set 9 (.idx (.lc [5, 6, 8] true (.walk 3) (.cons (.cmp .eq (.var 8) (.var 7)) .nil) (.var 6)) (.lit (.int 0))))
    (.cons (.ret (.tup (.cons (.var 7) (.cons (.var 9) (.cons (.tup (.cons (.lit (.str "options")) (.cons (.lc [5, 6, 8] true (.walk 3) .nil (.tup (.cons (.var 5) (.cons (.var 8) .nil)))) .nil))) .nil)))))
    .nil))))⟩
def f_prepared : Fn := ⟨4, 9, (.cons (.expr (.call "require_intervals" (.cons (.var 0) .nil) .nil [] [.inl 0]))
    (.cons (.set 4 (.call "by_name" (.cons (.var 0) .nil) .nil [] [.inl 0]))
    (.cons (.expr (.call "require_queries" (.cons (.lst (.cons (.var 1) .nil)) (.cons (.var 4) .nil)) .nil [] [.inl 0, .inl 1]))
    (.cons (.set 5 (.call "price_table" (.cons (.var 4) (.cons (.var 3) .nil)) .nil [] [.inl 0, .inl 1]))
    (.cons (.set 6 (.call "relevant" (.cons (.var 4) (.cons (.var 1) .nil)) .nil [] [.inl 0, .inl 1]))
    (.cons (.set 7 (.dc [8] false (.ex (.bi .sorted (.cons (.var 6) .nil))) .nil (.var 8) (.call "value_of" (.cons (.var 2) (.cons (.var 8) (.cons (.idx (.var 6) (.var 8)) .nil))) .nil [] [.inl 0, .inl 1, .inl 2])))
    (.cons (.ifs (.cmp .eq (.idx (.var 1) (.lit (.int 0))) (.lit (.str "max"))) (.cons (.ret (.tup (.cons (.call "mirrored" (.cons (.var 6) .nil) .nil [] [.inl 0]) (.cons (.dc [8] false (.walk 7) .nil (.var 8) (.call "negated" (.cons (.idx (.var 7) (.var 8)) .nil) .nil [] [.inl 0])) (.cons (.var 5) .nil)))))
    .nil) .nil)
    (.cons (.ret (.tup (.cons (.var 6) (.cons (.var 7) (.cons (.var 5) .nil)))))
    .nil))))))))⟩
def f_cheapest : Fn := ⟨4, 9, (.cons (.unp [4, 5, 6] (.call "prepared" (.cons (.var 0) (.cons (.var 1) (.cons (.var 2) (.cons (.var 3) .nil)))) .nil [] [.inl 0, .inl 1, .inl 2, .inl 3]))
    (.cons (.ifs (.cmp .isin (.idx (.var 1) (.lit (.int 0))) (.tup (.cons (.lit (.str "sort")) (.cons (.lit (.str "compare")) .nil)))) (.cons (.ret (.call "cheapest_sort" (.cons (.var 4) (.cons (.var 5) (.cons (.var 6) .nil))) .nil [] [.inl 0, .inl 1, .inl 2]))
    .nil) .nil)
    (.cons (.ifs (.cmp .eq (.idx (.var 1) (.lit (.int 0))) (.lit (.str "above"))) (.cons (.set 7 (.lc [8] false (.walk 4) (.cons (.call "strictly_inside" (.cons (.idx (.var 1) (.lit (.int 2))) (.cons (.idx (.var 4) (.var 8)) .nil)) .nil [] [.inl 0, .inl 1]) .nil) (.var 8)))
    (.cons (.ret (.tup (.cons (.bi .sum (.cons (.lc [8] false (.walk 7) .nil (.idx (.var 6) (.var 8))) .nil)) (.cons (.var 7) (.cons (.tup (.cons (.lit (.str "threshold")) (.cons (.bi .list (.cons (.var 7) .nil)) .nil))) .nil)))))
    .nil)) .nil)
    (.cons (.ret (.call "cheapest_minimum" (.cons (.var 4) (.cons (.var 5) (.cons (.var 6) .nil))) .nil [] [.inl 0, .inl 1, .inl 2]))
    .nil))))⟩
def f_all_subsets_L1 : Sms := (.cons (.set 1 (.bin .add (.var 1) (.lc [3] false (.walk 1) .nil (.bin .add (.var 3) (.lst (.cons (.var 2) .nil))))))
    .nil)
def f_all_subsets : Fn := ⟨1, 4, (.cons (.set 1 (.lst (.cons (.lst .nil) .nil)))
    (.cons (.fors [2] false (.ex (.var 0)) f_all_subsets_L1)
    (.cons (.ret (.var 1))
    .nil)))⟩
def f_cheapest_subset_L1 : Sms := (.cons (.set 12 (.bi .sum (.cons (.lc [7] false (.walk 11) .nil (.idx (.var 5) (.var 7))) .nil)))
    (.cons (.ifs (.bor (.cons (.cmp .isN (.var 10) (.lit .non)) (.cons (.cmp .lt (.tup (.cons (.var 12) (.cons (.var 11) .nil))) (.var 10)) .nil))) (.cons (.set 13 (.dc [7] false (.walk 4) .nil (.var 7) (.ite (.cmp .isin (.var 7) (.var 11)) (.idx (.var 9) (.var 7)) (.idx (.var 4) (.var 7)))))
    (.cons (.ifs (.bi .all (.cons (.lc [8] false (.walk 1) .nil (.call "certain_in" (.cons (.var 13) (.cons (.var 8) .nil)) .nil [] [.inl 0, .inl 1])) .nil)) (.cons (.set 10 (.tup (.cons (.var 12) (.cons (.var 11) .nil))))
    .nil) .nil)
    .nil)) .nil)
    .nil))
def f_cheapest_subset : Fn := ⟨4, 14, (.cons (.expr (.call "require_intervals" (.cons (.var 0) .nil) .nil [] [.inl 0]))
    (.cons (.set 4 (.call "by_name" (.cons (.var 0) .nil) .nil [] [.inl 0]))
    (.cons (.expr (.call "require_queries" (.cons (.var 1) (.cons (.var 4) .nil)) .nil [] [.inl 0, .inl 1]))
    (.cons (.set 5 (.call "price_table" (.cons (.var 4) (.cons (.var 3) .nil)) .nil [] [.inl 0, .inl 1]))
    (.cons (.set 6 (.lc [7] false (.ex (.call "unknown_items" (.cons (.var 4) .nil) .nil [] [.inl 0])) (.cons (.bi .any (.cons (.lc [8] false (.walk 1) .nil (.cmp .isin (.var 7) (.call "relevant" (.cons (.var 4) (.cons (.var 8) .nil)) .nil [] [.inl 0, .inl 1]))) .nil)) .nil) (.var 7)))
    (.cons (.ifs (.cmp .gt (.bi .len (.cons (.var 6) .nil)) (.glb "MAX_UNKNOWN" (.lit (.int 10)))) (.cons (.rais "LimitExceeded" (.cons (.bi .len (.cons (.var 6) .nil)) .nil))
    .nil) .nil)
    (.cons (.set 9 (.call "revealed" (.cons (.var 4) (.cons (.var 2) (.cons (.var 6) .nil))) .nil [] [.inl 0, .inl 1, .inl 2]))
    (.cons (.set 10 (.lit .non))
    (.cons (.fors [11] false (.ex (.call "all_subsets" (.cons (.var 6) .nil) .nil [] [.inl 0])) f_cheapest_subset_L1)
    (.cons (.ret (.var 10))
    .nil))))))))))⟩
def f__law_prices_L1 : Sms := (.cons (.ifs (.cmp .gt (.call "_law_draw" (.cons (.var 0) (.cons (.lit (.int 4)) .nil)) .nil [] [.inl 0, .inl 1]) (.lit (.int 0))) (.cons (.sub 2 (.var 3) (.bin .add (.lit (.int 1)) (.call "_law_choice" (.cons (.var 0) (.cons (.lst (.cons (.call "_law_draw" (.cons (.var 0) (.cons (.lit (.int 3)) .nil)) .nil [] [.inl 0, .inl 1]) (.cons (.call "_law_draw" (.cons (.var 0) (.cons (.lit (.int 9)) .nil)) .nil [] [.inl 0, .inl 1]) (.cons (.call "_law_draw" (.cons (.var 0) (.cons (.lit (.int 1000)) .nil)) .nil [] [.inl 0, .inl 1]) .nil)))) .nil)) .nil [] [.inl 0, .inl 1])))
    .nil) .nil)
    .nil)
def f__law_prices : Fn := ⟨2, 6, (.cons (.set 2 .dct0)
    (.cons (.fors [3, 4, 5] true (.ex (.var 1)) f__law_prices_L1)
    (.cons (.ret (.var 2))
    .nil)))⟩
def f_all_certain : Fn := ⟨2, 4, (.cons (.expr (.call "require_intervals" (.cons (.var 0) .nil) .nil [] [.inl 0]))
    (.cons (.set 2 (.call "by_name" (.cons (.var 0) .nil) .nil [] [.inl 0]))
    (.cons (.expr (.call "require_queries" (.cons (.var 1) (.cons (.var 2) .nil)) .nil [] [.inl 0, .inl 1]))
    (.cons (.ret (.bi .all (.cons (.lc [3] false (.walk 1) .nil (.call "certain_in" (.cons (.var 2) (.cons (.var 3) .nil)) .nil [] [.inl 0, .inl 1])) .nil)))
    .nil))))⟩
def f__law_names : Fn := ⟨2, 7, (.cons (.set 2 (.lc [3, 4, 5] true (.walk 1) .nil (.var 3)))
    (.cons (.set 6 (.lc [3] false (.ex (.call "_law_shuffled" (.cons (.var 0) (.cons (.var 2) .nil)) .nil [] [.inl 0, .inl 1])) (.cons (.cmp .gt (.call "_law_draw" (.cons (.var 0) (.cons (.lit (.int 4)) .nil)) .nil [] [.inl 0, .inl 1]) (.lit (.int 0))) .nil) (.var 3)))
    (.cons (.ret (.bi .tuple (.cons (.ite (.cmp .ne (.var 6) (.lst .nil)) (.var 6) (.slc (.var 2) .nil (.cons (.lit (.int 1)) .nil))) .nil)))
    .nil)))⟩
def f__law_query : Fn := ⟨2, 8, (.cons (.set 2 (.call "_law_choice" (.cons (.var 0) (.cons (.lst (.cons (.lit (.str "sort")) (.cons (.lit (.str "min")) (.cons (.lit (.str "max")) (.cons (.lit (.str "above")) (.cons (.lit (.str "compare")) (.cons (.lit (.str "sort")) (.cons (.lit (.str "min")) .nil)))))))) .nil)) .nil [] [.inl 0, .inl 1]))
    (.cons (.set 3 (.call "_law_names" (.cons (.var 0) (.cons (.var 1) .nil)) .nil [] [.inl 0, .inl 1]))
    (.cons (.ifs (.band (.cons (.cmp .eq (.var 2) (.lit (.str "compare"))) (.cons (.cmp .gt (.bi .len (.cons (.var 1) .nil)) (.lit (.int 1))) .nil))) (.cons (.set 4 (.slc (.call "_law_shuffled" (.cons (.var 0) (.cons (.lc [5, 6, 7] true (.walk 1) .nil (.var 5)) .nil)) .nil [] [.inl 0, .inl 1]) .nil (.cons (.lit (.int 2)) .nil)))
    (.cons (.ret (.tup (.cons (.lit (.str "compare")) (.cons (.idx (.var 4) (.lit (.int 0))) (.cons (.idx (.var 4) (.lit (.int 1))) .nil)))))
    .nil)) .nil)
    (.cons (.ifs (.cmp .eq (.var 2) (.lit (.str "above"))) (.cons (.ret (.tup (.cons (.lit (.str "above")) (.cons (.var 3) (.cons (.call "_law_choice" (.cons (.var 0) (.cons (.bin .add (.call "_law_all_bounds" (.cons (.var 1) .nil) .nil [] [.inl 0]) (.lst (.cons (.call "_law_bound" (.cons (.var 0) (.cons (.lit (.int 8)) .nil)) .nil [] [.inl 0, .inl 1]) .nil))) .nil)) .nil [] [.inl 0, .inl 1]) .nil)))))
    .nil) .nil)
    (.cons (.ret (.tup (.cons (.ite (.cmp .eq (.var 2) (.lit (.str "compare"))) (.lit (.str "sort")) (.var 2)) (.cons (.var 3) .nil))))
    .nil)))))⟩
def f__law_queries : Fn := ⟨3, 4, (.cons (.ret (.lc [3] false (.rng (.cons (.call "_law_draw" (.cons (.var 0) (.cons (.bin .add (.var 2) (.lit (.int 1))) .nil)) .nil [] [.inl 0, .inl 1]) .nil)) .nil (.call "_law_query" (.cons (.var 0) (.cons (.var 1) .nil)) .nil [] [.inl 0, .inl 1])))
    .nil)⟩
def f__law_at_most : Fn := ⟨2, 2, (.cons (.ret (.nt (.call "_law_less" (.cons (.var 1) (.cons (.var 0) .nil)) .nil [] [.inl 0, .inl 1])))
    .nil)⟩
def f__law_items : Fn := ⟨1, 1, (.cons (.ret (.ite (.cmp .eq (.idx (.var 0) (.lit (.int 0))) (.lit (.str "compare"))) (.lst (.cons (.idx (.var 0) (.lit (.int 1))) (.cons (.idx (.var 0) (.lit (.int 2))) .nil))) (.bi .list (.cons (.idx (.var 0) (.lit (.int 1))) .nil))))
    .nil)⟩
def f__law_never_above : Fn := ⟨2, 2, (.cons (.ret (.call "_law_at_most" (.cons (.idx (.var 0) (.lit (.int 1))) (.cons (.idx (.var 1) (.lit (.int 0))) .nil)) .nil [] [.inl 0, .inl 1]))
    .nil)⟩
def f__law_separated : Fn := ⟨2, 2, (.cons (.ret (.bor (.cons (.call "_law_never_above" (.cons (.var 0) (.cons (.var 1) .nil)) .nil [] [.inl 0, .inl 1]) (.cons (.call "_law_never_above" (.cons (.var 1) (.cons (.var 0) .nil)) .nil [] [.inl 0, .inl 1]) .nil))))
    .nil)⟩
def f__law_all_pairs_L1 : Sms := (.cons (.set 1 (.bin .add (.var 1) (.lc [3] false (.rng (.cons (.bin .add (.var 2) (.lit (.int 1))) (.cons (.bi .len (.cons (.var 0) .nil)) .nil))) .nil (.tup (.cons (.idx (.var 0) (.var 2)) (.cons (.idx (.var 0) (.var 3)) .nil))))))
    .nil)
def f__law_all_pairs : Fn := ⟨1, 4, (.cons (.set 1 (.lst .nil))
    (.cons (.fors [2] false (.rng (.cons (.bi .len (.cons (.var 0) .nil)) .nil)) f__law_all_pairs_L1)
    (.cons (.ret (.var 1))
    .nil)))⟩
def f__law_extremes_L1 : Sms := (.cons (.set 5 (.lc [6] false (.walk 1) (.cons (.cmp .ne (.var 6) (.var 4)) .nil) (.idx (.var 0) (.var 6))))
    (.cons (.ifs (.band (.cons (.cmp .eq (.var 2) (.lit (.str "max"))) (.cons (.bi .all (.cons (.lc [6] false (.walk 5) .nil (.call "_law_never_above" (.cons (.var 6) (.cons (.idx (.var 0) (.var 4)) .nil)) .nil [] [.inl 0, .inl 1])) .nil)) .nil))) (.cons (.mth none 3 .append (.cons (.var 4) .nil))
    .nil) .nil)
    (.cons (.ifs (.band (.cons (.cmp .ne (.var 2) (.lit (.str "max"))) (.cons (.bi .all (.cons (.lc [6] false (.walk 5) .nil (.call "_law_never_above" (.cons (.idx (.var 0) (.var 4)) (.cons (.var 6) .nil)) .nil [] [.inl 0, .inl 1])) .nil)) .nil))) (.cons (.mth none 3 .append (.cons (.var 4) .nil))
    .nil) .nil)
    .nil)))
def f__law_extremes : Fn := ⟨3, 7, (.cons (.set 3 (.lst .nil))
    (.cons (.fors [4] false (.ex (.bi .sorted (.cons (.var 1) .nil))) f__law_extremes_L1)
    (.cons (.ret (.var 3))
    .nil)))⟩
def f__law_certain : Fn := ⟨2, 6, (.cons (.set 2 (.call "_law_items" (.cons (.var 1) .nil) .nil [] [.inl 0]))
    (.cons (.ifs (.cmp .isin (.idx (.var 1) (.lit (.int 0))) (.tup (.cons (.lit (.str "sort")) (.cons (.lit (.str "compare")) .nil)))) (.cons (.ret (.bi .all (.cons (.lc [3, 4] true (.ex (.call "_law_all_pairs" (.cons (.var 2) .nil) .nil [] [.inl 0])) .nil (.call "_law_separated" (.cons (.idx (.var 0) (.var 3)) (.cons (.idx (.var 0) (.var 4)) .nil)) .nil [] [.inl 0, .inl 1])) .nil)))
    .nil) .nil)
    (.cons (.ifs (.cmp .eq (.idx (.var 1) (.lit (.int 0))) (.lit (.str "above"))) (.cons (.ret (.nt (.bi .any (.cons (.lc [5] false (.walk 2) .nil (.call "_law_inside" (.cons (.idx (.var 1) (.lit (.int 2))) (.cons (.idx (.idx (.var 0) (.var 5)) (.lit (.int 0))) (.cons (.idx (.idx (.var 0) (.var 5)) (.lit (.int 1))) .nil))) .nil [] [.inl 0, .inl 1, .inl 2])) .nil))))
    .nil) .nil)
    (.cons (.ret (.cmp .ne (.call "_law_extremes" (.cons (.var 0) (.cons (.var 2) (.cons (.idx (.var 1) (.lit (.int 0))) .nil))) .nil [] [.inl 0, .inl 1, .inl 2]) (.lst .nil)))
    .nil))))⟩
def f__law_all_certain : Fn := ⟨2, 3, (.cons (.ret (.bi .all (.cons (.lc [2] false (.walk 1) .nil (.call "_law_certain" (.cons (.var 0) (.cons (.var 2) .nil)) .nil [] [.inl 0, .inl 1])) .nil)))
    .nil)⟩
def f_precedes : Fn := ⟨2, 2, (.cons (.ifs (.cmp .eq (.idx (.var 0) (.lit (.int 0))) (.idx (.var 1) (.lit (.int 0)))) (.cons (.ret (.cmp .lt (.idx (.var 0) (.lit (.int 1))) (.idx (.var 1) (.lit (.int 1)))))
    .nil) .nil)
    (.cons (.ret (.call "never_above" (.cons (.idx (.var 0) (.lit (.int 0))) (.cons (.idx (.var 1) (.lit (.int 0))) .nil)) .nil [] [.inl 0, .inl 1]))
    .nil))⟩
def f_sorted_names_L1 : Sms := (.cons (.set 3 (.bi .len (.cons (.lc [4] false (.walk 1) (.cons (.call "precedes" (.cons (.tup (.cons (.idx (.var 0) (.var 4)) (.cons (.var 4) .nil))) (.cons (.tup (.cons (.idx (.var 0) (.var 2)) (.cons (.var 2) .nil))) .nil)) .nil [] [.inl 0, .inl 1]) .nil) (.var 4)) .nil)))
    (.cons (.mth none 1 .insert (.cons (.var 3) (.cons (.var 2) .nil)))
    .nil))
def f_sorted_names : Fn := ⟨1, 5, (.cons (.set 1 (.lst .nil))
    (.cons (.fors [2] false (.ex (.bi .sorted (.cons (.var 0) .nil))) f_sorted_names_L1)
    (.cons (.ret (.bi .tuple (.cons (.var 1) .nil)))
    .nil)))⟩
def f_is_above : Fn := ⟨2, 2, (.cons (.ret (.ite (.call "is_known" (.cons (.var 0) .nil) .nil [] [.inl 0]) (.call "less" (.cons (.var 1) (.cons (.idx (.var 0) (.lit (.int 0))) .nil)) .nil [] [.inl 0, .inl 1]) (.call "at_most" (.cons (.var 1) (.cons (.idx (.var 0) (.lit (.int 0))) .nil)) .nil [] [.inl 0, .inl 1])))
    .nil)⟩
def f_answer_in : Fn := ⟨2, 4, (.cons (.set 2 (.call "relevant" (.cons (.var 0) (.cons (.var 1) .nil)) .nil [] [.inl 0, .inl 1]))
    (.cons (.ifs (.cmp .eq (.idx (.var 1) (.lit (.int 0))) (.lit (.str "sort"))) (.cons (.ret (.call "sorted_names" (.cons (.var 2) .nil) .nil [] [.inl 0]))
    .nil) .nil)
    (.cons (.ifs (.cmp .eq (.idx (.var 1) (.lit (.int 0))) (.lit (.str "compare"))) (.cons (.ret (.idx (.call "sorted_names" (.cons (.var 2) .nil) .nil [] [.inl 0]) (.lit (.int 0))))
    .nil) .nil)
    (.cons (.ifs (.cmp .eq (.idx (.var 1) (.lit (.int 0))) (.lit (.str "above"))) (.cons (.ret (.bi .tuple (.cons (.lc [3] false (.walk 2) (.cons (.call "is_above" (.cons (.idx (.var 2) (.var 3)) (.cons (.idx (.var 1) (.lit (.int 2))) .nil)) .nil [] [.inl 0, .inl 1]) .nil) (.var 3)) .nil)))
    .nil) .nil)
    (.cons (.ret (.call "certain_minimum" (.cons (.ite (.cmp .eq (.idx (.var 1) (.lit (.int 0))) (.lit (.str "min"))) (.var 2) (.call "mirrored" (.cons (.var 2) .nil) .nil [] [.inl 0])) .nil) .nil [] [.inl 0]))
    .nil)))))⟩
def f_answer : Fn := ⟨2, 2, (.cons (.ifs (.nt (.call "is_certain" (.cons (.var 0) (.cons (.var 1) .nil)) .nil [] [.inl 0, .inl 1])) (.cons (.rais "Uncertain" .nil)
    .nil) .nil)
    (.cons (.ret (.call "answer_in" (.cons (.call "by_name" (.cons (.var 0) .nil) .nil [] [.inl 0]) (.cons (.var 1) .nil)) .nil [] [.inl 0, .inl 1]))
    .nil))⟩
def f__law_first_sorted_L1 : Sms := (.cons (.ifs (.band (.cons (.cmp .ne (.var 4) (.var 2)) (.cons (.nt (.call "_law_never_above" (.cons (.idx (.var 0) (.var 2)) (.cons (.idx (.var 0) (.var 4)) .nil)) .nil [] [.inl 0, .inl 1])) .nil))) (.cons (.set 3 (.lit (.bl false)))
    .nil) .nil)
    (.cons (.ifs (.band (.cons (.cmp .lt (.var 4) (.var 2)) (.cons (.cmp .eq (.idx (.var 0) (.var 4)) (.idx (.var 0) (.var 2))) .nil))) (.cons (.set 3 (.lit (.bl false)))
    .nil) .nil)
    .nil))
def f__law_first_sorted_L2 : Sms := (.cons (.set 3 (.lit (.bl true)))
    (.cons (.fors [4] false (.ex (.var 1)) f__law_first_sorted_L1)
    (.cons (.ifs (.var 3) (.cons (.ret (.var 2))
    .nil) .nil)
    .nil)))
def f__law_first_sorted : Fn := ⟨2, 5, (.cons (.fors [2] false (.ex (.bi .sorted (.cons (.var 1) .nil))) f__law_first_sorted_L2)
    (.cons (.ret (.lit .non))
    .nil))⟩
def f__law_sorted_L1 : Sms := (.cons (.set 5 (.call "_law_first_sorted" (.cons (.var 0) (.cons (.var 2) .nil)) .nil [] [.inl 0, .inl 1]))
    (.cons (.mth none 3 .append (.cons (.var 5) .nil))
    (.cons (.set 2 (.lc [6] false (.walk 2) (.cons (.cmp .ne (.var 6) (.var 5)) .nil) (.var 6)))
    .nil)))
def f__law_sorted : Fn := ⟨2, 7, (.cons (.set 2 (.bi .sorted (.cons (.var 1) .nil)))
    (.cons (.set 3 (.lst .nil))
    (.cons (.fors [4] false (.rng (.cons (.bi .len (.cons (.var 1) .nil)) .nil)) f__law_sorted_L1)
    (.cons (.ret (.bi .tuple (.cons (.var 3) .nil)))
    .nil))))⟩
def f__law_is_above : Fn := ⟨2, 2, (.cons (.ifs (.call "_law_is_known" (.cons (.var 0) .nil) .nil [] [.inl 0]) (.cons (.ret (.call "_law_less" (.cons (.var 1) (.cons (.idx (.var 0) (.lit (.int 0))) .nil)) .nil [] [.inl 0, .inl 1]))
    .nil) .nil)
    (.cons (.ret (.call "_law_at_most" (.cons (.var 1) (.cons (.idx (.var 0) (.lit (.int 0))) .nil)) .nil [] [.inl 0, .inl 1]))
    .nil))⟩
def f__law_answer : Fn := ⟨2, 4, (.cons (.set 2 (.call "_law_items" (.cons (.var 1) .nil) .nil [] [.inl 0]))
    (.cons (.ifs (.cmp .eq (.idx (.var 1) (.lit (.int 0))) (.lit (.str "sort"))) (.cons (.ret (.call "_law_sorted" (.cons (.var 0) (.cons (.var 2) .nil)) .nil [] [.inl 0, .inl 1]))
    .nil) .nil)
    (.cons (.ifs (.cmp .eq (.idx (.var 1) (.lit (.int 0))) (.lit (.str "above"))) (.cons (.ret (.bi .tuple (.cons (.lc [3] false (.ex (.bi .sorted (.cons (.var 2) .nil))) (.cons (.call "_law_is_above" (.cons (.idx (.var 0) (.var 3)) (.cons (.idx (.var 1) (.lit (.int 2))) .nil)) .nil [] [.inl 0, .inl 1]) .nil) (.var 3)) .nil)))
    .nil) .nil)
    (.cons (.ifs (.cmp .eq (.idx (.var 1) (.lit (.int 0))) (.lit (.str "compare"))) (.cons (.ret (.idx (.call "_law_extremes" (.cons (.var 0) (.cons (.var 2) (.cons (.lit (.str "min")) .nil))) .nil [] [.inl 0, .inl 1, .inl 2]) (.lit (.int 0))))
    .nil) .nil)
    (.cons (.ret (.idx (.call "_law_extremes" (.cons (.var 0) (.cons (.var 2) (.cons (.idx (.var 1) (.lit (.int 0))) .nil))) .nil [] [.inl 0, .inl 1, .inl 2]) (.lit (.int 0))))
    .nil)))))⟩
def f__law_learnt_view : Fn := ⟨2, 7, (.cons (.set 2 (.call "_law_scenario" (.cons (.var 0) (.cons (.var 1) .nil)) .nil [] [.inl 0, .inl 1]))
    (.cons (.set 3 (.lc [4, 5, 6] true (.walk 1) (.cons (.cmp .gt (.call "_law_draw" (.cons (.var 0) (.cons (.lit (.int 3)) .nil)) .nil [] [.inl 0, .inl 1]) (.lit (.int 0))) .nil) (.var 4)))
    (.cons (.ret (.call "_law_as_list" (.cons (.call "_law_revealed" (.cons (.call "_law_by_name" (.cons (.var 1) .nil) .nil [] [.inl 0]) (.cons (.var 2) (.cons (.var 3) .nil))) .nil [] [.inl 0, .inl 1, .inl 2]) .nil) .nil [] [.inl 0]))
    .nil)))⟩
def f_distinct_sorted_L1 : Sms := (.cons (.set 3 (.bi .len (.cons (.lc [4] false (.walk 1) (.cons (.call "less" (.cons (.var 4) (.cons (.var 2) .nil)) .nil [] [.inl 0, .inl 1]) .nil) (.var 4)) .nil)))
    (.cons (.ifs (.bor (.cons (.cmp .eq (.var 3) (.bi .len (.cons (.var 1) .nil))) (.cons (.cmp .ne (.idx (.var 1) (.var 3)) (.var 2)) .nil))) (.cons (.mth none 1 .insert (.cons (.var 3) (.cons (.var 2) .nil)))
    .nil) .nil)
    .nil))
def f_distinct_sorted : Fn := ⟨1, 5, (.cons (.set 1 (.lst .nil))
    (.cons (.fors [2] false (.ex (.var 0)) f_distinct_sorted_L1)
    (.cons (.ret (.var 1))
    .nil)))⟩
def f_candidate_values_L1 : Sms := (.cons (.set 5 (.bin .add (.var 5) (.lc [8] false (.rng (.cons (.lit (.int 1)) (.cons (.bin .add (.var 4) (.lit (.int 1))) .nil))) .nil (.call "interpolate" (.cons (.var 6) (.cons (.var 7) (.cons (.bin .add (.var 4) (.lit (.int 1))) (.cons (.var 8) .nil)))) .nil [] [.inl 0, .inl 1, .inl 2, .inl 3]))))
    .nil)
def f_candidate_values : Fn := ⟨1, 9, (.cons (.set 1 (.call "distinct_sorted" (.cons (.lc2 [2] false (.ex (.bi .sorted (.cons (.var 0) .nil))) .nil [3] false (.ex (.idx (.var 0) (.var 2))) .nil (.var 3)) .nil) .nil [] [.inl 0]))
    (.cons (.set 4 (.bi .len (.cons (.call "unknown_items" (.cons (.var 0) .nil) .nil [] [.inl 0]) .nil)))
    (.cons (.set 5 (.bi .list (.cons (.var 1) .nil)))
    (.cons (.fors [6, 7] true (.zip (.slc (.var 1) .nil (.cons (.neg (.lit (.int 1))) .nil)) (.slc (.var 1) (.cons (.lit (.int 1)) .nil) .nil)) f_candidate_values_L1)
    (.cons (.ret (.call "distinct_sorted" (.cons (.var 5) .nil) .nil [] [.inl 0]))
    .nil)))))⟩
def f_scenarios_of_L1 : Sms := (.cons (.set 10 (.bi .dict (.cons (.var 8) .nil)))
    (.cons (.sub 10 (.var 4) (.var 9))
    (.cons (.mth none 7 .append (.cons (.var 10) .nil))
    .nil)))
def f_scenarios_of_L2 : Sms := (.cons (.fors [9] false (.ex (.idx (.var 2) (.var 4))) f_scenarios_of_L1)
    .nil)
def f_scenarios_of_L3 : Sms := (.cons (.set 7 (.lst .nil))
    (.cons (.fors [8] false (.ex (.var 6)) f_scenarios_of_L2)
    (.cons (.set 6 (.var 7))
    .nil)))
def f_scenarios_of_L4 : Sms := (.cons (.set 5 (.bin .mul (.var 5) (.bi .len (.cons (.idx (.var 2) (.var 4)) .nil))))
    (.cons (.ifs (.cmp .gt (.var 5) (.glb "MAX_SCENARIOS" (.lit (.int 3000)))) (.cons (.rais "LimitExceeded" (.cons (.var 5) .nil))
    .nil) .nil)
    .nil))
def f_scenarios_of : Fn := ⟨1, 11, (.cons (.set 1 (.call "candidate_values" (.cons (.var 0) .nil) .nil [] [.inl 0]))
    (.cons (.set 2 (.dc [4] false (.walk 0) .nil (.var 4) (.ite (.call "is_known" (.cons (.idx (.var 0) (.var 4)) .nil) .nil [] [.inl 0]) (.lst (.cons (.idx (.idx (.var 0) (.var 4)) (.lit (.int 0))) .nil)) (.lc [3] false (.walk 1) (.cons (.call "strictly_inside" (.cons (.var 3) (.cons (.idx (.var 0) (.var 4)) .nil)) .nil [] [.inl 0, .inl 1]) .nil) (.var 3)))))
    (.cons (.set 5 (.lit (.int 1)))
    (.cons (.fors [4] false (.ex (.var 2)) f_scenarios_of_L4)
    (.cons (.set 6 (.lst (.cons .dct0 .nil)))
    (.cons (.fors [4] false (.ex (.bi .sorted (.cons (.var 2) .nil))) f_scenarios_of_L3)
    (.cons (.ret (.var 6))
    .nil)))))))⟩
def f_scenarios : Fn := ⟨1, 1, (.cons (.expr (.call "require_intervals" (.cons (.var 0) .nil) .nil [] [.inl 0]))
    (.cons (.ret (.call "scenarios_of" (.cons (.call "by_name" (.cons (.var 0) .nil) .nil [] [.inl 0]) .nil) .nil [] [.inl 0]))
    .nil))⟩
def f__law_correct : Fn := ⟨3, 6, (.cons (.set 3 (.call "_law_items" (.cons (.var 1) .nil) .nil [] [.inl 0]))
    (.cons (.ifs (.cmp .eq (.idx (.var 1) (.lit (.int 0))) (.lit (.str "sort"))) (.cons (.ifs (.bor (.cons (.nt (.isi (.var 2) [.tuple] true)) (.cons (.cmp .ne (.bi .sorted (.cons (.var 2) .nil)) (.bi .sorted (.cons (.var 3) .nil))) .nil))) (.cons (.ret (.lit (.bl false)))
    .nil) .nil)
    (.cons (.ret (.bi .all (.cons (.lc [4] false (.rng (.cons (.bin .sub (.bi .len (.cons (.var 3) .nil)) (.lit (.int 1))) .nil)) .nil (.call "_law_at_most" (.cons (.idx (.var 0) (.idx (.var 2) (.var 4))) (.cons (.idx (.var 0) (.idx (.var 2) (.bin .add (.var 4) (.lit (.int 1))))) .nil)) .nil [] [.inl 0, .inl 1])) .nil)))
    .nil)) .nil)
    (.cons (.ifs (.cmp .eq (.idx (.var 1) (.lit (.int 0))) (.lit (.str "above"))) (.cons (.ret (.cmp .eq (.var 2) (.bi .tuple (.cons (.lc [5] false (.ex (.bi .sorted (.cons (.var 3) .nil))) (.cons (.call "_law_less" (.cons (.idx (.var 1) (.lit (.int 2))) (.cons (.idx (.var 0) (.var 5)) .nil)) .nil [] [.inl 0, .inl 1]) .nil) (.var 5)) .nil))))
    .nil) .nil)
    (.cons (.ifs (.cmp .notin (.var 2) (.var 3)) (.cons (.ret (.lit (.bl false)))
    .nil) .nil)
    (.cons (.ifs (.cmp .eq (.idx (.var 1) (.lit (.int 0))) (.lit (.str "max"))) (.cons (.ret (.bi .all (.cons (.lc [5] false (.walk 3) .nil (.call "_law_at_most" (.cons (.idx (.var 0) (.var 5)) (.cons (.idx (.var 0) (.var 2)) .nil)) .nil [] [.inl 0, .inl 1])) .nil)))
    .nil) .nil)
    (.cons (.ret (.bi .all (.cons (.lc [5] false (.walk 3) .nil (.call "_law_at_most" (.cons (.idx (.var 0) (.var 2)) (.cons (.idx (.var 0) (.var 5)) .nil)) .nil [] [.inl 0, .inl 1])) .nil)))
    .nil))))))⟩
def f_larger : Fn := ⟨2, 2, (.cons (.ret (.ite (.call "at_most" (.cons (.var 0) (.cons (.var 1) .nil)) .nil [] [.inl 0, .inl 1]) (.var 1) (.var 0)))
    .nil)⟩
def f_midpoints : Fn := ⟨1, 2, (.cons (.ret (.dc [1] false (.walk 0) .nil (.var 1) (.call "midpoint" (.cons (.idx (.idx (.var 0) (.var 1)) (.lit (.int 0))) (.cons (.idx (.idx (.var 0) (.var 1)) (.lit (.int 1))) .nil)) .nil [] [.inl 0, .inl 1])))
    .nil)⟩
def f_with_values : Fn := ⟨5, 6, (.cons (.set 5 (.bi .dict (.cons (.var 0) .nil)))
    (.cons (.sub 5 (.var 1) (.var 2))
    (.cons (.sub 5 (.var 3) (.var 4))
    (.cons (.ret (.var 5))
    .nil))))⟩
def f_ordered_values : Fn := ⟨2, 5, (.cons (.ifs (.call "is_known" (.cons (.var 0) .nil) .nil [] [.inl 0]) (.cons (.ret (.tup (.cons (.idx (.var 0) (.lit (.int 0))) (.cons (.call "midpoint" (.cons (.idx (.var 0) (.lit (.int 0))) (.cons (.idx (.var 1) (.lit (.int 1))) .nil)) .nil [] [.inl 0, .inl 1]) .nil))))
    .nil) .nil)
    (.cons (.ifs (.call "is_known" (.cons (.var 1) .nil) .nil [] [.inl 0]) (.cons (.ret (.tup (.cons (.call "midpoint" (.cons (.idx (.var 0) (.lit (.int 0))) (.cons (.idx (.var 1) (.lit (.int 0))) .nil)) .nil [] [.inl 0, .inl 1]) (.cons (.idx (.var 1) (.lit (.int 0))) .nil))))
    .nil) .nil)
    (.cons (.par 2 3 (.call "larger" (.cons (.idx (.var 0) (.lit (.int 0))) (.cons (.idx (.var 1) (.lit (.int 0))) .nil)) .nil [] [.inl 0, .inl 1]) (.call "smaller" (.cons (.idx (.var 0) (.lit (.int 1))) (.cons (.idx (.var 1) (.lit (.int 1))) .nil)) .nil [] [.inl 0, .inl 1]))
    (.cons (.set 4 (.call "midpoint" (.cons (.var 2) (.cons (.var 3) .nil)) .nil [] [.inl 0, .inl 1]))
    (.cons (.ret (.tup (.cons (.call "midpoint" (.cons (.var 2) (.cons (.var 4) .nil)) .nil [] [.inl 0, .inl 1]) (.cons (.call "midpoint" (.cons (.var 4) (.cons (.var 3) .nil)) .nil [] [.inl 0, .inl 1]) .nil))))
    .nil)))))⟩
def f_sort_scenarios : Fn := ⟨1, 12, (.cons (.set 1 (.bi .sorted (.cons (.var 0) .nil)))
    (.cons (.unp [2, 3] (.idx (.lc2 [4, 5] true (.enum (.var 1)) .nil [6] false (.ex (.slc (.var 1) (.cons (.bin .add (.var 4) (.lit (.int 1))) .nil) .nil)) (.cons (.nt (.call "is_separated" (.cons (.idx (.var 0) (.var 5)) (.cons (.idx (.var 0) (.var 6)) .nil)) .nil [] [.inl 0, .inl 1])) .nil) (.tup (.cons (.var 5) (.cons (.var 6) .nil)))) (.lit (.int 0))))
    (.cons (.set 7 (.call "midpoints" (.cons (.var 0) .nil) .nil [] [.inl 0]))
    (.cons (.unp [8, 9] (.call "ordered_values" (.cons (.idx (.var 0) (.var 2)) (.cons (.idx (.var 0) (.var 3)) .nil)) .nil [] [.inl 0, .inl 1]))
    (.cons (.unp [10, 11] (.call "ordered_values" (.cons (.idx (.var 0) (.var 3)) (.cons (.idx (.var 0) (.var 2)) .nil)) .nil [] [.inl 0, .inl 1]))
    (.cons (.ret (.tup (.cons (.call "with_values" (.cons (.var 7) (.cons (.var 2) (.cons (.var 8) (.cons (.var 3) (.cons (.var 9) .nil))))) .nil [] [.inl 0, .inl 1, .inl 2, .inl 3, .inl 4]) (.cons (.call "with_values" (.cons (.var 7) (.cons (.var 2) (.cons (.var 11) (.cons (.var 3) (.cons (.var 10) .nil))))) .nil [] [.inl 0, .inl 1, .inl 2, .inl 3, .inl 4]) .nil))))
    .nil))))))⟩
def f_threshold_scenarios : Fn := ⟨2, 7, (.cons (.set 2 (.call "midpoints" (.cons (.var 0) .nil) .nil [] [.inl 0]))
    (.cons (.set 3 (.idx (.lc [4] false (.ex (.bi .sorted (.cons (.var 0) .nil))) (.cons (.call "strictly_inside" (.cons (.var 1) (.cons (.idx (.var 0) (.var 4)) .nil)) .nil [] [.inl 0, .inl 1]) .nil) (.var 4)) (.lit (.int 0))))
    (.cons (.par 5 6 (.bi .dict (.cons (.var 2) .nil)) (.bi .dict (.cons (.var 2) .nil)))
    (.cons (.sub 5 (.var 3) (.call "midpoint" (.cons (.var 1) (.cons (.idx (.idx (.var 0) (.var 3)) (.lit (.int 1))) .nil)) .nil [] [.inl 0, .inl 1]))
    (.cons (.sub 6 (.var 3) (.call "midpoint" (.cons (.idx (.idx (.var 0) (.var 3)) (.lit (.int 0))) (.cons (.var 1) .nil)) .nil [] [.inl 0, .inl 1]))
    (.cons (.ret (.tup (.cons (.var 5) (.cons (.var 6) .nil))))
    .nil))))))⟩
def f_minimum_scenarios_L1 : Sms := (.cons (.ifs (.cmp .ne (.var 6) (.var 2)) (.cons (.set 5 (.call "smaller" (.cons (.var 5) (.cons (.idx (.var 1) (.var 6)) .nil)) .nil [] [.inl 0, .inl 1]))
    .nil) .nil)
    .nil)
def f_minimum_scenarios : Fn := ⟨1, 11, (.cons (.set 1 (.call "midpoints" (.cons (.var 0) .nil) .nil [] [.inl 0]))
    (.cons (.set 2 (.idx (.call "frontier" (.cons (.var 0) .nil) .nil [] [.inl 0]) (.lit (.int 0))))
    (.cons (.unp [3, 4] (.idx (.var 0) (.var 2)))
    (.cons (.set 5 (.var 4))
    (.cons (.fors [6] false (.ex (.var 0)) f_minimum_scenarios_L1)
    (.cons (.set 7 (.bi .dict (.cons (.var 1) .nil)))
    (.cons (.sub 7 (.var 2) (.call "midpoint" (.cons (.var 3) (.cons (.var 5) .nil)) .nil [] [.inl 0, .inl 1]))
    (.cons (.set 8 (.idx (.lc [6] false (.ex (.bi .sorted (.cons (.var 0) .nil))) (.cons (.band (.cons (.cmp .ne (.var 6) (.var 2)) (.cons (.call "less" (.cons (.idx (.idx (.var 0) (.var 6)) (.lit (.int 0))) (.cons (.var 4) .nil)) .nil [] [.inl 0, .inl 1]) .nil))) .nil) (.var 6)) (.lit (.int 0))))
    (.cons (.unp [9, 10] (.call "ordered_values" (.cons (.idx (.var 0) (.var 8)) (.cons (.idx (.var 0) (.var 2)) .nil)) .nil [] [.inl 0, .inl 1]))
    (.cons (.ret (.tup (.cons (.var 7) (.cons (.call "with_values" (.cons (.var 1) (.cons (.var 2) (.cons (.var 10) (.cons (.var 8) (.cons (.var 9) .nil))))) .nil [] [.inl 0, .inl 1, .inl 2, .inl 3, .inl 4]) .nil))))
    .nil))))))))))⟩
def f__law_subsets_L1 : Sms := (.cons (.set 1 (.bin .add (.var 1) (.lc [3] false (.walk 1) .nil (.bin .add (.var 3) (.lst (.cons (.var 2) .nil))))))
    .nil)
def f__law_subsets : Fn := ⟨1, 4, (.cons (.set 1 (.lst (.cons (.lst .nil) .nil)))
    (.cons (.fors [2] false (.ex (.var 0)) f__law_subsets_L1)
    (.cons (.ret (.var 1))
    .nil)))⟩
def f__law_is_scenario_L1 : Sms := (.cons (.unp [3, 4] (.idx (.var 0) (.var 2)))
    (.cons (.ifs (.nt (.call "_law_is_fraction" (.cons (.idx (.var 1) (.var 2)) .nil) .nil [] [.inl 0])) (.cons (.ret (.lit (.bl false)))
    .nil) .nil)
    (.cons (.ifs (.band (.cons (.cmp .eq (.var 3) (.var 4)) (.cons (.cmp .ne (.idx (.var 1) (.var 2)) (.var 3)) .nil))) (.cons (.ret (.lit (.bl false)))
    .nil) .nil)
    (.cons (.ifs (.band (.cons (.cmp .ne (.var 3) (.var 4)) (.cons (.nt (.call "_law_inside" (.cons (.idx (.var 1) (.var 2)) (.cons (.var 3) (.cons (.var 4) .nil))) .nil [] [.inl 0, .inl 1, .inl 2])) .nil))) (.cons (.ret (.lit (.bl false)))
    .nil) .nil)
    .nil))))
def f__law_is_scenario : Fn := ⟨2, 5, (.cons (.ifs (.bor (.cons (.nt (.isi (.var 1) [.dict] true)) (.cons (.cmp .ne (.bi .sorted (.cons (.var 1) .nil)) (.bi .sorted (.cons (.var 0) .nil))) .nil))) (.cons (.ret (.lit (.bl false)))
    .nil) .nil)
    (.cons (.fors [2] false (.ex (.var 0)) f__law_is_scenario_L1)
    (.cons (.ret (.lit (.bl true)))
    .nil)))⟩
def f__law_rows_of_L1 : Sms := (.cons (.set 3 (.bin .add (.var 3) (.lc [5] false (.rng (.cons (.bin .add (.bi .len (.cons (.var 4) .nil)) (.lit (.int 1))) .nil)) .nil (.bin .add (.bin .add (.slc (.var 4) .nil (.cons (.var 5) .nil)) (.tup (.cons (.var 2) .nil))) (.slc (.var 4) (.cons (.var 5) .nil) .nil)))))
    .nil)
def f__law_rows_of_L2 : Sms := (.cons (.set 3 (.lst .nil))
    (.cons (.fors [4] false (.ex (.var 1)) f__law_rows_of_L1)
    (.cons (.set 1 (.var 3))
    .nil)))
def f__law_rows_of : Fn := ⟨1, 6, (.cons (.set 1 (.lst (.cons (.tup .nil) .nil)))
    (.cons (.fors [2] false (.ex (.var 0)) f__law_rows_of_L2)
    (.cons (.ret (.var 1))
    .nil)))⟩
def f__law_candidates : Fn := ⟨1, 3, (.cons (.set 1 (.call "_law_items" (.cons (.var 0) .nil) .nil [] [.inl 0]))
    (.cons (.ifs (.cmp .eq (.idx (.var 0) (.lit (.int 0))) (.lit (.str "sort"))) (.cons (.ret (.call "_law_rows_of" (.cons (.slc (.var 1) .nil (.cons (.lit (.int 5)) .nil)) .nil) .nil [] [.inl 0]))
    .nil) .nil)
    (.cons (.ifs (.cmp .eq (.idx (.var 0) (.lit (.int 0))) (.lit (.str "above"))) (.cons (.ret (.lc [2] false (.ex (.call "_law_subsets" (.cons (.bi .sorted (.cons (.var 1) .nil)) .nil) .nil [] [.inl 0])) .nil (.bi .tuple (.cons (.var 2) .nil))))
    .nil) .nil)
    (.cons (.ret (.var 1))
    .nil))))⟩
def f__law_unknown : Fn := ⟨2, 3, (.cons (.ret (.lc [2] false (.ex (.bi .sorted (.cons (.var 1) .nil))) (.cons (.nt (.call "_law_is_known" (.cons (.idx (.var 0) (.var 2)) .nil) .nil [] [.inl 0])) .nil) (.var 2)))
    .nil)⟩
def f__law_negated : Fn := ⟨1, 1, (.cons (.ret (.tup (.cons (.tup (.cons (.bin .sub (.lit (.int 0)) (.idx (.idx (.var 0) (.lit (.int 1))) (.lit (.int 0)))) (.cons (.idx (.idx (.var 0) (.lit (.int 1))) (.lit (.int 1))) .nil))) (.cons (.tup (.cons (.bin .sub (.lit (.int 0)) (.idx (.idx (.var 0) (.lit (.int 0))) (.lit (.int 0)))) (.cons (.idx (.idx (.var 0) (.lit (.int 0))) (.lit (.int 1))) .nil))) .nil))))
    .nil)⟩
def f__law_mirrored : Fn := ⟨1, 2, (.cons (.ret (.bi .dict (.cons (.lc [1] false (.walk 0) .nil (.tup (.cons (.var 1) (.cons (.call "_law_negated" (.cons (.idx (.var 0) (.var 1)) .nil) .nil [] [.inl 0]) .nil)))) .nil)))
    .nil)⟩
def f__law_contains : Fn := ⟨2, 2, (.cons (.ifs (.call "_law_is_known" (.cons (.var 1) .nil) .nil [] [.inl 0]) (.cons (.ret (.call "_law_inside" (.cons (.idx (.var 1) (.lit (.int 0))) (.cons (.idx (.var 0) (.lit (.int 0))) (.cons (.idx (.var 0) (.lit (.int 1))) .nil))) .nil [] [.inl 0, .inl 1, .inl 2]))
    .nil) .nil)
    (.cons (.ret (.band (.cons (.call "_law_at_most" (.cons (.idx (.var 0) (.lit (.int 0))) (.cons (.idx (.var 1) (.lit (.int 0))) .nil)) .nil [] [.inl 0, .inl 1]) (.cons (.call "_law_at_most" (.cons (.idx (.var 1) (.lit (.int 1))) (.cons (.idx (.var 0) (.lit (.int 1))) .nil)) .nil [] [.inl 0, .inl 1]) .nil))))
    .nil))⟩
def f__law_frontier_L1 : Sms := (.cons (.set 5 (.idx (.idx (.var 0) (.var 4)) (.lit (.int 0))))
    (.cons (.ifs (.bi .all (.cons (.lc [6] false (.walk 2) .nil (.call "_law_at_most" (.cons (.var 5) (.cons (.idx (.idx (.var 0) (.var 6)) (.lit (.int 0))) .nil)) .nil [] [.inl 0, .inl 1])) .nil)) (.cons (.set 7 (.lc [6] false (.walk 1) (.cons (.call "_law_is_known" (.cons (.idx (.var 0) (.var 6)) .nil) .nil [] [.inl 0]) .nil) (.var 6)))
    (.cons (.ifs (.nt (.bi .any (.cons (.lc [6] false (.walk 7) .nil (.call "_law_at_most" (.cons (.idx (.idx (.var 0) (.var 6)) (.lit (.int 0))) (.cons (.var 5) .nil)) .nil [] [.inl 0, .inl 1])) .nil))) (.cons (.mth none 3 .append (.cons (.var 4) .nil))
    .nil) .nil)
    .nil)) .nil)
    .nil))
def f__law_frontier : Fn := ⟨2, 8, (.cons (.set 2 (.call "_law_unknown" (.cons (.var 0) (.cons (.var 1) .nil)) .nil [] [.inl 0, .inl 1]))
    (.cons (.set 3 (.lst .nil))
    (.cons (.fors [4] false (.ex (.var 2)) f__law_frontier_L1)
    (.cons (.ret (.var 3))
    .nil))))⟩
def f__law_blocks : Fn := ⟨2, 2, (.cons (.ifs (.call "_law_is_known" (.cons (.var 1) .nil) .nil [] [.inl 0]) (.cons (.ret (.call "_law_less" (.cons (.idx (.var 1) (.lit (.int 0))) (.cons (.idx (.var 0) (.lit (.int 1))) .nil)) .nil [] [.inl 0, .inl 1]))
    .nil) .nil)
    (.cons (.ret (.call "_law_at_most" (.cons (.idx (.var 1) (.lit (.int 1))) (.cons (.idx (.var 0) (.lit (.int 1))) .nil)) .nil [] [.inl 0, .inl 1]))
    .nil))⟩
def f__law_required_L1 : Sms := (.cons (.set 6 (.lc [7] false (.walk 2) (.cons (.cmp .ne (.var 7) (.var 4)) .nil) (.idx (.var 0) (.var 7))))
    (.cons (.ifs (.band (.cons (.cmp .eq (.idx (.var 1) (.lit (.int 0))) (.lit (.str "min"))) (.cons (.bi .any (.cons (.lc [7] false (.walk 6) .nil (.call "_law_blocks" (.cons (.idx (.var 0) (.var 4)) (.cons (.var 7) .nil)) .nil [] [.inl 0, .inl 1])) .nil)) .nil))) (.cons (.mth none 5 .append (.cons (.var 4) .nil))
    .nil) .nil)
    (.cons (.ifs (.band (.cons (.cmp .ne (.idx (.var 1) (.lit (.int 0))) (.lit (.str "min"))) (.cons (.bi .any (.cons (.lc [7] false (.walk 6) .nil (.call "_law_contains" (.cons (.idx (.var 0) (.var 4)) (.cons (.var 7) .nil)) .nil [] [.inl 0, .inl 1])) .nil)) .nil))) (.cons (.mth none 5 .append (.cons (.var 4) .nil))
    .nil) .nil)
    .nil)))
def f__law_required : Fn := ⟨2, 8, (.cons (.set 2 (.call "_law_items" (.cons (.var 1) .nil) .nil [] [.inl 0]))
    (.cons (.set 3 (.call "_law_unknown" (.cons (.var 0) (.cons (.var 2) .nil)) .nil [] [.inl 0, .inl 1]))
    (.cons (.ifs (.cmp .eq (.idx (.var 1) (.lit (.int 0))) (.lit (.str "max"))) (.cons (.ret (.call "_law_required" (.cons (.call "_law_mirrored" (.cons (.var 0) .nil) .nil [] [.inl 0]) (.cons (.tup (.cons (.lit (.str "min")) (.cons (.idx (.var 1) (.lit (.int 1))) .nil))) .nil)) .nil [] [.inl 0, .inl 1]))
    .nil) .nil)
    (.cons (.ifs (.cmp .eq (.idx (.var 1) (.lit (.int 0))) (.lit (.str "above"))) (.cons (.ret (.lc [4] false (.walk 3) (.cons (.call "_law_inside" (.cons (.idx (.var 1) (.lit (.int 2))) (.cons (.idx (.idx (.var 0) (.var 4)) (.lit (.int 0))) (.cons (.idx (.idx (.var 0) (.var 4)) (.lit (.int 1))) .nil))) .nil [] [.inl 0, .inl 1, .inl 2]) .nil) (.var 4)))
    .nil) .nil)
    (.cons (.set 5 (.lst .nil))
    (.cons (.fors [4] false (.ex (.ite (.cmp .eq (.idx (.var 1) (.lit (.int 0))) (.lit (.str "min"))) (.call "_law_frontier" (.cons (.var 0) (.cons (.var 2) .nil)) .nil [] [.inl 0, .inl 1]) (.var 3))) f__law_required_L1)
    (.cons (.ret (.var 5))
    .nil)))))))⟩
def f_witness_pairs : Fn := ⟨2, 2, (.cons (.ret (.call "pairs_in" (.cons (.call "checked_table" (.cons (.var 0) (.cons (.var 1) .nil)) .nil [] [.inl 0, .inl 1]) (.cons (.var 1) .nil)) .nil [] [.inl 0, .inl 1]))
    .nil)⟩
def f__law_witness_pairs_L1 : Sms := (.cons (.set 8 (.band (.cons (.cmp .isin (.var 6) (.var 4)) (.cons (.call "_law_less" (.cons (.idx (.idx (.var 0) (.var 7)) (.lit (.int 0))) (.cons (.idx (.idx (.var 0) (.var 6)) (.lit (.int 1))) .nil)) .nil [] [.inl 0, .inl 1]) .nil))))
    (.cons (.set 9 (.band (.cons (.cmp .isin (.var 7) (.var 4)) (.cons (.call "_law_less" (.cons (.idx (.idx (.var 0) (.var 6)) (.lit (.int 0))) (.cons (.idx (.idx (.var 0) (.var 7)) (.lit (.int 1))) .nil)) .nil [] [.inl 0, .inl 1]) .nil))))
    (.cons (.ifs (.band (.cons (.cmp .eq (.idx (.var 1) (.lit (.int 0))) (.lit (.str "min"))) (.cons (.bor (.cons (.var 8) (.cons (.var 9) .nil))) .nil))) (.cons (.mth none 5 .append (.cons (.tup (.cons (.var 6) (.cons (.var 7) .nil))) .nil))
    .nil) .nil)
    (.cons (.ifs (.band (.cons (.cmp .ne (.idx (.var 1) (.lit (.int 0))) (.lit (.str "min"))) (.cons (.nt (.call "_law_separated" (.cons (.idx (.var 0) (.var 6)) (.cons (.idx (.var 0) (.var 7)) .nil)) .nil [] [.inl 0, .inl 1])) .nil))) (.cons (.mth none 5 .append (.cons (.tup (.cons (.var 6) (.cons (.var 7) .nil))) .nil))
    .nil) .nil)
    .nil))))
def f__law_witness_pairs : Fn := ⟨2, 10, (.cons (.set 2 (.call "_law_items" (.cons (.var 1) .nil) .nil [] [.inl 0]))
    (.cons (.set 3 (.call "_law_unknown" (.cons (.var 0) (.cons (.var 2) .nil)) .nil [] [.inl 0, .inl 1]))
    (.cons (.ifs (.cmp .eq (.idx (.var 1) (.lit (.int 0))) (.lit (.str "max"))) (.cons (.ret (.call "_law_witness_pairs" (.cons (.call "_law_mirrored" (.cons (.var 0) .nil) .nil [] [.inl 0]) (.cons (.tup (.cons (.lit (.str "min")) (.cons (.idx (.var 1) (.lit (.int 1))) .nil))) .nil)) .nil [] [.inl 0, .inl 1]))
    .nil) .nil)
    (.cons (.ifs (.cmp .eq (.idx (.var 1) (.lit (.int 0))) (.lit (.str "above"))) (.cons (.ret (.lst .nil))
    .nil) .nil)
    (.cons (.set 4 (.call "_law_frontier" (.cons (.var 0) (.cons (.var 2) .nil)) .nil [] [.inl 0, .inl 1]))
    (.cons (.set 5 (.lst .nil))
    (.cons (.fors [6, 7] true (.ex (.call "_law_all_pairs" (.cons (.var 3) .nil) .nil [] [.inl 0])) f__law_witness_pairs_L1)
    (.cons (.ret (.var 5))
    .nil))))))))⟩
def f__law_unknown_items_L1 : Sms := (.cons (.set 2 (.bin .add (.var 2) (.call "_law_items" (.cons (.var 3) .nil) .nil [] [.inl 0])))
    .nil)
def f__law_unknown_items : Fn := ⟨2, 5, (.cons (.set 2 (.lst .nil))
    (.cons (.fors [3] false (.ex (.var 1)) f__law_unknown_items_L1)
    (.cons (.ret (.lc [4] false (.ex (.bi .sorted (.cons (.var 0) .nil))) (.cons (.band (.cons (.cmp .isin (.var 4) (.var 2)) (.cons (.nt (.call "_law_is_known" (.cons (.idx (.var 0) (.var 4)) .nil) .nil [] [.inl 0])) .nil))) .nil) (.var 4)))
    .nil)))⟩
def f__law_price : Fn := ⟨2, 2, (.cons (.ret (.ite (.cmp .isin (.var 1) (.var 0)) (.idx (.var 0) (.var 1)) (.lit (.int 1))))
    .nil)⟩
def f__law_next_witness_L1 : Sms := (.cons (.set 4 (.bin .add (.var 4) (.call "_law_witness_pairs" (.cons (.var 0) (.cons (.var 3) .nil)) .nil [] [.inl 0, .inl 1])))
    .nil)
def f__law_next_witness_L2 : Sms := (.cons (.set 2 (.bin .add (.var 2) (.call "_law_required" (.cons (.var 0) (.cons (.var 3) .nil)) .nil [] [.inl 0, .inl 1])))
    .nil)
def f__law_next_witness : Fn := ⟨2, 5, (.cons (.set 2 (.lst .nil))
    (.cons (.fors [3] false (.ex (.var 1)) f__law_next_witness_L2)
    (.cons (.ifs (.cmp .ne (.var 2) (.lst .nil)) (.cons (.ret (.tup (.cons (.idx (.bi .sorted (.cons (.var 2) .nil)) (.lit (.int 0))) .nil)))
    .nil) .nil)
    (.cons (.set 4 (.lst .nil))
    (.cons (.fors [3] false (.ex (.var 1)) f__law_next_witness_L1)
    (.cons (.ret (.ite (.cmp .ne (.var 4) (.lst .nil)) (.idx (.bi .sorted (.cons (.var 4) .nil)) (.lit (.int 0))) (.tup .nil)))
    .nil))))))⟩
def f__law_run_L1 : Sms := (.cons (.sub 4 (.var 5) (.bin .sub (.idx (.var 4) (.var 5)) (.var 10)))
    .nil)
def f__law_run_L2 : Sms := (.cons (.set 9 (.call "_law_next_witness" (.cons (.var 7) (.cons (.var 1) .nil)) .nil [] [.inl 0, .inl 1]))
    (.cons (.ifs (.cmp .ne (.var 9) (.tup .nil)) (.cons (.set 10 (.bi .min (.cons (.lc [5] false (.walk 9) .nil (.idx (.var 4) (.var 5))) .nil)))
    (.cons (.fors [5] false (.ex (.var 9)) f__law_run_L1)
    (.cons (.set 5 (.idx (.lc [11] false (.walk 9) (.cons (.cmp .eq (.idx (.var 4) (.var 11)) (.lit (.int 0))) .nil) (.var 11)) (.lit (.int 0))))
    (.cons (.set 7 (.call "_law_revealed" (.cons (.var 7) (.cons (.var 2) (.cons (.lst (.cons (.var 5) .nil)) .nil))) .nil [] [.inl 0, .inl 1, .inl 2]))
    (.cons (.ifs (.cmp .eq (.bi .len (.cons (.var 9) .nil)) (.lit (.int 1))) (.cons (.mth none 6 .append (.cons (.tup (.cons (.lit (.str "required")) (.cons (.var 5) (.cons (.var 10) (.cons (.idx (.var 2) (.var 5)) .nil))))) .nil))
    .nil) (.cons (.mth none 6 .append (.cons (.tup (.cons (.lit (.str "pair")) (.cons (.idx (.var 9) (.lit (.int 0))) (.cons (.idx (.var 9) (.lit (.int 1))) (.cons (.var 10) (.cons (.var 5) (.cons (.idx (.var 2) (.var 5)) .nil))))))) .nil))
    .nil))
    .nil))))) .nil)
    .nil))
def f__law_run : Fn := ⟨4, 12, (.cons (.set 4 (.bi .dict (.cons (.lc [5] false (.walk 0) .nil (.tup (.cons (.var 5) (.cons (.call "_law_price" (.cons (.var 3) (.cons (.var 5) .nil)) .nil [] [.inl 0, .inl 1]) .nil)))) .nil)))
    (.cons (.set 6 (.lst .nil))
    (.cons (.set 7 (.bi .dict (.cons (.var 0) .nil)))
    (.cons (.fors [8] false (.rng (.cons (.bin .add (.bi .len (.cons (.var 0) .nil)) (.lit (.int 1))) .nil)) f__law_run_L2)
    (.cons (.ret (.tup (.cons (.var 7) (.cons (.var 6) .nil))))
    .nil)))))⟩
def f__law_total_price : Fn := ⟨2, 3, (.cons (.ret (.bi .sum (.cons (.lc [2] false (.walk 1) .nil (.call "_law_price" (.cons (.var 0) (.cons (.var 2) .nil)) .nil [] [.inl 0, .inl 1])) .nil)))
    .nil)⟩
def f__law_cheapest_L1 : Sms := (.cons (.ifs (.call "_law_all_certain" (.cons (.call "_law_revealed" (.cons (.var 0) (.cons (.var 2) (.cons (.var 5) .nil))) .nil [] [.inl 0, .inl 1, .inl 2]) (.cons (.var 1) .nil)) .nil [] [.inl 0, .inl 1]) (.cons (.set 6 (.tup (.cons (.call "_law_total_price" (.cons (.var 3) (.cons (.var 5) .nil)) .nil [] [.inl 0, .inl 1]) (.cons (.var 5) .nil))))
    (.cons (.ifs (.bor (.cons (.cmp .isN (.var 4) (.lit .non)) (.cons (.cmp .lt (.var 6) (.var 4)) .nil))) (.cons (.set 4 (.var 6))
    .nil) .nil)
    .nil)) .nil)
    .nil)
def f__law_cheapest : Fn := ⟨4, 7, (.cons (.set 4 (.lit .non))
    (.cons (.fors [5] false (.ex (.call "_law_subsets" (.cons (.call "_law_unknown_items" (.cons (.var 0) (.cons (.var 1) .nil)) .nil [] [.inl 0, .inl 1]) .nil) .nil [] [.inl 0])) f__law_cheapest_L1)
    (.cons (.ret (.var 4))
    .nil)))⟩
def f__law_totals_L1 : Sms := (.cons (.set 2 (.bin .add (.var 2) (.call "_law_price" (.cons (.var 1) (.cons (.ite (.cmp .eq (.idx (.var 4) (.lit (.int 0))) (.lit (.str "required"))) (.idx (.var 4) (.lit (.int 1))) (.idx (.var 4) (.lit (.int 4)))) .nil)) .nil [] [.inl 0, .inl 1])))
    (.cons (.set 3 (.bin .add (.var 3) (.ite (.cmp .eq (.idx (.var 4) (.lit (.int 0))) (.lit (.str "required"))) (.idx (.var 4) (.lit (.int 2))) (.idx (.var 4) (.lit (.int 3))))))
    .nil))
def f__law_totals : Fn := ⟨2, 5, (.cons (.set 2 (.lit (.int 0)))
    (.cons (.set 3 (.lit (.int 0)))
    (.cons (.fors [4] false (.ex (.var 0)) f__law_totals_L1)
    (.cons (.ret (.tup (.cons (.var 2) (.cons (.var 3) .nil))))
    .nil))))⟩
def f__law_shape : Fn := ⟨1, 1, (.cons (.ret (.bor (.cons (.band (.cons (.cmp .eq (.bi .len (.cons (.var 0) .nil)) (.lit (.int 4))) (.cons (.cmp .eq (.idx (.var 0) (.lit (.int 0))) (.lit (.str "required"))) .nil))) (.cons (.band (.cons (.cmp .eq (.bi .len (.cons (.var 0) .nil)) (.lit (.int 6))) (.cons (.cmp .eq (.idx (.var 0) (.lit (.int 0))) (.lit (.str "pair"))) .nil))) .nil))))
    .nil)⟩
def f__law_entry_error_L1 : Sms := (.cons (.sub 2 (.var 8) (.bin .add (.idx (.var 2) (.var 8)) (.var 7)))
    .nil)
def f__law_entry_error_L2 : Sms := (.cons (.ifs (.band (.cons (.cmp .eq (.bi .len (.cons (.var 5) .nil)) (.lit (.int 1))) (.cons (.cmp .isin (.idx (.var 5) (.lit (.int 0))) (.call "_law_required" (.cons (.var 0) (.cons (.var 10) .nil)) .nil [] [.inl 0, .inl 1])) .nil))) (.cons (.set 9 (.lit (.bl true)))
    .nil) .nil)
    (.cons (.ifs (.band (.cons (.cmp .eq (.bi .len (.cons (.var 5) .nil)) (.lit (.int 2))) (.cons (.cmp .isin (.tup (.cons (.bi .min (.cons (.var 5) .nil)) (.cons (.bi .max (.cons (.var 5) .nil)) .nil))) (.call "_law_witness_pairs" (.cons (.var 0) (.cons (.var 10) .nil)) .nil [] [.inl 0, .inl 1])) .nil))) (.cons (.set 9 (.lit (.bl true)))
    .nil) .nil)
    .nil))
def f__law_entry_error : Fn := ⟨5, 11, (.cons (.ifs (.nt (.call "_law_shape" (.cons (.var 4) .nil) .nil [] [.inl 0])) (.cons (.ret (.lit (.str "shape")))
    .nil) .nil)
    (.cons (.set 5 (.ite (.cmp .eq (.idx (.var 4) (.lit (.int 0))) (.lit (.str "required"))) (.lst (.cons (.idx (.var 4) (.lit (.int 1))) .nil)) (.lst (.cons (.idx (.var 4) (.lit (.int 1))) (.cons (.idx (.var 4) (.lit (.int 2))) .nil)))))
    (.cons (.set 6 (.ite (.cmp .eq (.idx (.var 4) (.lit (.int 0))) (.lit (.str "required"))) (.idx (.var 4) (.lit (.int 1))) (.idx (.var 4) (.lit (.int 4)))))
    (.cons (.set 7 (.ite (.cmp .eq (.idx (.var 4) (.lit (.int 0))) (.lit (.str "required"))) (.idx (.var 4) (.lit (.int 2))) (.idx (.var 4) (.lit (.int 3)))))
    (.cons (.ifs (.bor (.cons (.band (.cons (.cmp .eq (.bi .len (.cons (.var 5) .nil)) (.lit (.int 2))) (.cons (.cmp .eq (.idx (.var 5) (.lit (.int 0))) (.idx (.var 5) (.lit (.int 1)))) .nil))) (.cons (.cmp .notin (.var 6) (.var 5)) .nil))) (.cons (.ret (.lit (.str "name")))
    .nil) .nil)
    (.cons (.ifs (.bi .any (.cons (.lc [8] false (.walk 5) .nil (.bor (.cons (.cmp .notin (.var 8) (.var 0)) (.cons (.call "_law_is_known" (.cons (.idx (.var 0) (.var 8)) .nil) .nil [] [.inl 0]) .nil)))) .nil)) (.cons (.ret (.lit (.str "name")))
    .nil) .nil)
    (.cons (.set 9 (.lit (.bl false)))
    (.cons (.fors [10] false (.ex (.var 1)) f__law_entry_error_L2)
    (.cons (.ifs (.nt (.var 9)) (.cons (.ret (.lit (.str "witness")))
    .nil) .nil)
    (.cons (.ifs (.bor (.cons (.cmp .lt (.var 7) (.lit (.int 0))) (.cons (.bi .any (.cons (.lc [8] false (.walk 5) .nil (.cmp .gt (.bin .add (.idx (.var 2) (.var 8)) (.var 7)) (.call "_law_price" (.cons (.var 3) (.cons (.var 8) .nil)) .nil [] [.inl 0, .inl 1]))) .nil)) .nil))) (.cons (.ret (.lit (.str "amount")))
    .nil) .nil)
    (.cons (.fors [8] false (.ex (.var 5)) f__law_entry_error_L1)
    (.cons (.ifs (.cmp .lt (.idx (.var 2) (.var 6)) (.call "_law_price" (.cons (.var 3) (.cons (.var 6) .nil)) .nil [] [.inl 0, .inl 1])) (.cons (.ret (.lit (.str "price")))
    .nil) .nil)
    (.cons (.ret (.ite (.call "_law_inside" (.cons (.idx (.var 4) (.neg (.lit (.int 1)))) (.cons (.idx (.idx (.var 0) (.var 6)) (.lit (.int 0))) (.cons (.idx (.idx (.var 0) (.var 6)) (.lit (.int 1))) .nil))) .nil [] [.inl 0, .inl 1, .inl 2]) (.lit (.str "")) (.lit (.str "value"))))
    .nil)))))))))))))⟩
def f__law_log_error_L1 : Sms := (.cons (.set 8 (.idx (.var 2) (.var 7)))
    (.cons (.set 9 (.call "_law_entry_error" (.cons (.var 6) (.cons (.var 1) (.cons (.var 4) (.cons (.var 3) (.cons (.var 8) .nil))))) .nil [] [.inl 0, .inl 1, .inl 2, .inl 3, .inl 4]))
    (.cons (.ifs (.cmp .ne (.var 9) (.lit (.str ""))) (.cons (.ret (.tup (.cons (.var 7) (.cons (.var 9) .nil))))
    .nil) .nil)
    (.cons (.set 10 (.ite (.cmp .eq (.idx (.var 8) (.lit (.int 0))) (.lit (.str "required"))) (.idx (.var 8) (.lit (.int 1))) (.idx (.var 8) (.lit (.int 4)))))
    (.cons (.sub 6 (.var 10) (.tup (.cons (.idx (.var 8) (.neg (.lit (.int 1)))) (.cons (.idx (.var 8) (.neg (.lit (.int 1)))) .nil))))
    .nil)))))
def f__law_log_error : Fn := ⟨4, 11, (.cons (.set 4 (.bi .dict (.cons (.lc [5] false (.walk 0) .nil (.tup (.cons (.var 5) (.cons (.lit (.int 0)) .nil)))) .nil)))
    (.cons (.set 6 (.bi .dict (.cons (.var 0) .nil)))
    (.cons (.fors [7] false (.rng (.cons (.bi .len (.cons (.var 2) .nil)) .nil)) f__law_log_error_L1)
    (.cons (.ret (.ite (.call "_law_all_certain" (.cons (.var 6) (.cons (.var 1) .nil)) .nil [] [.inl 0, .inl 1]) (.lit .non) (.tup (.cons (.bi .len (.cons (.var 2) .nil)) (.cons (.lit (.str "uncertain")) .nil)))))
    .nil))))⟩
def f__law_changed_entry : Fn := ⟨3, 3, (.cons (.ifs (.nt (.call "_law_shape" (.cons (.var 1) .nil) .nil [] [.inl 0])) (.cons (.ret (.var 1))
    .nil) .nil)
    (.cons (.ifs (.cmp .eq (.idx (.var 1) (.lit (.int 0))) (.lit (.str "required"))) (.cons (.ret (.call "_law_choice" (.cons (.var 0) (.cons (.lst (.cons (.tup (.cons (.lit (.str "required")) (.cons (.call "_law_choice" (.cons (.var 0) (.cons (.var 2) .nil)) .nil [] [.inl 0, .inl 1]) (.cons (.idx (.var 1) (.lit (.int 2))) (.cons (.idx (.var 1) (.lit (.int 3))) .nil))))) (.cons (.tup (.cons (.lit (.str "required")) (.cons (.idx (.var 1) (.lit (.int 1))) (.cons (.bin .sub (.bin .add (.idx (.var 1) (.lit (.int 2))) (.call "_law_draw" (.cons (.var 0) (.cons (.lit (.int 3)) .nil)) .nil [] [.inl 0, .inl 1])) (.lit (.int 1))) (.cons (.idx (.var 1) (.lit (.int 3))) .nil))))) (.cons (.tup (.cons (.lit (.str "required")) (.cons (.idx (.var 1) (.lit (.int 1))) (.cons (.idx (.var 1) (.lit (.int 2))) (.cons (.call "_law_choice" (.cons (.var 0) (.cons (.lst (.cons (.tup (.cons (.lit (.int 0)) (.cons (.lit (.int 1)) .nil))) (.cons (.tup (.cons (.lit (.int 99)) (.cons (.lit (.int 1)) .nil))) (.cons (.tup (.cons (.lit (.int 1)) (.cons (.lit (.int 3)) .nil))) .nil)))) .nil)) .nil [] [.inl 0, .inl 1]) .nil))))) (.cons (.tup (.cons (.lit (.str "pair")) (.cons (.idx (.var 1) (.lit (.int 1))) (.cons (.call "_law_choice" (.cons (.var 0) (.cons (.var 2) .nil)) .nil [] [.inl 0, .inl 1]) (.cons (.idx (.var 1) (.lit (.int 2))) (.cons (.idx (.var 1) (.lit (.int 1))) (.cons (.idx (.var 1) (.lit (.int 3))) .nil))))))) (.cons (.tup (.cons (.lit (.str "required")) (.cons (.idx (.var 1) (.lit (.int 1))) (.cons (.idx (.var 1) (.lit (.int 2))) .nil)))) (.cons (.tup (.cons (.lit (.str "item")) (.cons (.idx (.var 1) (.lit (.int 1))) (.cons (.idx (.var 1) (.lit (.int 2))) (.cons (.idx (.var 1) (.lit (.int 3))) .nil))))) .nil))))))) .nil)) .nil [] [.inl 0, .inl 1]))
    .nil) .nil)
    (.cons (.ret (.call "_law_choice" (.cons (.var 0) (.cons (.lst (.cons (.tup (.cons (.lit (.str "pair")) (.cons (.idx (.var 1) (.lit (.int 2))) (.cons (.idx (.var 1) (.lit (.int 1))) (.cons (.idx (.var 1) (.lit (.int 3))) (.cons (.idx (.var 1) (.lit (.int 4))) (.cons (.idx (.var 1) (.lit (.int 5))) .nil))))))) (.cons (.tup (.cons (.lit (.str "pair")) (.cons (.idx (.var 1) (.lit (.int 1))) (.cons (.call "_law_choice" (.cons (.var 0) (.cons (.var 2) .nil)) .nil [] [.inl 0, .inl 1]) (.cons (.idx (.var 1) (.lit (.int 3))) (.cons (.idx (.var 1) (.lit (.int 4))) (.cons (.idx (.var 1) (.lit (.int 5))) .nil))))))) (.cons (.tup (.cons (.lit (.str "pair")) (.cons (.idx (.var 1) (.lit (.int 1))) (.cons (.idx (.var 1) (.lit (.int 2))) (.cons (.bin .sub (.bin .add (.idx (.var 1) (.lit (.int 3))) (.call "_law_draw" (.cons (.var 0) (.cons (.lit (.int 3)) .nil)) .nil [] [.inl 0, .inl 1])) (.lit (.int 1))) (.cons (.idx (.var 1) (.lit (.int 4))) (.cons (.idx (.var 1) (.lit (.int 5))) .nil))))))) (.cons (.tup (.cons (.lit (.str "pair")) (.cons (.idx (.var 1) (.lit (.int 1))) (.cons (.idx (.var 1) (.lit (.int 2))) (.cons (.idx (.var 1) (.lit (.int 3))) (.cons (.call "_law_choice" (.cons (.var 0) (.cons (.var 2) .nil)) .nil [] [.inl 0, .inl 1]) (.cons (.idx (.var 1) (.lit (.int 5))) .nil))))))) (.cons (.tup (.cons (.lit (.str "required")) (.cons (.idx (.var 1) (.lit (.int 4))) (.cons (.idx (.var 1) (.lit (.int 3))) (.cons (.idx (.var 1) (.lit (.int 5))) .nil))))) (.cons (.tup (.cons (.lit (.str "pair")) (.cons (.idx (.var 1) (.lit (.int 1))) (.cons (.idx (.var 1) (.lit (.int 2))) (.cons (.idx (.var 1) (.lit (.int 3))) (.cons (.idx (.var 1) (.lit (.int 4))) .nil)))))) .nil))))))) .nil)) .nil [] [.inl 0, .inl 1]))
    .nil)))⟩
def f__law_changed : Fn := ⟨3, 6, (.cons (.set 3 (.bi .list (.cons (.var 1) .nil)))
    (.cons (.set 4 (.call "_law_draw" (.cons (.var 0) (.cons (.lit (.int 5)) .nil)) .nil [] [.inl 0, .inl 1]))
    (.cons (.ifs (.bor (.cons (.cmp .eq (.var 3) (.lst .nil)) (.cons (.cmp .eq (.var 4) (.lit (.int 0))) .nil))) (.cons (.mth none 3 .append (.cons (.tup (.cons (.lit (.str "required")) (.cons (.call "_law_choice" (.cons (.var 0) (.cons (.var 2) .nil)) .nil [] [.inl 0, .inl 1]) (.cons (.lit (.int 1)) (.cons (.tup (.cons (.lit (.int 1)) (.cons (.lit (.int 2)) .nil))) .nil))))) .nil))
    (.cons (.ret (.var 3))
    .nil)) .nil)
    (.cons (.set 5 (.call "_law_draw" (.cons (.var 0) (.cons (.bi .len (.cons (.var 3) .nil)) .nil)) .nil [] [.inl 0, .inl 1]))
    (.cons (.ifs (.cmp .eq (.var 4) (.lit (.int 1))) (.cons (.mth none 3 .popAt (.cons (.var 5) .nil))
    .nil) (.cons (.ifs (.cmp .eq (.var 4) (.lit (.int 2))) (.cons (.mth none 3 .insert (.cons (.call "_law_draw" (.cons (.var 0) (.cons (.bi .len (.cons (.var 3) .nil)) .nil)) .nil [] [.inl 0, .inl 1]) (.cons (.idx (.var 3) (.var 5)) .nil)))
    .nil) (.cons (.sub 3 (.var 5) (.call "_law_changed_entry" (.cons (.var 0) (.cons (.idx (.var 3) (.var 5)) (.cons (.var 2) .nil))) .nil [] [.inl 0, .inl 1, .inl 2]))
    .nil))
    .nil))
    (.cons (.ret (.var 3))
    .nil))))))⟩
def f__law_fraction_error : Fn := ⟨4, 11, (.cons (.set 4 (.idx (.call "resolve" (.cons (.var 1) (.cons (.var 2) (.cons (.call "_law_scenario" (.cons (.var 0) (.cons (.var 1) .nil)) .nil [] [.inl 0, .inl 1]) .nil))) (.cons (.var 3) .nil) ["prices"] [.inl 0, .inl 1, .inl 2, .inl 3]) (.lit (.int 1))))
    (.cons (.ifs (.cmp .eq (.var 4) (.lst .nil)) (.cons (.ret (.lit (.bl true)))
    .nil) .nil)
    (.cons (.set 5 (.call "_law_draw" (.cons (.var 0) (.cons (.bi .len (.cons (.var 4) .nil)) .nil)) .nil [] [.inl 0, .inl 1]))
    (.cons (.set 6 (.call "_law_choice" (.cons (.var 0) (.cons (.lst (.cons (.tup (.cons (.lit (.int 2)) (.cons (.lit (.int 4)) .nil))) (.cons (.tup (.cons (.lit (.int 1)) (.cons (.lit (.int 0)) .nil))) (.cons (.tup (.cons (.lit (.int 0)) (.cons (.lit (.int 3)) .nil))) (.cons (.tup (.cons (.lit (.int 3)) (.cons (.neg (.lit (.int 1))) .nil))) .nil))))) .nil)) .nil [] [.inl 0, .inl 1]))
    (.cons (.set 7 (.bin .add (.bin .add (.slc (.var 4) .nil (.cons (.var 5) .nil)) (.lst (.cons (.bin .add (.slc (.idx (.var 4) (.var 5)) .nil (.cons (.neg (.lit (.int 1))) .nil)) (.tup (.cons (.var 6) .nil))) .nil))) (.slc (.var 4) (.cons (.bin .add (.var 5) (.lit (.int 1))) .nil) .nil)))
    (.cons (.ifs (.cmp .ne (.out "_law_outcome" (.call "check_log" (.cons (.var 1) (.cons (.var 2) (.cons (.var 7) .nil))) (.cons (.var 3) .nil) ["prices"] [.inl 0, .inl 1, .inl 2, .inl 3])) (.tup (.cons (.lit .non) (.cons (.lit (.str "fraction")) .nil)))) (.cons (.ret (.lit (.bl false)))
    .nil) .nil)
    (.cons (.set 8 (.bin .add (.slc (.idx (.var 4) (.var 5)) .nil (.cons (.neg (.lit (.int 1))) .nil)) (.tup (.cons (.var 6) .nil))))
    (.cons (.set 9 (.bin .add (.slc (.var 8) .nil (.cons (.lit (.int 2)) .nil)) (.tup (.cons (.bin .sub (.lit (.int 0)) (.lit (.int 1))) (.cons (.var 6) .nil)))))
    (.cons (.ifs (.cmp .eq (.idx (.var 8) (.lit (.int 0))) (.lit (.str "pair"))) (.cons (.set 9 (.bin .add (.bin .add (.slc (.var 8) .nil (.cons (.lit (.int 3)) .nil)) (.tup (.cons (.bin .sub (.lit (.int 0)) (.lit (.int 1))) .nil))) (.slc (.var 8) (.cons (.lit (.int 4)) .nil) .nil)))
    .nil) .nil)
    (.cons (.set 10 (.call "check_log" (.cons (.var 1) (.cons (.var 2) (.cons (.bin .add (.bin .add (.slc (.var 4) .nil (.cons (.var 5) .nil)) (.lst (.cons (.var 9) .nil))) (.slc (.var 4) (.cons (.bin .add (.var 5) (.lit (.int 1))) .nil) .nil)) .nil))) (.cons (.var 3) .nil) ["prices"] [.inl 0, .inl 1, .inl 2, .inl 3]))
    (.cons (.ret (.call "_law_same" (.cons (.var 10) (.cons (.tup (.cons (.var 5) (.cons (.lit (.str "amount")) .nil))) .nil)) .nil [] [.inl 0, .inl 1]))
    .nil)))))))))))⟩
def f__law_all_witnesses_L1 : Sms := (.cons (.set 2 (.bin .add (.var 2) (.lc [4] false (.ex (.call "_law_required" (.cons (.var 0) (.cons (.var 3) .nil)) .nil [] [.inl 0, .inl 1])) .nil (.tup (.cons (.var 4) .nil)))))
    (.cons (.set 2 (.bin .add (.var 2) (.call "_law_witness_pairs" (.cons (.var 0) (.cons (.var 3) .nil)) .nil [] [.inl 0, .inl 1])))
    .nil))
def f__law_all_witnesses : Fn := ⟨2, 5, (.cons (.set 2 (.lst .nil))
    (.cons (.fors [3] false (.ex (.var 1)) f__law_all_witnesses_L1)
    (.cons (.ret (.var 2))
    .nil)))⟩
def f__law_free_log_L1 : Sms := (.cons (.sub 5 (.var 6) (.bin .sub (.idx (.var 5) (.var 6)) (.var 12)))
    .nil)
def f__law_free_log_L2 : Sms := (.cons (.set 10 (.call "_law_all_witnesses" (.cons (.var 7) (.cons (.var 2) .nil)) .nil [] [.inl 0, .inl 1]))
    (.cons (.ifs (.cmp .ne (.var 10) (.lst .nil)) (.cons (.set 11 (.call "_law_shuffled" (.cons (.var 0) (.cons (.bi .list (.cons (.call "_law_choice" (.cons (.var 0) (.cons (.var 10) .nil)) .nil [] [.inl 0, .inl 1]) .nil)) .nil)) .nil [] [.inl 0, .inl 1]))
    (.cons (.set 12 (.bi .min (.cons (.lc [6] false (.walk 11) .nil (.idx (.var 5) (.var 6))) .nil)))
    (.cons (.fors [6] false (.ex (.var 11)) f__law_free_log_L1)
    (.cons (.set 13 (.call "_law_choice" (.cons (.var 0) (.cons (.lc [6] false (.walk 11) (.cons (.cmp .eq (.idx (.var 5) (.var 6)) (.lit (.int 0))) .nil) (.var 6)) .nil)) .nil [] [.inl 0, .inl 1]))
    (.cons (.set 7 (.call "_law_revealed" (.cons (.var 7) (.cons (.var 3) (.cons (.lst (.cons (.var 13) .nil)) .nil))) .nil [] [.inl 0, .inl 1, .inl 2]))
    (.cons (.ifs (.cmp .eq (.bi .len (.cons (.var 11) .nil)) (.lit (.int 1))) (.cons (.mth none 8 .append (.cons (.tup (.cons (.lit (.str "required")) (.cons (.var 13) (.cons (.var 12) (.cons (.idx (.var 3) (.var 13)) .nil))))) .nil))
    .nil) (.cons (.mth none 8 .append (.cons (.tup (.cons (.lit (.str "pair")) (.cons (.idx (.var 11) (.lit (.int 0))) (.cons (.idx (.var 11) (.lit (.int 1))) (.cons (.var 12) (.cons (.var 13) (.cons (.idx (.var 3) (.var 13)) .nil))))))) .nil))
    .nil))
    .nil)))))) .nil)
    .nil))
def f__law_free_log : Fn := ⟨5, 14, (.cons (.set 5 (.bi .dict (.cons (.lc [6] false (.walk 1) .nil (.tup (.cons (.var 6) (.cons (.call "_law_price" (.cons (.var 4) (.cons (.var 6) .nil)) .nil [] [.inl 0, .inl 1]) .nil)))) .nil)))
    (.cons (.set 7 (.bi .dict (.cons (.var 1) .nil)))
    (.cons (.set 8 (.lst .nil))
    (.cons (.fors [9] false (.rng (.cons (.bi .len (.cons (.var 1) .nil)) .nil)) f__law_free_log_L2)
    (.cons (.ret (.var 8))
    .nil)))))⟩
def f__law_covers : Fn := ⟨2, 2, (.cons (.ret (.band (.cons (.call "_law_less" (.cons (.idx (.var 0) (.lit (.int 0))) (.cons (.var 1) .nil)) .nil [] [.inl 0, .inl 1]) (.cons (.call "_law_at_most" (.cons (.var 1) (.cons (.idx (.var 0) (.lit (.int 1))) .nil)) .nil [] [.inl 0, .inl 1]) .nil))))
    .nil)⟩
def f__law_forced_L1 : Sms := (.cons (.unp [5, 6] (.idx (.var 0) (.var 4)))
    (.cons (.set 7 (.lc [8] false (.ex (.bi .sorted (.cons (.var 1) .nil))) (.cons (.band (.cons (.cmp .ne (.var 8) (.var 4)) (.cons (.call "_law_inside" (.cons (.idx (.var 2) (.var 8)) (.cons (.var 5) (.cons (.var 6) .nil))) .nil [] [.inl 0, .inl 1, .inl 2]) .nil))) .nil) (.var 8)))
    (.cons (.ifs (.cmp .ne (.var 7) (.lst .nil)) (.cons (.mth none 3 .append (.cons (.tup (.cons (.var 4) (.cons (.idx (.var 7) (.lit (.int 0))) .nil))) .nil))
    .nil) .nil)
    .nil)))
def f__law_forced : Fn := ⟨3, 9, (.cons (.set 3 (.lst .nil))
    (.cons (.fors [4] false (.ex (.call "_law_unknown" (.cons (.var 0) (.cons (.var 1) .nil)) .nil [] [.inl 0, .inl 1])) f__law_forced_L1)
    (.cons (.ret (.var 3))
    .nil)))⟩
def f__law_by_upper_bound_L1 : Sms := (.cons (.set 4 (.bi .len (.cons (.lc [5] false (.walk 2) (.cons (.call "_law_at_most" (.cons (.idx (.idx (.var 0) (.var 5)) (.lit (.int 1))) (.cons (.idx (.idx (.var 0) (.var 3)) (.lit (.int 1))) .nil)) .nil [] [.inl 0, .inl 1]) .nil) (.var 5)) .nil)))
    (.cons (.mth none 2 .insert (.cons (.var 4) (.cons (.var 3) .nil)))
    .nil))
def f__law_by_upper_bound : Fn := ⟨2, 6, (.cons (.set 2 (.lst .nil))
    (.cons (.fors [3] false (.ex (.bi .sorted (.cons (.var 1) .nil))) f__law_by_upper_bound_L1)
    (.cons (.ret (.var 2))
    .nil)))⟩
def f_is_sweep_L1 : Sms := (.cons (.ifs (.bor (.cons (.cmp .notin (.var 7) (.var 11)) (.cons (.cmp .eq (.var 8) (.var 7)) (.cons (.cmp .notin (.var 8) (.var 0)) .nil)))) (.cons (.ret (.lit (.bl false)))
    .nil) .nil)
    (.cons (.ifs (.nt (.call "strictly_inside" (.cons (.idx (.var 1) (.var 8)) (.cons (.idx (.var 0) (.var 7)) .nil)) .nil [] [.inl 0, .inl 1])) (.cons (.ret (.lit (.bl false)))
    .nil) .nil)
    .nil))
def f_is_sweep : Fn := ⟨3, 12, (.cons (.unp [3, 4, 5] (.var 2))
    (.cons (.set 6 (.lc [7, 8] true (.walk 4) .nil (.var 7)))
    (.cons (.set 9 (.lc [7, 10] true (.walk 5) .nil (.var 7)))
    (.cons (.ifs (.bor (.cons (.cmp .lt (.nset (.var 6)) (.bi .len (.cons (.var 6) .nil))) (.cons (.cmp .lt (.nset (.var 9)) (.bi .len (.cons (.var 9) .nil))) .nil))) (.cons (.ret (.lit (.bl false)))
    .nil) .nil)
    (.cons (.set 11 (.call "unknown_items" (.cons (.var 0) .nil) .nil [] [.inl 0]))
    (.cons (.fors [7, 8] true (.ex (.var 4)) f_is_sweep_L1)
    (.cons (.ret (.bi .all (.cons (.lc [7, 10] true (.walk 5) .nil (.band (.cons (.cmp .isin (.var 7) (.var 11)) (.cons (.cmp .ge (.var 10) (.lit (.int 0))) .nil)))) .nil)))
    .nil)))))))⟩
def f_sweep_bound_L1 : Sms := (.cons (.set 10 (.bi .sum (.cons (.lc [11, 12] true (.walk 6) (.cons (.call "covers_end" (.cons (.idx (.var 0) (.var 8)) (.cons (.var 11) (.cons (.var 0) .nil))) .nil [] [.inl 0, .inl 1, .inl 2]) .nil) (.var 12)) .nil)))
    (.cons (.ifs (.band (.cons (.cmp .notin (.var 8) (.var 7)) (.cons (.cmp .lt (.var 10) (.idx (.var 2) (.var 8))) .nil))) (.cons (.ret (.lit .non))
    .nil) .nil)
    .nil))
def f_sweep_bound : Fn := ⟨4, 13, (.cons (.ifs (.nt (.call "is_sweep" (.cons (.var 0) (.cons (.var 1) (.cons (.var 3) .nil))) .nil [] [.inl 0, .inl 1, .inl 2])) (.cons (.ret (.lit .non))
    .nil) .nil)
    (.cons (.unp [4, 5, 6] (.var 3))
    (.cons (.set 7 (.lc [8, 9] true (.walk 5) .nil (.var 8)))
    (.cons (.fors [8] false (.ex (.call "unknown_items" (.cons (.var 0) .nil) .nil [] [.inl 0])) f_sweep_bound_L1)
    (.cons (.ret (.bin .sub (.bi .sum (.cons (.lc [8] false (.ex (.call "unknown_items" (.cons (.var 0) .nil) .nil [] [.inl 0])) .nil (.idx (.var 2) (.var 8))) .nil)) (.bi .sum (.cons (.lc [11, 12] true (.walk 6) .nil (.var 12)) .nil))))
    .nil)))))⟩
def f_proven_bound : Fn := ⟨5, 11, (.cons (.unp [5, 6, 7] (.call "prepared" (.cons (.var 0) (.cons (.var 1) (.cons (.var 2) (.cons (.var 4) .nil)))) .nil [] [.inl 0, .inl 1, .inl 2, .inl 3]))
    (.cons (.ifs (.cmp .isin (.idx (.var 1) (.lit (.int 0))) (.tup (.cons (.lit (.str "sort")) (.cons (.lit (.str "compare")) .nil)))) (.cons (.ifs (.bor (.cons (.cmp .ne (.idx (.var 3) (.lit (.int 0))) (.lit (.str "sweep"))) (.cons (.cmp .ne (.bi .len (.cons (.var 3) .nil)) (.lit (.int 3))) .nil))) (.cons (.ret (.lit .non))
    .nil) .nil)
    (.cons (.ret (.call "sweep_bound" (.cons (.var 5) (.cons (.var 6) (.cons (.var 7) (.cons (.var 3) .nil)))) .nil [] [.inl 0, .inl 1, .inl 2, .inl 3]))
    .nil)) .nil)
    (.cons (.ifs (.cmp .ne (.var 3) (.idx (.call "cheapest" (.cons (.var 0) (.cons (.var 1) (.cons (.var 2) .nil))) (.cons (.var 4) .nil) ["prices"] [.inl 0, .inl 1, .inl 2, .inl 3]) (.lit (.int 2)))) (.cons (.ret (.lit .non))
    .nil) .nil)
    (.cons (.ifs (.cmp .eq (.idx (.var 1) (.lit (.int 0))) (.lit (.str "above"))) (.cons (.ret (.bi .sum (.cons (.lc [8] false (.ex (.idx (.var 3) (.lit (.int 1)))) .nil (.idx (.var 7) (.var 8))) .nil)))
    .nil) .nil)
    (.cons (.ret (.bi .min (.cons (.lc [9, 10] true (.ex (.idx (.var 3) (.lit (.int 1)))) .nil (.var 10)) .nil)))
    .nil)))))⟩
def f__law_options_L1 : Sms := (.cons (.set 9 (.idx (.idx (.var 0) (.var 8)) (.lit (.int 1))))
    (.cons (.set 10 (.lc [5] false (.walk 3) (.cons (.band (.cons (.cmp .ne (.var 5) (.var 8)) (.cons (.call "_law_less" (.cons (.idx (.idx (.var 0) (.var 5)) (.lit (.int 0))) (.cons (.var 9) .nil)) .nil [] [.inl 0, .inl 1]) .nil))) .nil) (.var 5)))
    (.cons (.set 11 (.bin .add (.var 10) (.lc [5] false (.walk 1) (.cons (.call "_law_is_known" (.cons (.idx (.var 0) (.var 5)) .nil) .nil [] [.inl 0]) .nil) (.var 5))))
    (.cons (.ifs (.bi .all (.cons (.lc [5] false (.walk 11) .nil (.call "_law_at_most" (.cons (.var 9) (.cons (.idx (.var 2) (.var 5)) .nil)) .nil [] [.inl 0, .inl 1])) .nil)) (.cons (.mth none 7 .append (.cons (.tup (.cons (.var 8) (.cons (.var 10) .nil))) .nil))
    .nil) .nil)
    .nil))))
def f__law_options : Fn := ⟨3, 12, (.cons (.set 3 (.call "_law_unknown" (.cons (.var 0) (.cons (.var 1) .nil)) .nil [] [.inl 0, .inl 1]))
    (.cons (.set 4 (.idx (.lc [5] false (.walk 1) (.cons (.bi .all (.cons (.lc [6] false (.walk 1) .nil (.call "_law_at_most" (.cons (.idx (.var 2) (.var 5)) (.cons (.idx (.var 2) (.var 6)) .nil)) .nil [] [.inl 0, .inl 1])) .nil)) .nil) (.var 5)) (.lit (.int 0))))
    (.cons (.set 7 (.lst (.cons (.tup (.cons (.lit .non) (.cons (.lc [5] false (.walk 3) (.cons (.call "_law_less" (.cons (.idx (.idx (.var 0) (.var 5)) (.lit (.int 0))) (.cons (.idx (.var 2) (.var 4)) .nil)) .nil [] [.inl 0, .inl 1]) .nil) (.var 5)) .nil))) .nil)))
    (.cons (.fors [8] false (.ex (.var 3)) f__law_options_L1)
    (.cons (.ret (.var 7))
    .nil)))))⟩
def f__law_bound_of_L1 : Sms := (.cons (.set 14 (.bi .sum (.cons (.lc [15, 13] true (.walk 7) (.cons (.call "_law_covers" (.cons (.idx (.var 0) (.var 10)) (.cons (.idx (.idx (.var 0) (.var 15)) (.lit (.int 1))) .nil)) .nil [] [.inl 0, .inl 1]) .nil) (.var 13)) .nil)))
    (.cons (.ifs (.band (.cons (.cmp .notin (.var 10) (.var 9)) (.cons (.cmp .lt (.var 14) (.call "_law_price" (.cons (.var 3) (.cons (.var 10) .nil)) .nil [] [.inl 0, .inl 1])) .nil))) (.cons (.ret (.lit .non))
    .nil) .nil)
    .nil))
def f__law_bound_of_L2 : Sms := (.cons (.ifs (.bor (.cons (.cmp .notin (.var 10) (.var 8)) (.cons (.cmp .notin (.var 11) (.var 1)) (.cons (.cmp .eq (.var 11) (.var 10)) .nil)))) (.cons (.ret (.lit .non))
    .nil) .nil)
    (.cons (.ifs (.nt (.call "_law_inside" (.cons (.idx (.var 2) (.var 11)) (.cons (.idx (.idx (.var 0) (.var 10)) (.lit (.int 0))) (.cons (.idx (.idx (.var 0) (.var 10)) (.lit (.int 1))) .nil))) .nil [] [.inl 0, .inl 1, .inl 2])) (.cons (.ret (.lit .non))
    .nil) .nil)
    .nil))
def f__law_bound_of : Fn := ⟨5, 16, (.cons (.unp [5, 6, 7] (.var 4))
    (.cons (.set 8 (.call "_law_unknown" (.cons (.var 0) (.cons (.var 1) .nil)) .nil [] [.inl 0, .inl 1]))
    (.cons (.set 9 (.lc [10, 11] true (.walk 6) .nil (.var 10)))
    (.cons (.set 12 (.lc [10, 13] true (.walk 7) .nil (.var 10)))
    (.cons (.ifs (.bor (.cons (.cmp .lt (.bi .len (.cons (.bi .dict (.cons (.var 6) .nil)) .nil)) (.bi .len (.cons (.var 6) .nil))) (.cons (.cmp .lt (.bi .len (.cons (.bi .dict (.cons (.var 7) .nil)) .nil)) (.bi .len (.cons (.var 7) .nil))) .nil))) (.cons (.ret (.lit .non))
    .nil) .nil)
    (.cons (.fors [10, 11] true (.ex (.var 6)) f__law_bound_of_L2)
    (.cons (.ifs (.nt (.bi .all (.cons (.lc [10, 13] true (.walk 7) .nil (.band (.cons (.cmp .isin (.var 10) (.var 8)) (.cons (.cmp .ge (.var 13) (.lit (.int 0))) .nil)))) .nil))) (.cons (.ret (.lit .non))
    .nil) .nil)
    (.cons (.fors [10] false (.ex (.var 8)) f__law_bound_of_L1)
    (.cons (.ret (.bin .sub (.call "_law_total_price" (.cons (.var 3) (.cons (.var 8) .nil)) .nil [] [.inl 0, .inl 1]) (.bi .sum (.cons (.lc [15, 13] true (.walk 7) .nil (.var 13)) .nil))))
    .nil)))))))))⟩
def f__law_certificate_L1 : Sms := (.cons (.ifs (.cmp .gt (.call "_law_draw" (.cons (.var 0) (.cons (.lit (.int 4)) .nil)) .nil [] [.inl 0, .inl 1]) (.lit (.int 0))) (.cons (.mth none 7 .append (.cons (.tup (.cons (.var 8) (.cons (.call "_law_choice" (.cons (.var 0) (.cons (.slc (.lst (.cons (.lit (.int 0)) (.cons (.lit (.int 1)) (.cons (.lit (.int 9)) (.cons (.lit (.int 1000)) (.cons (.neg (.lit (.int 1))) .nil)))))) .nil (.cons (.bin .add (.lit (.int 4)) (.bi .int (.cons (.cmp .eq (.call "_law_draw" (.cons (.var 0) (.cons (.lit (.int 8)) .nil)) .nil [] [.inl 0, .inl 1]) (.lit (.int 0))) .nil))) .nil)) .nil)) .nil [] [.inl 0, .inl 1]) .nil))) .nil))
    .nil) .nil)
    .nil)
def f__law_certificate : Fn := ⟨4, 9, (.cons (.set 4 (.bi .sorted (.cons (.var 1) .nil)))
    (.cons (.set 5 (.lc [6] false (.rng (.cons (.call "_law_draw" (.cons (.var 0) (.cons (.lit (.int 3)) .nil)) .nil [] [.inl 0, .inl 1]) .nil)) .nil (.tup (.cons (.call "_law_choice" (.cons (.var 0) (.cons (.var 4) .nil)) .nil [] [.inl 0, .inl 1]) (.cons (.call "_law_choice" (.cons (.var 0) (.cons (.var 4) .nil)) .nil [] [.inl 0, .inl 1]) .nil)))))
    (.cons (.set 7 (.lst .nil))
    (.cons (.fors [8] false (.ex (.call "_law_shuffled" (.cons (.var 0) (.cons (.var 4) .nil)) .nil [] [.inl 0, .inl 1])) f__law_certificate_L1)
    (.cons (.ret (.tup (.cons (.lit (.str "sweep")) (.cons (.var 5) (.cons (.var 7) .nil)))))
    .nil)))))⟩
def f__law_twice_invalid : Fn := ⟨6, 10, (.cons (.set 6 (.lst .nil))
    (.cons (.ifs (.cmp .ne (.var 5) (.lst .nil)) (.cons (.mth none 6 .append (.cons (.tup (.cons (.lit (.str "sweep")) (.cons (.var 4) (.cons (.bin .add (.var 5) (.slc (.var 5) .nil (.cons (.lit (.int 1)) .nil))) .nil)))) .nil))
    (.cons (.mth none 6 .append (.cons (.tup (.cons (.lit (.str "sweep")) (.cons (.var 4) (.cons (.bin .add (.var 5) (.lc [7, 8] true (.walk 5) .nil (.tup (.cons (.var 7) (.cons (.lit (.int 0)) .nil))))) .nil)))) .nil))
    .nil)) .nil)
    (.cons (.ifs (.cmp .ne (.var 4) (.lst .nil)) (.cons (.mth none 6 .append (.cons (.tup (.cons (.lit (.str "sweep")) (.cons (.bin .add (.var 4) (.slc (.var 4) .nil (.cons (.lit (.int 1)) .nil))) (.cons (.var 5) .nil)))) .nil))
    .nil) .nil)
    (.cons (.ret (.bi .all (.cons (.lc [9] false (.walk 6) .nil (.cmp .isN (.call "proven_bound" (.cons (.var 0) (.cons (.var 1) (.cons (.var 2) (.cons (.var 9) .nil)))) (.cons (.var 3) .nil) ["prices"] [.inl 0, .inl 1, .inl 2, .inl 3, .inl 4]) (.lit .non))) .nil)))
    .nil))))⟩
def f__law_signature_L1 : Sms := (.cons (.mth none 4 .append (.cons (.lc [6] false (.walk 2) .nil (.bin .sub (.bin .add (.lit (.int 1)) (.bi .int (.cons (.call "_law_less" (.cons (.var 5) (.cons (.var 6) .nil)) .nil [] [.inl 0, .inl 1]) .nil))) (.bi .int (.cons (.call "_law_less" (.cons (.var 6) (.cons (.var 5) .nil)) .nil [] [.inl 0, .inl 1]) .nil)))) .nil))
    .nil)
def f__law_signature_L2 : Sms := (.cons (.set 2 (.bin .add (.var 2) (.lst (.cons (.idx (.idx (.var 0) (.var 3)) (.lit (.int 0))) (.cons (.idx (.idx (.var 0) (.var 3)) (.lit (.int 1))) .nil)))))
    .nil)
def f__law_signature : Fn := ⟨2, 7, (.cons (.set 2 (.lc [3] false (.ex (.bi .sorted (.cons (.var 0) .nil))) .nil (.idx (.var 1) (.var 3))))
    (.cons (.fors [3] false (.ex (.bi .sorted (.cons (.var 0) .nil))) f__law_signature_L2)
    (.cons (.set 4 (.lst .nil))
    (.cons (.fors [5] false (.ex (.var 2)) f__law_signature_L1)
    (.cons (.ret (.var 4))
    .nil)))))⟩
def f__law_candidates_k35_L1 : Sms := (.cons (.ifs (.band (.cons (.call "_law_at_most" (.cons (.var 2) (.cons (.var 8) .nil)) .nil [] [.inl 0, .inl 1]) (.cons (.call "_law_at_most" (.cons (.var 12) (.cons (.var 3) .nil)) .nil [] [.inl 0, .inl 1]) .nil))) (.cons (.set 6 (.bin .add (.var 6) (.lc [13] false (.rng (.cons (.lit (.int 1)) (.cons (.bin .add (.var 5) (.lit (.int 1))) .nil))) .nil (.call "_law_interpolate" (.cons (.var 8) (.cons (.var 12) (.cons (.bin .add (.var 5) (.lit (.int 1))) (.cons (.var 13) .nil)))) .nil [] [.inl 0, .inl 1, .inl 2, .inl 3]))))
    .nil) .nil)
    .nil)
def f__law_candidates_k35_L2 : Sms := (.cons (.set 9 (.lc [7] false (.walk 4) (.cons (.call "_law_less" (.cons (.var 8) (.cons (.var 7) .nil)) .nil [] [.inl 0, .inl 1]) .nil) (.var 7)))
    (.cons (.set 10 (.lc [7] false (.walk 9) (.cons (.nt (.bi .any (.cons (.lc [11] false (.walk 9) .nil (.call "_law_less" (.cons (.var 11) (.cons (.var 7) .nil)) .nil [] [.inl 0, .inl 1])) .nil))) .nil) (.var 7)))
    (.cons (.fors [12] false (.ex (.var 10)) f__law_candidates_k35_L1)
    .nil)))
def f__law_candidates_k35 : Fn := ⟨2, 14, (.cons (.unp [2, 3] (.idx (.var 0) (.var 1)))
    (.cons (.ifs (.cmp .eq (.var 2) (.var 3)) (.cons (.ret (.lst (.cons (.var 2) .nil)))
    .nil) .nil)
    (.cons (.set 4 (.call "_law_points" (.cons (.var 0) .nil) .nil [] [.inl 0]))
    (.cons (.set 5 (.bi .len (.cons (.call "_law_unknown" (.cons (.var 0) (.cons (.bi .sorted (.cons (.var 0) .nil)) .nil)) .nil [] [.inl 0, .inl 1]) .nil)))
    (.cons (.set 6 (.lc [7] false (.walk 4) (.cons (.call "_law_inside" (.cons (.var 7) (.cons (.var 2) (.cons (.var 3) .nil))) .nil [] [.inl 0, .inl 1, .inl 2]) .nil) (.var 7)))
    (.cons (.fors [8] false (.ex (.var 4)) f__law_candidates_k35_L2)
    (.cons (.ret (.var 6))
    .nil)))))))⟩
def f__law_values_right_L1 : Sms := (.cons (.ifs (.cmp .notin (.idx (.var 4) (.var 2)) (.var 3)) (.cons (.mth none 3 .append (.cons (.idx (.var 4) (.var 2)) .nil))
    .nil) .nil)
    .nil)
def f__law_values_right_L2 : Sms := (.cons (.set 3 (.lst .nil))
    (.cons (.fors [4] false (.ex (.var 1)) f__law_values_right_L1)
    (.cons (.ifs (.cmp .ne (.bi .sorted (.cons (.var 3) .nil)) (.bi .sorted (.cons (.call "_law_candidates" (.cons (.var 0) (.cons (.var 2) .nil)) .nil [] [.inl 0, .inl 1]) .nil))) (.cons (.ret (.lit (.bl false)))
    .nil) .nil)
    .nil)))
def f__law_values_right : Fn := ⟨2, 5, (.cons (.fors [2] false (.ex (.var 0)) f__law_values_right_L2)
    (.cons (.ret (.lit (.bl true)))
    .nil))⟩
def f__law_points_L1 : Sms := (.cons (.ifs (.cmp .notin (.var 3) (.var 1)) (.cons (.mth none 1 .append (.cons (.var 3) .nil))
    .nil) .nil)
    .nil)
def f__law_points_L2 : Sms := (.cons (.fors [3] false (.ex (.idx (.var 0) (.var 2))) f__law_points_L1)
    .nil)
def f__law_points : Fn := ⟨1, 4, (.cons (.set 1 (.lst .nil))
    (.cons (.fors [2] false (.ex (.bi .sorted (.cons (.var 0) .nil))) f__law_points_L2)
    (.cons (.ret (.var 1))
    .nil)))⟩
def f__law_count_L1 : Sms := (.cons (.unp [5, 6] (.idx (.var 0) (.var 4)))
    (.cons (.set 7 (.lc [8] false (.walk 1) (.cons (.call "_law_inside" (.cons (.var 8) (.cons (.var 5) (.cons (.var 6) .nil))) .nil [] [.inl 0, .inl 1, .inl 2]) .nil) (.var 8)))
    (.cons (.set 3 (.bin .mul (.var 3) (.bin .add (.bi .len (.cons (.var 7) .nil)) (.bin .mul (.bin .add (.bi .len (.cons (.var 7) .nil)) (.lit (.int 1))) (.bi .len (.cons (.var 2) .nil))))))
    .nil)))
def f__law_count : Fn := ⟨1, 9, (.cons (.set 1 (.call "_law_points" (.cons (.var 0) .nil) .nil [] [.inl 0]))
    (.cons (.set 2 (.call "_law_unknown" (.cons (.var 0) (.cons (.bi .sorted (.cons (.var 0) .nil)) .nil)) .nil [] [.inl 0, .inl 1]))
    (.cons (.set 3 (.lit (.int 1)))
    (.cons (.fors [4] false (.ex (.var 2)) f__law_count_L1)
    (.cons (.ret (.var 3))
    .nil)))))⟩
def f_require_names_L1 : Sms := (.cons (.ifs (.cmp .notin (.var 2) (.var 1)) (.cons (.rais "UnknownItem" (.cons (.var 2) .nil))
    .nil) .nil)
    .nil)
def f_require_names : Fn := ⟨2, 3, (.cons (.fors [2] false (.ex (.var 0)) f_require_names_L1)
    .nil)⟩
def f_probe_in_order_L1 : Sms := (.cons (.ifs (.bi .all (.cons (.lc [7] false (.walk 1) .nil (.call "certain_in" (.cons (.var 4) (.cons (.var 7) .nil)) .nil [] [.inl 0, .inl 1])) .nil)) (.cons (.ret (.var 5))
    .nil) .nil)
    (.cons (.ifs (.cmp .notin (.var 6) (.var 5)) (.cons (.set 4 (.call "revealed" (.cons (.var 4) (.cons (.var 2) (.cons (.lst (.cons (.var 6) .nil)) .nil))) .nil [] [.inl 0, .inl 1, .inl 2]))
    (.cons (.mth none 5 .append (.cons (.var 6) .nil))
    .nil)) .nil)
    .nil))
def f_probe_in_order : Fn := ⟨4, 8, (.cons (.expr (.call "require_intervals" (.cons (.var 0) .nil) .nil [] [.inl 0]))
    (.cons (.set 4 (.call "by_name" (.cons (.var 0) .nil) .nil [] [.inl 0]))
    (.cons (.expr (.call "require_queries" (.cons (.var 1) (.cons (.var 4) .nil)) .nil [] [.inl 0, .inl 1]))
    (.cons (.expr (.call "require_names" (.cons (.var 3) (.cons (.var 4) .nil)) .nil [] [.inl 0, .inl 1]))
    (.cons (.set 5 (.lst .nil))
    (.cons (.fors [6] false (.ex (.var 3)) f_probe_in_order_L1)
    (.cons (.ret (.ite (.bi .all (.cons (.lc [7] false (.walk 1) .nil (.call "certain_in" (.cons (.var 4) (.cons (.var 7) .nil)) .nil [] [.inl 0, .inl 1])) .nil)) (.var 5) (.lit .non)))
    .nil)))))))⟩
def f__law_two_unknown : Fn := ⟨4, 5, (.cons (.set 4 (.slc (.call "_law_shuffled" (.cons (.var 0) (.cons (.lst (.cons (.lit (.str "zz")) (.cons (.lit (.str "aa")) (.cons (.lit (.str "zy")) .nil)))) .nil)) .nil [] [.inl 0, .inl 1]) .nil (.cons (.lit (.int 2)) .nil)))
    (.cons (.ifs (.cmp .ne (.out "_law_name_of" (.call "probe_in_order" (.cons (.var 1) (.cons (.var 2) (.cons (.var 3) (.cons (.var 4) .nil)))) .nil [] [.inl 0, .inl 1, .inl 2, .inl 3])) (.idx (.var 4) (.lit (.int 0)))) (.cons (.ret (.lit (.bl false)))
    .nil) .nil)
    (.cons (.ifs (.cmp .ne (.out "_law_name_of" (.call "adversary_values" (.cons (.bin .add (.lst (.cons (.lit (.str "la")) .nil)) (.var 4)) .nil) .nil [] [.inl 0, .inr (.int 3)])) (.idx (.var 4) (.lit (.int 0)))) (.cons (.ret (.lit (.bl false)))
    .nil) .nil)
    (.cons (.ifs (.cmp .ne (.out "_law_name_of" (.call "reveal" (.cons (.var 1) (.cons (.var 3) (.cons (.var 4) .nil))) .nil [] [.inl 0, .inl 1, .inl 2])) (.bi .min (.cons (.var 4) .nil))) (.cons (.ret (.lit (.bl false)))
    .nil) .nil)
    (.cons (.ret (.cmp .eq (.out "_law_name_of" (.call "is_sufficient" (.cons (.var 1) (.cons (.var 2) (.cons (.var 3) (.cons (.var 4) .nil)))) .nil [] [.inl 0, .inl 1, .inl 2, .inl 3])) (.bi .min (.cons (.var 4) .nil))))
    .nil)))))⟩
def f_parse_names : Fn := ⟨1, 2, (.cons (.ifs (.bor (.cons (.cmp .eq (.var 0) (.lst .nil)) (.cons (.cmp .lt (.nset (.var 0)) (.bi .len (.cons (.var 0) .nil))) (.cons (.nt (.bi .all (.cons (.lc [1] false (.walk 0) .nil (.call "is_name" (.cons (.var 1) .nil) .nil [] [.inl 0])) .nil))) .nil)))) (.cons (.ret (.lit .non))
    .nil) .nil)
    (.cons (.ret (.bi .tuple (.cons (.var 0) .nil)))
    .nil))⟩
def f__law_index : Fn := ⟨1, 3, (.cons (.set 1 (.lit .non))
    (.cons (.tryx (.cons (.expr (.call "parse_queries" (.cons (.var 0) .nil) .nil [] [.inl 0]))
    .nil) [⟨"InvalidText", 2, 1, (.attr "index")⟩])
    (.cons (.ret (.var 1))
    .nil)))⟩
def f__wall_L1 : Sms := (.cons .pass
    .nil)
def f__wall : Fn := ⟨1, 1, (.cons (.whl (.lit (.bl true)) f__wall_L1)
    .nil)⟩
def f_require_bounds : Fn := ⟨2, 2, (.cons (.expr (.call "require_fraction" (.cons (.var 0) .nil) .nil [] [.inl 0]))
    (.cons (.expr (.call "require_fraction" (.cons (.var 1) .nil) .nil [] [.inl 0]))
    (.cons (.ifs (.nt (.call "less" (.cons (.var 0) (.cons (.var 1) .nil)) .nil [] [.inl 0, .inl 1])) (.cons (.rais "InvalidBounds" .nil)
    .nil) .nil)
    .nil)))⟩
def f__law_step : Fn := ⟨3, 13, (.cons (.set 3 (.lst (.cons (.lit (.str "a")) (.cons (.lit (.str "b")) (.cons (.lit (.str "bb")) (.cons (.lit (.str "item")) (.cons (.lit (.str "d")) (.cons (.lit (.str "xyzxyz")) (.cons (.lit (.str "z")) .nil)))))))))
    (.cons (.set 4 (.call "_law_draw" (.cons (.var 0) (.cons (.lit (.int 7)) .nil)) .nil [] [.inl 0, .inl 1]))
    (.cons (.set 5 (.call "_law_choice" (.cons (.var 0) (.cons (.var 3) .nil)) .nil [] [.inl 0, .inl 1]))
    (.cons (.ifs (.band (.cons (.cmp .ne (.bi .sorted (.cons (.var 1) .nil)) (.lst .nil)) (.cons (.cmp .gt (.call "_law_draw" (.cons (.var 0) (.cons (.lit (.int 3)) .nil)) .nil [] [.inl 0, .inl 1]) (.lit (.int 0))) .nil))) (.cons (.set 5 (.call "_law_choice" (.cons (.var 0) (.cons (.bi .sorted (.cons (.var 1) .nil)) .nil)) .nil [] [.inl 0, .inl 1]))
    .nil) .nil)
    (.cons (.unp [6, 7] (.call "_law_interval" (.cons (.var 0) (.cons (.lit (.int 8)) (.cons (.lst .nil) .nil))) .nil [] [.inl 0, .inl 1, .inl 2]))
    (.cons (.ifs (.cmp .lt (.var 4) (.lit (.int 3))) (.cons (.ifs (.cmp .gt (.call "_law_draw" (.cons (.var 0) (.cons (.lit (.int 3)) .nil)) .nil [] [.inl 0, .inl 1]) (.lit (.int 0))) (.cons (.set 5 (.idx (.bin .add (.lc [8] false (.ex (.call "_law_shuffled" (.cons (.var 0) (.cons (.var 3) .nil)) .nil [] [.inl 0, .inl 1])) (.cons (.cmp .notin (.var 8) (.var 1)) .nil) (.var 8)) (.lst (.cons (.var 5) .nil))) (.lit (.int 0))))
    .nil) .nil)
    (.cons (.ifs (.cmp .eq (.call "_law_draw" (.cons (.var 0) (.cons (.lit (.int 9)) .nil)) .nil [] [.inl 0, .inl 1]) (.lit (.int 0))) (.cons (.set 5 (.call "_law_choice" (.cons (.var 0) (.cons (.lst (.cons (.lit (.str "")) (.cons (.lit (.str "A")) (.cons (.lit (.str "toolong")) (.cons (.lit (.str "a b")) (.cons (.lit (.str "q1")) .nil)))))) .nil)) .nil [] [.inl 0, .inl 1]))
    .nil) .nil)
    (.cons (.set 9 (.slc (.lst (.cons (.lit (.int 1)) (.cons (.lit (.int 2)) (.cons (.lit (.int 5)) (.cons (.lit (.int 1000)) (.cons (.lit (.int 0)) (.cons (.lit (.int 1001)) .nil))))))) .nil (.cons (.bin .add (.lit (.int 4)) (.bin .mul (.lit (.int 2)) (.bi .int (.cons (.cmp .eq (.call "_law_draw" (.cons (.var 0) (.cons (.lit (.int 6)) .nil)) .nil [] [.inl 0, .inl 1]) (.lit (.int 0))) .nil)))) .nil)))
    (.cons (.ret (.tup (.cons (.lit (.str "add")) (.cons (.var 5) (.cons (.var 6) (.cons (.var 7) (.cons (.call "_law_choice" (.cons (.var 0) (.cons (.var 9) .nil)) .nil [] [.inl 0, .inl 1]) .nil)))))))
    .nil)))) .nil)
    (.cons (.ifs (.cmp .eq (.var 4) (.lit (.int 3))) (.cons (.ret (.tup (.cons (.lit (.str "remove")) (.cons (.var 5) .nil))))
    .nil) .nil)
    (.cons (.ifs (.cmp .eq (.var 4) (.lit (.int 4))) (.cons (.ret (.tup (.cons (.lit (.str "interval")) (.cons (.var 5) (.cons (.var 6) (.cons (.var 7) .nil))))))
    .nil) .nil)
    (.cons (.ifs (.cmp .eq (.var 4) (.lit (.int 5))) (.cons (.set 9 (.slc (.lst (.cons (.lit (.int 1)) (.cons (.lit (.int 3)) (.cons (.lit (.int 1000)) (.cons (.lit (.int 0)) (.cons (.neg (.lit (.int 1))) .nil)))))) .nil (.cons (.bin .add (.lit (.int 3)) (.bin .mul (.lit (.int 2)) (.bi .int (.cons (.cmp .eq (.call "_law_draw" (.cons (.var 0) (.cons (.lit (.int 6)) .nil)) .nil [] [.inl 0, .inl 1]) (.lit (.int 0))) .nil)))) .nil)))
    (.cons (.ret (.tup (.cons (.lit (.str "price")) (.cons (.var 5) (.cons (.call "_law_choice" (.cons (.var 0) (.cons (.var 9) .nil)) .nil [] [.inl 0, .inl 1]) .nil)))))
    .nil)) .nil)
    (.cons (.set 10 (.call "_law_as_list" (.cons (.var 1) .nil) .nil [] [.inl 0]))
    (.cons (.ifs (.cmp .eq (.var 10) (.lst .nil)) (.cons (.ret (.tup (.cons (.lit (.str "resolve")) (.cons (.lst .nil) (.cons .dct0 .nil)))))
    .nil) .nil)
    (.cons (.set 11 (.call "_law_scenario" (.cons (.var 0) (.cons (.var 10) .nil)) .nil [] [.inl 0, .inl 1]))
    (.cons (.ifs (.cmp .eq (.call "_law_draw" (.cons (.var 0) (.cons (.lit (.int 5)) .nil)) .nil [] [.inl 0, .inl 1]) (.lit (.int 0))) (.cons (.set 12 (.call "_law_choice" (.cons (.var 0) (.cons (.bi .sorted (.cons (.var 1) .nil)) .nil)) .nil [] [.inl 0, .inl 1]))
    (.cons (.set 11 (.bi .dict (.cons (.lc [8] false (.walk 11) (.cons (.cmp .ne (.var 8) (.var 12)) .nil) (.tup (.cons (.var 8) (.cons (.idx (.var 11) (.var 8)) .nil)))) .nil)))
    .nil)) .nil)
    (.cons (.ret (.tup (.cons (.lit (.str "resolve")) (.cons (.call "_law_queries" (.cons (.var 0) (.cons (.var 10) (.cons (.lit (.int 3)) .nil))) .nil [] [.inl 0, .inl 1, .inl 2]) (.cons (.var 11) .nil)))))
    .nil))))))))))))))⟩
def f__law_is_name : Fn := ⟨1, 3, (.cons (.set 1 (.lit (.str "abcdefghijklmnopqrstuvwxyz")))
    (.cons (.ret (.band (.cons (.cmp .gt (.bi .len (.cons (.var 0) .nil)) (.lit (.int 0))) (.cons (.cmp .lt (.bi .len (.cons (.var 0) .nil)) (.lit (.int 7))) (.cons (.bi .all (.cons (.lc [2] false (.walk 0) .nil (.cmp .isin (.var 2) (.var 1))) .nil)) .nil)))))
    .nil))⟩
def f__law_step_error : Fn := ⟨4, 5, (.cons (.ifs (.cmp .eq (.idx (.var 2) (.lit (.int 0))) (.lit (.str "resolve"))) (.cons (.ret (.idx (.out "_law_outcome" (.call "resolve" (.cons (.call "_law_as_list" (.cons (.var 0) .nil) .nil [] [.inl 0]) (.cons (.idx (.var 2) (.lit (.int 1))) (.cons (.idx (.var 2) (.lit (.int 2))) .nil))) (.cons (.var 1) .nil) ["prices"] [.inl 0, .inl 1, .inl 2, .inl 3])) (.lit (.int 1))))
    .nil) .nil)
    (.cons (.set 4 (.idx (.var 2) (.lit (.int 1))))
    (.cons (.ifs (.cmp .eq (.idx (.var 2) (.lit (.int 0))) (.lit (.str "add"))) (.cons (.ifs (.nt (.call "_law_is_name" (.cons (.var 4) .nil) .nil [] [.inl 0])) (.cons (.ret (.lit (.str "name")))
    .nil) .nil)
    (.cons (.ifs (.cmp .isin (.var 4) (.var 0)) (.cons (.ret (.lit (.str "duplicate")))
    .nil) .nil)
    (.cons (.ifs (.cmp .ge (.bi .len (.cons (.var 0) .nil)) (.var 3)) (.cons (.ret (.lit (.str "capacity")))
    .nil) .nil)
    .nil))) (.cons (.ifs (.cmp .notin (.var 4) (.var 0)) (.cons (.ret (.lit (.str "item")))
    .nil) .nil)
    .nil))
    (.cons (.ifs (.band (.cons (.cmp .isin (.idx (.var 2) (.lit (.int 0))) (.tup (.cons (.lit (.str "add")) (.cons (.lit (.str "interval")) .nil)))) (.cons (.nt (.call "_law_less" (.cons (.idx (.var 2) (.lit (.int 2))) (.cons (.idx (.var 2) (.lit (.int 3))) .nil)) .nil [] [.inl 0, .inl 1])) .nil))) (.cons (.ret (.lit (.str "bounds")))
    .nil) .nil)
    (.cons (.ifs (.band (.cons (.cmp .isin (.idx (.var 2) (.lit (.int 0))) (.tup (.cons (.lit (.str "add")) (.cons (.lit (.str "price")) .nil)))) (.cons (.bor (.cons (.cmp .lt (.idx (.var 2) (.neg (.lit (.int 1)))) (.lit (.int 1))) (.cons (.cmp .gt (.idx (.var 2) (.neg (.lit (.int 1)))) (.lit (.int 1000))) .nil))) .nil))) (.cons (.ret (.lit (.str "price")))
    .nil) .nil)
    (.cons (.ret (.lit (.str "")))
    .nil))))))⟩
def f__law_next : Fn := ⟨2, 10, (.cons (.unp [2, 3, 4, 5] (.var 0))
    (.cons (.set 2 (.bi .dict (.cons (.var 2) .nil)))
    (.cons (.set 3 (.bi .dict (.cons (.var 3) .nil)))
    (.cons (.ifs (.cmp .eq (.idx (.var 1) (.lit (.int 0))) (.lit (.str "resolve"))) (.cons (.unp [6, 5] (.call "resolve" (.cons (.call "_law_as_list" (.cons (.var 2) .nil) .nil [] [.inl 0]) (.cons (.idx (.var 1) (.lit (.int 1))) (.cons (.idx (.var 1) (.lit (.int 2))) .nil))) (.cons (.var 3) .nil) ["prices"] [.inl 0, .inl 1, .inl 2, .inl 3]))
    (.cons (.set 4 (.bin .add (.var 4) (.idx (.call "log_totals" (.cons (.var 5) .nil) (.cons (.var 3) .nil) ["prices"] [.inl 0, .inl 1]) (.lit (.int 0)))))
    (.cons (.ret (.tup (.cons (.tup (.cons (.call "_law_by_name" (.cons (.var 6) .nil) .nil [] [.inl 0]) (.cons (.var 3) (.cons (.var 4) (.cons (.var 5) .nil))))) (.cons (.lc [7] false (.ex (.idx (.var 1) (.lit (.int 1)))) .nil (.call "answer" (.cons (.var 6) (.cons (.var 7) .nil)) .nil [] [.inl 0, .inl 1])) .nil))))
    .nil))) .nil)
    (.cons (.set 8 (.idx (.var 1) (.lit (.int 1))))
    (.cons (.set 9 (.lit .non))
    (.cons (.ifs (.cmp .eq (.idx (.var 1) (.lit (.int 0))) (.lit (.str "remove"))) (.cons (.mth (some 9) 2 .popAt (.cons (.var 8) .nil))
    (.cons (.mth none 3 .popAt (.cons (.var 8) .nil))
    .nil)) (.cons (.ifs (.cmp .eq (.idx (.var 1) (.lit (.int 0))) (.lit (.str "price"))) (.cons (.set 9 (.idx (.var 3) (.var 8)))
    (.cons (.sub 3 (.var 8) (.idx (.var 1) (.lit (.int 2))))
    .nil)) (.cons (.set 9 (.ite (.cmp .eq (.idx (.var 1) (.lit (.int 0))) (.lit (.str "interval"))) (.idx (.var 2) (.var 8)) (.lit .non)))
    (.cons (.sub 2 (.var 8) (.tup (.cons (.idx (.var 1) (.lit (.int 2))) (.cons (.idx (.var 1) (.lit (.int 3))) .nil))))
    (.cons (.ifs (.cmp .eq (.idx (.var 1) (.lit (.int 0))) (.lit (.str "add"))) (.cons (.sub 3 (.var 8) (.idx (.var 1) (.lit (.int 4))))
    .nil) .nil)
    .nil))))
    .nil))
    (.cons (.ret (.tup (.cons (.tup (.cons (.var 2) (.cons (.var 3) (.cons (.var 4) (.cons (.var 5) .nil))))) (.cons (.var 9) .nil))))
    .nil))))))))⟩
def f__law_empty_state : Fn := ⟨0, 0, (.cons (.ret (.tup (.cons .dct0 (.cons .dct0 (.cons (.lit (.int 0)) (.cons (.lst .nil) .nil))))))
    .nil)⟩
def f__law_applied : Fn := ⟨4, 9, (.cons (.set 4 (.call "_law_step_error" (.cons (.idx (.var 1) (.lit (.int 0))) (.cons (.idx (.var 1) (.lit (.int 1))) (.cons (.var 2) (.cons (.var 3) .nil)))) .nil [] [.inl 0, .inl 1, .inl 2, .inl 3]))
    (.cons (.unp [5, 6] (.out "_law_outcome" (.call "_law_call" (.cons (.var 0) (.cons (.var 2) .nil)) .nil [] [.inl 0, .inl 1])))
    (.cons (.ifs (.cmp .ne (.var 6) (.var 4)) (.cons (.ret (.tup (.cons (.lit (.bl false)) (.cons (.var 1) .nil))))
    .nil) .nil)
    (.cons (.ifs (.cmp .ne (.var 6) (.lit (.str ""))) (.cons (.ret (.tup (.cons (.lit (.bl true)) (.cons (.var 1) .nil))))
    .nil) .nil)
    (.cons (.unp [7, 8] (.call "_law_next" (.cons (.var 1) (.cons (.var 2) .nil)) .nil [] [.inl 0, .inl 1]))
    (.cons (.ret (.tup (.cons (.call "_law_same" (.cons (.var 5) (.cons (.var 8) .nil)) .nil [] [.inl 0, .inl 1]) (.cons (.var 7) .nil))))
    .nil))))))⟩
def f__law_filled_L1 : Sms := (.cons (.set 5 (.call "_law_step" (.cons (.var 0) (.cons (.idx (.var 2) (.lit (.int 0))) (.cons (.idx (.var 2) (.lit (.int 1))) .nil))) .nil [] [.inl 0, .inl 1, .inl 2]))
    (.cons (.ifs (.cmp .eq (.call "_law_step_error" (.cons (.idx (.var 2) (.lit (.int 0))) (.cons (.idx (.var 2) (.lit (.int 1))) (.cons (.var 5) (.cons (.lit (.int 24)) .nil)))) .nil [] [.inl 0, .inl 1, .inl 2, .inl 3]) (.lit (.str ""))) (.cons (.expr (.call "_law_call" (.cons (.var 1) (.cons (.var 5) .nil)) .nil [] [.inl 0, .inl 1]))
    (.cons (.set 2 (.idx (.call "_law_next" (.cons (.var 2) (.cons (.var 5) .nil)) .nil [] [.inl 0, .inl 1]) (.lit (.int 0))))
    .nil)) .nil)
    .nil))
def f__law_filled : Fn := ⟨4, 6, (.cons (.fors [4] false (.rng (.cons (.var 3) .nil)) f__law_filled_L1)
    (.cons (.ret (.var 2))
    .nil))⟩
def f__law_resolved_L1 : Sms := (.cons (.ifs (.cmp .eq (.var 4) (.lit (.str ""))) (.cons (.set 4 (.call "_law_step_error" (.cons (.idx (.var 0) (.lit (.int 0))) (.cons (.idx (.var 0) (.lit (.int 1))) (.cons (.tup (.cons (.lit (.str "resolve")) (.cons (.var 5) (.cons (.var 2) .nil)))) (.cons (.lit (.int 24)) .nil)))) .nil [] [.inl 0, .inl 1, .inl 2, .inl 3]))
    .nil) .nil)
    (.cons (.ifs (.cmp .eq (.var 4) (.lit (.str ""))) (.cons (.unp [0, 6] (.call "_law_next" (.cons (.var 0) (.cons (.tup (.cons (.lit (.str "resolve")) (.cons (.var 5) (.cons (.var 2) .nil)))) .nil)) .nil [] [.inl 0, .inl 1]))
    (.cons (.mth none 3 .append (.cons (.var 6) .nil))
    .nil)) .nil)
    .nil))
def f__law_resolved : Fn := ⟨3, 7, (.cons (.set 3 (.lst .nil))
    (.cons (.set 4 (.lit (.str "")))
    (.cons (.fors [5] false (.ex (.var 1)) f__law_resolved_L1)
    (.cons (.ret (.tup (.cons (.var 0) (.cons (.var 3) (.cons (.var 4) .nil)))))
    .nil))))⟩
def f__law_flipped_query : Fn := ⟨1, 1, (.cons (.ifs (.cmp .eq (.idx (.var 0) (.lit (.int 0))) (.lit (.str "min"))) (.cons (.ret (.tup (.cons (.lit (.str "max")) (.cons (.idx (.var 0) (.lit (.int 1))) .nil))))
    .nil) .nil)
    (.cons (.ifs (.cmp .eq (.idx (.var 0) (.lit (.int 0))) (.lit (.str "max"))) (.cons (.ret (.tup (.cons (.lit (.str "min")) (.cons (.idx (.var 0) (.lit (.int 1))) .nil))))
    .nil) .nil)
    (.cons (.ifs (.cmp .eq (.idx (.var 0) (.lit (.int 0))) (.lit (.str "above"))) (.cons (.ret (.tup (.cons (.lit (.str "above")) (.cons (.idx (.var 0) (.lit (.int 1))) (.cons (.tup (.cons (.bin .sub (.lit (.int 0)) (.idx (.idx (.var 0) (.lit (.int 2))) (.lit (.int 0)))) (.cons (.idx (.idx (.var 0) (.lit (.int 2))) (.lit (.int 1))) .nil))) .nil)))))
    .nil) .nil)
    (.cons (.ret (.var 0))
    .nil))))⟩
def f__law_moved : Fn := ⟨3, 5, (.cons (.set 3 (.bin .mul (.bin .mul (.idx (.var 0) (.lit (.int 0))) (.idx (.var 1) (.lit (.int 0)))) (.idx (.var 2) (.lit (.int 1)))))
    (.cons (.set 4 (.bin .mul (.bin .mul (.idx (.var 2) (.lit (.int 0))) (.idx (.var 0) (.lit (.int 1)))) (.idx (.var 1) (.lit (.int 1)))))
    (.cons (.ret (.call "_law_reduced" (.cons (.bin .add (.var 3) (.var 4)) (.cons (.bin .mul (.bin .mul (.idx (.var 0) (.lit (.int 1))) (.idx (.var 1) (.lit (.int 1)))) (.idx (.var 2) (.lit (.int 1)))) .nil)) .nil [] [.inl 0, .inl 1]))
    .nil)))⟩
def f__law_pairs : Fn := ⟨4, 11, (.cons (.set 4 (.lst (.cons (.var 1) .nil)))
    (.cons (.set 5 (.lc [6] false (.walk 0) .nil (.idx (.var 6) (.lit (.int 0)))))
    (.cons (.set 7 (.idx (.call "resolve" (.cons (.var 0) (.cons (.var 4) (.cons (.var 2) .nil))) (.cons (.var 3) .nil) ["prices"] [.inl 0, .inl 1, .inl 2, .inl 3]) (.lit (.int 1))))
    (.cons (.set 8 (.idx (.call "cheapest" (.cons (.var 0) (.cons (.var 1) (.cons (.var 2) .nil))) (.cons (.var 3) .nil) ["prices"] [.inl 0, .inl 1, .inl 2, .inl 3]) (.lit (.int 2))))
    (.cons (.set 9 (.lst (.cons (.cmp .eq (.call "rational" .nil (.cons (.neg (.lit (.int 4))) (.cons (.lit (.int 6)) .nil)) ["denominator", "numerator"] [.inl 1, .inl 0]) (.tup (.cons (.neg (.lit (.int 3))) (.cons (.lit (.int 2)) .nil)))) (.cons (.cmp .isN (.call "less" .nil (.cons (.tup (.cons (.lit (.int 1)) (.cons (.lit (.int 2)) .nil))) (.cons (.tup (.cons (.lit (.int 1)) (.cons (.lit (.int 3)) .nil))) .nil)) ["second", "first"] [.inl 1, .inl 0]) (.lit (.bl true))) .nil))))
    (.cons (.mth none 9 .append (.cons (.cmp .eq (.call "midpoint" .nil (.cons (.tup (.cons (.lit (.int 1)) (.cons (.lit (.int 1)) .nil))) (.cons (.tup (.cons (.lit (.int 0)) (.cons (.lit (.int 1)) .nil))) .nil)) ["high", "low"] [.inl 1, .inl 0]) (.tup (.cons (.lit (.int 1)) (.cons (.lit (.int 2)) .nil)))) .nil))
    (.cons (.mth none 9 .append (.cons (.cmp .eq (.call "reveal" .nil (.cons (.var 5) (.cons (.var 2) (.cons (.var 0) .nil))) ["names", "values", "intervals"] [.inl 2, .inl 1, .inl 0]) (.call "reveal" (.cons (.var 0) (.cons (.var 2) (.cons (.var 5) .nil))) .nil [] [.inl 0, .inl 1, .inl 2])) .nil))
    (.cons (.mth none 9 .append (.cons (.cmp .eq (.call "is_certain" .nil (.cons (.var 1) (.cons (.var 0) .nil)) ["query", "intervals"] [.inl 1, .inl 0]) (.call "is_certain" (.cons (.var 0) (.cons (.var 1) .nil)) .nil [] [.inl 0, .inl 1])) .nil))
    (.cons (.mth none 9 .append (.cons (.cmp .eq (.call "answer" .nil (.cons (.var 1) (.cons (.call "reveal" (.cons (.var 0) (.cons (.var 2) (.cons (.var 5) .nil))) .nil [] [.inl 0, .inl 1, .inl 2]) .nil)) ["query", "intervals"] [.inl 1, .inl 0]) (.call "answer" (.cons (.call "reveal" (.cons (.var 0) (.cons (.var 2) (.cons (.var 5) .nil))) .nil [] [.inl 0, .inl 1, .inl 2]) (.cons (.var 1) .nil)) .nil [] [.inl 0, .inl 1])) .nil))
    (.cons (.mth none 9 .append (.cons (.cmp .eq (.call "required_items" .nil (.cons (.var 1) (.cons (.var 0) .nil)) ["query", "intervals"] [.inl 1, .inl 0]) (.call "required_items" (.cons (.var 0) (.cons (.var 1) .nil)) .nil [] [.inl 0, .inl 1])) .nil))
    (.cons (.mth none 9 .append (.cons (.cmp .eq (.call "witness_pairs" .nil (.cons (.var 1) (.cons (.var 0) .nil)) ["query", "intervals"] [.inl 1, .inl 0]) (.call "witness_pairs" (.cons (.var 0) (.cons (.var 1) .nil)) .nil [] [.inl 0, .inl 1])) .nil))
    (.cons (.mth none 9 .append (.cons (.cmp .eq (.idx (.call "resolve" .nil (.cons (.var 3) (.cons (.var 2) (.cons (.var 4) (.cons (.var 0) .nil)))) ["prices", "values", "queries", "intervals"] [.inl 3, .inl 2, .inl 1, .inl 0]) (.lit (.int 1))) (.var 7)) .nil))
    (.cons (.mth none 9 .append (.cons (.cmp .eq (.call "all_certain" .nil (.cons (.var 4) (.cons (.var 0) .nil)) ["queries", "intervals"] [.inl 1, .inl 0]) (.call "is_certain" (.cons (.var 0) (.cons (.var 1) .nil)) .nil [] [.inl 0, .inl 1])) .nil))
    (.cons (.mth none 9 .append (.cons (.cmp .isN (.call "check_log" .nil (.cons (.var 3) (.cons (.var 7) (.cons (.var 4) (.cons (.var 0) .nil)))) ["prices", "log", "queries", "intervals"] [.inl 3, .inl 2, .inl 1, .inl 0]) (.lit .non)) .nil))
    (.cons (.mth none 9 .append (.cons (.cmp .eq (.call "log_totals" .nil (.cons (.var 3) (.cons (.var 7) .nil)) ["prices", "log"] [.inl 1, .inl 0]) (.call "log_totals" (.cons (.var 7) .nil) (.cons (.var 3) .nil) ["prices"] [.inl 0, .inl 1])) .nil))
    (.cons (.mth none 9 .append (.cons (.cmp .eq (.idx (.call "cheapest" .nil (.cons (.var 3) (.cons (.var 2) (.cons (.var 1) (.cons (.var 0) .nil)))) ["prices", "values", "query", "intervals"] [.inl 3, .inl 2, .inl 1, .inl 0]) (.lit (.int 2))) (.var 8)) .nil))
    (.cons (.set 10 (.call "proven_bound" .nil (.cons (.var 3) (.cons (.var 8) (.cons (.var 2) (.cons (.var 1) (.cons (.var 0) .nil))))) ["prices", "certificate", "values", "query", "intervals"] [.inl 4, .inl 3, .inl 2, .inl 1, .inl 0]))
    (.cons (.mth none 9 .append (.cons (.cmp .eq (.var 10) (.idx (.call "cheapest" (.cons (.var 0) (.cons (.var 1) (.cons (.var 2) .nil))) (.cons (.var 3) .nil) ["prices"] [.inl 0, .inl 1, .inl 2, .inl 3]) (.lit (.int 0)))) .nil))
    (.cons (.mth none 9 .append (.cons (.cmp .isN (.call "is_sufficient" .nil (.cons (.var 5) (.cons (.var 2) (.cons (.var 4) (.cons (.var 0) .nil)))) ["names", "values", "queries", "intervals"] [.inl 3, .inl 2, .inl 1, .inl 0]) (.lit (.bl true))) .nil))
    (.cons (.mth none 9 .append (.cons (.cmp .eq (.idx (.call "cheapest_subset" .nil (.cons (.var 3) (.cons (.var 2) (.cons (.var 4) (.cons (.var 0) .nil)))) ["prices", "values", "queries", "intervals"] [.inl 3, .inl 2, .inl 1, .inl 0]) (.lit (.int 0))) (.var 10)) .nil))
    (.cons (.mth none 9 .append (.cons (.cmp .eq (.cmp .isN (.call "conflicting_scenarios" .nil (.cons (.var 1) (.cons (.var 0) .nil)) ["query", "intervals"] [.inl 1, .inl 0]) (.lit .non)) (.call "is_certain" (.cons (.var 0) (.cons (.var 1) .nil)) .nil [] [.inl 0, .inl 1])) .nil))
    (.cons (.ret (.var 9))
    .nil))))))))))))))))))))))⟩
def f__law_defect : Fn := ⟨2, 10, (.cons (.set 2 (.call "_law_draw" (.cons (.var 0) (.cons (.bi .len (.cons (.var 1) .nil)) .nil)) .nil [] [.inl 0, .inl 1]))
    (.cons (.unp [3, 4, 5] (.idx (.var 1) (.var 2)))
    (.cons (.set 6 (.bi .list (.cons (.var 1) .nil)))
    (.cons (.set 7 (.call "_law_draw" (.cons (.var 0) (.cons (.lit (.int 5)) .nil)) .nil [] [.inl 0, .inl 1]))
    (.cons (.ifs (.cmp .eq (.var 7) (.lit (.int 0))) (.cons (.sub 6 (.var 2) (.tup (.cons (.call "_law_choice" (.cons (.var 0) (.cons (.lst (.cons (.lit (.str "")) (.cons (.lit (.str "A")) (.cons (.lit (.str "a1")) (.cons (.lit (.str "abcdefg")) .nil))))) .nil)) .nil [] [.inl 0, .inl 1]) (.cons (.var 4) (.cons (.var 5) .nil)))))
    .nil) (.cons (.ifs (.cmp .eq (.var 7) (.lit (.int 1))) (.cons (.mth none 6 .insert (.cons (.var 2) (.cons (.idx (.var 6) (.var 2)) .nil)))
    .nil) (.cons (.ifs (.cmp .eq (.var 7) (.lit (.int 2))) (.cons (.sub 6 (.var 2) (.tup (.cons (.var 3) (.cons (.tup (.cons (.bin .add (.idx (.var 5) (.lit (.int 0))) (.idx (.var 5) (.lit (.int 1)))) (.cons (.idx (.var 5) (.lit (.int 1))) .nil))) (.cons (.var 5) .nil)))))
    .nil) (.cons (.ifs (.cmp .eq (.var 7) (.lit (.int 3))) (.cons (.set 6 (.lc [8] false (.ex (.lit (.str "abcdefghijklmnopqrstuvwxy"))) .nil (.tup (.cons (.var 8) (.cons (.var 4) (.cons (.var 5) .nil))))))
    .nil) (.cons (.set 9 (.call "_law_choice" (.cons (.var 0) (.cons (.lst (.cons (.tup (.cons (.lit (.int 2)) (.cons (.lit (.int 4)) .nil))) (.cons (.tup (.cons (.lit (.int 1)) (.cons (.lit (.int 0)) .nil))) (.cons (.tup (.cons (.lit (.int 1)) (.cons (.neg (.lit (.int 1))) .nil))) .nil)))) .nil)) .nil [] [.inl 0, .inl 1]))
    (.cons (.sub 6 (.var 2) (.call "_law_choice" (.cons (.var 0) (.cons (.lst (.cons (.tup (.cons (.var 3) (.cons (.var 9) (.cons (.var 5) .nil)))) (.cons (.tup (.cons (.var 3) (.cons (.var 4) (.cons (.var 9) .nil)))) .nil))) .nil)) .nil [] [.inl 0, .inl 1]))
    .nil)))
    .nil))
    .nil))
    .nil))
    (.cons (.ret (.tup (.cons (.var 6) (.cons (.ite (.cmp .eq (.var 7) (.lit (.int 4))) (.lit (.str "fraction")) (.lit (.str "intervals"))) .nil))))
    .nil))))))⟩
def f__law_bad_query : Fn := ⟨2, 3, (.cons (.set 2 (.lst (.cons (.tup .nil) (.cons (.tup (.cons (.lit (.str "order")) (.cons (.var 1) .nil))) (.cons (.tup (.cons (.lit (.str "sort")) (.cons (.tup .nil) .nil))) (.cons (.tup (.cons (.lit (.str "min")) (.cons (.bin .add (.var 1) (.slc (.var 1) .nil (.cons (.lit (.int 1)) .nil))) .nil))) (.cons (.tup (.cons (.lit (.str "max")) (.cons (.tup (.cons (.lit (.str "zzz")) .nil)) .nil))) (.cons (.tup (.cons (.lit (.str "sort")) .nil)) .nil))))))))
    (.cons (.set 2 (.bin .add (.var 2) (.lst (.cons (.tup (.cons (.lit (.str "above")) (.cons (.var 1) .nil))) (.cons (.tup (.cons (.lit (.str "compare")) (.cons (.idx (.var 1) (.lit (.int 0))) (.cons (.idx (.var 1) (.lit (.int 0))) .nil)))) (.cons (.tup (.cons (.lit (.str "compare")) (.cons (.idx (.var 1) (.lit (.int 0))) (.cons (.lit (.str "zzz")) .nil)))) .nil))))))
    (.cons (.mth none 2 .append (.cons (.tup (.cons (.lit (.str "above")) (.cons (.bin .add (.var 1) (.slc (.var 1) .nil (.cons (.lit (.int 1)) .nil))) (.cons (.tup (.cons (.lit (.int 2)) (.cons (.lit (.int 4)) .nil))) .nil)))) .nil))
    (.cons (.ret (.call "_law_choice" (.cons (.var 0) (.cons (.var 2) .nil)) .nil [] [.inl 0, .inl 1]))
    .nil))))⟩
def f__law_reduced_values_L1 : Sms := (.cons (.set 5 (.call "_law_draw" (.cons (.var 0) (.cons (.lit (.int 3)) .nil)) .nil [] [.inl 0, .inl 1]))
    (.cons (.ifs (.cmp .isin (.var 4) (.var 2)) (.cons (.sub 3 (.var 4) (.idx (.var 1) (.var 4)))
    .nil) (.cons (.ifs (.cmp .gt (.var 5) (.lit (.int 0))) (.cons (.sub 3 (.var 4) (.idx (.lst (.cons (.tup (.cons (.lit (.int 2)) (.cons (.lit (.int 4)) .nil))) (.cons (.tup (.cons (.bin .pow (.lit (.int 10)) (.lit (.int 9))) (.cons (.lit (.int 1)) .nil))) .nil))) (.bin .sub (.var 5) (.lit (.int 1)))))
    .nil) .nil)
    .nil))
    .nil))
def f__law_reduced_values : Fn := ⟨3, 6, (.cons (.set 3 .dct0)
    (.cons (.fors [4] false (.ex (.bi .sorted (.cons (.var 1) .nil))) f__law_reduced_values_L1)
    (.cons (.sub 3 (.lit (.str "zz")) (.tup (.cons (.lit (.int 2)) (.cons (.lit (.int 4)) .nil))))
    (.cons (.ret (.var 3))
    .nil))))⟩
def f__law_log_right : Fn := ⟨4, 11, (.cons (.unp [4, 5] (.call "resolve" (.cons (.var 0) (.cons (.lst (.cons (.var 1) .nil)) (.cons (.var 2) .nil))) (.cons (.var 3) .nil) ["prices"] [.inl 0, .inl 1, .inl 2, .inl 3]))
    (.cons (.ifs (.cmp .notN (.call "check_log" (.cons (.var 0) (.cons (.lst (.cons (.var 1) .nil)) (.cons (.var 5) .nil))) (.cons (.var 3) .nil) ["prices"] [.inl 0, .inl 1, .inl 2, .inl 3]) (.lit .non)) (.cons (.ret (.lit (.bl false)))
    .nil) .nil)
    (.cons (.ifs (.bor (.cons (.cmp .notN (.call "all_certain" (.cons (.var 4) (.cons (.lst (.cons (.var 1) .nil)) .nil)) .nil [] [.inl 0, .inl 1]) (.lit (.bl true))) (.cons (.nt (.call "_law_correct" (.cons (.var 2) (.cons (.var 1) (.cons (.call "answer" (.cons (.var 4) (.cons (.var 1) .nil)) .nil [] [.inl 0, .inl 1]) .nil))) .nil [] [.inl 0, .inl 1, .inl 2])) .nil))) (.cons (.ret (.lit (.bl false)))
    .nil) .nil)
    (.cons (.unp [6, 7] (.call "log_totals" (.cons (.var 5) .nil) (.cons (.var 3) .nil) ["prices"] [.inl 0, .inl 1]))
    (.cons (.unp [8, 9, 10] (.call "cheapest" (.cons (.var 0) (.cons (.var 1) (.cons (.var 2) .nil))) (.cons (.var 3) .nil) ["prices"] [.inl 0, .inl 1, .inl 2, .inl 3]))
    (.cons (.ifs (.nt (.call "_law_same" (.cons (.call "proven_bound" (.cons (.var 0) (.cons (.var 1) (.cons (.var 2) (.cons (.var 10) .nil)))) (.cons (.var 3) .nil) ["prices"] [.inl 0, .inl 1, .inl 2, .inl 3, .inl 4]) (.cons (.var 8) .nil)) .nil [] [.inl 0, .inl 1])) (.cons (.ret (.lit (.bl false)))
    .nil) .nil)
    (.cons (.ifs (.bor (.cons (.nt (.call "is_sufficient" (.cons (.var 0) (.cons (.lst (.cons (.var 1) .nil)) (.cons (.var 2) (.cons (.var 9) .nil)))) .nil [] [.inl 0, .inl 1, .inl 2, .inl 3])) (.cons (.cmp .ne (.var 8) (.call "_law_total_price" (.cons (.var 3) (.cons (.var 9) .nil)) .nil [] [.inl 0, .inl 1])) .nil))) (.cons (.ret (.lit (.bl false)))
    .nil) .nil)
    (.cons (.ret (.band (.cons (.cmp .le (.var 7) (.var 8)) (.cons (.cmp .le (.var 8) (.var 6)) (.cons (.cmp .le (.var 6) (.bin .mul (.lit (.int 2)) (.var 7))) .nil)))))
    .nil))))))))⟩
end Lib
end DW

/-! DwLib: what a text has; specs of functions that many laws share. -/
namespace DW
open PySem
class Fu (P : Prog) : Prop where
  h : P.fuel = 20000
class Has (P : Prog) (f : Str) (fn : outParam Fn) : Prop where
  prim : P.prim f = none
  tbl : P.tbl f = some fn
class HasX (P : Prog) (c b code : Str) (fld : Option (Str × Lit)) : Prop where
  fl : P.xf.flds c = xdFs ⟨c, b, code, fld⟩
  sub : P.xf.sub c = fun d => some (decide (c = d) || decide (b = d))
class HasO (P : Prog) (f : Str) (o : outParam OutS) : Prop where
  h : P.outs f = some o
theorem call_fn {P : Prog} {f : Str} {fn : Fn} [h : Has P f fn] [u : Fu P] (n : Nat) (ds : List D) (S : Src) : (callN P (n + 1)).call f ds S = runFn (callN P n) P.xf 20000 fn ds S := by
  show (match P.prim f with
    | some p => p ds S
    | none => (match P.tbl f with
      | some fn => runFn (callN P n) P.xf P.fuel fn ds S
      | none => .stuck)) = _
  rw [h.prim, h.tbl, u.h]
theorem call_out {P : Prog} {f : Str} {o : OutS} [h : HasO P f o] (n : Nat) (c : Src → R (Bool × D)) (S : Src) : (callN P n).out f c S = outRun P.xf o c S := by
  cases n <;> (show outF P f c S = _; unfold outF; rw [h.h])
end DW

/-! DwL1: names, fractions, tables as data; rules for comprehensions and loops. -/
namespace DW
open PySem
/-! ### names -/
def nameOk (s : Str) : Bool := decide (1 ≤ s.cps.size) && (decide (s.cps.size ≤ 6) && s.cps.all fun c => decide (97 ≤ c) && decide (c ≤ 122))
structure Nm where
  s : Str
  ok : nameOk s = true
theorem Nm.ext' {a b : Nm} (h : a.s = b.s) : a = b := by cases a; cases b; cases h; rfl
instance : DecidableEq Nm := fun a b => if h : a.s = b.s then .isTrue (Nm.ext' h) else .isFalse fun e => h (by rw [e])
theorem Nm.inj {a b : Nm} : a.s = b.s ↔ a = b := ⟨Nm.ext', fun e => by rw [e]⟩
def Nm.le (a b : Nm) : Bool := leS a.s b.s
def Nm.lt (a b : Nm) : Bool := decide (a.s.cps.toList < b.s.cps.toList)
theorem Nm.shp (n : Nm) (k : Nat) : shp k (.str n.s) = true := by
  have h := n.ok
  unfold nameOk at h
  simp only [Bool.and_eq_true] at h
  have h2 := h.2.2
  have : n.s.cps.all (fun c => decide (c < 0x110000)) = true := by
    rw [Array.all_eq_true] at h2 ⊢
    intro i hi
    have := h2 i hi
    simp only [Bool.and_eq_true, decide_eq_true_eq] at this ⊢
    omega
  cases k <;> exact this
@[irreducible] def dN (n : Nm) : D := .str n.s
theorem dN_str (n : Nm) : dN n = .str n.s := by unfold dN; rfl
/-! ### fractions -/
structure Fr where
  n : Int
  d : Int
  pos : 1 ≤ d
  red : n.gcd d = 1
  s1 : big n = true
  s2 : big d = true
theorem Fr.ext' {a b : Fr} (h : a.n = b.n) (h2 : a.d = b.d) : a = b := by cases a; cases b; cases h; cases h2; rfl
instance : DecidableEq Fr := fun a b => if h : a.n = b.n ∧ a.d = b.d then .isTrue (Fr.ext' h.1 h.2) else .isFalse fun e => h (by rw [e]; exact ⟨rfl, rfl⟩)
@[irreducible] def dF (a : Fr) : D := .tup [.int a.n, .int a.d]
theorem dF_tup (a : Fr) : dF a = .tup [.int a.n, .int a.d] := by unfold dF; rfl
def ltF (a b : Fr) : Bool := decide (a.n * b.d < b.n * a.d)
def leF (a b : Fr) : Bool := decide (a.n * b.d ≤ b.n * a.d)
def ngF (a : Fr) : Fr := ⟨-a.n, a.d, a.pos, by rw [Int.neg_gcd]; exact a.red, by unfold big; rw [Int.natAbs_neg]; exact a.s1, a.s2⟩
abbrev Bd := Fr × Fr
@[irreducible] def dB (b : Bd) : D := .tup [dF b.1, dF b.2]
theorem dB_tup (a : Bd) : dB a = .tup [dF a.1, dF a.2] := by unfold dB; rfl
/-! ### tables, rows, lists of names -/
@[irreducible] def dM (ks : List Nm) (v : Nm → D) : D := .dct (ks.map fun n => (n.s, v n))
theorem dM_dct (ks : List Nm) (v : Nm → D) : dM ks v = .dct (ks.map fun n => (n.s, v n)) := by unfold dM; rfl
abbrev dT (ks : List Nm) (b : Nm → Bd) : D := dM ks fun n => dB (b n)
def dR (b : Nm → Bd) (n : Nm) : D := .tup [dN n, dF (b n).1, dF (b n).2]
abbrev dNs (l : List Nm) : D := .lst (l.map dN)
abbrev dNt (l : List Nm) : D := .tup (l.map dN)
/-! ### what the operators say of them -/
theorem atI0 (x : D) (l : List D) : opI.atI (x :: l) 0 = some x := by
  unfold opI.atI L2.ixN
  rw [if_pos (by decide), if_pos (by simp only [List.length_cons]; omega)]
  rfl
theorem atI1 (x y : D) (l : List D) : opI.atI (x :: y :: l) 1 = some y := by
  unfold opI.atI L2.ixN
  rw [if_pos (by decide), if_pos (by simp only [List.length_cons]; omega)]
  rfl
theorem atI2 (x y z : D) (l : List D) : opI.atI (x :: y :: z :: l) 2 = some z := by
  unfold opI.atI L2.ixN
  rw [if_pos (by decide), if_pos (by simp only [List.length_cons]; omega)]
  rfl
section
variable {S : Src}
theorem opX_t0 (x : D) (l : List D) : opX S (.tup (x :: l)) (.int 0) = some x := atI0 ..
theorem opX_t1 (x y : D) (l : List D) : opX S (.tup (x :: y :: l)) (.int 1) = some y := atI1 ..
theorem opX_t2 (x y z : D) (l : List D) : opX S (.tup (x :: y :: z :: l)) (.int 2) = some z := atI2 ..
theorem opX_l0 (x : D) (l : List D) : opX S (.lst (x :: l)) (.int 0) = some x := atI0 ..
theorem opX_l1 (x y : D) (l : List D) : opX S (.lst (x :: y :: l)) (.int 1) = some y := atI1 ..
theorem opX_F0 (a : Fr) : opX S (dF a) (.int 0) = some (.int a.n) := by rw [dF_tup, opX_t0]
theorem opX_F1 (a : Fr) : opX S (dF a) (.int 1) = some (.int a.d) := by rw [dF_tup, opX_t1]
theorem opX_B0 (a : Bd) : opX S (dB a) (.int 0) = some (dF a.1) := by rw [dB_tup, opX_t0]
theorem opX_B1 (a : Bd) : opX S (dB a) (.int 1) = some (dF a.2) := by rw [dB_tup, opX_t1]
theorem getK_map (ks : List Nm) (v : Nm → D) {n : Nm} (h : n ∈ ks) : getK (ks.map fun n => (n.s, v n)) n.s = some (v n) := by
  unfold getK
  induction ks with
  | nil => cases h
  | cons k ks ih =>
    rw [List.map_cons, List.find?_cons]
    by_cases e : k.s = n.s
    · rw [decide_eq_true e, Nm.ext' e]; rfl
    · rw [decide_eq_false e]
      rcases List.mem_cons.mp h with rfl | h
      · exact absurd rfl e
      · exact ih h
theorem opX_M {ks : List Nm} {v : Nm → D} {n : Nm} (h : n ∈ ks) : opX S (dM ks v) (dN n) = some (v n) := by
  rw [dM_dct, dN_str]; exact getK_map ks v h
theorem hasK_map (ks : List Nm) (v : Nm → D) (n : Nm) : hasK (ks.map fun n => (n.s, v n)) n.s = decide (n ∈ ks) := by
  unfold hasK
  rw [List.any_map]
  rw [Bool.eq_iff_iff, List.any_eq_true, decide_eq_true_eq]
  constructor
  · rintro ⟨x, hx, e⟩
    have e : x.s = n.s := of_decide_eq_true e
    rw [← Nm.ext' e]; exact hx
  · exact fun h => ⟨n, h, decide_eq_true rfl⟩
theorem oc_in (ks : List Nm) (v : Nm → D) (n : Nm) : opC .isin (dN n) (dM ks v) = some (decide (n ∈ ks)) := by
  rw [dM_dct, dN_str]
  show some (hasK _ _) = _
  rw [hasK_map]
theorem oc_ni (ks : List Nm) (v : Nm → D) (n : Nm) : opC .notin (dN n) (dM ks v) = some (!decide (n ∈ ks)) := by
  rw [dM_dct, dN_str]
  show some (!hasK _ _) = _
  rw [hasK_map]
theorem flatN (n : Nm) : (dN n).flat = true := by rw [dN_str]; rfl
theorem allflatN (l : List Nm) : (l.map dN).all D.flat = true := by
  rw [List.all_map, List.all_eq_true]; exact fun n _ => flatN n
theorem eqN (a b : Nm) : eqD (dN a) (dN b) = decide (a = b) := by
  rw [dN_str, dN_str]
  show (a.s == b.s) = _
  by_cases h : a = b
  · rw [h]; simp
  · rw [decide_eq_false h]
    exact beq_false_of_ne fun e => h (Nm.ext' e)
theorem inD_N (l : List Nm) (n : Nm) : inD (dN n) (l.map dN) = decide (n ∈ l) := by
  unfold inD
  rw [List.any_map, Bool.eq_iff_iff, List.any_eq_true, decide_eq_true_eq]
  constructor
  · rintro ⟨x, hx, e⟩
    have e : eqD (dN x) (dN n) = true := e
    rw [eqN] at e
    rw [← of_decide_eq_true e]; exact hx
  · exact fun h => ⟨n, h, by show eqD (dN n) (dN n) = true; rw [eqN]; exact decide_eq_true rfl⟩
theorem oc_inL (l : List Nm) (n : Nm) : opC .isin (dN n) (.lst (l.map dN)) = some (decide (n ∈ l)) := by
  simp only [opC, flatN, allflatN, inD_N, Bool.and_self, if_true]
theorem oc_niL (l : List Nm) (n : Nm) : opC .notin (dN n) (.lst (l.map dN)) = some (!decide (n ∈ l)) := by
  simp only [opC, flatN, allflatN, inD_N, Bool.and_self, if_true]
theorem shpN (n : Nm) (k : Nat) : shp k (dN n) = true := by rw [dN_str]; exact n.shp k
theorem shpF (a : Fr) (k : Nat) : shp (k + 1) (dF a) = true := by rw [dF_tup]; cases k <;> rfl
theorem shpB (a : Bd) (k : Nat) : shp (k + 2) (dB a) = true := by rw [dB_tup]; simp [shp, shpL, shpF]
theorem shpL_map {α : Type} {f : α → D} {k : Nat} : ∀ {l : List α}, (∀ x ∈ l, shp k (f x) = true) → shpL k (l.map f) = true
  | [], _ => by simp [shpL]
  | x :: l, h => by rw [List.map_cons, shpL, h x (List.mem_cons_self ..), shpL_map fun y hy => h y (List.mem_cons_of_mem _ hy)]; rfl
theorem eqF (a b : Fr) : eqD (dF a) (dF b) = decide (a = b) := by
  rw [dF_tup, dF_tup]
  simp only [eqD, eqDs, Bool.and_true]
  by_cases h : a = b
  · rw [h]; simp
  · rw [decide_eq_false h, Bool.and_eq_false_iff]
    by_cases h1 : a.n = b.n
    · right; exact beq_false_of_ne fun e => h (Fr.ext' h1 e)
    · left; exact beq_false_of_ne h1
theorem eqB (a b : Bd) : eqD (dB a) (dB b) = decide (a = b) := by
  rw [dB_tup, dB_tup]
  simp only [eqD, eqDs, Bool.and_true, eqF]
  obtain ⟨a1, a2⟩ := a
  obtain ⟨b1, b2⟩ := b
  simp
theorem oc_eq {a b : D} (h1 : shp 60 a = true) (h2 : shp 60 b = true) : opC .eq a b = some (eqD a b) := by
  cases a <;> cases b <;> simp [opC, h1, h2]
theorem oc_ne {a b : D} (h1 : shp 60 a = true) (h2 : shp 60 b = true) : opC .ne a b = some (!eqD a b) := by
  cases a <;> cases b <;> simp [opC, h1, h2]
theorem oc_eqF (a b : Fr) : opC .eq (dF a) (dF b) = some (decide (a = b)) := by rw [oc_eq (shpF a _) (shpF b _), eqF]
theorem oc_neF (a b : Fr) : opC .ne (dF a) (dF b) = some (!decide (a = b)) := by rw [oc_ne (shpF a _) (shpF b _), eqF]
theorem oc_eqB (a b : Bd) : opC .eq (dB a) (dB b) = some (decide (a = b)) := by rw [oc_eq (shpB a _) (shpB b _), eqB]
theorem oc_eqN (a b : Nm) : opC .eq (dN a) (dN b) = some (decide (a = b)) := by rw [oc_eq (shpN a _) (shpN b _), eqN]
theorem oc_neN (a b : Nm) : opC .ne (dN a) (dN b) = some (!decide (a = b)) := by rw [oc_ne (shpN a _) (shpN b _), eqN]
theorem oc_eqI (a b : Int) : opC .eq (.int a) (.int b) = some (decide (a = b)) := by
  rw [oc_eq rfl rfl]; rfl
theorem oc_neI (a b : Int) : opC .ne (.int a) (.int b) = some (!decide (a = b)) := by
  rw [oc_ne rfl rfl]; rfl
theorem oc_ltI (a b : Int) : opC .lt (.int a) (.int b) = some (decide (a < b)) := rfl
theorem oc_leI (a b : Int) : opC .le (.int a) (.int b) = some (decide (a ≤ b)) := rfl
theorem oc_gtI (a b : Int) : opC .gt (.int a) (.int b) = some (decide (b < a)) := rfl
theorem oc_geI (a b : Int) : opC .ge (.int a) (.int b) = some (decide (b ≤ a)) := rfl
theorem oc_leN (a b : Nm) : opC .le (dN a) (dN b) = some (a.le b) := by rw [dN_str, dN_str]; rfl
theorem oc_ltN (a b : Nm) : opC .lt (dN a) (dN b) = some (a.lt b) := by rw [dN_str, dN_str]; rfl
theorem oc_nil (l : List Nm) : opC .eq (.lst (l.map dN)) (.lst []) = some l.isEmpty := by
  rw [oc_eq (by rw [shp]; exact shpL_map fun x _ => shpN x _) rfl]
  cases l <;> rfl
theorem oc_nnil (l : List Nm) : opC .ne (.lst (l.map dN)) (.lst []) = some (!l.isEmpty) := by
  rw [oc_ne (by rw [shp]; exact shpL_map fun x _ => shpN x _) rfl]
  cases l <;> rfl
/-! nothing that can be written stands in them -/
theorem immN (n : Nm) : (dN n).imm = true := by rw [dN_str]; rfl
theorem immF (a : Fr) : (dF a).imm = true := by rw [dF_tup]; rfl
theorem immB (a : Bd) : (dB a).imm = true := by rw [dB_tup]; simp [D.imm, immL, immF]
theorem immL_map {α : Type} {f : α → D} : ∀ {l : List α}, (∀ x ∈ l, (f x).imm = true) → immL (l.map f) = true
  | [], _ => rfl
  | x :: l, h => by rw [List.map_cons, immL, h x (List.mem_cons_self ..), immL_map fun y hy => h y (List.mem_cons_of_mem _ hy)]; rfl
theorem immNs (l : List Nm) : immL (l.map dN) = true := immL_map fun x _ => immN x
theorem immR (b : Nm → Bd) (n : Nm) : (dR b n).imm = true := by unfold dR; simp [D.imm, immL, immF, immN]
theorem immRs (b : Nm → Bd) (l : List Nm) : immL (l.map (dR b)) = true := immL_map fun x _ => immR b x
theorem immTM {ks : List Nm} {v : Nm → D} (h : ∀ x ∈ ks, (v x).imm = true) : (dM ks v).immT = true := by
  rw [dM_dct]
  show immL ((ks.map fun n => (n.s, v n)).map (·.2)) = true
  rw [List.map_map]
  exact immL_map h
/-! ### sorted -/
def Asc (l : List Nm) : Prop := l.Pairwise fun a b => a.lt b = true
def srt (l : List Nm) : List Nm := l.mergeSort Nm.le
theorem lt_le {a b : Nm} (h : a.lt b = true) : a.le b = true := by
  unfold Nm.le leS
  have h := of_decide_eq_true h
  rw [decide_eq_false (List.lt_asymm h)]; rfl
theorem srt_perm (l : List Nm) : (srt l).Perm l := List.mergeSort_perm l _
theorem srt_pw (l : List Nm) : (srt l).Pairwise (fun a b => a.le b = true) := List.pairwise_mergeSort (fun a b c => leS_trans a.s b.s c.s) (fun a b => leS_total a.s b.s) l
theorem le_anti {a b : Nm} (h1 : a.le b = true) (h2 : b.le a = true) : a = b := Nm.ext' (leS_anti h1 h2)
theorem srt_uniq {l m : List Nm} (hp : m.Perm l) (hs : m.Pairwise (fun a b => a.le b = true)) : srt l = m :=
  List.Perm.eq_of_pairwise (fun a b _ _ h1 h2 => le_anti h1 h2) (srt_pw l) hs ((srt_perm l).trans hp.symm)
theorem srt_asc {l : List Nm} (h : Asc l) : srt l = l := srt_uniq (List.Perm.refl l) (h.imp fun h => lt_le h)
theorem lt_of_le_ne {a b : Nm} (h : a.le b = true) (ne : a ≠ b) : a.lt b = true := by
  unfold Nm.lt
  unfold Nm.le leS at h
  simp only [Bool.not_eq_true', decide_eq_false_iff_not] at h
  apply decide_eq_true
  rcases Classical.em (a.s.cps.toList < b.s.cps.toList) with q | q
  · exact q
  · exact absurd (le_anti (by unfold Nm.le leS; rw [decide_eq_false h]; rfl) (by unfold Nm.le leS; rw [decide_eq_false q]; rfl)) ne
theorem asc_srt {l : List Nm} (h : l.Nodup) : Asc (srt l) := by
  have nd : (srt l).Nodup := (srt_perm l).nodup_iff.mpr h
  exact (srt_pw l).imp₂ (fun a b h1 h2 => lt_of_le_ne h1 h2) nd
theorem srt_map (l : List Nm) : sortS (l.map Nm.s) = (srt l).map Nm.s := by
  refine List.Perm.eq_of_pairwise (fun a b _ _ h1 h2 => leS_anti h1 h2) (sortS_pw _) ?_ ((sortS_perm _).trans ((srt_perm l).symm.map _))
  exact List.pairwise_map.mpr (srt_pw l)
theorem strsD_N : ∀ l : List Nm, strsD (l.map dN) = some (l.map Nm.s)
  | [] => rfl
  | n :: l => by rw [List.map_cons, dN_str, strsD, strsD_N l]; rfl
theorem of_sortL {l : List Nm} (h : l.length < 64) : opF .sorted [.lst (l.map dN)] = some (true, .lst ((srt l).map dN)) := by
  show opSrt _ = _
  unfold opSrt
  rw [strsD_N]
  simp only [List.length_map, h, if_true]
  rw [srt_map, List.map_map]
  congr 4
  funext n
  exact (dN_str n).symm
theorem of_sortT {l : List Nm} (h : l.length < 64) : opF .sorted [.tup (l.map dN)] = some (true, .lst ((srt l).map dN)) := by
  show ((strsD _).bind _) = _
  rw [strsD_N]
  simp only [Option.bind_some, List.length_map, h, if_true]
  rw [srt_map, List.map_map]
  congr 4
  funext n
  exact (dN_str n).symm
theorem of_sortM {ks : List Nm} {v : Nm → D} (h : ks.length < 64) : opF .sorted [dM ks v] = some (true, .lst ((srt ks).map dN)) := by
  rw [dM_dct]
  show (if (ks.map fun n => (n.s, v n)).length < 64 then some (true, D.lst ((sortS ((ks.map fun n => (n.s, v n)).map (·.1))).map D.str)) else none) = _
  rw [List.length_map, if_pos h, List.map_map, show ((fun x : Str × D => x.1) ∘ fun n : Nm => (n.s, v n)) = Nm.s from rfl, srt_map, List.map_map]
  congr 4
  funext n
  exact (dN_str n).symm
theorem of_lenL (l : List D) : opF .len [.lst l] = some (false, .int l.length) := rfl
theorem of_lenM (ks : List Nm) (v : Nm → D) : opF .len [dM ks v] = some (false, .int ks.length) := by
  rw [dM_dct]
  show some (false, D.int ((ks.map _).length : Nat)) = _
  rw [List.length_map]
theorem boolsD {α : Type} (p : α → Bool) : ∀ l : List α, bools (l.map fun x => D.bl (p x)) = some (l.map p)
  | [] => rfl
  | x :: l => by rw [List.map_cons, bools, boolsD p l]; rfl
theorem of_all {α : Type} (p : α → Bool) (l : List α) : opF .all [.lst (l.map fun x => D.bl (p x))] = some (false, .bl (l.all p)) := by
  show (bools _).map _ = _
  rw [boolsD]
  simp [List.all_map, Function.comp_def]
theorem of_any {α : Type} (p : α → Bool) (l : List α) : opF .any [.lst (l.map fun x => D.bl (p x))] = some (false, .bl (l.any p)) := by
  show (bools _).map _ = _
  rw [boolsD]
  simp [List.any_map, Function.comp_def]
theorem itW_L (l : List D) : itemsW (.lst l) = some l := rfl
theorem itW_T (l : List D) : itemsW (.tup l) = some l := rfl
theorem itW_M (ks : List Nm) (v : Nm → D) : itemsW (dM ks v) = some (ks.map dN) := by
  rw [dM_dct]
  show some ((ks.map fun n => (n.s, v n)).map _) = _
  rw [List.map_map]
  congr 2
  funext n
  exact (dN_str n).symm
end
/-! ### comprehensions -/
section
variable {bd : D → Option Rho} {cc : Rho → Src → R Bool} {ee kk vv : Rho → Src → R (Bool × D)} {S : Src} {α : Type}
theorem lc_ok (g : α → D) (p : α → Bool) (f : α → D) : ∀ xs : List α, (∀ x ∈ xs, ∃ ρ, bd (g x) = some ρ ∧ cc ρ S = .ok (p x) S ∧ (p x = true → ∃ o, ee ρ S = .ok (o, f x) S)) → lcGo bd cc ee (xs.map g) S = .ok ((xs.filter p).map f) S
  | [], _ => rfl
  | x :: xs, h => by
    obtain ⟨ρ, h1, h2, h3⟩ := h x (List.mem_cons_self ..)
    have ih := lc_ok g p f xs fun y hy => h y (List.mem_cons_of_mem _ hy)
    rw [List.map_cons, lcGo, h1]
    simp only [h2, R.calm, R.bind]
    cases q : p x with
    | false => simp [ih, q]
    | true =>
      obtain ⟨o, h3⟩ := h3 q
      simp [h3, ih, q, R.calm, R.bind]
theorem lc_map (g : α → D) (f : α → D) (xs : List α) (h : ∀ x ∈ xs, ∃ ρ o, bd (g x) = some ρ ∧ cc ρ S = .ok true S ∧ ee ρ S = .ok (o, f x) S) : lcGo bd cc ee (xs.map g) S = .ok (xs.map f) S := by
  rw [lc_ok g (fun _ => true) f xs fun x hx => by
    obtain ⟨ρ, o, h1, h2, h3⟩ := h x hx
    exact ⟨ρ, h1, h2, fun _ => ⟨o, h3⟩⟩]
  rw [List.filter_eq_self.mpr fun _ _ => rfl]
theorem putK_new {l : List (Str × D)} {k : Str} {d : D} (h : hasK l k = false) : putK l k d = l ++ [(k, d)] := by
  unfold putK
  rw [if_neg (by rw [h]; simp)]
theorem dc_map (g : α → D) (k : α → Str) (f : α → D) : ∀ (xs : List α) (acc : List (Str × D)), (xs.map k).Nodup → (∀ x ∈ xs, hasK acc (k x) = false) → (∀ x ∈ xs, ∃ ρ o o', bd (g x) = some ρ ∧ cc ρ S = .ok true S ∧ kk ρ S = .ok (o, .str (k x)) S ∧ vv ρ S = .ok (o', f x) S) → dcGo bd cc kk vv (xs.map g) acc S = .ok (acc ++ xs.map fun x => (k x, f x)) S
  | [], acc, _, _, _ => by simp [dcGo]
  | x :: xs, acc, nd, hk, h => by
    obtain ⟨ρ, o, o', h1, h2, h3, h4⟩ := h x (List.mem_cons_self ..)
    rw [List.map_cons, List.nodup_cons] at nd
    rw [List.map_cons, dcGo, h1]
    simp only [h2, h3, h4, R.calm, R.bind, if_true]
    rw [putK_new (hk x (List.mem_cons_self ..))]
    rw [dc_map g k f xs _ nd.2 (fun y hy => ?_) fun y hy => h y (List.mem_cons_of_mem _ hy)]
    · simp
    · unfold hasK
      rw [List.any_append, Bool.or_eq_false_iff]
      refine ⟨hk y (List.mem_cons_of_mem _ hy), ?_⟩
      simp only [List.any_cons, List.any_nil, Bool.or_false, decide_eq_false_iff_not]
      exact fun e => nd.1 (by rw [e]; exact List.mem_map_of_mem hy)
/-- a dict over names -/
theorem dc_N (v : Nm → D) {ks : List Nm} (nd : ks.Nodup) (h : ∀ x ∈ ks, ∃ ρ o o', bd (dN x) = some ρ ∧ cc ρ S = .ok true S ∧ kk ρ S = .ok (o, dN x) S ∧ vv ρ S = .ok (o', v x) S) : dcGo bd cc kk vv (ks.map dN) [] S = .ok (ks.map fun n => (n.s, v n)) S := by
  have nd' : (ks.map Nm.s).Nodup := by
    rw [List.nodup_iff_pairwise_ne] at nd ⊢
    exact List.pairwise_map.mpr (nd.imp fun h e => h (Nm.ext' e))
  rw [dc_map dN Nm.s v ks [] nd' (fun _ _ => rfl) fun x hx => by
    obtain ⟨ρ, o, o', h1, h2, h3, h4⟩ := h x hx
    exact ⟨ρ, o, o', h1, h2, by rw [← dN_str]; exact h3, h4⟩]
  rfl
end
theorem enumD_map {α : Type} (f : α → D) : ∀ (l : List α) (k : Nat), enumD (k : Int) (l.map f) = (l.zipIdx k).map fun p => .tup [.int (p.2 : Nat), f p.1]
  | [], k => rfl
  | x :: l, k => by
    rw [List.map_cons, enumD, List.zipIdx_cons, List.map_cons, ← enumD_map f l (k + 1)]
    rfl
theorem cut_from {α : Type} (f : α → D) (l : List α) (k : Nat) : cutD (l.map f) (some (k : Int)) none = (l.drop k).map f := by
  unfold cutD
  rw [HT.sIx_nat, HT.sIx_none, List.length_map]
  by_cases h : k ≤ l.length
  · rw [Nat.min_eq_left h, ← List.map_drop, List.take_of_length_le (by rw [List.length_map, List.length_drop]; exact Nat.le_refl _)]
  · rw [Nat.min_eq_right (by omega), List.drop_of_length_le (by rw [List.length_map]; exact Nat.le_refl _), List.drop_of_length_le (by omega)]
    simp
theorem cut_to {α : Type} (f : α → D) (l : List α) (k : Nat) : cutD (l.map f) none (some (k : Int)) = (l.take k).map f := by
  unfold cutD
  rw [HT.sIx_nat, HT.sIx_none, List.length_map]
  rw [List.drop_zero, Nat.sub_zero, ← List.map_take]
  congr 1
  by_cases h : k ≤ l.length
  · rw [Nat.min_eq_left h]
  · rw [Nat.min_eq_right (by omega), List.take_of_length_le (Nat.le_refl _), List.take_of_length_le (by omega)]
section
variable {bd : D → Option Rho} {cc : Rho → Src → R Bool} {ii : Rho → Src → R (List D)} {bd1 : Rho → D → Option Rho} {cc1 : Rho → Src → R Bool} {ee : Rho → Src → R (Bool × D)} {S : Src} {α β : Type}
theorem lc2_ok (g : α → D) (ys : α → List β) (g1 : β → D) (p : α → β → Bool) (f : α → β → D) : ∀ xs : List α, (∀ x ∈ xs, ∃ ρ, bd (g x) = some ρ ∧ cc ρ S = .ok true S ∧ ii ρ S = .ok ((ys x).map g1) S ∧ ∀ y ∈ ys x, ∃ ρ1, bd1 ρ (g1 y) = some ρ1 ∧ cc1 ρ1 S = .ok (p x y) S ∧ (p x y = true → ∃ o, ee ρ1 S = .ok (o, f x y) S)) → lc2Go bd cc ii bd1 cc1 ee (xs.map g) S = .ok (xs.flatMap fun x => ((ys x).filter (p x)).map (f x)) S
  | [], _ => rfl
  | x :: xs, h => by
    obtain ⟨ρ, h1, h2, h3, h4⟩ := h x (List.mem_cons_self ..)
    have ih := lc2_ok g ys g1 p f xs fun y hy => h y (List.mem_cons_of_mem _ hy)
    rw [List.map_cons, lc2Go, h1]
    simp only [h2, h3, R.calm, R.bind, if_true]
    rw [lc_ok g1 (p x) (f x) (ys x) h4]
    simp [ih, R.bind]
end
/-- all pairs, the first ahead of the second -/
def prs {α : Type} : List α → List (α × α)
  | [] => []
  | x :: l => l.map (fun y => (x, y)) ++ prs l
theorem prs_ix {α β : Type} (f : α → α → β) : ∀ (l pre : List α), ((l.zipIdx pre.length).flatMap fun x => ((pre ++ l).drop (x.2 + 1)).map (f x.1)) = (prs l).map fun p => f p.1 p.2
  | [], pre => rfl
  | x :: l, pre => by
    rw [List.zipIdx_cons, List.flatMap_cons]
    have ih := prs_ix f l (pre ++ [x])
    rw [List.length_append, List.length_singleton, List.append_assoc, List.singleton_append] at ih
    rw [ih, prs, List.map_append, List.map_map]
    congr 1
    show List.map (f x) ((pre ++ x :: l).drop (pre.length + 1)) = _
    rw [List.drop_append, List.drop_of_length_le (by omega), List.nil_append]
    rw [show pre.length + 1 - pre.length = 1 by omega]
    rfl
theorem prs_len {α : Type} : ∀ l : List α, (prs l).length ≤ l.length * l.length
  | [] => Nat.le_refl _
  | x :: l => by
    have := prs_len l
    rw [prs, List.length_append, List.length_map, List.length_cons]
    have e : (l.length + 1) * (l.length + 1) = l.length * l.length + l.length + l.length + 1 := by rw [Nat.add_mul, Nat.mul_add]; omega
    omega
/-! ### defs that say return -/
theorem seen_all (m : Nat → Bool) : ∀ (i : Nat) (ds : List D) (k : Nat), seen m i (ds.map (fun d => some (false, d)) ++ List.replicate k none) = ds.map some ++ List.replicate k none
  | i, [], 0 => rfl
  | i, [], k + 1 => by
    have := seen_all m (i + 1) [] k
    simp only [List.map_nil, List.nil_append] at this ⊢
    rw [List.replicate_succ, seen, this]
    rfl
  | i, d :: ds, k => by
    simp only [List.map_cons, List.cons_append, seen, Bool.false_and, Bool.false_eq_true, if_false]
    rw [seen_all m (i + 1) ds k]
theorem run_ret {F : FT} {XF : XT} {g np ns : Nat} {e : Ex} {ds : List D} {S : Src} (h : ds.length = np) (hv : isVar e = none) : runFn F XF g ⟨np, ns, .cons (.ret e) .nil⟩ ds S = ev F e (ds.map some ++ List.replicate (ns - ds.length) none) S := by
  unfold runFn
  rw [if_pos h]
  simp only [exs, ex, hv, evM, startM]
  rw [seen_all]
  cases ev F e (ds.map some ++ List.replicate (ns - ds.length) none) S <;> rfl
/-! ### loops -/
theorem for_ok {α : Type} {bd : D → Mem → Option Mem} {body : Mem → Src → SR} (g : α → D) (I : List α → List α → Mem → Src → Prop) (step : ∀ pre x rest μ S, I pre (x :: rest) μ S → ∃ μ1, bd (g x) μ = some μ1 ∧ ∃ μ2 S2, body μ1 S = .nxt μ2 S2 ∧ I (pre ++ [x]) rest μ2 S2) : ∀ (xs pre : List α) (μ : Mem) (S : Src), I pre xs μ S → ∃ μ' S', forGo bd body (xs.map g) μ S = .nxt μ' S' ∧ I (pre ++ xs) [] μ' S'
  | [], pre, μ, S, h => ⟨μ, S, rfl, by rw [List.append_nil]; exact h⟩
  | x :: xs, pre, μ, S, h => by
    obtain ⟨μ1, e1, μ2, S2, e2, h2⟩ := step pre x xs μ S h
    obtain ⟨μ3, S3, e3, h3⟩ := for_ok g I step xs (pre ++ [x]) μ2 S2 h2
    refine ⟨μ3, S3, ?_, by rw [show pre ++ x :: xs = pre ++ [x] ++ xs by simp]; exact h3⟩
    rw [List.map_cons, forGo, e1]
    simp only [e2]
    exact e3
/-- a loop that may return: the first item that p says of -/
theorem for_find {α : Type} {bd : D → Mem → Option Mem} {body : Mem → Src → SR} {S : Src} (g : α → D) (p : α → Bool) (r : α → Bool × D) (J : Mem → Prop) : ∀ (xs : List α), (∀ x ∈ xs, ∀ μ, J μ → ∃ μ1, bd (g x) μ = some μ1 ∧ (p x = true → body μ1 S = .ret (r x) S) ∧ (p x = false → ∃ μ2, body μ1 S = .nxt μ2 S ∧ J μ2)) → ∀ (μ : Mem), J μ → (∃ x, xs.find? p = some x ∧ forGo bd body (xs.map g) μ S = .ret (r x) S) ∨ (xs.find? p = none ∧ ∃ μ', forGo bd body (xs.map g) μ S = .nxt μ' S ∧ J μ')
  | [], _, μ, h => .inr ⟨rfl, μ, rfl, h⟩
  | x :: xs, step, μ, h => by
    obtain ⟨μ1, e1, h1, h2⟩ := step x (List.mem_cons_self ..) μ h
    rw [List.map_cons, forGo, e1]
    cases q : p x with
    | true =>
      refine .inl ⟨x, by rw [List.find?_cons, q], ?_⟩
      simp only [h1 q]
    | false =>
      obtain ⟨μ2, e2, j2⟩ := h2 q
      rcases for_find g p r J xs (fun y hy => step y (List.mem_cons_of_mem _ hy)) μ2 j2 with ⟨y, e3, e4⟩ | ⟨e3, μ3, e4, j3⟩
      · refine .inl ⟨y, by rw [List.find?_cons, q]; exact e3, ?_⟩
        simp only [e2]; exact e4
      · refine .inr ⟨by rw [List.find?_cons, q]; exact e3, μ3, ?_, j3⟩
        simp only [e2]; exact e4
end DW

/-! DwL2: what the program's own functions say of good input. -/
namespace DW
open PySem
/-! ### fractions, bounds -/
def knw (x : Bd) : Bool := decide (x.1 = x.2)
def ins (v : Fr) (x : Bd) : Bool := ltF x.1 v && ltF v x.2
def mc (x y : Bd) : Bool := if knw x then false else if knw y then ins y.1 x else leF x.1 y.1 && leF y.2 x.2
def nab (x y : Bd) : Bool := leF x.2 y.1
def sep (x y : Bd) : Bool := nab x y || nab y x
def ngB (x : Bd) : Bd := (ngF x.2, ngF x.1)
def unk (ks : List Nm) (b : Nm → Bd) : List Nm := ks.filter fun n => !knw (b n)
def blk (x y : Bd) : Bool := if knw y then ltF y.1 x.2 else leF y.2 x.2
section
variable {P : Prog} [Fu P] {m : Nat} {S : Src}
theorem sp_gcd [Has P "gcd" Lib.f_gcd] {a b : Int} (h0 : 0 ≤ b) (hb : big b = true) : (callN P (m + 1)).call "gcd" [.int a, .int b] S = .ok (false, .int (a.gcd b : Nat)) S := by
  rw [call_fn]; exact run_gcd h0 hb (by decide)
theorem lenF (a : Fr) : opF .len [dF a] = some (false, .int 2) := by rw [dF_tup]; rfl
theorem sp_rf [Has P "gcd" Lib.f_gcd] [Has P "require_fraction" Lib.f_require_fraction] (a : Fr) : (callN P (m + 2)).call "require_fraction" [dF a] S = .ok (false, .non) S := by
  have e := sp_gcd (P := P) (m := m) (S := S) (a := a.n) (b := a.d) (by have := a.pos; omega) a.s2
  rw [a.red] at e
  have hp : ¬ a.d < 1 := by have := a.pos; omega
  rw [call_fn, Lib.f_require_fraction]
  simp [ev, evs, evAnd, evOr, evi, evc, evo, theB, R.bind, R.calm, opB, ofO, permD, Lit.d, Gc.d, bindT, bindR, wipeR, SR.seq, exs, ex, evM, evMB, evsM, seen, freeze, ment, ments, menti, R.then, loose, isVar, ofSR, setAll, bindM, runFn, startM, List.map, List.length, List.replicate, List.append, Bool.not_true, Bool.not_false, lenF, opX_F0, opX_F1, oc_neI, oc_ltI, e, hp]
theorem sp_less [Has P "less" Lib.f_less] (a b : Fr) : (callN P (m + 1)).call "less" [dF a, dF b] S = .ok (false, .bl (ltF a b)) S := by
  rw [call_fn, Lib.f_less]
  refine (run_ret rfl rfl).trans ?_
  simp [ev, evs, evAnd, evOr, evi, evc, evo, theB, R.bind, R.calm, opB, ofO, permD, Lit.d, Gc.d, bindT, bindR, wipeR, opX_F0, opX_F1, oc_ltI, a.s1, a.s2, b.s1, b.s2, ltF]
theorem sp_atm [Has P "at_most" Lib.f_at_most] (a b : Fr) : (callN P (m + 1)).call "at_most" [dF a, dF b] S = .ok (false, .bl (leF a b)) S := by
  rw [call_fn, Lib.f_at_most]
  refine (run_ret rfl rfl).trans ?_
  simp [ev, evs, evAnd, evOr, evi, evc, evo, theB, R.bind, R.calm, opB, ofO, permD, Lit.d, Gc.d, bindT, bindR, wipeR, opX_F0, opX_F1, oc_leI, a.s1, a.s2, b.s1, b.s2, leF]
theorem sp_neg [Has P "negated" Lib.f_negated] (a : Fr) : (callN P (m + 1)).call "negated" [dF a] S = .ok (false, dF (ngF a)) S := by
  rw [call_fn, Lib.f_negated]
  refine (run_ret rfl rfl).trans ?_
  rw [dF_tup (ngF a)]
  simp [ev, evs, evAnd, evOr, evi, evc, evo, theB, R.bind, R.calm, opB, ofO, permD, Lit.d, Gc.d, bindT, bindR, wipeR, opX_F0, opX_F1, ngF]
theorem lenN (n : Nm) : opF .len [dN n] = some (false, .int n.s.cps.size) := by
  have h := n.ok
  unfold nameOk at h
  simp only [Bool.and_eq_true, decide_eq_true_eq] at h
  rw [dN_str]
  show (if n.s.length ≤ lim then some (false, D.int n.s.length) else none) = _
  rw [if_pos (by unfold lim; exact Nat.le_trans h.2.1 (by decide))]
  rfl
theorem letters {c : Nat} (h1 : 97 ≤ c) (h2 : c ≤ 122) : opC .isin (.str ⟨#[c]⟩) (.str "abcdefghijklmnopqrstuvwxyz") = some true := by
  show some (decide (c ∈ (("abcdefghijklmnopqrstuvwxyz" : Str)).cps.toList)) = _
  have e : (("abcdefghijklmnopqrstuvwxyz" : Str)).cps.toList = List.range' 97 26 := by decide +kernel
  rw [e, decide_eq_true (List.mem_range'.mpr ⟨c - 97, by omega, by omega⟩)]
theorem itW_N (n : Nm) : itemsW (dN n) = some (n.s.cps.toList.map fun c => .str ⟨#[c]⟩) := by
  have h := n.ok
  unfold nameOk at h
  simp only [Bool.and_eq_true, decide_eq_true_eq] at h
  rw [dN_str]
  show (if n.s.cps.size ≤ lim then some _ else none) = _
  rw [if_pos (by unfold lim; exact Nat.le_trans h.2.1 (by decide))]
theorem sp_isname [Has P "is_name" Lib.f_is_name] (n : Nm) : (callN P (m + 1)).call "is_name" [dN n] S = .ok (false, .bl true) S := by
  have h := n.ok
  unfold nameOk at h
  simp only [Bool.and_eq_true, decide_eq_true_eq] at h
  have h1 : (1 : Int) ≤ n.s.cps.size := by omega
  have h2 : (n.s.cps.size : Int) ≤ 6 := by omega
  have h3 := h.2.2
  rw [Array.all_eq_true'] at h3
  rw [call_fn, Lib.f_is_name]
  refine (run_ret rfl rfl).trans ?_
  simp [ev, evs, evAnd, evOr, evi, evc, evo, theB, R.bind, R.calm, opB, ofO, permD, Lit.d, Gc.d, bindT, bindR, wipeR, lenN, oc_leI, h1, h2, itW_N]
  rw [lc_map (fun c => D.str ⟨#[c]⟩) (fun _ => D.bl true) n.s.cps.toList fun c hc => ?_]
  · have := of_all (fun _ : Nat => true) n.s.cps.toList
    simp only [this]
    simp
  · have := h3 c (Array.mem_toList_iff.mp hc)
    simp only [Bool.and_eq_true, decide_eq_true_eq] at this
    refine ⟨_, false, rfl, rfl, ?_⟩
    simp [ev, evs, evAnd, evOr, evi, evc, evo, theB, R.bind, R.calm, opB, ofO, permD, Lit.d, Gc.d, bindT, bindR, wipeR, letters this.1 this.2]
theorem sp_knw [Has P "is_known" Lib.f_is_known] (x : Bd) : (callN P (m + 1)).call "is_known" [dB x] S = .ok (false, .bl (knw x)) S := by
  rw [call_fn, Lib.f_is_known]
  refine (run_ret rfl rfl).trans ?_
  simp [ev, evs, evAnd, evOr, evi, evc, evo, theB, R.bind, R.calm, opB, ofO, permD, Lit.d, Gc.d, bindT, bindR, wipeR, opX_B0, opX_B1, oc_eqF, knw]
theorem sp_ins [Has P "less" Lib.f_less] [Has P "strictly_inside" Lib.f_strictly_inside] (v : Fr) (x : Bd) : (callN P (m + 2)).call "strictly_inside" [dF v, dB x] S = .ok (false, .bl (ins v x)) S := by
  rw [call_fn, Lib.f_strictly_inside]
  refine (run_ret rfl rfl).trans ?_
  simp [ev, evs, evAnd, evOr, evi, evc, evo, theB, R.bind, R.calm, opB, ofO, permD, Lit.d, Gc.d, bindT, bindR, wipeR, opX_B0, opX_B1, sp_less, ins]
  cases ltF x.1 v <;> simp
theorem sp_nab [Has P "at_most" Lib.f_at_most] [Has P "never_above" Lib.f_never_above] (x y : Bd) : (callN P (m + 2)).call "never_above" [dB x, dB y] S = .ok (false, .bl (nab x y)) S := by
  rw [call_fn, Lib.f_never_above]
  refine (run_ret rfl rfl).trans ?_
  simp [ev, evs, evAnd, evOr, evi, evc, evo, theB, R.bind, R.calm, opB, ofO, permD, Lit.d, Gc.d, bindT, bindR, wipeR, opX_B0, opX_B1, sp_atm, nab]
theorem sp_sep [Has P "at_most" Lib.f_at_most] [Has P "never_above" Lib.f_never_above] [Has P "is_separated" Lib.f_is_separated] (x y : Bd) : (callN P (m + 3)).call "is_separated" [dB x, dB y] S = .ok (false, .bl (sep x y)) S := by
  rw [call_fn, Lib.f_is_separated]
  refine (run_ret rfl rfl).trans ?_
  simp [ev, evs, evAnd, evOr, evi, evc, evo, theB, R.bind, R.calm, opB, ofO, permD, Lit.d, Gc.d, bindT, bindR, wipeR, sp_nab, sep]
  cases nab x y <;> simp
theorem sp_mc [Has P "less" Lib.f_less] [Has P "at_most" Lib.f_at_most] [Has P "is_known" Lib.f_is_known] [Has P "strictly_inside" Lib.f_strictly_inside] [Has P "must_contain" Lib.f_must_contain] (x y : Bd) : (callN P (m + 3)).call "must_contain" [dB x, dB y] S = .ok (false, .bl (mc x y)) S := by
  rw [call_fn, Lib.f_must_contain]
  cases h : knw x <;> cases h2 : knw y <;> simp [ev, evs, evAnd, evOr, evi, evc, evo, theB, R.bind, R.calm, opB, ofO, permD, Lit.d, Gc.d, bindT, bindR, wipeR, SR.seq, exs, ex, evM, evMB, evsM, seen, freeze, ment, ments, menti, R.then, loose, isVar, ofSR, setAll, bindM, runFn, startM, List.map, List.length, List.replicate, List.append, Bool.not_true, Bool.not_false, opX_B0, opX_B1, sp_knw, sp_ins, sp_atm, mc, h, h2, D.imm, immB]
  cases leF x.1 y.1 <;> simp
theorem sp_blk [Has P "less" Lib.f_less] [Has P "at_most" Lib.f_at_most] [Has P "is_known" Lib.f_is_known] [Has P "blocks" Lib.f_blocks] (x y : Bd) : (callN P (m + 2)).call "blocks" [dB x, dB y] S = .ok (false, .bl (blk x y)) S := by
  rw [call_fn, Lib.f_blocks]
  refine (run_ret rfl rfl).trans ?_
  cases h : knw y <;> simp [ev, evs, evAnd, evOr, evi, evc, evo, theB, R.bind, R.calm, opB, ofO, permD, Lit.d, Gc.d, bindT, bindR, wipeR, opX_B0, opX_B1, sp_knw, sp_less, sp_atm, blk, h]
/-! ### tables -/
theorem nodup_asc {l : List Nm} (h : Asc l) : l.Nodup := by
  rw [List.nodup_iff_pairwise_ne]
  exact h.imp fun {a b} h e => by
    subst e
    exact absurd (of_decide_eq_true h) (List.lt_irrefl _)
theorem sp_byname [Has P "by_name" Lib.f_by_name] {ks : List Nm} {b : Nm → Bd} (nd : ks.Nodup) : (callN P (m + 1)).call "by_name" [.lst (ks.map (dR b))] S = .ok (true, dT ks b) S := by
  rw [call_fn, Lib.f_by_name]
  refine (run_ret rfl rfl).trans ?_
  simp [ev, evs, evAnd, evOr, evi, evc, evo, theB, R.bind, R.calm, opB, ofO, permD, Lit.d, Gc.d, bindT, bindR, wipeR, itemsW]
  have nd' : (ks.map Nm.s).Nodup := by
    rw [List.nodup_iff_pairwise_ne] at nd ⊢
    exact List.pairwise_map.mpr (nd.imp fun h e => h (Nm.ext' e))
  rw [dc_map (dR b) Nm.s (fun n => dB (b n)) ks [] nd' (fun _ _ => rfl) fun n hn => ⟨_, false, false, rfl, rfl, by simp [ev, evs, evAnd, evOr, evi, evc, evo, theB, R.bind, R.calm, opB, ofO, permD, Lit.d, Gc.d, bindT, bindR, wipeR, dN_str], by simp [ev, evs, evAnd, evOr, evi, evc, evo, theB, R.bind, R.calm, opB, ofO, permD, Lit.d, Gc.d, bindT, bindR, wipeR, dB_tup]⟩]
  simp [dM_dct]
theorem sp_mirrored [Has P "negated" Lib.f_negated] [Has P "mirrored" Lib.f_mirrored] {ks : List Nm} {b : Nm → Bd} (nd : ks.Nodup) : (callN P (m + 2)).call "mirrored" [dT ks b] S = .ok (true, dT ks fun n => ngB (b n)) S := by
  rw [call_fn, Lib.f_mirrored]
  refine (run_ret rfl rfl).trans ?_
  simp [ev, evs, evAnd, evOr, evi, evc, evo, theB, R.bind, R.calm, opB, ofO, permD, Lit.d, Gc.d, bindT, bindR, wipeR, itW_M]
  rw [dc_N (fun n => dB (ngB (b n))) nd fun n hn => ⟨_, false, false, rfl, rfl, by simp [ev, evs, evAnd, evOr, evi, evc, evo, theB, R.bind, R.calm, opB, ofO, permD, Lit.d, Gc.d, bindT, bindR, wipeR], by rw [dB_tup (ngB (b n))]; simp [ev, evs, evAnd, evOr, evi, evc, evo, theB, R.bind, R.calm, opB, ofO, permD, Lit.d, Gc.d, bindT, bindR, wipeR, opX_M hn, opX_B0, opX_B1, sp_neg, ngB]⟩]
  simp [dM_dct]
theorem sp_unk [Has P "is_known" Lib.f_is_known] [Has P "unknown_items" Lib.f_unknown_items] {ks : List Nm} {b : Nm → Bd} (hs : Asc ks) (hl : ks.length < 64) : (callN P (m + 2)).call "unknown_items" [dT ks b] S = .ok (true, dNs (unk ks b)) S := by
  rw [call_fn, Lib.f_unknown_items]
  refine (run_ret rfl rfl).trans ?_
  simp [ev, evs, evAnd, evOr, evi, evc, evo, theB, R.bind, R.calm, opB, ofO, permD, Lit.d, Gc.d, bindT, bindR, wipeR, of_sortM hl, srt_asc hs, items]
  rw [lc_ok dN (fun n => !knw (b n)) dN ks fun n hn => ⟨_, rfl, by simp [ev, evs, evAnd, evOr, evi, evc, evo, theB, R.bind, R.calm, opB, ofO, permD, Lit.d, Gc.d, bindT, bindR, wipeR, opX_M hn, sp_knw], fun _ => ⟨false, by simp [ev, evs, evAnd, evOr, evi, evc, evo, theB, R.bind, R.calm, opB, ofO, permD, Lit.d, Gc.d, bindT, bindR, wipeR]⟩⟩]
  rfl
/-! ### interval lists -/
def RowsOk (ks : List Nm) (b : Nm → Bd) : Prop := Asc ks ∧ ks.length ≤ 24 ∧ ∀ n ∈ ks, leF (b n).1 (b n).2 = true
theorem leF_nlt {a b : Fr} (h : leF a b = true) : ltF b a = false := by
  unfold leF at h; unfold ltF
  have := of_decide_eq_true h
  apply decide_eq_false; omega
theorem sp_ri [Has P "gcd" Lib.f_gcd] [Has P "require_fraction" Lib.f_require_fraction] [Has P "less" Lib.f_less] [Has P "is_name" Lib.f_is_name] [Has P "require_intervals" Lib.f_require_intervals] {ks : List Nm} {b : Nm → Bd} (h : RowsOk ks b) : (callN P (m + 3)).call "require_intervals" [.lst (ks.map (dR b))] S = .ok (false, .non) S := by
  obtain ⟨hs, hl, hb⟩ := h
  rw [call_fn, Lib.f_require_intervals]
  have hl' : ¬ ((24 : Int) < (ks.length : Int)) := by omega
  have h0 : ∀ n ∈ ks, opC .le (dN n) (.str "") = some false := by
    intro n hn
    have h := n.ok
    unfold nameOk at h
    simp only [Bool.and_eq_true, decide_eq_true_eq] at h
    rw [dN_str]
    show some (!decide _) = _
    have : (("" : Str)).cps.toList < n.s.cps.toList := by
      have e : (("" : Str)).cps.toList = [] := by decide +kernel
      rw [e]
      have : n.s.cps.toList ≠ [] := fun z => by
        have := congrArg List.length z
        rw [Array.length_toList] at this
        simp at this
        rw [this] at h
        simp at h
      cases q : n.s.cps.toList with
      | nil => exact absurd q this
      | cons a l => exact List.Lex.nil
    rw [decide_eq_true this]; rfl
  have step : ∀ (pre : List Nm) (n : Nm) (rest : List Nm) (μ : Mem) (S1 : Src), ((∀ n' ∈ n :: rest, n' ∈ ks) ∧ S1 = S ∧ Asc (n :: rest) ∧ ∃ p x y z, μ = [some (false, D.lst (ks.map (dR b))), some (false, p), x, y, z] ∧ ∀ n' ∈ n :: rest, opC .le (dN n') p = some false) →
      ∃ μ1, bindM [2, 3, 4] true (dR b n) μ = some μ1 ∧ ∃ μ2 S2, exs (callN P (m + 2)) P.xf 20000 Lib.f_require_intervals_L1 μ1 S1 = .nxt μ2 S2 ∧ ((∀ n' ∈ rest, n' ∈ ks) ∧ S2 = S ∧ Asc rest ∧ ∃ p x y z, μ2 = [some (false, D.lst (ks.map (dR b))), some (false, p), x, y, z] ∧ ∀ n' ∈ rest, opC .le (dN n') p = some false) := by
    rintro pre n rest μ S1 ⟨hm, rfl, ha, p, x, y, z, rfl, hp⟩
    have hn := hm n (List.mem_cons_self ..)
    have h1 := leF_nlt (hb n hn)
    have h2 := hp n (List.mem_cons_self ..)
    refine ⟨_, rfl, [some (false, D.lst (ks.map (dR b))), some (false, dN n), some (false, dN n), some (false, dF (b n).1), some (false, dF (b n).2)], S1, ?_, fun n' hn' => hm n' (List.mem_cons_of_mem _ hn'), rfl, (List.pairwise_cons.mp ha).2, dN n, some (false, dN n), some (false, dF (b n).1), some (false, dF (b n).2), rfl, fun n' hn' => ?_⟩
    · simp [Lib.f_require_intervals_L1, ev, evs, evAnd, evOr, evi, evc, evo, theB, R.bind, R.calm, opB, ofO, permD, Lit.d, Gc.d, bindT, bindR, wipeR, SR.seq, exs, ex, evM, evMB, evsM, seen, freeze, ment, ments, menti, R.then, loose, isVar, ofSR, setAll, bindM, runFn, startM, List.map, List.length, List.replicate, List.append, Bool.not_true, Bool.not_false, sp_rf, sp_isname, sp_less, h1, h2, D.imm, immN]
    · have := (List.pairwise_cons.mp ha).1 n' hn'
      have := of_decide_eq_true this
      rw [oc_leN]
      show some (!decide _) = _
      rw [decide_eq_true this]; rfl
  obtain ⟨μ', S', e, _, rfl, _, p, x, y, z, rfl, _⟩ := for_ok (dR b) (fun _ rest μ S' => (∀ n ∈ rest, n ∈ ks) ∧ S' = S ∧ Asc rest ∧ ∃ p x y z, μ = [some (false, D.lst (ks.map (dR b))), some (false, p), x, y, z] ∧ ∀ n ∈ rest, opC .le (dN n) p = some false) step ks [] [some (false, .lst (ks.map (dR b))), some (false, .str ""), none, none, none] S ⟨fun _ z => z, rfl, hs, _, none, none, none, rfl, h0⟩
  simp [ev, evs, evAnd, evOr, evi, evc, evo, theB, R.bind, R.calm, opB, ofO, permD, Lit.d, Gc.d, bindT, bindR, wipeR, SR.seq, exs, ex, evM, evMB, evsM, seen, freeze, ment, ments, menti, R.then, loose, isVar, ofSR, setAll, bindM, runFn, startM, List.map, List.length, List.replicate, List.append, Bool.not_true, Bool.not_false, of_lenL, oc_gtI, hl', items, D.imm, e]
end
end DW

/-! DwL3: queries of the program. -/
namespace DW
open PySem
theorem ock_sort_sort : opC .eq (.str "sort") (.str "sort") = some true := by kernel_rfl
theorem ocn_sort_sort : opC .ne (.str "sort") (.str "sort") = some false := by kernel_rfl
theorem ock_sort_min : opC .eq (.str "sort") (.str "min") = some false := by kernel_rfl
theorem ocn_sort_min : opC .ne (.str "sort") (.str "min") = some true := by kernel_rfl
theorem ock_sort_max : opC .eq (.str "sort") (.str "max") = some false := by kernel_rfl
theorem ocn_sort_max : opC .ne (.str "sort") (.str "max") = some true := by kernel_rfl
theorem ock_sort_above : opC .eq (.str "sort") (.str "above") = some false := by kernel_rfl
theorem ocn_sort_above : opC .ne (.str "sort") (.str "above") = some true := by kernel_rfl
theorem ock_sort_compare : opC .eq (.str "sort") (.str "compare") = some false := by kernel_rfl
theorem ocn_sort_compare : opC .ne (.str "sort") (.str "compare") = some true := by kernel_rfl
theorem oci_sort : opC .isin (.str "sort") (.tup [.str "sort", .str "compare"]) = some true := by kernel_rfl
theorem ocj_sort : opC .isin (.str "sort") (.tup [.str "sort", .str "min", .str "max"]) = some true := by kernel_rfl
theorem ocx_sort : opC .notin (.str "sort") (.tup [.str "sort", .str "min", .str "max", .str "above", .str "compare"]) = some false := by kernel_rfl
theorem ock_min_sort : opC .eq (.str "min") (.str "sort") = some false := by kernel_rfl
theorem ocn_min_sort : opC .ne (.str "min") (.str "sort") = some true := by kernel_rfl
theorem ock_min_min : opC .eq (.str "min") (.str "min") = some true := by kernel_rfl
theorem ocn_min_min : opC .ne (.str "min") (.str "min") = some false := by kernel_rfl
theorem ock_min_max : opC .eq (.str "min") (.str "max") = some false := by kernel_rfl
theorem ocn_min_max : opC .ne (.str "min") (.str "max") = some true := by kernel_rfl
theorem ock_min_above : opC .eq (.str "min") (.str "above") = some false := by kernel_rfl
theorem ocn_min_above : opC .ne (.str "min") (.str "above") = some true := by kernel_rfl
theorem ock_min_compare : opC .eq (.str "min") (.str "compare") = some false := by kernel_rfl
theorem ocn_min_compare : opC .ne (.str "min") (.str "compare") = some true := by kernel_rfl
theorem oci_min : opC .isin (.str "min") (.tup [.str "sort", .str "compare"]) = some false := by kernel_rfl
theorem ocj_min : opC .isin (.str "min") (.tup [.str "sort", .str "min", .str "max"]) = some true := by kernel_rfl
theorem ocx_min : opC .notin (.str "min") (.tup [.str "sort", .str "min", .str "max", .str "above", .str "compare"]) = some false := by kernel_rfl
theorem ock_max_sort : opC .eq (.str "max") (.str "sort") = some false := by kernel_rfl
theorem ocn_max_sort : opC .ne (.str "max") (.str "sort") = some true := by kernel_rfl
theorem ock_max_min : opC .eq (.str "max") (.str "min") = some false := by kernel_rfl
theorem ocn_max_min : opC .ne (.str "max") (.str "min") = some true := by kernel_rfl
theorem ock_max_max : opC .eq (.str "max") (.str "max") = some true := by kernel_rfl
theorem ocn_max_max : opC .ne (.str "max") (.str "max") = some false := by kernel_rfl
theorem ock_max_above : opC .eq (.str "max") (.str "above") = some false := by kernel_rfl
theorem ocn_max_above : opC .ne (.str "max") (.str "above") = some true := by kernel_rfl
theorem ock_max_compare : opC .eq (.str "max") (.str "compare") = some false := by kernel_rfl
theorem ocn_max_compare : opC .ne (.str "max") (.str "compare") = some true := by kernel_rfl
theorem oci_max : opC .isin (.str "max") (.tup [.str "sort", .str "compare"]) = some false := by kernel_rfl
theorem ocj_max : opC .isin (.str "max") (.tup [.str "sort", .str "min", .str "max"]) = some true := by kernel_rfl
theorem ocx_max : opC .notin (.str "max") (.tup [.str "sort", .str "min", .str "max", .str "above", .str "compare"]) = some false := by kernel_rfl
theorem ock_above_sort : opC .eq (.str "above") (.str "sort") = some false := by kernel_rfl
theorem ocn_above_sort : opC .ne (.str "above") (.str "sort") = some true := by kernel_rfl
theorem ock_above_min : opC .eq (.str "above") (.str "min") = some false := by kernel_rfl
theorem ocn_above_min : opC .ne (.str "above") (.str "min") = some true := by kernel_rfl
theorem ock_above_max : opC .eq (.str "above") (.str "max") = some false := by kernel_rfl
theorem ocn_above_max : opC .ne (.str "above") (.str "max") = some true := by kernel_rfl
theorem ock_above_above : opC .eq (.str "above") (.str "above") = some true := by kernel_rfl
theorem ocn_above_above : opC .ne (.str "above") (.str "above") = some false := by kernel_rfl
theorem ock_above_compare : opC .eq (.str "above") (.str "compare") = some false := by kernel_rfl
theorem ocn_above_compare : opC .ne (.str "above") (.str "compare") = some true := by kernel_rfl
theorem oci_above : opC .isin (.str "above") (.tup [.str "sort", .str "compare"]) = some false := by kernel_rfl
theorem ocj_above : opC .isin (.str "above") (.tup [.str "sort", .str "min", .str "max"]) = some false := by kernel_rfl
theorem ocx_above : opC .notin (.str "above") (.tup [.str "sort", .str "min", .str "max", .str "above", .str "compare"]) = some false := by kernel_rfl
theorem ock_compare_sort : opC .eq (.str "compare") (.str "sort") = some false := by kernel_rfl
theorem ocn_compare_sort : opC .ne (.str "compare") (.str "sort") = some true := by kernel_rfl
theorem ock_compare_min : opC .eq (.str "compare") (.str "min") = some false := by kernel_rfl
theorem ocn_compare_min : opC .ne (.str "compare") (.str "min") = some true := by kernel_rfl
theorem ock_compare_max : opC .eq (.str "compare") (.str "max") = some false := by kernel_rfl
theorem ocn_compare_max : opC .ne (.str "compare") (.str "max") = some true := by kernel_rfl
theorem ock_compare_above : opC .eq (.str "compare") (.str "above") = some false := by kernel_rfl
theorem ocn_compare_above : opC .ne (.str "compare") (.str "above") = some true := by kernel_rfl
theorem ock_compare_compare : opC .eq (.str "compare") (.str "compare") = some true := by kernel_rfl
theorem ocn_compare_compare : opC .ne (.str "compare") (.str "compare") = some false := by kernel_rfl
theorem oci_compare : opC .isin (.str "compare") (.tup [.str "sort", .str "compare"]) = some true := by kernel_rfl
theorem ocj_compare : opC .isin (.str "compare") (.tup [.str "sort", .str "min", .str "max"]) = some false := by kernel_rfl
theorem ocx_compare : opC .notin (.str "compare") (.tup [.str "sort", .str "min", .str "max", .str "above", .str "compare"]) = some false := by kernel_rfl
inductive Kd where | sort | min | max
  deriving DecidableEq
def Kd.s : Kd → Str
  | .sort => "sort"
  | .min => "min"
  | .max => "max"
inductive Qy where
  | ord (k : Kd) (ns : List Nm)
  | abv (ns : List Nm) (v : Fr)
  | cmp (a b : Nm)
def Qy.ns : Qy → List Nm
  | .ord _ ns => ns
  | .abv ns _ => ns
  | .cmp a b => [a, b]
def dQ : Qy → D
  | .ord k ns => .tup [.str k.s, dNt ns]
  | .abv ns v => .tup [.str "above", dNt ns, dF v]
  | .cmp a b => .tup [.str "compare", dN a, dN b]
def QOk (ks : List Nm) (q : Qy) : Prop := q.ns ≠ [] ∧ q.ns.Nodup ∧ (∀ n ∈ q.ns, n ∈ ks) ∧ q.ns.length < 64
theorem immQ (q : Qy) : (dQ q).imm = true := by
  cases q <;> simp [dQ, D.imm, immL, immN, immF, immNs]
/-! how many different names -/
theorem cS_nd {ws : List Str} (nd : ws.Nodup) : ∀ i, i ≤ ws.length → cS ws i = i
  | 0, _ => rfl
  | i + 1, h => by
    have hi : i < ws.length := h
    rw [cS, cS_nd nd i (by omega), if_neg]
    rw [List.any_eq_true]
    rintro ⟨x, hx, e⟩
    have e : x = ws.getD i Str.empty := eq_of_beq e
    rw [List.getD_eq_getElem?_getD, List.getElem?_eq_getElem hi, Option.getD_some] at e
    obtain ⟨j, hj, ej⟩ := List.mem_iff_getElem.mp hx
    rw [List.getElem_take] at ej
    rw [List.length_take] at hj
    have := (List.getElem_inj (h₀ := by omega) (h₁ := hi) nd).mp (ej.trans e)
    omega
theorem nd_s {l : List Nm} (nd : l.Nodup) : (l.map Nm.s).Nodup := by
  rw [List.nodup_iff_pairwise_ne] at nd ⊢
  exact List.pairwise_map.mpr (nd.imp fun h e => h (Nm.ext' e))
section
variable {P : Prog} [Fu P] {m : Nat} {S : Src}
theorem sp_items [Has P "query_items" Lib.f_query_items] (q : Qy) : (callN P (m + 1)).call "query_items" [dQ q] S = .ok (false, dNt q.ns) S := by
  rw [call_fn, Lib.f_query_items]
  refine (run_ret rfl rfl).trans ?_
  cases q with
  | ord k ns => cases k <;> simp [ev, evs, evAnd, evOr, evi, evc, evo, theB, R.bind, R.calm, opB, ofO, permD, Lit.d, Gc.d, bindT, bindR, wipeR, dQ, Kd.s, Qy.ns, opX_t0, opX_t1, ock_sort_sort, ocn_sort_sort, ock_sort_min, ocn_sort_min, ock_sort_max, ocn_sort_max, ock_sort_above, ocn_sort_above, ock_sort_compare, ocn_sort_compare, oci_sort, ocj_sort, ocx_sort, ock_min_sort, ocn_min_sort, ock_min_min, ocn_min_min, ock_min_max, ocn_min_max, ock_min_above, ocn_min_above, ock_min_compare, ocn_min_compare, oci_min, ocj_min, ocx_min, ock_max_sort, ocn_max_sort, ock_max_min, ocn_max_min, ock_max_max, ocn_max_max, ock_max_above, ocn_max_above, ock_max_compare, ocn_max_compare, oci_max, ocj_max, ocx_max, ock_above_sort, ocn_above_sort, ock_above_min, ocn_above_min, ock_above_max, ocn_above_max, ock_above_above, ocn_above_above, ock_above_compare, ocn_above_compare, oci_above, ocj_above, ocx_above, ock_compare_sort, ocn_compare_sort, ock_compare_min, ocn_compare_min, ock_compare_max, ocn_compare_max, ock_compare_above, ocn_compare_above, ock_compare_compare, ocn_compare_compare, oci_compare, ocj_compare, ocx_compare]
  | abv ns v => simp [ev, evs, evAnd, evOr, evi, evc, evo, theB, R.bind, R.calm, opB, ofO, permD, Lit.d, Gc.d, bindT, bindR, wipeR, dQ, Qy.ns, opX_t0, opX_t1, ock_sort_sort, ocn_sort_sort, ock_sort_min, ocn_sort_min, ock_sort_max, ocn_sort_max, ock_sort_above, ocn_sort_above, ock_sort_compare, ocn_sort_compare, oci_sort, ocj_sort, ocx_sort, ock_min_sort, ocn_min_sort, ock_min_min, ocn_min_min, ock_min_max, ocn_min_max, ock_min_above, ocn_min_above, ock_min_compare, ocn_min_compare, oci_min, ocj_min, ocx_min, ock_max_sort, ocn_max_sort, ock_max_min, ocn_max_min, ock_max_max, ocn_max_max, ock_max_above, ocn_max_above, ock_max_compare, ocn_max_compare, oci_max, ocj_max, ocx_max, ock_above_sort, ocn_above_sort, ock_above_min, ocn_above_min, ock_above_max, ocn_above_max, ock_above_above, ocn_above_above, ock_above_compare, ocn_above_compare, oci_above, ocj_above, ocx_above, ock_compare_sort, ocn_compare_sort, ock_compare_min, ocn_compare_min, ock_compare_max, ocn_compare_max, ock_compare_above, ocn_compare_above, ock_compare_compare, ocn_compare_compare, oci_compare, ocj_compare, ocx_compare]
  | cmp a b => simp [ev, evs, evAnd, evOr, evi, evc, evo, theB, R.bind, R.calm, opB, ofO, permD, Lit.d, Gc.d, bindT, bindR, wipeR, dQ, Qy.ns, opX_t0, opX_t1, opX_t2, ock_sort_sort, ocn_sort_sort, ock_sort_min, ocn_sort_min, ock_sort_max, ocn_sort_max, ock_sort_above, ocn_sort_above, ock_sort_compare, ocn_sort_compare, oci_sort, ocj_sort, ocx_sort, ock_min_sort, ocn_min_sort, ock_min_min, ocn_min_min, ock_min_max, ocn_min_max, ock_min_above, ocn_min_above, ock_min_compare, ocn_min_compare, oci_min, ocj_min, ocx_min, ock_max_sort, ocn_max_sort, ock_max_min, ocn_max_min, ock_max_max, ocn_max_max, ock_max_above, ocn_max_above, ock_max_compare, ocn_max_compare, oci_max, ocj_max, ocx_max, ock_above_sort, ocn_above_sort, ock_above_min, ocn_above_min, ock_above_max, ocn_above_max, ock_above_above, ocn_above_above, ock_above_compare, ocn_above_compare, oci_above, ocj_above, ocx_above, ock_compare_sort, ocn_compare_sort, ock_compare_min, ocn_compare_min, ock_compare_max, ocn_compare_max, ock_compare_above, ocn_compare_above, ock_compare_compare, ocn_compare_compare, oci_compare, ocj_compare, ocx_compare]
theorem of_lenT (l : List D) : opF .len [.tup l] = some (false, .int l.length) := rfl
theorem sp_isq [Has P "query_items" Lib.f_query_items] [Has P "is_query" Lib.f_is_query] {ks : List Nm} {b : Nm → D} {q : Qy} (h : QOk ks q) : (callN P (m + 2)).call "is_query" [dQ q, dM ks b] S = .ok (false, .bl true) S := by
  obtain ⟨h1, h2, h3, h4⟩ := h
  have e1 : ¬ ((q.ns.length : Int) = 0) := by
    have := List.length_pos_iff.mpr h1
    omega
  have e2 := cS_nd (nd_s h2) q.ns.length (by rw [List.length_map]; exact Nat.le_refl _)
  have e3 : q.ns.length ≤ 2000 := by omega
  have e5 : (q.ns.map fun n => D.bl (decide (n ∈ ks))) = q.ns.map fun n => D.bl ((fun n => decide (n ∈ ks)) n) := rfl
  have e6 : (q.ns.all fun n => decide (n ∈ ks)) = true := by
    rw [List.all_eq_true]; exact fun n hn => decide_eq_true (h3 n hn)
  rw [call_fn, Lib.f_is_query]
  have key : ∀ (d : D) (k0 : Str) (len : Nat), dQ q = d → opF .len [d] = some (false, .int len) → opX S d (.int 0) = some (.str k0) → (¬ (len : Int) = 0) → opC .notin (.str k0) (.tup [.str "sort", .str "min", .str "max", .str "above", .str "compare"]) = some false →
      opC .isin (.str k0) (.tup [.str "sort", .str "min", .str "max"]) = some (decide (len = 2)) → (len = 2 ∨ len = 3) → runFn (callN P (m + 1)) P.xf 20000 Lib.f_is_query [d, dM ks b] S = .ok (false, .bl true) S := by
    intro d k0 len ed g1 g2 g3 g4 g5 g6
    subst ed
    rcases g6 with rfl | rfl <;> simp [Lib.f_is_query, ev, evs, evAnd, evOr, evi, evc, evo, theB, R.bind, R.calm, opB, ofO, permD, Lit.d, Gc.d, bindT, bindR, wipeR, SR.seq, exs, ex, evM, evMB, evsM, seen, freeze, ment, ments, menti, R.then, loose, isVar, ofSR, setAll, bindM, runFn, startM, List.map, List.length, List.replicate, List.append, Bool.not_true, Bool.not_false, g1, g2, g3, g4, g5, oc_eqI, oc_neI, oc_ltI, sp_items, of_lenT, e1, h1, items, itemsW, strsD_N, e2, e3, D.imm, immNs, immQ, immL]
    all_goals
      rw [lc_map dN (fun n => D.bl (decide (n ∈ ks))) q.ns fun n hn => ⟨_, false, rfl, rfl, by simp [oc_in]⟩]
      have e7 := of_all (fun n => decide (n ∈ ks)) q.ns
      rw [e6] at e7
      simp [e7, D.imm]
  cases q with
  | ord k ns => cases k <;> exact key _ _ 2 rfl rfl (opX_t0 ..) (by decide) (by kernel_rfl) (by kernel_rfl) (.inl rfl)
  | abv ns v => exact key _ _ 3 rfl rfl (opX_t0 ..) (by decide) (by kernel_rfl) (by kernel_rfl) (.inr rfl)
  | cmp a b => exact key _ _ 3 rfl rfl (opX_t0 ..) (by decide) (by kernel_rfl) (by kernel_rfl) (.inr rfl)
theorem sp_rq [Has P "gcd" Lib.f_gcd] [Has P "require_fraction" Lib.f_require_fraction] [Has P "query_items" Lib.f_query_items] [Has P "is_query" Lib.f_is_query] [Has P "require_queries" Lib.f_require_queries] {ks : List Nm} {b : Nm → D} {qs : List Qy} (hl : qs.length ≤ 8) (h : ∀ q ∈ qs, QOk ks q) : (callN P (m + 3)).call "require_queries" [.lst (qs.map dQ), dM ks b] S = .ok (false, .non) S := by
  have hl' : ¬ ((8 : Int) < (qs.length : Int)) := by omega
  have step : ∀ (pre : List (Qy × Nat)) (x : Qy × Nat) (rest : List (Qy × Nat)) (μ : Mem) (S1 : Src), ((∀ p ∈ x :: rest, p.1 ∈ qs) ∧ S1 = S ∧ ∃ u v, μ = [some (false, D.lst (qs.map dQ)), some (false, dM ks b), u, v]) →
      ∃ μ1, bindM [2, 3] true (.tup [.int (x.2 : Nat), dQ x.1]) μ = some μ1 ∧ ∃ μ2 S2, exs (callN P (m + 2)) P.xf 20000 Lib.f_require_queries_L1 μ1 S1 = .nxt μ2 S2 ∧ ((∀ p ∈ rest, p.1 ∈ qs) ∧ S2 = S ∧ ∃ u v, μ2 = [some (false, D.lst (qs.map dQ)), some (false, dM ks b), u, v]) := by
    rintro pre ⟨q, i⟩ rest μ S1 ⟨hm, rfl, u, v, rfl⟩
    have hq := h q (hm _ (List.mem_cons_self ..))
    have e1 := sp_isq (P := P) (m := m) (S := S1) (b := b) hq
    refine ⟨_, rfl, [some (false, D.lst (qs.map dQ)), some (false, dM ks b), some (false, .int i), some (false, dQ q)], S1, ?_, fun p hp => hm p (List.mem_cons_of_mem _ hp), rfl, _, _, rfl⟩
    cases q with
    | ord k ns => cases k <;> simp [Lib.f_require_queries_L1, ev, evs, evAnd, evOr, evi, evc, evo, theB, R.bind, R.calm, opB, ofO, permD, Lit.d, Gc.d, bindT, bindR, wipeR, SR.seq, exs, ex, evM, evMB, evsM, seen, freeze, ment, ments, menti, R.then, loose, isVar, ofSR, setAll, bindM, runFn, startM, List.map, List.length, List.replicate, List.append, Bool.not_true, Bool.not_false, e1] <;> simp [ev, evs, evAnd, evOr, evi, evc, evo, theB, R.bind, R.calm, opB, ofO, permD, Lit.d, Gc.d, bindT, bindR, wipeR, SR.seq, exs, ex, evM, evMB, evsM, seen, freeze, ment, ments, menti, R.then, loose, isVar, ofSR, setAll, bindM, runFn, startM, List.map, List.length, List.replicate, List.append, Bool.not_true, Bool.not_false, dQ, Kd.s, opX_t0, ock_sort_sort, ocn_sort_sort, ock_sort_min, ocn_sort_min, ock_sort_max, ocn_sort_max, ock_sort_above, ocn_sort_above, ock_sort_compare, ocn_sort_compare, oci_sort, ocj_sort, ocx_sort, ock_min_sort, ocn_min_sort, ock_min_min, ocn_min_min, ock_min_max, ocn_min_max, ock_min_above, ocn_min_above, ock_min_compare, ocn_min_compare, oci_min, ocj_min, ocx_min, ock_max_sort, ocn_max_sort, ock_max_min, ocn_max_min, ock_max_max, ocn_max_max, ock_max_above, ocn_max_above, ock_max_compare, ocn_max_compare, oci_max, ocj_max, ocx_max, ock_above_sort, ocn_above_sort, ock_above_min, ocn_above_min, ock_above_max, ocn_above_max, ock_above_above, ocn_above_above, ock_above_compare, ocn_above_compare, oci_above, ocj_above, ocx_above, ock_compare_sort, ocn_compare_sort, ock_compare_min, ocn_compare_min, ock_compare_max, ocn_compare_max, ock_compare_above, ocn_compare_above, ock_compare_compare, ocn_compare_compare, oci_compare, ocj_compare, ocx_compare, D.imm]
    | abv ns v => simp [Lib.f_require_queries_L1, ev, evs, evAnd, evOr, evi, evc, evo, theB, R.bind, R.calm, opB, ofO, permD, Lit.d, Gc.d, bindT, bindR, wipeR, SR.seq, exs, ex, evM, evMB, evsM, seen, freeze, ment, ments, menti, R.then, loose, isVar, ofSR, setAll, bindM, runFn, startM, List.map, List.length, List.replicate, List.append, Bool.not_true, Bool.not_false, e1]; simp [ev, evs, evAnd, evOr, evi, evc, evo, theB, R.bind, R.calm, opB, ofO, permD, Lit.d, Gc.d, bindT, bindR, wipeR, SR.seq, exs, ex, evM, evMB, evsM, seen, freeze, ment, ments, menti, R.then, loose, isVar, ofSR, setAll, bindM, runFn, startM, List.map, List.length, List.replicate, List.append, Bool.not_true, Bool.not_false, dQ, opX_t0, opX_t2, ock_sort_sort, ocn_sort_sort, ock_sort_min, ocn_sort_min, ock_sort_max, ocn_sort_max, ock_sort_above, ocn_sort_above, ock_sort_compare, ocn_sort_compare, oci_sort, ocj_sort, ocx_sort, ock_min_sort, ocn_min_sort, ock_min_min, ocn_min_min, ock_min_max, ocn_min_max, ock_min_above, ocn_min_above, ock_min_compare, ocn_min_compare, oci_min, ocj_min, ocx_min, ock_max_sort, ocn_max_sort, ock_max_min, ocn_max_min, ock_max_max, ocn_max_max, ock_max_above, ocn_max_above, ock_max_compare, ocn_max_compare, oci_max, ocj_max, ocx_max, ock_above_sort, ocn_above_sort, ock_above_min, ocn_above_min, ock_above_max, ocn_above_max, ock_above_above, ocn_above_above, ock_above_compare, ocn_above_compare, oci_above, ocj_above, ocx_above, ock_compare_sort, ocn_compare_sort, ock_compare_min, ocn_compare_min, ock_compare_max, ocn_compare_max, ock_compare_above, ocn_compare_above, ock_compare_compare, ocn_compare_compare, oci_compare, ocj_compare, ocx_compare, D.imm, sp_rf]
    | cmp a b => simp [Lib.f_require_queries_L1, ev, evs, evAnd, evOr, evi, evc, evo, theB, R.bind, R.calm, opB, ofO, permD, Lit.d, Gc.d, bindT, bindR, wipeR, SR.seq, exs, ex, evM, evMB, evsM, seen, freeze, ment, ments, menti, R.then, loose, isVar, ofSR, setAll, bindM, runFn, startM, List.map, List.length, List.replicate, List.append, Bool.not_true, Bool.not_false, e1]; simp [ev, evs, evAnd, evOr, evi, evc, evo, theB, R.bind, R.calm, opB, ofO, permD, Lit.d, Gc.d, bindT, bindR, wipeR, SR.seq, exs, ex, evM, evMB, evsM, seen, freeze, ment, ments, menti, R.then, loose, isVar, ofSR, setAll, bindM, runFn, startM, List.map, List.length, List.replicate, List.append, Bool.not_true, Bool.not_false, dQ, opX_t0, ock_sort_sort, ocn_sort_sort, ock_sort_min, ocn_sort_min, ock_sort_max, ocn_sort_max, ock_sort_above, ocn_sort_above, ock_sort_compare, ocn_sort_compare, oci_sort, ocj_sort, ocx_sort, ock_min_sort, ocn_min_sort, ock_min_min, ocn_min_min, ock_min_max, ocn_min_max, ock_min_above, ocn_min_above, ock_min_compare, ocn_min_compare, oci_min, ocj_min, ocx_min, ock_max_sort, ocn_max_sort, ock_max_min, ocn_max_min, ock_max_max, ocn_max_max, ock_max_above, ocn_max_above, ock_max_compare, ocn_max_compare, oci_max, ocj_max, ocx_max, ock_above_sort, ocn_above_sort, ock_above_min, ocn_above_min, ock_above_max, ocn_above_max, ock_above_above, ocn_above_above, ock_above_compare, ocn_above_compare, oci_above, ocj_above, ocx_above, ock_compare_sort, ocn_compare_sort, ock_compare_min, ocn_compare_min, ock_compare_max, ocn_compare_max, ock_compare_above, ocn_compare_above, ock_compare_compare, ocn_compare_compare, oci_compare, ocj_compare, ocx_compare, D.imm]
  obtain ⟨μ', S', e, _, rfl, _⟩ := for_ok (fun p : Qy × Nat => D.tup [.int (p.2 : Nat), dQ p.1]) (fun _ rest μ S1 => (∀ p ∈ rest, p.1 ∈ qs) ∧ S1 = S ∧ ∃ u v, μ = [some (false, D.lst (qs.map dQ)), some (false, dM ks b), u, v]) step (qs.zipIdx 0) [] [some (false, D.lst (qs.map dQ)), some (false, dM ks b), none, none] S ⟨fun p hp => (List.mem_zipIdx hp).2.2 ▸ List.getElem_mem _, rfl, none, none, rfl⟩
  have e2 := enumD_map dQ qs 0
  rw [call_fn, Lib.f_require_queries]
  simp [ev, evs, evAnd, evOr, evi, evc, evo, theB, R.bind, R.calm, opB, ofO, permD, Lit.d, Gc.d, bindT, bindR, wipeR, SR.seq, exs, ex, evM, evMB, evsM, seen, freeze, ment, ments, menti, R.then, loose, isVar, ofSR, setAll, bindM, runFn, startM, List.map, List.length, List.replicate, List.append, Bool.not_true, Bool.not_false, of_lenL, oc_gtI, hl', D.imm]
  rw [show (0 : Int) = ((0 : Nat) : Int) from rfl, e2, e]
theorem sp_rel [Has P "query_items" Lib.f_query_items] [Has P "relevant" Lib.f_relevant] {ks : List Nm} {b : Nm → D} {q : Qy} (h : QOk ks q) : (callN P (m + 2)).call "relevant" [dM ks b, dQ q] S = .ok (true, dM (srt q.ns) b) S := by
  obtain ⟨h1, h2, h3, h4⟩ := h
  rw [call_fn, Lib.f_relevant]
  refine (run_ret rfl rfl).trans ?_
  simp [ev, evs, evAnd, evOr, evi, evc, evo, theB, R.bind, R.calm, opB, ofO, permD, Lit.d, Gc.d, bindT, bindR, wipeR, sp_items, of_sortT h4, items]
  rw [dc_N b ((srt_perm _).nodup_iff.mpr h2) fun n hn => ⟨_, false, false, rfl, rfl, by simp [ev, evs, evAnd, evOr, evi, evc, evo, theB, R.bind, R.calm, opB, ofO, permD, Lit.d, Gc.d, bindT, bindR, wipeR], by simp [ev, evs, evAnd, evOr, evi, evc, evo, theB, R.bind, R.calm, opB, ofO, permD, Lit.d, Gc.d, bindT, bindR, wipeR, opX_M (h3 n ((srt_perm _).mem_iff.mp hn))]⟩]
  simp [dM_dct]
end
end DW

/-! DwL4: certainty and required items, as the program computes them. -/
namespace DW
open PySem
/-! ### what is computed -/
def cmin (ks : List Nm) (b : Nm → Bd) : Option Nm := ks.find? fun n => ks.all fun o => decide (o = n) || nab (b n) (b o)
def allSep (ks : List Nm) (b : Nm → Bd) : Bool := (prs ks).all fun p => sep (b p.1) (b p.2)
def sReq (ks : List Nm) (b : Nm → Bd) : List Nm := (unk ks b).filter fun n => ks.any fun o => !decide (o = n) && mc (b n) (b o)
def lowst (ks : List Nm) (b : Nm → Bd) : List Nm := (unk ks b).filter fun n => (unk ks b).all fun o => leF (b n).1 (b o).1
def frn (ks : List Nm) (b : Nm → Bd) : List Nm := match lowst ks b with
  | [] => []
  | x :: l => if ks.any fun n => knw (b n) && leF (b n).1 (b x).1 then [] else x :: l
def mReq (ks : List Nm) (b : Nm → Bd) : List Nm := (frn ks b).filter fun n => ks.any fun o => !decide (o = n) && blk (b n) (b o)
def dO : Option Nm → D
  | none => .non
  | some n => dN n
def cin (b : Nm → Bd) : Qy → Bool
  | .ord .sort ns => allSep (srt ns) b
  | .cmp x y => allSep (srt [x, y]) b
  | .abv ns v => !(srt ns).any fun n => ins v (b n)
  | .ord .min ns => (cmin (srt ns) b).isSome
  | .ord .max ns => (cmin (srt ns) fun n => ngB (b n)).isSome
def rin (b : Nm → Bd) : Qy → List Nm
  | .ord .sort ns => sReq (srt ns) b
  | .cmp x y => sReq (srt [x, y]) b
  | .abv ns v => (srt ns).filter fun n => ins v (b n)
  | .ord .min ns => mReq (srt ns) b
  | .ord .max ns => mReq (srt ns) fun n => ngB (b n)
theorem asc_len {ns : List Nm} (h : ns.Nodup) (hl : ns.length < 64) : Asc (srt ns) ∧ (srt ns).length < 64 := ⟨asc_srt h, by rw [(srt_perm ns).length_eq]; exact hl⟩
theorem b_and (x y : Bool) {S : Src} : (if x = true then R.ok (false, D.bl y) S else R.ok (false, D.bl false) S) = R.ok (false, D.bl (x && y)) S := by cases x <;> simp
theorem b_orP (p : Prop) [Decidable p] (y : Bool) {S : Src} : (if p then R.ok (false, D.bl true) S else R.ok (false, D.bl y) S) = R.ok (false, D.bl (decide p || y)) S := by by_cases h : p <;> simp [h]
theorem b_andP (p : Prop) [Decidable p] (y : Bool) {S : Src} : (if p then R.ok (false, D.bl y) S else R.ok (false, D.bl false) S) = R.ok (false, D.bl (decide p && y)) S := by by_cases h : p <;> simp [h]
theorem b_andN (p : Prop) [Decidable p] (y : Bool) {S : Src} : (if p then R.ok (false, D.bl false) S else R.ok (false, D.bl y) S) = R.ok (false, D.bl (!decide p && y)) S := by by_cases h : p <;> simp [h]
theorem b_or (x y : Bool) {S : Src} : (if x = true then R.ok (false, D.bl true) S else R.ok (false, D.bl y) S) = R.ok (false, D.bl (x || y)) S := by cases x <;> simp
section
variable {P : Prog} [Fu P] {m : Nat} {S : Src}
section
variable [Has P "at_most" Lib.f_at_most] [Has P "never_above" Lib.f_never_above]
theorem sp_cmin [Has P "certain_minimum" Lib.f_certain_minimum] {ks : List Nm} {b : Nm → Bd} (hs : Asc ks) (hl : ks.length < 64) : (callN P (m + 3)).call "certain_minimum" [dT ks b] S = .ok (false, dO (cmin ks b)) S := by
  have key : ∀ (x : Nm) (u : Option (Bool × D)) (q : Bool), x ∈ ks → (ks.all fun o => decide (o = x) || nab (b x) (b o)) = q → exs (callN P (m + 2)) P.xf 20000 Lib.f_certain_minimum_L1 [some (false, dT ks b), some (false, dN x), none] S = if q = true then .ret (false, dN x) S else .nxt [some (false, dT ks b), some (false, dN x), none] S := by
    intro x u q hx hq
    simp [Lib.f_certain_minimum_L1, ev, evs, evAnd, evOr, evi, evc, evo, theB, R.bind, R.calm, opB, ofO, permD, Lit.d, Gc.d, bindT, bindR, wipeR, SR.seq, exs, ex, evM, evMB, evsM, seen, freeze, ment, ments, menti, R.then, loose, isVar, ofSR, setAll, bindM, runFn, startM, List.map, List.length, List.replicate, List.append, Bool.not_true, Bool.not_false, itW_M]
    rw [lc_map dN (fun o => D.bl (decide (o = x) || nab (b x) (b o))) ks fun o ho => ⟨_, false, rfl, rfl, by simp [oc_eqN, opX_M hx, opX_M ho, sp_nab, b_orP]⟩]
    have e7 := of_all (fun o => decide (o = x) || nab (b x) (b o)) ks
    rw [hq] at e7
    cases q <;> simp [e7, D.imm]
  rw [call_fn, Lib.f_certain_minimum]
  have L := for_find (bd := bindM [1] false) (body := exs (callN P (m + 2)) P.xf 20000 Lib.f_certain_minimum_L1) (S := S) dN (fun n => ks.all fun o => decide (o = n) || nab (b n) (b o)) (fun n => (false, dN n)) (fun μ => ∃ u, μ = [some (false, dT ks b), u, none]) ks (by
    rintro x hx μ ⟨u, rfl⟩
    refine ⟨_, rfl, fun h => ?_, fun h => ⟨[some (false, dT ks b), some (false, dN x), none], ?_, _, rfl⟩⟩
    · exact (key x u true hx h).trans (if_pos rfl)
    · exact (key x u false hx h).trans (if_neg (by decide))) [some (false, dT ks b), none, none] ⟨_, rfl⟩
  rcases L with ⟨x, e1, e2⟩ | ⟨e1, μ', e2, u, rfl⟩
  · simp [ev, evs, evAnd, evOr, evi, evc, evo, theB, R.bind, R.calm, opB, ofO, permD, Lit.d, Gc.d, bindT, bindR, wipeR, SR.seq, exs, ex, evM, evMB, evsM, seen, freeze, ment, ments, menti, R.then, loose, isVar, ofSR, setAll, bindM, runFn, startM, List.map, List.length, List.replicate, List.append, Bool.not_true, Bool.not_false, of_sortM hl, srt_asc hs, items, e2, cmin, e1, dO]
  · simp [ev, evs, evAnd, evOr, evi, evc, evo, theB, R.bind, R.calm, opB, ofO, permD, Lit.d, Gc.d, bindT, bindR, wipeR, SR.seq, exs, ex, evM, evMB, evsM, seen, freeze, ment, ments, menti, R.then, loose, isVar, ofSR, setAll, bindM, runFn, startM, List.map, List.length, List.replicate, List.append, Bool.not_true, Bool.not_false, of_sortM hl, srt_asc hs, items, e2, cmin, e1, dO, D.imm]
theorem sp_asep [Has P "is_separated" Lib.f_is_separated] [Has P "all_separated" Lib.f_all_separated] {ks : List Nm} {b : Nm → Bd} (hs : Asc ks) (hl : ks.length < 64) : (callN P (m + 4)).call "all_separated" [dT ks b] S = .ok (false, .bl (allSep ks b)) S := by
  have h2 := prs_ix (fun x y => (x, y)) ks []
  rw [List.nil_append, List.length_nil] at h2
  have e2 := enumD_map dN ks 0
  rw [call_fn, Lib.f_all_separated]
  simp [ev, evs, evAnd, evOr, evi, evc, evo, theB, R.bind, R.calm, opB, ofO, permD, Lit.d, Gc.d, bindT, bindR, wipeR, SR.seq, exs, ex, evM, evMB, evsM, seen, freeze, ment, ments, menti, R.then, loose, isVar, ofSR, setAll, bindM, runFn, startM, List.map, List.length, List.replicate, List.append, Bool.not_true, Bool.not_false, of_sortM hl, srt_asc hs, D.immT, immNs]
  rw [show (0 : Int) = ((0 : Nat) : Int) from rfl, e2]
  rw [lc2_ok (fun p : Nm × Nat => D.tup [.int (p.2 : Nat), dN p.1]) (fun p => ks.drop (p.2 + 1)) dN (fun _ _ => true) (fun p y => D.bl (sep (b p.1) (b y))) (ks.zipIdx 0) fun p hp => ?_]
  · have e3 : ((ks.zipIdx 0).flatMap fun x => ((ks.drop (x.2 + 1)).filter fun _ => true).map fun y => D.bl (sep (b x.1) (b y))) = (prs ks).map fun p => D.bl (sep (b p.1) (b p.2)) := by
      have := prs_ix (fun x y => D.bl (sep (b x) (b y))) ks []
      rw [List.nil_append, List.length_nil] at this
      rw [← this]
      congr 1
      funext x
      rw [List.filter_eq_self.mpr fun _ _ => rfl]
    have e4 := of_all (fun p : Nm × Nm => sep (b p.1) (b p.2)) (prs ks)
    have e5 : ((prs ks).map fun p => D.bl (sep (b p.1) (b p.2))).length ≤ lim := by
      rw [List.length_map]
      have := prs_len ks
      have : ks.length * ks.length ≤ 64 * 64 := Nat.mul_le_mul (by omega) (by omega)
      unfold lim; omega
    rw [e3]
    simp only [e5, if_true, e4]
    simp [D.imm, allSep]
  · obtain ⟨x, i⟩ := p
    have hm : x ∈ ks := by
      have := (List.mem_zipIdx hp).2.2
      rw [this]; exact List.getElem_mem _
    refine ⟨_, rfl, rfl, ?_, fun y hy => ⟨_, rfl, rfl, fun _ => ⟨false, ?_⟩⟩⟩
    · simp [ev, evs, evAnd, evOr, evi, evc, evo, theB, R.bind, R.calm, opB, ofO, permD, Lit.d, Gc.d, bindT, bindR, wipeR, opS]
      rw [show ((i : Int) + 1) = ((i + 1 : Nat) : Int) from rfl, cut_from]
      simp [items]
    · simp [ev, evs, evAnd, evOr, evi, evc, evo, theB, R.bind, R.calm, opB, ofO, permD, Lit.d, Gc.d, bindT, bindR, wipeR, opX_M hm, opX_M (List.mem_of_mem_drop hy), sp_sep]
end
section
variable [Has P "less" Lib.f_less] [Has P "at_most" Lib.f_at_most] [Has P "is_known" Lib.f_is_known] [Has P "unknown_items" Lib.f_unknown_items]
theorem unk_mem {ks : List Nm} {b : Nm → Bd} {n : Nm} (h : n ∈ unk ks b) : n ∈ ks := (List.mem_filter.mp h).1
theorem sp_sreq [Has P "strictly_inside" Lib.f_strictly_inside] [Has P "must_contain" Lib.f_must_contain] [Has P "sort_required" Lib.f_sort_required] {ks : List Nm} {b : Nm → Bd} (hs : Asc ks) (hl : ks.length < 64) : (callN P (m + 4)).call "sort_required" [dT ks b] S = .ok (true, dNs (sReq ks b)) S := by
  have e1 := sp_unk (P := P) (m := m + 1) (S := S) (b := b) hs hl
  rw [call_fn, Lib.f_sort_required]
  refine (run_ret rfl rfl).trans ?_
  simp [ev, evs, evAnd, evOr, evi, evc, evo, theB, R.bind, R.calm, opB, ofO, permD, Lit.d, Gc.d, bindT, bindR, wipeR, e1, items]
  rw [lc_ok dN (fun n => ks.any fun o => !decide (o = n) && mc (b n) (b o)) dN (unk ks b) fun n hn => ⟨_, rfl, ?_, fun _ => ⟨false, by simp [ev, evs, evAnd, evOr, evi, evc, evo, theB, R.bind, R.calm, opB, ofO, permD, Lit.d, Gc.d, bindT, bindR, wipeR]⟩⟩]
  · rfl
  · simp [ev, evs, evAnd, evOr, evi, evc, evo, theB, R.bind, R.calm, opB, ofO, permD, Lit.d, Gc.d, bindT, bindR, wipeR, itW_M]
    rw [lc_map dN (fun o => D.bl (!decide (o = n) && mc (b n) (b o))) ks fun o ho => ⟨_, false, rfl, rfl, by simp [oc_neN, opX_M (unk_mem hn), opX_M ho, sp_mc, b_andN]⟩]
    have e7 := of_any (fun o => !decide (o = n) && mc (b n) (b o)) ks
    simp [e7]
theorem low_mem {ks : List Nm} {b : Nm → Bd} {n : Nm} (h : n ∈ lowst ks b) : n ∈ ks := unk_mem (List.mem_filter.mp h).1
theorem frn_mem {ks : List Nm} {b : Nm → Bd} {n : Nm} (h : n ∈ frn ks b) : n ∈ ks := by
  unfold frn at h
  split at h
  · cases h
  · rename_i x l e
    split at h
    · cases h
    · rw [← e] at h; exact low_mem h
theorem sp_frn [Has P "frontier" Lib.f_frontier] {ks : List Nm} {b : Nm → Bd} (hs : Asc ks) (hl : ks.length < 64) : (callN P (m + 3)).call "frontier" [dT ks b] S = .ok (true, dNs (frn ks b)) S := by
  have e1 := sp_unk (P := P) (m := m) (S := S) (b := b) hs hl
  rw [call_fn, Lib.f_frontier]
  simp [ev, evs, evAnd, evOr, evi, evc, evo, theB, R.bind, R.calm, opB, ofO, permD, Lit.d, Gc.d, bindT, bindR, wipeR, SR.seq, exs, ex, evM, evMB, evsM, seen, freeze, ment, ments, menti, R.then, loose, isVar, ofSR, setAll, bindM, runFn, startM, List.map, List.length, List.replicate, List.append, Bool.not_true, Bool.not_false, e1, D.immT, immNs, itW_L]
  rw [lc_ok dN (fun n => (unk ks b).all fun o => leF (b n).1 (b o).1) dN (unk ks b) fun n hn => ⟨_, rfl, ?_, fun _ => ⟨false, by simp [ev, evs, evAnd, evOr, evi, evc, evo, theB, R.bind, R.calm, opB, ofO, permD, Lit.d, Gc.d, bindT, bindR, wipeR]⟩⟩]
  · rw [show (List.filter (fun n => (unk ks b).all fun o => leF (b n).1 (b o).1) (unk ks b)) = lowst ks b from rfl]
    cases hq : lowst ks b with
    | nil =>
      have e2 := oc_nil []
      rw [List.map_nil] at e2
      simp [ev, evs, evAnd, evOr, evi, evc, evo, theB, R.bind, R.calm, opB, ofO, permD, Lit.d, Gc.d, bindT, bindR, wipeR, SR.seq, exs, ex, evM, evMB, evsM, seen, freeze, ment, ments, menti, R.then, loose, isVar, ofSR, setAll, bindM, runFn, startM, List.map, List.length, List.replicate, List.append, Bool.not_true, Bool.not_false, immL, e2, frn, hq, D.imm, D.immT]
    | cons x l =>
      have hx : x ∈ ks := low_mem (by rw [hq]; exact List.mem_cons_self ..)
      have e2 := oc_nil (x :: l)
      rw [List.map_cons] at e2
      simp [ev, evs, evAnd, evOr, evi, evc, evo, theB, R.bind, R.calm, opB, ofO, permD, Lit.d, Gc.d, bindT, bindR, wipeR, SR.seq, exs, ex, evM, evMB, evsM, seen, freeze, ment, ments, menti, R.then, loose, isVar, ofSR, setAll, bindM, runFn, startM, List.map, List.length, List.replicate, List.append, Bool.not_true, Bool.not_false, immL, immN, immNs, e2, opX_l0, opX_M hx, opX_B0, itW_M, D.imm, immF, D.immT]
      rw [lc_map dN (fun n => D.bl (knw (b n) && leF (b n).1 (b x).1)) ks fun n hn => ⟨_, false, rfl, rfl, by simp [ev, evs, evAnd, evOr, evi, evc, evo, theB, R.bind, R.calm, opB, ofO, permD, Lit.d, Gc.d, bindT, bindR, wipeR, opX_M hn, sp_knw, opX_B0, sp_atm, b_and]⟩]
      have e7 := of_any (fun n => knw (b n) && leF (b n).1 (b x).1) ks
      cases hy : ks.any fun n => knw (b n) && leF (b n).1 (b x).1 <;> rw [hy] at e7 <;> simp [e7, frn, hq, hy, D.imm, SR.seq, exs, ex, evM, evMB, evsM, seen, freeze, ment, ments, menti, R.then, loose, isVar, ofSR, setAll, bindM, runFn, startM, List.map, List.length, List.replicate, List.append, Bool.not_true, Bool.not_false, ev, evs, evAnd, evOr, evi, evc, evo, theB, R.bind, R.calm, opB, ofO, permD, Lit.d, Gc.d, bindT, bindR, wipeR]
  · simp [ev, evs, evAnd, evOr, evi, evc, evo, theB, R.bind, R.calm, opB, ofO, permD, Lit.d, Gc.d, bindT, bindR, wipeR, itW_L]
    rw [lc_map dN (fun o => D.bl (leF (b n).1 (b o).1)) (unk ks b) fun o ho => ⟨_, false, rfl, rfl, by simp [ev, evs, evAnd, evOr, evi, evc, evo, theB, R.bind, R.calm, opB, ofO, permD, Lit.d, Gc.d, bindT, bindR, wipeR, opX_M (unk_mem hn), opX_M (unk_mem ho), opX_B0, sp_atm]⟩]
    have e7 := of_all (fun o => leF (b n).1 (b o).1) (unk ks b)
    simp [e7]
theorem sp_mreq [Has P "frontier" Lib.f_frontier] [Has P "blocks" Lib.f_blocks] [Has P "minimum_required" Lib.f_minimum_required] {ks : List Nm} {b : Nm → Bd} (hs : Asc ks) (hl : ks.length < 64) : (callN P (m + 4)).call "minimum_required" [dT ks b] S = .ok (true, dNs (mReq ks b)) S := by
  have e1 := sp_frn (P := P) (m := m) (S := S) (b := b) hs hl
  rw [call_fn, Lib.f_minimum_required]
  refine (run_ret rfl rfl).trans ?_
  simp [ev, evs, evAnd, evOr, evi, evc, evo, theB, R.bind, R.calm, opB, ofO, permD, Lit.d, Gc.d, bindT, bindR, wipeR, e1, items]
  rw [lc_ok dN (fun n => ks.any fun o => !decide (o = n) && blk (b n) (b o)) dN (frn ks b) fun n hn => ⟨_, rfl, ?_, fun _ => ⟨false, by simp [ev, evs, evAnd, evOr, evi, evc, evo, theB, R.bind, R.calm, opB, ofO, permD, Lit.d, Gc.d, bindT, bindR, wipeR]⟩⟩]
  · rfl
  · simp [ev, evs, evAnd, evOr, evi, evc, evo, theB, R.bind, R.calm, opB, ofO, permD, Lit.d, Gc.d, bindT, bindR, wipeR, itW_M]
    rw [lc_map dN (fun o => D.bl (!decide (o = n) && blk (b n) (b o))) ks fun o ho => ⟨_, false, rfl, rfl, by simp [oc_neN, opX_M (frn_mem hn), opX_M ho, sp_blk, b_andN]⟩]
    have e7 := of_any (fun o => !decide (o = n) && blk (b n) (b o)) ks
    simp [e7]
end
/-! ### the functions of the interface -/
section
variable [Has P "gcd" Lib.f_gcd] [Has P "require_fraction" Lib.f_require_fraction] [Has P "less" Lib.f_less] [Has P "at_most" Lib.f_at_most] [Has P "negated" Lib.f_negated] [Has P "is_name" Lib.f_is_name] [Has P "require_intervals" Lib.f_require_intervals] [Has P "by_name" Lib.f_by_name] [Has P "strictly_inside" Lib.f_strictly_inside] [Has P "mirrored" Lib.f_mirrored] [Has P "query_items" Lib.f_query_items] [Has P "is_query" Lib.f_is_query] [Has P "require_queries" Lib.f_require_queries] [Has P "relevant" Lib.f_relevant]
theorem sp_cin [Has P "never_above" Lib.f_never_above] [Has P "is_separated" Lib.f_is_separated] [Has P "certain_minimum" Lib.f_certain_minimum] [Has P "all_separated" Lib.f_all_separated] [Has P "certain_in" Lib.f_certain_in] {ks : List Nm} {b : Nm → Bd} {q : Qy} (h : QOk ks q) : (callN P (m + 5)).call "certain_in" [dT ks b, dQ q] S = .ok (false, .bl (cin b q)) S := by
  have e1 := sp_rel (P := P) (m := m + 2) (S := S) (b := fun n => dB (b n)) h
  obtain ⟨h1, h2, h3, h4⟩ := h
  obtain ⟨hs, hl⟩ := asc_len h2 h4
  have im : ∀ (ks : List Nm) (b : Nm → Bd), (dT ks b).immT = true := fun ks b => immTM fun x _ => immB _
  rw [call_fn, Lib.f_certain_in]
  cases q with
  | ord k ns =>
    cases k with
    | sort =>
      have e2 := sp_asep (P := P) (m := m) (S := S) (b := b) hs hl
      simp [ev, evs, evAnd, evOr, evi, evc, evo, theB, R.bind, R.calm, opB, ofO, permD, Lit.d, Gc.d, bindT, bindR, wipeR, SR.seq, exs, ex, evM, evMB, evsM, seen, freeze, ment, ments, menti, R.then, loose, isVar, ofSR, setAll, bindM, runFn, startM, List.map, List.length, List.replicate, List.append, Bool.not_true, Bool.not_false, e1, im, Qy.ns] at e2 ⊢
      simp [ev, evs, evAnd, evOr, evi, evc, evo, theB, R.bind, R.calm, opB, ofO, permD, Lit.d, Gc.d, bindT, bindR, wipeR, SR.seq, exs, ex, evM, evMB, evsM, seen, freeze, ment, ments, menti, R.then, loose, isVar, ofSR, setAll, bindM, runFn, startM, List.map, List.length, List.replicate, List.append, Bool.not_true, Bool.not_false, dQ, Kd.s, opX_t0, ock_sort_sort, ocn_sort_sort, ock_sort_min, ocn_sort_min, ock_sort_max, ocn_sort_max, ock_sort_above, ocn_sort_above, ock_sort_compare, ocn_sort_compare, oci_sort, ocj_sort, ocx_sort, ock_min_sort, ocn_min_sort, ock_min_min, ocn_min_min, ock_min_max, ocn_min_max, ock_min_above, ocn_min_above, ock_min_compare, ocn_min_compare, oci_min, ocj_min, ocx_min, ock_max_sort, ocn_max_sort, ock_max_min, ocn_max_min, ock_max_max, ocn_max_max, ock_max_above, ocn_max_above, ock_max_compare, ocn_max_compare, oci_max, ocj_max, ocx_max, ock_above_sort, ocn_above_sort, ock_above_min, ocn_above_min, ock_above_max, ocn_above_max, ock_above_above, ocn_above_above, ock_above_compare, ocn_above_compare, oci_above, ocj_above, ocx_above, ock_compare_sort, ocn_compare_sort, ock_compare_min, ocn_compare_min, ock_compare_max, ocn_compare_max, ock_compare_above, ocn_compare_above, ock_compare_compare, ocn_compare_compare, oci_compare, ocj_compare, ocx_compare, D.imm, e2, cin]
    | min =>
      have e2 := sp_cmin (P := P) (m := m + 1) (S := S) (b := b) hs hl
      simp [ev, evs, evAnd, evOr, evi, evc, evo, theB, R.bind, R.calm, opB, ofO, permD, Lit.d, Gc.d, bindT, bindR, wipeR, SR.seq, exs, ex, evM, evMB, evsM, seen, freeze, ment, ments, menti, R.then, loose, isVar, ofSR, setAll, bindM, runFn, startM, List.map, List.length, List.replicate, List.append, Bool.not_true, Bool.not_false, e1, im, Qy.ns] at e2 ⊢
      simp [ev, evs, evAnd, evOr, evi, evc, evo, theB, R.bind, R.calm, opB, ofO, permD, Lit.d, Gc.d, bindT, bindR, wipeR, SR.seq, exs, ex, evM, evMB, evsM, seen, freeze, ment, ments, menti, R.then, loose, isVar, ofSR, setAll, bindM, runFn, startM, List.map, List.length, List.replicate, List.append, Bool.not_true, Bool.not_false, dQ, Kd.s, opX_t0, ock_sort_sort, ocn_sort_sort, ock_sort_min, ocn_sort_min, ock_sort_max, ocn_sort_max, ock_sort_above, ocn_sort_above, ock_sort_compare, ocn_sort_compare, oci_sort, ocj_sort, ocx_sort, ock_min_sort, ocn_min_sort, ock_min_min, ocn_min_min, ock_min_max, ocn_min_max, ock_min_above, ocn_min_above, ock_min_compare, ocn_min_compare, oci_min, ocj_min, ocx_min, ock_max_sort, ocn_max_sort, ock_max_min, ocn_max_min, ock_max_max, ocn_max_max, ock_max_above, ocn_max_above, ock_max_compare, ocn_max_compare, oci_max, ocj_max, ocx_max, ock_above_sort, ocn_above_sort, ock_above_min, ocn_above_min, ock_above_max, ocn_above_max, ock_above_above, ocn_above_above, ock_above_compare, ocn_above_compare, oci_above, ocj_above, ocx_above, ock_compare_sort, ocn_compare_sort, ock_compare_min, ocn_compare_min, ock_compare_max, ocn_compare_max, ock_compare_above, ocn_compare_above, ock_compare_compare, ocn_compare_compare, oci_compare, ocj_compare, ocx_compare, D.imm, e2, cin]
      cases cmin (srt ns) b <;> simp [dO, opC, isNon, dN_str, D.imm]
    | max =>
      have e2 := sp_cmin (P := P) (m := m + 1) (S := S) (b := fun n => ngB (b n)) hs hl
      have e3 := sp_mirrored (P := P) (m := m + 2) (S := S) (b := b) (nodup_asc hs)
      simp [ev, evs, evAnd, evOr, evi, evc, evo, theB, R.bind, R.calm, opB, ofO, permD, Lit.d, Gc.d, bindT, bindR, wipeR, SR.seq, exs, ex, evM, evMB, evsM, seen, freeze, ment, ments, menti, R.then, loose, isVar, ofSR, setAll, bindM, runFn, startM, List.map, List.length, List.replicate, List.append, Bool.not_true, Bool.not_false, e1, im, Qy.ns] at e2 e3 ⊢
      simp [ev, evs, evAnd, evOr, evi, evc, evo, theB, R.bind, R.calm, opB, ofO, permD, Lit.d, Gc.d, bindT, bindR, wipeR, SR.seq, exs, ex, evM, evMB, evsM, seen, freeze, ment, ments, menti, R.then, loose, isVar, ofSR, setAll, bindM, runFn, startM, List.map, List.length, List.replicate, List.append, Bool.not_true, Bool.not_false, dQ, Kd.s, opX_t0, ock_sort_sort, ocn_sort_sort, ock_sort_min, ocn_sort_min, ock_sort_max, ocn_sort_max, ock_sort_above, ocn_sort_above, ock_sort_compare, ocn_sort_compare, oci_sort, ocj_sort, ocx_sort, ock_min_sort, ocn_min_sort, ock_min_min, ocn_min_min, ock_min_max, ocn_min_max, ock_min_above, ocn_min_above, ock_min_compare, ocn_min_compare, oci_min, ocj_min, ocx_min, ock_max_sort, ocn_max_sort, ock_max_min, ocn_max_min, ock_max_max, ocn_max_max, ock_max_above, ocn_max_above, ock_max_compare, ocn_max_compare, oci_max, ocj_max, ocx_max, ock_above_sort, ocn_above_sort, ock_above_min, ocn_above_min, ock_above_max, ocn_above_max, ock_above_above, ocn_above_above, ock_above_compare, ocn_above_compare, oci_above, ocj_above, ocx_above, ock_compare_sort, ocn_compare_sort, ock_compare_min, ocn_compare_min, ock_compare_max, ocn_compare_max, ock_compare_above, ocn_compare_above, ock_compare_compare, ocn_compare_compare, oci_compare, ocj_compare, ocx_compare, D.imm, e2, e3, cin]
      cases cmin (srt ns) (fun n => ngB (b n)) <;> simp [dO, opC, isNon, dN_str, D.imm]
  | abv ns v =>
    simp [ev, evs, evAnd, evOr, evi, evc, evo, theB, R.bind, R.calm, opB, ofO, permD, Lit.d, Gc.d, bindT, bindR, wipeR, SR.seq, exs, ex, evM, evMB, evsM, seen, freeze, ment, ments, menti, R.then, loose, isVar, ofSR, setAll, bindM, runFn, startM, List.map, List.length, List.replicate, List.append, Bool.not_true, Bool.not_false, e1, im, Qy.ns]
    simp [ev, evs, evAnd, evOr, evi, evc, evo, theB, R.bind, R.calm, opB, ofO, permD, Lit.d, Gc.d, bindT, bindR, wipeR, SR.seq, exs, ex, evM, evMB, evsM, seen, freeze, ment, ments, menti, R.then, loose, isVar, ofSR, setAll, bindM, runFn, startM, List.map, List.length, List.replicate, List.append, Bool.not_true, Bool.not_false, dQ, opX_t0, ock_sort_sort, ocn_sort_sort, ock_sort_min, ocn_sort_min, ock_sort_max, ocn_sort_max, ock_sort_above, ocn_sort_above, ock_sort_compare, ocn_sort_compare, oci_sort, ocj_sort, ocx_sort, ock_min_sort, ocn_min_sort, ock_min_min, ocn_min_min, ock_min_max, ocn_min_max, ock_min_above, ocn_min_above, ock_min_compare, ocn_min_compare, oci_min, ocj_min, ocx_min, ock_max_sort, ocn_max_sort, ock_max_min, ocn_max_min, ock_max_max, ocn_max_max, ock_max_above, ocn_max_above, ock_max_compare, ocn_max_compare, oci_max, ocj_max, ocx_max, ock_above_sort, ocn_above_sort, ock_above_min, ocn_above_min, ock_above_max, ocn_above_max, ock_above_above, ocn_above_above, ock_above_compare, ocn_above_compare, oci_above, ocj_above, ocx_above, ock_compare_sort, ocn_compare_sort, ock_compare_min, ocn_compare_min, ock_compare_max, ocn_compare_max, ock_compare_above, ocn_compare_above, ock_compare_compare, ocn_compare_compare, oci_compare, ocj_compare, ocx_compare, D.imm, cin, itW_M]
    rw [lc_map dN (fun n => D.bl (ins v (b n))) (srt ns) fun n hn => ⟨_, false, rfl, rfl, by simp [ev, evs, evAnd, evOr, evi, evc, evo, theB, R.bind, R.calm, opB, ofO, permD, Lit.d, Gc.d, bindT, bindR, wipeR, opX_M hn, opX_t2, sp_ins]⟩]
    have e7 := of_any (fun n => ins v (b n)) (srt ns)
    simp [e7, D.imm]
  | cmp x y =>
    have e2 := sp_asep (P := P) (m := m) (S := S) (b := b) hs hl
    simp [ev, evs, evAnd, evOr, evi, evc, evo, theB, R.bind, R.calm, opB, ofO, permD, Lit.d, Gc.d, bindT, bindR, wipeR, SR.seq, exs, ex, evM, evMB, evsM, seen, freeze, ment, ments, menti, R.then, loose, isVar, ofSR, setAll, bindM, runFn, startM, List.map, List.length, List.replicate, List.append, Bool.not_true, Bool.not_false, e1, im, Qy.ns] at e2 ⊢
    simp [ev, evs, evAnd, evOr, evi, evc, evo, theB, R.bind, R.calm, opB, ofO, permD, Lit.d, Gc.d, bindT, bindR, wipeR, SR.seq, exs, ex, evM, evMB, evsM, seen, freeze, ment, ments, menti, R.then, loose, isVar, ofSR, setAll, bindM, runFn, startM, List.map, List.length, List.replicate, List.append, Bool.not_true, Bool.not_false, dQ, opX_t0, ock_sort_sort, ocn_sort_sort, ock_sort_min, ocn_sort_min, ock_sort_max, ocn_sort_max, ock_sort_above, ocn_sort_above, ock_sort_compare, ocn_sort_compare, oci_sort, ocj_sort, ocx_sort, ock_min_sort, ocn_min_sort, ock_min_min, ocn_min_min, ock_min_max, ocn_min_max, ock_min_above, ocn_min_above, ock_min_compare, ocn_min_compare, oci_min, ocj_min, ocx_min, ock_max_sort, ocn_max_sort, ock_max_min, ocn_max_min, ock_max_max, ocn_max_max, ock_max_above, ocn_max_above, ock_max_compare, ocn_max_compare, oci_max, ocj_max, ocx_max, ock_above_sort, ocn_above_sort, ock_above_min, ocn_above_min, ock_above_max, ocn_above_max, ock_above_above, ocn_above_above, ock_above_compare, ocn_above_compare, oci_above, ocj_above, ocx_above, ock_compare_sort, ocn_compare_sort, ock_compare_min, ocn_compare_min, ock_compare_max, ocn_compare_max, ock_compare_above, ocn_compare_above, ock_compare_compare, ocn_compare_compare, oci_compare, ocj_compare, ocx_compare, D.imm, e2, cin]
theorem sp_rin [Has P "is_known" Lib.f_is_known] [Has P "must_contain" Lib.f_must_contain] [Has P "unknown_items" Lib.f_unknown_items] [Has P "sort_required" Lib.f_sort_required] [Has P "frontier" Lib.f_frontier] [Has P "blocks" Lib.f_blocks] [Has P "minimum_required" Lib.f_minimum_required] [Has P "required_in" Lib.f_required_in] {ks : List Nm} {b : Nm → Bd} {q : Qy} (h : QOk ks q) : (callN P (m + 5)).call "required_in" [dT ks b, dQ q] S = .ok (true, dNs (rin b q)) S := by
  have e1 := sp_rel (P := P) (m := m + 2) (S := S) (b := fun n => dB (b n)) h
  obtain ⟨h1, h2, h3, h4⟩ := h
  obtain ⟨hs, hl⟩ := asc_len h2 h4
  have im : ∀ (ks : List Nm) (b : Nm → Bd), (dT ks b).immT = true := fun ks b => immTM fun x _ => immB _
  rw [call_fn, Lib.f_required_in]
  cases q with
  | ord k ns =>
    cases k with
    | sort =>
      have e2 := sp_sreq (P := P) (m := m) (S := S) (b := b) hs hl
      simp [ev, evs, evAnd, evOr, evi, evc, evo, theB, R.bind, R.calm, opB, ofO, permD, Lit.d, Gc.d, bindT, bindR, wipeR, SR.seq, exs, ex, evM, evMB, evsM, seen, freeze, ment, ments, menti, R.then, loose, isVar, ofSR, setAll, bindM, runFn, startM, List.map, List.length, List.replicate, List.append, Bool.not_true, Bool.not_false, e1, im, Qy.ns] at e2 ⊢
      simp [ev, evs, evAnd, evOr, evi, evc, evo, theB, R.bind, R.calm, opB, ofO, permD, Lit.d, Gc.d, bindT, bindR, wipeR, SR.seq, exs, ex, evM, evMB, evsM, seen, freeze, ment, ments, menti, R.then, loose, isVar, ofSR, setAll, bindM, runFn, startM, List.map, List.length, List.replicate, List.append, Bool.not_true, Bool.not_false, dQ, Kd.s, opX_t0, ock_sort_sort, ocn_sort_sort, ock_sort_min, ocn_sort_min, ock_sort_max, ocn_sort_max, ock_sort_above, ocn_sort_above, ock_sort_compare, ocn_sort_compare, oci_sort, ocj_sort, ocx_sort, ock_min_sort, ocn_min_sort, ock_min_min, ocn_min_min, ock_min_max, ocn_min_max, ock_min_above, ocn_min_above, ock_min_compare, ocn_min_compare, oci_min, ocj_min, ocx_min, ock_max_sort, ocn_max_sort, ock_max_min, ocn_max_min, ock_max_max, ocn_max_max, ock_max_above, ocn_max_above, ock_max_compare, ocn_max_compare, oci_max, ocj_max, ocx_max, ock_above_sort, ocn_above_sort, ock_above_min, ocn_above_min, ock_above_max, ocn_above_max, ock_above_above, ocn_above_above, ock_above_compare, ocn_above_compare, oci_above, ocj_above, ocx_above, ock_compare_sort, ocn_compare_sort, ock_compare_min, ocn_compare_min, ock_compare_max, ocn_compare_max, ock_compare_above, ocn_compare_above, ock_compare_compare, ocn_compare_compare, oci_compare, ocj_compare, ocx_compare, D.imm, D.immT, immNs, e2, rin]
    | min =>
      have e2 := sp_mreq (P := P) (m := m) (S := S) (b := b) hs hl
      simp [ev, evs, evAnd, evOr, evi, evc, evo, theB, R.bind, R.calm, opB, ofO, permD, Lit.d, Gc.d, bindT, bindR, wipeR, SR.seq, exs, ex, evM, evMB, evsM, seen, freeze, ment, ments, menti, R.then, loose, isVar, ofSR, setAll, bindM, runFn, startM, List.map, List.length, List.replicate, List.append, Bool.not_true, Bool.not_false, e1, im, Qy.ns] at e2 ⊢
      simp [ev, evs, evAnd, evOr, evi, evc, evo, theB, R.bind, R.calm, opB, ofO, permD, Lit.d, Gc.d, bindT, bindR, wipeR, SR.seq, exs, ex, evM, evMB, evsM, seen, freeze, ment, ments, menti, R.then, loose, isVar, ofSR, setAll, bindM, runFn, startM, List.map, List.length, List.replicate, List.append, Bool.not_true, Bool.not_false, dQ, Kd.s, opX_t0, ock_sort_sort, ocn_sort_sort, ock_sort_min, ocn_sort_min, ock_sort_max, ocn_sort_max, ock_sort_above, ocn_sort_above, ock_sort_compare, ocn_sort_compare, oci_sort, ocj_sort, ocx_sort, ock_min_sort, ocn_min_sort, ock_min_min, ocn_min_min, ock_min_max, ocn_min_max, ock_min_above, ocn_min_above, ock_min_compare, ocn_min_compare, oci_min, ocj_min, ocx_min, ock_max_sort, ocn_max_sort, ock_max_min, ocn_max_min, ock_max_max, ocn_max_max, ock_max_above, ocn_max_above, ock_max_compare, ocn_max_compare, oci_max, ocj_max, ocx_max, ock_above_sort, ocn_above_sort, ock_above_min, ocn_above_min, ock_above_max, ocn_above_max, ock_above_above, ocn_above_above, ock_above_compare, ocn_above_compare, oci_above, ocj_above, ocx_above, ock_compare_sort, ocn_compare_sort, ock_compare_min, ocn_compare_min, ock_compare_max, ocn_compare_max, ock_compare_above, ocn_compare_above, ock_compare_compare, ocn_compare_compare, oci_compare, ocj_compare, ocx_compare, D.imm, D.immT, immNs, e2, rin]
    | max =>
      have e2 := sp_mreq (P := P) (m := m) (S := S) (b := fun n => ngB (b n)) hs hl
      have e3 := sp_mirrored (P := P) (m := m + 2) (S := S) (b := b) (nodup_asc hs)
      simp [ev, evs, evAnd, evOr, evi, evc, evo, theB, R.bind, R.calm, opB, ofO, permD, Lit.d, Gc.d, bindT, bindR, wipeR, SR.seq, exs, ex, evM, evMB, evsM, seen, freeze, ment, ments, menti, R.then, loose, isVar, ofSR, setAll, bindM, runFn, startM, List.map, List.length, List.replicate, List.append, Bool.not_true, Bool.not_false, e1, im, Qy.ns] at e2 e3 ⊢
      simp [ev, evs, evAnd, evOr, evi, evc, evo, theB, R.bind, R.calm, opB, ofO, permD, Lit.d, Gc.d, bindT, bindR, wipeR, SR.seq, exs, ex, evM, evMB, evsM, seen, freeze, ment, ments, menti, R.then, loose, isVar, ofSR, setAll, bindM, runFn, startM, List.map, List.length, List.replicate, List.append, Bool.not_true, Bool.not_false, dQ, Kd.s, opX_t0, ock_sort_sort, ocn_sort_sort, ock_sort_min, ocn_sort_min, ock_sort_max, ocn_sort_max, ock_sort_above, ocn_sort_above, ock_sort_compare, ocn_sort_compare, oci_sort, ocj_sort, ocx_sort, ock_min_sort, ocn_min_sort, ock_min_min, ocn_min_min, ock_min_max, ocn_min_max, ock_min_above, ocn_min_above, ock_min_compare, ocn_min_compare, oci_min, ocj_min, ocx_min, ock_max_sort, ocn_max_sort, ock_max_min, ocn_max_min, ock_max_max, ocn_max_max, ock_max_above, ocn_max_above, ock_max_compare, ocn_max_compare, oci_max, ocj_max, ocx_max, ock_above_sort, ocn_above_sort, ock_above_min, ocn_above_min, ock_above_max, ocn_above_max, ock_above_above, ocn_above_above, ock_above_compare, ocn_above_compare, oci_above, ocj_above, ocx_above, ock_compare_sort, ocn_compare_sort, ock_compare_min, ocn_compare_min, ock_compare_max, ocn_compare_max, ock_compare_above, ocn_compare_above, ock_compare_compare, ocn_compare_compare, oci_compare, ocj_compare, ocx_compare, D.imm, D.immT, immNs, e2, e3, rin]
  | abv ns v =>
    simp [ev, evs, evAnd, evOr, evi, evc, evo, theB, R.bind, R.calm, opB, ofO, permD, Lit.d, Gc.d, bindT, bindR, wipeR, SR.seq, exs, ex, evM, evMB, evsM, seen, freeze, ment, ments, menti, R.then, loose, isVar, ofSR, setAll, bindM, runFn, startM, List.map, List.length, List.replicate, List.append, Bool.not_true, Bool.not_false, e1, im, Qy.ns]
    simp [ev, evs, evAnd, evOr, evi, evc, evo, theB, R.bind, R.calm, opB, ofO, permD, Lit.d, Gc.d, bindT, bindR, wipeR, SR.seq, exs, ex, evM, evMB, evsM, seen, freeze, ment, ments, menti, R.then, loose, isVar, ofSR, setAll, bindM, runFn, startM, List.map, List.length, List.replicate, List.append, Bool.not_true, Bool.not_false, dQ, opX_t0, ock_sort_sort, ocn_sort_sort, ock_sort_min, ocn_sort_min, ock_sort_max, ocn_sort_max, ock_sort_above, ocn_sort_above, ock_sort_compare, ocn_sort_compare, oci_sort, ocj_sort, ocx_sort, ock_min_sort, ocn_min_sort, ock_min_min, ocn_min_min, ock_min_max, ocn_min_max, ock_min_above, ocn_min_above, ock_min_compare, ocn_min_compare, oci_min, ocj_min, ocx_min, ock_max_sort, ocn_max_sort, ock_max_min, ocn_max_min, ock_max_max, ocn_max_max, ock_max_above, ocn_max_above, ock_max_compare, ocn_max_compare, oci_max, ocj_max, ocx_max, ock_above_sort, ocn_above_sort, ock_above_min, ocn_above_min, ock_above_max, ocn_above_max, ock_above_above, ocn_above_above, ock_above_compare, ocn_above_compare, oci_above, ocj_above, ocx_above, ock_compare_sort, ocn_compare_sort, ock_compare_min, ocn_compare_min, ock_compare_max, ocn_compare_max, ock_compare_above, ocn_compare_above, ock_compare_compare, ocn_compare_compare, oci_compare, ocj_compare, ocx_compare, D.imm, rin, itW_M]
    rw [lc_ok dN (fun n => ins v (b n)) dN (srt ns) fun n hn => ⟨_, rfl, by simp [ev, evs, evAnd, evOr, evi, evc, evo, theB, R.bind, R.calm, opB, ofO, permD, Lit.d, Gc.d, bindT, bindR, wipeR, opX_M hn, opX_t2, sp_ins], fun _ => ⟨false, by simp [ev, evs, evAnd, evOr, evi, evc, evo, theB, R.bind, R.calm, opB, ofO, permD, Lit.d, Gc.d, bindT, bindR, wipeR]⟩⟩]
  | cmp x y =>
    have e2 := sp_sreq (P := P) (m := m) (S := S) (b := b) hs hl
    simp [ev, evs, evAnd, evOr, evi, evc, evo, theB, R.bind, R.calm, opB, ofO, permD, Lit.d, Gc.d, bindT, bindR, wipeR, SR.seq, exs, ex, evM, evMB, evsM, seen, freeze, ment, ments, menti, R.then, loose, isVar, ofSR, setAll, bindM, runFn, startM, List.map, List.length, List.replicate, List.append, Bool.not_true, Bool.not_false, e1, im, Qy.ns] at e2 ⊢
    simp [ev, evs, evAnd, evOr, evi, evc, evo, theB, R.bind, R.calm, opB, ofO, permD, Lit.d, Gc.d, bindT, bindR, wipeR, SR.seq, exs, ex, evM, evMB, evsM, seen, freeze, ment, ments, menti, R.then, loose, isVar, ofSR, setAll, bindM, runFn, startM, List.map, List.length, List.replicate, List.append, Bool.not_true, Bool.not_false, dQ, opX_t0, ock_sort_sort, ocn_sort_sort, ock_sort_min, ocn_sort_min, ock_sort_max, ocn_sort_max, ock_sort_above, ocn_sort_above, ock_sort_compare, ocn_sort_compare, oci_sort, ocj_sort, ocx_sort, ock_min_sort, ocn_min_sort, ock_min_min, ocn_min_min, ock_min_max, ocn_min_max, ock_min_above, ocn_min_above, ock_min_compare, ocn_min_compare, oci_min, ocj_min, ocx_min, ock_max_sort, ocn_max_sort, ock_max_min, ocn_max_min, ock_max_max, ocn_max_max, ock_max_above, ocn_max_above, ock_max_compare, ocn_max_compare, oci_max, ocj_max, ocx_max, ock_above_sort, ocn_above_sort, ock_above_min, ocn_above_min, ock_above_max, ocn_above_max, ock_above_above, ocn_above_above, ock_above_compare, ocn_above_compare, oci_above, ocj_above, ocx_above, ock_compare_sort, ocn_compare_sort, ock_compare_min, ocn_compare_min, ock_compare_max, ocn_compare_max, ock_compare_above, ocn_compare_above, ock_compare_compare, ocn_compare_compare, oci_compare, ocj_compare, ocx_compare, D.imm, D.immT, immNs, e2, rin]
theorem sp_rq1 {ks : List Nm} {b : Nm → D} {q : Qy} (h : QOk ks q) : (callN P (m + 3)).call "require_queries" [.lst [dQ q], dM ks b] S = .ok (false, .non) S := sp_rq (qs := [q]) (by simp) (by simpa using h)
theorem sp_isc [Has P "never_above" Lib.f_never_above] [Has P "is_separated" Lib.f_is_separated] [Has P "certain_minimum" Lib.f_certain_minimum] [Has P "all_separated" Lib.f_all_separated] [Has P "certain_in" Lib.f_certain_in] [Has P "is_certain" Lib.f_is_certain] {ks : List Nm} {b : Nm → Bd} {q : Qy} (hr : RowsOk ks b) (h : QOk ks q) : (callN P (m + 6)).call "is_certain" [.lst (ks.map (dR b)), dQ q] S = .ok (false, .bl (cin b q)) S := by
  have im : ∀ (ks : List Nm) (b : Nm → Bd), (dT ks b).immT = true := fun ks b => immTM fun x _ => immB _
  have e1 := sp_ri (P := P) (m := m + 2) (S := S) hr
  have e2 := sp_byname (P := P) (m := m + 4) (S := S) (b := b) (nodup_asc hr.1)
  have e3 := sp_rq1 (P := P) (m := m + 2) (S := S) (b := fun n => dB (b n)) h
  have e4 := sp_cin (P := P) (m := m) (S := S) (b := b) h
  rw [call_fn, Lib.f_is_certain]
  simp [ev, evs, evAnd, evOr, evi, evc, evo, theB, R.bind, R.calm, opB, ofO, permD, Lit.d, Gc.d, bindT, bindR, wipeR, SR.seq, exs, ex, evM, evMB, evsM, seen, freeze, ment, ments, menti, R.then, loose, isVar, ofSR, setAll, bindM, runFn, startM, List.map, List.length, List.replicate, List.append, Bool.not_true, Bool.not_false, e1, e2, e3, e4, im, D.imm]
theorem sp_allc [Has P "never_above" Lib.f_never_above] [Has P "is_separated" Lib.f_is_separated] [Has P "certain_minimum" Lib.f_certain_minimum] [Has P "all_separated" Lib.f_all_separated] [Has P "certain_in" Lib.f_certain_in] [Has P "all_certain" Lib.f_all_certain] {ks : List Nm} {b : Nm → Bd} {qs : List Qy} (hr : RowsOk ks b) (hl : qs.length ≤ 8) (h : ∀ q ∈ qs, QOk ks q) : (callN P (m + 6)).call "all_certain" [.lst (ks.map (dR b)), .lst (qs.map dQ)] S = .ok (false, .bl (qs.all (cin b))) S := by
  have im : ∀ (ks : List Nm) (b : Nm → Bd), (dT ks b).immT = true := fun ks b => immTM fun x _ => immB _
  have e1 := sp_ri (P := P) (m := m + 2) (S := S) hr
  have e2 := sp_byname (P := P) (m := m + 4) (S := S) (b := b) (nodup_asc hr.1)
  have e3 := sp_rq (P := P) (m := m + 2) (S := S) (b := fun n => dB (b n)) hl h
  rw [call_fn, Lib.f_all_certain]
  simp [ev, evs, evAnd, evOr, evi, evc, evo, theB, R.bind, R.calm, opB, ofO, permD, Lit.d, Gc.d, bindT, bindR, wipeR, SR.seq, exs, ex, evM, evMB, evsM, seen, freeze, ment, ments, menti, R.then, loose, isVar, ofSR, setAll, bindM, runFn, startM, List.map, List.length, List.replicate, List.append, Bool.not_true, Bool.not_false, e1, e2, e3, im, D.imm, itW_L]
  rw [lc_map dQ (fun q => D.bl (cin b q)) qs fun q hq => ⟨_, false, rfl, rfl, by simp [ev, evs, evAnd, evOr, evi, evc, evo, theB, R.bind, R.calm, opB, ofO, permD, Lit.d, Gc.d, bindT, bindR, wipeR, sp_cin (h q hq)]⟩]
  have e7 := of_all (cin b) qs
  simp [e7, D.imm]
theorem sp_req [Has P "is_known" Lib.f_is_known] [Has P "must_contain" Lib.f_must_contain] [Has P "unknown_items" Lib.f_unknown_items] [Has P "sort_required" Lib.f_sort_required] [Has P "frontier" Lib.f_frontier] [Has P "blocks" Lib.f_blocks] [Has P "minimum_required" Lib.f_minimum_required] [Has P "required_in" Lib.f_required_in] [Has P "checked_table" Lib.f_checked_table] [Has P "required_items" Lib.f_required_items] {ks : List Nm} {b : Nm → Bd} {q : Qy} (hr : RowsOk ks b) (h : QOk ks q) : (callN P (m + 6)).call "required_items" [.lst (ks.map (dR b)), dQ q] S = .ok (true, dNs (rin b q)) S := by
  have im : ∀ (ks : List Nm) (b : Nm → Bd), (dT ks b).immT = true := fun ks b => immTM fun x _ => immB _
  have e1 := sp_ri (P := P) (m := m + 1) (S := S) hr
  have e2 := sp_byname (P := P) (m := m + 3) (S := S) (b := b) (nodup_asc hr.1)
  have e3 := sp_rq1 (P := P) (m := m + 1) (S := S) (b := fun n => dB (b n)) h
  have e4 := sp_rin (P := P) (m := m) (S := S) (b := b) h
  have e5 : (callN P (m + 5)).call "checked_table" [.lst (ks.map (dR b)), dQ q] S = .ok (true, dT ks b) S := by
    rw [call_fn, Lib.f_checked_table]
    simp [ev, evs, evAnd, evOr, evi, evc, evo, theB, R.bind, R.calm, opB, ofO, permD, Lit.d, Gc.d, bindT, bindR, wipeR, SR.seq, exs, ex, evM, evMB, evsM, seen, freeze, ment, ments, menti, R.then, loose, isVar, ofSR, setAll, bindM, runFn, startM, List.map, List.length, List.replicate, List.append, Bool.not_true, Bool.not_false, e1, e2, e3, im, D.imm]
  rw [call_fn, Lib.f_required_items]
  refine (run_ret rfl rfl).trans ?_
  simp [ev, evs, evAnd, evOr, evi, evc, evo, theB, R.bind, R.calm, opB, ofO, permD, Lit.d, Gc.d, bindT, bindR, wipeR, e5, e4]
end
end
end DW

/-! DwW1: the law's own functions that draw. -/
namespace DW
open PySem
section
variable {P : Prog} [Fu P] {m : Nat} {S : Src}
/-! ### the law's gcd -/
def lgT : Ex := .cmp .ne (.var 1) (.lit (.int 0))
theorem lg_turn {F : FT} {XF : XT} {g : Nat} (a b : Int) (x : Option (Bool × D)) (hx : x = none ∨ ∃ y, x = some (false, D.int y)) (k : Nat) : whlGo (evMB F lgT) (freeze (ment lgT) 0) (exs F XF g Lib.f__law_gcd_L1) (k + 1) [some (false, .int a), some (false, .int b), x] S =
    if b = 0 then .nxt [some (false, .int a), some (false, .int b), x] S else whlGo (evMB F lgT) (freeze (ment lgT) 0) (exs F XF g Lib.f__law_gcd_L1) k [some (false, .int b), some (false, .int (a.fmod b)), some (false, .int (a.fmod b))] S := by
  rw [whlGo]
  by_cases hb : b = 0
  · rcases hx with rfl | ⟨y, rfl⟩ <;> simp [hb, lgT, Lib.f__law_gcd_L1, ev, evs, evAnd, evOr, evi, evc, evo, theB, R.bind, R.calm, opB, ofO, permD, Lit.d, Gc.d, bindT, bindR, wipeR, SR.seq, exs, ex, evM, evMB, evsM, seen, freeze, ment, ments, menti, R.then, loose, isVar, ofSR, setAll, bindM, runFn, startM, List.map, List.length, List.replicate, List.append, Bool.not_true, Bool.not_false, oc_neI, D.imm]
  · rcases hx with rfl | ⟨y, rfl⟩ <;> simp [hb, lgT, Lib.f__law_gcd_L1, ev, evs, evAnd, evOr, evi, evc, evo, theB, R.bind, R.calm, opB, ofO, permD, Lit.d, Gc.d, bindT, bindR, wipeR, SR.seq, exs, ex, evM, evMB, evsM, seen, freeze, ment, ments, menti, R.then, loose, isVar, ofSR, setAll, bindM, runFn, startM, List.map, List.length, List.replicate, List.append, Bool.not_true, Bool.not_false, oc_neI, D.imm]
theorem lg_loop {F : FT} {XF : XT} {g : Nat} : ∀ (k : Nat) (a b : Int) (x : Option (Bool × D)) (m : Nat), (x = none ∨ ∃ y, x = some (false, D.int y)) → 0 ≤ b → b < 2 ^ k → 2 * k + 1 ≤ m → ∃ (a' : Int) (x' : Option (Bool × D)), (x' = none ∨ ∃ y, x' = some (false, D.int y)) ∧ whlGo (evMB F lgT) (freeze (ment lgT) 0) (exs F XF g Lib.f__law_gcd_L1) m [some (false, .int a), some (false, .int b), x] S = .nxt [some (false, .int a'), some (false, .int 0), x'] S ∧ a'.natAbs = a.gcd b
  | 0, a, b, x, m, hx, h0, h1, hm => by
    have hb : b = 0 := by simp at h1; omega
    subst hb
    obtain ⟨m, rfl⟩ : ∃ j, m = j + 1 := ⟨m - 1, by omega⟩
    rw [lg_turn a 0 x hx, if_pos rfl]
    exact ⟨a, x, hx, rfl, by simp⟩
  | k + 1, a, b, x, m, hx, h0, h1, hm => by
    obtain ⟨m, rfl⟩ : ∃ j, m = j + 1 := ⟨m - 1, by omega⟩
    rw [lg_turn a b x hx]
    by_cases hb : b = 0
    · rw [if_pos hb]; subst hb; exact ⟨a, x, hx, rfl, by simp⟩
    rw [if_neg hb]
    have bp : 0 < b := by omega
    have e1 : a.fmod b = a % b := Int.fmod_eq_emod_of_nonneg a h0
    have r0 : 0 ≤ a % b := Int.emod_nonneg a hb
    have r1 : a % b < b := Int.emod_lt_of_pos a bp
    obtain ⟨m, rfl⟩ : ∃ j, m = j + 1 := ⟨m - 1, by omega⟩
    rw [lg_turn _ _ _ (.inr ⟨_, rfl⟩), e1]
    by_cases hr : a % b = 0
    · rw [if_pos hr, hr]
      refine ⟨b, _, .inr ⟨_, rfl⟩, rfl, ?_⟩
      rw [← gcd_mod a b, hr]; simp
    rw [if_neg hr]
    have rp : 0 < a % b := by omega
    have e2 : b.fmod (a % b) = b % (a % b) := Int.fmod_eq_emod_of_nonneg b r0
    have s0 : 0 ≤ b % (a % b) := Int.emod_nonneg b hr
    have s1 : b % (a % b) < a % b := Int.emod_lt_of_pos b rp
    have s2 : b % (a % b) < 2 ^ k := by
      have p2 : (2 : Int) ^ (k + 1) = 2 * 2 ^ k := by rw [Int.pow_succ]; omega
      have dm := Int.emod_add_mul_ediv b (a % b)
      have q1 : 1 ≤ b / (a % b) := by
        rw [Int.le_ediv_iff_mul_le rp]; omega
      have : a % b * 1 ≤ a % b * (b / (a % b)) := Int.mul_le_mul_of_nonneg_left q1 r0
      omega
    rw [e2]
    obtain ⟨a', x', hx', e3, e4⟩ := lg_loop k (a % b) (b % (a % b)) _ m (.inr ⟨_, rfl⟩) s0 s2 (by omega)
    exact ⟨a', x', hx', e3, by rw [e4, gcd_mod, gcd_mod]⟩
theorem sp_lgcd [Has P "_law_gcd" Lib.f__law_gcd] {a b : Int} (h0 : 0 ≤ b) (hb : big b = true) : (callN P (m + 1)).call "_law_gcd" [.int a, .int b] S = .ok (false, .int (a.gcd b : Nat)) S := by
  obtain ⟨a', x', hx', e1, e2⟩ := lg_loop (F := callN P m) (XF := P.xf) (g := 20000) (S := S) 4096 a b none 20000 (.inl rfl) h0 (big_lt hb h0) (by decide)
  rw [call_fn]
  show ofSR (SR.seq (whlGo (evMB (callN P m) lgT) (freeze (ment lgT) 0) (exs (callN P m) P.xf 20000 Lib.f__law_gcd_L1) 20000 [some (false, .int a), some (false, .int b), none] S) fun μ S => exs (callN P m) P.xf 20000 (.cons (.ret (.bi .abs (.cons (.var 0) .nil))) .nil) μ S) = _
  rw [e1]
  have e3 : (if a' < 0 then -a' else a') = ((a.gcd b : Nat) : Int) := by
    rw [← e2]
    split <;> omega
  rcases hx' with rfl | ⟨y, rfl⟩ <;> simp [ev, evs, evAnd, evOr, evi, evc, evo, theB, R.bind, R.calm, opB, ofO, permD, Lit.d, Gc.d, bindT, bindR, wipeR, SR.seq, exs, ex, evM, evMB, evsM, seen, freeze, ment, ments, menti, R.then, loose, isVar, ofSR, setAll, bindM, runFn, startM, List.map, List.length, List.replicate, List.append, Bool.not_true, Bool.not_false, opF, D.imm, e3]
/-! ### fractions made -/
theorem gcd_le' {a b : Int} (h : 0 < b) : ((a.gcd b : Nat) : Int) ≤ b := Int.le_of_dvd h (Int.gcd_dvd_right ..)
theorem gcd_pos' {a b : Int} (h : 0 < b) : 0 < ((a.gcd b : Nat) : Int) := by
  have := Int.gcd_pos_of_ne_zero_right a (b := b) (by omega)
  omega
theorem big_abs {a b : Int} (h : a.natAbs ≤ b.natAbs) (hb : big b = true) : big a = true := by
  unfold big at hb ⊢
  exact decide_eq_true (Nat.lt_of_le_of_lt h (of_decide_eq_true hb))
theorem div_abs (a : Int) {g : Int} (hg : 0 < g) (hd : g ∣ a) : (a / g).natAbs ≤ a.natAbs := by
  obtain ⟨k, rfl⟩ := hd
  rw [Int.mul_ediv_cancel_left _ (by omega), Int.natAbs_mul]
  exact Nat.le_mul_of_pos_left _ (by omega)
def redF (a b : Int) (h : 0 < b) (s1 : big a = true) (s2 : big b = true) : Fr where
  n := a / (a.gcd b : Nat)
  d := b / (a.gcd b : Nat)
  pos := by
    have := (Int.le_ediv_iff_mul_le (gcd_pos' (a := a) h) (a := 1) (b := b)).mpr (by have := gcd_le' (a := a) h; omega)
    exact this
  red := by
    rw [Int.gcd_ediv (Int.gcd_dvd_left ..) (Int.gcd_dvd_right ..), Int.natAbs_natCast]
    exact Nat.div_self (by have := gcd_pos' (a := a) h; omega)
  s1 := big_abs (div_abs a (gcd_pos' h) (Int.gcd_dvd_left ..)) s1
  s2 := big_abs (div_abs b (gcd_pos' h) (Int.gcd_dvd_right ..)) s2
theorem redF_n {a b : Int} (h : 0 < b) (s1 : big a = true) (s2 : big b = true) : (redF a b h s1 s2).n.natAbs ≤ a.natAbs := div_abs a (gcd_pos' h) (Int.gcd_dvd_left ..)
theorem redF_d {a b : Int} (h : 0 < b) (s1 : big a = true) (s2 : big b = true) : (redF a b h s1 s2).d ≤ b := by
  have h1 := div_abs b (gcd_pos' (a := a) h) (Int.gcd_dvd_right ..)
  have h2 := (redF a b h s1 s2).pos
  show b / (a.gcd b : Nat) ≤ b
  have h2 : 1 ≤ b / (a.gcd b : Nat) := h2
  omega
theorem sp_lred [Has P "_law_gcd" Lib.f__law_gcd] [Has P "_law_reduced" Lib.f__law_reduced] {a b : Int} (h : 0 < b) (s1 : big a = true) (s2 : big b = true) : (callN P (m + 2)).call "_law_reduced" [.int a, .int b] S = .ok (false, dF (redF a b h s1 s2)) S := by
  have e := sp_lgcd (P := P) (m := m) (S := S) (a := a) (by omega) s2
  have hg : big ((a.gcd b : Nat) : Int) = true := big_abs (by have := gcd_le' (a := a) h; omega) s2
  have hn : ¬ ((a.gcd b : Nat) : Int) = 0 := by have := gcd_pos' (a := a) h; omega
  have p1 : a.fdiv (a.gcd b : Nat) = a / (a.gcd b : Nat) := Int.fdiv_eq_ediv_of_nonneg _ (by omega)
  have p2 : b.fdiv (a.gcd b : Nat) = b / (a.gcd b : Nat) := Int.fdiv_eq_ediv_of_nonneg _ (by omega)
  have hb : ¬ b < 0 := by omega
  rw [call_fn, Lib.f__law_reduced, dF_tup]
  show _ = R.ok (false, D.tup [.int (a / (a.gcd b : Nat)), .int (b / (a.gcd b : Nat))]) S
  generalize ((a.gcd b : Nat) : Int) = d at *
  simp [ev, evs, evAnd, evOr, evi, evc, evo, theB, R.bind, R.calm, opB, ofO, permD, Lit.d, Gc.d, bindT, bindR, wipeR, SR.seq, exs, ex, evM, evMB, evsM, seen, freeze, ment, ments, menti, R.then, loose, isVar, ofSR, setAll, bindM, runFn, startM, List.map, List.length, List.replicate, List.append, Bool.not_true, Bool.not_false, e, hg, hn, p1, p2, oc_ltI, hb, D.imm, immL]
def add1 (a : Fr) (h : big (a.n + a.d) = true) : Fr := ⟨a.n + a.d, a.d, a.pos, by rw [Int.gcd_comm, Int.gcd_add_self_right, Int.gcd_comm]; exact a.red, h, a.s2⟩
theorem sp_lless [Has P "_law_less" Lib.f__law_less] (a b : Fr) : (callN P (m + 1)).call "_law_less" [dF a, dF b] S = .ok (false, .bl (ltF a b)) S := by
  rw [call_fn, Lib.f__law_less]
  refine (run_ret rfl rfl).trans ?_
  simp [ev, evs, evAnd, evOr, evi, evc, evo, theB, R.bind, R.calm, opB, ofO, permD, Lit.d, Gc.d, bindT, bindR, wipeR, opX_F0, opX_F1, oc_ltI, a.s1, a.s2, b.s1, b.s2, ltF]
/-! ### draws -/
variable [Has P "_law_draw" Lib.f__law_draw]
theorem sp_draw {c : Int} (h : SI S) (hc : 1 ≤ c) (hb : c < 1000000000000000000000000000000000000000000000000000 := by first | decide | omega) : ∃ v S', (callN P (m + 1)).call "_law_draw" [.src, .int c] S = .ok (false, .int v) S' ∧ 0 ≤ v ∧ v < c ∧ SI S' := by
  rw [call_fn]; exact run_draw h hc (big_of (by omega) hb)
theorem sp_choice [Has P "_law_choice" Lib.f__law_choice] {α : Type} (g : α → D) {l : List α} (h : SI S) (hl : l ≠ []) (hz : l.length < 1000) : ∃ x ∈ l, ∃ S', (callN P (m + 2)).call "_law_choice" [.src, .lst (l.map g)] S = .ok (false, g x) S' ∧ SI S' := by
  have hp := List.length_pos_iff.mpr hl
  obtain ⟨v, S', e, v0, v1, h'⟩ := sp_draw (P := P) (m := m) (S := S) (c := (l.length : Int)) h (by omega) (by omega)
  have lt : v.toNat < l.length := by omega
  refine ⟨l[v.toNat], List.getElem_mem lt, S', ?_, h'⟩
  have ha : opX S' (.lst (l.map g)) (.int v) = some (g l[v.toNat]) := by
    show opI.atI _ _ = _
    rw [at_of v0 (by rw [List.length_map]; exact v1), List.getElem?_map, List.getElem?_eq_getElem lt]; rfl
  rw [call_fn, Lib.f__law_choice]
  refine (run_ret rfl rfl).trans ?_
  simp [ev, evs, evAnd, evOr, evi, evc, evo, theB, R.bind, R.calm, opB, ofO, permD, Lit.d, Gc.d, bindT, bindR, wipeR, of_lenL, e, ha]
theorem sp_shuf [Has P "_law_shuffled" Lib.f__law_shuffled] {α : Type} (g : α → D) (hg : ∀ x, (g x).imm = true) {l : List α} (h : SI S) (hz : l.length < 1000) : ∃ l' : List α, l'.Perm l ∧ ∃ S', (callN P (m + 2)).call "_law_shuffled" [.src, .lst (l.map g)] S = .ok (true, .lst (l'.map g)) S' ∧ SI S' := by
  have step : ∀ (pre : List α) (x : α) (rest : List α) (μ : Mem) (S1 : Src), (pre.length + (x :: rest).length = l.length ∧ SI S1 ∧ ∃ (l' : List α) (u : Option (Bool × D)), l'.Perm pre ∧ μ = [some (false, D.src), some (false, D.lst (l.map g)), some (true, D.lst (l'.map g)), u]) →
      ∃ μ1, bindM [3] false (g x) μ = some μ1 ∧ ∃ μ2 S2, exs (callN P (m + 1)) P.xf 20000 Lib.f__law_shuffled_L1 μ1 S1 = .nxt μ2 S2 ∧ ((pre ++ [x]).length + rest.length = l.length ∧ SI S2 ∧ ∃ (l' : List α) (u : Option (Bool × D)), l'.Perm (pre ++ [x]) ∧ μ2 = [some (false, D.src), some (false, D.lst (l.map g)), some (true, D.lst (l'.map g)), u]) := by
    rintro pre x rest μ S1 ⟨hl, h1, l', u, hp, rfl⟩
    have hlen := hp.length_eq
    rw [List.length_cons] at hl
    obtain ⟨v, S2, e, v0, v1, h2⟩ := sp_draw (P := P) (m := m) (S := S1) (c := (l'.length : Int) + 1) h1 (by omega) (by omega)
    refine ⟨_, rfl, [some (false, D.src), some (false, D.lst (l.map g)), some (true, D.lst ((l'.take v.toNat ++ x :: l'.drop v.toNat).map g)), some (false, g x)], S2, ?_, by rw [List.length_append, List.length_singleton]; omega, h2, _, _, ?_, rfl⟩
    · have hv : v ≤ (l'.length : Int) := by omega
      have hlim : l'.length < lim := by unfold lim; omega
      simp [Lib.f__law_shuffled_L1, ev, evs, evAnd, evOr, evi, evc, evo, theB, R.bind, R.calm, opB, ofO, permD, Lit.d, Gc.d, bindT, bindR, wipeR, SR.seq, exs, ex, evM, evMB, evsM, seen, freeze, ment, ments, menti, R.then, loose, isVar, ofSR, setAll, bindM, runFn, startM, List.map, List.length, List.replicate, List.append, Bool.not_true, Bool.not_false, own?, mtTy, of_lenL, e, D.imm, immL, hg, opM, v0, hv, hlim, setR]
    · have h3 : (l'.take v.toNat ++ x :: l'.drop v.toNat).Perm (x :: l') := by
        have := List.perm_middle (a := x) (l₁ := l'.take v.toNat) (l₂ := l'.drop v.toNat)
        rw [List.take_append_drop] at this
        exact this
      exact h3.trans ((List.Perm.cons x hp).trans (List.perm_append_singleton x pre).symm)
  obtain ⟨μ', S', e, _, h', l', u, hp, rfl⟩ := for_ok g (fun pre rest μ S1 => pre.length + rest.length = l.length ∧ SI S1 ∧ ∃ (l' : List α) (u : Option (Bool × D)), l'.Perm pre ∧ μ = [some (false, D.src), some (false, D.lst (l.map g)), some (true, D.lst (l'.map g)), u]) step l [] [some (false, D.src), some (false, D.lst (l.map g)), some (true, D.lst []), none] S ⟨by simp, h, [], none, List.Perm.refl _, rfl⟩
  refine ⟨l', hp, S', ?_, h'⟩
  rw [call_fn, Lib.f__law_shuffled]
  simp [ev, evs, evAnd, evOr, evi, evc, evo, theB, R.bind, R.calm, opB, ofO, permD, Lit.d, Gc.d, bindT, bindR, wipeR, SR.seq, exs, ex, evM, evMB, evsM, seen, freeze, ment, ments, menti, R.then, loose, isVar, ofSR, setAll, bindM, runFn, startM, List.map, List.length, List.replicate, List.append, Bool.not_true, Bool.not_false, items, D.immT, immL, e]
end
end DW

/-! DwW2: interval lists and queries that a law draws. -/
namespace DW
open PySem
/-- not large -/
def Sz (k : Nat) (f : Fr) : Prop := f.n.natAbs ≤ k ∧ f.d ≤ 4
def SzB (k : Nat) (x : Bd) : Prop := Sz k x.1 ∧ Sz k x.2
theorem Sz.mono {j k : Nat} {f : Fr} (h : Sz j f) (l : j ≤ k) : Sz k f := ⟨Nat.le_trans h.1 l, h.2⟩
theorem SzB.mono {j k : Nat} {x : Bd} (h : SzB j x) (l : j ≤ k) : SzB k x := ⟨h.1.mono l, h.2.mono l⟩
theorem big_small {a : Int} (h : a.natAbs ≤ 1000000000000) : big a = true := big_of (by omega) (by omega)
theorem oc_nnil' {α : Type} {f : α → D} (hf : ∀ x, shp 59 (f x) = true) (l : List α) : opC .ne (.lst (l.map f)) (.lst []) = some (!l.isEmpty) := by
  rw [oc_ne (by rw [shp]; exact shpL_map fun x _ => hf x) rfl]
  cases l <;> rfl
theorem oc_nil' {α : Type} {f : α → D} (hf : ∀ x, shp 59 (f x) = true) (l : List α) : opC .eq (.lst (l.map f)) (.lst []) = some l.isEmpty := by
  rw [oc_eq (by rw [shp]; exact shpL_map fun x _ => hf x) rfl]
  cases l <;> rfl
theorem leF_of_nlt {a b : Fr} (h : ltF a b = false) : leF b a = true := by
  unfold ltF at h; unfold leF
  have := of_decide_eq_false h
  exact decide_eq_true (by omega)
theorem leF_of_lt {a b : Fr} (h : ltF a b = true) : leF a b = true := by
  unfold ltF at h; unfold leF
  have := of_decide_eq_true h
  exact decide_eq_true (by omega)
theorem leF_refl (a : Fr) : leF a a = true := by
  unfold leF; exact decide_eq_true (Int.le_refl _)
theorem leF_add1 (a : Fr) (h : big (a.n + a.d) = true) : leF a (add1 a h) = true := by
  unfold leF add1
  have := a.pos
  refine decide_eq_true ?_
  show a.n * a.d ≤ (a.n + a.d) * a.d
  exact Int.mul_le_mul_of_nonneg_right (by omega) (by omega)
section
variable {P : Prog} [Fu P] {m : Nat} {S : Src} [Has P "_law_draw" Lib.f__law_draw]
def mkI (a : Int) (h : big a = true) : Fr := ⟨a, 1, by decide, by simp, h, by decide +kernel⟩
theorem sp_lbound [Has P "_law_gcd" Lib.f__law_gcd] [Has P "_law_reduced" Lib.f__law_reduced] [Has P "_law_bound" Lib.f__law_bound] {c : Nat} (h : SI S) (h1 : 1 ≤ c) (hc : c ≤ 100000) : ∃ f S', (callN P (m + 3)).call "_law_bound" [.src, .int c] S = .ok (false, dF f) S' ∧ Sz (4 * c) f ∧ SI S' := by
  obtain ⟨v1, S1, e1, a1, b1, h1'⟩ := sp_draw (P := P) (m := m + 1) (S := S) (c := 4) h (by decide)
  have k2 : big (2 : Int) = true := big_small (by decide)
  have k4 : big (4 : Int) = true := big_small (by decide)
  have kc : big (c : Int) = true := big_small (by omega)
  by_cases hv : v1 = 0
  · obtain ⟨v2, S2, e2, a2, b2, h2'⟩ := sp_draw (P := P) (m := m + 1) (S := S1) (c := 4 * (c : Int) + 1) h1' (by omega) (by omega)
    obtain ⟨v3, S3, e3, a3, b3, h3'⟩ := sp_draw (P := P) (m := m + 1) (S := S2) (c := 3) h2' (by decide)
    have s1 : big (v2 - 2 * (c : Int)) = true := big_small (by omega)
    have s2 : big (2 + v3) = true := big_small (by omega)
    have e4 := sp_lred (P := P) (m := m) (S := S3) (a := v2 - 2 * (c : Int)) (b := 2 + v3) (by omega) s1 s2
    refine ⟨_, S3, ?_, ⟨Nat.le_trans (redF_n (by omega) s1 s2) (by omega), Int.le_trans (redF_d (by omega) s1 s2) (by omega)⟩, h3'⟩
    rw [call_fn, Lib.f__law_bound]
    simp [ev, evs, evAnd, evOr, evi, evc, evo, theB, R.bind, R.calm, opB, ofO, permD, Lit.d, Gc.d, bindT, bindR, wipeR, SR.seq, exs, ex, evM, evMB, evsM, seen, freeze, ment, ments, menti, R.then, loose, isVar, ofSR, setAll, bindM, runFn, startM, List.map, List.length, List.replicate, List.append, Bool.not_true, Bool.not_false, e1, hv, oc_eqI, e2, e3, e4, k2, k4, kc, D.imm]
  · obtain ⟨v2, S2, e2, a2, b2, h2'⟩ := sp_draw (P := P) (m := m + 1) (S := S1) (c := (c : Int) + 1) h1' (by omega) (by omega)
    have q0 : (c : Int).fdiv 2 = (c : Int) / 2 := Int.fdiv_eq_ediv_of_nonneg _ (by decide)
    have s1 : big (v2 - (c : Int).fdiv 2) = true := big_small (by rw [q0]; omega)
    refine ⟨mkI _ s1, S2, ?_, ⟨by show (v2 - (c : Int).fdiv 2).natAbs ≤ _; rw [q0]; omega, by show (1 : Int) ≤ 4; decide⟩, h2'⟩
    rw [call_fn, Lib.f__law_bound, dF_tup]
    simp [ev, evs, evAnd, evOr, evi, evc, evo, theB, R.bind, R.calm, opB, ofO, permD, Lit.d, Gc.d, bindT, bindR, wipeR, SR.seq, exs, ex, evM, evMB, evsM, seen, freeze, ment, ments, menti, R.then, loose, isVar, ofSR, setAll, bindM, runFn, startM, List.map, List.length, List.replicate, List.append, Bool.not_true, Bool.not_false, e1, hv, oc_eqI, e2, k2, D.imm, mkI]
theorem sp_lint [Has P "_law_gcd" Lib.f__law_gcd] [Has P "_law_reduced" Lib.f__law_reduced] [Has P "_law_less" Lib.f__law_less] [Has P "_law_choice" Lib.f__law_choice] [Has P "_law_bound" Lib.f__law_bound] [Has P "_law_interval" Lib.f__law_interval] {c k : Nat} {prev : List Bd} (h : SI S) (h1 : 1 ≤ c) (hc : c ≤ 100000) (hk : 4 * c ≤ k) (hk2 : k ≤ 1000000) (hl : prev.length < 1000) (hp : ∀ x ∈ prev, leF x.1 x.2 = true ∧ SzB k x) :
    ∃ x S', (callN P (m + 4)).call "_law_interval" [.src, .int c, .lst (prev.map dB)] S = .ok (false, dB x) S' ∧ leF x.1 x.2 = true ∧ SzB (k + 4) x ∧ SI S' := by
  obtain ⟨lo, S1, e1, z1, h1'⟩ := sp_lbound (P := P) (m := m) (S := S) h h1 hc
  obtain ⟨hi, S2, e2, z2, h2'⟩ := sp_lbound (P := P) (m := m) (S := S1) h1' h1 hc
  obtain ⟨w, S3, e3, a3, b3, h3'⟩ := sp_draw (P := P) (m := m + 2) (S := S2) (c := 6) h2' (by decide)
  have ne := oc_nnil' (f := dB) (fun x => shpB x _) prev
  rw [call_fn]
  -- the end: from the low bound as it stands
  have fin : ∀ (lo : Fr) (S3 : Src), Sz k lo → SI S3 → ∃ x S', exs (callN P (m + 3)) P.xf 20000 (.cons (.ifs (.call "_law_less" (.cons (.var 4) (.cons (.var 3) .nil)) .nil [] [.inl 0, .inl 1]) (.cons (.ret (.tup (.cons (.var 4) (.cons (.var 3) .nil))))
      .nil) .nil) (.cons (.ifs (.band (.cons (.cmp .eq (.var 4) (.var 3)) (.cons (.cmp .gt (.var 5) (.lit (.int 2))) .nil))) (.cons (.ret (.tup (.cons (.var 3) (.cons (.tup (.cons (.bin .add (.idx (.var 3) (.lit (.int 0))) (.idx (.var 3) (.lit (.int 1)))) (.cons (.idx (.var 3) (.lit (.int 1))) .nil))) .nil))))
      .nil) .nil) (.cons (.ret (.tup (.cons (.var 3) (.cons (.var 4) .nil)))) .nil))) [some (false, .src), some (false, .int c), some (false, .lst (prev.map dB)), some (false, dF lo), some (false, dF hi), some (false, .int w)] S3 = .ret (false, dB x) S' ∧ leF x.1 x.2 = true ∧ SzB (k + 4) x ∧ SI S' := by
    intro lo S3 z1 h3'
    have z2' := z2.mono hk
    cases q1 : ltF hi lo with
    | true =>
      refine ⟨(hi, lo), S3, ?_, leF_of_lt q1, ⟨z2'.mono (by omega), z1.mono (by omega)⟩, h3'⟩
      rw [dB_tup]
      simp [ev, evs, evAnd, evOr, evi, evc, evo, theB, R.bind, R.calm, opB, ofO, permD, Lit.d, Gc.d, bindT, bindR, wipeR, SR.seq, exs, ex, evM, evMB, evsM, seen, freeze, ment, ments, menti, R.then, loose, isVar, ofSR, setAll, bindM, runFn, startM, List.map, List.length, List.replicate, List.append, Bool.not_true, Bool.not_false, sp_lless, q1, D.imm, immL, immF]
    | false =>
      by_cases q2 : hi = lo ∧ 2 < w
      · have q1' : ltF lo lo = false := by rw [q2.1] at q1; exact q1
        have s1 : big (lo.n + lo.d) = true := big_small (by have := z1.1; have := z1.2; have := lo.pos; omega)
        refine ⟨(lo, add1 lo s1), S3, ?_, leF_add1 lo s1, ⟨z1.mono (by omega), by show (lo.n + lo.d).natAbs ≤ _; have := z1.1; have := z1.2; have := lo.pos; omega, z1.2⟩, h3'⟩
        rw [dB_tup, dF_tup (add1 lo s1)]
        simp [ev, evs, evAnd, evOr, evi, evc, evo, theB, R.bind, R.calm, opB, ofO, permD, Lit.d, Gc.d, bindT, bindR, wipeR, SR.seq, exs, ex, evM, evMB, evsM, seen, freeze, ment, ments, menti, R.then, loose, isVar, ofSR, setAll, bindM, runFn, startM, List.map, List.length, List.replicate, List.append, Bool.not_true, Bool.not_false, sp_lless, q1', oc_eqF, oc_gtI, q2.1, q2.2, opX_F0, opX_F1, D.imm, immL, immF, add1]
      · refine ⟨(lo, hi), S3, ?_, leF_of_nlt q1, ⟨z1.mono (by omega), z2'.mono (by omega)⟩, h3'⟩
        rw [dB_tup]
        by_cases q3 : hi = lo
        · have q4 : ¬ 2 < w := fun z => q2 ⟨q3, z⟩
          have q1' : ltF lo lo = false := by rw [q3] at q1; exact q1
          simp [ev, evs, evAnd, evOr, evi, evc, evo, theB, R.bind, R.calm, opB, ofO, permD, Lit.d, Gc.d, bindT, bindR, wipeR, SR.seq, exs, ex, evM, evMB, evsM, seen, freeze, ment, ments, menti, R.then, loose, isVar, ofSR, setAll, bindM, runFn, startM, List.map, List.length, List.replicate, List.append, Bool.not_true, Bool.not_false, sp_lless, q1', oc_eqF, oc_gtI, q3, q4, D.imm, immL, immF]
        · simp [ev, evs, evAnd, evOr, evi, evc, evo, theB, R.bind, R.calm, opB, ofO, permD, Lit.d, Gc.d, bindT, bindR, wipeR, SR.seq, exs, ex, evM, evMB, evsM, seen, freeze, ment, ments, menti, R.then, loose, isVar, ofSR, setAll, bindM, runFn, startM, List.map, List.length, List.replicate, List.append, Bool.not_true, Bool.not_false, sp_lless, q1, oc_eqF, oc_gtI, q3, D.imm, immL, immF]
  by_cases hp0 : prev = []
  · obtain ⟨x, S', e, g1, g2, g3⟩ := fin lo S3 (z1.mono hk) h3'
    refine ⟨x, S', ?_, g1, g2, g3⟩
    subst hp0
    have ne : opC .ne (.lst []) (.lst []) = some false := ne
    rw [Lib.f__law_interval]
    simp only [List.map_nil] at e
    simp [ev, evs, evAnd, evOr, evi, evc, evo, theB, R.bind, R.calm, opB, ofO, permD, Lit.d, Gc.d, bindT, bindR, wipeR, SR.seq, exs, ex, evM, evMB, evsM, seen, freeze, ment, ments, menti, R.then, loose, isVar, ofSR, setAll, bindM, runFn, startM, List.map, List.length, List.replicate, List.append, Bool.not_true, Bool.not_false, e1, e2, e3, ne, D.imm, immF] at e ⊢
    rw [e]
  · have pe : (!prev.isEmpty) = true := by cases prev <;> simp_all
    rw [pe] at ne
    by_cases w0 : w = 0
    · obtain ⟨x, hx, S4, e4, h4'⟩ := sp_choice (P := P) (m := m + 1) (S := S3) dB h3' hp0 hl
      refine ⟨x, S4, ?_, (hp x hx).1, (hp x hx).2.mono (by omega), h4'⟩
      rw [Lib.f__law_interval]
      simp [ev, evs, evAnd, evOr, evi, evc, evo, theB, R.bind, R.calm, opB, ofO, permD, Lit.d, Gc.d, bindT, bindR, wipeR, SR.seq, exs, ex, evM, evMB, evsM, seen, freeze, ment, ments, menti, R.then, loose, isVar, ofSR, setAll, bindM, runFn, startM, List.map, List.length, List.replicate, List.append, Bool.not_true, Bool.not_false, e1, e2, e3, e4, ne, oc_eqI, w0, D.imm, immF, immB]
    · by_cases w1 : w = 1
      · obtain ⟨x, hx, S4, e4, h4'⟩ := sp_choice (P := P) (m := m + 1) (S := S3) dB h3' hp0 hl
        obtain ⟨v, S5, e5, a5, b5, h5'⟩ := sp_draw (P := P) (m := m + 2) (S := S4) (c := 2) h4' (by decide)
        have zx := (hp x hx).2
        have hv : v = 0 ∨ v = 1 := by omega
        rcases hv with rfl | rfl
        · obtain ⟨x', S', e, g1, g2, g3⟩ := fin x.1 S5 zx.1 h5'
          refine ⟨x', S', ?_, g1, g2, g3⟩
          rw [Lib.f__law_interval]
          simp [ev, evs, evAnd, evOr, evi, evc, evo, theB, R.bind, R.calm, opB, ofO, permD, Lit.d, Gc.d, bindT, bindR, wipeR, SR.seq, exs, ex, evM, evMB, evsM, seen, freeze, ment, ments, menti, R.then, loose, isVar, ofSR, setAll, bindM, runFn, startM, List.map, List.length, List.replicate, List.append, Bool.not_true, Bool.not_false, e1, e2, e3, e4, e5, ne, oc_eqI, w1, opX_B0, D.imm, immF] at e ⊢
          rw [e]
        · obtain ⟨x', S', e, g1, g2, g3⟩ := fin x.2 S5 zx.2 h5'
          refine ⟨x', S', ?_, g1, g2, g3⟩
          rw [Lib.f__law_interval]
          simp [ev, evs, evAnd, evOr, evi, evc, evo, theB, R.bind, R.calm, opB, ofO, permD, Lit.d, Gc.d, bindT, bindR, wipeR, SR.seq, exs, ex, evM, evMB, evsM, seen, freeze, ment, ments, menti, R.then, loose, isVar, ofSR, setAll, bindM, runFn, startM, List.map, List.length, List.replicate, List.append, Bool.not_true, Bool.not_false, e1, e2, e3, e4, e5, ne, oc_eqI, w1, opX_B1, D.imm, immF] at e ⊢
          rw [e]
      · obtain ⟨x, S', e, g1, g2, g3⟩ := fin lo S3 (z1.mono hk) h3'
        refine ⟨x, S', ?_, g1, g2, g3⟩
        rw [Lib.f__law_interval]
        simp [ev, evs, evAnd, evOr, evi, evc, evo, theB, R.bind, R.calm, opB, ofO, permD, Lit.d, Gc.d, bindT, bindR, wipeR, SR.seq, exs, ex, evM, evMB, evsM, seen, freeze, ment, ments, menti, R.then, loose, isVar, ofSR, setAll, bindM, runFn, startM, List.map, List.length, List.replicate, List.append, Bool.not_true, Bool.not_false, e1, e2, e3, ne, oc_eqI, w0, w1, D.imm, immF] at e ⊢
        rw [e]
end
end DW

/-! DwW3: interval lists and queries that a law draws, whole. -/
namespace DW
open PySem
def N7 : List Nm := [⟨"a", by decide +kernel⟩, ⟨"b", by decide +kernel⟩, ⟨"bb", by decide +kernel⟩, ⟨"item", by decide +kernel⟩, ⟨"d", by decide +kernel⟩, ⟨"xyzxyz", by decide +kernel⟩, ⟨"z", by decide +kernel⟩]
theorem N7_nd : N7.Nodup := by decide +kernel
theorem N7_d : N7.map dN = [.str "a", .str "b", .str "bb", .str "item", .str "d", .str "xyzxyz", .str "z"] := by simp [N7, dN_str]
/-! sorted rows -/
theorem named_R (b : Nm → Bd) : ∀ l : List Nm, namedD (l.map (dR b)) = some (l.map fun n => (n.s, [dF (b n).1, dF (b n).2]))
  | [] => rfl
  | n :: l => by
    rw [List.map_cons, dR, dN_str, namedD, named_R b l]; rfl
theorem of_sortR {b : Nm → Bd} {l : List Nm} (nd : l.Nodup) : opF .sorted [.lst (l.map (dR b))] = some (true, .lst ((srt l).map (dR b))) := by
  cases l with
  | nil => simp [opF, opSrt, strsD, srt, sortS]
  | cons n l =>
    rw [show opF .sorted [.lst ((n :: l).map (dR b))] = opSrt ((n :: l).map (dR b)) from rfl]
    unfold opSrt
    have e1 : strsD ((n :: l).map (dR b)) = none := rfl
    rw [e1, named_R]
    have e2 : (((n :: l).map fun n => (n.s, [dF (b n).1, dF (b n).2])).map (·.1)).Nodup := by
      rw [List.map_map]; exact nd_s nd
    simp only [e2, if_true]
    have e3 : sortN ((n :: l).map fun n => (n.s, [dF (b n).1, dF (b n).2])) = (srt (n :: l)).map fun n => (n.s, [dF (b n).1, dF (b n).2]) := by
      refine List.Perm.eq_of_pairwise (le := fun (a b : Str × List D) => leS a.1 b.1 = true) (fun a b ha hb h1 h2 => ?_) (List.pairwise_mergeSort (fun a b c => leS_trans a.1 b.1 c.1) (fun a b => leS_total a.1 b.1) _) (List.pairwise_map.mpr (srt_pw _)) ((List.mergeSort_perm _ _).trans ((srt_perm _).symm.map _))
      have e := leS_anti h1 h2
      obtain ⟨x, hx, rfl⟩ := List.mem_map.mp ((List.mergeSort_perm _ _).mem_iff.mp ha)
      obtain ⟨y, hy, rfl⟩ := List.mem_map.mp hb
      have : x = y := Nm.ext' e
      rw [this]
    rw [e3, List.map_map]
    congr 4
    funext n
    simp [nmD, dR, dN_str]
/-! a dict of pairs -/
theorem pairs_M (v : Nm → D) : ∀ l : List Nm, pairsD (l.map fun n => D.tup [dN n, v n]) = some (l.map fun n => (n.s, v n))
  | [] => rfl
  | n :: l => by rw [List.map_cons, dN_str, pairsD, pairs_M v l]; rfl
theorem foldl_put (v : Nm → D) : ∀ (l : List Nm) (acc : List (Str × D)), l.Nodup → (∀ n ∈ l, hasK acc n.s = false) → (l.map fun n => (n.s, v n)).foldl (fun a p => putK a p.1 p.2) acc = acc ++ l.map fun n => (n.s, v n)
  | [], acc, _, _ => by simp
  | n :: l, acc, nd, h => by
    rw [List.nodup_cons] at nd
    rw [List.map_cons, List.foldl_cons, putK_new (h n (List.mem_cons_self ..)), foldl_put v l _ nd.2]
    · simp
    · intro x hx
      unfold hasK
      rw [List.any_append, Bool.or_eq_false_iff]
      refine ⟨h x (List.mem_cons_of_mem _ hx), ?_⟩
      simp only [List.any_cons, List.any_nil, Bool.or_false, decide_eq_false_iff_not]
      exact fun e => nd.1 (by rw [Nm.ext' e]; exact hx)
theorem of_dictP {v : Nm → D} {l : List Nm} (nd : l.Nodup) : opF .dict [.lst (l.map fun n => D.tup [dN n, v n])] = some (true, dM l v) := by
  show (pairsD _).map _ = _
  rw [pairs_M, dM_dct]
  show some (true, D.dct _) = _
  rw [foldl_put v l [] nd fun _ _ => rfl]; rfl
theorem rngD_map : ∀ (n lo : Nat), rngD (lo : Int) n = (List.range' lo n).map fun i : Nat => D.int i
  | 0, _ => rfl
  | n + 1, lo => by
    rw [rngD, List.range'_succ, List.map_cons, ← rngD_map n (lo + 1)]; rfl
theorem or_rng {n : Nat} (h : n ≤ 400000) : opR [.int n] = some ((List.range n).map fun i : Nat => D.int i) := by
  show (if inR (n : Int) then some (rngD 0 (n : Int).toNat) else none) = _
  have e : inR (n : Int) = true := by
    unfold inR
    rw [Bool.and_eq_true]
    exact ⟨decide_eq_true (by omega), decide_eq_true (by omega)⟩
  rw [e, if_pos rfl, Int.toNat_natCast]
  have := rngD_map n 0
  rw [List.range_eq_range', ← this]; rfl
theorem opX_at {α : Type} {S : Src} (g : α → D) {l : List α} {i : Nat} (h : i < l.length) : opX S (.lst (l.map g)) (.int i) = some (g l[i]) := by
  show opI.atI _ _ = _
  rw [at_of (by omega) (by rw [List.length_map]; omega), Int.toNat_natCast, List.getElem?_map, List.getElem?_eq_getElem h]; rfl
/-- a table of a list of bounds, by the names' places -/
def tabOf (ns : List Nm) (xs : List Bd) (n : Nm) : Bd := xs.getD (ns.idxOf n) (mkI 0 rfl, mkI 0 rfl)
theorem tabOf_at {ns : List Nm} {xs : List Bd} (nd : ns.Nodup) (hl : xs.length = ns.length) {i : Nat} (h : i < ns.length) : tabOf ns xs ns[i] = xs[i]'(by omega) := by
  unfold tabOf
  rw [nd.idxOf_getElem i h, List.getD_eq_getElem?_getD, List.getElem?_eq_getElem (by omega)]; rfl
/-- rows that a law draws -/
structure Drawn (ks : List Nm) (b : Nm → Bd) (most k : Nat) : Prop where
  rows : RowsOk ks b
  ne : ks ≠ []
  len : ks.length ≤ most
  n7 : ∀ n ∈ ks, n ∈ N7
  sz : ∀ n ∈ ks, SzB k (b n)
section
variable {P : Prog} [Fu P] {m : Nat} {S : Src} [Has P "_law_draw" Lib.f__law_draw] [Has P "_law_choice" Lib.f__law_choice] [Has P "_law_shuffled" Lib.f__law_shuffled] [Has P "_law_gcd" Lib.f__law_gcd] [Has P "_law_reduced" Lib.f__law_reduced] [Has P "_law_less" Lib.f__law_less] [Has P "_law_bound" Lib.f__law_bound]
theorem sp_lints [Has P "_law_interval" Lib.f__law_interval] [Has P "_law_intervals" Lib.f__law_intervals] {most c : Nat} (h : SI S) (hm1 : 1 ≤ most) (hm : most ≤ 7) (h1 : 1 ≤ c) (hc : c ≤ 100000) : ∃ ks b S', (callN P (m + 5)).call "_law_intervals" [.src, .int most, .int c] S = .ok (true, .lst (ks.map (dR b))) S' ∧ Drawn ks b most (4 * c + 28) ∧ SI S' := by
  obtain ⟨v, S1, e1, a1, b1, h1'⟩ := sp_draw (P := P) (m := m + 3) (S := S) (c := (most : Int)) h (by omega) (by omega)
  obtain ⟨l', hp, S2, e2, h2'⟩ := sp_shuf (P := P) (m := m + 2) (S := S1) dN immN (l := N7) h1' (by decide)
  rw [N7_d] at e2
  obtain ⟨j, rfl⟩ : ∃ j : Nat, v = j := ⟨v.toNat, by omega⟩
  have hl7 : l'.length = 7 := hp.length_eq
  have nd' : l'.Nodup := hp.nodup_iff.mpr N7_nd
  let ch := l'.take (j + 1)
  have hch : ch.length = j + 1 := by
    show (l'.take (j + 1)).length = _
    rw [List.length_take]; omega
  have ndc : ch.Nodup := nd'.sublist (List.take_sublist ..)
  have step : ∀ (pre : List Nm) (x : Nm) (rest : List Nm) (μ : Mem) (S1 : Src), (pre.length + (x :: rest).length = ch.length ∧ SI S1 ∧ ∃ (xs : List Bd) (u : Option (Bool × D)), xs.length = pre.length ∧ (∀ y ∈ xs, leF y.1 y.2 = true ∧ SzB (4 * c + 4 * pre.length) y) ∧ μ = [some (false, D.src), some (false, D.int most), some (false, D.int c), some (true, .lst (N7.map dN)), some (false, D.int (1 + (j : Int))), some (false, .lst (ch.map dN)), some (true, .lst (xs.map dB)), u, none]) →
      ∃ μ1, bindM [7] false (dN x) μ = some μ1 ∧ ∃ μ2 S2, exs (callN P (m + 4)) P.xf 20000 Lib.f__law_intervals_L1 μ1 S1 = .nxt μ2 S2 ∧ ((pre ++ [x]).length + rest.length = ch.length ∧ SI S2 ∧ ∃ (xs : List Bd) (u : Option (Bool × D)), xs.length = (pre ++ [x]).length ∧ (∀ y ∈ xs, leF y.1 y.2 = true ∧ SzB (4 * c + 4 * (pre ++ [x]).length) y) ∧ μ2 = [some (false, D.src), some (false, D.int most), some (false, D.int c), some (true, .lst (N7.map dN)), some (false, D.int (1 + (j : Int))), some (false, .lst (ch.map dN)), some (true, .lst (xs.map dB)), u, none]) := by
    rintro pre x rest μ S1 ⟨hl, hs, xs, u, hx, hy, rfl⟩
    rw [List.length_cons] at hl
    obtain ⟨y, S2, e, y1, y2, hs2⟩ := sp_lint (P := P) (m := m) (S := S1) (c := c) (k := 4 * c + 4 * pre.length) (prev := xs) hs h1 hc (by omega) (by omega) (by omega) hy
    refine ⟨_, rfl, [some (false, D.src), some (false, D.int most), some (false, D.int c), some (true, .lst (N7.map dN)), some (false, D.int (1 + (j : Int))), some (false, .lst (ch.map dN)), some (true, .lst ((xs ++ [y]).map dB)), some (false, dN x), none], S2, ?_, by rw [List.length_append, List.length_singleton]; omega, hs2, xs ++ [y], _, by rw [List.length_append, List.length_append, hx]; rfl, fun z hz => ?_, rfl⟩
    · have hlim : xs.length < lim := by unfold lim; omega
      simp [Lib.f__law_intervals_L1, ev, evs, evAnd, evOr, evi, evc, evo, theB, R.bind, R.calm, opB, ofO, permD, Lit.d, Gc.d, bindT, bindR, wipeR, SR.seq, exs, ex, evM, evMB, evsM, seen, freeze, ment, ments, menti, R.then, loose, isVar, ofSR, setAll, bindM, runFn, startM, List.map, List.length, List.replicate, List.append, Bool.not_true, Bool.not_false, own?, mtTy, e, D.imm, immL, immB, opM, hlim, setR]
    · rcases List.mem_append.mp hz with hz | hz
      · refine ⟨(hy z hz).1, (hy z hz).2.mono ?_⟩
        rw [List.length_append, List.length_singleton]; omega
      · obtain rfl := List.mem_singleton.mp hz
        refine ⟨y1, y2.mono ?_⟩
        rw [List.length_append, List.length_singleton]; omega
  obtain ⟨μ', S3, e3, _, h3', xs, u, hx, hy, rfl⟩ := for_ok dN (fun pre rest μ S1 => pre.length + rest.length = ch.length ∧ SI S1 ∧ ∃ (xs : List Bd) (u : Option (Bool × D)), xs.length = pre.length ∧ (∀ y ∈ xs, leF y.1 y.2 = true ∧ SzB (4 * c + 4 * pre.length) y) ∧ μ = [some (false, D.src), some (false, D.int most), some (false, D.int c), some (true, .lst (N7.map dN)), some (false, D.int (1 + (j : Int))), some (false, .lst (ch.map dN)), some (true, .lst (xs.map dB)), u, none]) step ch [] [some (false, D.src), some (false, D.int most), some (false, D.int c), some (true, .lst (N7.map dN)), some (false, D.int (1 + (j : Int))), some (false, .lst (ch.map dN)), some (true, .lst []), none, none] S2 ⟨by simp, h2', [], none, rfl, (fun y hy => by cases hy), rfl⟩
  rw [List.nil_append] at hx hy
  let b := tabOf ch xs
  have hb : ∀ i (hi : i < ch.length), b ch[i] = xs[i]'(by omega) := fun i hi => tabOf_at ndc hx hi
  have hbm : ∀ n ∈ ch, b n ∈ xs := fun n hn => by
    obtain ⟨i, hi, rfl⟩ := List.mem_iff_getElem.mp hn
    rw [hb i hi]; exact List.getElem_mem _
  have hp2 := srt_perm ch
  refine ⟨srt ch, b, S3, ?_, ⟨⟨asc_srt ndc, by rw [hp2.length_eq]; omega, fun n hn => (hy _ (hbm n (hp2.mem_iff.mp hn))).1⟩, fun z => ?_, by rw [hp2.length_eq]; omega, fun n hn => hp.mem_iff.mp (List.mem_of_mem_take (hp2.mem_iff.mp hn)), fun n hn => (hy _ (hbm n (hp2.mem_iff.mp hn))).2.mono (by omega)⟩, h3'⟩
  · have e4 : (ch.map (dR b)) = (List.range (j + 1)).map fun i => dR b (ch.getD i ⟨"a", by decide +kernel⟩) := by
      apply List.ext_getElem
      · rw [List.length_map, List.length_map, List.length_range, hch]
      · intro i h1 h2
        rw [List.length_map] at h1
        rw [List.getElem_map, List.getElem_map, List.getElem_range, List.getD_eq_getElem?_getD, List.getElem?_eq_getElem h1]; rfl
    have e5 := of_sortR (b := b) ndc
    have e6 : opR [.int (1 + (j : Int))] = some ((List.range (j + 1)).map fun i : Nat => D.int i) := by
      rw [show (1 + (j : Int)) = ((j + 1 : Nat) : Int) by omega]; exact or_rng (by omega)
    have ek : opS (.lst (l'.map dN)) none (some (1 + (j : Int))) = some (true, .lst (ch.map dN)) := by
      rw [show (1 + (j : Int)) = ((j + 1 : Nat) : Int) by omega]
      show some (true, D.lst (cutD _ _ _)) = _
      rw [cut_to]
    rw [N7_d] at e3
    rw [call_fn, Lib.f__law_intervals]
    simp [ev, evs, evAnd, evOr, evi, evc, evo, theB, R.bind, R.calm, opB, ofO, permD, Lit.d, Gc.d, bindT, bindR, wipeR, SR.seq, exs, ex, evM, evMB, evsM, seen, freeze, ment, ments, menti, R.then, loose, isVar, ofSR, setAll, bindM, runFn, startM, List.map, List.length, List.replicate, List.append, Bool.not_true, Bool.not_false, e1, e2, ek, D.imm, D.immT, immL, immNs, items, e3, e6]
    have hu : ∃ u', (seen (fun x => 4 == x || (5 == x || 8 == x || (6 == x || 8 == x))) 7 [u, none]) = [u', none] := by
      rcases u with _ | ⟨_ | _, d⟩ <;> exact ⟨_, rfl⟩
    obtain ⟨u', hu⟩ := hu
    rw [lc_map (fun i : Nat => D.int i) (fun i => dR b (ch.getD i ⟨"a", by decide +kernel⟩)) (List.range (j + 1)) fun i hi => ?_]
    · rw [← e4]
      simp [e5]
    · have hi : i < j + 1 := List.mem_range.mp hi
      have hi1 : i < ch.length := by omega
      refine ⟨_, false, rfl, rfl, ?_⟩
      have q1 := opX_at (S := S3) dN hi1
      have q2 := opX_at (S := S3) dB (l := xs) (i := i) (by omega)
      have q3 : ch.getD i ⟨"a", by decide +kernel⟩ = ch[i] := by rw [List.getD_eq_getElem?_getD, List.getElem?_eq_getElem hi1]; rfl
      rw [q3, dR, hb i hi1]
      simp [ev, evs, evAnd, evOr, evi, evc, evo, theB, R.bind, R.calm, opB, ofO, permD, Lit.d, Gc.d, bindT, bindR, wipeR, hu, q1, q2, opX_B0, opX_B1]
  · have := hp2.length_eq
    rw [z, List.length_nil] at this
    omega
end
end DW

/-! DwW4: queries that a law draws; what a law says of tables. -/
namespace DW
open PySem
/-- a comprehension whose test draws -/
theorem lc_sub {bd : D → Option Rho} {cc : Rho → Src → R Bool} {ee : Rho → Src → R (Bool × D)} {α : Type} (g : α → D) (f : α → D) : ∀ (xs : List α) (S : Src), SI S → (∀ x ∈ xs, ∃ ρ, bd (g x) = some ρ ∧ ∀ S, SI S → ∃ p S', cc ρ S = .ok p S' ∧ SI S' ∧ (p = true → ∃ o, ee ρ S' = .ok (o, f x) S')) → ∃ (l : List α) (S' : Src), lcGo bd cc ee (xs.map g) S = .ok (l.map f) S' ∧ l.Sublist xs ∧ SI S'
  | [], S, h, _ => ⟨[], S, rfl, List.Sublist.refl _, h⟩
  | x :: xs, S, h, hx => by
    obtain ⟨ρ, h1, h2⟩ := hx x (List.mem_cons_self ..)
    obtain ⟨p, S1, e1, s1, h3⟩ := h2 S h
    obtain ⟨l, S2, e2, hl, s2⟩ := lc_sub g f xs S1 s1 fun y hy => hx y (List.mem_cons_of_mem _ hy)
    rw [List.map_cons, lcGo, h1]
    simp only [e1, R.calm, R.bind]
    cases p with
    | false => exact ⟨l, S2, by simp [e2], hl.cons _, s2⟩
    | true =>
      obtain ⟨o, e3⟩ := h3 rfl
      exact ⟨x :: l, S2, by simp [e3, e2, R.calm, R.bind], hl.cons_cons _, s2⟩
/-- a comprehension whose items are drawn -/
theorem lc_drw {bd : D → Option Rho} {cc : Rho → Src → R Bool} {ee : Rho → Src → R (Bool × D)} {α β : Type} (g : α → D) (f : β → D) (Q : β → Prop) : ∀ (xs : List α) (S : Src), SI S → (∀ x ∈ xs, ∃ ρ, bd (g x) = some ρ ∧ ∀ S, SI S → cc ρ S = .ok true S ∧ ∃ y o S', ee ρ S = .ok (o, f y) S' ∧ Q y ∧ SI S') → ∃ (l : List β) (S' : Src), lcGo bd cc ee (xs.map g) S = .ok (l.map f) S' ∧ l.length = xs.length ∧ (∀ y ∈ l, Q y) ∧ SI S'
  | [], S, h, _ => ⟨[], S, rfl, rfl, (fun _ h => by cases h), h⟩
  | x :: xs, S, h, hx => by
    obtain ⟨ρ, h1, h2⟩ := hx x (List.mem_cons_self ..)
    obtain ⟨e1, y, o, S1, e3, q, s1⟩ := h2 S h
    obtain ⟨l, S2, e2, hl, hq, s2⟩ := lc_drw g f Q xs S1 s1 fun y hy => hx y (List.mem_cons_of_mem _ hy)
    rw [List.map_cons, lcGo, h1]
    simp only [e1, R.calm, R.bind, if_true]
    refine ⟨y :: l, S2, by simp [e3, e2, R.calm, R.bind], by rw [List.length_cons, List.length_cons, hl], fun z hz => ?_, s2⟩
    rcases List.mem_cons.mp hz with rfl | hz
    · exact q
    · exact hq z hz
section
variable {P : Prog} [Fu P] {m : Nat} {S : Src}
theorem sp_lbyn [Has P "_law_by_name" Lib.f__law_by_name] {ks : List Nm} {b : Nm → Bd} (nd : ks.Nodup) : (callN P (m + 1)).call "_law_by_name" [.lst (ks.map (dR b))] S = .ok (true, dT ks b) S := by
  rw [call_fn, Lib.f__law_by_name]
  refine (run_ret rfl rfl).trans ?_
  simp [ev, evs, evAnd, evOr, evi, evc, evo, theB, R.bind, R.calm, opB, ofO, permD, Lit.d, Gc.d, bindT, bindR, wipeR, itW_L]
  rw [lc_map (dR b) (fun n => D.tup [dN n, dB (b n)]) ks fun n hn => ⟨_, false, rfl, rfl, by simp [ev, evs, evAnd, evOr, evi, evc, evo, theB, R.bind, R.calm, opB, ofO, permD, Lit.d, Gc.d, bindT, bindR, wipeR, dB_tup]⟩]
  simp [of_dictP nd]
theorem sp_lallb [Has P "_law_all_bounds" Lib.f__law_all_bounds] {ks : List Nm} {b : Nm → Bd} (hl : ks.length < 1000) : (callN P (m + 1)).call "_law_all_bounds" [.lst (ks.map (dR b))] S = .ok (true, .lst ((ks.map (fun n => (b n).1) ++ ks.map fun n => (b n).2).map dF)) S := by
  have hz : ks.length + ks.length ≤ lim := by unfold lim; omega
  rw [call_fn, Lib.f__law_all_bounds]
  refine (run_ret rfl rfl).trans ?_
  simp [ev, evs, evAnd, evOr, evi, evc, evo, theB, R.bind, R.calm, opB, ofO, permD, Lit.d, Gc.d, bindT, bindR, wipeR, itW_L]
  rw [lc_map (dR b) (fun n => dF (b n).1) ks fun n hn => ⟨_, false, rfl, rfl, by simp [ev, evs, evAnd, evOr, evi, evc, evo, theB, R.bind, R.calm, opB, ofO, permD, Lit.d, Gc.d, bindT, bindR, wipeR]⟩]
  simp only []
  rw [lc_map (dR b) (fun n => dF (b n).2) ks fun n hn => ⟨_, false, rfl, rfl, by simp [ev, evs, evAnd, evOr, evi, evc, evo, theB, R.bind, R.calm, opB, ofO, permD, Lit.d, Gc.d, bindT, bindR, wipeR]⟩]
  simp [ev, evs, evAnd, evOr, evi, evc, evo, theB, R.bind, R.calm, opB, ofO, permD, Lit.d, Gc.d, bindT, bindR, wipeR, hz, Function.comp_def]
theorem sp_litems [Has P "_law_items" Lib.f__law_items] (q : Qy) : (callN P (m + 1)).call "_law_items" [dQ q] S = .ok (true, dNs q.ns) S := by
  rw [call_fn, Lib.f__law_items]
  refine (run_ret rfl rfl).trans ?_
  cases q with
  | ord k ns => cases k <;> simp [ev, evs, evAnd, evOr, evi, evc, evo, theB, R.bind, R.calm, opB, ofO, permD, Lit.d, Gc.d, bindT, bindR, wipeR, dQ, Kd.s, Qy.ns, opX_t0, opX_t1, ock_sort_sort, ocn_sort_sort, ock_sort_min, ocn_sort_min, ock_sort_max, ocn_sort_max, ock_sort_above, ocn_sort_above, ock_sort_compare, ocn_sort_compare, oci_sort, ocj_sort, ocx_sort, ock_min_sort, ocn_min_sort, ock_min_min, ocn_min_min, ock_min_max, ocn_min_max, ock_min_above, ocn_min_above, ock_min_compare, ocn_min_compare, oci_min, ocj_min, ocx_min, ock_max_sort, ocn_max_sort, ock_max_min, ocn_max_min, ock_max_max, ocn_max_max, ock_max_above, ocn_max_above, ock_max_compare, ocn_max_compare, oci_max, ocj_max, ocx_max, ock_above_sort, ocn_above_sort, ock_above_min, ocn_above_min, ock_above_max, ocn_above_max, ock_above_above, ocn_above_above, ock_above_compare, ocn_above_compare, oci_above, ocj_above, ocx_above, ock_compare_sort, ocn_compare_sort, ock_compare_min, ocn_compare_min, ock_compare_max, ocn_compare_max, ock_compare_above, ocn_compare_above, ock_compare_compare, ocn_compare_compare, oci_compare, ocj_compare, ocx_compare, opF]
  | abv ns v => simp [ev, evs, evAnd, evOr, evi, evc, evo, theB, R.bind, R.calm, opB, ofO, permD, Lit.d, Gc.d, bindT, bindR, wipeR, dQ, Qy.ns, opX_t0, opX_t1, ock_sort_sort, ocn_sort_sort, ock_sort_min, ocn_sort_min, ock_sort_max, ocn_sort_max, ock_sort_above, ocn_sort_above, ock_sort_compare, ocn_sort_compare, oci_sort, ocj_sort, ocx_sort, ock_min_sort, ocn_min_sort, ock_min_min, ocn_min_min, ock_min_max, ocn_min_max, ock_min_above, ocn_min_above, ock_min_compare, ocn_min_compare, oci_min, ocj_min, ocx_min, ock_max_sort, ocn_max_sort, ock_max_min, ocn_max_min, ock_max_max, ocn_max_max, ock_max_above, ocn_max_above, ock_max_compare, ocn_max_compare, oci_max, ocj_max, ocx_max, ock_above_sort, ocn_above_sort, ock_above_min, ocn_above_min, ock_above_max, ocn_above_max, ock_above_above, ocn_above_above, ock_above_compare, ocn_above_compare, oci_above, ocj_above, ocx_above, ock_compare_sort, ocn_compare_sort, ock_compare_min, ocn_compare_min, ock_compare_max, ocn_compare_max, ock_compare_above, ocn_compare_above, ock_compare_compare, ocn_compare_compare, oci_compare, ocj_compare, ocx_compare, opF]
  | cmp a b => simp [ev, evs, evAnd, evOr, evi, evc, evo, theB, R.bind, R.calm, opB, ofO, permD, Lit.d, Gc.d, bindT, bindR, wipeR, dQ, Qy.ns, opX_t0, opX_t1, opX_t2, ock_sort_sort, ocn_sort_sort, ock_sort_min, ocn_sort_min, ock_sort_max, ocn_sort_max, ock_sort_above, ocn_sort_above, ock_sort_compare, ocn_sort_compare, oci_sort, ocj_sort, ocx_sort, ock_min_sort, ocn_min_sort, ock_min_min, ocn_min_min, ock_min_max, ocn_min_max, ock_min_above, ocn_min_above, ock_min_compare, ocn_min_compare, oci_min, ocj_min, ocx_min, ock_max_sort, ocn_max_sort, ock_max_min, ocn_max_min, ock_max_max, ocn_max_max, ock_max_above, ocn_max_above, ock_max_compare, ocn_max_compare, oci_max, ocj_max, ocx_max, ock_above_sort, ocn_above_sort, ock_above_min, ocn_above_min, ock_above_max, ocn_above_max, ock_above_above, ocn_above_above, ock_above_compare, ocn_above_compare, oci_above, ocj_above, ocx_above, ock_compare_sort, ocn_compare_sort, ock_compare_min, ocn_compare_min, ock_compare_max, ocn_compare_max, ock_compare_above, ocn_compare_above, ock_compare_compare, ocn_compare_compare, oci_compare, ocj_compare, ocx_compare]
variable [Has P "_law_draw" Lib.f__law_draw] [Has P "_law_shuffled" Lib.f__law_shuffled]
theorem row_names {F : FT} {ρ : Rho} {ks : List Nm} {b : Nm → Bd} {i1 i2 i3 : Nat} (h1 : i1 < ρ.length) (h12 : i1 ≠ i2) (h13 : i1 ≠ i3) : lcGo (fun d => bindT [i1, i2, i3] true d (wipeR ρ [i1, i2, i3])) (evc F .nil) (ev F (.var i1)) (ks.map (dR b)) S = .ok (ks.map dN) S := by
  have hlen : (wipeR ρ [i1, i2, i3]).length = ρ.length := wipeR_len ρ _
  refine lc_map (dR b) dN ks fun n hn => ⟨_, false, rfl, rfl, ?_⟩
  rw [ev]
  have : ((((wipeR ρ [i1, i2, i3]).set i1 (some (dN n))).set i2 (some (dF (b n).1))).set i3 (some (dF (b n).2)))[i1]? = some (some (dN n)) := by
    rw [List.getElem?_set_ne (fun z => h13 z.symm), List.getElem?_set_ne (fun z => h12 z.symm), List.getElem?_set_self (by rw [hlen]; exact h1)]
  simp only [this]
theorem sp_lnames [Has P "_law_names" Lib.f__law_names] {ks : List Nm} {b : Nm → Bd} (h : SI S) (nd : ks.Nodup) (hne : ks ≠ []) (hl : ks.length < 64) : ∃ ns S', (callN P (m + 3)).call "_law_names" [.src, .lst (ks.map (dR b))] S = .ok (false, dNt ns) S' ∧ ns ≠ [] ∧ ns.Nodup ∧ (∀ n ∈ ns, n ∈ ks) ∧ ns.length < 64 ∧ SI S' := by
  obtain ⟨l', hp, S1, e1, h1⟩ := sp_shuf (P := P) (m := m) (S := S) dN immN (l := ks) h (by omega)
  have ndl : l'.Nodup := hp.nodup_iff.mpr nd
  rw [call_fn, Lib.f__law_names]
  simp [ev, evs, evAnd, evOr, evi, evc, evo, theB, R.bind, R.calm, opB, ofO, permD, Lit.d, Gc.d, bindT, bindR, wipeR, SR.seq, exs, ex, evM, evMB, evsM, seen, freeze, ment, ments, menti, R.then, loose, isVar, ofSR, setAll, bindM, runFn, startM, List.map, List.length, List.replicate, List.append, Bool.not_true, Bool.not_false, itW_L]
  rw [lc_map (dR b) dN ks fun n hn => ⟨_, false, rfl, rfl, by simp [ev, evs, evAnd, evOr, evi, evc, evo, theB, R.bind, R.calm, opB, ofO, permD, Lit.d, Gc.d, bindT, bindR, wipeR, dR]⟩]
  simp [ev, evs, evAnd, evOr, evi, evc, evo, theB, R.bind, R.calm, opB, ofO, permD, Lit.d, Gc.d, bindT, bindR, wipeR, SR.seq, exs, ex, evM, evMB, evsM, seen, freeze, ment, ments, menti, R.then, loose, isVar, ofSR, setAll, bindM, runFn, startM, List.map, List.length, List.replicate, List.append, Bool.not_true, Bool.not_false, D.immT, immNs, e1, items]
  obtain ⟨l, S2, e2, hs, h2⟩ := lc_sub (bd := fun d => some [some D.src, some (D.lst (ks.map (dR b))), some (dNs ks), some d, none, none, none]) (cc := evc (callN P (m + 2)) (.cons (.cmp .gt (.call "_law_draw" (.cons (.var 0) (.cons (.lit (.int 4)) .nil)) .nil [] [.inl 0, .inl 1]) (.lit (.int 0))) .nil)) (ee := ev (callN P (m + 2)) (.var 3)) dN dN l' S1 h1 (fun x hx => ⟨_, rfl, fun S hS => by
    obtain ⟨v, S', e, a, c, hS'⟩ := sp_draw (P := P) (m := m + 1) (S := S) (c := 4) hS (by decide)
    exact ⟨decide (0 < v), S', by simp [ev, evs, evAnd, evOr, evi, evc, evo, theB, R.bind, R.calm, opB, ofO, permD, Lit.d, Gc.d, bindT, bindR, wipeR, e, oc_gtI], hS', fun _ => ⟨false, by simp [ev, evs, evAnd, evOr, evi, evc, evo, theB, R.bind, R.calm, opB, ofO, permD, Lit.d, Gc.d, bindT, bindR, wipeR]⟩⟩⟩)
  simp [ev, evs, evAnd, evOr, evi, evc, evo, theB, R.bind, R.calm, opB, ofO, permD, Lit.d, Gc.d, bindT, bindR, wipeR] at e2
  rw [e2]
  have ne := oc_nnil l
  cases hq : l with
  | nil =>
    subst hq
    refine ⟨ks.take 1, S2, ?_, ?_, nd.sublist (List.take_sublist ..), fun n hn => List.mem_of_mem_take hn, by rw [List.length_take]; omega, h2⟩
    · have ec : opS (.lst (ks.map dN)) none (some 1) = some (true, .lst ((ks.take 1).map dN)) := by
        show some (true, D.lst (cutD _ _ _)) = _
        rw [show (1 : Int) = ((1 : Nat) : Int) from rfl, cut_to]
      simp only [List.map_nil] at ne
      simp [ev, evs, evAnd, evOr, evi, evc, evo, theB, R.bind, R.calm, opB, ofO, permD, Lit.d, Gc.d, bindT, bindR, wipeR, SR.seq, exs, ex, evM, evMB, evsM, seen, freeze, ment, ments, menti, R.then, loose, isVar, ofSR, setAll, bindM, runFn, startM, List.map, List.length, List.replicate, List.append, Bool.not_true, Bool.not_false, D.immT, immL, immNs, ne, ec, opF, D.imm]
    · cases ks with
      | nil => exact absurd rfl hne
      | cons a l => simp
  | cons x r =>
    rw [hq] at ne hs
    refine ⟨x :: r, S2, ?_, by simp, ndl.sublist hs, fun n hn => hp.mem_iff.mp (hs.subset hn), by have := hs.length_le; rw [hp.length_eq] at this; omega, h2⟩
    have e3 : ((!(x :: r).isEmpty) = true) := rfl
    rw [e3] at ne
    simp only [List.map_cons] at ne
    have : (immL (dN x :: r.map dN)) = true := immNs (x :: r)
    simp [ev, evs, evAnd, evOr, evi, evc, evo, theB, R.bind, R.calm, opB, ofO, permD, Lit.d, Gc.d, bindT, bindR, wipeR, SR.seq, exs, ex, evM, evMB, evsM, seen, freeze, ment, ments, menti, R.then, loose, isVar, ofSR, setAll, bindM, runFn, startM, List.map, List.length, List.replicate, List.append, Bool.not_true, Bool.not_false, D.immT, this, immNs, ne, opF, D.imm]
end
end DW

/-! DwW5: queries that a law draws. -/
namespace DW
open PySem
def SzQ (k : Nat) : Qy → Prop
  | .abv _ v => Sz k v
  | _ => True
section
variable {P : Prog} [Fu P] {m : Nat} {S : Src} [Has P "_law_draw" Lib.f__law_draw] [Has P "_law_choice" Lib.f__law_choice] [Has P "_law_shuffled" Lib.f__law_shuffled] [Has P "_law_gcd" Lib.f__law_gcd] [Has P "_law_reduced" Lib.f__law_reduced] [Has P "_law_bound" Lib.f__law_bound] [Has P "_law_all_bounds" Lib.f__law_all_bounds] [Has P "_law_names" Lib.f__law_names]
theorem sp_lquery [Has P "_law_query" Lib.f__law_query] {ks : List Nm} {b : Nm → Bd} {k : Nat} (h : SI S) (nd : ks.Nodup) (hne : ks ≠ []) (hl : ks.length < 64) (hk : 32 ≤ k) (hz : ∀ n ∈ ks, SzB k (b n)) : ∃ q S', (callN P (m + 4)).call "_law_query" [.src, .lst (ks.map (dR b))] S = .ok (false, dQ q) S' ∧ QOk ks q ∧ SzQ k q ∧ SI S' := by
  obtain ⟨kd, hkd, S1, e1, h1⟩ := sp_choice (P := P) (m := m + 1) (S := S) D.str (l := ["sort", "min", "max", "above", "compare", "sort", "min"]) h (by simp) (by decide)
  simp only [List.map_cons, List.map_nil] at e1
  obtain ⟨ns, S2, e2, n1, n2, n3, n4, h2⟩ := sp_lnames (P := P) (m := m) (S := S1) (b := b) h1 nd hne hl
  have hkd : kd = "sort" ∨ kd = "min" ∨ kd = "max" ∨ kd = "above" ∨ kd = "compare" := by
    simp at hkd
    rcases hkd with h | h | h | h | h | h | h <;> simp [h]
  have fin : ∀ (k0 : Kd), kd = k0.s → ∃ q S', (callN P (m + 4)).call "_law_query" [.src, .lst (ks.map (dR b))] S = .ok (false, dQ q) S' ∧ QOk ks q ∧ SzQ k q ∧ SI S' := by
    intro k0 e
    subst e
    refine ⟨.ord k0 ns, S2, ?_, ⟨n1, n2, n3, n4⟩, trivial, h2⟩
    rw [call_fn, Lib.f__law_query]
    cases k0 <;> simp [Kd.s] at e1 <;> simp [ev, evs, evAnd, evOr, evi, evc, evo, theB, R.bind, R.calm, opB, ofO, permD, Lit.d, Gc.d, bindT, bindR, wipeR, SR.seq, exs, ex, evM, evMB, evsM, seen, freeze, ment, ments, menti, R.then, loose, isVar, ofSR, setAll, bindM, runFn, startM, List.map, List.length, List.replicate, List.append, Bool.not_true, Bool.not_false, e1, e2, ock_sort_sort, ocn_sort_sort, ock_sort_min, ocn_sort_min, ock_sort_max, ocn_sort_max, ock_sort_above, ocn_sort_above, ock_sort_compare, ocn_sort_compare, oci_sort, ocj_sort, ocx_sort, ock_min_sort, ocn_min_sort, ock_min_min, ocn_min_min, ock_min_max, ocn_min_max, ock_min_above, ocn_min_above, ock_min_compare, ocn_min_compare, oci_min, ocj_min, ocx_min, ock_max_sort, ocn_max_sort, ock_max_min, ocn_max_min, ock_max_max, ocn_max_max, ock_max_above, ocn_max_above, ock_max_compare, ocn_max_compare, oci_max, ocj_max, ocx_max, ock_above_sort, ocn_above_sort, ock_above_min, ocn_above_min, ock_above_max, ocn_above_max, ock_above_above, ocn_above_above, ock_above_compare, ocn_above_compare, oci_above, ocj_above, ocx_above, ock_compare_sort, ocn_compare_sort, ock_compare_min, ocn_compare_min, ock_compare_max, ocn_compare_max, ock_compare_above, ocn_compare_above, ock_compare_compare, ocn_compare_compare, oci_compare, ocj_compare, ocx_compare, D.imm, immNs, immL, dQ, Kd.s]
  rcases hkd with e | e | e | e | e
  · exact fin .sort e
  · exact fin .min e
  · exact fin .max e
  · subst e
    obtain ⟨f, S3, e3, z3, h3⟩ := sp_lbound (P := P) (m := m) (S := S2) (c := 8) h2 (by decide) (by decide)
    have e3 : (callN P (m + 3)).call "_law_bound" [.src, .int 8] S2 = .ok (false, dF f) S3 := e3
    have e4 := sp_lallb (P := P) (m := m + 2) (S := S2) (ks := ks) (b := b) (by omega)
    obtain ⟨v, hv, S4, e5, h4⟩ := sp_choice (P := P) (m := m + 1) (S := S3) dF (l := (ks.map (fun n => (b n).1) ++ ks.map fun n => (b n).2) ++ [f]) h3 (by simp) (by simp; omega)
    refine ⟨.abv ns v, S4, ?_, ⟨n1, n2, n3, n4⟩, ?_, h4⟩
    · have hlim : (ks.map (fun n => (b n).1) ++ ks.map fun n => (b n).2).length + 1 ≤ lim := by
        rw [List.length_append, List.length_map, List.length_map]; unfold lim; omega
      rw [List.map_append] at e5
      rw [call_fn, Lib.f__law_query]
      simp only [List.map_cons, List.map_nil] at e5
      simp at hlim e4 e5
      simp [ev, evs, evAnd, evOr, evi, evc, evo, theB, R.bind, R.calm, opB, ofO, permD, Lit.d, Gc.d, bindT, bindR, wipeR, SR.seq, exs, ex, evM, evMB, evsM, seen, freeze, ment, ments, menti, R.then, loose, isVar, ofSR, setAll, bindM, runFn, startM, List.map, List.length, List.replicate, List.append, Bool.not_true, Bool.not_false, e1, e2, e3, e4, e5, hlim, ock_sort_sort, ocn_sort_sort, ock_sort_min, ocn_sort_min, ock_sort_max, ocn_sort_max, ock_sort_above, ocn_sort_above, ock_sort_compare, ocn_sort_compare, oci_sort, ocj_sort, ocx_sort, ock_min_sort, ocn_min_sort, ock_min_min, ocn_min_min, ock_min_max, ocn_min_max, ock_min_above, ocn_min_above, ock_min_compare, ocn_min_compare, oci_min, ocj_min, ocx_min, ock_max_sort, ocn_max_sort, ock_max_min, ocn_max_min, ock_max_max, ocn_max_max, ock_max_above, ocn_max_above, ock_max_compare, ocn_max_compare, oci_max, ocj_max, ocx_max, ock_above_sort, ocn_above_sort, ock_above_min, ocn_above_min, ock_above_max, ocn_above_max, ock_above_above, ocn_above_above, ock_above_compare, ocn_above_compare, oci_above, ocj_above, ocx_above, ock_compare_sort, ocn_compare_sort, ock_compare_min, ocn_compare_min, ock_compare_max, ocn_compare_max, ock_compare_above, ocn_compare_above, ock_compare_compare, ocn_compare_compare, oci_compare, ocj_compare, ocx_compare, D.imm, immNs, immL, immF, dQ]
    · rcases List.mem_append.mp hv with hv | hv
      · rcases List.mem_append.mp hv with hv | hv
        · obtain ⟨n, hn, rfl⟩ := List.mem_map.mp hv
          exact (hz n hn).1
        · obtain ⟨n, hn, rfl⟩ := List.mem_map.mp hv
          exact (hz n hn).2
      · obtain rfl := List.mem_singleton.mp hv
        exact z3.mono hk
  · subst e
    by_cases hlen : 1 < ks.length
    · obtain ⟨l', hp, S3, e3, h3⟩ := sp_shuf (P := P) (m := m + 1) (S := S2) dN immN (l := ks) h2 (by omega)
      have ll := hp.length_eq
      have ndl := hp.nodup_iff.mpr nd
      rcases l' with _ | ⟨x, _ | ⟨y, r⟩⟩
      · simp at ll; omega
      · simp at ll; omega
      · refine ⟨.cmp x y, S3, ?_, ⟨by simp [Qy.ns], ?_, ?_, by simp [Qy.ns]⟩, trivial, h3⟩
        · have ec : opS (.lst (dN x :: dN y :: r.map dN)) none (some 2) = some (true, .lst [dN x, dN y]) := by
            show some (true, D.lst (cutD ((x :: y :: r).map dN) _ _)) = _
            rw [show (2 : Int) = ((2 : Nat) : Int) from rfl, cut_to]; rfl
          have hlen' : (1 : Int) < ks.length := by omega
          rw [call_fn, Lib.f__law_query]
          simp only [List.map_cons] at e3
          simp [ev, evs, evAnd, evOr, evi, evc, evo, theB, R.bind, R.calm, opB, ofO, permD, Lit.d, Gc.d, bindT, bindR, wipeR, SR.seq, exs, ex, evM, evMB, evsM, seen, freeze, ment, ments, menti, R.then, loose, isVar, ofSR, setAll, bindM, runFn, startM, List.map, List.length, List.replicate, List.append, Bool.not_true, Bool.not_false, e1, e2, ock_sort_sort, ocn_sort_sort, ock_sort_min, ocn_sort_min, ock_sort_max, ocn_sort_max, ock_sort_above, ocn_sort_above, ock_sort_compare, ocn_sort_compare, oci_sort, ocj_sort, ocx_sort, ock_min_sort, ocn_min_sort, ock_min_min, ocn_min_min, ock_min_max, ocn_min_max, ock_min_above, ocn_min_above, ock_min_compare, ocn_min_compare, oci_min, ocj_min, ocx_min, ock_max_sort, ocn_max_sort, ock_max_min, ocn_max_min, ock_max_max, ocn_max_max, ock_max_above, ocn_max_above, ock_max_compare, ocn_max_compare, oci_max, ocj_max, ocx_max, ock_above_sort, ocn_above_sort, ock_above_min, ocn_above_min, ock_above_max, ocn_above_max, ock_above_above, ocn_above_above, ock_above_compare, ocn_above_compare, oci_above, ocj_above, ocx_above, ock_compare_sort, ocn_compare_sort, ock_compare_min, ocn_compare_min, ock_compare_max, ocn_compare_max, ock_compare_above, ocn_compare_above, ock_compare_compare, ocn_compare_compare, oci_compare, ocj_compare, ocx_compare, D.imm, immNs, immL, of_lenL, oc_gtI, hlen', itW_L]
          rw [lc_map (dR b) dN ks fun n hn => ⟨_, false, rfl, rfl, by simp [ev, evs, evAnd, evOr, evi, evc, evo, theB, R.bind, R.calm, opB, ofO, permD, Lit.d, Gc.d, bindT, bindR, wipeR, dR]⟩]
          simp [ev, evs, evAnd, evOr, evi, evc, evo, theB, R.bind, R.calm, opB, ofO, permD, Lit.d, Gc.d, bindT, bindR, wipeR, SR.seq, exs, ex, evM, evMB, evsM, seen, freeze, ment, ments, menti, R.then, loose, isVar, ofSR, setAll, bindM, runFn, startM, List.map, List.length, List.replicate, List.append, Bool.not_true, Bool.not_false, e3, ec, D.immT, D.imm, immL, immN, opX_l0, opX_l1, dQ]
        · have := (List.nodup_cons.mp ndl).1
          simp only [Qy.ns, List.nodup_cons, List.mem_singleton, List.not_mem_nil, not_false_eq_true, List.nodup_nil, and_true]
          exact fun e => this (by rw [e]; exact List.mem_cons_self ..)
        · intro n hn
          simp only [Qy.ns, List.mem_cons, List.not_mem_nil, or_false] at hn
          exact hp.mem_iff.mp (by rcases hn with rfl | rfl <;> simp)
    · have hlen' : ¬ (1 : Int) < ks.length := by omega
      refine ⟨.ord .sort ns, S2, ?_, ⟨n1, n2, n3, n4⟩, trivial, h2⟩
      rw [call_fn, Lib.f__law_query]
      simp [ev, evs, evAnd, evOr, evi, evc, evo, theB, R.bind, R.calm, opB, ofO, permD, Lit.d, Gc.d, bindT, bindR, wipeR, SR.seq, exs, ex, evM, evMB, evsM, seen, freeze, ment, ments, menti, R.then, loose, isVar, ofSR, setAll, bindM, runFn, startM, List.map, List.length, List.replicate, List.append, Bool.not_true, Bool.not_false, e1, e2, ock_sort_sort, ocn_sort_sort, ock_sort_min, ocn_sort_min, ock_sort_max, ocn_sort_max, ock_sort_above, ocn_sort_above, ock_sort_compare, ocn_sort_compare, oci_sort, ocj_sort, ocx_sort, ock_min_sort, ocn_min_sort, ock_min_min, ocn_min_min, ock_min_max, ocn_min_max, ock_min_above, ocn_min_above, ock_min_compare, ocn_min_compare, oci_min, ocj_min, ocx_min, ock_max_sort, ocn_max_sort, ock_max_min, ocn_max_min, ock_max_max, ocn_max_max, ock_max_above, ocn_max_above, ock_max_compare, ocn_max_compare, oci_max, ocj_max, ocx_max, ock_above_sort, ocn_above_sort, ock_above_min, ocn_above_min, ock_above_max, ocn_above_max, ock_above_above, ocn_above_above, ock_above_compare, ocn_above_compare, oci_above, ocj_above, ocx_above, ock_compare_sort, ocn_compare_sort, ock_compare_min, ocn_compare_min, ock_compare_max, ocn_compare_max, ock_compare_above, ocn_compare_above, ock_compare_compare, ocn_compare_compare, oci_compare, ocj_compare, ocx_compare, D.imm, immNs, immL, of_lenL, oc_gtI, hlen', hlen, dQ, Kd.s]
theorem sp_lqueries [Has P "_law_query" Lib.f__law_query] [Has P "_law_queries" Lib.f__law_queries] {ks : List Nm} {b : Nm → Bd} {k most : Nat} (h : SI S) (nd : ks.Nodup) (hne : ks ≠ []) (hl : ks.length < 64) (hk : 32 ≤ k) (hz : ∀ n ∈ ks, SzB k (b n)) (hm : most ≤ 1000) : ∃ (qs : List Qy) (S' : Src), (callN P (m + 5)).call "_law_queries" [.src, .lst (ks.map (dR b)), .int most] S = .ok (true, .lst (qs.map dQ)) S' ∧ qs.length ≤ most ∧ (∀ q ∈ qs, QOk ks q ∧ SzQ k q) ∧ SI S' := by
  obtain ⟨v, S1, e1, a1, b1, h1⟩ := sp_draw (P := P) (m := m + 3) (S := S) (c := (most : Int) + 1) h (by omega) (by omega)
  obtain ⟨j, rfl⟩ : ∃ j : Nat, v = j := ⟨v.toNat, by omega⟩
  obtain ⟨qs, S2, e2, hq, hqs, h2⟩ := lc_drw (bd := fun d => some [some D.src, some (D.lst (ks.map (dR b))), some (D.int most), some d]) (cc := evc (callN P (m + 4)) .nil) (ee := ev (callN P (m + 4)) (.call "_law_query" (.cons (.var 0) (.cons (.var 1) .nil)) .nil [] [.inl 0, .inl 1])) (fun i : Nat => D.int i) dQ (fun q => QOk ks q ∧ SzQ k q) (List.range j) S1 h1 (fun x hx => ⟨_, rfl, fun S hS => ⟨rfl, by
    obtain ⟨q, S', e, q1, q2, hS'⟩ := sp_lquery (P := P) (m := m) (S := S) (b := b) hS nd hne hl hk hz
    exact ⟨q, false, S', by simp [ev, evs, evAnd, evOr, evi, evc, evo, theB, R.bind, R.calm, opB, ofO, permD, Lit.d, Gc.d, bindT, bindR, wipeR, e], ⟨q1, q2⟩, hS'⟩⟩⟩)
  refine ⟨qs, S2, ?_, by rw [hq, List.length_range]; omega, hqs, h2⟩
  have er := or_rng (n := j) (by omega)
  rw [call_fn, Lib.f__law_queries]
  refine (run_ret rfl rfl).trans ?_
  simp [ev, evs, evAnd, evOr, evi, evc, evo, theB, R.bind, R.calm, opB, ofO, permD, Lit.d, Gc.d, bindT, bindR, wipeR] at e2
  simp [ev, evs, evAnd, evOr, evi, evc, evo, theB, R.bind, R.calm, opB, ofO, permD, Lit.d, Gc.d, bindT, bindR, wipeR, e1, er, e2]
end
end DW

/-! DwW6: what a law says of tables and queries. -/
namespace DW
open PySem
theorem seen_nil (f : Nat → Bool) (i : Nat) : seen f i [] = [] := rfl
theorem seen_cons (f : Nat → Bool) (i : Nat) (u : Option (Bool × D)) (μ : Mem) : seen f i (u :: μ) = (u.bind fun p => if p.1 && !f i then none else some p.2) :: seen f (i + 1) μ := by
  rcases u with _ | ⟨o, d⟩ <;> rfl
theorem freeze_nil (f : Nat → Bool) (i : Nat) : freeze f i [] = [] := rfl
theorem freeze_cons (f : Nat → Bool) (i : Nat) (u : Option (Bool × D)) (μ : Mem) : freeze f i (u :: μ) = (u.map fun p => (p.1 && !f i, p.2)) :: freeze f (i + 1) μ := by
  rcases u with _ | ⟨o, d⟩ <;> rfl
/-- a loop that gathers items -/
theorem for_flt {α : Type} {bd : D → Mem → Option Mem} {body : Mem → Src → SR} {S : Src} (g : α → D) (p : α → Bool) (B : Nat) (M : List α → Mem → Prop) : ∀ (xs : List α), (∀ x ∈ xs, ∀ acc μ, acc.length < B → M acc μ → ∃ μ1, bd (g x) μ = some μ1 ∧ ∃ μ2, body μ1 S = .nxt μ2 S ∧ M (if p x = true then acc ++ [x] else acc) μ2) → ∀ (acc : List α) (μ : Mem), acc.length + xs.length ≤ B → M acc μ → ∃ μ', forGo bd body (xs.map g) μ S = .nxt μ' S ∧ M (acc ++ xs.filter p) μ'
  | [], _, acc, μ, _, h => ⟨μ, rfl, by simpa using h⟩
  | x :: xs, step, acc, μ, hB, h => by
    rw [List.length_cons] at hB
    obtain ⟨μ1, e1, μ2, e2, h2⟩ := step x (List.mem_cons_self ..) acc μ (by omega) h
    obtain ⟨μ3, e3, h3⟩ := for_flt g p B M xs (fun y hy => step y (List.mem_cons_of_mem _ hy)) _ μ2 (by split <;> (try rw [List.length_append, List.length_singleton]) <;> omega) h2
    refine ⟨μ3, ?_, ?_⟩
    · rw [List.map_cons, forGo, e1]
      simp only [e2]
      exact e3
    · cases q : p x with
      | true => rw [q, if_pos rfl] at h3; simpa [q] using h3
      | false => rw [q, if_neg (by decide)] at h3; simpa [q] using h3
theorem leF_not (a b : Fr) : (!ltF b a) = leF a b := by
  cases h : ltF b a with
  | true =>
    unfold ltF at h; unfold leF
    have := of_decide_eq_true h
    exact (decide_eq_false (by omega)).symm
  | false => exact (leF_of_nlt h).symm
/-! ### what is computed -/
def lunk (b : Nm → Bd) (ns : List Nm) : List Nm := (srt ns).filter fun n => !knw (b n)
def lcont (x y : Bd) : Bool := if knw y then ins y.1 x else leF x.1 y.1 && leF y.2 x.2
def lfrn (b : Nm → Bd) (ns : List Nm) : List Nm := (lunk b ns).filter fun n => (lunk b ns).all (fun o => leF (b n).1 (b o).1) && !(ns.filter fun o => knw (b o)).any fun o => leF (b o).1 (b n).1
def lmin (b : Nm → Bd) (ns : List Nm) : List Nm := (lfrn b ns).filter fun n => ((ns.filter fun o => !decide (o = n)).any fun o => blk (b n) (b o))
def lsrt (b : Nm → Bd) (ns : List Nm) : List Nm := (lunk b ns).filter fun n => ((ns.filter fun o => !decide (o = n)).any fun o => lcont (b n) (b o))
def lreq (b : Nm → Bd) : Qy → List Nm
  | .ord .sort ns => lsrt b ns
  | .cmp x y => lsrt b [x, y]
  | .abv ns v => (lunk b ns).filter fun n => ins v (b n)
  | .ord .min ns => lmin b ns
  | .ord .max ns => lmin (fun n => ngB (b n)) ns
section
variable {P : Prog} [Fu P] {m : Nat} {S : Src} [Has P "_law_less" Lib.f__law_less]
theorem sp_latm [Has P "_law_at_most" Lib.f__law_at_most] (a b : Fr) : (callN P (m + 2)).call "_law_at_most" [dF a, dF b] S = .ok (false, .bl (leF a b)) S := by
  rw [call_fn, Lib.f__law_at_most]
  refine (run_ret rfl rfl).trans ?_
  simp [ev, evs, evAnd, evOr, evi, evc, evo, theB, R.bind, R.calm, opB, ofO, permD, Lit.d, Gc.d, bindT, bindR, wipeR, sp_lless, leF_not]
theorem sp_lins [Has P "_law_inside" Lib.f__law_inside] (v lo hi : Fr) : (callN P (m + 2)).call "_law_inside" [dF v, dF lo, dF hi] S = .ok (false, .bl (ins v (lo, hi))) S := by
  rw [call_fn, Lib.f__law_inside]
  refine (run_ret rfl rfl).trans ?_
  simp [ev, evs, evAnd, evOr, evi, evc, evo, theB, R.bind, R.calm, opB, ofO, permD, Lit.d, Gc.d, bindT, bindR, wipeR, sp_lless, ins, b_and]
theorem sp_lkn [Has P "_law_is_known" Lib.f__law_is_known] (x : Bd) : (callN P (m + 1)).call "_law_is_known" [dB x] S = .ok (false, .bl (knw x)) S := by
  rw [call_fn, Lib.f__law_is_known]
  refine (run_ret rfl rfl).trans ?_
  simp [ev, evs, evAnd, evOr, evi, evc, evo, theB, R.bind, R.calm, opB, ofO, permD, Lit.d, Gc.d, bindT, bindR, wipeR, opX_B0, opX_B1, oc_eqF, knw]
theorem sp_lneg [Has P "_law_negated" Lib.f__law_negated] (x : Bd) : (callN P (m + 1)).call "_law_negated" [dB x] S = .ok (false, dB (ngB x)) S := by
  rw [call_fn, Lib.f__law_negated]
  refine (run_ret rfl rfl).trans ?_
  rw [dB_tup (ngB x), dF_tup (ngB x).1, dF_tup (ngB x).2]
  simp [ev, evs, evAnd, evOr, evi, evc, evo, theB, R.bind, R.calm, opB, ofO, permD, Lit.d, Gc.d, bindT, bindR, wipeR, opX_B0, opX_B1, opX_F0, opX_F1, ngB, ngF]
theorem sp_lmir [Has P "_law_negated" Lib.f__law_negated] [Has P "_law_mirrored" Lib.f__law_mirrored] {ks : List Nm} {b : Nm → Bd} (nd : ks.Nodup) : (callN P (m + 2)).call "_law_mirrored" [dT ks b] S = .ok (true, dT ks fun n => ngB (b n)) S := by
  rw [call_fn, Lib.f__law_mirrored]
  refine (run_ret rfl rfl).trans ?_
  simp [ev, evs, evAnd, evOr, evi, evc, evo, theB, R.bind, R.calm, opB, ofO, permD, Lit.d, Gc.d, bindT, bindR, wipeR, itW_M]
  rw [lc_map dN (fun n => D.tup [dN n, dB (ngB (b n))]) ks fun n hn => ⟨_, false, rfl, rfl, by simp [ev, evs, evAnd, evOr, evi, evc, evo, theB, R.bind, R.calm, opB, ofO, permD, Lit.d, Gc.d, bindT, bindR, wipeR, opX_M hn, sp_lneg]⟩]
  simp [of_dictP nd]
theorem sp_lunk [Has P "_law_is_known" Lib.f__law_is_known] [Has P "_law_unknown" Lib.f__law_unknown] {ks ns : List Nm} {b : Nm → Bd} (hs : ∀ n ∈ ns, n ∈ ks) (hl : ns.length < 64) : (callN P (m + 2)).call "_law_unknown" [dT ks b, dNs ns] S = .ok (true, dNs (lunk b ns)) S := by
  rw [call_fn, Lib.f__law_unknown]
  refine (run_ret rfl rfl).trans ?_
  simp [ev, evs, evAnd, evOr, evi, evc, evo, theB, R.bind, R.calm, opB, ofO, permD, Lit.d, Gc.d, bindT, bindR, wipeR, of_sortL hl, items]
  rw [lc_ok dN (fun n => !knw (b n)) dN (srt ns) fun n hn => ⟨_, rfl, by simp [ev, evs, evAnd, evOr, evi, evc, evo, theB, R.bind, R.calm, opB, ofO, permD, Lit.d, Gc.d, bindT, bindR, wipeR, opX_M (hs n ((srt_perm ns).mem_iff.mp hn)), sp_lkn], fun _ => ⟨false, by simp [ev, evs, evAnd, evOr, evi, evc, evo, theB, R.bind, R.calm, opB, ofO, permD, Lit.d, Gc.d, bindT, bindR, wipeR]⟩⟩]
  rfl
theorem sp_lcont [Has P "_law_at_most" Lib.f__law_at_most] [Has P "_law_inside" Lib.f__law_inside] [Has P "_law_is_known" Lib.f__law_is_known] [Has P "_law_contains" Lib.f__law_contains] (x y : Bd) : (callN P (m + 3)).call "_law_contains" [dB x, dB y] S = .ok (false, .bl (lcont x y)) S := by
  rw [call_fn, Lib.f__law_contains]
  cases h : knw y <;> simp [ev, evs, evAnd, evOr, evi, evc, evo, theB, R.bind, R.calm, opB, ofO, permD, Lit.d, Gc.d, bindT, bindR, wipeR, SR.seq, exs, ex, evM, evMB, evsM, seen, freeze, ment, ments, menti, R.then, loose, isVar, ofSR, setAll, bindM, runFn, startM, List.map, List.length, List.replicate, List.append, Bool.not_true, Bool.not_false, opX_B0, opX_B1, sp_lkn, sp_lins, sp_latm, lcont, h, D.imm, b_and]
theorem sp_lblk [Has P "_law_at_most" Lib.f__law_at_most] [Has P "_law_is_known" Lib.f__law_is_known] [Has P "_law_blocks" Lib.f__law_blocks] (x y : Bd) : (callN P (m + 3)).call "_law_blocks" [dB x, dB y] S = .ok (false, .bl (blk x y)) S := by
  rw [call_fn, Lib.f__law_blocks]
  cases h : knw y <;> simp [ev, evs, evAnd, evOr, evi, evc, evo, theB, R.bind, R.calm, opB, ofO, permD, Lit.d, Gc.d, bindT, bindR, wipeR, SR.seq, exs, ex, evM, evMB, evsM, seen, freeze, ment, ments, menti, R.then, loose, isVar, ofSR, setAll, bindM, runFn, startM, List.map, List.length, List.replicate, List.append, Bool.not_true, Bool.not_false, opX_B0, opX_B1, sp_lkn, sp_lless, sp_latm, blk, h, D.imm]
variable [Has P "_law_at_most" Lib.f__law_at_most] [Has P "_law_is_known" Lib.f__law_is_known] [Has P "_law_unknown" Lib.f__law_unknown]
theorem lunk_mem {b : Nm → Bd} {ns : List Nm} {n : Nm} (h : n ∈ lunk b ns) : n ∈ ns := (srt_perm ns).mem_iff.mp (List.mem_filter.mp h).1
theorem lfrn_mem {b : Nm → Bd} {ns : List Nm} {n : Nm} (h : n ∈ lfrn b ns) : n ∈ ns := lunk_mem (List.mem_filter.mp h).1
theorem sp_lfrn [Has P "_law_frontier" Lib.f__law_frontier] {ks ns : List Nm} {b : Nm → Bd} (hs : ∀ n ∈ ns, n ∈ ks) (hl : ns.length < 64) : (callN P (m + 3)).call "_law_frontier" [dT ks b, dNs ns] S = .ok (true, dNs (lfrn b ns)) S := by
  have e1 := sp_lunk (P := P) (m := m) (S := S) (b := b) hs hl
  have hll : (lunk b ns).length < 64 := Nat.lt_of_le_of_lt (List.length_filter_le ..) (by rw [(srt_perm ns).length_eq]; exact hl)
  have key : ∀ (x : Nm) (acc : List Nm) (u v w z : Option (Bool × D)) (q1 q2 : Bool), x ∈ lunk b ns → acc.length < 64 → (lunk b ns).all (fun o => leF (b x).1 (b o).1) = q1 → (ns.filter fun o => knw (b o)).any (fun o => leF (b o).1 (b x).1) = q2 → ∃ (v' z' : Option (Bool × D)), exs (callN P (m + 2)) P.xf 20000 Lib.f__law_frontier_L1 [some (false, dT ks b), some (false, dNs ns), some (false, dNs (lunk b ns)), some (true, .lst (acc.map dN)), some (false, dN x), v, w, z] S = .nxt [some (false, dT ks b), some (false, dNs ns), some (false, dNs (lunk b ns)), some (true, .lst ((if (q1 && !q2) = true then acc ++ [x] else acc).map dN)), some (false, dN x), v', w, z'] S := by
    intro x acc u v w z q1 q2 hx ha h1 h2
    have hlim : acc.length < lim := by unfold lim; omega
    have hxk := hs x (lunk_mem hx)
    have e7 := of_all (fun o => leF (b x).1 (b o).1) (lunk b ns)
    have e8 := of_any (fun o => leF (b o).1 (b x).1) (ns.filter fun o => knw (b o))
    rw [h1] at e7
    rw [h2] at e8
    cases q1 with
    | false =>
      refine ⟨some (false, dF (b x).1), z, ?_⟩
      simp [Lib.f__law_frontier_L1, ev, evs, evAnd, evOr, evi, evc, evo, theB, R.bind, R.calm, opB, ofO, permD, Lit.d, Gc.d, bindT, bindR, wipeR, SR.seq, exs, ex, evM, evMB, evsM, seen_nil, seen_cons, freeze_nil, freeze_cons, Option.bind_some, Option.bind_none, Option.map_some, Option.map_none, ment, ments, menti, R.then, loose, isVar, ofSR, setAll, bindM, runFn, startM, List.map, List.length, List.replicate, List.append, Bool.not_true, Bool.not_false, opX_M hxk, opX_B0, D.imm, immF, itW_L]
      rw [lc_map dN (fun o => D.bl (leF (b x).1 (b o).1)) (lunk b ns) fun o ho => ⟨_, false, rfl, rfl, by simp [ev, evs, evAnd, evOr, evi, evc, evo, theB, R.bind, R.calm, opB, ofO, permD, Lit.d, Gc.d, bindT, bindR, wipeR, opX_M (hs o (lunk_mem ho)), opX_B0, sp_latm]⟩]
      simp [e7, D.imm]
    | true =>
      refine ⟨some (false, dF (b x).1), some (true, dNs (ns.filter fun o => knw (b o))), ?_⟩
      simp [Lib.f__law_frontier_L1, ev, evs, evAnd, evOr, evi, evc, evo, theB, R.bind, R.calm, opB, ofO, permD, Lit.d, Gc.d, bindT, bindR, wipeR, SR.seq, exs, ex, evM, evMB, evsM, seen_nil, seen_cons, freeze_nil, freeze_cons, Option.bind_some, Option.bind_none, Option.map_some, Option.map_none, ment, ments, menti, R.then, loose, isVar, ofSR, setAll, bindM, runFn, startM, List.map, List.length, List.replicate, List.append, Bool.not_true, Bool.not_false, opX_M hxk, opX_B0, D.imm, immF, itW_L]
      rw [lc_map dN (fun o => D.bl (leF (b x).1 (b o).1)) (lunk b ns) fun o ho => ⟨_, false, rfl, rfl, by simp [ev, evs, evAnd, evOr, evi, evc, evo, theB, R.bind, R.calm, opB, ofO, permD, Lit.d, Gc.d, bindT, bindR, wipeR, opX_M (hs o (lunk_mem ho)), opX_B0, sp_latm]⟩]
      simp [e7, D.imm, ev, evs, evAnd, evOr, evi, evc, evo, theB, R.bind, R.calm, opB, ofO, permD, Lit.d, Gc.d, bindT, bindR, wipeR, SR.seq, exs, ex, evM, evMB, evsM, seen_nil, seen_cons, freeze_nil, freeze_cons, Option.bind_some, Option.bind_none, Option.map_some, Option.map_none, ment, ments, menti, R.then, loose, isVar, ofSR, setAll, bindM, runFn, startM, List.map, List.length, List.replicate, List.append, Bool.not_true, Bool.not_false, itW_L]
      rw [lc_ok dN (fun o => knw (b o)) dN ns fun o ho => ⟨_, rfl, by simp [ev, evs, evAnd, evOr, evi, evc, evo, theB, R.bind, R.calm, opB, ofO, permD, Lit.d, Gc.d, bindT, bindR, wipeR, opX_M (hs o ho), sp_lkn], fun _ => ⟨false, by simp [ev, evs, evAnd, evOr, evi, evc, evo, theB, R.bind, R.calm, opB, ofO, permD, Lit.d, Gc.d, bindT, bindR, wipeR]⟩⟩]
      simp [D.imm, D.immT, immNs, ev, evs, evAnd, evOr, evi, evc, evo, theB, R.bind, R.calm, opB, ofO, permD, Lit.d, Gc.d, bindT, bindR, wipeR, SR.seq, exs, ex, evM, evMB, evsM, seen_nil, seen_cons, freeze_nil, freeze_cons, Option.bind_some, Option.bind_none, Option.map_some, Option.map_none, ment, ments, menti, R.then, loose, isVar, ofSR, setAll, bindM, runFn, startM, List.map, List.length, List.replicate, List.append, Bool.not_true, Bool.not_false, itW_L]
      rw [lc_map dN (fun o => D.bl (leF (b o).1 (b x).1)) (ns.filter fun o => knw (b o)) fun o ho => ⟨_, false, rfl, rfl, by simp [ev, evs, evAnd, evOr, evi, evc, evo, theB, R.bind, R.calm, opB, ofO, permD, Lit.d, Gc.d, bindT, bindR, wipeR, opX_M (hs o (List.mem_filter.mp ho).1), opX_B0, sp_latm]⟩]
      cases q2 with
      | true => simp [e8, D.imm]
      | false => simp [e8, D.imm, ev, evs, evAnd, evOr, evi, evc, evo, theB, R.bind, R.calm, opB, ofO, permD, Lit.d, Gc.d, bindT, bindR, wipeR, SR.seq, exs, ex, evM, evMB, evsM, seen_nil, seen_cons, freeze_nil, freeze_cons, Option.bind_some, Option.bind_none, Option.map_some, Option.map_none, ment, ments, menti, R.then, loose, isVar, ofSR, setAll, bindM, runFn, startM, List.map, List.length, List.replicate, List.append, Bool.not_true, Bool.not_false, own?, mtTy, immL, immN, opM, hlim, setR]
  obtain ⟨μ', e, u, v, w, z, rfl⟩ := for_flt (bd := bindM [4] false) (body := exs (callN P (m + 2)) P.xf 20000 Lib.f__law_frontier_L1) (S := S) dN (fun n => (lunk b ns).all (fun o => leF (b n).1 (b o).1) && !(ns.filter fun o => knw (b o)).any fun o => leF (b o).1 (b n).1) 64
    (fun acc μ => ∃ (u v w z : Option (Bool × D)), μ = [some (false, dT ks b), some (false, dNs ns), some (false, dNs (lunk b ns)), some (true, .lst (acc.map dN)), u, v, w, z]) (lunk b ns) (by
      rintro x hx acc μ ha ⟨u, v, w, z, rfl⟩
      obtain ⟨v', z', e⟩ := key x acc u v w z _ _ hx ha rfl rfl
      exact ⟨_, rfl, _, e, _, _, _, _, rfl⟩) [] [some (false, dT ks b), some (false, dNs ns), some (false, dNs (lunk b ns)), some (true, .lst []), none, none, none, none] (by simp; omega) ⟨none, none, none, none, rfl⟩
  rw [call_fn, Lib.f__law_frontier]
  simp [ev, evs, evAnd, evOr, evi, evc, evo, theB, R.bind, R.calm, opB, ofO, permD, Lit.d, Gc.d, bindT, bindR, wipeR, SR.seq, exs, ex, evM, evMB, evsM, seen_nil, seen_cons, freeze_nil, freeze_cons, Option.bind_some, Option.bind_none, Option.map_some, Option.map_none, ment, ments, menti, R.then, loose, isVar, ofSR, setAll, bindM, runFn, startM, List.map, List.length, List.replicate, List.append, Bool.not_true, Bool.not_false, e1, D.immT, immNs, immL, items, e, lfrn]
variable [Has P "_law_inside" Lib.f__law_inside] [Has P "_law_contains" Lib.f__law_contains] [Has P "_law_blocks" Lib.f__law_blocks] [Has P "_law_items" Lib.f__law_items] [Has P "_law_frontier" Lib.f__law_frontier]
/-- one name of the loop: the others' bounds, then one of two questions -/
theorem lreq_turn {ks ns ch : List Nm} {b : Nm → Bd} {q : D} {k0 : Str} {mn : Bool} {x : Nm} {acc : List Nm} {u v w : Option (Bool × D)} {r : Bool} (hq0 : opX S q (.int 0) = some (.str k0)) (hk1 : opC .eq (.str k0) (.str "min") = some mn) (hk2 : opC .ne (.str k0) (.str "min") = some !mn) (hs : ∀ n ∈ ns, n ∈ ks) (hx : x ∈ ns) (ha : acc.length < 64)
    (hr : ((ns.filter fun o => !decide (o = x)).any fun o => if mn = true then blk (b x) (b o) else lcont (b x) (b o)) = r) :
    ∃ v', exs (callN P (m + 4)) P.xf 20000 Lib.f__law_required_L1 [some (false, dT ks b), some (false, q), some (false, dNs ns), u, some (false, dN x), some (true, .lst (acc.map dN)), v, w] S = .nxt [some (false, dT ks b), some (false, q), some (false, dNs ns), u, some (false, dN x), some (true, .lst ((if r = true then acc ++ [x] else acc).map dN)), v', w] S := by
  have hlim : acc.length < lim := by unfold lim; omega
  have hxk := hs x hx
  have im : immL ((ns.filter fun o => !decide (o = x)).map fun o => dB (b o)) = true := immL_map fun _ _ => immB _
  refine ⟨some (true, .lst ((ns.filter fun o => !decide (o = x)).map fun o => dB (b o))), ?_⟩
  simp [Lib.f__law_required_L1, ev, evs, evAnd, evOr, evi, evc, evo, theB, R.bind, R.calm, opB, ofO, permD, Lit.d, Gc.d, bindT, bindR, wipeR, SR.seq, exs, ex, evM, evMB, evsM, seen_nil, seen_cons, freeze_nil, freeze_cons, Option.bind_some, Option.bind_none, Option.map_some, Option.map_none, ment, ments, menti, R.then, loose, isVar, ofSR, setAll, bindM, runFn, startM, List.map, List.length, List.replicate, List.append, Bool.not_true, Bool.not_false, itW_L]
  rw [lc_ok dN (fun o => !decide (o = x)) (fun o => dB (b o)) ns fun o ho => ⟨_, rfl, by simp [ev, evs, evAnd, evOr, evi, evc, evo, theB, R.bind, R.calm, opB, ofO, permD, Lit.d, Gc.d, bindT, bindR, wipeR, oc_neN], fun _ => ⟨false, by simp [ev, evs, evAnd, evOr, evi, evc, evo, theB, R.bind, R.calm, opB, ofO, permD, Lit.d, Gc.d, bindT, bindR, wipeR, opX_M (hs o ho)]⟩⟩]
  have e7 := of_any (fun o => if mn = true then blk (b x) (b o) else lcont (b x) (b o)) (ns.filter fun o => !decide (o = x))
  rw [hr] at e7
  cases mn with
  | true =>
    simp only [if_true] at e7
    simp [D.immT, im, ev, evs, evAnd, evOr, evi, evc, evo, theB, R.bind, R.calm, opB, ofO, permD, Lit.d, Gc.d, bindT, bindR, wipeR, SR.seq, exs, ex, evM, evMB, evsM, seen_nil, seen_cons, freeze_nil, freeze_cons, Option.bind_some, Option.bind_none, Option.map_some, Option.map_none, ment, ments, menti, R.then, loose, isVar, ofSR, setAll, bindM, runFn, startM, List.map, List.length, List.replicate, List.append, Bool.not_true, Bool.not_false, hq0, hk1, hk2, itW_L, D.imm]
    rw [lc_map (fun o => dB (b o)) (fun o => D.bl (blk (b x) (b o))) (ns.filter fun o => !decide (o = x)) fun o ho => ⟨_, false, rfl, rfl, by simp [ev, evs, evAnd, evOr, evi, evc, evo, theB, R.bind, R.calm, opB, ofO, permD, Lit.d, Gc.d, bindT, bindR, wipeR, opX_M hxk, sp_lblk]⟩]
    cases r <;> simp [e7, D.imm, ev, evs, evAnd, evOr, evi, evc, evo, theB, R.bind, R.calm, opB, ofO, permD, Lit.d, Gc.d, bindT, bindR, wipeR, SR.seq, exs, ex, evM, evMB, evsM, seen_nil, seen_cons, freeze_nil, freeze_cons, Option.bind_some, Option.bind_none, Option.map_some, Option.map_none, ment, ments, menti, R.then, loose, isVar, ofSR, setAll, bindM, runFn, startM, List.map, List.length, List.replicate, List.append, Bool.not_true, Bool.not_false, hq0, hk2, own?, mtTy, immL, immN, opM, hlim, setR]
  | false =>
    simp only [Bool.false_eq_true, if_false] at e7
    simp [D.immT, im, ev, evs, evAnd, evOr, evi, evc, evo, theB, R.bind, R.calm, opB, ofO, permD, Lit.d, Gc.d, bindT, bindR, wipeR, SR.seq, exs, ex, evM, evMB, evsM, seen_nil, seen_cons, freeze_nil, freeze_cons, Option.bind_some, Option.bind_none, Option.map_some, Option.map_none, ment, ments, menti, R.then, loose, isVar, ofSR, setAll, bindM, runFn, startM, List.map, List.length, List.replicate, List.append, Bool.not_true, Bool.not_false, hq0, hk1, hk2, itW_L, D.imm]
    rw [lc_map (fun o => dB (b o)) (fun o => D.bl (lcont (b x) (b o))) (ns.filter fun o => !decide (o = x)) fun o ho => ⟨_, false, rfl, rfl, by simp [ev, evs, evAnd, evOr, evi, evc, evo, theB, R.bind, R.calm, opB, ofO, permD, Lit.d, Gc.d, bindT, bindR, wipeR, opX_M hxk, sp_lcont]⟩]
    cases r <;> simp [e7, D.imm, ev, evs, evAnd, evOr, evi, evc, evo, theB, R.bind, R.calm, opB, ofO, permD, Lit.d, Gc.d, bindT, bindR, wipeR, SR.seq, exs, ex, evM, evMB, evsM, seen_nil, seen_cons, freeze_nil, freeze_cons, Option.bind_some, Option.bind_none, Option.map_some, Option.map_none, ment, ments, menti, R.then, loose, isVar, ofSR, setAll, bindM, runFn, startM, List.map, List.length, List.replicate, List.append, Bool.not_true, Bool.not_false, own?, mtTy, immL, immN, opM, hlim, setR]
/-- the loop, then return -/
theorem lreq_loop {ks ns ch : List Nm} {b : Nm → Bd} {q : D} {k0 : Str} {mn : Bool} {u : Option (Bool × D)} (hq0 : opX S q (.int 0) = some (.str k0)) (hk1 : opC .eq (.str k0) (.str "min") = some mn) (hk2 : opC .ne (.str k0) (.str "min") = some !mn) (hs : ∀ n ∈ ns, n ∈ ks) (hc : ∀ n ∈ ch, n ∈ ns) (hl : ch.length < 64) :
    ∃ u4 v w, forGo (bindM [4] false) (exs (callN P (m + 4)) P.xf 20000 Lib.f__law_required_L1) (ch.map dN) [some (false, dT ks b), some (false, q), some (false, dNs ns), u, none, some (true, .lst []), none, none] S = .nxt [some (false, dT ks b), some (false, q), some (false, dNs ns), u, u4, some (true, dNs (ch.filter fun x => (ns.filter fun o => !decide (o = x)).any fun o => if mn = true then blk (b x) (b o) else lcont (b x) (b o))), v, w] S := by
  obtain ⟨μ', e, u4, v, w, rfl⟩ := for_flt (bd := bindM [4] false) (body := exs (callN P (m + 4)) P.xf 20000 Lib.f__law_required_L1) (S := S) dN (fun x => (ns.filter fun o => !decide (o = x)).any fun o => if mn = true then blk (b x) (b o) else lcont (b x) (b o)) 64
    (fun acc μ => ∃ (u4 v w : Option (Bool × D)), μ = [some (false, dT ks b), some (false, q), some (false, dNs ns), u, u4, some (true, .lst (acc.map dN)), v, w]) ch (by
      rintro x hx acc μ ha ⟨u4, v, w, rfl⟩
      obtain ⟨v', e⟩ := lreq_turn (P := P) (m := m) (S := S) (ks := ks) (b := b) (u := u) (v := v) (w := w) (ch := ch) hq0 hk1 hk2 hs (hc x hx) ha rfl
      exact ⟨_, rfl, _, e, _, _, _, rfl⟩) [] [some (false, dT ks b), some (false, q), some (false, dNs ns), u, none, some (true, .lst []), none, none] (by simp; omega) ⟨none, none, none, rfl⟩
  exact ⟨u4, v, w, e⟩
theorem lunk_len {b : Nm → Bd} {ns : List Nm} (hl : ns.length < 64) : (lunk b ns).length < 64 := Nat.lt_of_le_of_lt (List.length_filter_le ..) (by rw [(srt_perm ns).length_eq]; exact hl)
theorem lfrn_len {b : Nm → Bd} {ns : List Nm} (hl : ns.length < 64) : (lfrn b ns).length < 64 := Nat.lt_of_le_of_lt (List.length_filter_le ..) (lunk_len hl)
variable [Has P "_law_required" Lib.f__law_required]
theorem lreq_gen {ks : List Nm} {b : Nm → Bd} {q : Qy} {k0 : Str} {mn : Bool} (h : QOk ks q) (hq0 : opX S (dQ q) (.int 0) = some (.str k0)) (hk0 : opC .eq (.str k0) (.str "max") = some false) (hk3 : opC .eq (.str k0) (.str "above") = some false) (hk1 : opC .eq (.str k0) (.str "min") = some mn) (hk2 : opC .ne (.str k0) (.str "min") = some !mn) :
    (callN P (m + 5)).call "_law_required" [dT ks b, dQ q] S = .ok (true, dNs ((if mn = true then lfrn b q.ns else lunk b q.ns).filter fun x => (q.ns.filter fun o => !decide (o = x)).any fun o => if mn = true then blk (b x) (b o) else lcont (b x) (b o))) S := by
  obtain ⟨h1, h2, h3, h4⟩ := h
  have e1 := sp_lunk (P := P) (m := m + 2) (S := S) (b := b) h3 h4
  have e2 := sp_litems (P := P) (m := m + 3) (S := S) q
  have e3 := sp_lfrn (P := P) (m := m + 1) (S := S) (b := b) h3 h4
  obtain ⟨u4, v, w, e⟩ := lreq_loop (P := P) (m := m) (S := S) (ks := ks) (b := b) (ns := q.ns) (ch := if mn = true then lfrn b q.ns else lunk b q.ns) (u := some (false, dNs (lunk b q.ns))) hq0 hk1 hk2 h3 (fun n hn => by split at hn; exact lfrn_mem hn; exact lunk_mem hn) (by split; exact lfrn_len h4; exact lunk_len h4)
  rw [call_fn, Lib.f__law_required]
  cases mn with
  | true =>
    simp [ev, evs, evAnd, evOr, evi, evc, evo, theB, R.bind, R.calm, opB, ofO, permD, Lit.d, Gc.d, bindT, bindR, wipeR, SR.seq, exs, ex, evM, evMB, evsM, seen_nil, seen_cons, freeze_nil, freeze_cons, Option.bind_some, Option.bind_none, Option.map_some, Option.map_none, ment, ments, menti, R.then, loose, isVar, ofSR, setAll, bindM, runFn, startM, List.map, List.length, List.replicate, List.append, Bool.not_true, Bool.not_false, e1, e2, D.immT, immNs, hq0, hk0, hk3, D.imm, immL, hk1, e3, items] at e ⊢
    rw [e]
    simp
  | false =>
    simp [ev, evs, evAnd, evOr, evi, evc, evo, theB, R.bind, R.calm, opB, ofO, permD, Lit.d, Gc.d, bindT, bindR, wipeR, SR.seq, exs, ex, evM, evMB, evsM, seen_nil, seen_cons, freeze_nil, freeze_cons, Option.bind_some, Option.bind_none, Option.map_some, Option.map_none, ment, ments, menti, R.then, loose, isVar, ofSR, setAll, bindM, runFn, startM, List.map, List.length, List.replicate, List.append, Bool.not_true, Bool.not_false, e1, e2, D.immT, immNs, hq0, hk0, hk3, D.imm, immL, hk1, e3, items] at e ⊢
    rw [e]
    simp
variable [Has P "_law_negated" Lib.f__law_negated] [Has P "_law_mirrored" Lib.f__law_mirrored]
theorem sp_lreq {ks : List Nm} {b : Nm → Bd} {q : Qy} (nd : ks.Nodup) (h : QOk ks q) : (callN P (m + 6)).call "_law_required" [dT ks b, dQ q] S = .ok (true, dNs (lreq b q)) S := by
  cases q with
  | ord k ns =>
    cases k with
    | sort => exact (lreq_gen (m := m + 1) h (k0 := "sort") (mn := false) (opX_t0 ..) ock_sort_max ock_sort_above ock_sort_min ocn_sort_min).trans rfl
    | min => exact (lreq_gen (m := m + 1) h (k0 := "min") (mn := true) (opX_t0 ..) ock_min_max ock_min_above ock_min_min ocn_min_min).trans rfl
    | max =>
      have h' : QOk ks (.ord .min ns) := h
      have e0 := (lreq_gen (P := P) (m := m) (S := S) (b := fun n => ngB (b n)) h' (k0 := "min") (mn := true) (opX_t0 ..) ock_min_max ock_min_above ock_min_min ocn_min_min)
      obtain ⟨h1, h2, h3, h4⟩ := h
      have e1 := sp_lunk (P := P) (m := m + 3) (S := S) (b := b) h3 h4
      have e2 := sp_litems (P := P) (m := m + 4) (S := S) (.ord .max ns)
      have e3 := sp_lmir (P := P) (m := m + 3) (S := S) (b := b) nd
      rw [call_fn, Lib.f__law_required]
      have e4 : (callN P (m + 5)).call "_law_required" [dT ks fun n => ngB (b n), .tup [.str "min", dNt ns]] S = .ok (true, dNs (lreq b (.ord .max ns))) S := e0.trans rfl
      simp [ev, evs, evAnd, evOr, evi, evc, evo, theB, R.bind, R.calm, opB, ofO, permD, Lit.d, Gc.d, bindT, bindR, wipeR, SR.seq, exs, ex, evM, evMB, evsM, seen_nil, seen_cons, freeze_nil, freeze_cons, Option.bind_some, Option.bind_none, Option.map_some, Option.map_none, ment, ments, menti, R.then, loose, isVar, ofSR, setAll, bindM, runFn, startM, List.map, List.length, List.replicate, List.append, Bool.not_true, Bool.not_false, e1, e2, Qy.ns, D.immT, immNs] at e1 e2 ⊢
      simp [ev, evs, evAnd, evOr, evi, evc, evo, theB, R.bind, R.calm, opB, ofO, permD, Lit.d, Gc.d, bindT, bindR, wipeR, SR.seq, exs, ex, evM, evMB, evsM, seen_nil, seen_cons, freeze_nil, freeze_cons, Option.bind_some, Option.bind_none, Option.map_some, Option.map_none, ment, ments, menti, R.then, loose, isVar, ofSR, setAll, bindM, runFn, startM, List.map, List.length, List.replicate, List.append, Bool.not_true, Bool.not_false, e1, dQ, Kd.s, opX_t0, opX_t1, ock_sort_sort, ocn_sort_sort, ock_sort_min, ocn_sort_min, ock_sort_max, ocn_sort_max, ock_sort_above, ocn_sort_above, ock_sort_compare, ocn_sort_compare, oci_sort, ocj_sort, ocx_sort, ock_min_sort, ocn_min_sort, ock_min_min, ocn_min_min, ock_min_max, ocn_min_max, ock_min_above, ocn_min_above, ock_min_compare, ocn_min_compare, oci_min, ocj_min, ocx_min, ock_max_sort, ocn_max_sort, ock_max_min, ocn_max_min, ock_max_max, ocn_max_max, ock_max_above, ocn_max_above, ock_max_compare, ocn_max_compare, oci_max, ocj_max, ocx_max, ock_above_sort, ocn_above_sort, ock_above_min, ocn_above_min, ock_above_max, ocn_above_max, ock_above_above, ocn_above_above, ock_above_compare, ocn_above_compare, oci_above, ocj_above, ocx_above, ock_compare_sort, ocn_compare_sort, ock_compare_min, ocn_compare_min, ock_compare_max, ocn_compare_max, ock_compare_above, ocn_compare_above, ock_compare_compare, ocn_compare_compare, oci_compare, ocj_compare, ocx_compare, D.imm, D.immT, immNs, e3, e4]
  | abv ns v =>
    obtain ⟨h1, h2, h3, h4⟩ := h
    have e1 := sp_lunk (P := P) (m := m + 3) (S := S) (b := b) h3 h4
    have e2 := sp_litems (P := P) (m := m + 4) (S := S) (.abv ns v)
    rw [call_fn, Lib.f__law_required]
    simp [ev, evs, evAnd, evOr, evi, evc, evo, theB, R.bind, R.calm, opB, ofO, permD, Lit.d, Gc.d, bindT, bindR, wipeR, SR.seq, exs, ex, evM, evMB, evsM, seen_nil, seen_cons, freeze_nil, freeze_cons, Option.bind_some, Option.bind_none, Option.map_some, Option.map_none, ment, ments, menti, R.then, loose, isVar, ofSR, setAll, bindM, runFn, startM, List.map, List.length, List.replicate, List.append, Bool.not_true, Bool.not_false, e1, e2, Qy.ns, D.immT, immNs] at e1 e2 ⊢
    simp [ev, evs, evAnd, evOr, evi, evc, evo, theB, R.bind, R.calm, opB, ofO, permD, Lit.d, Gc.d, bindT, bindR, wipeR, SR.seq, exs, ex, evM, evMB, evsM, seen_nil, seen_cons, freeze_nil, freeze_cons, Option.bind_some, Option.bind_none, Option.map_some, Option.map_none, ment, ments, menti, R.then, loose, isVar, ofSR, setAll, bindM, runFn, startM, List.map, List.length, List.replicate, List.append, Bool.not_true, Bool.not_false, e1, dQ, opX_t0, ock_sort_sort, ocn_sort_sort, ock_sort_min, ocn_sort_min, ock_sort_max, ocn_sort_max, ock_sort_above, ocn_sort_above, ock_sort_compare, ocn_sort_compare, oci_sort, ocj_sort, ocx_sort, ock_min_sort, ocn_min_sort, ock_min_min, ocn_min_min, ock_min_max, ocn_min_max, ock_min_above, ocn_min_above, ock_min_compare, ocn_min_compare, oci_min, ocj_min, ocx_min, ock_max_sort, ocn_max_sort, ock_max_min, ocn_max_min, ock_max_max, ocn_max_max, ock_max_above, ocn_max_above, ock_max_compare, ocn_max_compare, oci_max, ocj_max, ocx_max, ock_above_sort, ocn_above_sort, ock_above_min, ocn_above_min, ock_above_max, ocn_above_max, ock_above_above, ocn_above_above, ock_above_compare, ocn_above_compare, oci_above, ocj_above, ocx_above, ock_compare_sort, ocn_compare_sort, ock_compare_min, ocn_compare_min, ock_compare_max, ocn_compare_max, ock_compare_above, ocn_compare_above, ock_compare_compare, ocn_compare_compare, oci_compare, ocj_compare, ocx_compare, D.imm, D.immT, immNs, itW_L]
    rw [lc_ok dN (fun n => ins v (b n)) dN (lunk b ns) fun n hn => ⟨_, rfl, by simp [ev, evs, evAnd, evOr, evi, evc, evo, theB, R.bind, R.calm, opB, ofO, permD, Lit.d, Gc.d, bindT, bindR, wipeR, opX_M (h3 n (lunk_mem hn)), opX_t2, opX_B0, opX_B1, sp_lins], fun _ => ⟨false, by simp [ev, evs, evAnd, evOr, evi, evc, evo, theB, R.bind, R.calm, opB, ofO, permD, Lit.d, Gc.d, bindT, bindR, wipeR]⟩⟩]
    rfl
  | cmp x y => exact (lreq_gen (m := m + 1) h (k0 := "compare") (mn := false) (opX_t0 ..) ock_compare_max ock_compare_above ock_compare_min ocn_compare_min).trans rfl
end
end DW

/-! DwW7: _law_same; fractions as rational numbers. -/
namespace DW
open PySem
/-! ### fractions are rational numbers -/
def Fr.r (f : Fr) : Rat := ⟨f.n, f.d.toNat, by have := f.pos; omega, by
  have h := f.red
  have h2 := f.pos
  unfold Nat.Coprime
  have : f.d.toNat = f.d.natAbs := by omega
  rw [this]; exact h⟩
theorem r_inj {a b : Fr} (h : a.r = b.r) : a = b := by
  have h1 : a.n = b.n := congrArg Rat.num h
  have h2 : a.d.toNat = b.d.toNat := congrArg Rat.den h
  exact Fr.ext' h1 (by have := a.pos; have := b.pos; omega)
theorem ltF_iff {a b : Fr} : ltF a b = true ↔ a.r < b.r := by
  rw [Rat.lt_iff]
  unfold ltF
  rw [decide_eq_true_eq]
  have h1 : ((a.r.den : Nat) : Int) = a.d := by show ((a.d.toNat : Nat) : Int) = a.d; have := a.pos; omega
  have h2 : ((b.r.den : Nat) : Int) = b.d := by show ((b.d.toNat : Nat) : Int) = b.d; have := b.pos; omega
  rw [h1, h2]
  exact Iff.rfl
theorem leF_iff {a b : Fr} : leF a b = true ↔ a.r ≤ b.r := by
  rw [← leF_not]
  rw [Bool.not_eq_true', ← Rat.not_lt, ← ltF_iff, Bool.not_eq_true]
theorem leF_anti {a b : Fr} (h1 : leF a b = true) (h2 : leF b a = true) : a = b := r_inj (Rat.le_antisymm (leF_iff.mp h1) (leF_iff.mp h2))
theorem leF_trans {a b c : Fr} (h1 : leF a b = true) (h2 : leF b c = true) : leF a c = true := leF_iff.mpr (Rat.le_trans (leF_iff.mp h1) (leF_iff.mp h2))
theorem leF_total (a b : Fr) : leF a b = true ∨ leF b a = true := by
  rcases Rat.le_total (a := a.r) (b := b.r) with h | h
  · exact .inl (leF_iff.mpr h)
  · exact .inr (leF_iff.mpr h)
/-! ### the same -/
theorem zipD_self : ∀ l : List D, zipD l l = l.map fun x => .tup [x, x]
  | [] => rfl
  | x :: l => by rw [zipD, zipD_self l]; rfl
mutual
theorem eqD_refl : ∀ (d : D) (k : Nat), shp k d = true → eqD d d = true
  | .non, _, _ => by simp [eqD]
  | .bl _, _, _ => by simp [eqD]
  | .int _, _, _ => by simp [eqD]
  | .str _, _, _ => by simp [eqD]
  | .tup l, 0, h => by simp [shp] at h
  | .lst l, 0, h => by simp [shp] at h
  | .tup l, k + 1, h => by rw [eqD]; exact eqDs_refl l k (by simpa [shp] using h)
  | .lst l, k + 1, h => by rw [eqD]; exact eqDs_refl l k (by simpa [shp] using h)
  | .dct _, k, h => by cases k <;> simp [shp] at h
  | .src, k, h => by cases k <;> simp [shp] at h
theorem eqDs_refl : ∀ (l : List D) (k : Nat), shpL k l = true → eqDs l l = true
  | [], _, _ => by simp [eqDs]
  | d :: l, k, h => by
    rw [shpL, Bool.and_eq_true] at h
    rw [eqDs, eqD_refl d k h.1, eqDs_refl l k h.2]; rfl
end
theorem shpL_mem : ∀ {l : List D} {k : Nat}, shpL k l = true → ∀ d ∈ l, shp k d = true
  | [], _, _, d, hd => by cases hd
  | x :: l, k, h, d, hd => by
    rw [shpL, Bool.and_eq_true] at h
    rcases List.mem_cons.mp hd with rfl | hd
    · exact h.1
    · exact shpL_mem h.2 d hd
theorem shp_flat {k : Nat} {d : D} (h : shp k d = true) (hk : ∀ l, d ≠ .tup l) (hl : ∀ l, d ≠ .lst l) : shp 60 d = true := by
  cases d with
  | tup l => exact absurd rfl (hk l)
  | lst l => exact absurd rfl (hl l)
  | dct l => cases k <;> simp [shp] at h
  | src => cases k <;> simp [shp] at h
  | str s => cases k <;> simpa [shp] using h
  | _ => simp [shp]
section
variable {P : Prog} [Fu P] {S : Src} [Has P "_law_same" Lib.f__law_same]
theorem sp_same : ∀ (k m : Nat) (d : D), shp k d = true → (callN P (m + k + 1)).call "_law_same" [d, d] S = .ok (false, .bl true) S
  | k, m, d, h => by
    have bb : ∀ x : Bool, opC .ne (.bl x) (.bl x) = some false := by intro x; cases x <;> rfl
    have be : ∀ x : Bool, opC .eq (.bl x) (.bl x) = some true := by intro x; cases x <;> rfl
    have ei : ∀ x : Int, opC .eq (.int x) (.int x) = some true := by intro x; rw [oc_eqI]; simp
    cases d with
    | non => rw [call_fn, Lib.f__law_same]; simp [ev, evs, evAnd, evOr, evi, evc, evo, theB, R.bind, R.calm, opB, ofO, permD, Lit.d, Gc.d, bindT, bindR, wipeR, SR.seq, exs, ex, evM, evMB, evsM, seen, freeze, ment, ments, menti, R.then, loose, isVar, ofSR, setAll, bindM, runFn, startM, List.map, List.length, List.replicate, List.append, Bool.not_true, Bool.not_false, tyIs, D.isSrc, bb, be, opC, isNon, shp, eqD, D.imm]
    | bl b => rw [call_fn, Lib.f__law_same]; simp [ev, evs, evAnd, evOr, evi, evc, evo, theB, R.bind, R.calm, opB, ofO, permD, Lit.d, Gc.d, bindT, bindR, wipeR, SR.seq, exs, ex, evM, evMB, evsM, seen, freeze, ment, ments, menti, R.then, loose, isVar, ofSR, setAll, bindM, runFn, startM, List.map, List.length, List.replicate, List.append, Bool.not_true, Bool.not_false, tyIs, D.isSrc, bb, be, opC, isNon, shp, eqD, D.imm]
    | int i => rw [call_fn, Lib.f__law_same]; simp [ev, evs, evAnd, evOr, evi, evc, evo, theB, R.bind, R.calm, opB, ofO, permD, Lit.d, Gc.d, bindT, bindR, wipeR, SR.seq, exs, ex, evM, evMB, evsM, seen, freeze, ment, ments, menti, R.then, loose, isVar, ofSR, setAll, bindM, runFn, startM, List.map, List.length, List.replicate, List.append, Bool.not_true, Bool.not_false, tyIs, D.isSrc, bb, be, opC, isNon, shp, eqD, D.imm]
    | str s =>
      have h' : shp 60 (.str s) = true := shp_flat h (fun _ z => nomatch z) (fun _ z => nomatch z)
      have he : opC .eq (.str s) (.str s) = some true := by rw [oc_eq h' h']; simp [eqD]
      have hn : opC .isN (.str s) .non = some false := rfl
      rw [call_fn, Lib.f__law_same]; simp [ev, evs, evAnd, evOr, evi, evc, evo, theB, R.bind, R.calm, opB, ofO, permD, Lit.d, Gc.d, bindT, bindR, wipeR, SR.seq, exs, ex, evM, evMB, evsM, seen, freeze, ment, ments, menti, R.then, loose, isVar, ofSR, setAll, bindM, runFn, startM, List.map, List.length, List.replicate, List.append, Bool.not_true, Bool.not_false, tyIs, D.isSrc, bb, be, he, hn, D.imm]
    | tup l =>
      cases k with
      | zero => simp [shp] at h
      | succ k =>
        have h : shpL k l = true := by simpa [shp] using h
        have ih := fun x hx => sp_same k m x (shpL_mem h x hx)
        rw [call_fn, Lib.f__law_same]
        simp [ev, evs, evAnd, evOr, evi, evc, evo, theB, R.bind, R.calm, opB, ofO, permD, Lit.d, Gc.d, bindT, bindR, wipeR, SR.seq, exs, ex, evM, evMB, evsM, seen, freeze, ment, ments, menti, R.then, loose, isVar, ofSR, setAll, bindM, runFn, startM, List.map, List.length, List.replicate, List.append, Bool.not_true, Bool.not_false, tyIs, D.isSrc, bb, be, of_lenT, ei, zipD_self, D.imm]
        rw [lc_map (fun x => D.tup [x, x]) (fun _ => D.bl true) l fun x hx => ⟨_, false, rfl, rfl, by simp [ev, evs, evAnd, evOr, evi, evc, evo, theB, R.bind, R.calm, opB, ofO, permD, Lit.d, Gc.d, bindT, bindR, wipeR]; exact ih x hx⟩]
        have e7 := of_all (fun _ : D => true) l
        simp [e7, D.imm]
    | lst l =>
      cases k with
      | zero => simp [shp] at h
      | succ k =>
        have h : shpL k l = true := by simpa [shp] using h
        have ih := fun x hx => sp_same k m x (shpL_mem h x hx)
        rw [call_fn, Lib.f__law_same]
        simp [ev, evs, evAnd, evOr, evi, evc, evo, theB, R.bind, R.calm, opB, ofO, permD, Lit.d, Gc.d, bindT, bindR, wipeR, SR.seq, exs, ex, evM, evMB, evsM, seen, freeze, ment, ments, menti, R.then, loose, isVar, ofSR, setAll, bindM, runFn, startM, List.map, List.length, List.replicate, List.append, Bool.not_true, Bool.not_false, tyIs, D.isSrc, bb, be, of_lenL, ei, zipD_self, D.imm]
        rw [lc_map (fun x => D.tup [x, x]) (fun _ => D.bl true) l fun x hx => ⟨_, false, rfl, rfl, by simp [ev, evs, evAnd, evOr, evi, evc, evo, theB, R.bind, R.calm, opB, ofO, permD, Lit.d, Gc.d, bindT, bindR, wipeR]; exact ih x hx⟩]
        have e7 := of_all (fun _ : D => true) l
        simp [e7, D.imm]
    | dct l => cases k <;> simp [shp] at h
    | src => cases k <;> simp [shp] at h
end
end DW

/-! DwP1: plain law: required items. -/
namespace DW
open PySem
theorem any_perm {α : Type} {l m : List α} (h : l.Perm m) (p : α → Bool) : l.any p = m.any p := by
  rw [Bool.eq_iff_iff, List.any_eq_true, List.any_eq_true]
  exact ⟨fun ⟨x, hx, e⟩ => ⟨x, h.mem_iff.mp hx, e⟩, fun ⟨x, hx, e⟩ => ⟨x, h.mem_iff.mpr hx, e⟩⟩
theorem all_perm {α : Type} {l m : List α} (h : l.Perm m) (p : α → Bool) : l.all p = m.all p := by
  rw [Bool.eq_iff_iff, List.all_eq_true, List.all_eq_true]
  exact ⟨fun q x hx => q x (h.mem_iff.mpr hx), fun q x hx => q x (h.mem_iff.mp hx)⟩
theorem any_filter' {α : Type} (l : List α) (p q : α → Bool) : (l.filter p).any q = l.any fun x => p x && q x := by
  rw [Bool.eq_iff_iff, List.any_eq_true, List.any_eq_true]
  constructor
  · rintro ⟨x, hx, e⟩
    obtain ⟨h1, h2⟩ := List.mem_filter.mp hx
    exact ⟨x, h1, by rw [h2, e]; rfl⟩
  · rintro ⟨x, hx, e⟩
    rw [Bool.and_eq_true] at e
    exact ⟨x, List.mem_filter.mpr ⟨hx, e.1⟩, e.2⟩
theorem mc_lcont {x y : Bd} (h : knw x = false) : mc x y = lcont x y := by
  unfold mc lcont; rw [h]; rfl
theorem sReq_eq (b : Nm → Bd) (ns : List Nm) : sReq (srt ns) b = lsrt b ns := by
  unfold sReq lsrt
  refine List.filter_congr fun n hn => ?_
  have hk : knw (b n) = false := by
    have := (List.mem_filter.mp hn).2
    simpa using this
  rw [any_filter', any_perm (srt_perm ns)]
  congr 1
  funext o
  rw [mc_lcont hk]
theorem frn_eq (b : Nm → Bd) (ns : List Nm) : frn (srt ns) b = lfrn b ns := by
  have hl : lfrn b ns = (lowst (srt ns) b).filter fun n => !ns.any fun o => knw (b o) && leF (b o).1 (b n).1 := by
    unfold lfrn lowst
    rw [List.filter_filter]
    refine List.filter_congr fun n hn => ?_
    rw [any_filter', Bool.and_comm]
    rfl
  rw [hl]
  unfold frn
  cases q : lowst (srt ns) b with
  | nil => rfl
  | cons x l =>
    have hmem : ∀ n ∈ x :: l, (b n).1 = (b x).1 := fun n hn => by
      rw [← q] at hn
      have hx : x ∈ lowst (srt ns) b := by rw [q]; exact List.mem_cons_self ..
      obtain ⟨h1, h2⟩ := List.mem_filter.mp hn
      obtain ⟨h3, h4⟩ := List.mem_filter.mp hx
      rw [List.all_eq_true] at h2 h4
      exact leF_anti (h2 x h3) (h4 n h1)
    have hf : (x :: l).filter (fun n => !ns.any fun o => knw (b o) && leF (b o).1 (b n).1) = (x :: l).filter fun _ => !ns.any fun o => knw (b o) && leF (b o).1 (b x).1 :=
      List.filter_congr fun n hn => by rw [hmem n hn]
    rw [hf]
    show (if ((srt ns).any fun n => knw (b n) && leF (b n).1 (b x).1) = true then [] else x :: l) = _
    rw [any_perm (srt_perm ns)]
    cases ns.any fun o => knw (b o) && leF (b o).1 (b x).1 with
    | true => rw [if_pos rfl]; exact (List.filter_eq_nil_iff.mpr (by simp)).symm
    | false => rw [if_neg (by decide)]; exact (List.filter_eq_self.mpr (by simp)).symm
theorem mReq_eq (b : Nm → Bd) (ns : List Nm) : mReq (srt ns) b = lmin b ns := by
  unfold mReq lmin
  rw [frn_eq]
  refine List.filter_congr fun n hn => ?_
  rw [any_filter', any_perm (srt_perm ns)]
theorem ins_unk {v : Fr} {x : Bd} (h : ins v x = true) : knw x = false := by
  unfold ins at h
  rw [Bool.and_eq_true, ltF_iff, ltF_iff] at h
  unfold knw
  apply decide_eq_false
  intro e
  rw [e] at h
  grind
theorem abv_eq (b : Nm → Bd) (ns : List Nm) (v : Fr) : ((srt ns).filter fun n => ins v (b n)) = (lunk b ns).filter fun n => ins v (b n) := by
  unfold lunk
  rw [List.filter_filter]
  refine List.filter_congr fun n hn => ?_
  cases h : ins v (b n) with
  | true => rw [ins_unk h]; rfl
  | false => rfl
theorem rin_lreq (b : Nm → Bd) (q : Qy) : rin b q = lreq b q := by
  cases q with
  | ord k ns =>
    cases k with
    | sort => exact sReq_eq b ns
    | min => exact mReq_eq b ns
    | max => exact mReq_eq _ ns
  | abv ns v => exact abv_eq b ns v
  | cmp x y => exact sReq_eq b [x, y]
theorem lmin_mem {b : Nm → Bd} {ns : List Nm} {n : Nm} (h : n ∈ lmin b ns) : n ∈ ns := lfrn_mem (List.mem_filter.mp h).1
theorem lreq_mem {b : Nm → Bd} {q : Qy} {n : Nm} (h : n ∈ lreq b q) : n ∈ q.ns := by
  cases q with
  | ord k ns =>
    cases k with
    | sort => exact lunk_mem (List.mem_filter.mp h).1
    | min => exact lmin_mem h
    | max => exact lmin_mem (b := fun n => ngB (b n)) h
  | abv ns v => exact lunk_mem (List.mem_filter.mp h).1
  | cmp x y => exact lunk_mem (List.mem_filter.mp h).1
theorem shpR (b : Nm → Bd) (n : Nm) (k : Nat) : shp (k + 2) (dR b n) = true := by
  unfold dR
  simp [shp, shpL, shpN, shpF]
theorem oc_neR (b : Nm → Bd) (l : List Nm) : opC .ne (.lst (l.map (dR b))) (.lst (l.map (dR b))) = some false := by
  have h : shp 60 (.lst (l.map (dR b))) = true := by rw [shp]; exact shpL_map fun x _ => shpR b x 57
  rw [oc_ne h h, eqD_refl _ 60 h]; rfl
theorem SI0 (ns : List Int) : SI ⟨ns, 0, 0, 4711⟩ := ⟨by show (0 : Int) ≤ 0; decide, by show (0 : Int) ≤ 0; decide, by show (0 : Int) ≤ 4711; decide, by show (4711 : Int) < 2147483587; decide⟩
/-- a loop of a law: so many times -/
theorem for_times {F : FT} {XF : XT} {body : Sms} {i : Nat} (J : Mem → Prop) (step : ∀ (k : Nat) μ S, J μ → SI S → ∃ μ1, bindM [i] false (.int (k : Int)) μ = some μ1 ∧ ∃ μ2 S2, exs F XF 20000 body μ1 S = .nxt μ2 S2 ∧ J μ2 ∧ SI S2) (n : Nat) {μ : Mem} {S : Src} (hJ : J μ) (h : SI S) : ∃ μ' S', forGo (bindM [i] false) (exs F XF 20000 body) ((List.range n).map fun k : Nat => D.int k) μ S = .nxt μ' S' ∧ J μ' ∧ SI S' := by
  obtain ⟨μ', S', e, h1, h2⟩ := for_ok (bd := bindM [i] false) (body := exs F XF 20000 body) (fun k : Nat => D.int k) (fun _ _ μ S => J μ ∧ SI S) (fun pre k rest μ S ⟨h1, h2⟩ => by
    obtain ⟨μ1, e1, μ2, S2, e2, h3, h4⟩ := step k μ S h1 h2
    exact ⟨μ1, e1, μ2, S2, e2, h3, h4⟩) (List.range n) [] μ S ⟨hJ, h⟩
  exact ⟨μ', S', e, h1, h2⟩
theorem immT_lst (l : List D) : (D.lst l).immT = immL l := rfl
theorem immTT (ks : List Nm) (b : Nm → Bd) : (dT ks b).immT = true := immTM fun _ _ => immB _
/-! a block in two parts -/
def Sms.take : Nat → Sms → Sms
  | 0, _ => .nil
  | _ + 1, .nil => .nil
  | n + 1, .cons s ss => .cons s (Sms.take n ss)
def Sms.drop : Nat → Sms → Sms
  | 0, ss => ss
  | _ + 1, .nil => .nil
  | n + 1, .cons _ ss => Sms.drop n ss
theorem exs_split {F : FT} {XF : XT} {g : Nat} : ∀ (n : Nat) (ss : Sms) (μ : Mem) (S : Src), exs F XF g ss μ S = (exs F XF g (Sms.take n ss) μ S).seq fun μ S => exs F XF g (Sms.drop n ss) μ S
  | 0, ss, μ, S => by simp [Sms.take, Sms.drop, exs, SR.seq]
  | n + 1, .nil, μ, S => by simp [Sms.take, Sms.drop, exs, SR.seq]
  | n + 1, .cons s ss, μ, S => by
    rw [Sms.take, Sms.drop, exs, exs]
    cases ex F XF g s μ S with
    | nxt μ1 S1 => exact exs_split n ss μ1 S1
    | _ => rfl
theorem exs_two {F : FT} {XF : XT} {g n : Nat} {ss tl : Sms} {μ μ1 : Mem} {S S1 : Src} {r : SR} (ht : Sms.drop n ss = tl) (h1 : exs F XF g (Sms.take n ss) μ S = .nxt μ1 S1) (h2 : exs F XF g tl μ1 S1 = r) : exs F XF g ss μ S = r := by
  rw [exs_split n, h1, ht]; exact h2
end DW

/-! DwW8: certainty, as a law says it. -/
namespace DW
open PySem
def dP (p : Nm × Nm) : D := .tup [dN p.1, dN p.2]
def lext (b : Nm → Bd) (ns : List Nm) (mx : Bool) : List Nm := (srt ns).filter fun n => (ns.filter fun o => !decide (o = n)).all fun o => if mx = true then nab (b o) (b n) else nab (b n) (b o)
def lcin (b : Nm → Bd) : Qy → Bool
  | .ord .sort ns => (prs ns).all fun p => sep (b p.1) (b p.2)
  | .cmp x y => (prs [x, y]).all fun p => sep (b p.1) (b p.2)
  | .abv ns v => !ns.any fun n => ins v (b n)
  | .ord .min ns => !(lext b ns false).isEmpty
  | .ord .max ns => !(lext b ns true).isEmpty
theorem prs_rng {α : Type} (l : List α) (d : α) : ((List.range l.length).flatMap fun i => (l.drop (i + 1)).map fun y => (l.getD i d, y)) = prs l := by
  have h := prs_ix (fun x y : α => (x, y)) l []
  rw [List.nil_append, List.length_nil] at h
  have e : l.zipIdx 0 = (List.range l.length).map fun i => (l.getD i d, i) := by
    apply List.ext_getElem
    · simp
    · intro i h1 h2
      have hi : i < l.length := by simpa using h1
      simp [List.getD_eq_getElem?_getD, List.getElem?_eq_getElem hi]
  rw [e, List.flatMap_map] at h
  rw [List.map_id'] at h
  exact h
theorem prs_mem {α : Type} : ∀ {l : List α} {p : α × α}, p ∈ prs l → p.1 ∈ l ∧ p.2 ∈ l
  | [], p, h => by cases h
  | x :: l, p, h => by
    rw [prs] at h
    rcases List.mem_append.mp h with h | h
    · obtain ⟨y, hy, rfl⟩ := List.mem_map.mp h
      exact ⟨List.mem_cons_self .., List.mem_cons_of_mem _ hy⟩
    · have := prs_mem h
      exact ⟨List.mem_cons_of_mem _ this.1, List.mem_cons_of_mem _ this.2⟩
theorem or_rng2 {a b : Nat} (ha : a ≤ 400000) (hb : b ≤ 400000) : opR [.int a, .int b] = some ((List.range' a (b - a)).map fun i : Nat => D.int i) := by
  show (if inR (a : Int) && inR (b : Int) then some (rngD a ((b : Int) - a).toNat) else none) = _
  have e : ∀ n : Nat, n ≤ 400000 → inR (n : Int) = true := fun n h => by
    unfold inR
    rw [Bool.and_eq_true]
    exact ⟨decide_eq_true (by omega), decide_eq_true (by omega)⟩
  rw [e a ha, e b hb, show ((b : Int) - a).toNat = b - a by omega, rngD_map]; rfl
section
variable {P : Prog} [Fu P] {m : Nat} {S : Src} [Has P "_law_less" Lib.f__law_less] [Has P "_law_at_most" Lib.f__law_at_most] [Has P "_law_never_above" Lib.f__law_never_above]
theorem sp_lnab (x y : Bd) : (callN P (m + 3)).call "_law_never_above" [dB x, dB y] S = .ok (false, .bl (nab x y)) S := by
  rw [call_fn, Lib.f__law_never_above]
  refine (run_ret rfl rfl).trans ?_
  simp [ev, evs, evAnd, evOr, evi, evc, evo, theB, R.bind, R.calm, opB, ofO, permD, Lit.d, Gc.d, bindT, bindR, wipeR, opX_B0, opX_B1, sp_latm, nab]
theorem sp_lsep [Has P "_law_separated" Lib.f__law_separated] (x y : Bd) : (callN P (m + 4)).call "_law_separated" [dB x, dB y] S = .ok (false, .bl (sep x y)) S := by
  rw [call_fn, Lib.f__law_separated]
  refine (run_ret rfl rfl).trans ?_
  simp [ev, evs, evAnd, evOr, evi, evc, evo, theB, R.bind, R.calm, opB, ofO, permD, Lit.d, Gc.d, bindT, bindR, wipeR, sp_lnab, sep, b_or]
theorem sp_lext [Has P "_law_extremes" Lib.f__law_extremes] {ks ns : List Nm} {b : Nm → Bd} {k0 : Str} {mx : Bool} (hk1 : opC .eq (.str k0) (.str "max") = some mx) (hk2 : opC .ne (.str k0) (.str "max") = some !mx) (hs : ∀ n ∈ ns, n ∈ ks) (hl : ns.length < 64) : (callN P (m + 4)).call "_law_extremes" [dT ks b, dNs ns, .str k0] S = .ok (true, dNs (lext b ns mx)) S := by
  have key : ∀ (x : Nm) (acc : List Nm) (v w : Option (Bool × D)) (r : Bool), x ∈ ns → acc.length < 64 → ((ns.filter fun o => !decide (o = x)).all fun o => if mx = true then nab (b o) (b x) else nab (b x) (b o)) = r →
      ∃ v', exs (callN P (m + 3)) P.xf 20000 Lib.f__law_extremes_L1 [some (false, dT ks b), some (false, dNs ns), some (false, .str k0), some (true, .lst (acc.map dN)), some (false, dN x), v, w] S = .nxt [some (false, dT ks b), some (false, dNs ns), some (false, .str k0), some (true, .lst ((if r = true then acc ++ [x] else acc).map dN)), some (false, dN x), v', w] S := by
    intro x acc v w r hx ha hr
    have hlim : acc.length < lim := by unfold lim; omega
    have hxk := hs x hx
    have im : immL ((ns.filter fun o => !decide (o = x)).map fun o => dB (b o)) = true := immL_map fun _ _ => immB _
    refine ⟨some (true, .lst ((ns.filter fun o => !decide (o = x)).map fun o => dB (b o))), ?_⟩
    simp [Lib.f__law_extremes_L1, ev, evs, evAnd, evOr, evi, evc, evo, theB, R.bind, R.calm, opB, ofO, permD, Lit.d, Gc.d, bindT, bindR, wipeR, SR.seq, exs, ex, evM, evMB, evsM, seen_nil, seen_cons, freeze_nil, freeze_cons, Option.bind_some, Option.bind_none, Option.map_some, Option.map_none, ment, ments, menti, R.then, loose, isVar, ofSR, setAll, bindM, runFn, startM, List.map, List.length, List.replicate, List.append, Bool.not_true, Bool.not_false, itW_L]
    rw [lc_ok dN (fun o => !decide (o = x)) (fun o => dB (b o)) ns fun o ho => ⟨_, rfl, by simp [ev, evs, evAnd, evOr, evi, evc, evo, theB, R.bind, R.calm, opB, ofO, permD, Lit.d, Gc.d, bindT, bindR, wipeR, oc_neN], fun _ => ⟨false, by simp [ev, evs, evAnd, evOr, evi, evc, evo, theB, R.bind, R.calm, opB, ofO, permD, Lit.d, Gc.d, bindT, bindR, wipeR, opX_M (hs o ho)]⟩⟩]
    have e7 := of_all (fun o => if mx = true then nab (b o) (b x) else nab (b x) (b o)) (ns.filter fun o => !decide (o = x))
    rw [hr] at e7
    cases mx with
    | true =>
      simp only [if_true] at e7
      simp [D.immT, im, ev, evs, evAnd, evOr, evi, evc, evo, theB, R.bind, R.calm, opB, ofO, permD, Lit.d, Gc.d, bindT, bindR, wipeR, SR.seq, exs, ex, evM, evMB, evsM, seen_nil, seen_cons, freeze_nil, freeze_cons, Option.bind_some, Option.bind_none, Option.map_some, Option.map_none, ment, ments, menti, R.then, loose, isVar, ofSR, setAll, bindM, runFn, startM, List.map, List.length, List.replicate, List.append, Bool.not_true, Bool.not_false, hk1, hk2, itW_L, D.imm]
      rw [lc_map (fun o => dB (b o)) (fun o => D.bl (nab (b o) (b x))) (ns.filter fun o => !decide (o = x)) fun o ho => ⟨_, false, rfl, rfl, by simp [ev, evs, evAnd, evOr, evi, evc, evo, theB, R.bind, R.calm, opB, ofO, permD, Lit.d, Gc.d, bindT, bindR, wipeR, opX_M hxk, sp_lnab]⟩]
      cases r <;> simp [e7, D.imm, ev, evs, evAnd, evOr, evi, evc, evo, theB, R.bind, R.calm, opB, ofO, permD, Lit.d, Gc.d, bindT, bindR, wipeR, SR.seq, exs, ex, evM, evMB, evsM, seen_nil, seen_cons, freeze_nil, freeze_cons, Option.bind_some, Option.bind_none, Option.map_some, Option.map_none, ment, ments, menti, R.then, loose, isVar, ofSR, setAll, bindM, runFn, startM, List.map, List.length, List.replicate, List.append, Bool.not_true, Bool.not_false, hk2, own?, mtTy, immL, immN, opM, hlim, setR]
    | false =>
      simp only [Bool.false_eq_true, if_false] at e7
      simp [D.immT, im, ev, evs, evAnd, evOr, evi, evc, evo, theB, R.bind, R.calm, opB, ofO, permD, Lit.d, Gc.d, bindT, bindR, wipeR, SR.seq, exs, ex, evM, evMB, evsM, seen_nil, seen_cons, freeze_nil, freeze_cons, Option.bind_some, Option.bind_none, Option.map_some, Option.map_none, ment, ments, menti, R.then, loose, isVar, ofSR, setAll, bindM, runFn, startM, List.map, List.length, List.replicate, List.append, Bool.not_true, Bool.not_false, hk1, hk2, itW_L, D.imm]
      rw [lc_map (fun o => dB (b o)) (fun o => D.bl (nab (b x) (b o))) (ns.filter fun o => !decide (o = x)) fun o ho => ⟨_, false, rfl, rfl, by simp [ev, evs, evAnd, evOr, evi, evc, evo, theB, R.bind, R.calm, opB, ofO, permD, Lit.d, Gc.d, bindT, bindR, wipeR, opX_M hxk, sp_lnab]⟩]
      cases r <;> simp [e7, D.imm, ev, evs, evAnd, evOr, evi, evc, evo, theB, R.bind, R.calm, opB, ofO, permD, Lit.d, Gc.d, bindT, bindR, wipeR, SR.seq, exs, ex, evM, evMB, evsM, seen_nil, seen_cons, freeze_nil, freeze_cons, Option.bind_some, Option.bind_none, Option.map_some, Option.map_none, ment, ments, menti, R.then, loose, isVar, ofSR, setAll, bindM, runFn, startM, List.map, List.length, List.replicate, List.append, Bool.not_true, Bool.not_false, own?, mtTy, immL, immN, opM, hlim, setR]
  obtain ⟨μ', e, u, v, w, rfl⟩ := for_flt (bd := bindM [4] false) (body := exs (callN P (m + 3)) P.xf 20000 Lib.f__law_extremes_L1) (S := S) dN (fun x => (ns.filter fun o => !decide (o = x)).all fun o => if mx = true then nab (b o) (b x) else nab (b x) (b o)) 64
    (fun acc μ => ∃ (u v w : Option (Bool × D)), μ = [some (false, dT ks b), some (false, dNs ns), some (false, .str k0), some (true, .lst (acc.map dN)), u, v, w]) (srt ns) (by
      rintro x hx acc μ ha ⟨u, v, w, rfl⟩
      obtain ⟨v', e⟩ := key x acc v w _ ((srt_perm ns).mem_iff.mp hx) ha rfl
      exact ⟨_, rfl, _, e, _, _, _, rfl⟩) [] [some (false, dT ks b), some (false, dNs ns), some (false, .str k0), some (true, .lst []), none, none, none] (by have := (srt_perm ns).length_eq; simp; omega) ⟨none, none, none, rfl⟩
  rw [call_fn, Lib.f__law_extremes]
  simp [ev, evs, evAnd, evOr, evi, evc, evo, theB, R.bind, R.calm, opB, ofO, permD, Lit.d, Gc.d, bindT, bindR, wipeR, SR.seq, exs, ex, evM, evMB, evsM, seen_nil, seen_cons, freeze_nil, freeze_cons, Option.bind_some, Option.bind_none, Option.map_some, Option.map_none, ment, ments, menti, R.then, loose, isVar, ofSR, setAll, bindM, runFn, startM, List.map, List.length, List.replicate, List.append, Bool.not_true, Bool.not_false, of_sortL hl, D.immT, immNs, immL, items, e, lext]
theorem sp_lpairs [Has P "_law_all_pairs" Lib.f__law_all_pairs] {ns : List Nm} (hl : ns.length < 64) : (callN P (m + 1)).call "_law_all_pairs" [dNs ns] S = .ok (true, .lst ((prs ns).map dP)) S := by
  let d0 : Nm := ⟨"a", by decide +kernel⟩
  let ck : Nat → List (Nm × Nm) := fun i => (ns.drop (i + 1)).map fun y => (ns.getD i d0, y)
  have clen : ∀ i, (ck i).length ≤ 64 := fun i => by
    show ((ns.drop (i + 1)).map _).length ≤ 64
    rw [List.length_map, List.length_drop]; omega
  have step : ∀ (pre : List Nat) (i : Nat) (rest : List Nat) (μ : Mem) (S1 : Src), ((∀ j ∈ i :: rest, j < ns.length) ∧ pre.length + (i :: rest).length = ns.length ∧ S1 = S ∧ ∃ (u w : Option (Bool × D)), μ = [some (false, dNs ns), some (true, D.lst ((pre.flatMap ck).map dP)), u, w] ∧ (pre.flatMap ck).length ≤ pre.length * 64) →
      ∃ μ1, bindM [2] false (.int (i : Nat)) μ = some μ1 ∧ ∃ μ2 S2, exs (callN P m) P.xf 20000 Lib.f__law_all_pairs_L1 μ1 S1 = .nxt μ2 S2 ∧ ((∀ j ∈ rest, j < ns.length) ∧ (pre ++ [i]).length + rest.length = ns.length ∧ S2 = S ∧ ∃ (u w : Option (Bool × D)), μ2 = [some (false, dNs ns), some (true, D.lst (((pre ++ [i]).flatMap ck).map dP)), u, w] ∧ ((pre ++ [i]).flatMap ck).length ≤ (pre ++ [i]).length * 64) := by
    rintro pre i rest μ S1 ⟨hr, hlen, rfl, u, w, rfl, hb⟩
    rw [List.length_cons] at hlen
    have hi : i < ns.length := hr i (List.mem_cons_self ..)
    have eck : (ck i).map dP = (List.range' (i + 1) (ns.length - (i + 1))).map fun j => D.tup [dN ns[i], dN (ns.getD j d0)] := by
      show ((ns.drop (i + 1)).map fun y => (ns.getD i d0, y)).map dP = _
      rw [List.map_map]
      apply List.ext_getElem
      · simp
      · intro j h1 h2
        have hj : i + 1 + j < ns.length := by simp at h1; omega
        simp [dP, List.getD_eq_getElem?_getD, List.getElem?_eq_getElem hi, List.getElem?_eq_getElem hj]
    refine ⟨_, rfl, [some (false, dNs ns), some (true, D.lst (((pre ++ [i]).flatMap ck).map dP)), some (false, .int (i : Nat)), w], S1, ?_, fun j hj => hr j (List.mem_cons_of_mem _ hj), by rw [List.length_append, List.length_singleton]; omega, rfl, _, _, rfl, ?_⟩
    · have er : opR [.int ((i : Int) + 1), .int (ns.length : Int)] = some ((List.range' (i + 1) (ns.length - (i + 1))).map fun i : Nat => D.int i) := or_rng2 (a := i + 1) (by omega) (by omega)
      have hlim : (pre.flatMap ck).length + (ck i).length ≤ lim := by have := clen i; unfold lim; omega
      have im : immL ((pre.flatMap ck).map dP ++ (ck i).map dP) = true := by
        rw [← List.map_append]; exact immL_map fun x _ => by simp [dP, D.imm, immL, immN]
      simp [Lib.f__law_all_pairs_L1, ev, evs, evAnd, evOr, evi, evc, evo, theB, R.bind, R.calm, opB, ofO, permD, Lit.d, Gc.d, bindT, bindR, wipeR, SR.seq, exs, ex, evM, evMB, evsM, seen_nil, seen_cons, freeze_nil, freeze_cons, Option.bind_some, Option.bind_none, Option.map_some, Option.map_none, ment, ments, menti, R.then, loose, isVar, ofSR, setAll, bindM, runFn, startM, List.map, List.length, List.replicate, List.append, Bool.not_true, Bool.not_false, of_lenL, er]
      rw [lc_map (fun j : Nat => D.int j) (fun j => D.tup [dN ns[i], dN (ns.getD j d0)]) (List.range' (i + 1) (ns.length - (i + 1))) fun j hj => ?_]
      · rw [← eck]
        have hlim' : ((pre.flatMap ck).map dP).length + ((ck i).map dP).length ≤ lim := by rw [List.length_map, List.length_map]; exact hlim
        have ef : ((pre ++ [i]).flatMap ck).map dP = (pre.flatMap ck).map dP ++ (ck i).map dP := by simp
        simp only [List.length_map] at hlim'
        simp [-List.length_flatMap, hlim', ef, im, D.immT, hlim]
      · have hj2 := (List.mem_range'_1.mp hj)
        have hj' : j < ns.length := by omega
        refine ⟨_, false, rfl, rfl, ?_⟩
        have q1 := opX_at (S := S1) dN hi
        have q2 := opX_at (S := S1) dN hj'
        have q3 : ns.getD j d0 = ns[j] := by rw [List.getD_eq_getElem?_getD, List.getElem?_eq_getElem hj']; rfl
        rw [q3]
        simp [ev, evs, evAnd, evOr, evi, evc, evo, theB, R.bind, R.calm, opB, ofO, permD, Lit.d, Gc.d, bindT, bindR, wipeR, q1, q2]
    · rw [List.flatMap_append, List.length_append, List.length_append, List.length_singleton]
      have := clen i
      have : ([i].flatMap ck).length = (ck i).length := by simp
      omega
  obtain ⟨μ', S', e, _, _, rfl, u, w, rfl, _⟩ := for_ok (fun i : Nat => D.int (i : Nat)) (fun pre rest μ S1 => (∀ j ∈ rest, j < ns.length) ∧ pre.length + rest.length = ns.length ∧ S1 = S ∧ ∃ (u w : Option (Bool × D)), μ = [some (false, dNs ns), some (true, D.lst ((pre.flatMap ck).map dP)), u, w] ∧ (pre.flatMap ck).length ≤ pre.length * 64) step (List.range ns.length) [] [some (false, dNs ns), some (true, D.lst []), none, none] S ⟨fun j hj => List.mem_range.mp hj, by simp, rfl, none, none, rfl, by simp⟩
  have er := or_rng (n := ns.length) (by omega)
  have eq := prs_rng ns d0
  rw [List.nil_append, show (List.range ns.length).flatMap ck = prs ns from eq] at e
  rw [call_fn, Lib.f__law_all_pairs]
  simp [ev, evs, evAnd, evOr, evi, evc, evo, theB, R.bind, R.calm, opB, ofO, permD, Lit.d, Gc.d, bindT, bindR, wipeR, SR.seq, exs, ex, evM, evMB, evsM, seen_nil, seen_cons, freeze_nil, freeze_cons, Option.bind_some, Option.bind_none, Option.map_some, Option.map_none, ment, ments, menti, R.then, loose, isVar, ofSR, setAll, bindM, runFn, startM, List.map, List.length, List.replicate, List.append, Bool.not_true, Bool.not_false, of_lenL, er, D.immT, immL, e]
theorem sp_lcert [Has P "_law_inside" Lib.f__law_inside] [Has P "_law_items" Lib.f__law_items] [Has P "_law_separated" Lib.f__law_separated] [Has P "_law_all_pairs" Lib.f__law_all_pairs] [Has P "_law_extremes" Lib.f__law_extremes] [Has P "_law_certain" Lib.f__law_certain] {ks : List Nm} {b : Nm → Bd} {q : Qy} (h : QOk ks q) : (callN P (m + 5)).call "_law_certain" [dT ks b, dQ q] S = .ok (false, .bl (lcin b q)) S := by
  obtain ⟨h1, h2, h3, h4⟩ := h
  have e2 := sp_litems (P := P) (m := m + 3) (S := S) q
  have e3 := sp_lpairs (P := P) (m := m + 3) (S := S) (ns := q.ns) h4
  have pr : ∀ S, lcGo (fun d => some ((((wipeR [some (dT ks b), some (dQ q), some (dNs q.ns), none, none, none] [3, 4]).set 3 none).set 4 none)) ) (fun _ S => R.ok true S) (fun _ S => .stuck) [] S = .ok [] S := fun S => rfl
  rw [call_fn, Lib.f__law_certain]
  have sc : ∀ (k0 : Str), opX S (dQ q) (.int 0) = some (.str k0) → opC .isin (.str k0) (.tup [.str "sort", .str "compare"]) = some true → runFn (callN P (m + 4)) P.xf 20000 Lib.f__law_certain [dT ks b, dQ q] S = .ok (false, .bl ((prs q.ns).all fun p => sep (b p.1) (b p.2))) S := by
    intro k0 g1 g2
    simp [Lib.f__law_certain, ev, evs, evAnd, evOr, evi, evc, evo, theB, R.bind, R.calm, opB, ofO, permD, Lit.d, Gc.d, bindT, bindR, wipeR, SR.seq, exs, ex, evM, evMB, evsM, seen_nil, seen_cons, freeze_nil, freeze_cons, Option.bind_some, Option.bind_none, Option.map_some, Option.map_none, ment, ments, menti, R.then, loose, isVar, ofSR, setAll, bindM, runFn, startM, List.map, List.length, List.replicate, List.append, Bool.not_true, Bool.not_false, e2, D.immT, immNs, D.imm, g1, g2, e3, items]
    rw [lc_map dP (fun p => D.bl (sep (b p.1) (b p.2))) (prs q.ns) fun p hp => ⟨_, false, rfl, rfl, by simp [ev, evs, evAnd, evOr, evi, evc, evo, theB, R.bind, R.calm, opB, ofO, permD, Lit.d, Gc.d, bindT, bindR, wipeR, opX_M (h3 _ (prs_mem hp).1), opX_M (h3 _ (prs_mem hp).2), sp_lsep]⟩]
    have e7 := of_all (fun p : Nm × Nm => sep (b p.1) (b p.2)) (prs q.ns)
    simp [e7, D.imm]
  have mm : ∀ (k0 : Str) (mx : Bool), opX S (dQ q) (.int 0) = some (.str k0) → opC .isin (.str k0) (.tup [.str "sort", .str "compare"]) = some false → opC .eq (.str k0) (.str "above") = some false → opC .eq (.str k0) (.str "max") = some mx → opC .ne (.str k0) (.str "max") = some (!mx) → runFn (callN P (m + 4)) P.xf 20000 Lib.f__law_certain [dT ks b, dQ q] S = .ok (false, .bl (!(lext b q.ns mx).isEmpty)) S := by
    intro k0 mx g1 g2 g3 g4 g5
    have e4 := sp_lext (P := P) (m := m) (S := S) (b := b) g4 g5 h3 h4
    have e5 := oc_nnil (lext b q.ns mx)
    simp [Lib.f__law_certain, ev, evs, evAnd, evOr, evi, evc, evo, theB, R.bind, R.calm, opB, ofO, permD, Lit.d, Gc.d, bindT, bindR, wipeR, SR.seq, exs, ex, evM, evMB, evsM, seen_nil, seen_cons, freeze_nil, freeze_cons, Option.bind_some, Option.bind_none, Option.map_some, Option.map_none, ment, ments, menti, R.then, loose, isVar, ofSR, setAll, bindM, runFn, startM, List.map, List.length, List.replicate, List.append, Bool.not_true, Bool.not_false, e2, D.immT, immNs, D.imm, g1, g2, g3, e4, e5]
  cases q with
  | ord k ns =>
    cases k with
    | sort => exact sc "sort" (opX_t0 ..) oci_sort
    | min => exact mm "min" false (opX_t0 ..) oci_min ock_min_above ock_min_max ocn_min_max
    | max => exact mm "max" true (opX_t0 ..) oci_max ock_max_above ock_max_max ocn_max_max
  | abv ns v =>
    simp [ev, evs, evAnd, evOr, evi, evc, evo, theB, R.bind, R.calm, opB, ofO, permD, Lit.d, Gc.d, bindT, bindR, wipeR, SR.seq, exs, ex, evM, evMB, evsM, seen_nil, seen_cons, freeze_nil, freeze_cons, Option.bind_some, Option.bind_none, Option.map_some, Option.map_none, ment, ments, menti, R.then, loose, isVar, ofSR, setAll, bindM, runFn, startM, List.map, List.length, List.replicate, List.append, Bool.not_true, Bool.not_false, e2, D.immT, immNs, D.imm, Qy.ns] at e2 ⊢
    simp [ev, evs, evAnd, evOr, evi, evc, evo, theB, R.bind, R.calm, opB, ofO, permD, Lit.d, Gc.d, bindT, bindR, wipeR, SR.seq, exs, ex, evM, evMB, evsM, seen_nil, seen_cons, freeze_nil, freeze_cons, Option.bind_some, Option.bind_none, Option.map_some, Option.map_none, ment, ments, menti, R.then, loose, isVar, ofSR, setAll, bindM, runFn, startM, List.map, List.length, List.replicate, List.append, Bool.not_true, Bool.not_false, dQ, opX_t0, ock_sort_sort, ocn_sort_sort, ock_sort_min, ocn_sort_min, ock_sort_max, ocn_sort_max, ock_sort_above, ocn_sort_above, ock_sort_compare, ocn_sort_compare, oci_sort, ocj_sort, ocx_sort, ock_min_sort, ocn_min_sort, ock_min_min, ocn_min_min, ock_min_max, ocn_min_max, ock_min_above, ocn_min_above, ock_min_compare, ocn_min_compare, oci_min, ocj_min, ocx_min, ock_max_sort, ocn_max_sort, ock_max_min, ocn_max_min, ock_max_max, ocn_max_max, ock_max_above, ocn_max_above, ock_max_compare, ocn_max_compare, oci_max, ocj_max, ocx_max, ock_above_sort, ocn_above_sort, ock_above_min, ocn_above_min, ock_above_max, ocn_above_max, ock_above_above, ocn_above_above, ock_above_compare, ocn_above_compare, oci_above, ocj_above, ocx_above, ock_compare_sort, ocn_compare_sort, ock_compare_min, ocn_compare_min, ock_compare_max, ocn_compare_max, ock_compare_above, ocn_compare_above, ock_compare_compare, ocn_compare_compare, oci_compare, ocj_compare, ocx_compare, D.imm, itW_L]
    rw [lc_map dN (fun n => D.bl (ins v (b n))) ns fun n hn => ⟨_, false, rfl, rfl, by simp [ev, evs, evAnd, evOr, evi, evc, evo, theB, R.bind, R.calm, opB, ofO, permD, Lit.d, Gc.d, bindT, bindR, wipeR, opX_M (h3 n hn), opX_t2, opX_B0, opX_B1, sp_lins]⟩]
    have e7 := of_any (fun n => ins v (b n)) ns
    simp [e7, D.imm, lcin]
  | cmp x y => exact sc "compare" (opX_t0 ..) oci_compare
theorem sp_lallc [Has P "_law_inside" Lib.f__law_inside] [Has P "_law_items" Lib.f__law_items] [Has P "_law_separated" Lib.f__law_separated] [Has P "_law_all_pairs" Lib.f__law_all_pairs] [Has P "_law_extremes" Lib.f__law_extremes] [Has P "_law_certain" Lib.f__law_certain] [Has P "_law_all_certain" Lib.f__law_all_certain] {ks : List Nm} {b : Nm → Bd} {qs : List Qy} (h : ∀ q ∈ qs, QOk ks q) : (callN P (m + 6)).call "_law_all_certain" [dT ks b, .lst (qs.map dQ)] S = .ok (false, .bl (qs.all (lcin b))) S := by
  rw [call_fn, Lib.f__law_all_certain]
  refine (run_ret rfl rfl).trans ?_
  simp [ev, evs, evAnd, evOr, evi, evc, evo, theB, R.bind, R.calm, opB, ofO, permD, Lit.d, Gc.d, bindT, bindR, wipeR, itW_L]
  rw [lc_map dQ (fun q => D.bl (lcin b q)) qs fun q hq => ⟨_, false, rfl, rfl, by simp [ev, evs, evAnd, evOr, evi, evc, evo, theB, R.bind, R.calm, opB, ofO, permD, Lit.d, Gc.d, bindT, bindR, wipeR, sp_lcert (h q hq)]⟩]
  have e7 := of_all (lcin b) qs
  simp [e7]
end
/-! ### the plain law -/
theorem prs_pw {α : Type} (p : α → α → Bool) : ∀ l : List α, ((prs l).all fun x => p x.1 x.2) = true ↔ l.Pairwise fun x y => p x y = true
  | [] => by simp [prs]
  | x :: l => by
    rw [prs, List.all_append, Bool.and_eq_true, prs_pw p l, List.pairwise_cons, List.all_map, List.all_eq_true]
    exact Iff.rfl
theorem sep_symm (x y : Bd) : sep x y = sep y x := by unfold sep; rw [Bool.or_comm]
theorem prs_srt (b : Nm → Bd) (ns : List Nm) : ((prs (srt ns)).all fun p => sep (b p.1) (b p.2)) = (prs ns).all fun p => sep (b p.1) (b p.2) := by
  rw [Bool.eq_iff_iff, prs_pw (fun x y => sep (b x) (b y)), prs_pw (fun x y => sep (b x) (b y))]
  exact (srt_perm ns).pairwise_iff fun {x y} h => by rw [sep_symm]; exact h
theorem leF_neg (x y : Fr) : leF (ngF x) (ngF y) = leF y x := by
  unfold leF ngF
  show decide (-x.n * y.d ≤ -y.n * x.d) = _
  congr 1
  rw [Int.neg_mul, Int.neg_mul]
  exact propext ⟨fun h => by omega, fun h => by omega⟩
theorem nab_neg (x y : Bd) : nab (ngB x) (ngB y) = nab y x := leF_neg ..
theorem cmin_ext (b : Nm → Bd) (ns : List Nm) (mx : Bool) : (cmin (srt ns) fun n => if mx = true then ngB (b n) else b n).isSome = !(lext b ns mx).isEmpty := by
  unfold cmin lext
  rw [Bool.eq_iff_iff, List.find?_isSome, Bool.not_eq_true', List.isEmpty_eq_false_iff_exists_mem]
  constructor
  · rintro ⟨n, hn, h⟩
    refine ⟨n, List.mem_filter.mpr ⟨hn, ?_⟩⟩
    rw [List.all_eq_true] at h ⊢
    intro o ho
    obtain ⟨ho1, ho2⟩ := List.mem_filter.mp ho
    have := h o ((srt_perm ns).mem_iff.mpr ho1)
    have hne : decide (o = n) = false := by simpa using ho2
    rw [hne, Bool.false_or] at this
    cases mx with
    | true => simp only [if_true] at this ⊢; rw [nab_neg] at this; exact this
    | false => simpa using this
  · rintro ⟨n, hn⟩
    obtain ⟨hn1, h⟩ := List.mem_filter.mp hn
    refine ⟨n, hn1, ?_⟩
    rw [List.all_eq_true] at h ⊢
    intro o ho
    by_cases e : o = n
    · simp [e]
    · have := h o (List.mem_filter.mpr ⟨(srt_perm ns).mem_iff.mp ho, by simp [e]⟩)
      rw [decide_eq_false e, Bool.false_or]
      cases mx with
      | true => simp only [if_true] at this ⊢; rw [nab_neg]; exact this
      | false => simpa using this
theorem cin_lcin (b : Nm → Bd) (q : Qy) : cin b q = lcin b q := by
  cases q with
  | ord k ns =>
    cases k with
    | sort => exact prs_srt b ns
    | min => exact (show (cmin (srt ns) b).isSome = _ from cmin_ext b ns false)
    | max => exact cmin_ext b ns true
  | abv ns v => show (!(srt ns).any _) = !ns.any _; rw [any_perm (srt_perm ns)]
  | cmp x y => exact prs_srt b [x, y]
end DW

set_option maxHeartbeats 0
namespace K07
open PySem DW
def tp (i : Nat) : Stmt := PySem.Challenge.pw_doubtwell_k07_certain_orders.main.body.getD i (.Pass ⟨0, 0, 0, 0⟩)
def d_gcd : Dfn := ⟨defD (tp 6) [] [], ["first", "second"], ["first", "second"], Lib.f_gcd, [⟨"gcd", 2, [], [.inl 0, .inl 1]⟩]⟩
theorem kb_gcd : KbOk d_gcd := by
  intro K fd FD sh hs
  rcases List.mem_cons.mp hs with rfl | hs
  · exact kb1 FD rfl fun kV doc pm an cdv ct us ws h1 h2 => match us, ws, h1, h2 with | [_, _], [], _, _ => rfl
  cases hs
def d_require_fraction : Dfn := ⟨defD (tp 7) [] [], ["value"], ["value"], Lib.f_require_fraction, [⟨"require_fraction", 1, [], [.inl 0]⟩]⟩
theorem kb_require_fraction : KbOk d_require_fraction := by
  intro K fd FD sh hs
  rcases List.mem_cons.mp hs with rfl | hs
  · exact kb1 FD rfl fun kV doc pm an cdv ct us ws h1 h2 => match us, ws, h1, h2 with | [_], [], _, _ => rfl
  cases hs
def d_less : Dfn := ⟨defD (tp 8) [] [], ["first", "second"], ["first", "second"], Lib.f_less, [⟨"less", 2, [], [.inl 0, .inl 1]⟩]⟩
theorem kb_less : KbOk d_less := by
  intro K fd FD sh hs
  rcases List.mem_cons.mp hs with rfl | hs
  · exact kb1 FD rfl fun kV doc pm an cdv ct us ws h1 h2 => match us, ws, h1, h2 with | [_, _], [], _, _ => rfl
  cases hs
def d_at_most : Dfn := ⟨defD (tp 9) [] [], ["first", "second"], ["first", "second"], Lib.f_at_most, [⟨"at_most", 2, [], [.inl 0, .inl 1]⟩]⟩
theorem kb_at_most : KbOk d_at_most := by
  intro K fd FD sh hs
  rcases List.mem_cons.mp hs with rfl | hs
  · exact kb1 FD rfl fun kV doc pm an cdv ct us ws h1 h2 => match us, ws, h1, h2 with | [_, _], [], _, _ => rfl
  cases hs
def d_negated : Dfn := ⟨defD (tp 10) [] [], ["value"], ["value"], Lib.f_negated, [⟨"negated", 1, [], [.inl 0]⟩]⟩
theorem kb_negated : KbOk d_negated := by
  intro K fd FD sh hs
  rcases List.mem_cons.mp hs with rfl | hs
  · exact kb1 FD rfl fun kV doc pm an cdv ct us ws h1 h2 => match us, ws, h1, h2 with | [_], [], _, _ => rfl
  cases hs
def d_is_name : Dfn := ⟨defD (tp 15) [] [], ["name", "letter"], ["name"], Lib.f_is_name, [⟨"is_name", 1, [], [.inl 0]⟩]⟩
theorem kb_is_name : KbOk d_is_name := by
  intro K fd FD sh hs
  rcases List.mem_cons.mp hs with rfl | hs
  · exact kb1 FD rfl fun kV doc pm an cdv ct us ws h1 h2 => match us, ws, h1, h2 with | [_], [], _, _ => rfl
  cases hs
def d_require_intervals : Dfn := ⟨defD (tp 16) [] [], ["intervals", "previous", "name", "low", "high"], ["intervals"], Lib.f_require_intervals, [⟨"require_intervals", 1, [], [.inl 0]⟩]⟩
theorem kb_require_intervals : KbOk d_require_intervals := by
  intro K fd FD sh hs
  rcases List.mem_cons.mp hs with rfl | hs
  · exact kb1 FD rfl fun kV doc pm an cdv ct us ws h1 h2 => match us, ws, h1, h2 with | [_], [], _, _ => rfl
  cases hs
def d_by_name : Dfn := ⟨defD (tp 17) [] [], ["intervals", "name", "low", "high"], ["intervals"], Lib.f_by_name, [⟨"by_name", 1, [], [.inl 0]⟩]⟩
theorem kb_by_name : KbOk d_by_name := by
  intro K fd FD sh hs
  rcases List.mem_cons.mp hs with rfl | hs
  · exact kb1 FD rfl fun kV doc pm an cdv ct us ws h1 h2 => match us, ws, h1, h2 with | [_], [], _, _ => rfl
  cases hs
def d_strictly_inside : Dfn := ⟨defD (tp 18) [] [], ["value", "bounds"], ["value", "bounds"], Lib.f_strictly_inside, [⟨"strictly_inside", 2, [], [.inl 0, .inl 1]⟩]⟩
theorem kb_strictly_inside : KbOk d_strictly_inside := by
  intro K fd FD sh hs
  rcases List.mem_cons.mp hs with rfl | hs
  · exact kb1 FD rfl fun kV doc pm an cdv ct us ws h1 h2 => match us, ws, h1, h2 with | [_, _], [], _, _ => rfl
  cases hs
def d_never_above : Dfn := ⟨defD (tp 19) [] [], ["first", "second"], ["first", "second"], Lib.f_never_above, [⟨"never_above", 2, [], [.inl 0, .inl 1]⟩]⟩
theorem kb_never_above : KbOk d_never_above := by
  intro K fd FD sh hs
  rcases List.mem_cons.mp hs with rfl | hs
  · exact kb1 FD rfl fun kV doc pm an cdv ct us ws h1 h2 => match us, ws, h1, h2 with | [_, _], [], _, _ => rfl
  cases hs
def d_is_separated : Dfn := ⟨defD (tp 20) [] [], ["first", "second"], ["first", "second"], Lib.f_is_separated, [⟨"is_separated", 2, [], [.inl 0, .inl 1]⟩]⟩
theorem kb_is_separated : KbOk d_is_separated := by
  intro K fd FD sh hs
  rcases List.mem_cons.mp hs with rfl | hs
  · exact kb1 FD rfl fun kV doc pm an cdv ct us ws h1 h2 => match us, ws, h1, h2 with | [_, _], [], _, _ => rfl
  cases hs
def d_mirrored : Dfn := ⟨defD (tp 21) [] [], ["table", "name"], ["table"], Lib.f_mirrored, [⟨"mirrored", 1, [], [.inl 0]⟩]⟩
theorem kb_mirrored : KbOk d_mirrored := by
  intro K fd FD sh hs
  rcases List.mem_cons.mp hs with rfl | hs
  · exact kb1 FD rfl fun kV doc pm an cdv ct us ws h1 h2 => match us, ws, h1, h2 with | [_], [], _, _ => rfl
  cases hs
def d_query_items : Dfn := ⟨defD (tp 25) [] [], ["query"], ["query"], Lib.f_query_items, [⟨"query_items", 1, [], [.inl 0]⟩]⟩
theorem kb_query_items : KbOk d_query_items := by
  intro K fd FD sh hs
  rcases List.mem_cons.mp hs with rfl | hs
  · exact kb1 FD rfl fun kV doc pm an cdv ct us ws h1 h2 => match us, ws, h1, h2 with | [_], [], _, _ => rfl
  cases hs
def d_is_query : Dfn := ⟨defD (tp 26) [] [], ["query", "table", "names", "name"], ["query", "table"], Lib.f_is_query, [⟨"is_query", 2, [], [.inl 0, .inl 1]⟩]⟩
theorem kb_is_query : KbOk d_is_query := by
  intro K fd FD sh hs
  rcases List.mem_cons.mp hs with rfl | hs
  · exact kb1 FD rfl fun kV doc pm an cdv ct us ws h1 h2 => match us, ws, h1, h2 with | [_, _], [], _, _ => rfl
  cases hs
def d_require_queries : Dfn := ⟨defD (tp 27) [] [], ["queries", "table", "index", "query"], ["queries", "table"], Lib.f_require_queries, [⟨"require_queries", 2, [], [.inl 0, .inl 1]⟩]⟩
theorem kb_require_queries : KbOk d_require_queries := by
  intro K fd FD sh hs
  rcases List.mem_cons.mp hs with rfl | hs
  · exact kb1 FD rfl fun kV doc pm an cdv ct us ws h1 h2 => match us, ws, h1, h2 with | [_, _], [], _, _ => rfl
  cases hs
def d_relevant : Dfn := ⟨defD (tp 28) [] [], ["table", "query", "name"], ["table", "query"], Lib.f_relevant, [⟨"relevant", 2, [], [.inl 0, .inl 1]⟩]⟩
theorem kb_relevant : KbOk d_relevant := by
  intro K fd FD sh hs
  rcases List.mem_cons.mp hs with rfl | hs
  · exact kb1 FD rfl fun kV doc pm an cdv ct us ws h1 h2 => match us, ws, h1, h2 with | [_, _], [], _, _ => rfl
  cases hs
def d_certain_minimum : Dfn := ⟨defD (tp 29) [] [], ["table", "name", "other"], ["table"], Lib.f_certain_minimum, [⟨"certain_minimum", 1, [], [.inl 0]⟩]⟩
theorem kb_certain_minimum : KbOk d_certain_minimum := by
  intro K fd FD sh hs
  rcases List.mem_cons.mp hs with rfl | hs
  · exact kb1 FD rfl fun kV doc pm an cdv ct us ws h1 h2 => match us, ws, h1, h2 with | [_], [], _, _ => rfl
  cases hs
def d_all_separated : Dfn := ⟨defD (tp 30) [] [], ["table", "names", "index", "first", "second"], ["table"], Lib.f_all_separated, [⟨"all_separated", 1, [], [.inl 0]⟩]⟩
theorem kb_all_separated : KbOk d_all_separated := by
  intro K fd FD sh hs
  rcases List.mem_cons.mp hs with rfl | hs
  · exact kb1 FD rfl fun kV doc pm an cdv ct us ws h1 h2 => match us, ws, h1, h2 with | [_], [], _, _ => rfl
  cases hs
def d_certain_in : Dfn := ⟨defD (tp 31) [] [], ["table", "query", "part", "name"], ["table", "query"], Lib.f_certain_in, [⟨"certain_in", 2, [], [.inl 0, .inl 1]⟩]⟩
theorem kb_certain_in : KbOk d_certain_in := by
  intro K fd FD sh hs
  rcases List.mem_cons.mp hs with rfl | hs
  · exact kb1 FD rfl fun kV doc pm an cdv ct us ws h1 h2 => match us, ws, h1, h2 with | [_, _], [], _, _ => rfl
  cases hs
def d_is_certain : Dfn := ⟨defD (tp 32) [] [], ["intervals", "query", "table"], ["intervals", "query"], Lib.f_is_certain, [⟨"is_certain", 2, [], [.inl 0, .inl 1]⟩]⟩
theorem kb_is_certain : KbOk d_is_certain := by
  intro K fd FD sh hs
  rcases List.mem_cons.mp hs with rfl | hs
  · exact kb1 FD rfl fun kV doc pm an cdv ct us ws h1 h2 => match us, ws, h1, h2 with | [_, _], [], _, _ => rfl
  cases hs
def d_all_certain : Dfn := ⟨defD (tp 34) [] [], ["intervals", "queries", "table", "query"], ["intervals", "queries"], Lib.f_all_certain, [⟨"all_certain", 2, [], [.inl 0, .inl 1]⟩]⟩
theorem kb_all_certain : KbOk d_all_certain := by
  intro K fd FD sh hs
  rcases List.mem_cons.mp hs with rfl | hs
  · exact kb1 FD rfl fun kV doc pm an cdv ct us ws h1 h2 => match us, ws, h1, h2 with | [_, _], [], _, _ => rfl
  cases hs
def d__law_draw : Dfn := ⟨defD (tp 37) [] [], ["_law_source_here", "_law_count", "_law_cell", "_law_rest", "_law_twice"], ["_law_source_here", "_law_count"], Lib.f__law_draw, [⟨"_law_draw", 2, [], [.inl 0, .inl 1]⟩]⟩
theorem kb__law_draw : KbOk d__law_draw := by
  intro K fd FD sh hs
  rcases List.mem_cons.mp hs with rfl | hs
  · exact kb1 FD rfl fun kV doc pm an cdv ct us ws h1 h2 => match us, ws, h1, h2 with | [_, _], [], _, _ => rfl
  cases hs
def d__law_choice : Dfn := ⟨defD (tp 38) [] [], ["_law_source_here", "_law_chosen"], ["_law_source_here", "_law_chosen"], Lib.f__law_choice, [⟨"_law_choice", 2, [], [.inl 0, .inl 1]⟩]⟩
theorem kb__law_choice : KbOk d__law_choice := by
  intro K fd FD sh hs
  rcases List.mem_cons.mp hs with rfl | hs
  · exact kb1 FD rfl fun kV doc pm an cdv ct us ws h1 h2 => match us, ws, h1, h2 with | [_, _], [], _, _ => rfl
  cases hs
def d__law_shuffled : Dfn := ⟨defD (tp 39) [] [], ["_law_source_here", "_law_chosen", "_law_found", "_law_one"], ["_law_source_here", "_law_chosen"], Lib.f__law_shuffled, [⟨"_law_shuffled", 2, [], [.inl 0, .inl 1]⟩]⟩
theorem kb__law_shuffled : KbOk d__law_shuffled := by
  intro K fd FD sh hs
  rcases List.mem_cons.mp hs with rfl | hs
  · exact kb1 FD rfl fun kV doc pm an cdv ct us ws h1 h2 => match us, ws, h1, h2 with | [_, _], [], _, _ => rfl
  cases hs
def d__law_same : Dfn := ⟨defD (tp 40) [] [], ["_law_found", "_law_expected", "_law_x", "_law_y"], ["_law_found", "_law_expected"], Lib.f__law_same, [⟨"_law_same", 2, [], [.inl 0, .inl 1]⟩]⟩
theorem kb__law_same : KbOk d__law_same := by
  intro K fd FD sh hs
  rcases List.mem_cons.mp hs with rfl | hs
  · exact kb1 FD rfl fun kV doc pm an cdv ct us ws h1 h2 => match us, ws, h1, h2 with | [_, _], [], _, _ => rfl
  cases hs
def d__law_gcd : Dfn := ⟨defD (tp 41) [] [], ["_law_one", "_law_two", "_law_rest"], ["_law_one", "_law_two"], Lib.f__law_gcd, [⟨"_law_gcd", 2, [], [.inl 0, .inl 1]⟩]⟩
theorem kb__law_gcd : KbOk d__law_gcd := by
  intro K fd FD sh hs
  rcases List.mem_cons.mp hs with rfl | hs
  · exact kb1 FD rfl fun kV doc pm an cdv ct us ws h1 h2 => match us, ws, h1, h2 with | [_, _], [], _, _ => rfl
  cases hs
def d__law_reduced : Dfn := ⟨defD (tp 42) [] [], ["_law_numerator", "_law_denominator", "_law_divisor"], ["_law_numerator", "_law_denominator"], Lib.f__law_reduced, [⟨"_law_reduced", 2, [], [.inl 0, .inl 1]⟩]⟩
theorem kb__law_reduced : KbOk d__law_reduced := by
  intro K fd FD sh hs
  rcases List.mem_cons.mp hs with rfl | hs
  · exact kb1 FD rfl fun kV doc pm an cdv ct us ws h1 h2 => match us, ws, h1, h2 with | [_, _], [], _, _ => rfl
  cases hs
def d__law_less : Dfn := ⟨defD (tp 43) [] [], ["_law_one", "_law_two"], ["_law_one", "_law_two"], Lib.f__law_less, [⟨"_law_less", 2, [], [.inl 0, .inl 1]⟩]⟩
theorem kb__law_less : KbOk d__law_less := by
  intro K fd FD sh hs
  rcases List.mem_cons.mp hs with rfl | hs
  · exact kb1 FD rfl fun kV doc pm an cdv ct us ws h1 h2 => match us, ws, h1, h2 with | [_, _], [], _, _ => rfl
  cases hs
def d__law_at_most : Dfn := ⟨defD (tp 44) [] [], ["_law_one", "_law_two"], ["_law_one", "_law_two"], Lib.f__law_at_most, [⟨"_law_at_most", 2, [], [.inl 0, .inl 1]⟩]⟩
theorem kb__law_at_most : KbOk d__law_at_most := by
  intro K fd FD sh hs
  rcases List.mem_cons.mp hs with rfl | hs
  · exact kb1 FD rfl fun kV doc pm an cdv ct us ws h1 h2 => match us, ws, h1, h2 with | [_, _], [], _, _ => rfl
  cases hs
def d__law_inside : Dfn := ⟨defD (tp 45) [] [], ["_law_one", "_law_low", "_law_high"], ["_law_one", "_law_low", "_law_high"], Lib.f__law_inside, [⟨"_law_inside", 3, [], [.inl 0, .inl 1, .inl 2]⟩]⟩
theorem kb__law_inside : KbOk d__law_inside := by
  intro K fd FD sh hs
  rcases List.mem_cons.mp hs with rfl | hs
  · exact kb1 FD rfl fun kV doc pm an cdv ct us ws h1 h2 => match us, ws, h1, h2 with | [_, _, _], [], _, _ => rfl
  cases hs
def d__law_bound : Dfn := ⟨defD (tp 46) [] [], ["_law_source_here", "_law_spread"], ["_law_source_here", "_law_spread"], Lib.f__law_bound, [⟨"_law_bound", 2, [], [.inl 0, .inl 1]⟩]⟩
theorem kb__law_bound : KbOk d__law_bound := by
  intro K fd FD sh hs
  rcases List.mem_cons.mp hs with rfl | hs
  · exact kb1 FD rfl fun kV doc pm an cdv ct us ws h1 h2 => match us, ws, h1, h2 with | [_, _], [], _, _ => rfl
  cases hs
def d__law_interval : Dfn := ⟨defD (tp 47) [] [], ["_law_source_here", "_law_spread", "_law_previous", "_law_low", "_law_high", "_law_way"], ["_law_source_here", "_law_spread", "_law_previous"], Lib.f__law_interval, [⟨"_law_interval", 3, [], [.inl 0, .inl 1, .inl 2]⟩]⟩
theorem kb__law_interval : KbOk d__law_interval := by
  intro K fd FD sh hs
  rcases List.mem_cons.mp hs with rfl | hs
  · exact kb1 FD rfl fun kV doc pm an cdv ct us ws h1 h2 => match us, ws, h1, h2 with | [_, _, _], [], _, _ => rfl
  cases hs
def d__law_intervals : Dfn := ⟨defD (tp 48) [] [], ["_law_source_here", "_law_most", "_law_spread", "_law_names_here", "_law_many", "_law_chosen", "_law_previous", "_law_name", "_law_at"], ["_law_source_here", "_law_most", "_law_spread"], Lib.f__law_intervals, [⟨"_law_intervals", 3, [], [.inl 0, .inl 1, .inl 2]⟩]⟩
theorem kb__law_intervals : KbOk d__law_intervals := by
  intro K fd FD sh hs
  rcases List.mem_cons.mp hs with rfl | hs
  · exact kb1 FD rfl fun kV doc pm an cdv ct us ws h1 h2 => match us, ws, h1, h2 with | [_, _, _], [], _, _ => rfl
  cases hs
def d__law_by_name : Dfn := ⟨defD (tp 49) [] [], ["_law_intervals_here", "_law_name", "_law_low", "_law_high"], ["_law_intervals_here"], Lib.f__law_by_name, [⟨"_law_by_name", 1, [], [.inl 0]⟩]⟩
theorem kb__law_by_name : KbOk d__law_by_name := by
  intro K fd FD sh hs
  rcases List.mem_cons.mp hs with rfl | hs
  · exact kb1 FD rfl fun kV doc pm an cdv ct us ws h1 h2 => match us, ws, h1, h2 with | [_], [], _, _ => rfl
  cases hs
def d__law_all_bounds : Dfn := ⟨defD (tp 50) [] [], ["_law_intervals_here", "_law_name", "_law_low", "_law_high"], ["_law_intervals_here"], Lib.f__law_all_bounds, [⟨"_law_all_bounds", 1, [], [.inl 0]⟩]⟩
theorem kb__law_all_bounds : KbOk d__law_all_bounds := by
  intro K fd FD sh hs
  rcases List.mem_cons.mp hs with rfl | hs
  · exact kb1 FD rfl fun kV doc pm an cdv ct us ws h1 h2 => match us, ws, h1, h2 with | [_], [], _, _ => rfl
  cases hs
def d__law_names : Dfn := ⟨defD (tp 51) [] [], ["_law_source_here", "_law_intervals_here", "_law_names_here", "_law_name", "_law_low", "_law_high", "_law_chosen"], ["_law_source_here", "_law_intervals_here"], Lib.f__law_names, [⟨"_law_names", 2, [], [.inl 0, .inl 1]⟩]⟩
theorem kb__law_names : KbOk d__law_names := by
  intro K fd FD sh hs
  rcases List.mem_cons.mp hs with rfl | hs
  · exact kb1 FD rfl fun kV doc pm an cdv ct us ws h1 h2 => match us, ws, h1, h2 with | [_, _], [], _, _ => rfl
  cases hs
def d__law_query : Dfn := ⟨defD (tp 52) [] [], ["_law_source_here", "_law_intervals_here", "_law_code", "_law_names_here", "_law_pair", "_law_name", "_law_low", "_law_high"], ["_law_source_here", "_law_intervals_here"], Lib.f__law_query, [⟨"_law_query", 2, [], [.inl 0, .inl 1]⟩]⟩
theorem kb__law_query : KbOk d__law_query := by
  intro K fd FD sh hs
  rcases List.mem_cons.mp hs with rfl | hs
  · exact kb1 FD rfl fun kV doc pm an cdv ct us ws h1 h2 => match us, ws, h1, h2 with | [_, _], [], _, _ => rfl
  cases hs
def d__law_queries : Dfn := ⟨defD (tp 53) [] [], ["_law_source_here", "_law_intervals_here", "_law_most", "_law_k"], ["_law_source_here", "_law_intervals_here", "_law_most"], Lib.f__law_queries, [⟨"_law_queries", 3, [], [.inl 0, .inl 1, .inl 2]⟩]⟩
theorem kb__law_queries : KbOk d__law_queries := by
  intro K fd FD sh hs
  rcases List.mem_cons.mp hs with rfl | hs
  · exact kb1 FD rfl fun kV doc pm an cdv ct us ws h1 h2 => match us, ws, h1, h2 with | [_, _, _], [], _, _ => rfl
  cases hs
def d__law_items : Dfn := ⟨defD (tp 54) [] [], ["_law_query_here"], ["_law_query_here"], Lib.f__law_items, [⟨"_law_items", 1, [], [.inl 0]⟩]⟩
theorem kb__law_items : KbOk d__law_items := by
  intro K fd FD sh hs
  rcases List.mem_cons.mp hs with rfl | hs
  · exact kb1 FD rfl fun kV doc pm an cdv ct us ws h1 h2 => match us, ws, h1, h2 with | [_], [], _, _ => rfl
  cases hs
def d__law_never_above : Dfn := ⟨defD (tp 55) [] [], ["_law_one", "_law_two"], ["_law_one", "_law_two"], Lib.f__law_never_above, [⟨"_law_never_above", 2, [], [.inl 0, .inl 1]⟩]⟩
theorem kb__law_never_above : KbOk d__law_never_above := by
  intro K fd FD sh hs
  rcases List.mem_cons.mp hs with rfl | hs
  · exact kb1 FD rfl fun kV doc pm an cdv ct us ws h1 h2 => match us, ws, h1, h2 with | [_, _], [], _, _ => rfl
  cases hs
def d__law_separated : Dfn := ⟨defD (tp 56) [] [], ["_law_one", "_law_two"], ["_law_one", "_law_two"], Lib.f__law_separated, [⟨"_law_separated", 2, [], [.inl 0, .inl 1]⟩]⟩
theorem kb__law_separated : KbOk d__law_separated := by
  intro K fd FD sh hs
  rcases List.mem_cons.mp hs with rfl | hs
  · exact kb1 FD rfl fun kV doc pm an cdv ct us ws h1 h2 => match us, ws, h1, h2 with | [_, _], [], _, _ => rfl
  cases hs
def d__law_all_pairs : Dfn := ⟨defD (tp 57) [] [], ["_law_chosen", "_law_found", "_law_at", "_law_to"], ["_law_chosen"], Lib.f__law_all_pairs, [⟨"_law_all_pairs", 1, [], [.inl 0]⟩]⟩
theorem kb__law_all_pairs : KbOk d__law_all_pairs := by
  intro K fd FD sh hs
  rcases List.mem_cons.mp hs with rfl | hs
  · exact kb1 FD rfl fun kV doc pm an cdv ct us ws h1 h2 => match us, ws, h1, h2 with | [_], [], _, _ => rfl
  cases hs
def d__law_extremes : Dfn := ⟨defD (tp 58) [] [], ["_law_table", "_law_names_here", "_law_code", "_law_found", "_law_name", "_law_others", "_law_other"], ["_law_table", "_law_names_here", "_law_code"], Lib.f__law_extremes, [⟨"_law_extremes", 3, [], [.inl 0, .inl 1, .inl 2]⟩]⟩
theorem kb__law_extremes : KbOk d__law_extremes := by
  intro K fd FD sh hs
  rcases List.mem_cons.mp hs with rfl | hs
  · exact kb1 FD rfl fun kV doc pm an cdv ct us ws h1 h2 => match us, ws, h1, h2 with | [_, _, _], [], _, _ => rfl
  cases hs
def d__law_certain : Dfn := ⟨defD (tp 59) [] [], ["_law_table", "_law_query_here", "_law_names_here", "_law_one", "_law_two", "_law_name"], ["_law_table", "_law_query_here"], Lib.f__law_certain, [⟨"_law_certain", 2, [], [.inl 0, .inl 1]⟩]⟩
theorem kb__law_certain : KbOk d__law_certain := by
  intro K fd FD sh hs
  rcases List.mem_cons.mp hs with rfl | hs
  · exact kb1 FD rfl fun kV doc pm an cdv ct us ws h1 h2 => match us, ws, h1, h2 with | [_, _], [], _, _ => rfl
  cases hs
def d__law_all_certain : Dfn := ⟨defD (tp 60) [] [], ["_law_table", "_law_queries_here", "_law_query_here"], ["_law_table", "_law_queries_here"], Lib.f__law_all_certain, [⟨"_law_all_certain", 2, [], [.inl 0, .inl 1]⟩]⟩
theorem kb__law_all_certain : KbOk d__law_all_certain := by
  intro K fd FD sh hs
  rcases List.mem_cons.mp hs with rfl | hs
  · exact kb1 FD rfl fun kV doc pm an cdv ct us ws h1 h2 => match us, ws, h1, h2 with | [_, _], [], _, _ => rfl
  cases hs
def x_QueryError : Bdf := ⟨"QueryError", true, metD (tp 1) 0 [] []⟩
def x_InvalidFraction : Xdf := ⟨⟨"InvalidFraction", "QueryError", "fraction", none⟩, metD (tp 2) 0 [] []⟩
def x_InvalidIntervals : Xdf := ⟨⟨"InvalidIntervals", "QueryError", "intervals", none⟩, metD (tp 3) 0 [] []⟩
def x_InvalidQuery : Xdf := ⟨⟨"InvalidQuery", "QueryError", "query", some ("index", (.int 0))⟩, metD (tp 4) 0 [.int 0] []⟩
def b_law_L1 : Sms := (.cons (.set 3 (.call "_law_intervals" (.cons (.var 1) (.cons (.lit (.int 6)) (.cons (.lit (.int 9)) .nil))) .nil [] [.inl 0, .inl 1, .inl 2]))
    (.cons (.set 4 (.call "_law_by_name" (.cons (.var 3) .nil) .nil [] [.inl 0]))
    (.cons (.set 5 (.tup (.cons (.lit (.str "sort")) (.cons (.call "_law_names" (.cons (.var 1) (.cons (.var 3) .nil)) .nil [] [.inl 0, .inl 1]) .nil))))
    (.cons (.ifs (.band (.cons (.cmp .gt (.bi .len (.cons (.idx (.var 5) (.lit (.int 1))) .nil)) (.lit (.int 1))) (.cons (.cmp .eq (.call "_law_draw" (.cons (.var 1) (.cons (.lit (.int 2)) .nil)) .nil [] [.inl 0, .inl 1]) (.lit (.int 0))) .nil))) (.cons (.set 5 (.tup (.cons (.lit (.str "compare")) (.cons (.idx (.idx (.var 5) (.lit (.int 1))) (.lit (.int 0))) (.cons (.idx (.idx (.var 5) (.lit (.int 1))) (.lit (.int 1))) .nil)))))
    .nil) .nil)
    (.cons (.ifs (.nt (.call "_law_same" (.cons (.call "is_certain" (.cons (.var 3) (.cons (.var 5) .nil)) .nil [] [.inl 0, .inl 1]) (.cons (.call "_law_certain" (.cons (.var 4) (.cons (.var 5) .nil)) .nil [] [.inl 0, .inl 1]) .nil)) .nil [] [.inl 0, .inl 1])) (.cons (.ret (.lit (.bl false)))
    .nil) .nil)
    (.cons (.set 6 (.call "_law_queries" (.cons (.var 1) (.cons (.var 3) (.cons (.lit (.int 3)) .nil))) .nil [] [.inl 0, .inl 1, .inl 2]))
    (.cons (.ifs (.nt (.call "_law_same" (.cons (.call "all_certain" (.cons (.var 3) (.cons (.var 6) .nil)) .nil [] [.inl 0, .inl 1]) (.cons (.call "_law_all_certain" (.cons (.var 4) (.cons (.var 6) .nil)) .nil [] [.inl 0, .inl 1]) .nil)) .nil [] [.inl 0, .inl 1])) (.cons (.ret (.lit (.bl false)))
    .nil) .nil)
    .nil)))))))
def b_law : Sms := (.cons (.fors [2] false (.rng (.cons (.lit (.int 5)) .nil)) b_law_L1)
    (.cons (.ret (.lit (.bl true)))
    .nil))
def d_law : Dfn := ⟨defD (tp 61) [] [], ["_law_script", "_law_source_here", "_law_k", "_law_intervals_here", "_law_table", "_law_query_here", "_law_queries_here"], ["_law_script"], ⟨1, 7, b_law⟩, []⟩
def tx : Txt := { dfs := [d_gcd, d_require_fraction, d_less, d_at_most, d_negated, d_is_name, d_require_intervals, d_by_name, d_strictly_inside, d_never_above, d_is_separated, d_mirrored, d_query_items, d_is_query, d_require_queries, d_relevant, d_certain_minimum, d_all_separated, d_certain_in, d_is_certain, d_all_certain, d__law_draw, d__law_choice, d__law_shuffled, d__law_same, d__law_gcd, d__law_reduced, d__law_less, d__law_at_most, d__law_inside, d__law_bound, d__law_interval, d__law_intervals, d__law_by_name, d__law_all_bounds, d__law_names, d__law_query, d__law_queries, d__law_items, d__law_never_above, d__law_separated, d__law_all_pairs, d__law_extremes, d__law_certain, d__law_all_certain], ods := [], gl := [("CAPACITY", (.lit (.int 24))), ("KINDS", (.tup [(.str "sort"), (.str "min"), (.str "max"), (.str "above"), (.str "compare")])), ("LETTERS", (.lit (.str "abcdefghijklmnopqrstuvwxyz"))), ("MAX_NAME_LENGTH", (.lit (.int 6))), ("MAX_QUERIES", (.lit (.int 8)))], free := ["abs", "all", "any", "bool", "dict", "enumerate", "int", "isinstance", "len", "list", "range", "set", "sorted", "str", "tuple", "zip"], excs := [x_InvalidFraction.x, x_InvalidIntervals.x, x_InvalidQuery.x], hcs := [], fls := ["code", "index"], lams := [] }
def lt : LT := { t := tx, xdfs := [x_InvalidFraction, x_InvalidIntervals, x_InvalidQuery], bdfs := [x_QueryError], law := d_law, i := 1, src := defD (tp 36) [] [], sa := "_law_script" }
theorem kbs : ∀ d ∈ lt.t.dfs, KbOk d := by
  intro d hd
  rcases List.mem_cons.mp hd with rfl | hd
  · exact kb_gcd
  rcases List.mem_cons.mp hd with rfl | hd
  · exact kb_require_fraction
  rcases List.mem_cons.mp hd with rfl | hd
  · exact kb_less
  rcases List.mem_cons.mp hd with rfl | hd
  · exact kb_at_most
  rcases List.mem_cons.mp hd with rfl | hd
  · exact kb_negated
  rcases List.mem_cons.mp hd with rfl | hd
  · exact kb_is_name
  rcases List.mem_cons.mp hd with rfl | hd
  · exact kb_require_intervals
  rcases List.mem_cons.mp hd with rfl | hd
  · exact kb_by_name
  rcases List.mem_cons.mp hd with rfl | hd
  · exact kb_strictly_inside
  rcases List.mem_cons.mp hd with rfl | hd
  · exact kb_never_above
  rcases List.mem_cons.mp hd with rfl | hd
  · exact kb_is_separated
  rcases List.mem_cons.mp hd with rfl | hd
  · exact kb_mirrored
  rcases List.mem_cons.mp hd with rfl | hd
  · exact kb_query_items
  rcases List.mem_cons.mp hd with rfl | hd
  · exact kb_is_query
  rcases List.mem_cons.mp hd with rfl | hd
  · exact kb_require_queries
  rcases List.mem_cons.mp hd with rfl | hd
  · exact kb_relevant
  rcases List.mem_cons.mp hd with rfl | hd
  · exact kb_certain_minimum
  rcases List.mem_cons.mp hd with rfl | hd
  · exact kb_all_separated
  rcases List.mem_cons.mp hd with rfl | hd
  · exact kb_certain_in
  rcases List.mem_cons.mp hd with rfl | hd
  · exact kb_is_certain
  rcases List.mem_cons.mp hd with rfl | hd
  · exact kb_all_certain
  rcases List.mem_cons.mp hd with rfl | hd
  · exact kb__law_draw
  rcases List.mem_cons.mp hd with rfl | hd
  · exact kb__law_choice
  rcases List.mem_cons.mp hd with rfl | hd
  · exact kb__law_shuffled
  rcases List.mem_cons.mp hd with rfl | hd
  · exact kb__law_same
  rcases List.mem_cons.mp hd with rfl | hd
  · exact kb__law_gcd
  rcases List.mem_cons.mp hd with rfl | hd
  · exact kb__law_reduced
  rcases List.mem_cons.mp hd with rfl | hd
  · exact kb__law_less
  rcases List.mem_cons.mp hd with rfl | hd
  · exact kb__law_at_most
  rcases List.mem_cons.mp hd with rfl | hd
  · exact kb__law_inside
  rcases List.mem_cons.mp hd with rfl | hd
  · exact kb__law_bound
  rcases List.mem_cons.mp hd with rfl | hd
  · exact kb__law_interval
  rcases List.mem_cons.mp hd with rfl | hd
  · exact kb__law_intervals
  rcases List.mem_cons.mp hd with rfl | hd
  · exact kb__law_by_name
  rcases List.mem_cons.mp hd with rfl | hd
  · exact kb__law_all_bounds
  rcases List.mem_cons.mp hd with rfl | hd
  · exact kb__law_names
  rcases List.mem_cons.mp hd with rfl | hd
  · exact kb__law_query
  rcases List.mem_cons.mp hd with rfl | hd
  · exact kb__law_queries
  rcases List.mem_cons.mp hd with rfl | hd
  · exact kb__law_items
  rcases List.mem_cons.mp hd with rfl | hd
  · exact kb__law_never_above
  rcases List.mem_cons.mp hd with rfl | hd
  · exact kb__law_separated
  rcases List.mem_cons.mp hd with rfl | hd
  · exact kb__law_all_pairs
  rcases List.mem_cons.mp hd with rfl | hd
  · exact kb__law_extremes
  rcases List.mem_cons.mp hd with rfl | hd
  · exact kb__law_certain
  rcases List.mem_cons.mp hd with rfl | hd
  · exact kb__law_all_certain
  cases hd
end K07
theorem K07.lok : K07.lt.ok = true := by decide +kernel
namespace K07
open PySem DW
abbrev Pg : Prog := lt.t.prog (fun _ => none) 20000
instance : Fu Pg := ⟨rfl⟩
instance : Has Pg "gcd" Lib.f_gcd := ⟨by kernel_rfl, by kernel_rfl⟩
instance : Has Pg "require_fraction" Lib.f_require_fraction := ⟨by kernel_rfl, by kernel_rfl⟩
instance : Has Pg "less" Lib.f_less := ⟨by kernel_rfl, by kernel_rfl⟩
instance : Has Pg "at_most" Lib.f_at_most := ⟨by kernel_rfl, by kernel_rfl⟩
instance : Has Pg "negated" Lib.f_negated := ⟨by kernel_rfl, by kernel_rfl⟩
instance : Has Pg "is_name" Lib.f_is_name := ⟨by kernel_rfl, by kernel_rfl⟩
instance : Has Pg "require_intervals" Lib.f_require_intervals := ⟨by kernel_rfl, by kernel_rfl⟩
instance : Has Pg "by_name" Lib.f_by_name := ⟨by kernel_rfl, by kernel_rfl⟩
instance : Has Pg "strictly_inside" Lib.f_strictly_inside := ⟨by kernel_rfl, by kernel_rfl⟩
instance : Has Pg "never_above" Lib.f_never_above := ⟨by kernel_rfl, by kernel_rfl⟩
instance : Has Pg "is_separated" Lib.f_is_separated := ⟨by kernel_rfl, by kernel_rfl⟩
instance : Has Pg "mirrored" Lib.f_mirrored := ⟨by kernel_rfl, by kernel_rfl⟩
instance : Has Pg "query_items" Lib.f_query_items := ⟨by kernel_rfl, by kernel_rfl⟩
instance : Has Pg "is_query" Lib.f_is_query := ⟨by kernel_rfl, by kernel_rfl⟩
instance : Has Pg "require_queries" Lib.f_require_queries := ⟨by kernel_rfl, by kernel_rfl⟩
instance : Has Pg "relevant" Lib.f_relevant := ⟨by kernel_rfl, by kernel_rfl⟩
instance : Has Pg "certain_minimum" Lib.f_certain_minimum := ⟨by kernel_rfl, by kernel_rfl⟩
instance : Has Pg "all_separated" Lib.f_all_separated := ⟨by kernel_rfl, by kernel_rfl⟩
instance : Has Pg "certain_in" Lib.f_certain_in := ⟨by kernel_rfl, by kernel_rfl⟩
instance : Has Pg "is_certain" Lib.f_is_certain := ⟨by kernel_rfl, by kernel_rfl⟩
instance : Has Pg "all_certain" Lib.f_all_certain := ⟨by kernel_rfl, by kernel_rfl⟩
instance : Has Pg "_law_draw" Lib.f__law_draw := ⟨by kernel_rfl, by kernel_rfl⟩
instance : Has Pg "_law_choice" Lib.f__law_choice := ⟨by kernel_rfl, by kernel_rfl⟩
instance : Has Pg "_law_shuffled" Lib.f__law_shuffled := ⟨by kernel_rfl, by kernel_rfl⟩
instance : Has Pg "_law_same" Lib.f__law_same := ⟨by kernel_rfl, by kernel_rfl⟩
instance : Has Pg "_law_gcd" Lib.f__law_gcd := ⟨by kernel_rfl, by kernel_rfl⟩
instance : Has Pg "_law_reduced" Lib.f__law_reduced := ⟨by kernel_rfl, by kernel_rfl⟩
instance : Has Pg "_law_less" Lib.f__law_less := ⟨by kernel_rfl, by kernel_rfl⟩
instance : Has Pg "_law_at_most" Lib.f__law_at_most := ⟨by kernel_rfl, by kernel_rfl⟩
instance : Has Pg "_law_inside" Lib.f__law_inside := ⟨by kernel_rfl, by kernel_rfl⟩
instance : Has Pg "_law_bound" Lib.f__law_bound := ⟨by kernel_rfl, by kernel_rfl⟩
instance : Has Pg "_law_interval" Lib.f__law_interval := ⟨by kernel_rfl, by kernel_rfl⟩
instance : Has Pg "_law_intervals" Lib.f__law_intervals := ⟨by kernel_rfl, by kernel_rfl⟩
instance : Has Pg "_law_by_name" Lib.f__law_by_name := ⟨by kernel_rfl, by kernel_rfl⟩
instance : Has Pg "_law_all_bounds" Lib.f__law_all_bounds := ⟨by kernel_rfl, by kernel_rfl⟩
instance : Has Pg "_law_names" Lib.f__law_names := ⟨by kernel_rfl, by kernel_rfl⟩
instance : Has Pg "_law_query" Lib.f__law_query := ⟨by kernel_rfl, by kernel_rfl⟩
instance : Has Pg "_law_queries" Lib.f__law_queries := ⟨by kernel_rfl, by kernel_rfl⟩
instance : Has Pg "_law_items" Lib.f__law_items := ⟨by kernel_rfl, by kernel_rfl⟩
instance : Has Pg "_law_never_above" Lib.f__law_never_above := ⟨by kernel_rfl, by kernel_rfl⟩
instance : Has Pg "_law_separated" Lib.f__law_separated := ⟨by kernel_rfl, by kernel_rfl⟩
instance : Has Pg "_law_all_pairs" Lib.f__law_all_pairs := ⟨by kernel_rfl, by kernel_rfl⟩
instance : Has Pg "_law_extremes" Lib.f__law_extremes := ⟨by kernel_rfl, by kernel_rfl⟩
instance : Has Pg "_law_certain" Lib.f__law_certain := ⟨by kernel_rfl, by kernel_rfl⟩
instance : Has Pg "_law_all_certain" Lib.f__law_all_certain := ⟨by kernel_rfl, by kernel_rfl⟩
instance : HasX Pg "InvalidFraction" "QueryError" "fraction" none := ⟨by kernel_rfl, by kernel_rfl⟩
instance : HasX Pg "InvalidIntervals" "QueryError" "intervals" none := ⟨by kernel_rfl, by kernel_rfl⟩
instance : HasX Pg "InvalidQuery" "QueryError" "query" (some ("index", (.int 0))) := ⟨by kernel_rfl, by kernel_rfl⟩
end K07

set_option maxHeartbeats 4000000
namespace K07
open PySem DW
def tl4 : Sms := Sms.drop 4 b_law_L1
theorem turn {S : Src} (h : SI S) (k : D) (u3 u4 u5 u6 : Option (Bool × D)) : ∃ v3 v4 v5 v6 S', exs (callN Pg 20) Pg.xf 20000 b_law_L1 [none, some (false, .src), some (false, k), u3, u4, u5, u6] S = .nxt [none, some (false, .src), some (false, k), v3, v4, v5, v6] S' ∧ SI S' := by
  obtain ⟨ks, b, S1, e1, dr, h1⟩ := sp_lints (P := Pg) (m := 15) (S := S) (most := 6) (c := 9) h (by decide) (by decide) (by decide) (by decide)
  have e1 : (callN Pg 20).call "_law_intervals" [.src, .int 6, .int 9] S = .ok (true, .lst (ks.map (dR b))) S1 := e1
  have nd := nodup_asc dr.rows.1
  have hl : ks.length < 64 := by have := dr.len; omega
  have e2 : (callN Pg 20).call "_law_by_name" [.lst (ks.map (dR b))] S1 = .ok (true, dT ks b) S1 := sp_lbyn (P := Pg) (m := 19) nd
  obtain ⟨ns, S2, e3, n1, n2, n3, n4, h2⟩ := sp_lnames (P := Pg) (m := 17) (S := S1) (b := b) h1 nd dr.ne hl
  have e3 : (callN Pg 20).call "_law_names" [.src, .lst (ks.map (dR b))] S1 = .ok (false, dNt ns) S2 := e3
  -- behind the first query
  have fin : ∀ (q : Qy) (S3 : Src), QOk ks q → SI S3 → ∃ v6 S', exs (callN Pg 20) Pg.xf 20000 tl4 [none, some (false, .src), some (false, k), some (true, .lst (ks.map (dR b))), some (true, dT ks b), some (false, dQ q), u6] S3 = .nxt [none, some (false, .src), some (false, k), some (true, .lst (ks.map (dR b))), some (true, dT ks b), some (false, dQ q), v6] S' ∧ SI S' := by
    intro q S3 hq h3
    obtain ⟨qs, S4, e4, hql, hqs, h4⟩ := sp_lqueries (P := Pg) (m := 15) (S := S3) (b := b) (k := 4 * 9 + 28) (most := 3) h3 nd dr.ne hl (by decide) dr.sz (by decide)
    have e4 : (callN Pg 20).call "_law_queries" [.src, .lst (ks.map (dR b)), .int 3] S3 = .ok (true, .lst (qs.map dQ)) S4 := e4
    have e5 : (callN Pg 20).call "is_certain" [.lst (ks.map (dR b)), dQ q] S3 = .ok (false, .bl (lcin b q)) S3 := by
      rw [← cin_lcin]; exact sp_isc (P := Pg) (m := 14) dr.rows hq
    have e6 : (callN Pg 20).call "_law_certain" [dT ks b, dQ q] S3 = .ok (false, .bl (lcin b q)) S3 := sp_lcert (P := Pg) (m := 15) hq
    have e7 : (callN Pg 20).call "all_certain" [.lst (ks.map (dR b)), .lst (qs.map dQ)] S4 = .ok (false, .bl (qs.all (lcin b))) S4 := by
      rw [show lcin b = cin b from funext fun q => (cin_lcin b q).symm]; exact sp_allc (P := Pg) (m := 14) dr.rows (by omega) fun q hq => (hqs q hq).1
    have e8 : (callN Pg 20).call "_law_all_certain" [dT ks b, .lst (qs.map dQ)] S4 = .ok (false, .bl (qs.all (lcin b))) S4 := sp_lallc (P := Pg) (m := 14) fun q hq => (hqs q hq).1
    have sm : ∀ (x : Bool) (S : Src), (callN Pg 20).call "_law_same" [.bl x, .bl x] S = .ok (false, .bl true) S := fun x S => sp_same (P := Pg) 0 19 _ rfl
    have iq : immL (qs.map dQ) = true := immL_map fun _ _ => immQ _
    refine ⟨some (true, .lst (qs.map dQ)), S4, ?_, h4⟩
    simp [tl4, b_law_L1, Sms.drop, ev, evs, evAnd, evOr, evi, evc, evo, theB, R.bind, R.calm, opB, ofO, permD, Lit.d, Gc.d, bindT, bindR, wipeR, SR.seq, exs, ex, evM, evMB, evsM, seen_nil, seen_cons, freeze_nil, freeze_cons, Option.bind_some, Option.bind_none, Option.map_some, Option.map_none, ment, ments, menti, R.then, loose, isVar, ofSR, setAll, bindM, runFn, startM, List.map, List.length, List.replicate, List.append, Bool.not_true, Bool.not_false, e4, e5, e6, e7, e8, sm, D.imm, immT_lst, iq]
  have q0 : QOk ks (.ord .sort ns) := ⟨n1, n2, n3, n4⟩
  rcases ns with _ | ⟨x, _ | ⟨y, r⟩⟩
  · exact absurd rfl n1
  · obtain ⟨v6, S', e, h'⟩ := fin (.ord .sort [x]) S2 q0 h2
    refine ⟨_, _, _, v6, S', exs_two (n := 4) (tl := tl4) rfl ?_ e, h'⟩
    simp [b_law_L1, Sms.take, ev, evs, evAnd, evOr, evi, evc, evo, theB, R.bind, R.calm, opB, ofO, permD, Lit.d, Gc.d, bindT, bindR, wipeR, SR.seq, exs, ex, evM, evMB, evsM, seen_nil, seen_cons, freeze_nil, freeze_cons, Option.bind_some, Option.bind_none, Option.map_some, Option.map_none, ment, ments, menti, R.then, loose, isVar, ofSR, setAll, bindM, runFn, startM, List.map, List.length, List.replicate, List.append, Bool.not_true, Bool.not_false, e1, e2, e3, D.imm, immRs, immTT, opX_t1, of_lenT, oc_gtI, immL, immN, immT_lst, dQ, Kd.s]
  · obtain ⟨v, S3, e4, a4, b4, h3⟩ := sp_draw (P := Pg) (m := 19) (S := S2) (c := 2) h2 (by decide)
    have e4 : (callN Pg 20).call "_law_draw" [.src, .int 2] S2 = .ok (false, .int v) S3 := e4
    have hlt : (1 : Int) < (r.length : Int) + 1 + 1 := by omega
    by_cases hv : v = 0
    · have q1 : QOk ks (.cmp x y) := by
        refine ⟨by simp [Qy.ns], ?_, fun n hn => n3 n ?_, by simp [Qy.ns]⟩
        · have := (List.nodup_cons.mp n2).1
          simp only [Qy.ns, List.nodup_cons, List.mem_singleton, List.not_mem_nil, not_false_eq_true, List.nodup_nil, and_true]
          exact fun e => this (by rw [e]; exact List.mem_cons_self ..)
        · simp only [Qy.ns, List.mem_cons, List.not_mem_nil, or_false] at hn
          rcases hn with rfl | rfl <;> simp
      obtain ⟨v6, S', e, h'⟩ := fin (.cmp x y) S3 q1 h3
      have x0 : opX S3 (dNt (x :: y :: r)) (.int 0) = some (dN x) := opX_t0 ..
      have x1 : opX S3 (dNt (x :: y :: r)) (.int 1) = some (dN y) := opX_t1 ..
      refine ⟨_, _, _, v6, S', exs_two (n := 4) (tl := tl4) rfl ?_ e, h'⟩
      simp [b_law_L1, Sms.take, ev, evs, evAnd, evOr, evi, evc, evo, theB, R.bind, R.calm, opB, ofO, permD, Lit.d, Gc.d, bindT, bindR, wipeR, SR.seq, exs, ex, evM, evMB, evsM, seen_nil, seen_cons, freeze_nil, freeze_cons, Option.bind_some, Option.bind_none, Option.map_some, Option.map_none, ment, ments, menti, R.then, loose, isVar, ofSR, setAll, bindM, runFn, startM, List.map, List.length, List.replicate, List.append, Bool.not_true, Bool.not_false, e1, e2, e3, e4, hv, oc_eqI, D.imm, immRs, immTT, opX_t0, opX_t1, of_lenT, oc_gtI, immL, immN, immNs, immT_lst, hlt, dQ, x0, x1]
    · obtain ⟨v6, S', e, h'⟩ := fin (.ord .sort (x :: y :: r)) S3 q0 h3
      refine ⟨_, _, _, v6, S', exs_two (n := 4) (tl := tl4) rfl ?_ e, h'⟩
      simp [b_law_L1, Sms.take, ev, evs, evAnd, evOr, evi, evc, evo, theB, R.bind, R.calm, opB, ofO, permD, Lit.d, Gc.d, bindT, bindR, wipeR, SR.seq, exs, ex, evM, evMB, evsM, seen_nil, seen_cons, freeze_nil, freeze_cons, Option.bind_some, Option.bind_none, Option.map_some, Option.map_none, ment, ments, menti, R.then, loose, isVar, ofSR, setAll, bindM, runFn, startM, List.map, List.length, List.replicate, List.append, Bool.not_true, Bool.not_false, e1, e2, e3, e4, hv, oc_eqI, D.imm, immRs, immTT, opX_t0, opX_t1, of_lenT, oc_gtI, immL, immN, immNs, immT_lst, hlt, dQ, Kd.s]
theorem main : ∀ ns : List Int, ns.length ≤ 63 → ∃ o S', exs (callN (lt.t.prog (fun _ => none) 20000) 20) (xfOf lt.t.excs) 20000 lt.law.fn.body (memS lt.law.fn.ns lt.i) ⟨ns, 0, 0, 4711⟩ = .ret (o, .bl true) S' := by
  intro ns _
  obtain ⟨μ', S', e, ⟨u2, u3, u4, u5, u6, rfl⟩, h'⟩ := for_times (F := callN Pg 20) (XF := Pg.xf) (body := b_law_L1) (i := 2) (fun μ => ∃ u2 u3 u4 u5 u6, μ = [none, some (false, .src), u2, u3, u4, u5, u6]) (by
    rintro k μ S ⟨u2, u3, u4, u5, u6, rfl⟩ h
    obtain ⟨v3, v4, v5, v6, S', e, h'⟩ := turn h (.int k) u3 u4 u5 u6
    exact ⟨_, rfl, _, S', e, ⟨_, _, _, _, _, rfl⟩, h'⟩) 5 (μ := [none, some (false, .src), none, none, none, none, none]) ⟨_, _, _, _, _, rfl⟩ (SI0 ns)
  refine ⟨false, S', ?_⟩
  show exs (callN Pg 20) Pg.xf 20000 b_law [none, some (false, .src), none, none, none, none, none] ⟨ns, 0, 0, 4711⟩ = _
  have er : opR [.int 5] = some ((List.range 5).map fun i : Nat => D.int i) := or_rng (n := 5) (by decide)
  simp [b_law, ev, evs, evAnd, evOr, evi, evc, evo, theB, R.bind, R.calm, opB, ofO, permD, Lit.d, Gc.d, bindT, bindR, wipeR, SR.seq, exs, ex, evM, evMB, evsM, seen_nil, seen_cons, freeze_nil, freeze_cons, Option.bind_some, Option.bind_none, Option.map_some, Option.map_none, ment, ments, menti, R.then, loose, isVar, ofSR, setAll, bindM, runFn, startM, List.map, List.length, List.replicate, List.append, Bool.not_true, Bool.not_false, er, e, D.imm]
end K07

set_option maxHeartbeats 0
namespace K07
open PySem PySem.W PySem.Calls PyProof.Rows
abbrev RR : PySem.W.OpenRow := PySem.W.OpenLaw.row PySem.Challenge.rw_doubtwell_k07_certain_orders
def tf : List He.Defn := lt.t.lams.map fun x => (x, none)
abbrev hk : PySem.W.Hook := DW.hookY 5 lt.fa lt.fn tf lt.ex
def ob (s : PySem.W.SharedT) : He.AlX := DW.obsY 5 lt.fa lt.fn tf lt.ex (HandSHeadRun.getT s)
theorem ob_eq (s : PySem.W.SharedT) : ob s = hk.obs s.abs := DW.obsY_eq (HandSHeadRun.getT_eq s)
def lsn : List PySem.Str := (["QueryError", "InvalidFraction", "InvalidIntervals", "InvalidQuery", "gcd", "require_fraction", "less", "at_most", "negated", "CAPACITY", "LETTERS", "MAX_NAME_LENGTH", "is_name", "require_intervals", "by_name", "strictly_inside", "never_above", "is_separated", "mirrored", "MAX_QUERIES"] : List PySem.Str) ++ (["KINDS", "query_items", "is_query", "require_queries", "relevant", "certain_minimum", "all_separated", "certain_in", "is_certain", "all_certain", "_law_source", "_law_draw", "_law_choice", "_law_shuffled", "_law_same", "_law_gcd", "_law_reduced", "_law_less", "_law_at_most", "_law_inside"] : List PySem.Str) ++ (["_law_bound", "_law_interval", "_law_intervals", "_law_by_name", "_law_all_bounds", "_law_names", "_law_query", "_law_queries", "_law_items", "_law_never_above", "_law_separated", "_law_all_pairs", "_law_extremes", "_law_certain", "_law_all_certain"] : List PySem.Str)
theorem run (w : World) : HandSHeadRun.RunEq RR (PySem.W.view RR.prog [61]) hk ob 4000 lsn w := by
  intro os
  kernel_rfl
end K07

open PySem PySem.W PySem.Calls PyProof.Rows
theorem PySem.Challenge.cw_doubtwell_k07_certain_orders_holds : PySem.Challenge.rw_doubtwell_k07_certain_orders.Holds := by
  w_on; o_law
  refine HandSHeadRun.head_any (r := OpenLaw.row PySem.Challenge.rw_doubtwell_k07_certain_orders) (q := view (OpenLaw.row PySem.Challenge.rw_doubtwell_k07_certain_orders).prog [61]) (H := K07.hk) (ob := K07.ob) (M := 4000) (loose := K07.lsn) (d := HandSHeadRun.topDef (OpenLaw.row PySem.Challenge.rw_doubtwell_k07_certain_orders).prog 61) (kwd := []) K07.ob_eq
    (by kernel_rfl) (fun s => by kernel_rfl) K07.run (by kernel_rfl) (by kernel_rfl) (by kernel_rfl) (by rfl) (by first | assumption | decide +kernel) (by decide +kernel) ⟨rfl, rfl, rfl, rfl, rfl, by decide +kernel⟩ ?hw ?hc
  case hw => w_witness2
  case hc =>
    refine LamX.walk_ofTsE (l := PySem.Challenge.rw_doubtwell_k07_certain_orders) (n := 63) (k := DW.lev 21) (x := "_law_script") (CX := fun w => L2.CX PySem.Challenge.rw_doubtwell_k07_certain_orders.prog w) rfl (by decide) (by kernel_rfl) ⟨rfl, by decide, by decide⟩ ?F ?X
    case X =>
      intro w H s e s' z
      obtain ⟨_, _, _, _, _, _, _, _, _, _, _, _, z⟩ := z
      exact z
    case F =>
      intro w mg fa h Y G hmg
      obtain ⟨K, KX, c⟩ := Y
      exact ⟨K, KX, DW.law_at (L := K07.lt) (fuel := 20000) (n := 20) K07.lok K07.kbs KX G c hmg K07.main⟩

