import PyProof.Rows.All
import Wide.All
import OpenK.AllK
import Wide.FinOn
import HandS.ForMost
import HandS.ForExc
import HandS.SetTxt0
import HandS.Set
import HandS.SetFor
import HandS.Strs
import HandS.More
import PyProof.Rows.SortShellAny
import HandS.HeadHook1
import HandS.Dict
import PyProof.EqAt
import PyProof.EqKinds
import PyProof.NeKinds
import KE.LtSeq
import HandS.TupAny
import HandS.Style
import HandS.Flow
import HandS.TupMul
import HandS.IsInst
import HandS.CallSlots
import PyProof.ListRange
import HandS.NoneIn
import HandS.TryMany
import HandS.Zip
import HandS.Zip0
import HandS.ExcOwn
import HandS.ExcIs
import HandS.ExcInit
import HandS.ExcField
import KE.KExcIs
import KE.KExcInit
import HandS.Star
import HandS.Sort
import HandS.SortKw
import KE.DatumOrd
import HandS.Defaults
import HandS.Ends
import HandS.Words
import HandS.WordsExc
import HandS.Head0
import HandS.Head1
import HandS.Head2
import HandS.HeadEnd
import HandS.HeadHook2
import PySem.Challenge.RW_twofingers_k06_texts_by_hand_and_refused
set_option Elab.async false
set_option Elab.async false
set_option linter.all false
set_option maxRecDepth 100000
set_option maxHeartbeats 3200000
namespace Pv
open PySem L2 PySem.Spec PyProof.Rows
open PySem.Froz (tailTx addTx sObj SD TxOk add_x add_ok is_str get_upd)
/-! ### sets of texts -/
theorem tail_ris {ep : Nat} {es : Array (Int × Value)} {t : SetTable} {b : Bool} (r : Ris t.place.toList) : Ris (tailTx ep es t b).2.2.place.toList := by
  unfold tailTx
  split
  · exact relayAll_ris t es _
  · exact r
theorem tail_led {ep : Nat} {es : Array (Int × Value)} {t : SetTable} {b : Bool} : (tailTx ep es t b).2.2.led = t.led := by
  unfold tailTx
  split
  · exact relayAll_led t es _
  · rfl
theorem addTx_ris {hv : Int} {v : Value} {D : SD} (r : Ris D.2.2.place.toList) : Ris (addTx hv v D).2.2.place.toList := by
  unfold addTx
  refine tail_ris ?_
  have q := layNew_ris D.2.2 D.1 hv v r
  split <;> exact q
theorem addTx_led {hv : Int} {v : Value} {D : SD} : (addTx hv v D).2.2.led = D.2.2.led := by
  unfold addTx
  rw [tail_led]
  have q := layNew_led D.2.2 D.1 hv v
  split <;> exact q
structure StrR (P : Program) (w : World) (h : Heap) (a : Addr) (l : List PySem.Str) (D : SD) : Prop where
  at_ : h.get? a = some (sObj "set" D)
  ok : TxOk P w D l
  nd : l.Nodup
  ris : Ris D.2.2.place.toList
  led : w.params.followText "set-order" = true ∨ D.2.2.led = true
section
variable {P : Program} {w : World} {A : Around} {E : Value → Shared → Prop} {s : Shared}
theorem StrR.mv {h h' : Heap} {a : Addr} {l : List PySem.Str} {D : SD} (R : StrR P w h a l D) (k : ∀ o, h.get? a = some o → h'.get? a = some o) : StrR P w h' a l D := ⟨k _ R.at_, R.ok, R.nd, R.ris, R.led⟩
/-- a text that is there already -/
theorem old_x {a : Addr} {l : List PySem.Str} {D : SD} {k : PySem.Str} {u : Tok} {Q : Bool → Shared → Prop} (R : StrR P w s.heap a l D) (hk : k ∈ l) (hb : l.length < scanBound) (h : Q false s) : wpAny (model P w) A (setAddHashed a (.str k u) (hashStr w k)) Q E s := by
  have F := R.ok
  have ho := R.at_
  obtain ⟨es, ep, t⟩ := D
  have hel : ElemsOf (strKind P w) es.toList := F.el
  have hsz : es.size = l.length := F.sz
  have hy : (strKind P w).is k (.str k u) = true := is_str k u
  unfold setAddHashed setAddHashedIn
  refine wpAny_holding (wpAny_bind (wpAny_setState_of ho rfl F.fit ?_))
  dsimp only
  rw [byScan_of rfl (by rw [hsz]; exact hb) hel]
  simp only [↓reduceIte]
  unfold setAddByScan
  refine wpAny_bind (wpAny_bind (wpAny_rule (wpAny_bind (wpAny_setScan_of (knd := strKind P w) (k := k) hy ho rfl F.fit hel ?_))))
  cases hfi : List.findIdx? (fun e => (strKind P w).is k e.2) es.toList with
  | some j => exact wpAny_pure (wpAny_pure h)
  | none =>
    obtain ⟨e, he, q⟩ := (F.mem k).mp hk
    have c := List.findIdx?_eq_none_iff.mp hfi e he
    rw [q] at c
    cases c
theorem str_add {a : Addr} {l : List PySem.Str} {D : SD} {k : PySem.Str} {u : Tok} {Q : Bool → Shared → Prop} (R : StrR P w s.heap a l D) (hb : l.length + 1 < scanBound)
    (h : ∀ b h' l' D', Heap.SameBut a s.heap h' → StrR P w h' a l' D' → (∀ x, x ∈ l' ↔ x = k ∨ x ∈ l) → l'.length ≤ l.length + 1 → Q b { s with heap := h' }) : wpAny (model P w) A (setAddHashed a (.str k u) (hashStr w k)) Q E s := by
  by_cases hk : k ∈ l
  · exact old_x R hk (by omega) (h false s.heap l D (Heap.SameBut.refl a s.heap) R (fun x => ⟨.inr, fun z => z.elim (fun e => e ▸ hk) id⟩) (by omega))
  · refine add_x R.at_ R.ok hk hb (h true _ (k :: l) (addTx (hashStr w k) (.str k u) D) (Heap.SameBut.update s.heap a _) ⟨get_upd _ R.at_ rfl, add_ok u R.ok, List.nodup_cons.mpr ⟨hk, R.nd⟩, addTx_ris R.ris, ?_⟩ (fun x => List.mem_cons) (by simp))
    rw [addTx_led]; exact R.led
/-- set.update over texts -/
theorem str_loop {I : Addr} {fp wr : List Addr} {G : Array GenState → Array GenState → Prop} {n : Nat} {Vp : Nat → Value → Prop} {St : Nat → Shared → Prop} {R : Result → Shared → Prop}
    (W : WalksS P w A.in1 I fp wr G n Vp St) (S : Addr) (hS : S ∉ fp) (xs : List PySem.Str) (hx : xs.length = n) (hn : n + 1 < scanBound) (hv : ∀ i v, Vp i v → ∃ x u, xs[i]? = some x ∧ v = .str x u) :
    ∀ (k i : Nat) (s : Shared) (l : List PySem.Str) (D : SD), n - i = k → i ≤ n → St i s → StrR P w s.heap S l D → (∀ x, x ∈ l ↔ x ∈ xs.take i) → l.length ≤ i →
      (∀ s' l D, Moved (S :: wr) G s s' → StrR P w s'.heap S l D → (∀ x, x ∈ l ↔ x ∈ xs) → l.length ≤ n → R (.ok (.ret .none)) s') →
      codeAny (model P w) A (.builtin "set.update.loop" ⟨[.ref S, .ref I], []⟩) R s := by
  have nw : S ∉ wr := fun z => hS (W.sub _ z)
  have mor : ∀ b ∈ wr, b ∈ S :: wr := fun b z => List.mem_cons_of_mem _ z
  intro k
  induction k with
  | zero =>
    intro i s l D hk hi hst T hm hl hR
    have e : i = n := by omega
    subst e
    refine codeAny_builtin PyProof.Rows.F.entry_set_update_loop ?_
    rw [Around.under_plainId PyProof.Rows.F.plain_set_update_loop _]
    show wpAny _ A.in1 (pyNext (.ref I) >>= _) _ _ s
    refine wpAny_bind (W.done s _ _ hst fun s1 mv => ?_)
    show wpAny _ A.in1 (ret Value.none) _ _ s1
    refine wpAny_pure (hR s1 l D (mv.mono mor) (T.mv fun o z => mv.heap S o nw z) (fun x => ?_) hl)
    rw [hm x, ← hx, List.take_length]
  | succ k ih =>
    intro i s l D hk hi hst T hm hl hR
    have lt : i < n := by omega
    refine codeAny_builtin PyProof.Rows.F.entry_set_update_loop ?_
    rw [Around.under_plainId PyProof.Rows.F.plain_set_update_loop _]
    show wpAny _ A.in1 (pyNext (.ref I) >>= _) _ _ s
    refine wpAny_bind (W.item i s _ _ lt hst fun v s1 hp hst1 mv => ?_)
    obtain ⟨x, u, ex, rfl⟩ := hv i v hp
    have T1 : StrR P w s1.heap S l D := T.mv fun o z => mv.heap S o nw z
    show wpAny _ A.in1 (holding [Value.str x u] (setAdd S (.str x u)) >>= _) _ _ s1
    refine wpAny_bind (wpAny_holding ?_)
    unfold setAdd
    refine wpAny_holding (wpAny_bind ((strKind P w).pyHash (k := x) (is_str x u) ?_))
    refine str_add (s := { s1 with toks := s1.toks + 1 }) T1 (by omega) fun b h2 l2 D2 sb T2 hm2 hl2 => ?_
    refine wpAny_pure ⟨plainId_quiet PyProof.Rows.F.plain_set_update_loop _, ih (i + 1) _ l2 D2 (by omega) lt (W.frame _ s1 _ _ hst1 (Nat.le_succ _) fun c hc o z => ?_) T2 (fun y => ?_) (by omega) fun s2 l3 D3 mv2 T3 hm3 hl3 => ?_⟩
    · rw [sb.2 c (fun q : c = S => hS (by rw [← q]; exact hc))]; exact z
    · rw [hm2 y, hm y, List.take_succ, ex]
      simp only [Option.toList_some, List.mem_append, List.mem_singleton]
      exact Or.comm
    · refine hR s2 l3 D3 (Moved.trans W.gtrans ((mv.mono mor).then_heap (Nat.le_succ _) fun c o hc z => ?_) mv2) T3 hm3 hl3
      rw [sb.2 c (fun q : c = S => hc (by rw [q]; exact List.mem_cons_self))]; exact z
theorem led0 (w : World) : w.params.followText "set-order" = true ∨ (!w.params.followText "set-order") = true := by
  cases w.params.followText "set-order"
  · exact .inr rfl
  · exact .inl rfl
theorem str_nth : ∀ {us : List Value} {xs : List PySem.Str}, StrsAre us xs → ∀ {i : Nat} {v : Value}, us[i]? = some v → ∃ x u, xs[i]? = some x ∧ v = .str x u
  | _, _, .nil, i, v, h => by simp at h
  | _, _, .cons n t hr, 0, v, h => by simp at h; exact ⟨n, t, rfl, h.symm⟩
  | _, _, .cons n t hr, i + 1, v, h => by
    simp only [List.getElem?_cons_succ] at h ⊢
    exact str_nth hr h

def e0 (w : World) : Obj := { cls := .type "set", dict := none, data := .set #[] 0 (.fresh 0 0 (!w.params.followText "set-order")) }

/-- what set.update does with the items -/
abbrev LoopOk (P : Program) (w : World) (S : Addr) (items : Array Value) (Z : Heap → Prop) : Prop := ∀ (A : Around) (I : Addr) (fp wr : List Addr) (G : Array GenState → Array GenState → Prop) (St : Nat → Shared → Prop) (R : Result → Shared → Prop)
  (_ : WalksS P w A.in1 I fp wr G items.size (fun i v => items[i]? = some v) St), S ∉ fp → ∀ s1, St 0 s1 → s1.heap.get? S = some (e0 w) → (∀ s', Moved (S :: wr) G s1 s' → Z s'.heap → R (.ok (.ret .none)) s') →
  codeAny (model P w) A (.builtin "set.update.loop" ⟨[.ref S, .ref I], []⟩) R s1
set_option maxRecDepth 100000 in
theorem call_setLg {l : Addr} {items : Array Value} {Z : Heap → Prop} {Q : Value → Shared → Prop} (hh : A.handled = none) (hl : s.heap.IsList l items) (loop : LoopOk P w s.heap.objs.size items Z)
    (h : ∀ (h' : Heap) (tk : Nat), Z h' → (∀ b o, s.heap.get? b = some o → h'.get? b = some o) → Q (.ref s.heap.objs.size) { s with heap := h', toks := tk }) :
    wpAny (model P w) A (call (.type "set") [.ref l]) Q E s := by
  obtain ⟨c, tl, hmro⟩ := PySem.F.called_set.mro
  have b1 := PySem.F.called_set.made
  have b2 := PySem.F.called_set.sub
  refine wpAny_call (codeAny_of_tree ?_)
  show wpAny _ _ (callAny (.type "set") _) _ _ _
  refine wpAny_pure ⟨Code.quiet_builtin _ (by decide +kernel), codeAny_builtin PySem.F.entry_type_call ?_⟩
  rw [Around.under_plain (weight_type_call_type "set" [.ref l] []) rfl]
  have b3 := PySem.F.called_set.notType
  have b4 := PySem.F.called_set.canCreate
  have b5 := PySem.F.typeCall_set_1 (.ref l)
  repeat (any_goals (first | assumption | wp_step))
  refine codeAny_mono (code_set_led1 (.ref l) (E := E) (Q₁ := fun v t => v = .ref s.heap.objs.size ∧ t = { s with heap := s.heap.push (e0 w) }) ⟨rfl, rfl⟩) fun r s1 hr => ?_
  cases r with
  | error e => exact hr
  | ok fl =>
    cases fl with
    | ret obj =>
      obtain ⟨rfl, rfl⟩ := hr
      have z0 : (s.heap.push (e0 w)).objs.size = s.heap.objs.size + 1 := Heap.size_push ..
      have hS : (s.heap.push (e0 w)).get? s.heap.objs.size = some (e0 w) := Heap.get?_push_size _ rfl
      have hT : Shared.TypeIs { s with heap := s.heap.push (e0 w) } (.ref s.heap.objs.size) "set" := ⟨_, hS, rfl⟩
      have c1 := PySem.F.called_set.init.lookup
      have c2 := PySem.F.called_set.init.bind (.ref s.heap.objs.size)
      repeat (any_goals (first | assumption | wp_step))
      refine codeAny_mono (codeAny_call_builtin (R := wants (fun r s2 => r = .none ∧ ∃ h' tk, s2 = { s with heap := h', toks := tk } ∧ Z h' ∧
          ∀ b o, s.heap.get? b = some o → h'.get? b = some o) E) PySem.F.called_set.init.plain PySem.F.entry_set_init (check_set_init_1 hT ?_)) fun r2 s2 hr2 => ?_
      · obtain ⟨⟨ocls, odict, odata, oslots⟩, hol, hcl, nl, hdl⟩ := hl
        simp only at hcl hdl
        subst hcl; subst hdl
        have o1 : (s.heap.push (e0 w)).get? l = some { cls := .type "list", dict := odict, data := .seq items nl, slots := oslots } := Heap.get?_push_of_some _ hol
        have d1 := PySem.F.sub_list_set
        have d2 := PySem.F.sub_list_frozenset
        have d3 : (Value.type "list" == Value.type "dict") = false := by decide
        have hl1 : (s.heap.push (e0 w)).IsList l items := ⟨_, o1, rfl, nl, rfl⟩
        unfold Builtin.«set.__init__» noKeywords Builtin.Frozenset.updateFrom
        generalize hPI : pyIter = PI
        wp_walk
        subst hPI
        refine wpAny_pyIter_list hl1 (wpAny_bind (wpAny_runValue ?_))
        have lS : l < s.heap.objs.size := Heap.lt_size hol
        have h3 : A.in1.in1.in1.handled = none := by simp [hh]
        have ne1 : l ≠ (s.heap.push (e0 w)).objs.size := Nat.ne_of_lt (by rw [z0]; exact Nat.lt_succ_of_lt lS)
        have ne2 : s.heap.objs.size ∉ [(s.heap.push (e0 w)).objs.size, l] := by
          simp only [List.mem_cons, List.not_mem_nil, or_false, not_or]
          exact ⟨by rw [z0]; exact Nat.ne_of_lt (Nat.lt_succ_self _), Nat.ne_of_gt lS⟩
        refine loop _ _ _ _ _ _ _ ((Walks.list h3 _ l ne1 items).toS) ne2 _ ⟨⟨_, Heap.get?_push_size _ rfl, rfl, rfl⟩, (hl1.push _)⟩ (Heap.get?_push_of_some _ hS) fun s3 mv T => ?_
        obtain ⟨h', g', d', tk', os'⟩ := s3
        have eg : g' = s.gens := mv.gens
        have ed : d' = s.drawn := mv.drawn
        have eo : os' = s.os := mv.os
        subst eg; subst ed; subst eo
        show wpAny _ _ _ _ _ _
        refine wpAny_pure ?_
        show wpAny _ _ (ret Value.none) _ _ _
        refine wpAny_pure ⟨rfl, h', tk', rfl, T, fun b o q => ?_⟩
        have lb := Heap.lt_size q
        exact mv.heap b o (by simp only [List.mem_cons, List.not_mem_nil, or_false, not_or]; exact ⟨Nat.ne_of_lt lb, by rw [z0]; exact Nat.ne_of_lt (Nat.lt_succ_of_lt lb)⟩) (Heap.get?_push_of_some _ (Heap.get?_push_of_some _ q))
      · cases r2 with
        | error e => exact hr2
        | ok fl2 =>
          cases fl2 with
          | ret r =>
            obtain ⟨rfl, h', tk, rfl, T, hk⟩ := hr2
            repeat (any_goals (first | assumption | wp_step))
            exact h _ _ T hk
          | _ => exact hr2.elim
    | _ => exact hr.elim

set_option maxRecDepth 100000 in
theorem call_setTg {l : Addr} {items : Array Value} {Z : Heap → Prop} {Q : Value → Shared → Prop} (hh : A.handled = none) (hl : s.heap.IsTuple l items) (loop : LoopOk P w s.heap.objs.size items Z)
    (h : ∀ (h' : Heap) (tk : Nat), Z h' → (∀ b o, s.heap.get? b = some o → h'.get? b = some o) → Q (.ref s.heap.objs.size) { s with heap := h', toks := tk }) :
    wpAny (model P w) A (call (.type "set") [.ref l]) Q E s := by
  obtain ⟨c, tl, hmro⟩ := PySem.F.called_set.mro
  have b1 := PySem.F.called_set.made
  have b2 := PySem.F.called_set.sub
  refine wpAny_call (codeAny_of_tree ?_)
  show wpAny _ _ (callAny (.type "set") _) _ _ _
  refine wpAny_pure ⟨Code.quiet_builtin _ (by decide +kernel), codeAny_builtin PySem.F.entry_type_call ?_⟩
  rw [Around.under_plain (weight_type_call_type "set" [.ref l] []) rfl]
  have b3 := PySem.F.called_set.notType
  have b4 := PySem.F.called_set.canCreate
  have b5 := PySem.F.typeCall_set_1 (.ref l)
  repeat (any_goals (first | assumption | wp_step))
  refine codeAny_mono (code_set_led1 (.ref l) (E := E) (Q₁ := fun v t => v = .ref s.heap.objs.size ∧ t = { s with heap := s.heap.push (e0 w) }) ⟨rfl, rfl⟩) fun r s1 hr => ?_
  cases r with
  | error e => exact hr
  | ok fl =>
    cases fl with
    | ret obj =>
      obtain ⟨rfl, rfl⟩ := hr
      have z0 : (s.heap.push (e0 w)).objs.size = s.heap.objs.size + 1 := Heap.size_push ..
      have hS : (s.heap.push (e0 w)).get? s.heap.objs.size = some (e0 w) := Heap.get?_push_size _ rfl
      have hT : Shared.TypeIs { s with heap := s.heap.push (e0 w) } (.ref s.heap.objs.size) "set" := ⟨_, hS, rfl⟩
      have c1 := PySem.F.called_set.init.lookup
      have c2 := PySem.F.called_set.init.bind (.ref s.heap.objs.size)
      repeat (any_goals (first | assumption | wp_step))
      refine codeAny_mono (codeAny_call_builtin (R := wants (fun r s2 => r = .none ∧ ∃ h' tk, s2 = { s with heap := h', toks := tk } ∧ Z h' ∧
          ∀ b o, s.heap.get? b = some o → h'.get? b = some o) E) PySem.F.called_set.init.plain PySem.F.entry_set_init (check_set_init_1 hT ?_)) fun r2 s2 hr2 => ?_
      · obtain ⟨⟨ocls, odict, odata, oslots⟩, hol, hcl, nl, hdl⟩ := hl
        simp only at hcl hdl
        subst hcl; subst hdl
        have o1 : (s.heap.push (e0 w)).get? l = some { cls := .type "tuple", dict := odict, data := .seq items nl, slots := oslots } := Heap.get?_push_of_some _ hol
        have d1 := PySem.F.sub_tuple_set
        have d2 := PySem.F.sub_tuple_frozenset
        have d3 : (Value.type "tuple" == Value.type "dict") = false := by decide
        have hl1 : (s.heap.push (e0 w)).IsTuple l items := ⟨_, o1, rfl, nl, rfl⟩
        unfold Builtin.«set.__init__» noKeywords Builtin.Frozenset.updateFrom
        generalize hPI : pyIter = PI
        wp_walk
        subst hPI
        refine wpAny_pyIter_tuple hl1 (wpAny_bind (wpAny_runValue ?_))
        have lS : l < s.heap.objs.size := Heap.lt_size hol
        have h3 : A.in1.in1.in1.handled = none := by simp [hh]
        have ne1 : l ≠ (s.heap.push (e0 w)).objs.size := Nat.ne_of_lt (by rw [z0]; exact Nat.lt_succ_of_lt lS)
        have ne2 : s.heap.objs.size ∉ [(s.heap.push (e0 w)).objs.size, l] := by
          simp only [List.mem_cons, List.not_mem_nil, or_false, not_or]
          exact ⟨by rw [z0]; exact Nat.ne_of_lt (Nat.lt_succ_self _), Nat.ne_of_gt lS⟩
        refine loop _ _ _ _ _ _ _ ((Walks.tuple h3 _ l ne1 items).toS) ne2 _ ⟨⟨_, Heap.get?_push_size _ rfl, rfl, rfl⟩, (hl1.push _)⟩ (Heap.get?_push_of_some _ hS) fun s3 mv T => ?_
        obtain ⟨h', g', d', tk', os'⟩ := s3
        have eg : g' = s.gens := mv.gens
        have ed : d' = s.drawn := mv.drawn
        have eo : os' = s.os := mv.os
        subst eg; subst ed; subst eo
        show wpAny _ _ _ _ _ _
        refine wpAny_pure ?_
        show wpAny _ _ (ret Value.none) _ _ _
        refine wpAny_pure ⟨rfl, h', tk', rfl, T, fun b o q => ?_⟩
        have lb := Heap.lt_size q
        exact mv.heap b o (by simp only [List.mem_cons, List.not_mem_nil, or_false, not_or]; exact ⟨Nat.ne_of_lt lb, by rw [z0]; exact Nat.ne_of_lt (Nat.lt_succ_of_lt lb)⟩) (Heap.get?_push_of_some _ (Heap.get?_push_of_some _ q))
      · cases r2 with
        | error e => exact hr2
        | ok fl2 =>
          cases fl2 with
          | ret r =>
            obtain ⟨rfl, h', tk, rfl, T, hk⟩ := hr2
            repeat (any_goals (first | assumption | wp_step))
            exact h _ _ T hk
          | _ => exact hr2.elim
    | _ => exact hr.elim
theorem loop_strs {S : Addr} {items : Array Value} {xs : List PySem.Str} (hi : StrsAre items.toList xs) (hb : xs.length + 1 < scanBound) : LoopOk P w S items fun h => ∃ l D, StrR P w h S l D ∧ (∀ x, x ∈ l ↔ x ∈ xs) ∧ l.length ≤ xs.length := fun A I fp wr G St R W hS s1 st e hR => by
  have hsz : xs.length = items.size := by rw [← StrsAre.len_eq hi, Array.length_toList]
  have hv : ∀ (i : Nat) (v : Value), items[i]? = some v → ∃ x u, xs[i]? = some x ∧ v = .str x u := fun i v q => str_nth hi (by rw [Array.getElem?_toList]; exact q)
  exact str_loop W S hS xs hsz (by rw [← hsz]; exact hb) hv (items.size - 0) 0 s1 [] (#[], 0, .fresh 0 0 (!w.params.followText "set-order")) (by omega) (Nat.zero_le _) st ⟨e, TxOk.nil rfl, List.nodup_nil, List.Pairwise.nil, led0 w⟩ (fun x => by simp) (Nat.le_refl _)
    fun s2 l D mv T m n => hR s2 mv ⟨l, D, T, m, by rw [hsz]; exact n⟩
theorem loop_ints {S : Addr} {items : Array Value} {ns : List Int} (hi : IntsAre items.toList ns) (hb : ns.length + 1 < scanBound) : LoopOk P w S items fun h => ∃ c, c ≤ ns.length ∧ SetR w h S (fun j => decide (j ∈ ns)) c := fun A I fp wr G St R W hS s1 st e hR => by
  have hsz : items.size = ns.length := by
    have q := IntsAre.length hi
    rw [Array.length_toList] at q
    exact q
  refine set_update_ints W S hS ns hsz hb (fun i v q => ?_) (items.size - 0) 0 s1 (by omega) (Nat.zero_le _) st ⟨0, Nat.le_refl 0, setR_new_at e⟩ fun s2 c mv n T => hR s2 mv ⟨c, by rw [← hsz]; exact n, T⟩
  have hl : i < ns.length := by rw [← hsz]; exact (Array.getElem?_eq_some_iff.mp q).1
  obtain ⟨t, e⟩ := PyProof.Rows.IntsAre.int_at hi i v (by rw [Array.getElem?_toList]; exact q)
  exact ⟨ns[i], t, List.getElem?_eq_getElem hl, by rw [e, List.getD_eq_getElem?_getD, List.getElem?_eq_getElem hl]; rfl⟩

end
end Pv
set_option Elab.async false
set_option linter.all false
set_option maxRecDepth 100000
set_option maxHeartbeats 3200000
namespace Pv
open PySem L2 PySem.Spec PyProof.Rows
open PySem.Froz (tailTx addTx sObj SD TxOk add_x add_ok is_str get_upd)
theorem perm_few {α : Type} [BEq α] [LawfulBEq α] : ∀ {l zs : List α}, l.Nodup → (∀ x ∈ l, x ∈ zs) → zs.length = l.length → zs.Perm l
  | [], zs, _, _, h => by rw [List.length_nil, List.length_eq_zero_iff] at h; rw [h]
  | x :: l, zs, nd, sub, h => by
    obtain ⟨n1, n2⟩ := List.nodup_cons.mp nd
    have hx : x ∈ zs := sub x List.mem_cons_self
    have p1 : zs.Perm (x :: zs.erase x) := List.perm_cons_erase hx
    have ih : (zs.erase x).Perm l := perm_few n2 (fun y hy => by
      have ne : y ≠ x := fun e => n1 (e ▸ hy)
      exact (List.mem_erase_of_ne ne).mpr (sub y (List.mem_cons_of_mem _ hy))) (by
      have := p1.length_eq
      rw [List.length_cons] at this
      rw [List.length_cons] at h
      omega)
    exact p1.trans (List.Perm.cons x ih)
def txt : Value → PySem.Str
  | .str x _ => x
  | _ => PySem.Str.empty
theorem strs_txt : ∀ {us : List Value}, (∀ v ∈ us, ∃ x t, v = .str x t) → StrsAre us (us.map txt)
  | [], _ => .nil
  | u :: us, h => by
    obtain ⟨x, t, rfl⟩ := h u List.mem_cons_self
    exact .cons x t (strs_txt fun v hv => h v (List.mem_cons_of_mem _ hv))
section
variable {P : Program} {w : World} {A : Around} {E : Value → Shared → Prop} {s : Shared}
theorem sorted_strR {a : Addr} {l : List PySem.Str} {D : SD} {Q : Value → Shared → Prop} (R : StrR P w s.heap a l D) (hh : A.handled = none) (hb : l.length < scanBound)
    (hQ : ∀ s' p (out : Array Value) (c : Nat) (ys : List PySem.Str), (∀ b o, s.heap.get? b = some o → s'.heap.get? b = some o) → s'.gens = s.gens → s'.os = s.os → s.heap.objs.size ≤ p →
      s'.heap.get? p = some (seqObj "list" out c) → StrsAre out.toList ys → ys.Perm l → sortedS ys = true → Q (.ref p) s') :
    wpAny (model P w) A (call (.builtin "sorted") [.ref a]) Q E s := by
  have F := R.ok
  have ho := R.at_
  have hr := R.ris
  have hl := R.led
  obtain ⟨es, ep, t⟩ := D
  have hsz : es.size = l.length := F.sz
  have el : ElemsOf (strKind P w) es.toList := F.el
  refine Calls.call_function_entry kind_sorted plain_sorted entry_sorted (args_sorted1 _) ?_
  unfold Builtin.«sorted»
  refine wpAny_bind (m := checkCount "sorted" 1 1 _) (wpAny_pure ?_)
  refine wpAny_bind (collect_set (A := A.in1) hh ⟨_, ho, rfl, rfl⟩ F.fit (by rw [hsz]; exact hb) hr hl fun s1 vs k1 hz g1 o1 pm => ?_)
  have vl : vs.length = l.length := by rw [pm.length_eq, List.length_map, Array.length_toList]; exact hsz
  have each : ∀ v ∈ vs, ∃ x u, v = Value.str x u := fun v hv => by
    obtain ⟨e, he, q⟩ := List.mem_map.mp (pm.mem_iff.mp hv)
    obtain ⟨⟨x, hx, _⟩, _⟩ := el e he
    obtain ⟨u, eu⟩ := Value.isStrOf_shape (x := x) (v := e.2) hx
    exact ⟨x, u, by rw [← q]; exact eu⟩
  have hS := strs_txt each
  have pl : (vs.map txt).Perm l := perm_few R.nd (fun x hx => by
    obtain ⟨e, he, q⟩ := (F.mem x).mp hx
    obtain ⟨u, eu⟩ := Value.isStrOf_shape (x := x) (v := e.2) q
    exact List.mem_map.mpr ⟨e.2, pm.mem_iff.mpr (List.mem_map.mpr ⟨e, he, rfl⟩), by rw [eu]; rfl⟩) (by rw [List.length_map]; exact vl)
  have small : vs.length ≤ sizeLine := by
    rw [vl, sizeLine_eq]
    unfold scanBound at hb
    omega
  refine wpAny_bind (wpAny_newList ?_ small)
  have hoL : (s1.heap.push (seqObj "list" vs.toArray 0)).get? s1.heap.objs.size = some (seqObj "list" vs.toArray 0) := Heap.get?_push_size _ rfl
  refine wpAny_bind (wpAny_holding (wpAny_call_entry slot_list_sort ⟨_, hoL, rfl⟩ entry_list_sort
    (list_sort_treeKAny strKind_oneLt (s := { s1 with heap := s1.heap.push (seqObj "list" vs.toArray 0) }) hoL hS.keysOf (fun v₁ v₂ rest e => keyKind_strs (ss := vs.map txt) (by rw [← e]; exact hS)) small fun st hp hs => ⟨_, rfl, ?_⟩) (args_list_sort _)))
  obtain ⟨ys, q1, q2, q3⟩ := sorted_out_str hS hp hs
  obtain ⟨c, hc⟩ := sortedHeap_at (vs := vs) (out := (arrOf st).map (·.2)) hoL
  refine wpAny_pure ⟨_, rfl, hQ _ s1.heap.objs.size ((arrOf st).map (·.2)) c ys (fun b u e => ?_) g1 o1 hz hc q1 (q2.trans pl) q3⟩
  have lt := Heap.lt_size (k1 b u e)
  show (sortedHeap _ s1.heap.objs.size vs _).get? b = some u
  rw [sortedHeap_old (Nat.ne_of_lt lt) (by rw [size_push']; exact Nat.lt_succ_of_lt lt)]
  exact Heap.get?_push_of_some _ (k1 b u e)
end
end Pv
set_option linter.all false
namespace Pv

/-- plain data: no heap is needed to read it -/
inductive G where
  | non | bl (b : Bool) | int (i : Int) | str (n : Nat) | tup (gs : List G) | lst (gs : List G) | rng (lo hi : Int) | set (xs : List Int)
  deriving Repr, Inhabited
/-- values -/
inductive D where
  | g (x : G) | ref (a : Nat) | mix (isL : Bool) (ds : List D) | bm (a c m : Nat)
  deriving Repr, Inhabited
inductive O where
  | lst (ds : List D) | dic (kvs : List (G × D)) | lck (kvs : List (G × D)) | ins (c : Nat) (fs : List (Nat × D))
  deriving Repr, Inhabited

abbrev St := List (Option D)
abbrev Hp := List O

inductive It where
  | seq (ds : List D) | live (a i : Nat) | enu (n : Nat) (j : It) | zip (j k : It) | zip3 (j k l : It)
  deriving Repr, Inhabited

inductive Out where
  | val (d : D) (h : Hp) | vls (ds : List D) (h : Hp) | itr (j : It) (u : Option Nat) (h : Hp)
  | nxt (s : St) (h : Hp) | brk (s : St) (h : Hp) | cnt (s : St) (h : Hp) | ret (d : D) (h : Hp)
  | exc (c : Nat) (ds : List D) (s : St) (h : Hp) | bad (why : Nat)
  deriving Repr, Inhabited

inductive Op where
  | add | sub | mul | fdiv | mod | pow | shl | shr | band | bor
  deriving Repr, DecidableEq
inductive Cm where
  | eq | ne | lt | le | gt | ge | isin | notin | isn | isnt
  deriving Repr, DecidableEq
inductive Bf where
  | len | list | tuple | sum | all | any | abs | int | str | max | min | max0 | sorted | sortrev | mkset | sos | sset | lset | sunion | sxor
  deriving Repr, DecidableEq
inductive Ms where
  | append | extend | pop | popi | index | get1 | get2 | setd | upd | join | split | items | values | replace
  deriving Repr, DecidableEq
inductive Ty where
  | int | bool | str | list | tuple | cls (c : Nat) | exv | exl
  deriving Repr, DecidableEq

inductive T where
  -- expressions
  | var (i : Nat) | con (d : G) | glo (g : Nat) | una (neg : Bool) (a : T) | bin (op : Op) (a b : T) | cmp (op : Cm) (a b : T) | chn (o1 o2 : Cm) (a b c : T)
  | and (a b : T) | or (a b : T) | ife (c a b : T) | sub (a i : T) | sli (a lo hi : T) | slr (a : T) | sls (a lo hi st : T) | fld (a : T) (f : Nat)
  | tup (as : T) | lst (as : T) | nil | cns (a r : T) | sta (a r : T) | box (a : T) | rg (as : T) | rgl (a b c : T)
  | app (f : Nat) (as : T) | apk (f : Nat) (perm : List Nat) (as : T) | met (a : T) (m : Nat) (as : T) | new (c : Nat) (as : T) | clv (i : Nat) (as : T) | bmv (a : T) (m : Nat)
  | blt (b : Bf) (as : T) | mkd (a : T) | srk (xs : T) (i : Nat) (body : T) | mtd (a : T) (m : Ms) (as : T) | isa (a : T) (tys : List Ty) | exi (i : Nat) (tys : List Ty) | exf (i : Nat)
  | cpr (elt tgt it : T) (ifs : T) (own : List Nat) | cp2 (elt t0 i0 f0 t1 i1 f1 : T) (own own1 : List Nat) | dic (as : T) | dcp (k v tgt it ifs : T) (own : List Nat)
  -- iterators
  | itx (a : T) | itr1 (a : T) | itr2 (a b : T) | itr3 (a b c : T) | ite (a : T) | itz (a b : T) | itz3 (a b c : T) | iti (a : T) | itv (a : T)
  -- targets
  | tn (i : Nat) | tt (ts : T) | ts (a i : T) | tf (a : T) (f : Nat)
  -- statements
  | asg (t e : T) | ssr (i : Nat) (e : T) | xpr (e : T) | ret (e : T) | iff (c a b : T) | whl (c b : T) | fre (t it b : T) | rai (c : Nat) (as : T) | try_ (b hs : T) | hnd (cs : List Nat) (i : Option Nat) (b : T) (r : T) | pas | brk | cnt
  deriving Repr, Inhabited

/-! ### strings: bijective numeration in base 1114112 -/
def B : Nat := 1114112
def decF : Nat → Nat → List Nat → List Nat
  | 0, _, acc => acc
  | f + 1, n, acc => if n == 0 then acc else decF f ((n - 1) / B) ((n - 1) % B :: acc)
def dec (n : Nat) : List Nat := decF (n.log2 + 1) n []
def enc (l : List Nat) : Nat := l.foldl (fun n c => n * B + (c + 1)) 0

/-- the number of signs -/
def lenF : Nat → Nat → Nat → Nat
  | 0, _, k => k
  | f + 1, n, k => if n == 0 then k else lenF f ((n - 1) / B) (k + 1)
def lenS (n : Nat) : Nat := lenF (n.log2 + 1) n 0
def ones (k : Nat) : Nat := (B ^ k - 1) / 1114111
/-- all but the last k signs -/
def preS (n k : Nat) : Nat := (n - ones k) / B ^ k
def chrS (n i : Nat) : Option Nat := match Nat.blt i (lenS n) with | true => some ((preS n (lenS n - 1 - i) - 1) % B) | false => none
def cutN (n lo hi : Nat) : Nat := match Nat.blt lo hi with | true => preS n (lenS n - hi) - preS n (lenS n - lo) * B ^ (hi - lo) | false => 0
def omap {α β} (f : α → β) : Option α → Option β | some x => some (f x) | none => none
/-! ### equality and order -/
def b2i : Bool → Int | true => 1 | false => 0
/-- all places looked at (none: too deep, or ranges) -/
def eqZ (f : G → G → Option Bool) : List G → List G → Option Bool
  | x :: r, y :: t => (match f x y, eqZ f r t with | some a, some b => some (a && b) | _, _ => none)
  | _, _ => some true
def eqN : Nat → G → G → Option Bool
  | 0, _, _ => none
  | n + 1, a, b => match a, b with
    | .non, .non => some true
    | .bl a, .bl b => some (a == b)
    | .bl a, .int b => some (b2i a == b)
    | .int a, .bl b => some (a == b2i b)
    | .int a, .int b => some (a == b)
    | .str a, .str b => some (a == b)
    | .tup xs, .tup ys => (match eqZ (eqN n) xs ys with | some b => some (b && xs.length == ys.length) | none => none)
    | .lst xs, .lst ys => if xs.length == ys.length then eqZ (eqN n) xs ys else some false
    | .rng _ _, _ => none
    | .set _, _ => none
    | _, .rng _ _ => none
    | _, .set _ => none
    | _, _ => some false
def DEEP : Nat := 150
def eqG (a b : G) : Option Bool := eqN DEEP a b
def ltL : List Nat → List Nat → Bool
  | [], [] => false
  | [], _ => true
  | _, [] => false
  | a :: r, b :: t => if a == b then ltL r t else Nat.blt a b
def ltZ (eq lt : G → G → Option Bool) : List G → List G → Option Bool
  | [], [] => some false
  | [], _ :: _ => some true
  | _ :: _, [] => some false
  | x :: r, y :: t => (match eq x y with | some true => ltZ eq lt r t | some false => lt x y | none => none)
def ltN : Nat → G → G → Option Bool
  | 0, _, _ => none
  | n + 1, a, b => match a, b with
    | .int i, .int j => some (decide (i < j))
    | .bl a, .bl b => some (!a && b)
    | .str a, .str b => some (ltL (dec a) (dec b))
    | .tup xs, .tup ys => ltZ (eqN n) (ltN n) xs ys
    | _, _ => none
def ltG (a b : G) : Option Bool := ltN DEEP a b
def unG : D → Option G | .g x => some x | _ => none
def unGs : List D → Option (List G)
  | [] => some []
  | .g x :: r => (match unGs r with | some t => some (x :: t) | none => none)
  | _ :: _ => none
/-- plain, read through one box -/
def rd (h : Hp) (d : D) : Option G := match d with
  | .g x => some x
  | .ref a => (match h[a]? with | some (.lst ds) => (unGs ds).map .lst | _ => none)
  | _ => none
def eqD (h : Hp) (a b : D) : Option Bool := match rd h a, rd h b with | some x, some y => eqG x y | _, _ => none
def ltD (h : Hp) (a b : D) : Option Bool := match rd h a, rd h b with | some x, some y => ltG x y | _, _ => none
def memG (x : G) : List G → Option Bool
  | [] => some false
  | y :: r => (match eqG y x, memG x r with | some a, some b => some (a || b) | _, _ => none)
def idxD (h : Hp) (x : D) : List D → Nat → Option (Option Nat)
  | [], _ => some none
  | y :: r, i => match eqD h y x with | some true => some (some i) | some false => idxD h x r (i + 1) | none => none
def insG (lt : G → G → Option Bool) (x : G) : List G → Option (List G)
  | [] => some [x]
  | y :: r => match lt y x with
    | some true => (match insG lt x r with | some t => some (y :: t) | none => none)
    | some false => some (x :: y :: r)
    | none => none
def sortG (lt : G → G → Option Bool) : List G → Option (List G)
  | [] => some []
  | x :: r => match sortG lt r with | some t => insG lt x t | none => none
def dedup : List G → List G → Option (List G)
  | [], acc => some acc.reverse
  | x :: r, acc => (match memG x acc with | some true => dedup r acc | some false => dedup r (x :: acc) | none => none)

/-! ### dicts -/
/-- keys: ints and texts -/
def keyOk : G → Bool
  | .int _ => true
  | .str _ => true
  | _ => false
def eqK : G → G → Bool
  | .int a, .int b => a == b
  | .str a, .str b => a == b
  | _, _ => false
def getK0 (k : G) : List (G × D) → Option D
  | [] => none
  | (k', v) :: r => match eqK k' k with | true => some v | false => getK0 k r
def repK (k : G) (v : D) : List (G × D) → List (G × D)
  | [] => []
  | (k', v') :: r => match eqK k' k with | true => (k', v) :: repK k v r | false => (k', v') :: repK k v r
def putK0 (k : G) (v : D) (kvs : List (G × D)) : List (G × D) := match getK0 k kvs with | some _ => repK k v kvs | none => kvs ++ [(k, v)]
def getK (k : G) (kvs : List (G × D)) : Option (Option D) := match keyOk k with | true => some (getK0 k kvs) | false => none
def putK (k : G) (v : D) (kvs : List (G × D)) : Option (List (G × D)) := match keyOk k with | true => some (putK0 k v kvs) | false => none
def delK (k : G) : List (G × D) → Option (List (G × D))
  | [] => some []
  | (k', v') :: r => (match eqG k' k with | some true => some r | some false => (match delK k r with | some t => some ((k', v') :: t) | none => none) | none => none)
def putAll : List (G × D) → List (G × D) → Option (List (G × D))
  | acc, [] => some acc
  | acc, (k, v) :: r => (match putK k v acc with | some acc => putAll acc r | none => none)

/-! ### truth, sequences -/
def mkTup (ds : List D) : D := match unGs ds with | some gs => .g (.tup gs) | none => .mix false ds
def mkLst (ds : List D) : D := match unGs ds with | some gs => .g (.lst gs) | none => .mix true ds
def seqOf (h : Hp) (d : D) : Option (List D) := match d with
  | .g (.tup gs) => some (gs.map .g) | .g (.lst gs) => some (gs.map .g)
  | .mix _ ds => some ds
  | .ref a => (match h[a]? with | some (.lst ds) => some ds | _ => none)
  | _ => none
def seqG (h : Hp) (d : D) : Option (List G) := match d with
  | .g (.tup gs) => some gs | .g (.lst gs) => some gs
  | .ref a => (match h[a]? with | some (.lst ds) => unGs ds | _ => none)
  | _ => none
def rangeL (lo : Int) (st : Int) : Nat → List G
  | 0 => []
  | n + 1 => .int lo :: rangeL (lo + st) st n
def rngLen (lo hi st : Int) : Nat := if st > 0 then (if lo < hi then ((hi - lo - 1) / st + 1).toNat else 0) else (if hi < lo then ((lo - hi - 1) / (-st) + 1).toNat else 0)
/-- what is walked, as a list -/
def listOf (h : Hp) (d : D) : Option (List D) := match d with
  | .g (.rng lo hi) => some ((rangeL lo 1 (hi - lo).toNat).map .g)
  | .g (.str n) => some ((dec n).map fun c => .g (.str (c + 1)))
  | .ref a => (match h[a]? with | some (.lst ds) => some ds | some (.dic kvs) => some (kvs.map fun kv => .g kv.1) | _ => none)
  | .g (.tup gs) => some (gs.map .g) | .g (.lst gs) => some (gs.map .g)
  | .mix _ ds => some ds
  | _ => none
def listG (h : Hp) (d : D) : Option (List G) := match d with
  | .g (.rng lo hi) => some (rangeL lo 1 (hi - lo).toNat)
  | .g (.str n) => some ((dec n).map fun c => .str (c + 1))
  | .ref a => (match h[a]? with | some (.lst ds) => unGs ds | some (.dic kvs) => some (kvs.map (·.1)) | _ => none)
  | .g (.tup gs) => some gs | .g (.lst gs) => some gs
  | _ => none
/-- the sizes that are looked at -/
def szOk (n : Nat) : Bool := Nat.ble n 16000000
def truG : G → Option Bool
  | .non => some false | .bl b => some b | .int i => some (i != 0) | .str n => if szOk n.log2 then some (n != 0) else none | .tup ds => some !ds.isEmpty | .lst ds => some !ds.isEmpty | .rng _ _ => none | .set _ => none
def tru (h : Hp) (d : D) : Option Bool := match d with
  | .g x => truG x
  | .ref a => (match h[a]? with | some (.lst ds) => some !ds.isEmpty | some (.dic kvs) => some !kvs.isEmpty | _ => none)
  | .mix _ ds => some !ds.isEmpty
  | _ => none

structure Env where
  cur : Option (Nat × List D)
  call : Nat → List D → Hp → Out
  low : Nat → List D → Hp → Out
  meth : Nat → Nat → Option Nat
  init : Nat → Option Nat
  attr : Nat → Nat → Bool
  glo : Nat → Option G
  exsub : Nat → Nat → Bool
  exv : Nat → Bool
  fuel : Nat
abbrev F := Env → St → Hp → Out

def Out.onV (o : Out) (k : D → Hp → Out) : Out := match o with | .val d h => k d h | .exc c ds s h => .exc c ds s h | .bad n => .bad n | _ => .bad 1
def Out.onL (o : Out) (k : List D → Hp → Out) : Out := match o with | .vls d h => k d h | .exc c ds s h => .exc c ds s h | .bad n => .bad n | _ => .bad 2
def Out.onN (o : Out) (k : St → Hp → Out) : Out := match o with | .nxt s h => k s h | r => r
def back (s : St) (o : Out) : Out := match o with | .exc c ds _ h => .exc c ds s h | o => o
def og (h : Hp) (o : Option G) (why : Nat) : Out := match o with | some d => .val (.g d) h | none => .bad why
def ov (h : Hp) (o : Option D) (why : Nat) : Out := match o with | some d => .val d h | none => .bad why
def ob (h : Hp) (o : Option Bool) (why : Nat) : Out := match o with | some d => .val (.g (.bl d)) h | none => .bad why
def alloc (h : Hp) (o : O) : Out := .val (.ref h.length) (h ++ [o])

def repL {α} (n : Int) (a : List α) : List α := (List.replicate n.toNat a).flatten
def binG (op : Op) (x y : G) : Option G := match op, x, y with
  | .add, .int i, .int j => some (.int (i + j))
  | .sub, .int i, .int j => some (.int (i - j))
  | .mul, .int i, .int j => if (-18446744073709551616 < i ∧ i < 18446744073709551616) ∨ (-18446744073709551616 < j ∧ j < 18446744073709551616) then some (.int (i * j)) else none
  | .fdiv, .int i, .int j => if 0 < j ∧ j < 1073741824 then some (.int (i / j)) else none
  | .mod, .int i, .int j => if 0 < j then some (.int (i % j)) else none
  | .pow, .int i, .int j => if 0 ≤ j ∧ j ≤ 1000000 ∧ i.natAbs < 18446744073709551616 then some (.int (i ^ j.toNat)) else none
  | .shl, .int i, .int j => if 0 ≤ j ∧ j ≤ 1000000 ∧ i.natAbs < 18446744073709551616 then some (.int (i * 2 ^ j.toNat)) else none
  | .shr, .int i, .int j => if 0 ≤ j then some (.int (i / 2 ^ j.toNat)) else none
  | .add, .tup a, .tup b => if szOk (a.length + b.length) then some (.tup (a ++ b)) else none
  | .add, .lst a, .lst b => if szOk (a.length + b.length) then some (.lst (a ++ b)) else none
  | .mul, .lst a, .int j => if -1000 ≤ j ∧ j < 1000000 ∧ szOk (a.length * j.toNat) = true then some (.lst (repL j a)) else none
  | .mul, .tup a, .int j => if 2 ≤ j ∧ j ≤ 1000 ∧ a.isEmpty = false ∧ a.length ≤ 1000 then some (.tup (repL j a)) else none
  | .add, .str a, .str b => if szOk (a.log2 + b.log2) then some (.str (enc (dec a ++ dec b))) else none
  | .mul, .str a, .int j => if 2 ≤ j ∧ j ≤ 1000 ∧ (dec a).isEmpty = false ∧ a.log2 < 10000 then some (.str (enc (repL j (dec a)))) else none
  | _, _, _ => none
def kind (h : Hp) (d : D) : Option (Bool × List D) := match d with
  | .g (.tup gs) => some (false, gs.map .g) | .g (.lst gs) => some (true, gs.map .g)
  | .mix l ds => some (l, ds)
  | .ref a => (match h[a]? with | some (.lst ds) => some (true, ds) | _ => none)
  | _ => none
def binV (op : Op) (x y : D) (h : Hp) : Option D := match x, y with
  | .g x, .g y => omap .g (binG op x y)
  | x, y => match op with
    | .add => (match kind h x, kind h y with
      | some (true, a), some (true, b) => if szOk (a.length + b.length) then some (mkLst (a ++ b)) else none
      | some (false, a), some (false, b) => if szOk (a.length + b.length) then some (mkTup (a ++ b)) else none
      | _, _ => none)
    | .mul => (match kind h x, y with
      | some (true, a), .g (.int j) => if -1000 ≤ j ∧ j < 1000000 ∧ szOk (a.length * j.toNat) = true then some (mkLst (repL j a)) else none
      | _, _ => none)
    | _ => none
def notO : Option Bool → Option Bool | some b => some !b | none => none
def isSub : List Nat → List Nat → Bool
  | l, [] => true
  | [], _ => false
  | a :: r, s => s.isPrefixOf (a :: r) || isSub r s
/-- a dict of the heap -/
def dicOf (h : Hp) (y : D) : Option (List (G × D)) := match y with
  | .ref a => (match h[a]? with | some (.dic kvs) => some kvs | _ => none)
  | _ => none
def memC (x : Nat) : List Nat → Bool
  | [] => false
  | y :: r => match Nat.beq x y with | true => true | false => memC x r
/-- one sign in a text -/
def sgnV (x : G) (n : Nat) : Option Bool := match x with
  | .str m => (match dec m with | [c] => some (memC c (dec n)) | _ => none)
  | _ => none
def memV (h : Hp) (x y : D) : Option Bool := match dicOf h y with
  | some kvs => (match x with | .g g => (match getK g kvs with | some o => some o.isSome | none => none) | _ => none)
  | none => (match rd h x with
    | none => none
    | some gx => match rd h y with
      | some (.tup gs) => memG gx gs
      | some (.lst gs) => memG gx gs
      | some (.str n) => sgnV gx n
      | _ => none)
def isV (x y : D) : Option Bool := match y with
  | .g .non => (match x with | .g .non => some true | .bm .. => none | _ => some false)
  | .g (.bl b) => (match x with | .g (.bl a) => some (a == b) | _ => none)
  | _ => none
def iCmp (f : Int → Int → Bool) (x y : D) : Option Bool := match x, y with
  | .g (.int i), .g (.int j) => some (f i j)
  | _, _ => none
def cmpV (op : Cm) (x y : D) (h : Hp) : Option Bool := match op with
  | .eq => eqD h x y
  | .ne => notO (eqD h x y)
  | .lt => iCmp (fun i j => decide (i < j)) x y
  | .gt => iCmp (fun i j => decide (j < i)) x y
  | .le => iCmp (fun i j => decide (i ≤ j)) x y
  | .ge => iCmp (fun i j => decide (j ≤ i)) x y
  | .isin => memV h x y
  | .notin => notO (memV h x y)
  | .isn => isV x y
  | .isnt => notO (isV x y)

def nth {α} (ds : List α) (i : Int) : Option α :=
  if 0 ≤ i then ds[i.toNat]? else if 0 ≤ (ds.length : Int) + i then ds[((ds.length : Int) + i).toNat]? else none
def asInt : G → Option Int | .int i => some i | .bl b => some (b2i b) | _ => none
def subG (x : G) (i : Int) : Option G := match x with
  | .str n => if szOk n.log2 then (if 0 ≤ i then omap (fun c => G.str (c + 1)) (chrS n i.toNat) else nth ((dec n).map fun c => G.str (c + 1)) i) else none
  | .tup ds => nth ds i
  | .lst ds => nth ds i
  | _ => none
def ojoin {α} : Option (Option α) → Option α | some x => x | none => none
def dicGet (h : Hp) (x : D) (k : G) : Option D := match x with
  | .ref a => (match h[a]? with
    | some (.dic kvs) => ojoin (getK k kvs)
    | some (.lck kvs) => ojoin (getK k kvs)
    | _ => none)
  | _ => none
def ixD (h : Hp) (x : D) (i : Int) : Option D := match x with
  | .g x => omap .g (subG x i)
  | x => (match kind h x with
      | some (_, ds) => nth ds i
      | none => dicGet h x (.int i))
def subV (x i : D) (h : Hp) : Option D := match i with
  | .g (.int i) => ixD h x i
  | .g k => dicGet h x k
  | _ => none
def cutL {α} (ds : List α) (a b : Nat) : List α := (ds.drop a).take (b - a)
def sIxD (n d : Nat) : Option Int → Nat
  | none => d
  | some v => if v < 0 then (v + (n : Int)).toNat else min v.toNat n
def bnd (d : D) : Option (Option Int) := match d with | .g .non => some none | .g (.int i) => some (some i) | _ => none
def slS (n : Nat) (lo hi : D) : Option Nat := match bnd lo, bnd hi with | some i, some j => some (cutN n (sIxD (lenS n) 0 i) (sIxD (lenS n) (lenS n) j)) | _, _ => none
def sl2 {α} (ds : List α) (lo hi : D) : Option (List α) := match bnd lo, bnd hi with | some i, some j => some (cutL ds (sIxD ds.length 0 i) (sIxD ds.length ds.length j)) | _, _ => none
def sliV (x lo hi : D) (h : Hp) : Option D := match x with
  | .g (.tup gs) => omap (fun l => .g (.tup l)) (sl2 gs lo hi)
  | .g (.lst gs) => omap (fun l => .g (.lst l)) (sl2 gs lo hi)
  | .g (.str n) => if szOk n.log2 then omap (fun l => .g (.str l)) (slS n lo hi) else none
  | x => match kind h x with
    | some (true, ds) => omap mkLst (sl2 ds lo hi)
    | some (false, ds) => omap mkTup (sl2 ds lo hi)
    | none => none
def slrV (x : D) (h : Hp) : Option D := match kind h x with
  | some (true, ds) => some (mkLst ds.reverse)
  | some (false, ds) => some (mkTup ds.reverse)
  | none => none
def everyL {α} (k : Nat) : Nat → List α → List α
  | _, [] => []
  | 0, x :: r => x :: everyL k (k - 1) r
  | n + 1, _ :: r => everyL k n r
def sl3 {α} (ds : List α) (lo hi : D) (st : Int) : Option (List α) := match bnd lo, bnd hi with
  | some i, some j => if 0 < st then some (everyL st.toNat 0 (cutL ds (sIxD ds.length 0 i) (sIxD ds.length ds.length j))) else
      (match lo, hi, st with | .g .non, .g (.int j), -1 => some (ds.drop (sIxD ds.length 0 (some j) + 1)).reverse | _, _, _ => none)
  | _, _ => none
def slsV (x lo hi st : D) (h : Hp) : Option D := match st with
  | .g (.int st) => (match kind h x with
    | some (true, ds) => omap mkLst (sl3 ds lo hi st)
    | some (false, ds) => omap mkTup (sl3 ds lo hi st)
    | none => none)
  | _ => none

def strInt (i : Int) : Nat := match i with
  | .ofNat n => enc ((Nat.toDigits 10 n).map Char.toNat)
  | .negSucc n => enc (45 :: (Nat.toDigits 10 (n + 1)).map Char.toNat)
def boolsOf : List G → Option (List Bool)
  | [] => some []
  | .bl b :: r => (match boolsOf r with | some t => some (b :: t) | none => none)
  | _ => none
def intsOf : List G → Option (List Int)
  | [] => some []
  | .int b :: r => (match intsOf r with | some t => some (b :: t) | none => none)
  | _ => none
def sumI : List Int → Int
  | [] => 0
  | x :: r => x + sumI r
def maxI : Int → List Int → Int
  | m, [] => m
  | m, x :: r => maxI (if m < x then x else m) r
def minI : Int → List Int → Int
  | m, [] => m
  | m, x :: r => minI (if x < m then x else m) r
def pairD (h : Hp) (d : D) : Option (G × D) := match seqOf h d with | some [.g a, b] => some (a, b) | _ => none
def unpair (h : Hp) : List D → Option (List (G × D))
  | [] => some []
  | d :: r => match pairD h d, unpair h r with | some p, some t => some (p :: t) | _, _ => none
def intOf (l : List Nat) : Option Int := if l.isEmpty then none else l.foldl (fun n c => match n with | some n => if 48 ≤ c && c ≤ 57 then some (n * 10 + ((c - 48 : Nat) : Int)) else none | none => none) (some (0 : Int))
/-- a plain list or tuple -/
def knG (h : Hp) (d : D) : Option (List G) := match kind h d with | some (_, ds) => unGs ds | none => none
/-- a plain list -/
def lstG (h : Hp) (d : D) : Option (List G) := match d with
  | .g (.lst gs) => some gs
  | .ref a => (match h[a]? with | some (.lst ds) => unGs ds | _ => none)
  | _ => none
def lenV (h : Hp) (d : D) : Option Nat := match d with
  | .g (.str n) => if szOk n.log2 then some (lenS n) else none
  | .g (.tup gs) => some gs.length
  | .g (.lst gs) => some gs.length
  | d => (match kind h d with | some (_, ds) => some ds.length | none => none)
def lisV (h : Hp) (d : D) : Option D := match d with
  | .g (.tup gs) => some (.g (.lst gs))
  | .g (.lst gs) => some (.g (.lst gs))
  | .g (.rng lo hi) => if Nat.ble (hi - lo).toNat 16777216 then some (.g (.lst (rangeL lo 1 (hi - lo).toNat))) else none
  | d => (match kind h d with | some (_, ds) => some (mkLst ds) | none => none)
def tupV (h : Hp) (d : D) : Option D := match d with
  | .g (.tup gs) => some (.g (.tup gs))
  | .g (.lst gs) => some (.g (.tup gs))
  | d => (match kind h d with | some (_, ds) => some (mkTup ds) | none => none)
def absV (d : D) : Option Int := match d with | .g (.int i) => some (if i < 0 then -i else i) | _ => none
def digV (c : Nat) : Option Int := if 48 ≤ c ∧ c ≤ 57 then some ((c - 48 : Nat) : Int) else none
def intV (d : D) : Option Int := match d with | .g (.int i) => some i | .g (.bl b) => some (b2i b) | .g (.str n) => (match dec n with | [c] => digV c | _ => none) | _ => none
def strV (d : D) : Option D := match d with | .g (.int i) => if i.natAbs.log2 < 1920 then some (.g (.str (strInt i))) else none | _ => none
def isS : G → Bool | .str _ => true | _ => false
def isI : G → Bool | .int _ => true | _ => false
def ssetG (xs : List G) : Option (List G) := if (xs.all isS || xs.all isI) && Nat.blt xs.length 64 then (match dedup xs [] with | some ys => sortG ltG ys | none => none) else none
/-- set(x) of ints -/
def setV (h : Hp) (d : D) : Option D := match knG h d with
  | some xs => (match intsOf xs with | some is => (match Nat.blt is.length 64 with | true => some (.g (.set is)) | false => none) | none => none)
  | none => none
/-- sorted(set) -/
def sosV (d : D) : Option D := match d with
  | .g (.set is) => omap (fun l => .g (.lst l)) (ssetG (is.map .int))
  | _ => none
def blt1 (b : Bf) (d : D) (h : Hp) : Option D := match b with
  | .mkset => setV h d
  | .sos => sosV d
  | .len => omap (fun n : Nat => .g (.int n)) (lenV h d)
  | .list => lisV h d
  | .tuple => tupV h d
  | .abs => omap (fun i => .g (.int i)) (absV d)
  | .int => omap (fun i => .g (.int i)) (intV d)
  | .all => (match lstG h d with | some xs => omap (fun l => .g (.bl (l.all id))) (boolsOf xs) | none => none)
  | .any => (match lstG h d with | some xs => omap (fun l => .g (.bl (l.any id))) (boolsOf xs) | none => none)
  | .sum => (match lstG h d with | some xs => omap (fun l => .g (.int (sumI l))) (intsOf xs) | none => none)
  | .max => (match lstG h d with | some xs => (match intsOf xs with | some (x :: r) => some (.g (.int (maxI x r))) | _ => none) | none => none)
  | .min => (match lstG h d with | some xs => (match intsOf xs with | some (x :: r) => some (.g (.int (minI x r))) | _ => none) | none => none)
  | .sorted => (match listG h d with | some xs => omap (fun l => .g (.lst l)) (sortG ltG xs) | none => none)
  | .sortrev => (match listG h d with | some xs => omap (fun l => .g (.lst l)) (sortG (fun a b => ltG b a) xs) | none => none)
  | .sset => (match knG h d with | some xs => omap (fun l => .g (.lst l)) (ssetG xs) | none => none)
  | .lset => (match listG h d with | some xs => omap (fun ys => .g (.int (ys.length : Nat))) (dedup xs []) | none => none)
  | .str => strV d
  | _ => none
/-- dict(x): the pairs -/
def dictV (d : D) (h : Hp) : Option (List (G × D)) := match d with
  | .ref a => (match h[a]? with
    | some (.dic kvs) => some kvs
    | some (.lst ds) => (match unpair h ds with | some kvs => putAll [] kvs | none => none)
    | _ => none)
  | d => (match seqOf h d with | some ds => (match unpair h ds with | some kvs => putAll [] kvs | none => none) | none => none)
def blt2 (b : Bf) (d e : D) (h : Hp) : Option D := match b with
  | .max => (match d, e with | .g (.int i), .g (.int j) => some (.g (.int (if j > i then j else i))) | _, _ => none)
  | .min => (match d, e with | .g (.int i), .g (.int j) => some (.g (.int (if j < i then j else i))) | _, _ => none)
  | .max0 => (match lstG h d with | some (x :: r) => (match intsOf (x :: r) with | some (x :: r) => some (.g (.int (maxI x r))) | _ => none) | some [] => some e | none => none)
  | .sunion => (match listG h d, listG h e with | some a, some b => omap (fun l => .g (.lst l)) (ssetG (a ++ b)) | _, _ => none)
  | .sxor => (match listG h d, listG h e with | some a, some b => (match dedup (a ++ b) [] with | some ys => omap (fun l => .g (.lst l)) (sortG ltG (ys.filter fun x => memG x a != memG x b)) | none => none) | _, _ => none)
  | _ => none
def bltV (b : Bf) (ds : List D) (h : Hp) : Option D := match ds with
  | [d] => blt1 b d h
  | [d, e] => blt2 b d e h
  | _ => none

def splitL (c : Nat) : List Nat → List Nat → List (List Nat)
  | [], acc => [acc.reverse]
  | x :: r, acc => if x == c then acc.reverse :: splitL c r [] else splitL c r (x :: acc)
def joinL (sep : List Nat) : List (List Nat) → List Nat
  | [] => []
  | [x] => x
  | x :: y :: r => x ++ (sep ++ joinL sep (y :: r))
def textsG : List G → Option (List (List Nat))
  | [] => some []
  | .str n :: r => (match textsG r with | some t => some (dec n :: t) | none => none)
  | _ => none
def lastL {α} : List α → Option α
  | [] => none
  | [x] => some x
  | _ :: r => lastL r
def posI (n : Nat) (i : Int) : Nat := if 0 ≤ i then i.toNat else ((n : Int) + i).toNat
def appV (x : D) (ds : List D) (h : Hp) : Option (D × Hp) := match x, ds with
  | .ref a, [d] => (match h[a]? with | some (.lst xs) => if szOk xs.length then some (.g .non, h.set a (.lst (xs ++ [d]))) else none | _ => none)
  | _, _ => none
def extV (x : D) (ds : List D) (h : Hp) : Option (D × Hp) := match x, ds with
  | .ref a, [d] => (match h[a]?, kind h d with | some (.lst xs), some (true, ys) => if szOk (xs.length + ys.length) then some (.g .non, h.set a (.lst (xs ++ ys))) else none | _, _ => none)
  | _, _ => none
def popV (x : D) (ds : List D) (h : Hp) : Option (D × Hp) := match x, ds with
  | .ref a, [] => (match h[a]? with | some (.lst xs) => (match xs[xs.length - 1]? with | some d => some (d, h.set a (.lst xs.dropLast)) | none => none) | _ => none)
  | _, _ => none
/-- xs.pop(i) -/
def popiV (x : D) (ds : List D) (h : Hp) : Option (D × Hp) := match x, ds with
  | .ref a, [.g (.int i)] => (match h[a]? with
    | some (.lst xs) => (match decide (0 ≤ i) && Nat.blt xs.length 1000000 with
      | true => (match xs[i.toNat]? with | some d => some (d, h.set a (.lst (xs.eraseIdx i.toNat))) | none => none)
      | false => none)
    | _ => none)
  | _, _ => none
def mtdW (m : Ms) (x : D) (ds : List D) (h : Hp) : Option (D × Hp) := match m, x, ds with
  | .index, x, [d] => (match seqOf h x with | some xs => (match idxD h d xs 0 with | some (some i) => some (.g (.int i), h) | _ => none) | none => none)
  | .get1, .ref a, [.g k] => (match h[a]? with | some (.dic kvs) => (match getK k kvs with | some (some v) => some (v, h) | some none => some (.g .non, h) | none => none) | _ => none)
  | .get2, .ref a, [.g k, e] => (match h[a]? with | some (.dic kvs) => (match getK k kvs with | some (some v) => some (v, h) | some none => some (e, h) | none => none) | _ => none)
  | .setd, .ref a, [.g k, e] => (match h[a]? with | some (.dic kvs) => (match getK k kvs with | some (some v) => some (v, h) | some none => some (e, h.set a (.dic (kvs ++ [(k, e)]))) | none => none) | _ => none)
  | .upd, .ref a, [.ref b] => (match h[a]?, h[b]? with | some (.dic kvs), some (.dic more) => (match putAll kvs more with | some t => some (.g .non, h.set a (.dic t)) | none => none) | _, _ => none)
  | .join, .g (.str n), [d] => (match knG h d with | some ds => (match textsG ds with | some ls => if szOk ((ls.map (·.length)).sum + ls.length * (dec n).length) then some (.g (.str (enc (joinL (dec n) ls))), h) else none | none => none) | none => none)
  | .split, .g (.str n), [.g (.str m)] => (match dec m with | [c] => some (.g (.lst ((splitL c (dec n) []).map fun l => .str (enc l))), h) | _ => none)
  | .items, .ref a, [] => (match h[a]? with | some (.dic kvs) => some (mkLst (kvs.map fun kv => mkTup [.g kv.1, kv.2]), h) | _ => none)
  | .values, .ref a, [] => (match h[a]? with | some (.dic kvs) => some (mkLst (kvs.map (·.2)), h) | _ => none)
  | _, _, _ => none
def mtdV (m : Ms) (x : D) (ds : List D) (h : Hp) : Option (D × Hp) := match m with
  | .append => appV x ds h
  | .extend => extV x ds h
  | .pop => popV x ds h
  | .popi => popiV x ds h
  | m => mtdW m x ds h
def vo (o : Option (D × Hp)) (why : Nat) : Out := match o with | some (d, h) => .val d h | none => .bad why

inductive Tn where
  | non | bl | int | str | tup | lst | ins (c : Nat)
  deriving Repr, DecidableEq
def tyOf (h : Hp) (d : D) : Option Tn := match d with
  | .g x => (match x with | .non => some .non | .bl _ => some .bl | .int _ => some .int | .str _ => some .str | .tup _ => some .tup | .lst _ => some .lst | .rng _ _ => none | .set _ => none)
  | .mix l _ => some (if l then .lst else .tup)
  | .ref a => (match h[a]? with | some (.lst _) => some .lst | _ => none)
  | _ => none
def sT (n : Tn) (t : Ty) : Bool := match t, n with
  | .int, .int => true | .int, .bl => true | .bool, .bl => true | .str, .str => true | .list, .lst => true | .tuple, .tup => true
  | .cls c, .ins c' => c == c'
  | _, _ => false
def isaL (h : Hp) (d : D) (tys : List Ty) : Option Bool := match tyOf h d with | some n => some (tys.any (sT n)) | none => none

/-- isinstance of the caught exception -/
def exT (E : Env) (c : Nat) : Ty → Bool
  | .cls k => E.exsub c k
  | .exv => E.exv c
  | .exl => !E.exv c
  | _ => false
def exiF (i : Nat) (tys : List Ty) : Env → St → Hp → Out := fun E s h => match s[i]?, E.cur with
  | some none, some (c, _) => .val (.g (.bl (tys.any (exT E c)))) h
  | _, _ => .bad 102
def exfF (i : Nat) : Env → St → Hp → Out := fun E s h => match s[i]?, E.cur with
  | some none, some (_, [d]) => .val d h
  | _, _ => .bad 103
def wipe (s : St) : List Nat → St
  | [] => s
  | i :: r => wipe (s.set i none) r

inductive Nx where
  | stop | yld (d : D) (j : It) | bad
def nextI (h : Hp) : It → Nx
  | .seq [] => .stop
  | .seq (d :: r) => .yld d (.seq r)
  | .live a i => (match h[a]? with | some (.lst ds) => (match ds[i]? with | some d => .yld d (.live a (i + 1)) | none => .stop) | _ => .bad)
  | .enu n j => (match nextI h j with | .yld d j' => .yld (mkTup [.g (.int n), d]) (.enu (n + 1) j') | o => o)
  | .zip j k => (match nextI h j, nextI h k with
    | .yld d j', .yld e k' => .yld (mkTup [d, e]) (.zip j' k')
    | .bad, _ => .bad | _, .bad => .bad | _, _ => .stop)
  | .zip3 j k l => (match nextI h j, nextI h k, nextI h l with
    | .yld d j', .yld e k', .yld f l' => .yld (mkTup [d, e, f]) (.zip3 j' k' l')
    | .bad, _, _ => .bad | _, .bad, _ => .bad | _, _, .bad => .bad | _, _, _ => .stop)
def itOf (h : Hp) (d : D) : Option It := match d with
  | .ref a => (match h[a]? with | some (.lst _) => some (.live a 0) | _ => none)
  | d => (match kind h d with | some (_, ds) => some (.seq ds) | none => none)
def isL (h : Hp) (d : D) : Bool := match kind h d with | some (l, _) => l | none => false

/-! ### combinators -/
def varF (i : Nat) : F := fun _ s h => match s[i]? with | some (some d) => .val d h | _ => .bad 80
def conF (d : G) : F := fun _ _ h => .val (.g d) h
def gloF (g : Nat) : F := fun E _ h => og h (E.glo g) 81
def negK (x : D) (h : Hp) : Out := match x with | .g (.int i) => .val (.g (.int (-i))) h | _ => .bad 82
def unaF (neg : Bool) (a : F) : F := fun E s h => (a E s h).onV fun x h => if neg then negK x h else ob h (notO (tru h x)) 83
def binF (op : Op) (a b : F) : F := fun E s h => (a E s h).onV fun x h => (b E s h).onV fun y h => ov h (binV op x y h) 3
def cmpF (op : Cm) (a b : F) : F := fun E s h => (a E s h).onV fun x h => (b E s h).onV fun y h => ob h (cmpV op x y h) 84
def chnF (o1 o2 : Cm) (a b c : F) : F := fun E s h => (a E s h).onV fun x h => (b E s h).onV fun y h => match cmpV o1 x y h with
  | some true => (c E s h).onV fun z h => ob h (cmpV o2 y z h) 85
  | some false => .val (.g (.bl false)) h
  | none => .bad 86
def andF (a b : F) : F := fun E s h => (a E s h).onV fun x h => match tru h x with | some true => b E s h | some false => .val x h | none => .bad 87
def orF (a b : F) : F := fun E s h => (a E s h).onV fun x h => match tru h x with | some false => b E s h | some true => .val x h | none => .bad 88
def ifeF (c a b : F) : F := fun E s h => (c E s h).onV fun x h => match tru h x with | some true => a E s h | some false => b E s h | none => .bad 89
def subF (a i : F) : F := fun E s h => (a E s h).onV fun x h => (i E s h).onV fun y h => ov h (subV x y h) 13
def partF (t : T) (f : F) : F := match t with | .nil => conF .non | _ => fun E s h => (f E s h).onV fun x h => match x with | .g (.int i) => .val (.g (.int i)) h | _ => .bad 21
def sliF (a lo hi : F) : F := fun E s h => (a E s h).onV fun x h => (lo E s h).onV fun i h => (hi E s h).onV fun j h => ov h (sliV x i j h) 22
def slrF (a : F) : F := fun E s h => (a E s h).onV fun x h => ov h (slrV x h) 28
def slsF (a lo hi st : F) : F := fun E s h => (a E s h).onV fun x h => (lo E s h).onV fun i h => (hi E s h).onV fun j h => (st E s h).onV fun k h => ov h (slsV x i j k h) 29
def getF (f : Nat) : List (Nat × D) → Option D
  | [] => none
  | (g, d) :: r => match Nat.beq g f with | true => some d | false => getF f r
def putF (f : Nat) (v : D) : List (Nat × D) → List (Nat × D)
  | [] => [(f, v)]
  | (g, d) :: r => match Nat.beq g f with | true => (g, v) :: r | false => (g, d) :: putF f v r
def fldF (a : F) (f : Nat) : F := fun E s h => (a E s h).onV fun x h => match x with
  | .ref a => (match h[a]? with | some (.ins c fs) => (match E.attr c f with | true => ov h (getF f fs) 90 | false => .bad 92) | _ => .bad 91)
  | _ => .bad 93
def tupF (as : F) : F := fun E s h => (as E s h).onL fun ds h => if szOk ds.length then .val (mkTup ds) h else .bad 94
def lstF (as : F) : F := fun E s h => (as E s h).onL fun ds h => if szOk ds.length then .val (mkLst ds) h else .bad 94
def nilF : F := fun _ s h => .vls [] h
def cnsF (a r : F) : F := fun E s h => (a E s h).onV fun d h => (r E s h).onL fun ds h => .vls (d :: ds) h
def staF (a r : F) : F := fun E s h => (a E s h).onV fun d h => match kind h d with | some (_, xs) => (r E s h).onL fun ds h => .vls (xs ++ ds) h | none => .bad 94
def unL (d : D) : Option (List D) := match d with | .g (.lst gs) => some (gs.map .g) | .mix true ds => some ds | _ => none
def boxK (x : D) (h : Hp) : Out := match unL x with | some ds => alloc h (.lst ds) | none => .bad 95
def boxF (a : F) : F := fun E s h => (a E s h).onV boxK
def appF (f : Nat) (as : F) : F := fun E s h => (as E s h).onL fun ds h => back s (E.call f ds h)
def permL (ds : List D) : List Nat → Option (List D)
  | [] => some []
  | i :: r => match ds[i]?, permL ds r with | some d, some t => some (d :: t) | _, _ => none
def apkF (f : Nat) (perm : List Nat) (as : F) : F := fun E s h => (as E s h).onL fun ds h => match permL ds perm with
  | some ds => back s (E.call f ds h)
  | none => .bad 96
/-- the class of an instance that has no such attribute of its own -/
def clsOf (h : Hp) (a m : Nat) : Option Nat := match h[a]? with | some (.ins c fs) => (match getF m fs with | none => some c | some _ => none) | _ => none
def metF (a : F) (m : Nat) (as : F) : F := fun E s h => (a E s h).onV fun x h => match x with
  | .ref a => (match clsOf h a m with
    | some c => (match E.meth c m with
      | some f => (as E s h).onL fun ds h => back s (E.call f (.ref a :: ds) h)
      | none => .bad 97)
    | none => .bad 98)
  | _ => .bad 99
/-- what __init__ leaves -/
def made (n : Nat) (o : Out) : Out := match o with
  | .val (.g .non) h => .val (.ref n) h | .exc c ds s h => .exc c ds s h | .bad n => .bad n | _ => .bad 101
def newF (c : Nat) (as : F) : F := fun E s h => (as E s h).onL fun ds h => match E.init c with
  | some f => made h.length (back s (E.low f (.ref h.length :: ds) (h ++ [.ins c []])))
  | none => .bad 100
def clvF (i : Nat) (as : F) : F := fun E s h => match s[i]? with
  | some (some (.bm a c m)) => (match E.meth c m with
    | some f => (as E s h).onL fun ds h => back s (E.call f (.ref a :: ds) h)
    | none => .bad 97)
  | _ => .bad 102
def bmvF (a : F) (m : Nat) : F := fun E s h => (a E s h).onV fun x h => match x with
  | .ref a => (match clsOf h a m with
    | some c => (match E.meth c m with | some f => .val (.bm a c m) h | none => .bad 103)
    | none => .bad 104)
  | _ => .bad 105
def bltF (b : Bf) (as : F) : F := fun E s h => (as E s h).onL fun ds h => ov h (bltV b ds h) 33
def mkdF (a : F) : F := fun E s h => (a E s h).onV fun x h => match dictV x h with | some kvs => alloc h (.dic kvs) | none => .bad 34
/-- lists' methods want a list -/
def recv (m : Ms) (h : Hp) (x : D) : Bool := match m with
  | .append | .extend | .pop | .popi => (match x with | .ref a => (match h[a]? with | some (.lst _) => true | _ => false) | _ => false)
  | .join => (match x with | .g (.str _) => true | _ => false)
  | _ => true
def mtdF (a : F) (m : Ms) (as : F) : F := fun E s h => (a E s h).onV fun x h => if recv m h x then (as E s h).onL fun ds h => vo (mtdV m x ds h) 53 else .bad 54
def isaF (a : F) (tys : List Ty) : F := fun E s h => (a E s h).onV fun x h => ob h (isaL h x tys) 106
abbrev TF := D → F
def Out.onX (o : Out) (k : St → Hp → Out) : Out := match o with | .nxt s h => k s h | .bad n => .bad n | _ => .bad 112
/-- no exception leaves a comprehension -/
def calm (o : Out) : Out := match o with | .exc .. => .bad 111 | o => o
def lcLoop (elt : F) (tgt : TF) (ifs : F) (E : Env) (s : St) : Nat → It → Hp → List D → Out
  | 0, _, _, _ => .bad 107
  | n + 1, j, h, acc => match nextI h j with
    | .stop => .vls acc.reverse h
    | .yld d j' => (tgt d E s h).onX fun s1 h => (calm (ifs E s1 h)).onV fun b h => (match tru h b with
      | some true => (calm (elt E s1 h)).onV fun x h => lcLoop elt tgt ifs E s n j' h (x :: acc)
      | some false => lcLoop elt tgt ifs E s n j' h acc
      | none => .bad 108)
    | .bad => .bad 109
def Out.onI (o : Out) (k : It → Option Nat → Hp → Out) : Out := match o with | .itr j u h => k j u h | .exc c ds s h => .exc c ds s h | .bad n => .bad n | _ => .bad 110
def unlock (h : Hp) : Option Nat → Hp
  | none => h
  | some a => (match h[a]? with | some (.lck kvs) => h.set a (.dic kvs) | _ => h)
def cprF (elt : F) (tgt : TF) (it ifs : F) (own : List Nat) : F := fun E s h => (it E s h).onI fun j u h => match u with
  | none => (lcLoop elt tgt ifs E (wipe s own) E.fuel j h []).onL fun ds h => .val (mkLst ds) h
  | some _ => .bad 143
/-- the inner loop of a comprehension with two fors -/
def lcK (elt : F) (tgt : TF) (ifs : F) (E : Env) (s : St) (k : Hp → List D → Out) : Nat → It → Hp → List D → Out
  | 0, _, _, _ => .bad 107
  | n + 1, j, h, acc => match nextI h j with
    | .stop => k h acc
    | .yld d j' => (tgt d E s h).onX fun s1 h => (calm (ifs E s1 h)).onV fun b h => (match tru h b with
      | some true => (calm (elt E s1 h)).onV fun x h => (match szOk acc.length with | true => lcK elt tgt ifs E s k n j' h (x :: acc) | false => .bad 108)
      | some false => lcK elt tgt ifs E s k n j' h acc
      | none => .bad 108)
    | .bad => .bad 109
def Out.onJ (o : Out) (k : It → Hp → Out) : Out := match o with | .itr j none h => k j h | .bad n => .bad n | _ => .bad 110
def lc2K (elt : F) (t0 : TF) (f0 : F) (t1 : TF) (i1 f1 : F) (own1 : List Nat) (E : Env) (s : St) : Nat → It → Hp → List D → Out
  | 0, _, _, _ => .bad 111
  | n + 1, j, h, acc => match nextI h j with
    | .stop => .vls acc.reverse h
    | .yld d j' => (t0 d E s h).onX fun s1 h => (calm (f0 E s1 h)).onV fun b h => (match tru h b with
      | some true => (i1 E s1 h).onJ fun k h => lcK elt t1 f1 E (wipe s1 own1) (fun h acc => lc2K elt t0 f0 t1 i1 f1 own1 E s n j' h acc) E.fuel k h acc
      | some false => lc2K elt t0 f0 t1 i1 f1 own1 E s n j' h acc
      | none => .bad 112)
    | .bad => .bad 113
def cp2F (elt : F) (t0 : TF) (i0 f0 : F) (t1 : TF) (i1 f1 : F) (own own1 : List Nat) : F := fun E s h => (i0 E s h).onI fun j u h => match u with
  | none => (lc2K elt t0 f0 t1 i1 f1 own1 E (wipe s own) E.fuel j h []).onL fun ds h => .val (mkLst ds) h
  | some _ => .bad 143
def pairs : List D → Option (List (G × D))
  | [] => some []
  | .g a :: b :: r => (match pairs r with | some t => some ((a, b) :: t) | none => none)
  | _ => none
def dicF (as : F) : F := fun E s h => (as E s h).onL fun ds h => match pairs ds with
  | some kvs => (match putAll [] kvs with | some t => alloc h (.dic t) | none => .bad 114)
  | none => .bad 115
def dcpF (k v : F) (tgt : TF) (it ifs : F) (own : List Nat) : F := fun E s h => (it E s h).onI fun j u h =>
  (lcLoop (fun E s h => (k E s h).onV fun x h => (v E s h).onV fun y h => .val (mkTup [x, y]) h) tgt ifs E (wipe s own) E.fuel j h []).onL fun ds h =>
    (match unpair h ds with | some kvs => (match putAll [] kvs with | some t => alloc (unlock h u) (.dic t) | none => .bad 116) | none => .bad 117)
def keysF (body : F) (i : Nat) (E : Env) (s : St) : List D → Hp → Option (List (G × D))
  | [], _ => some []
  | d :: r, h => match body E (s.set i (some d)) h with
    | .val (.g k) _ => (match keysF body i E s r h with | some t => some ((k, d) :: t) | none => none)
    | _ => none
def insK (x : G × D) : List (G × D) → Option (List (G × D))
  | [] => some [x]
  | y :: r => match ltG y.1 x.1 with
    | some true => (match insK x r with | some t => some (y :: t) | none => none)
    | some false => some (x :: y :: r)
    | none => none
def sortK : List (G × D) → Option (List (G × D))
  | [] => some []
  | x :: r => match sortK r with | some t => insK x t | none => none
def srkF (xs : F) (i : Nat) (body : F) : F := fun E s h => (xs E s h).onV fun d h => match listOf h d with
  | some ds => (match keysF body i E s ds h with | some kds => (match sortK kds with | some t => .val (mkLst (t.map (·.2))) h | none => .bad 118) | none => .bad 119)
  | none => .bad 120

def rgOf (ds : List D) : Option (Int × Int × Int) := match ds with
  | [.g (.int hi)] => some (0, hi, 1)
  | [.g (.int lo), .g (.int hi)] => some (lo, hi, 1)
  | [.g (.int lo), .g (.int hi), .g (.int st)] => if st == 0 then none else some (lo, hi, st)
  | _ => none
def okI (i : Int) : Bool := decide (-4611686018427387904 ≤ i ∧ i < 4611686018427387904)
def rg1 (x : D) : Option It := match x with
  | .g (.int hi) => if okI hi then some (.seq ((rangeL 0 1 hi.toNat).map .g)) else none
  | _ => none
def rg2 (x y : D) : Option It := match x, y with
  | .g (.int lo), .g (.int hi) => if okI lo && okI hi then some (.seq ((rangeL lo 1 (hi - lo).toNat).map .g)) else none
  | _, _ => none
def okS (i : Int) : Bool := decide (-1099511627776 < i ∧ i < 1099511627776)
def okC (i : Int) : Bool := decide (-1000 < i ∧ i < 1000 ∧ i ≠ 0)
def rg3L (x y z : D) : Option (List G) := match x, y, z with
  | .g (.int lo), .g (.int hi), .g (.int st) => (match okS lo && okS hi && okC st with | true => some (rangeL lo st (rngLen lo hi st)) | false => none)
  | _, _, _ => none
def rg3 (x y z : D) : Option It := omap (fun l => .seq (l.map .g)) (rg3L x y z)
/-- list(range(..)) with a step -/
def rglV (x y z : D) : Option D := match rg3L x y z with | some l => (match Nat.ble l.length 16777216 with | true => some (.g (.lst l)) | false => none) | none => none
def oi (o : Option It) (h : Hp) (n : Nat) : Out := match o with | some j => .itr j none h | none => .bad n
def itr1F (a : F) : F := fun E s h => (a E s h).onV fun x h => oi (rg1 x) h 123
def itr2F (a b : F) : F := fun E s h => (a E s h).onV fun x h => (b E s h).onV fun y h => oi (rg2 x y) h 123
def rglF (a b c : F) : F := fun E s h => (a E s h).onV fun x h => (b E s h).onV fun y h => (c E s h).onV fun z h => ov h (rglV x y z) 126
def itr3F (a b c : F) : F := fun E s h => (a E s h).onV fun x h => (b E s h).onV fun y h => (c E s h).onV fun z h => oi (rg3 x y z) h 123
/-- a range as a value is walked, too -/
def itX (h : Hp) (d : D) : Option It := match d with
  | .g (.rng lo hi) => some (.seq ((rangeL lo 1 (hi - lo).toNat).map .g))
  | d => itOf h d
def itxF (a : F) : F := fun E s h => (a E s h).onV fun x h => oi (itX h x) h 121
/-- range as a value: steps of 1 stay a range; else the list of it (for list(range(..)) alone) -/
def rgF (as : F) : F := fun E s h => (as E s h).onL fun ds h => match rgOf ds with
  | some (lo, hi, st) => if st == 1 then (if okI lo && okI hi then .val (.g (.rng lo hi)) h else .bad 125) else .val (.g (.lst (rangeL lo st (rngLen lo hi st)))) h
  | none => .bad 124
def enuV (x : D) (h : Hp) : Option It := omap (.enu 0) (itOf h x)
def zipV (x y : D) (h : Hp) : Option It := if isL h x == isL h y then (match itOf h x, itOf h y with | some j, some k => some (.zip j k) | _, _ => none) else none
def iteF (a : F) : F := fun E s h => (a E s h).onV fun x h => oi (enuV x h) h 125
def itzF (a b : F) : F := fun E s h => (a E s h).onV fun x h => (b E s h).onV fun y h => oi (zipV x y h) h 126
def itz3F (a b c : F) : F := fun E s h => (a E s h).onV fun x h => (b E s h).onV fun y h => (c E s h).onV fun z h => match itOf h x, itOf h y, itOf h z with | some j, some k, some l => .itr (.zip3 j k l) none h | _, _, _ => .bad 127
def itiF (vals : Bool) (a : F) : F := fun E s h => (a E s h).onV fun x h => match x with
  | .ref a => (match h[a]? with | some (.dic kvs) => .itr (.seq (if vals then kvs.map (·.2) else kvs.map fun kv => mkTup [.g kv.1, kv.2])) (some a) (h.set a (.lck kvs)) | _ => .bad 128)
  | _ => .bad 129
/-- targets -/
def tnT (i : Nat) : TF := fun d _ s h => .nxt (s.set i (some d)) h
def ttNil : List D → F := fun ds _ s h => if ds.isEmpty then .nxt s h else .bad 130
def tfT (a : F) (f : Nat) : TF := fun d E s h => (a E s h).onV fun x h => match x with
  | .ref a => (match h[a]? with | some (.ins c fs) => (match E.attr c f && Nat.blt fs.length 100 with | true => .nxt s (h.set a (.ins c (putF f d fs))) | false => .bad 134) | _ => .bad 131)
  | _ => .bad 132
def stoL (a : Nat) (i : Int) (d : D) (h : Hp) : Option Hp := match h[a]? with
  | some (.lst xs) => (match nth xs i with | some _ => some (h.set a (.lst (xs.set (posI xs.length i) d))) | none => none)
  | _ => none
def stoD (a : Nat) (k : G) (d : D) (h : Hp) : Option Hp := match h[a]? with
  | some (.dic kvs) => (match szOk kvs.length with | true => (match putK k d kvs with | some t => some (h.set a (.dic t)) | none => none) | false => none)
  | _ => none
def isDic (h : Hp) (a : Nat) : Bool := match h[a]? with | some (.dic _) => true | _ => false
def stoV (x k d : D) (h : Hp) : Option Hp := match x, k with
  | .ref a, .g k => if isDic h a then stoD a k d h else (match k with | .int i => stoL a i d h | _ => none)
  | _, _ => none
def tsT (a i : F) : TF := fun d E s h => (a E s h).onV fun x h => (i E s h).onV fun k h => match stoV x k d h with | some h => .nxt s h | none => .bad 133
/-- x = set(e); return tuple(sorted(x)) -/
def ssrV (h : Hp) (d : D) : Option D := match knG h d with
  | some xs => (match xs.all isI with | true => omap (fun l => .g (.tup l)) (ssetG xs) | false => none)
  | none => none
def ssrF (i : Nat) (e : F) : F := fun E s h => (back s (e E s h)).onV fun d h => match Nat.blt i s.length, ssrV h d with | true, some r => .ret r h | _, _ => .bad 144
/-- statements -/
def asgF (t : TF) (e : F) : F := fun E s h => (back s (e E s h)).onV fun x h => calm (t x E s h)
def xprF (e : F) : F := fun E s h => (back s (e E s h)).onV fun _ h => .nxt s h
def retF (e : F) : F := fun E s h => (back s (e E s h)).onV fun x h => .ret x h
def iffF (c a b : F) : F := fun E s h => (back s (c E s h)).onV fun x h => match tru h x with | some true => a E s h | some false => b E s h | none => .bad 137
def seqF (a b : F) : F := fun E s h => (a E s h).onN fun s h => b E s h
def skpF : F := fun _ s h => .nxt s h
def whlLoop (c b : F) (E : Env) : Nat → St → Hp → Out
  | 0, _, _ => .bad 138
  | n + 1, s, h => (back s (c E s h)).onV fun x h => match tru h x with
    | some true => (match b E s h with | .nxt s h => whlLoop c b E n s h | .cnt s h => whlLoop c b E n s h | .brk s h => .nxt s h | o => o)
    | some false => .nxt s h
    | none => .bad 139
def whlF (c b : F) : F := fun E s h => whlLoop c b E E.fuel s h
def forLoop (t : TF) (b : F) (E : Env) : Nat → It → St → Hp → Out
  | 0, _, _, _ => .bad 140
  | n + 1, j, s, h => match nextI h j with
    | .stop => .nxt s h
    | .yld d j' => (calm (t d E s h)).onN fun s h => (match b E s h with | .nxt s h => forLoop t b E n j' s h | .cnt s h => forLoop t b E n j' s h | .brk s h => .nxt s h | o => o)
    | .bad => .bad 141
def Out.unlk (o : Out) (u : Option Nat) : Out := match u with | none => o | some _ => (match o with
  | .nxt s h => .nxt s (unlock h u) | .ret d h => .ret d (unlock h u) | .exc c ds s h => .exc c ds s (unlock h u) | .brk s h => .brk s (unlock h u) | .cnt s h => .cnt s (unlock h u) | o => o)
def freF (t : TF) (it b : F) : F := fun E s h => (back s (it E s h)).onI fun j u h => match u with | none => forLoop t b E E.fuel j s h | some _ => .bad 142
def raiF (c : Nat) (as : F) : F := fun E s h => (back s (as E s h)).onL fun ds h => match unGs ds with | some _ => .exc c ds s h | none => .bad 134
abbrev HF := Nat → List D → F
def hnil : HF := fun c ds _ s h => .exc c ds s h
/-- the end of a suite with a name -/
def unI (i : Nat) (o : Out) : Out := match o with
  | .nxt s h => .nxt (s.set i none) h | .brk s h => .brk (s.set i none) h | .cnt s h => .cnt (s.set i none) h | o => o
def hcons (cs : List Nat) (i : Option Nat) (b : F) (r : HF) : HF := fun c ds E s h =>
  if cs.any fun k => E.exsub c k then
    (match i with
    | some i => unI i (calm (b { E with cur := some (c, ds) } (s.set i none) h))
    | none => calm (b { E with cur := none } s h))
  else r c ds E s h
def tryF (b : F) (hs : HF) : F := fun E s h => match b E s h with | .exc c ds s h => hs c ds E s h | o => o
def tupOf (d : D) : Option (List D) := match d with | .g (.tup gs) => some (gs.map .g) | .mix _ ds => some ds | .g (.lst gs) => some (gs.map .g) | _ => none
def badF (n : Nat) : F := fun _ _ _ => .bad n
def tailN : T → Nat
  | .cns _ r => tailN r + 1
  | _ => 0

mutual
def den : T → F
  | .var i => varF i | .con d => conF d | .glo g => gloF g | .una n a => unaF n (den a) | .bin op a b => binF op (den a) (den b) | .cmp op a b => cmpF op (den a) (den b)
  | .chn o1 o2 a b c => chnF o1 o2 (den a) (den b) (den c) | .and a b => andF (den a) (den b) | .or a b => orF (den a) (den b) | .ife c a b => ifeF (den c) (den a) (den b)
  | .sub a i => subF (den a) (den i) | .sli a lo hi => sliF (den a) (partF lo (den lo)) (partF hi (den hi)) | .slr a => slrF (den a) | .sls a lo hi st => slsF (den a) (den lo) (den hi) (den st) | .fld a f => fldF (den a) f
  | .tup as => tupF (den as) | .lst as => lstF (den as) | .nil => nilF | .cns a r => cnsF (den a) (den r) | .sta a r => staF (den a) (den r) | .box a => boxF (den a) | .rg as => rgF (den as) | .rgl a b c => rglF (den a) (den b) (den c)
  | .app f as => appF f (den as) | .apk f p as => apkF f p (den as) | .met a m as => metF (den a) m (den as) | .new c as => newF c (den as) | .clv i as => clvF i (den as) | .bmv a m => bmvF (den a) m
  | .blt b as => bltF b (den as) | .mkd a => mkdF (den a) | .srk xs i body => srkF (den xs) i (den body) | .mtd a m as => mtdF (den a) m (den as) | .isa a tys => isaF (den a) tys | .exi i tys => exiF i tys | .exf i => exfF i
  | .cpr elt tgt it ifs own => cprF (den elt) (denT tgt) (den it) (den ifs) own
  | .cp2 elt t0 i0 f0 t1 i1 f1 own own1 => cp2F (den elt) (denT t0) (den i0) (den f0) (denT t1) (den i1) (den f1) own own1
  | .dic as => dicF (den as) | .dcp k v tgt it ifs own => dcpF (den k) (den v) (denT tgt) (den it) (den ifs) own
  | .itx a => itxF (den a) | .itr1 a => itr1F (den a) | .itr2 a b => itr2F (den a) (den b) | .itr3 a b c => itr3F (den a) (den b) (den c) | .ite a => iteF (den a) | .itz a b => itzF (den a) (den b) | .itz3 a b c => itz3F (den a) (den b) (den c) | .iti a => itiF false (den a) | .itv a => itiF true (den a)
  | .asg t e => asgF (denT t) (den e) | .ssr i e => ssrF i (den e) | .xpr e => xprF (den e) | .ret e => retF (den e) | .iff c a b => iffF (den c) (denB a) (denB b) | .whl c b => whlF (den c) (denB b) | .fre t it b => freF (denT t) (den it) (denB b)
  | .rai c as => raiF c (den as) | .try_ b hs => tryF (denB b) (denH hs) | .pas => skpF | .brk => fun _ s h => .brk s h | .cnt => fun _ s h => .cnt s h
  | .tn _ => badF 150 | .tt _ => badF 151 | .ts _ _ => badF 152 | .tf _ _ => badF 153 | .hnd .. => badF 154
def denB : T → F
  | .nil => skpF
  | .cns a r => seqF (den a) (denB r)
  | _ => badF 155
def denT : T → TF
  | .tn i => tnT i
  | .tt ts => fun d E s h => match tupOf d with | some ds => denTs ts ds E s h | none => .bad 156
  | .ts a i => tsT (den a) (den i)
  | .tf a f => tfT (den a) f
  | _ => fun _ => badF 157
def denTs : T → List D → F
  | .nil => ttNil
  | .cns t r => fun ds E s h => match ds with
    | d :: ds => (denT t d E s h).onN fun s h => denTs r ds E s h
    | [] => .bad 158
  | .sta t r => fun ds E s h =>
      if ds.length < tailN r then .bad 159 else (denT t (mkLst (ds.take (ds.length - tailN r))) E s h).onN fun s h => denTs r (ds.drop (ds.length - tailN r)) E s h
  | _ => fun _ => badF 160
def denH : T → HF
  | .hnd cs i b r => hcons cs i (denB b) (denH r)
  | _ => hnil
end

structure Fn where
  np : Nat
  ns : Nat
  pure : Bool
  body : F
instance : Inhabited Fn := ⟨⟨0, 0, false, badF 170⟩⟩

structure Prog where
  fn : Nat → Option Fn
  meth : Nat → Nat → Option Nat
  init : Nat → Option Nat
  attr : Nat → Nat → Bool
  glo : Nat → Option G
  exsub : Nat → Nat → Bool
  exv : Nat → Bool
  fuel : Nat
  rank : Nat → Nat
  deep : Nat → Nat

mutual
def noLst : G → Bool
  | .lst _ => false
  | .tup gs => noLsts gs
  | _ => true
def noLsts : List G → Bool
  | [] => true
  | x :: r => noLst x && noLsts r
end
/-- the arguments of a pure call: plain; told whether a box was opened -/
def argsG (h : Hp) : List D → Option (List D × Bool)
  | [] => some ([], false)
  | d :: r => match argsG h r with
    | none => none
    | some (t, b) => match d with
      | .g x => some (.g x :: t, b)
      | d => (match rd h d with | some x => some (.g x :: t, true) | none => none)
def mkSlots (ds : List D) (ns : Nat) : St := ds.map some ++ List.replicate (ns - ds.length) none
def finish (o : Out) : Out := match o with
  | .ret d h => .val d h | .nxt _ h => .val (.g .non) h | .exc c ds s h => .exc c ds s h | .bad n => .bad n | _ => .bad 171
def pureEnd (f : Nat) (h : Hp) (opened : Bool) (o : Out) : Out := match o with
  | .val d h' => (match rd h' d with
    | some x => if opened then (if noLst x then .val (.g x) h else .bad (10000 + f)) else .val (.g x) h
    | none => .bad (1000 + f))
  | .exc c xs s h' => (match unGs xs with | some gs => if opened then (if noLsts gs then .exc c xs s h else .bad (20000 + f)) else .exc c xs s h | none => .bad (20000 + f))
  | o => o
/-- one function, in a world -/
def runFn (E : Env) (fd : Fn) (f : Nat) (ds : List D) (h : Hp) : Out :=
  if ds.length == fd.np then
    if fd.pure then
      (match argsG h ds with
      | some (ds', b) => pureEnd f h b (finish (fd.body E (mkSlots ds' fd.ns) []))
      | none => .bad (30000 + f))
    else finish (fd.body E (mkSlots ds fd.ns) h)
  else .bad 174
/-! ### classes: by table (class, attributes, methods) -/
abbrev ClT := List (Nat × List Nat × List (Nat × Nat))
def memN (x : Nat) : List Nat → Bool
  | [] => false
  | y :: r => match Nat.beq y x with | true => true | false => memN x r
def lookN (x : Nat) : List (Nat × Nat) → Option Nat
  | [] => none
  | (y, i) :: r => match Nat.beq y x with | true => some i | false => lookN x r
def attrT : ClT → Nat → Nat → Bool
  | [], _, _ => false
  | (c, fs, _) :: r, k, f => match Nat.beq c k with | true => memN f fs | false => attrT r k f
def methT : ClT → Nat → Nat → Option Nat
  | [], _, _ => none
  | (c, _, ms) :: r, k, m => match Nat.beq c k with | true => lookN m ms | false => methT r k m
/-- the name __init__ -/
def INIT : Nat := enc [95, 95, 105, 110, 105, 116, 95, 95]
def initT (t : ClT) (c : Nat) : Option Nat := methT t c INIT
def envP (P : Prog) (call low : Nat → List D → Hp → Out) : Env := { cur := none, call := call, low := low, attr := P.attr, meth := P.meth, init := P.init, glo := P.glo, exsub := P.exsub, exv := P.exv, fuel := P.fuel }
/-- the functions of rank r, over those of lower ranks -/
def callS (P : Prog) (r : Nat) (low : Nat → List D → Hp → Out) : Nat → Nat → List D → Hp → Out
  | 0, _, _, _ => .bad 172
  | n + 1, f, ds, h => match P.fn f with
    | none => .bad 173
    | some fd => runFn (envP P (fun j => match Nat.beq (P.rank j) r with | true => callS P r low n j | false => low j) low) fd f ds h
def callF (P : Prog) : Nat → Nat → List D → Hp → Out
  | 0, _, _, _ => .bad 172
  | r + 1, f, ds, h => match Nat.beq (P.rank f) r with
    | true => callS P r (callF P r) (P.deep r) f ds h
    | false => callF P r f ds h
end Pv
set_option Elab.async false
set_option linter.all false
set_option maxRecDepth 100000
set_option maxHeartbeats 1000000
namespace Pv
open PySem L2

/-! ### strings -/
def encS (n : Nat) : Str := ⟨(dec n).toArray⟩
theorem decF_enc : ∀ (f n : Nat) (acc : List Nat), n < 2 ^ f → ∃ l, decF f n acc = l ++ acc ∧ enc l = n
  | 0, n, acc, h => ⟨[], rfl, by simp at h; subst h; rfl⟩
  | f + 1, n, acc, h => by
    unfold decF
    by_cases hn : n = 0
    · subst hn; exact ⟨[], by simp, rfl⟩
    · have hb : (n == 0) = false := by simp [hn]
      rw [hb]
      have h1 : (n - 1) / B < 2 ^ f := by
        have : (n - 1) / B ≤ (n - 1) / 2 := by
          apply Nat.div_le_div_left (by decide) (by decide)
        have h2 : (n - 1) / 2 < 2 ^ f := by
          rw [Nat.div_lt_iff_lt_mul (by decide)]
          rw [Nat.pow_succ] at h
          omega
        omega
      obtain ⟨l, e, z⟩ := decF_enc f ((n - 1) / B) ((n - 1) % B :: acc) h1
      refine ⟨l ++ [(n - 1) % B], by simp [e], ?_⟩
      unfold enc at z ⊢
      rw [List.foldl_append, z]
      show (n - 1) / B * B + ((n - 1) % B + 1) = n
      have := Nat.div_add_mod (n - 1) B
      rw [Nat.mul_comm] at this
      omega
theorem enc_dec (n : Nat) : enc (dec n) = n := by
  obtain ⟨l, e, z⟩ := decF_enc (n.log2 + 1) n [] (Nat.lt_log2_self)
  unfold dec
  rw [e, List.append_nil]
  exact z
theorem encS_inj {m n : Nat} (h : encS m = encS n) : m = n := by
  have e : (dec m).toArray = (dec n).toArray := by injection h
  have e2 : dec m = dec n := by simpa using congrArg Array.toList e
  rw [← enc_dec m, ← enc_dec n, e2]

/-! ### the relations -/
/-- where a class of the module stands -/
def clA (K : PySem.W.Frag) (c : Nat) : Addr := He.ga K (encS c)
/-- the kept part, and the boxes of the callers -/
structure Yx where
  φ : List Addr
  xn : Option (Nat × Addr × Option (Addr × PySem.Str × G))
structure Kx where
  K : W.Frag
  y : Yx
def Own (K : Kx) (ρ : List Addr) (a : Addr) : Prop := a ∉ ρ ∧ a ∉ K.y.φ
/-- a list that is never written again: no box, or held by the caller -/
def Lv (K : Kx) (H : L2.Hp) (ρ : List Addr) (a : Addr) (vs : List V) : Prop := (H a = some (.lst vs) ∧ Own K ρ a) ∨ ∃ o, H a = some (.frz o (.lst vs))
mutual
def GR (K : Kx) (H : L2.Hp) (ρ : List Addr) : G → V → Prop
  | .non, v => v = .non
  | .bl b, v => v = .bl b
  | .int i, v => v = .int i
  | .str n, v => v = .str (encS n)
  | .tup gs, v => ∃ a vs, v = .ref a ∧ SqT K.K H a vs ∧ GRs K H ρ gs vs
  | .lst gs, v => ∃ a vs, v = .ref a ∧ Lv K H ρ a vs ∧ GRs K H ρ gs vs
  | .rng lo hi, v => ∃ a, v = .ref a ∧ H a = some (.rng lo hi) ∧ -(2 ^ 62) ≤ lo ∧ lo < 2 ^ 62 ∧ -(2 ^ 62) ≤ hi ∧ hi < 2 ^ 62
  | .set xs, v => ∃ a n, v = .ref a ∧ H a = some (.set (fun j => decide (j ∈ xs)) n)
def GRs (K : Kx) (H : L2.Hp) (ρ : List Addr) : List G → List V → Prop
  | [], vs => vs = []
  | x :: r, vs => ∃ v t, vs = v :: t ∧ GR K H ρ x v ∧ GRs K H ρ r t
end
mutual
def DR (K : Kx) (H : L2.Hp) (ρ : List Addr) : D → V → Prop
  | .g x, v => GR K H ρ x v
  | .ref i, v => ∃ a, ρ[i]? = some a ∧ v = .ref a
  | .mix l ds, v => ∃ a vs, v = .ref a ∧ (if l = true then Lv K H ρ a vs else SqT K.K H a vs) ∧ DRs K H ρ ds vs
  | .bm i c m, v => ∃ a p, ρ[i]? = some a ∧ v = .ref p ∧ H p = some (.met (He.ma K.K (clA K.K c) (encS m)) a)
def DRs (K : Kx) (H : L2.Hp) (ρ : List Addr) : List D → List V → Prop
  | [], vs => vs = []
  | x :: r, vs => ∃ v t, vs = v :: t ∧ DR K H ρ x v ∧ DRs K H ρ r t
end

/-- what never changes -/
def Imm : HO → Prop
  | .tup _ => True
  | .rng _ _ => True
  | .set _ _ => True
  | .met _ _ => True
  | .frz _ _ => True
  | _ => False
/-- the heap went on: the boxes ρ may have changed, all else stands -/
structure Ext (ρ : List Addr) (H : L2.Hp) (ρ' : List Addr) (H' : L2.Hp) : Prop where
  pre : ρ <+: ρ'
  new : ∀ a ∈ ρ', a ∈ ρ ∨ H a = none
  keep : ∀ a o, H a = some o → a ∉ ρ → H' a = some o
  imm : ∀ a o, H a = some o → Imm o → H' a = some o
  alive : ∀ a, H' a = none → H a = none
/-- .. and what the callers hold may have changed -/
structure ExtW (φ ρ : List Addr) (H : L2.Hp) (ρ' : List Addr) (H' : L2.Hp) : Prop where
  pre : ρ <+: ρ'
  new : ∀ a ∈ ρ', a ∈ ρ ∨ H a = none
  keep : ∀ a o, H a = some o → a ∉ ρ → a ∉ φ → H' a = some o
  imm : ∀ a o, H a = some o → Imm o → H' a = some o
  alive : ∀ a, H' a = none → H a = none
theorem upd_none {H : L2.Hp} {p a : Addr} {o : HO} (h : L2.upd H p o a = none) : H a = none := by
  unfold L2.upd at h
  split at h
  · cases h
  · exact h
section
variable {K : Kx} {ρ ρ' ρ1 ρ2 : List Addr} {H H' H1 H2 : L2.Hp}
theorem Ext.w (x : Ext ρ H ρ' H') (φ : List Addr) : ExtW φ ρ H ρ' H' := ⟨x.pre, x.new, fun a o h n _ => x.keep a o h n, x.imm, x.alive⟩
theorem Ext.refl : Ext ρ H ρ H := ⟨List.prefix_refl _, fun a h => .inl h, fun _ _ h _ => h, fun _ _ h _ => h, fun _ h => h⟩
theorem Ext.trans (x : Ext ρ H ρ1 H1) (y : Ext ρ1 H1 ρ2 H2) : Ext ρ H ρ2 H2 where
  pre := x.pre.trans y.pre
  new := fun a h => by
    rcases y.new a h with z | z
    · exact x.new a z
    · cases q : H a with
      | none => exact .inr rfl
      | some o =>
        by_cases hr : a ∈ ρ
        · exact .inl hr
        · rw [x.keep a o q hr] at z; cases z
  keep := fun a o h hr => y.keep a o (x.keep a o h hr) fun z => by
    rcases x.new a z with q | q
    · exact hr q
    · rw [h] at q; cases q
  imm := fun a o h i => y.imm a o (x.imm a o h i) i
  alive := fun a h => x.alive a (y.alive a h)
theorem ExtW.ext {φ : List Addr} (x : ExtW φ ρ H ρ1 H1) (y : Ext ρ1 H1 ρ2 H2) : ExtW φ ρ H ρ2 H2 where
  pre := x.pre.trans y.pre
  new := fun a h => (y.new a h).elim (x.new a) fun z => .inr (x.alive a z)
  keep := fun a o h n m => y.keep a o (x.keep a o h n m) fun z => (x.new a z).elim n fun q => by rw [h] at q; cases q
  imm := fun a o h i => y.imm a o (x.imm a o h i) i
  alive := fun a h => x.alive a (y.alive a h)
theorem ExtW.put {φ : List Addr} {p : Addr} {o u : HO} (x : ExtW φ ρ H ρ1 H1) (hp : p ∈ φ) (hu : H1 p = some u) (ni : ¬ Imm u) (ha : ∀ v, H p = some v → ¬ Imm v) : ExtW φ ρ H ρ1 (L2.upd H1 p o) where
  pre := x.pre
  new := x.new
  keep := fun a v h n m => by rw [upd_ne fun e => m (by rw [e]; exact hp)]; exact x.keep a v h n m
  imm := fun a v h i => by rw [upd_ne fun e => by subst e; exact ha v h i]; exact x.imm a v h i
  alive := fun a h => x.alive a (upd_none h)
theorem ExtW.get {φ : List Addr} (x : ExtW φ ρ H ρ' H') {i : Nat} {a : Addr} (h : ρ[i]? = some a) : ρ'[i]? = some a := by
  obtain ⟨t, rfl⟩ := x.pre
  rw [List.getElem?_append_left (List.getElem?_eq_some_iff.mp h).1]; exact h
theorem Ext.get (x : Ext ρ H ρ' H') {i : Nat} {a : Addr} (h : ρ[i]? = some a) : ρ'[i]? = some a := (x.w []).get h
/-- a new object that is no box -/
theorem Ext.upd {p : Addr} {o : HO} (hp : H p = none) : Ext ρ H ρ (upd H p o) :=
  ⟨List.prefix_refl _, fun a h => .inl h, fun a u h _ => by rw [upd_ne (ne_of_none h hp)]; exact h, fun a u h _ => by rw [upd_ne (ne_of_none h hp)]; exact h, fun _ h => upd_none h⟩
theorem Ext.box {p : Addr} {o : HO} (hp : H p = none) : Ext ρ H (ρ ++ [p]) (L2.upd H p o) :=
  ⟨List.prefix_append _ _, fun a h => by
    rcases List.mem_append.mp h with z | z
    · exact .inl z
    · have e : a = p := by simpa using z
      subst e; exact .inr hp, fun a u h _ => by rw [upd_ne (ne_of_none h hp)]; exact h, fun a u h _ => by rw [upd_ne (ne_of_none h hp)]; exact h, fun _ h => upd_none h⟩
theorem Ext.write {p : Addr} {o u : HO} (hp : p ∈ ρ) (hu : H p = some u) (hi : ¬ Imm u) : Ext ρ H ρ (L2.upd H p o) :=
  ⟨List.prefix_refl _, fun a h => .inl h, fun a v h hr => by rw [upd_ne (fun e : a = p => hr (by rw [e]; exact hp))]; exact h, fun a v h i => by
    rw [upd_ne (fun e => by subst e; rw [hu] at h; cases h; exact hi i)]; exact h, fun _ h => upd_none h⟩
theorem lst_extW (x : ExtW K.y.φ ρ H ρ' H') {a : Addr} {vs : List V} (h : H a = some (.lst vs)) (hr : Own K ρ a) : H' a = some (.lst vs) ∧ Own K ρ' a :=
  ⟨x.keep a _ h hr.1 hr.2, fun z => (x.new a z).elim hr.1 (by rw [h]; simp), hr.2⟩
theorem Lv.extW (x : ExtW K.y.φ ρ H ρ' H') {a : Addr} {vs : List V} (h : Lv K H ρ a vs) : Lv K H' ρ' a vs := by
  rcases h with ⟨h, n⟩ | ⟨o, h⟩
  · exact .inl (lst_extW x h n)
  · exact .inr ⟨o, x.imm a _ h trivial⟩
theorem Lv.rd {a : Addr} {vs : List V} (h : Lv K H ρ a vs) : Rd H a (.lst vs) := by
  rcases h with ⟨h, n⟩ | ⟨o, h⟩
  · exact .inl h
  · exact .inr ⟨o, h⟩
theorem SqT.extW {K : W.Frag} {φ : List Addr} (x : ExtW φ ρ H ρ' H') {a : Addr} {vs : List V} (h : SqT K H a vs) : SqT K H' a vs := by
  rcases h with (h | ⟨o, h⟩) | h
  · exact .inl (.inl (x.imm a _ h trivial))
  · exact .inl (.inr ⟨o, x.imm a _ h trivial⟩)
  · exact .inr h
mutual
theorem GR.extW (x : ExtW K.y.φ ρ H ρ' H') : ∀ {g : G} {v : V}, GR K H ρ g v → GR K H' ρ' g v
  | .non, v, h => by unfold GR at h ⊢; exact h
  | .bl b, v, h => by unfold GR at h ⊢; exact h
  | .int i, v, h => by unfold GR at h ⊢; exact h
  | .str n, v, h => by unfold GR at h ⊢; exact h
  | .tup gs, v, h => by
    unfold GR at h ⊢
    obtain ⟨a, vs, e, s, r⟩ := h
    exact ⟨a, vs, e, SqT.extW x s, GRs.extW x r⟩
  | .lst gs, v, h => by
    unfold GR at h ⊢
    obtain ⟨a, vs, e, s, r⟩ := h
    exact ⟨a, vs, e, s.extW x, GRs.extW x r⟩
  | .rng lo hi, v, h => by
    unfold GR at h ⊢
    obtain ⟨a, e, s, b⟩ := h
    exact ⟨a, e, x.imm _ _ s trivial, b⟩
  | .set xs, v, h => by
    unfold GR at h ⊢
    obtain ⟨a, n, e, s⟩ := h
    exact ⟨a, n, e, x.imm _ _ s trivial⟩
theorem GRs.extW (x : ExtW K.y.φ ρ H ρ' H') : ∀ {gs : List G} {vs : List V}, GRs K H ρ gs vs → GRs K H' ρ' gs vs
  | [], vs, h => by unfold GRs at h ⊢; exact h
  | g :: r, vs, h => by
    unfold GRs at h ⊢
    obtain ⟨v, t, e, h1, h2⟩ := h
    exact ⟨v, t, e, GR.extW x h1, GRs.extW x h2⟩
end
mutual
theorem DR.extW (x : ExtW K.y.φ ρ H ρ' H') : ∀ {d : D} {v : V}, DR K H ρ d v → DR K H' ρ' d v
  | .g g, v, h => by unfold DR at h ⊢; exact GR.extW x h
  | .ref i, v, h => by
    unfold DR at h ⊢
    obtain ⟨a, e, q⟩ := h
    exact ⟨a, x.get e, q⟩
  | .mix l ds, v, h => by
    unfold DR at h ⊢
    obtain ⟨a, vs, e, s, r⟩ := h
    refine ⟨a, vs, e, ?_, DRs.extW x r⟩
    cases l with
    | true =>
      have s : Lv K H ρ a vs := s
      exact s.extW x
    | false => exact SqT.extW x s
  | .bm i c m, v, h => by
    unfold DR at h ⊢
    obtain ⟨a, p, e, q, s⟩ := h
    exact ⟨a, p, x.get e, q, x.imm _ _ s trivial⟩
theorem DRs.extW (x : ExtW K.y.φ ρ H ρ' H') : ∀ {ds : List D} {vs : List V}, DRs K H ρ ds vs → DRs K H' ρ' ds vs
  | [], vs, h => by unfold DRs at h ⊢; exact h
  | g :: r, vs, h => by
    unfold DRs at h ⊢
    obtain ⟨v, t, e, h1, h2⟩ := h
    exact ⟨v, t, e, DR.extW x h1, DRs.extW x h2⟩
end
theorem Lv.ext (x : Ext ρ H ρ' H') {a : Addr} {vs : List V} (h : Lv K H ρ a vs) : Lv K H' ρ' a vs := h.extW (x.w _)
theorem SqT.ext {K : W.Frag} (x : Ext ρ H ρ' H') {a : Addr} {vs : List V} (h : SqT K H a vs) : SqT K H' a vs := SqT.extW (x.w []) h
theorem lst_ext (x : Ext ρ H ρ' H') {a : Addr} {vs : List V} (h : H a = some (.lst vs)) (hr : Own K ρ a) : H' a = some (.lst vs) ∧ Own K ρ' a := lst_extW (x.w _) h hr
theorem GR.ext (x : Ext ρ H ρ' H') {g : G} {v : V} (h : GR K H ρ g v) : GR K H' ρ' g v := GR.extW (x.w _) h
theorem GRs.ext (x : Ext ρ H ρ' H') {g : List G} {v : List V} (h : GRs K H ρ g v) : GRs K H' ρ' g v := GRs.extW (x.w _) h
theorem DR.ext (x : Ext ρ H ρ' H') {g : D} {v : V} (h : DR K H ρ g v) : DR K H' ρ' g v := DR.extW (x.w _) h
theorem DRs.ext (x : Ext ρ H ρ' H') {g : List D} {v : List V} (h : DRs K H ρ g v) : DRs K H' ρ' g v := DRs.extW (x.w _) h
theorem GRs.length : ∀ {gs : List G} {vs : List V}, GRs K H ρ gs vs → gs.length = vs.length
  | [], vs, h => by unfold GRs at h; subst h; rfl
  | g :: r, vs, h => by
    unfold GRs at h
    obtain ⟨v, t, rfl, _, h2⟩ := h
    simp [GRs.length h2]
theorem DRs.length : ∀ {gs : List D} {vs : List V}, DRs K H ρ gs vs → gs.length = vs.length
  | [], vs, h => by unfold DRs at h; subst h; rfl
  | g :: r, vs, h => by
    unfold DRs at h
    obtain ⟨v, t, rfl, _, h2⟩ := h
    simp [DRs.length h2]
theorem GRs.toD : ∀ {gs : List G} {vs : List V}, GRs K H ρ gs vs → DRs K H ρ (gs.map .g) vs
  | [], vs, h => by unfold GRs at h; unfold List.map DRs; exact h
  | g :: r, vs, h => by
    unfold GRs at h
    obtain ⟨v, t, e, h1, h2⟩ := h
    show DRs K H ρ (.g g :: r.map .g) vs
    unfold DRs
    exact ⟨v, t, e, by unfold DR; exact h1, GRs.toD h2⟩
theorem DRs.toG : ∀ {ds : List D} {gs : List G} {vs : List V}, unGs ds = some gs → DRs K H ρ ds vs → GRs K H ρ gs vs
  | [], gs, vs, e, h => by
    unfold unGs at e; cases e; unfold DRs at h; unfold GRs; exact h
  | .g x :: r, gs, vs, e, h => by
    unfold unGs at e
    cases q : unGs r with
    | none => rw [q] at e; cases e
    | some t =>
      rw [q] at e; cases e
      unfold DRs at h
      obtain ⟨v, tl, e2, h1, h2⟩ := h
      unfold GRs
      exact ⟨v, tl, e2, by unfold DR at h1; exact h1, DRs.toG q h2⟩
  | .ref _ :: r, gs, vs, e, h => by simp [unGs] at e
  | .mix _ _ :: r, gs, vs, e, h => by simp [unGs] at e
  | .bm _ _ _ :: r, gs, vs, e, h => by simp [unGs] at e
theorem GRs.get : ∀ {gs : List G} {vs : List V} {i : Nat} {x : G}, GRs K H ρ gs vs → gs[i]? = some x → ∃ v, vs[i]? = some v ∧ GR K H ρ x v
  | [], _, _, _, _, e => by simp at e
  | g :: r, vs, 0, x, h, e => by
    unfold GRs at h
    obtain ⟨v, t, rfl, h1, _⟩ := h
    simp at e; subst e; exact ⟨v, by simp, h1⟩
  | g :: r, vs, i + 1, x, h, e => by
    unfold GRs at h
    obtain ⟨v, t, rfl, _, h2⟩ := h
    obtain ⟨u, h3, h4⟩ := GRs.get (i := i) h2 (by simpa using e)
    exact ⟨u, by simpa using h3, h4⟩
theorem DRs.get : ∀ {gs : List D} {vs : List V} {i : Nat} {x : D}, DRs K H ρ gs vs → gs[i]? = some x → ∃ v, vs[i]? = some v ∧ DR K H ρ x v
  | [], _, _, _, _, e => by simp at e
  | g :: r, vs, 0, x, h, e => by
    unfold DRs at h
    obtain ⟨v, t, rfl, h1, _⟩ := h
    simp at e; subst e; exact ⟨v, by simp, h1⟩
  | g :: r, vs, i + 1, x, h, e => by
    unfold DRs at h
    obtain ⟨v, t, rfl, _, h2⟩ := h
    obtain ⟨u, h3, h4⟩ := DRs.get (i := i) h2 (by simpa using e)
    exact ⟨u, by simpa using h3, h4⟩
theorem DRs.append : ∀ {xs ys : List D} {us vs : List V}, DRs K H ρ xs us → DRs K H ρ ys vs → DRs K H ρ (xs ++ ys) (us ++ vs)
  | [], ys, us, vs, h, k => by unfold DRs at h; subst h; exact k
  | x :: r, ys, us, vs, h, k => by
    unfold DRs at h
    obtain ⟨v, t, rfl, h1, h2⟩ := h
    show DRs K H ρ (x :: (r ++ ys)) (v :: (t ++ vs))
    unfold DRs
    exact ⟨v, _, rfl, h1, DRs.append h2 k⟩
theorem GRs.append : ∀ {xs ys : List G} {us vs : List V}, GRs K H ρ xs us → GRs K H ρ ys vs → GRs K H ρ (xs ++ ys) (us ++ vs)
  | [], ys, us, vs, h, k => by unfold GRs at h; subst h; exact k
  | x :: r, ys, us, vs, h, k => by
    unfold GRs at h
    obtain ⟨v, t, rfl, h1, h2⟩ := h
    show GRs K H ρ (x :: (r ++ ys)) (v :: (t ++ vs))
    unfold GRs
    exact ⟨v, _, rfl, h1, GRs.append h2 k⟩
theorem DRs.one {d : D} {v : V} (h : DR K H ρ d v) : DRs K H ρ [d] [v] := by
  unfold DRs; exact ⟨v, [], rfl, h, by unfold DRs; rfl⟩
theorem DRs.nil : DRs K H ρ [] [] := by unfold DRs; rfl
theorem DRs.cons {d : D} {v : V} {ds : List D} {vs : List V} (h : DR K H ρ d v) (t : DRs K H ρ ds vs) : DRs K H ρ (d :: ds) (v :: vs) := by
  unfold DRs; exact ⟨v, vs, rfl, h, t⟩
theorem GRs.nil : GRs K H ρ [] [] := by unfold GRs; rfl
theorem GRs.cons {d : G} {v : V} {ds : List G} {vs : List V} (h : GR K H ρ d v) (t : GRs K H ρ ds vs) : GRs K H ρ (d :: ds) (v :: vs) := by
  unfold GRs; exact ⟨v, vs, rfl, h, t⟩
theorem DRs.inv {d : D} {ds : List D} {vs : List V} (h : DRs K H ρ (d :: ds) vs) : ∃ v t, vs = v :: t ∧ DR K H ρ d v ∧ DRs K H ρ ds t := by unfold DRs at h; exact h
theorem GRs.inv {d : G} {ds : List G} {vs : List V} (h : GRs K H ρ (d :: ds) vs) : ∃ v t, vs = v :: t ∧ GR K H ρ d v ∧ GRs K H ρ ds t := by unfold GRs at h; exact h
theorem DRs.inv0 {vs : List V} (h : DRs K H ρ [] vs) : vs = [] := by unfold DRs at h; exact h
theorem GRs.inv0 {vs : List V} (h : GRs K H ρ [] vs) : vs = [] := by unfold GRs at h; exact h
theorem DRs.set {x : D} {v : V} (hx : DR K H ρ x v) : ∀ {ds : List D} {vs : List V} (i : Nat), DRs K H ρ ds vs → DRs K H ρ (ds.set i x) (vs.set i v)
  | [], vs, i, h => by cases h.inv0; exact DRs.nil
  | d :: r, vs, 0, h => by
    obtain ⟨u, t, rfl, h1, h2⟩ := h.inv
    exact DRs.cons hx h2
  | d :: r, vs, i + 1, h => by
    obtain ⟨u, t, rfl, h1, h2⟩ := h.inv
    exact DRs.cons h1 (DRs.set hx i h2)
theorem DRs.take : ∀ {ds : List D} {vs : List V} (n : Nat), DRs K H ρ ds vs → DRs K H ρ (ds.take n) (vs.take n)
  | _, _, 0, _ => by simp; exact DRs.nil
  | [], vs, n + 1, h => by cases h.inv0; exact DRs.nil
  | d :: r, vs, n + 1, h => by
    obtain ⟨u, t, rfl, h1, h2⟩ := h.inv
    exact DRs.cons h1 (DRs.take n h2)
theorem DRs.drop : ∀ {ds : List D} {vs : List V} (n : Nat), DRs K H ρ ds vs → DRs K H ρ (ds.drop n) (vs.drop n)
  | _, _, 0, h => h
  | [], vs, n + 1, h => by cases h.inv0; exact DRs.nil
  | d :: r, vs, n + 1, h => by
    obtain ⟨u, t, rfl, h1, h2⟩ := h.inv
    exact DRs.drop n h2
theorem GRs.take : ∀ {ds : List G} {vs : List V} (n : Nat), GRs K H ρ ds vs → GRs K H ρ (ds.take n) (vs.take n)
  | _, _, 0, _ => by simp; exact GRs.nil
  | [], vs, n + 1, h => by cases h.inv0; exact GRs.nil
  | d :: r, vs, n + 1, h => by
    obtain ⟨u, t, rfl, h1, h2⟩ := h.inv
    exact GRs.cons h1 (GRs.take n h2)
theorem GRs.drop : ∀ {ds : List G} {vs : List V} (n : Nat), GRs K H ρ ds vs → GRs K H ρ (ds.drop n) (vs.drop n)
  | _, _, 0, h => h
  | [], vs, n + 1, h => by cases h.inv0; exact GRs.nil
  | d :: r, vs, n + 1, h => by
    obtain ⟨u, t, rfl, h1, h2⟩ := h.inv
    exact GRs.drop n h2
end

/-! ### the boxes -/
/-- a key of a dict: an int or a text -/
def keyG : G → Option Key
  | .int i => some (.inl i)
  | .str n => some (.inr (encS n))
  | _ => none
/-- a dict's items -/
def KRs (K : Kx) (H : L2.Hp) (ρ : List Addr) : List (G × D) → List (Key × V) → Prop
  | [], xs => xs = []
  | p :: r, xs => ∃ k v t, xs = (k, v) :: t ∧ keyG p.1 = some k ∧ DR K H ρ p.2 v ∧ KRs K H ρ r t
theorem KRs.map {K K2 : Kx} {H H2 : L2.Hp} {ρ ρ2 : List Addr} (f : ∀ d v, DR K H ρ d v → DR K2 H2 ρ2 d v) : ∀ {kvs : List (G × D)} {xs : List (Key × V)}, KRs K H ρ kvs xs → KRs K2 H2 ρ2 kvs xs
  | [], _, h => h
  | _ :: _, _, h => by
    obtain ⟨k, v, t, e, e2, h1, h2⟩ := h
    exact ⟨k, v, t, e, e2, f _ _ h1, KRs.map f h2⟩
theorem KRs.empty {K : Kx} {H : L2.Hp} {ρ : List Addr} : ∀ {kvs : List (G × D)} {xs : List (Key × V)}, KRs K H ρ kvs xs → kvs.isEmpty = xs.isEmpty
  | [], _, h => by cases (show _ = [] from h); rfl
  | _ :: _, _, h => by obtain ⟨k, v, t, e, _⟩ := h; rw [e]; rfl
theorem KRs.length {K : Kx} {H : L2.Hp} {ρ : List Addr} : ∀ {kvs : List (G × D)} {xs : List (Key × V)}, KRs K H ρ kvs xs → kvs.length = xs.length
  | [], _, h => by cases (show _ = [] from h); rfl
  | _ :: r, _, h => by obtain ⟨k, v, t, e, _, _, h2⟩ := h; rw [e, List.length_cons, List.length_cons, KRs.length h2]
/-- an instance's attributes -/
def FRs (K : Kx) (H : L2.Hp) (ρ : List Addr) : List (Nat × D) → List (PySem.Str × V) → Prop
  | [], xs => xs = []
  | p :: r, xs => ∃ v t, xs = (encS p.1, v) :: t ∧ DR K H ρ p.2 v ∧ FRs K H ρ r t
theorem FRs.map {K K2 : Kx} {H H2 : L2.Hp} {ρ ρ2 : List Addr} (f : ∀ d v, DR K H ρ d v → DR K2 H2 ρ2 d v) : ∀ {fs : List (Nat × D)} {xs : List (PySem.Str × V)}, FRs K H ρ fs xs → FRs K2 H2 ρ2 fs xs
  | [], _, h => h
  | _ :: _, _, h => by
    obtain ⟨v, t, e, h1, h2⟩ := h
    exact ⟨v, t, e, f _ _ h1, FRs.map f h2⟩
theorem FRs.length {K : Kx} {H : L2.Hp} {ρ : List Addr} : ∀ {fs : List (Nat × D)} {xs : List (PySem.Str × V)}, FRs K H ρ fs xs → fs.length = xs.length
  | [], _, h => by cases (show _ = [] from h); rfl
  | _ :: r, _, h => by obtain ⟨v, t, e, _, h2⟩ := h; rw [e, List.length_cons, List.length_cons, FRs.length h2]
def OR (K : Kx) (H : L2.Hp) (ρ : List Addr) : O → Addr → Prop
  | .lst ds, a => ∃ vs, H a = some (.lst vs) ∧ DRs K H ρ ds vs
  | .dic kvs, a => ∃ xs, H a = some (.dK xs) ∧ KRs K H ρ kvs xs
  | .ins c fs, a => ∃ dx xs, H a = some (.ins (clA K.K c) dx xs) ∧ FRs K H ρ fs xs
  | _, _ => False
structure HR (K : Kx) (ρ : List Addr) (h : Hp) (H : L2.Hp) : Prop where
  len : ρ.length = h.length
  nd : ρ.Nodup
  al : ∀ a ∈ K.y.φ, H a ≠ none
  obj : ∀ (i : Nat) (o : O) (a : Addr), h[i]? = some o → ρ[i]? = some a → OR K H ρ o a
section
variable {K : Kx} {ρ ρ' : List Addr} {H H' : L2.Hp} {h : Hp}
theorem OR.some {o : O} {a : Addr} (r : OR K H ρ o a) : ∃ u, H a = some u ∧ ¬ Imm u := by
  cases o with
  | lst ds => obtain ⟨vs, e, _⟩ := r; exact ⟨_, e, id⟩
  | dic kvs => obtain ⟨vs, e, _⟩ := r; exact ⟨_, e, id⟩
  | ins c fs => obtain ⟨dx, xs, e, _⟩ := r; exact ⟨_, e, id⟩
  | _ => exact r.elim
theorem HR.some (r : HR K ρ h H) {a : Addr} (ha : a ∈ ρ) : ∃ u, H a = some u ∧ ¬ Imm u := by
  obtain ⟨i, hi, e⟩ := List.mem_iff_getElem.mp ha
  have hi' : i < h.length := by rw [← r.len]; exact hi
  exact OR.some (r.obj i h[i] a (by simp [hi']) (by rw [List.getElem?_eq_getElem hi, e]))
theorem HR.fresh (r : HR K ρ h H) {p : Addr} (hp : H p = none) : p ∉ ρ := fun z => by
  obtain ⟨u, e, _⟩ := r.some z
  rw [hp] at e; cases e
theorem HR.own (r : HR K ρ h H) {p : Addr} (hp : H p = none) : Own K ρ p := ⟨r.fresh hp, fun z => r.al p z hp⟩
theorem al_upd {φ : List Addr} (al : ∀ a ∈ φ, H a ≠ none) {p : Addr} {o : HO} : ∀ a ∈ φ, L2.upd H p o a ≠ none := fun a ha => by
  unfold L2.upd
  by_cases e : a = p
  · simp [e]
  · simp [e]; exact al a ha
/-- all objects at the boxes kept -/
theorem OR.ext (x : Ext ρ H ρ' H') {o : O} {a : Addr} (k : H' a = H a) (r : OR K H ρ o a) : OR K H' ρ' o a := by
  cases o with
  | lst ds => obtain ⟨vs, e, d⟩ := r; exact ⟨vs, k.trans e, d.ext x⟩
  | dic kvs => obtain ⟨vs, e, d⟩ := r; exact ⟨vs, k.trans e, d.map fun _ _ q => q.ext x⟩
  | ins c fs => obtain ⟨dx, vs, e, d⟩ := r; exact ⟨dx, vs, k.trans e, d.map fun _ _ q => q.ext x⟩
  | _ => exact r.elim
/-- a new object that is no box -/
theorem HR.upd (r : HR K ρ h H) {p : Addr} {o : HO} (hp : H p = none) : HR K ρ h (L2.upd H p o) :=
  ⟨r.len, r.nd, al_upd r.al, fun i ob a h1 h2 => (r.obj i ob a h1 h2).ext (Ext.upd hp) (upd_ne fun e => by
    have := r.fresh hp
    exact this (e ▸ List.mem_of_getElem? h2))⟩
/-- a new box -/
theorem HR.box (r : HR K ρ h H) {p : Addr} {o : HO} {ob : O} (hp : H p = none) (new : OR K (L2.upd H p o) (ρ ++ [p]) ob p) : HR K (ρ ++ [p]) (h ++ [ob]) (L2.upd H p o) where
  len := by simp [r.len]
  nd := by
    rw [List.nodup_append]
    refine ⟨r.nd, by simp, fun a ha b hb => ?_⟩
    have e : b = p := by simpa using hb
    subst e
    exact fun e => r.fresh hp (e ▸ ha)
  al := al_upd r.al
  obj := fun i u a h1 h2 => by
    by_cases hi : i < h.length
    · rw [List.getElem?_append_left hi] at h1
      rw [List.getElem?_append_left (by rw [r.len]; exact hi)] at h2
      exact (r.obj i u a h1 h2).ext (Ext.box hp) (upd_ne fun e => r.fresh hp (e ▸ List.mem_of_getElem? h2))
    · have hl : i < (h ++ [ob]).length := (List.getElem?_eq_some_iff.mp h1).1
      simp at hl
      have e : i = h.length := by omega
      subst e
      rw [List.getElem?_append_right (Nat.le_refl _)] at h1
      rw [← r.len, List.getElem?_append_right (Nat.le_refl _)] at h2
      simp at h1 h2
      subst h1; subst h2
      exact new
theorem HR.write (r : HR K ρ h H) {i : Nat} {p : Addr} {o : HO} {ob : O} (hi : ρ[i]? = Option.some p) (new : OR K (L2.upd H p o) ρ ob p) : HR K ρ (h.set i ob) (L2.upd H p o) where
  len := by simp [r.len]
  nd := r.nd
  al := al_upd r.al
  obj := fun j u a h1 h2 => by
    have hp : p ∈ ρ := List.mem_of_getElem? hi
    obtain ⟨v, e, ni⟩ := r.some hp
    by_cases hj : j = i
    · subst hj
      have hl : j < h.length := by
        have := (List.getElem?_eq_some_iff.mp h1).1
        simpa using this
      rw [List.getElem?_set_self hl] at h1
      rw [hi] at h2; cases h1; cases h2
      exact new
    · rw [List.getElem?_set_ne (Ne.symm hj)] at h1
      have ne : a ≠ p := fun e => hj (by
        subst e
        have l1 := (List.getElem?_eq_some_iff.mp h2)
        have l2 := (List.getElem?_eq_some_iff.mp hi)
        obtain ⟨q1, q2⟩ := l1
        obtain ⟨q3, q4⟩ := l2
        exact (List.getElem_inj r.nd).mp (q2.trans q4.symm))
      exact (r.obj j u a h1 h2).ext (Ext.write hp e ni) (upd_ne ne)
theorem HR.lst (r : HR K ρ h H) {i : Nat} {a : Addr} {ds : List D} (hi : ρ[i]? = Option.some a) (e : h[i]? = Option.some (.lst ds)) : ∃ vs, H a = Option.some (.lst vs) ∧ DRs K H ρ ds vs := r.obj i _ a e hi
theorem HR.dic (r : HR K ρ h H) {i : Nat} {a : Addr} {kvs : List (G × D)} (hi : ρ[i]? = Option.some a) (e : h[i]? = Option.some (.dic kvs)) : ∃ xs, H a = Option.some (.dK xs) ∧ KRs K H ρ kvs xs := r.obj i _ a e hi
theorem HR.ins (r : HR K ρ h H) {i : Nat} {a : Addr} {c : Nat} {fs : List (Nat × D)} (hi : ρ[i]? = Option.some a) (e : h[i]? = Option.some (.ins c fs)) : ∃ dx xs, H a = Option.some (.ins (clA K.K c) dx xs) ∧ FRs K H ρ fs xs := r.obj i _ a e hi
theorem HR.at (r : HR K ρ h H) {i : Nat} {o : O} (e : h[i]? = Option.some o) : ∃ a, ρ[i]? = Option.some a := by
  have hl : i < ρ.length := by rw [r.len]; exact (List.getElem?_eq_some_iff.mp e).1
  exact ⟨ρ[i], by simp [hl]⟩
end
end Pv
set_option Elab.async false
set_option linter.all false
set_option maxRecDepth 100000
set_option maxHeartbeats 1000000
namespace Pv
open PySem L2 PySem.Spec PyProof.Rows
/-! ### dicts -/
theorem keyG_ok {g : G} (h : keyOk g = true) : ∃ k, keyG g = some k := by
  cases g <;> first | exact ⟨_, rfl⟩ | cases h
theorem keyG_kV {K : Kx} {H : L2.Hp} {ρ : List Addr} {g : G} {k : Key} {v : V} (h : keyG g = some k) (d : GR K H ρ g v) : v = kV k := by
  cases g <;> simp only [keyG] at h <;> first | (cases h; unfold GR at d; exact d) | cases h
theorem eqK_ok {a b : G} {k k' : Key} (h1 : keyG a = some k) (h2 : keyG b = some k') : eqK a b = decide (k = k') := by
  cases a <;> simp only [keyG] at h1 <;> (try cases h1) <;> cases b <;> simp only [keyG] at h2 <;> (try cases h2)
  · rw [key_ll]; rfl
  · rw [key_lr]; rfl
  · rw [key_rl]; rfl
  · rename_i n m
    rw [key_rr]
    show (n == m) = decide (encS n = encS m)
    by_cases e : n = m
    · subst e; simp
    · rw [decide_eq_false fun q => e (encS_inj q)]
      simpa using e
theorem KRs.get {K : Kx} {H : L2.Hp} {ρ : List Addr} {g : G} {k : Key} (hk : keyG g = some k) : ∀ {kvs : List (G × D)} {xs : List (Key × V)}, KRs K H ρ kvs xs →
    (getK0 g kvs = none → valV xs k = none) ∧ ∀ d, getK0 g kvs = some d → ∃ v, valV xs k = some v ∧ DR K H ρ d v
  | [], _, h => by cases (show _ = [] from h); exact ⟨fun _ => rfl, fun d e => by cases e⟩
  | (k', d') :: r, _, h => by
    obtain ⟨j, v, t, rfl, e1, e2, e3⟩ := h
    have q := eqK_ok e1 hk
    have ih := KRs.get hk e3
    unfold getK0
    by_cases z : j = k
    · rw [q, decide_eq_true z]
      refine ⟨nofun, fun d e => ?_⟩
      cases e
      exact ⟨v, valV_pos z, e2⟩
    · rw [q, decide_eq_false z]
      rw [valV_neg (p := (j, v)) z]
      exact ih
theorem KRs.snoc {K : Kx} {H : L2.Hp} {ρ : List Addr} {g : G} {k : Key} {d : D} {v : V} (hk : keyG g = some k) (hd : DR K H ρ d v) : ∀ {kvs : List (G × D)} {xs : List (Key × V)}, KRs K H ρ kvs xs → KRs K H ρ (kvs ++ [(g, d)]) (xs ++ [(k, v)])
  | [], _, h => by cases (show _ = [] from h); exact ⟨k, v, [], rfl, hk, hd, rfl⟩
  | (k', d') :: r, _, h => by
    obtain ⟨j, u, t, rfl, e1, e2, e3⟩ := h
    exact ⟨j, u, _, rfl, e1, e2, KRs.snoc hk hd e3⟩
theorem KRs.rep {K : Kx} {H : L2.Hp} {ρ : List Addr} {g : G} {k : Key} {d : D} {v : V} (hk : keyG g = some k) (hd : DR K H ρ d v) : ∀ {kvs : List (G × D)} {xs : List (Key × V)}, KRs K H ρ kvs xs → KRs K H ρ (repK g d kvs) (xs.map fun kv => if kv.1 = k then (kv.1, v) else kv)
  | [], _, h => by cases (show _ = [] from h); rfl
  | (k', d') :: r, _, h => by
    obtain ⟨j, u, t, rfl, e1, e2, e3⟩ := h
    have q := eqK_ok e1 hk
    have ih := KRs.rep hk hd e3
    unfold repK
    by_cases z : j = k
    · rw [q, decide_eq_true z, List.map_cons, if_pos z]
      exact ⟨j, v, _, rfl, e1, hd, ih⟩
    · rw [q, decide_eq_false z, List.map_cons, if_neg z]
      exact ⟨j, u, _, rfl, e1, e2, ih⟩
theorem KRs.put {K : Kx} {H : L2.Hp} {ρ : List Addr} {g : G} {k : Key} {d : D} {v : V} (hk : keyG g = some k) (hd : DR K H ρ d v) {kvs : List (G × D)} {xs : List (Key × V)} (h : KRs K H ρ kvs xs) : KRs K H ρ (putK0 g d kvs) (L2.putK xs k v) := by
  have q := h.get hk
  unfold putK0 L2.putK
  rw [valV_any]
  cases e : getK0 g kvs with
  | none => rw [q.1 e]; exact h.snoc hk hd
  | some d' =>
    obtain ⟨w, e2, _⟩ := q.2 d' e
    rw [e2]
    exact h.rep hk hd
/-- what stands at a key -/
theorem dic_look {K : Kx} {ρ : List Addr} {h : Hp} {H : L2.Hp} (hr : HR K ρ h H) {i : Nat} {g : G} {v u : V} {kvs : List (G × D)} {o : Option D} (dx : DR K H ρ (.ref i) v) (q : h[i]? = some (.dic kvs)) (dg : GR K H ρ g u) (e : getK g kvs = some o) :
    ∃ a w, v = .ref a ∧ DGet H a u w ∧ w.isSome = o.isSome ∧ ∀ d, o = some d → ∃ z, w = some z ∧ DR K H ρ d z := by
  unfold DR at dx
  obtain ⟨a, ha, rfl⟩ := dx
  obtain ⟨xs, hv, kr⟩ := hr.dic ha q
  unfold getK at e
  cases ko : keyOk g with
  | false => rw [ko] at e; cases e
  | true =>
    rw [ko] at e
    obtain ⟨k, hk⟩ := keyG_ok ko
    have w := kr.get hk
    refine ⟨a, valV xs k, rfl, ?_, ?_, ?_⟩
    · rw [keyG_kV hk dg]; exact DGet.k hv
    · cases e
      cases z : getK0 g kvs with
      | none => rw [w.1 z]; rfl
      | some d => obtain ⟨y, e1, _⟩ := w.2 d z; rw [e1]; rfl
    · intro d ed
      cases e
      obtain ⟨y, e1, e2⟩ := w.2 d ed
      exact ⟨y, e1, e2⟩
end Pv
set_option Elab.async false
set_option linter.all false
set_option maxRecDepth 100000
set_option maxHeartbeats 1000000
namespace Pv
open PySem L2

/-- how an exception of the evaluator lies: class and arguments against the model's class and dict -/
abbrev XRel := L2.Hp → List Addr → Nat → List D → Value → Option Addr → Prop
section
variable (K : Kx) (ξ : XRel) (Z : WX)
def Fin (ρ : List Addr) (h : Hp) (H : L2.Hp) (Q : VK) (d : D) : Prop := ∀ v ρ' H', Ext ρ H ρ' H' → HR K ρ' h H' → DR K H' ρ' d v → Q v H'
def FinO (ρ : List Addr) (h : Hp) (H : L2.Hp) (Q : VK) : Option D → Prop
  | some d => Fin K ρ h H Q d
  | none => False
def Exc (ρ : List Addr) (h : Hp) (H : L2.Hp) (σ : L2.St) (c : Nat) (ds : List D) : Prop :=
  ∀ cls dd ρ' H', Ext ρ H ρ' H' → HR K ρ' h H' → ξ H' ρ' c ds cls dd → Z cls dd σ H'
/-- behind an expression -/
def After (ρ : List Addr) (H : L2.Hp) (σ : L2.St) (Q : VK) : Out → Prop
  | .val d h => Fin K ρ h H Q d
  | .exc c ds _ h => Exc K ξ Z ρ h H σ c ds
  | _ => False
def AfterL (ρ : List Addr) (H : L2.Hp) (σ : L2.St) (Q : List V → L2.Hp → Prop) : Out → Prop
  | .vls ds h => ∀ vs ρ' H', Ext ρ H ρ' H' → HR K ρ' h H' → DRs K H' ρ' ds vs → Q vs H'
  | .exc c ds _ h => Exc K ξ Z ρ h H σ c ds
  | _ => False
def AfterT (ρ : List Addr) (H : L2.Hp) (σ : L2.St) (Q : Bool → L2.Hp → Prop) : Out → Prop
  | .val d h => ∃ b, tru h d = some b ∧ ∀ ρ' H', Ext ρ H ρ' H' → HR K ρ' h H' → Q b H'
  | .exc c ds _ h => Exc K ξ Z ρ h H σ c ds
  | _ => False
structure SR (H : L2.Hp) (ρ : List Addr) (s : St) (σ : L2.St) : Prop where
  len : s.length = σ.length
  get : ∀ (i : Nat) d, s[i]? = some (some d) → ∃ v, σ[i]? = some (some v) ∧ DR K H ρ d v
  xn : ∀ i a d, K.y.xn = some (i, a, d) → s[i]? = some none → σ[i]? = some (some (.ref a))
  xf : ∀ i a dd f g, K.y.xn = some (i, a, some (dd, f, g)) → dd ∉ ρ ∧ ∃ v, H dd = some (.xd [(f, v)]) ∧ GR K H ρ g v
def tE (E : Env) (f : F) : TE := fun σ H Q => ∃ ρ s h, SR K H ρ s σ ∧ HR K ρ h H ∧ After K ξ Z ρ H σ Q (f E s h)
def tL (E : Env) (f : F) : TA := fun σ H Q => ∃ ρ s h, SR K H ρ s σ ∧ HR K ρ h H ∧ AfterL K ξ Z ρ H σ Q (f E s h)
def tT (E : Env) (f : F) : TT := fun σ H Q => ∃ ρ s h, SR K H ρ s σ ∧ HR K ρ h H ∧ AfterT K ξ Z ρ H σ Q (f E s h)
end
section
variable {K : Kx} {ξ : XRel} {Z : WX} {ρ ρ1 ρ' : List Addr} {H H1 H' : L2.Hp} {σ : L2.St} {h : Hp} {Q Q' : VK} {o : Out} {E : Env}
theorem SR.ext {s : St} (r : SR K H ρ s σ) (x : Ext ρ H ρ' H') : SR K H' ρ' s σ := ⟨r.len, fun i d e => by
  obtain ⟨v, h1, h2⟩ := r.get i d e
  exact ⟨v, h1, h2.ext x⟩, r.xn, fun i a dd f g e => by
  obtain ⟨n, v, h1, h2⟩ := r.xf i a dd f g e
  exact ⟨fun z => (x.new dd z).elim n (by rw [h1]; simp), v, x.keep dd _ h1 n, h2.ext x⟩⟩
theorem SR.set {s : St} (r : SR K H ρ s σ) (i : Nat) {d : D} {v : V} (h : DR K H ρ d v) : SR K H ρ (s.set i (some d)) (σ.set i (some v)) := ⟨by simp [r.len], fun j e q => by
  by_cases ij : i = j
  · subst ij
    have hl : i < s.length := by
      have := (List.getElem?_eq_some_iff.mp q).1
      simpa using this
    rw [List.getElem?_set_self hl] at q
    cases q
    exact ⟨v, List.getElem?_set_self (by rw [← r.len]; exact hl), h⟩
  · rw [List.getElem?_set_ne ij] at q ⊢
    exact r.get j e q, fun j a d e q => by
  by_cases ij : i = j
  · subst ij
    have hl : i < s.length := by
      have := (List.getElem?_eq_some_iff.mp q).1
      simpa using this
    rw [List.getElem?_set_self hl] at q
    cases q
  · rw [List.getElem?_set_ne ij] at q ⊢
    exact r.xn j a d e q, r.xf⟩
theorem Fin.ext {d : D} (f : Fin K ρ h H Q d) (x : Ext ρ H ρ' H') : Fin K ρ' h H' Q d := fun v ρ2 H2 e hr dr => f v ρ2 H2 (x.trans e) hr dr
theorem Exc.ext {c : Nat} {ds : List D} (f : Exc K ξ Z ρ h H σ c ds) (x : Ext ρ H ρ' H') : Exc K ξ Z ρ' h H' σ c ds := fun cls dd ρ2 H2 e hr xr => f cls dd ρ2 H2 (x.trans e) hr xr
theorem After.ext (f : After K ξ Z ρ H σ Q o) (x : Ext ρ H ρ' H') : After K ξ Z ρ' H' σ Q o := by
  cases o <;> first | exact f.elim | exact Fin.ext f x | exact Exc.ext f x
theorem AfterL.ext {Q : List V → L2.Hp → Prop} (f : AfterL K ξ Z ρ H σ Q o) (x : Ext ρ H ρ' H') : AfterL K ξ Z ρ' H' σ Q o := by
  cases o <;> first | exact f.elim | exact fun vs ρ2 H2 e hr dr => f vs ρ2 H2 (x.trans e) hr dr | exact Exc.ext f x
theorem After.mono (f : After K ξ Z ρ H σ Q o) (hq : ∀ v H, Q v H → Q' v H) : After K ξ Z ρ H σ Q' o := by
  cases o <;> first | exact f.elim | exact fun v ρ2 H2 e hr dr => hq v H2 (f v ρ2 H2 e hr dr) | exact f
/-- an expression's value handed on -/
theorem After.bind {k : D → Hp → Out} (f : After K ξ Z ρ H σ Q (o.onV k)) :
    After K ξ Z ρ H σ (fun v H1 => ∃ ρ1 d h1, Ext ρ H ρ1 H1 ∧ HR K ρ1 h1 H1 ∧ DR K H1 ρ1 d v ∧ After K ξ Z ρ1 H1 σ Q (k d h1)) o := by
  cases o <;> first | exact f.elim | exact f | exact fun v ρ1 H1 e hr dr => ⟨ρ1, _, _, e, hr, dr, After.ext f e⟩
theorem After.bindL {Q : List V → L2.Hp → Prop} {k : D → Hp → Out} (f : AfterL K ξ Z ρ H σ Q (o.onV k)) :
    After K ξ Z ρ H σ (fun v H1 => ∃ ρ1 d h1, Ext ρ H ρ1 H1 ∧ HR K ρ1 h1 H1 ∧ DR K H1 ρ1 d v ∧ AfterL K ξ Z ρ1 H1 σ Q (k d h1)) o := by
  cases o <;> first | exact f.elim | exact f | exact fun v ρ1 H1 e hr dr => ⟨ρ1, _, _, e, hr, dr, AfterL.ext f e⟩
theorem AfterL.bind {k : List D → Hp → Out} (f : After K ξ Z ρ H σ Q (o.onL k)) :
    AfterL K ξ Z ρ H σ (fun vs H1 => ∃ ρ1 ds h1, Ext ρ H ρ1 H1 ∧ HR K ρ1 h1 H1 ∧ DRs K H1 ρ1 ds vs ∧ After K ξ Z ρ1 H1 σ Q (k ds h1)) o := by
  cases o <;> first | exact f.elim | exact f | exact fun v ρ1 H1 e hr dr => ⟨ρ1, _, _, e, hr, dr, After.ext f e⟩
theorem AfterL.bindL {Q : List V → L2.Hp → Prop} {k : List D → Hp → Out} (f : AfterL K ξ Z ρ H σ Q (o.onL k)) :
    AfterL K ξ Z ρ H σ (fun vs H1 => ∃ ρ1 ds h1, Ext ρ H ρ1 H1 ∧ HR K ρ1 h1 H1 ∧ DRs K H1 ρ1 ds vs ∧ AfterL K ξ Z ρ1 H1 σ Q (k ds h1)) o := by
  cases o <;> first | exact f.elim | exact f | exact fun v ρ1 H1 e hr dr => ⟨ρ1, _, _, e, hr, dr, AfterL.ext f e⟩
theorem After.ov {d : Option D} {n : Nat} (f : After K ξ Z ρ H σ Q (ov h d n)) : FinO K ρ h H Q d := by
  cases d with
  | some d => exact f
  | none => exact f.elim
theorem After.ob {d : Option Bool} {n : Nat} (f : After K ξ Z ρ H σ Q (ob h d n)) : FinO K ρ h H Q (d.map fun b => .g (.bl b)) := by
  cases d with
  | some d => exact f
  | none => exact f.elim
/-- the end at the very state, or with new objects that are no boxes -/
theorem Fin.here {d : D} {v : V} (f : Fin K ρ h H Q d) (hr : HR K ρ h H) (dr : DR K H ρ d v) : Q v H := f v ρ H Ext.refl hr dr
theorem Fin.new {d : D} {v : V} {p : Addr} {ob : HO} (f : Fin K ρ h H Q d) (hr : HR K ρ h H) (hp : H p = none) (dr : DR K (upd H p ob) ρ d v) : Q v (upd H p ob) := f v ρ _ (Ext.upd hp) (hr.upd hp) dr
theorem Fin.tup {gs : List G} {vs : List V} {p : Addr} (f : Fin K ρ h H Q (.g (.tup gs))) (hr : HR K ρ h H) (hp : H p = none) (dr : GRs K H ρ gs vs) : Q (.ref p) (upd H p (.tup vs)) :=
  f.new hr hp (by unfold DR GR; exact ⟨p, vs, rfl, SqT.of upd_same, dr.ext (Ext.upd hp)⟩)
theorem Fin.lst {gs : List G} {vs : List V} {p : Addr} (f : Fin K ρ h H Q (.g (.lst gs))) (hr : HR K ρ h H) (hp : H p = none) (dr : GRs K H ρ gs vs) : Q (.ref p) (upd H p (.lst vs)) :=
  f.new hr hp (by unfold DR GR; exact ⟨p, vs, rfl, .inl ⟨upd_same, hr.own hp⟩, dr.ext (Ext.upd hp)⟩)
theorem unGs_none {ds : List D} (h : unGs ds = none) : mkTup ds = .mix false ds ∧ mkLst ds = .mix true ds := by unfold mkTup mkLst; rw [h]; exact ⟨rfl, rfl⟩
theorem unGs_some {ds : List D} {gs : List G} (h : unGs ds = some gs) : mkTup ds = .g (.tup gs) ∧ mkLst ds = .g (.lst gs) := by unfold mkTup mkLst; rw [h]; exact ⟨rfl, rfl⟩
theorem Fin.mkTup {ds : List D} {vs : List V} {p : Addr} (f : Fin K ρ h H Q (mkTup ds)) (hr : HR K ρ h H) (hp : H p = none) (dr : DRs K H ρ ds vs) : Q (.ref p) (upd H p (.tup vs)) := by
  cases e : unGs ds with
  | some gs => rw [(unGs_some e).1] at f; exact f.tup hr hp (dr.toG e)
  | none =>
    rw [(unGs_none e).1] at f
    exact f.new hr hp (by unfold DR; exact ⟨p, vs, rfl, by rw [if_neg (by decide)]; exact SqT.of upd_same, dr.ext (Ext.upd hp)⟩)
theorem Fin.mkLst {ds : List D} {vs : List V} {p : Addr} (f : Fin K ρ h H Q (mkLst ds)) (hr : HR K ρ h H) (hp : H p = none) (dr : DRs K H ρ ds vs) : Q (.ref p) (upd H p (.lst vs)) := by
  cases e : unGs ds with
  | some gs => rw [(unGs_some e).2] at f; exact f.lst hr hp (dr.toG e)
  | none =>
    rw [(unGs_none e).2] at f
    exact f.new hr hp (by unfold DR; exact ⟨p, vs, rfl, by rw [if_pos rfl]; exact .inl ⟨upd_same, hr.own hp⟩, dr.ext (Ext.upd hp)⟩)
theorem PE.imp {X : Cx} {e : Expr} {t t' : TE} (h : PE X e t) (i : ∀ σ H Q, t' σ H Q → t σ H Q) : PE X e t' := ⟨fun pins s σ H Q I q => h.run pins s σ H Q I (i σ H Q q)⟩
theorem PT.imp {X : Cx} {e : Expr} {t t' : TT} (h : PT X e t) (i : ∀ σ H Q, t' σ H Q → t σ H Q) : PT X e t' := ⟨fun pins s σ H Q I q => h.run pins s σ H Q I (i σ H Q q)⟩
theorem PA.imp {X : Cx} {e : List Expr} {t t' : TA} (h : PA X e t) (i : ∀ σ H Q, t' σ H Q → t σ H Q) : PA X e t' := ⟨fun pos pins s σ H Q I q => h.run pos pins s σ H Q I (i σ H Q q)⟩
theorem PS.imp {X : Cx} {e : Stmt} {t t' : TS} (h : PS X e t) (i : ∀ D σ H, t' D σ H → t D σ H) : PS X e t' := ⟨fun pins s σ H Q I q => h.run pins s σ H Q I (i Q σ H q)⟩
theorem PSs.imp {X : Cx} {e : List Stmt} {t t' : TS} (h : PSs X e t) (i : ∀ D σ H, t' D σ H → t D σ H) : PSs X e t' := ⟨fun pins s σ H Q I q => h.run pins s σ H Q I (i Q σ H q)⟩

/-- a two-place operation on values -/
def rV2 (K : Kx) (f : D → D → Hp → Option D) : R2 := fun x y H Q => ∃ ρ h d e, HR K ρ h H ∧ DR K H ρ d x ∧ DR K H ρ e y ∧ FinO K ρ h H Q (f d e h)
theorem tE_op2 {fa fb : F} {f : D → D → Hp → Option D} {n : Nat} {σ : L2.St} {H : L2.Hp} {Q : VK}
    (t : tE K ξ Z E (fun E s h => (fa E s h).onV fun x h => (fb E s h).onV fun y h => ov h (f x y h) n) σ H Q) : tOp (rV2 K f) (tE K ξ Z E fa) (tE K ξ Z E fb) σ H Q := by
  obtain ⟨ρ, s, h, sr, hr, af⟩ := t
  refine ⟨ρ, s, h, sr, hr, After.mono af.bind fun x H1 ⟨ρ1, d, h1, x1, hr1, dr1, af1⟩ => ⟨ρ1, s, h1, sr.ext x1, hr1, After.mono af1.bind fun y H2 ⟨ρ2, e, h2, x2, hr2, dr2, af2⟩ => ?_⟩⟩
  exact ⟨ρ2, h2, d, e, hr2, dr1.ext x2, dr2, af2.ov⟩
theorem tE_cmp2 {fa fb : F} {f : D → D → Hp → Option Bool} {n : Nat} {σ : L2.St} {H : L2.Hp} {Q : VK}
    (t : tE K ξ Z E (fun E s h => (fa E s h).onV fun x h => (fb E s h).onV fun y h => ob h (f x y h) n) σ H Q) :
    tOp (rV2 K fun x y h => (f x y h).map fun b => .g (.bl b)) (tE K ξ Z E fa) (tE K ξ Z E fb) σ H Q := by
  obtain ⟨ρ, s, h, sr, hr, af⟩ := t
  refine ⟨ρ, s, h, sr, hr, After.mono af.bind fun x H1 ⟨ρ1, d, h1, x1, hr1, dr1, af1⟩ => ⟨ρ1, s, h1, sr.ext x1, hr1, After.mono af1.bind fun y H2 ⟨ρ2, e, h2, x2, hr2, dr2, af2⟩ => ?_⟩⟩
  exact ⟨ρ2, h2, d, e, hr2, dr1.ext x2, dr2, af2.ob⟩
end
end Pv
set_option Elab.async false
set_option linter.all false
set_option maxRecDepth 100000
set_option maxHeartbeats 1000000
namespace Pv
open PySem L2

/-- a plain value as the model has it -/
inductive GV (K : Kx) (H : L2.Hp) (ρ : List Addr) (s : Shared) : G → Value → Prop
  | non : GV K H ρ s .non .none
  | bl (b : Bool) : GV K H ρ s (.bl b) (.bool b)
  | int (i : Int) (t : Tok) : GV K H ρ s (.int i) (.int i t)
  | str (n : Nat) (t : Tok) : GV K H ρ s (.str n) (.str (encS n) t)
  | tup {gs : List G} {vs : List V} {its : List Value} {l : Addr} (g : GRs K H ρ gs vs) (r : Vals vs its) (p : s.heap.IsTuple l its.toArray) (q : SqT K.K H l vs) : GV K H ρ s (.tup gs) (.ref l)
  | lst {gs : List G} {vs : List V} {its : List Value} {l : Addr} (g : GRs K H ρ gs vs) (r : Vals vs its) (p : s.heap.IsList l its.toArray) (q : SqL K.K H l vs) : GV K H ρ s (.lst gs) (.ref l)
  | rng (lo hi : Int) (u : Value) : GV K H ρ s (.rng lo hi) u
  | set (xs : List Int) (u : Value) : GV K H ρ s (.set xs) u
section
variable {X : Cx} {pins : List (Addr × Obj)} {σ : L2.St} {H : L2.Hp} {s : Shared} {ρ : List Addr} {φ : Yx}
theorem GR.view (I : Inv X pins σ H s) {g : G} {v : V} {u : Value} (h : GR ⟨X.K, φ⟩ H ρ g v) (r : RelV v u) : GV ⟨X.K, φ⟩ H ρ s g u := by
  cases g with
  | non => unfold GR at h; subst h; cases r; exact .non
  | bl b => unfold GR at h; subst h; cases r; exact .bl b
  | int i => unfold GR at h; subst h; obtain ⟨t, rfl⟩ := r; exact .int i t
  | str n => unfold GR at h; subst h; obtain ⟨t, rfl⟩ := r; exact .str n t
  | tup gs =>
    unfold GR at h
    obtain ⟨a, vs, rfl, q, g⟩ := h
    cases r
    obtain ⟨its, rv, p, _⟩ := I.tuple q
    exact .tup g rv p q
  | lst gs =>
    unfold GR at h
    obtain ⟨a, vs, rfl, q, g⟩ := h
    cases r
    obtain ⟨its, rv, p, _⟩ := I.list (.inl q.rd)
    exact .lst g rv p.isList (.inl q.rd)
  | rng lo hi => exact .rng lo hi u
  | set xs => exact .set xs u
theorem GRs.view (I : Inv X pins σ H s) {gs : List G} {vs : List V} {us : List Value} (h : GRs ⟨X.K, φ⟩ H ρ gs vs) (r : Vals vs us) {j : Nat} {x : G} {u : Value} (hx : gs[j]? = some x) (hu : us[j]? = some u) : GV ⟨X.K, φ⟩ H ρ s x u := by
  obtain ⟨v, h1, h2⟩ := h.get hx
  obtain ⟨u', h3, h4⟩ := r.get h1
  rw [hu] at h3; cases h3
  exact h2.view I h4
end

theorem eqZ_some {f : G → G → Option Bool} : ∀ {xs ys : List G} {b : Bool}, eqZ f xs ys = some b →
    (∀ (j : Nat) x y, xs[j]? = some x → ys[j]? = some y → ∃ c, f x y = some c) ∧ b = (List.range (min xs.length ys.length)).all fun j => match xs[j]?, ys[j]? with | some x, some y => (f x y).getD false | _, _ => false
  | [], ys, b, h => by
    cases ys <;> (simp [eqZ] at h; subst h; exact ⟨fun j x y e => by simp at e, by simp⟩)
  | x :: r, [], b, h => by simp [eqZ] at h; subst h; exact ⟨fun j x y _ e => by simp at e, by simp⟩
  | x :: r, y :: t, b, h => by
    unfold eqZ at h
    cases e1 : f x y with
    | none => rw [e1] at h; cases h
    | some c =>
      cases e2 : eqZ f r t with
      | none => rw [e1, e2] at h; cases h
      | some d =>
        rw [e1, e2] at h
        have h' : (c && d) = b := Option.some.inj h
        obtain ⟨i1, i2⟩ := eqZ_some e2
        refine ⟨fun j a b ha hb => ?_, ?_⟩
        · cases j with
          | zero => simp at ha hb; subst ha; subst hb; exact ⟨c, e1⟩
          | succ j => exact i1 j a b (by simpa using ha) (by simpa using hb)
        · have hm : min (x :: r).length (y :: t).length = min r.length t.length + 1 := by simp [Nat.add_min_add_right]
          rw [hm, List.range_succ_eq_map, List.all_cons, List.all_map, ← h', i2]
          simp only [List.getElem?_cons_zero, e1, Option.getD_some, Function.comp_def, List.getElem?_cons_succ]

theorem encS_beq (m n : Nat) : (encS m == encS n) = (m == n) := by
  by_cases h : m = n
  · subst h; simp
  · have h2 : encS m ≠ encS n := fun e => h (encS_inj e)
    rw [beq_eq_false_iff_ne.mpr h, beq_eq_false_iff_ne.mpr h2]
theorem b2i_if (b : Bool) : (if b = true then (1 : Int) else 0) = b2i b := by cases b <;> rfl

section
variable {X : Cx} {pins : List (Addr × Obj)} {σ : L2.St} {H : L2.Hp} {s : Shared} {ρ : List Addr} {φ : Yx}
/-- the same object on both sides -/
theorem eqN_same (I : Inv X pins σ H s) : ∀ (n : Nat) (a b : G) (u : Value) (r : Bool), eqN n a b = some r → GV ⟨X.K, φ⟩ H ρ s a u → GV ⟨X.K, φ⟩ H ρ s b u → r = true
  | 0, a, b, u, r, h, _, _ => by simp [eqN] at h
  | n + 1, a, b, u, r, h, ha, hb => by
    have seq : ∀ {xs ys : List G} {vs : List V} {c : Bool}, GRs ⟨X.K, φ⟩ H ρ xs vs → GRs ⟨X.K, φ⟩ H ρ ys vs → ∀ its, Vals vs its → eqZ (eqN n) xs ys = some c → c = true := fun {xs ys vs c} gx gy its rv e => by
      obtain ⟨i1, i2⟩ := eqZ_some e
      rw [i2, List.all_eq_true]
      intro j hj
      have l1 := gx.length
      have l2 := gy.length
      have hj' : j < min xs.length ys.length := List.mem_range.mp hj
      have e1 : xs[j]? = some xs[j] := List.getElem?_eq_getElem (by omega)
      have e2 : ys[j]? = some ys[j] := List.getElem?_eq_getElem (by omega)
      obtain ⟨c', hc⟩ := i1 j _ _ e1 e2
      have l3 := rv.length
      have e3 : its[j]? = some its[j] := List.getElem?_eq_getElem (by omega)
      rw [e1, e2]
      simp only [hc, Option.getD_some]
      exact eqN_same I n _ _ _ c' hc (gx.view I rv e1 e3) (gy.view I rv e2 e3)
    cases ha with
    | non => cases hb <;> simp [eqN] at h <;> exact h
    | bl i => cases hb <;> simp [eqN] at h <;> exact h
    | int i t => cases hb <;> simp [eqN] at h <;> exact h
    | str m t =>
      generalize hw : Value.str (encS m) t = w at hb
      cases hb with
      | str n' t' => injection hw with h1 h2; have := encS_inj h1; subst this; simp [eqN] at h; exact h
      | rng lo hi u => simp [eqN] at h
      | set xs u => simp [eqN] at h
      | _ => cases hw
    | @tup gs vs its l g rv p q =>
      generalize hw : Value.ref l = w at hb
      cases hb with
      | @tup gs' vs' its' l' g' r' p' q' =>
        injection hw with hw; subst hw
        have ev := I.tuple_inj q q'; subst ev
        have h : (match eqZ (eqN n) gs gs' with | some b => some (b && gs.length == gs'.length) | none => none) = some r := h
        cases e : eqZ (eqN n) gs gs' with
        | none => rw [e] at h; cases h
        | some c =>
          rw [e] at h
          have hc := seq g g' its rv e
          subst hc
          have := g.length.trans g'.length.symm
          simp [this] at h
          exact h
      | @lst gs' vs' its' l' g' r' p' q' =>
        injection hw with hw; subst hw
        obtain ⟨o, e, c, _⟩ := p
        obtain ⟨o', e', c', _⟩ := p'
        rw [e] at e'; cases e'
        rw [c] at c'
        exact absurd c' (by decide)
      | rng lo hi u => simp [eqN] at h
      | set xs u => simp [eqN] at h
      | _ => cases hw
    | @lst gs vs its l g rv p q =>
      generalize hw : Value.ref l = w at hb
      cases hb with
      | @lst gs' vs' its' l' g' r' p' q' =>
        injection hw with hw; subst hw
        have ev := I.list_inj q q'; subst ev
        have h : (if gs.length == gs'.length then eqZ (eqN n) gs gs' else some false) = some r := h
        have := g.length.trans g'.length.symm
        rw [if_pos (by simp [this])] at h
        exact seq g g' its rv h
      | @tup gs' vs' its' l' g' r' p' q' =>
        injection hw with hw; subst hw
        obtain ⟨o, e, c, _⟩ := p
        obtain ⟨o', e', c', _⟩ := p'
        rw [e] at e'; cases e'
        rw [c] at c'
        exact absurd c' (by decide)
      | rng lo hi u => simp [eqN] at h
      | set xs u => simp [eqN] at h
      | _ => cases hw
    | rng lo hi u => simp [eqN] at h
    | set xs u => simp [eqN] at h

/-- the equalities of two values that are not both sequences of one kind -/
theorem rc_flat {n : Nat} {a b : G} {u v : Value} {r : Bool} {A : Around} (h : eqN (n + 1) a b = some r) (ha : GV ⟨X.K, φ⟩ H ρ s a u) (hb : GV ⟨X.K, φ⟩ H ρ s b v) (hu : A.units < cLine)
    (ht : ∀ xs ys, a = .tup xs → b ≠ .tup ys) (hl : ∀ xs ys, a = .lst xs → b ≠ .lst ys) : SeqAt.RcAt A s u v r ∧ SeqAt.RcNeAt A s u v (!r) ∧ ((∀ l l', u = .ref l → v ≠ .ref l') → SeqAt.EqAt A s u v r) := by
  cases ha with
  | non =>
    cases hb with
    | non => cases h; exact ⟨SeqAt.RcAt.none_none, SeqAt.RcNeAt.none_none, fun _ => SeqAt.EqAt.same _⟩
    | bl b => cases h; exact ⟨SeqAt.RcAt.none_bool b, SeqAt.RcNeAt.none_bool b, fun _ => SeqAt.EqAt.none_bool b⟩
    | int i t => cases h; exact ⟨SeqAt.RcAt.none_int i t, SeqAt.RcNeAt.none_int i t, fun _ => SeqAt.EqAt.none_int i t⟩
    | str m t => cases h; exact ⟨SeqAt.RcAt.none_str _ t, SeqAt.RcNeAt.none_str _ t, fun _ => SeqAt.EqAt.none_str _ t⟩
    | tup g r p q => cases h; exact ⟨SeqAt.RcAt.none_tuple p hu, SeqAt.RcNeAt.none_tuple p hu, fun _ => SeqAt.EqAt.none_tuple p hu⟩
    | lst g r p q => cases h; exact ⟨SeqAt.RcAt.none_list p hu, SeqAt.RcNeAt.none_list p hu, fun _ => SeqAt.EqAt.none_list p hu⟩
    | rng lo hi u => simp [eqN] at h
    | set xs u => simp [eqN] at h
  | bl a =>
    cases hb with
    | non => cases h; exact ⟨SeqAt.RcAt.bool_none a, SeqAt.RcNeAt.bool_none a, fun _ => SeqAt.EqAt.bool_none a⟩
    | bl b => cases h; exact ⟨SeqAt.RcAt.bool_bool a b, SeqAt.RcNeAt.bool_bool a b, fun _ => SeqAt.EqAt.bool_bool a b⟩
    | int i t => cases h; rw [← b2i_if]; exact ⟨SeqAt.RcAt.bool_int a i t, SeqAt.RcNeAt.bool_int a i t, fun _ => SeqAt.EqAt.bool_int a i t⟩
    | str m t => cases h; exact ⟨SeqAt.RcAt.bool_str a _ t, SeqAt.RcNeAt.bool_str a _ t, fun _ => SeqAt.EqAt.bool_str a _ t⟩
    | tup g r p q => cases h; exact ⟨SeqAt.RcAt.bool_tuple a p hu, SeqAt.RcNeAt.bool_tuple a p hu, fun _ => SeqAt.EqAt.bool_tuple a p hu⟩
    | lst g r p q => cases h; exact ⟨SeqAt.RcAt.bool_list a p hu, SeqAt.RcNeAt.bool_list a p hu, fun _ => SeqAt.EqAt.bool_list a p hu⟩
    | rng lo hi u => simp [eqN] at h
    | set xs u => simp [eqN] at h
  | int a ta =>
    cases hb with
    | non => cases h; exact ⟨SeqAt.RcAt.int_none a ta, SeqAt.RcNeAt.int_none a ta, fun _ => SeqAt.EqAt.int_none a ta⟩
    | bl b => cases h; rw [← b2i_if]; exact ⟨SeqAt.RcAt.int_bool a ta b, SeqAt.RcNeAt.int_bool a ta b, fun _ => SeqAt.EqAt.int_bool a ta b⟩
    | int i t => cases h; exact ⟨SeqAt.RcAt.int_int a ta i t, SeqAt.RcNeAt.int_int a ta i t, fun _ => SeqAt.EqAt.int_int a ta i t⟩
    | str m t => cases h; exact ⟨SeqAt.RcAt.int_str a ta _ t, SeqAt.RcNeAt.int_str a ta _ t, fun _ => SeqAt.EqAt.int_str a ta _ t⟩
    | tup g r p q => cases h; exact ⟨SeqAt.RcAt.int_tuple a ta p hu, SeqAt.RcNeAt.int_tuple a ta p hu, fun _ => SeqAt.EqAt.int_tuple a ta p hu⟩
    | lst g r p q => cases h; exact ⟨SeqAt.RcAt.int_list a ta p hu, SeqAt.RcNeAt.int_list a ta p hu, fun _ => SeqAt.EqAt.int_list a ta p hu⟩
    | rng lo hi u => simp [eqN] at h
    | set xs u => simp [eqN] at h
  | str a ta =>
    cases hb with
    | non => cases h; exact ⟨SeqAt.RcAt.str_none _ ta, SeqAt.RcNeAt.str_none _ ta, fun _ => SeqAt.EqAt.str_none _ ta⟩
    | bl b => cases h; exact ⟨SeqAt.RcAt.str_bool _ ta b, SeqAt.RcNeAt.str_bool _ ta b, fun _ => SeqAt.EqAt.str_bool _ ta b⟩
    | int i t => cases h; exact ⟨SeqAt.RcAt.str_int _ ta i t, SeqAt.RcNeAt.str_int _ ta i t, fun _ => SeqAt.EqAt.str_int _ ta i t⟩
    | str m t => cases h; rw [← encS_beq]; exact ⟨SeqAt.RcAt.str_str _ ta _ t, SeqAt.RcNeAt.str_str _ ta _ t, fun _ => SeqAt.EqAt.str_str _ ta _ t⟩
    | tup g r p q => cases h; exact ⟨SeqAt.RcAt.str_tuple _ ta p hu, SeqAt.RcNeAt.str_tuple _ ta p hu, fun _ => SeqAt.EqAt.str_tuple _ ta p hu⟩
    | lst g r p q => cases h; exact ⟨SeqAt.RcAt.str_list _ ta p hu, SeqAt.RcNeAt.str_list _ ta p hu, fun _ => SeqAt.EqAt.str_list _ ta p hu⟩
    | rng lo hi u => simp [eqN] at h
    | set xs u => simp [eqN] at h
  | tup g r p q =>
    cases hb with
    | non => cases h; exact ⟨SeqAt.RcAt.tuple_none p hu, SeqAt.RcNeAt.tuple_none p hu, fun _ => SeqAt.EqAt.tuple_none p hu⟩
    | bl b => cases h; exact ⟨SeqAt.RcAt.tuple_bool b p hu, SeqAt.RcNeAt.tuple_bool b p hu, fun _ => SeqAt.EqAt.tuple_bool b p hu⟩
    | int i t => cases h; exact ⟨SeqAt.RcAt.tuple_int i t p hu, SeqAt.RcNeAt.tuple_int i t p hu, fun _ => SeqAt.EqAt.tuple_int i t p hu⟩
    | str m t => cases h; exact ⟨SeqAt.RcAt.tuple_str _ t p hu, SeqAt.RcNeAt.tuple_str _ t p hu, fun _ => SeqAt.EqAt.tuple_str _ t p hu⟩
    | tup g r p q => exact absurd rfl (ht _ _ rfl)
    | lst g r p' q => cases h; exact ⟨SeqAt.RcAt.tuple_list p p' hu, SeqAt.RcNeAt.tuple_list p p' hu, fun z => absurd rfl (z _ _ rfl)⟩
    | rng lo hi u => simp [eqN] at h
    | set xs u => simp [eqN] at h
  | lst g r p q =>
    cases hb with
    | non => cases h; exact ⟨SeqAt.RcAt.list_none p hu, SeqAt.RcNeAt.list_none p hu, fun _ => SeqAt.EqAt.list_none p hu⟩
    | bl b => cases h; exact ⟨SeqAt.RcAt.list_bool b p hu, SeqAt.RcNeAt.list_bool b p hu, fun _ => SeqAt.EqAt.list_bool b p hu⟩
    | int i t => cases h; exact ⟨SeqAt.RcAt.list_int i t p hu, SeqAt.RcNeAt.list_int i t p hu, fun _ => SeqAt.EqAt.list_int i t p hu⟩
    | str m t => cases h; exact ⟨SeqAt.RcAt.list_str _ t p hu, SeqAt.RcNeAt.list_str _ t p hu, fun _ => SeqAt.EqAt.list_str _ t p hu⟩
    | tup g r p' q => cases h; exact ⟨SeqAt.RcAt.list_tuple p p' hu, SeqAt.RcNeAt.list_tuple p p' hu, fun z => absurd rfl (z _ _ rfl)⟩
    | lst g r p q => exact absurd rfl (hl _ _ rfl)
    | rng lo hi u => simp [eqN] at h
    | set xs u => simp [eqN] at h
  | rng lo hi u => simp [eqN] at h
  | set xs u => simp [eqN] at h
/-- == and != of plain values, and the equality of items -/
theorem eqN_rc (I : Inv X pins σ H s) : ∀ (n : Nat) (a b : G) (u v : Value) (r : Bool) (A : Around), eqN n a b = some r → GV ⟨X.K, φ⟩ H ρ s a u → GV ⟨X.K, φ⟩ H ρ s b v → A.units + n ≤ cLine →
    SeqAt.RcAt A s u v r ∧ SeqAt.RcNeAt A s u v (!r) ∧ SeqAt.EqAt A s u v r
  | 0, a, b, u, v, r, A, h, _, _, _ => by simp [eqN] at h
  | n + 1, a, b, u, v, r, A, h, ha, hb, hu => by
    have hu' : A.units < cLine := by omega
    have key : ∀ (rc : SeqAt.RcAt A s u v r), (∃ l l', u = .ref l ∧ v = .ref l') → SeqAt.EqAt A s u v r := fun rc ⟨l, l', e1, e2⟩ => by
      subst e1; subst e2
      by_cases e : l = l'
      · subst e
        have := eqN_same I _ _ _ _ _ h ha hb
        subst this
        exact SeqAt.EqAt.same _
      · exact SeqAt.EqAt.of_refs e rc
    have items : ∀ {xs ys : List G} {vs ws : List V} {its its2 : List Value} {c : Bool}, GRs ⟨X.K, φ⟩ H ρ xs vs → GRs ⟨X.K, φ⟩ H ρ ys ws → Vals vs its → Vals ws its2 → eqZ (eqN n) xs ys = some c →
        ∃ e : Nat → Bool, (∀ j (h1 : j < its.toArray.size) (h2 : j < its2.toArray.size), SeqAt.EqAt A.in1 s its.toArray[j] its2.toArray[j] (e j)) ∧ c = (List.range (min its.toArray.size its2.toArray.size)).all e := fun {xs ys vs ws its its2 c} gx gy rv rw' e => by
      obtain ⟨i1, i2⟩ := eqZ_some e
      have l1 := gx.length
      have l2 := gy.length
      have l3 := rv.length
      have l4 := rw'.length
      refine ⟨fun j => match xs[j]?, ys[j]? with | some x, some y => (eqN n x y).getD false | _, _ => false, fun j h1 h2 => ?_, i2.trans ?_⟩
      · have h1' : j < its.length := by simpa using h1
        have h2' : j < its2.length := by simpa using h2
        have e1 : xs[j]? = some xs[j] := List.getElem?_eq_getElem (by omega)
        have e2 : ys[j]? = some ys[j] := List.getElem?_eq_getElem (by omega)
        obtain ⟨c', hc⟩ := i1 j _ _ e1 e2
        have e3 : its[j]? = some its.toArray[j] := by simp [h1']
        have e4 : its2[j]? = some its2.toArray[j] := by simp [h2']
        simp only [e1, e2, hc, Option.getD_some]
        exact (eqN_rc I n _ _ _ _ c' A.in1 hc (gx.view I rv e1 e3) (gy.view I rw' e2 e4) (by show A.units + 1 + n ≤ cLine; omega)).2.2
      · have : min its.toArray.size its2.toArray.size = min xs.length ys.length := by simp; omega
        rw [this]
    by_cases ht : (∃ xs, a = .tup xs) ∧ ∃ ys, b = .tup ys
    · obtain ⟨⟨xs, rfl⟩, ys, rfl⟩ := ht
      cases ha with
      | @tup _ vs its l g rv p q =>
        cases hb with
        | @tup _ ws its2 l2 g2 rv2 p2 q2 =>
          have h' : (match eqZ (eqN n) xs ys with | some b => some (b && xs.length == ys.length) | none => none) = some r := h
          cases e : eqZ (eqN n) xs ys with
          | none => rw [e] at h'; cases h'
          | some c =>
            rw [e] at h'
            have h' : (c && xs.length == ys.length) = r := Option.some.inj h'
            obtain ⟨f, h1, h2⟩ := items g g2 rv rv2 e
            have el : (its.toArray.size == its2.toArray.size) = (xs.length == ys.length) := by
              have l1 := g.length
              have l2 := g2.length
              have l3 := rv.length
              have l4 := rv2.length
              simp only [List.size_toArray]
              rw [← l3, ← l4, ← l1, ← l2]
            have rc := SeqAt.RcAt.tuples p p2 hu' h1
            have rn := SeqAt.RcNeAt.tuples p p2 hu' h1
            rw [el, ← h2, h'] at rc
            rw [el, ← h2, h'] at rn
            exact ⟨rc, rn, key rc ⟨_, _, rfl, rfl⟩⟩
    · by_cases hl : (∃ xs, a = .lst xs) ∧ ∃ ys, b = .lst ys
      · obtain ⟨⟨xs, rfl⟩, ys, rfl⟩ := hl
        cases ha with
        | @lst _ vs its l g rv p q =>
          cases hb with
          | @lst _ ws its2 l2 g2 rv2 p2 q2 =>
            have h' : (if xs.length == ys.length then eqZ (eqN n) xs ys else some false) = some r := h
            have l1 := g.length
            have l2 := g2.length
            have l3 := rv.length
            have l4 := rv2.length
            by_cases el : xs.length = ys.length
            · rw [if_pos (by simp [el])] at h'
              obtain ⟨f, h1, h2⟩ := items g g2 rv rv2 h'
              have es : its.toArray.size = its2.toArray.size := by simp; omega
              rw [← es, Nat.min_self] at h2
              have rc := SeqAt.RcAt.lists p p2 es hu' h1
              have rn := SeqAt.RcNeAt.lists p p2 es hu' h1
              rw [← h2] at rc
              rw [← h2] at rn
              exact ⟨rc, rn, key rc ⟨_, _, rfl, rfl⟩⟩
            · rw [if_neg (by simp [el])] at h'
              cases h'
              have es : (its.toArray.size != its2.toArray.size) = true := by simp; omega
              have rc := SeqAt.RcAt.lists_lengths p p2 es hu'
              exact ⟨rc, SeqAt.RcNeAt.lists_lengths p p2 es hu', key rc ⟨_, _, rfl, rfl⟩⟩
      · obtain ⟨h1, h2, h3⟩ := rc_flat h ha hb hu' (fun xs ys e e2 => ht ⟨⟨xs, e⟩, ys, e2⟩) (fun xs ys e e2 => hl ⟨⟨xs, e⟩, ys, e2⟩)
        refine ⟨h1, h2, ?_⟩
        by_cases hr : ∃ l l', u = .ref l ∧ v = .ref l'
        · exact key h1 hr
        · exact h3 fun l l' e1 e2 => hr ⟨l, l', e1, e2⟩
end
end Pv
set_option Elab.async false
set_option linter.all false
set_option maxRecDepth 100000
set_option maxHeartbeats 1000000
namespace Pv
open PySem L2
section
variable {X : Cx} {pins : List (Addr × Obj)} {σ : L2.St} {H : L2.Hp} {s : Shared} {ρ : List Addr} {φ : Yx}
theorem tup_lst_no {l : Addr} {a b : Array Value} (p : s.heap.IsTuple l a) (q : s.heap.IsList l b) : False := by
  obtain ⟨o, e, c, _⟩ := p
  obtain ⟨o', e', c', _⟩ := q
  rw [e] at e'; cases e'
  rw [c] at c'
  exact absurd c' (by decide)
/-- what the right side is asked of depends on the left object alone -/
theorem eqN_cong (I : Inv X pins σ H s) : ∀ (n : Nat) (a b x : G) (u : Value) (r r' : Bool), GV ⟨X.K, φ⟩ H ρ s a u → GV ⟨X.K, φ⟩ H ρ s b u → eqN n a x = some r → eqN n b x = some r' → r = r'
  | 0, a, b, x, u, r, r', _, _, h, _ => by simp [eqN] at h
  | n + 1, a, b, x, u, r, r', ha, hb, h, h' => by
    have seq : ∀ {xs ys zs : List G} {vs : List V} {its : List Value} {c d : Bool}, GRs ⟨X.K, φ⟩ H ρ xs vs → GRs ⟨X.K, φ⟩ H ρ ys vs → Vals vs its → eqZ (eqN n) xs zs = some c → eqZ (eqN n) ys zs = some d → c = d := fun {xs ys zs vs its c d} gx gy rv e e' => by
      obtain ⟨i1, i2⟩ := eqZ_some e
      obtain ⟨j1, j2⟩ := eqZ_some e'
      have l1 := gx.length
      have l2 := gy.length
      have l3 := rv.length
      rw [i2, j2, show min ys.length zs.length = min xs.length zs.length by omega]
      rw [Bool.eq_iff_iff, List.all_eq_true, List.all_eq_true]
      refine forall_congr' fun j => forall_congr' fun hj => ?_
      have hj' : j < min xs.length zs.length := List.mem_range.mp hj
      have e1 : xs[j]? = some xs[j] := List.getElem?_eq_getElem (by omega)
      have e2 : ys[j]? = some ys[j] := List.getElem?_eq_getElem (by omega)
      have e3 : zs[j]? = some zs[j] := List.getElem?_eq_getElem (by omega)
      have e4 : its[j]? = some its[j] := List.getElem?_eq_getElem (by omega)
      obtain ⟨c1, hc1⟩ := i1 j _ _ e1 e3
      obtain ⟨c2, hc2⟩ := j1 j _ _ e2 e3
      have := eqN_cong I n _ _ _ _ _ _ (gx.view I rv e1 e4) (gy.view I rv e2 e4) hc1 hc2
      subst this
      simp only [e1, e2, e3, hc1, hc2, Option.getD_some]
    cases ha with
    | non => cases hb with
      | non => rw [h] at h'; exact Option.some.inj h'
      | rng lo hi u => simp [eqN] at h'
      | set xs u => simp [eqN] at h'
    | bl i => cases hb with
      | bl => rw [h] at h'; exact Option.some.inj h'
      | rng lo hi u => simp [eqN] at h'
      | set xs u => simp [eqN] at h'
    | int i t => cases hb with
      | int => rw [h] at h'; exact Option.some.inj h'
      | rng lo hi u => simp [eqN] at h'
      | set xs u => simp [eqN] at h'
    | str m t =>
      generalize hw : Value.str (encS m) t = w at hb
      cases hb with
      | str n' t' => injection hw with h1 h2; have := encS_inj h1; subst this; rw [h] at h'; exact Option.some.inj h'
      | rng lo hi u => simp [eqN] at h'
      | set xs u => simp [eqN] at h'
      | _ => cases hw
    | @tup gs vs its l g rv p q =>
      generalize hw : Value.ref l = w at hb
      cases hb with
      | @tup gs' vs' its' l' g' rv' p' q' =>
        injection hw with hw; subst hw
        have ev := I.tuple_inj q q'; subst ev
        have le := g.length.trans g'.length.symm
        cases x with
        | tup zs =>
          have h : (match eqZ (eqN n) gs zs with | some b => some (b && gs.length == zs.length) | none => none) = some r := h
          have h' : (match eqZ (eqN n) gs' zs with | some b => some (b && gs'.length == zs.length) | none => none) = some r' := h'
          cases e : eqZ (eqN n) gs zs with
          | none => rw [e] at h; cases h
          | some c =>
            cases e' : eqZ (eqN n) gs' zs with
            | none => rw [e'] at h'; cases h'
            | some c' =>
              rw [e] at h; rw [e'] at h'
              have := seq g g' rv e e'
              subst this
              rw [← le] at h'
              exact Option.some.inj (h.symm.trans h')
        | rng lo hi => simp [eqN] at h
        | set xs => simp [eqN] at h
        | _ => simp [eqN] at h h'; rw [h, h']
      | @lst gs' vs' its' l' g' rv' p' q' =>
        injection hw with hw; subst hw
        exact (tup_lst_no p p').elim
      | rng lo hi u => simp [eqN] at h'
      | set xs u => simp [eqN] at h'
      | _ => cases hw
    | @lst gs vs its l g rv p q =>
      generalize hw : Value.ref l = w at hb
      cases hb with
      | @lst gs' vs' its' l' g' rv' p' q' =>
        injection hw with hw; subst hw
        have ev := I.list_inj q q'; subst ev
        have le := g.length.trans g'.length.symm
        cases x with
        | lst zs =>
          have h : (if gs.length == zs.length then eqZ (eqN n) gs zs else some false) = some r := h
          have h' : (if gs'.length == zs.length then eqZ (eqN n) gs' zs else some false) = some r' := h'
          rw [← le] at h'
          by_cases el : (gs.length == zs.length) = true
          · rw [if_pos el] at h h'
            exact seq g g' rv h h'
          · rw [if_neg el] at h h'
            rw [h] at h'; exact Option.some.inj h'
        | rng lo hi => simp [eqN] at h
        | set xs => simp [eqN] at h
        | _ => simp [eqN] at h h'; rw [h, h']
      | @tup gs' vs' its' l' g' rv' p' q' =>
        injection hw with hw; subst hw
        exact (tup_lst_no p' p).elim
      | rng lo hi u => simp [eqN] at h'
      | set xs u => simp [eqN] at h'
      | _ => cases hw
    | rng lo hi u => simp [eqN] at h
    | set xs u => simp [eqN] at h

theorem memG_some {x : G} : ∀ {ys : List G} {r : Bool}, memG x ys = some r → (∀ (j : Nat) y, ys[j]? = some y → ∃ c, eqG y x = some c) ∧ (r = true ↔ ∃ (j : Nat) (y : G), ys[j]? = some y ∧ eqG y x = some true)
  | [], r, h => by unfold memG at h; cases h; exact ⟨fun j y e => by simp at e, by simp⟩
  | y :: t, r, h => by
    unfold memG at h
    cases e1 : eqG y x with
    | none => rw [e1] at h; cases h
    | some a =>
      cases e2 : memG x t with
      | none => rw [e1, e2] at h; cases h
      | some b =>
        rw [e1, e2] at h
        have h : (a || b) = r := Option.some.inj h
        obtain ⟨i1, i2⟩ := memG_some e2
        refine ⟨fun j z hz => ?_, ?_⟩
        · cases j with
          | zero => simp at hz; subst hz; exact ⟨a, e1⟩
          | succ j => exact i1 j z (by simpa using hz)
        · rw [← h, Bool.or_eq_true, i2]
          constructor
          · rintro (z | ⟨j, w, h1, h2⟩)
            · exact ⟨0, y, by simp, by rw [e1, z]⟩
            · exact ⟨j + 1, w, by simpa using h1, h2⟩
          · rintro ⟨j, w, h1, h2⟩
            cases j with
            | zero => simp at h1; subst h1; rw [e1] at h2; exact .inl (Option.some.inj h2)
            | succ j => exact .inr ⟨j, w, by simpa using h1, h2⟩
/-- the items' equalities as one function of the value -/
theorem memG_fn (I : Inv X pins σ H s) {x : G} {ys : List G} {vs : List V} {its : List Value} {v : Value} {r : Bool} (h : memG x ys = some r) (g : GRs ⟨X.K, φ⟩ H ρ ys vs) (rv : Vals vs its) (gx : GV ⟨X.K, φ⟩ H ρ s x v) {A : Around} (hu : A.units + DEEP ≤ cLine) :
    ∃ e : Value → Bool, (∀ y, y ∈ its.toArray → SeqAt.EqAt A s y v (e y)) ∧ its.toArray.any e = r := by
  classical
  obtain ⟨i1, i2⟩ := memG_some h
  have ex : ∀ y ∈ its, ∃ (j : Nat) (z : G) (c : Bool), its[j]? = some y ∧ ys[j]? = some z ∧ eqG z x = some c := fun y hy => by
    obtain ⟨j, hj, e⟩ := List.mem_iff_getElem.mp hy
    have l1 := g.length
    have l2 := rv.length
    have e1 : ys[j]? = some ys[j] := List.getElem?_eq_getElem (by omega)
    obtain ⟨c, hc⟩ := i1 j _ e1
    exact ⟨j, _, c, by rw [List.getElem?_eq_getElem hj, e], e1, hc⟩
  refine ⟨fun y => if hy : ∃ (j : Nat) (z : G), its[j]? = some y ∧ ys[j]? = some z ∧ eqG z x = some true then true else false, fun y hy => ?_, ?_⟩
  · obtain ⟨j, z, c, h1, h2, h3⟩ := ex y (by simpa using hy)
    have gz := g.view I rv h2 h1
    have q := (eqN_rc I DEEP _ _ _ _ c A h3 gz gx hu).2.2
    by_cases hc : ∃ (j : Nat) (z : G), its[j]? = some y ∧ ys[j]? = some z ∧ eqG z x = some true
    · dsimp only
      rw [dif_pos hc]
      obtain ⟨j', z', h1', h2', h3'⟩ := hc
      have := eqN_cong I DEEP _ _ _ _ _ _ gz (g.view I rv h2' h1') h3 h3'
      subst this; exact q
    · dsimp only
      rw [dif_neg hc]
      cases c with
      | false => exact q
      | true => exact absurd ⟨j, z, h1, h2, h3⟩ hc
  · rw [Bool.eq_iff_iff, i2, Array.any_eq_true]
    constructor
    · rintro ⟨i, hi, e⟩
      by_cases hc : ∃ (j : Nat) (z : G), its[j]? = some its.toArray[i] ∧ ys[j]? = some z ∧ eqG z x = some true
      · obtain ⟨j, z, _, h2, h3⟩ := hc
        exact ⟨j, z, h2, h3⟩
      · rw [dif_neg hc] at e; cases e
    · rintro ⟨j, z, h2, h3⟩
      have hj : j < ys.length := (List.getElem?_eq_some_iff.mp h2).1
      have l1 := g.length
      have l2 := rv.length
      have hj' : j < its.length := by omega
      refine ⟨j, by simpa using hj', ?_⟩
      rw [dif_pos ⟨j, z, by simp [hj'], h2, h3⟩]
end
end Pv
set_option Elab.async false
set_option linter.all false
set_option maxRecDepth 100000
set_option maxHeartbeats 1000000
namespace Pv
open PySem L2
theorem szOk_le {n : Nat} (h : szOk n = true) : n ≤ 16000000 := Nat.le_of_ble_eq_true h
theorem szOk_line {n : Nat} (h : szOk n = true) : n ≤ sizeLine := by have := szOk_le h; rw [sizeLine_eq]; omega
theorem dec_len (n : Nat) : (dec n).length ≤ n.log2 + 1 := by
  have : ∀ (f n : Nat) (acc : List Nat), (decF f n acc).length ≤ f + acc.length := fun f => by
    induction f with
    | zero => intro n acc; simp [decF]
    | succ f ih =>
      intro n acc
      unfold decF
      split
      · omega
      · have := ih ((n - 1) / B) ((n - 1) % B :: acc)
        simp at this
        omega
  have := this (n.log2 + 1) n []
  simpa [dec] using this
theorem encS_len (n : Nat) : (encS n).length = (dec n).length := by simp [encS, Str.length]
theorem dec_zero_iff (n : Nat) : (dec n).length = 0 ↔ n = 0 := by
  constructor
  · intro h
    have : dec n = [] := List.length_eq_zero_iff.mp h
    have e := enc_dec n
    rw [this] at e
    exact e.symm
  · rintro rfl; rfl
section
variable {X : Cx} {pins : List (Addr × Obj)} {σ : L2.St} {H : L2.Hp} {s : Shared} {ρ : List Addr} {φ : Yx} {h : Hp}
theorem rd_view (I : Inv X pins σ H s) (hr : HR ⟨X.K, φ⟩ ρ h H) {d : D} {g : G} {v : V} {u : Value} (dr : DR ⟨X.K, φ⟩ H ρ d v) (e : rd h d = some g) (r : RelV v u) : GV ⟨X.K, φ⟩ H ρ s g u := by
  cases d with
  | g x => unfold rd at e; cases e; unfold DR at dr; exact dr.view I r
  | ref i =>
    unfold DR at dr
    obtain ⟨a, ha, rfl⟩ := dr
    cases r
    simp only [rd] at e
    cases q : h[i]? with
    | none => simp [q] at e
    | some o =>
      cases o with
      | lst ds =>
        cases q2 : unGs ds with
        | none => simp [q, q2] at e
        | some gs =>
          simp [q, q2] at e
          subst e
          obtain ⟨vs, hv, dv⟩ := hr.lst ha q
          obtain ⟨its, rv, p, _⟩ := I.list (.inl (.inl hv))
          exact .lst (dv.toG q2) rv p.isList (.inl (.inl hv))
      | _ => simp [q] at e
  | _ => simp [rd] at e
/-- bools out -/
abbrev bO (o : Option Bool) : Option D := o.map fun b => .g (.bl b)
theorem bO_fin {K : Kx} {Q : VK} {o : Option Bool} (f : FinO K ρ h H Q (bO o)) : ∃ b, o = some b ∧ Fin K ρ h H Q (.g (.bl b)) := by
  cases o with
  | none => exact f.elim
  | some b => exact ⟨b, rfl, f⟩
theorem ep_bl (I : Inv X pins σ H s) (hr : HR ⟨X.K, φ⟩ ρ h H) {Q : VK} {b : Bool} (f : Fin ⟨X.K, φ⟩ ρ h H Q (.g (.bl b))) : EP X pins σ Q (.bool b) s :=
  ⟨.bl b, H, I, rfl, f.here hr (by unfold DR GR; rfl)⟩
theorem ep_int (I : Inv X pins σ H s) (hr : HR ⟨X.K, φ⟩ ρ h H) {Q : VK} {b : Int} (f : Fin ⟨X.K, φ⟩ ρ h H Q (.g (.int b))) : EP X pins σ Q (.int b s.toks) { s with toks := s.toks + 1 } :=
  ⟨.int b, H, I.tok _, ⟨_, rfl⟩, f.here hr (by unfold DR GR; rfl)⟩
theorem eqD_some {x y : D} {b : Bool} (e : eqD h x y = some b) : ∃ gx gy, rd h x = some gx ∧ rd h y = some gy ∧ eqG gx gy = some b := by
  unfold eqD at e
  cases q1 : rd h x with
  | none => rw [q1] at e; cases e
  | some gx =>
    cases q2 : rd h y with
    | none => rw [q1, q2] at e; cases e
    | some gy => rw [q1, q2] at e; exact ⟨gx, gy, rfl, rfl, e⟩
end
/-- an operation's rule by values -/
abbrev oR (X : Cx) (f : Value → Value → Sem Value) (g : D → D → Hp → Option D) : Prop := ∀ φ, OpR X f (rV2 ⟨X.K, φ⟩ g)
section
variable {X : Cx}
theorem op_eq (hu : X.A.units + 160 ≤ cLine) : oR X (compareOp .Eq) fun x y h => bO (cmpV .eq x y h) := by
  intro φ pins s σ H x y v u Q I rx ry ⟨ρ, h, d, e, hr, dx, dy, fin⟩
  obtain ⟨b, eb, fin⟩ := bO_fin fin
  obtain ⟨gx, gy, e1, e2, e3⟩ := eqD_some (show eqD h d e = some b from eb)
  have := (eqN_rc I DEEP gx gy v u b X.A e3 (rd_view I hr dx e1 rx) (rd_view I hr dy e2 ry) (by unfold DEEP; omega)).1
  exact this X.prog X.w _ _ (ep_bl I hr fin)
theorem notO_some {o : Option Bool} {b : Bool} (e : notO o = some b) : o = some (!b) := by
  cases o with
  | none => cases e
  | some a => cases e; simp
theorem op_ne (hu : X.A.units + 160 ≤ cLine) : oR X (compareOp .NotEq) fun x y h => bO (cmpV .ne x y h) := by
  intro φ pins s σ H x y v u Q I rx ry ⟨ρ, h, d, e, hr, dx, dy, fin⟩
  obtain ⟨b, eb, fin⟩ := bO_fin fin
  obtain ⟨gx, gy, e1, e2, e3⟩ := eqD_some (notO_some (show notO (eqD h d e) = some b from eb))
  have := (eqN_rc I DEEP gx gy v u (!b) X.A e3 (rd_view I hr dx e1 rx) (rd_view I hr dy e2 ry) (by unfold DEEP; omega)).2.1
  rw [Bool.not_not] at this
  exact this X.prog X.w _ _ (ep_bl I hr fin)
theorem iCmp_some {f : Int → Int → Bool} {x y : D} {b : Bool} (e : iCmp f x y = some b) : ∃ i j, x = .g (.int i) ∧ y = .g (.int j) ∧ f i j = b := by
  unfold iCmp at e
  split at e
  · cases e; exact ⟨_, _, rfl, rfl, rfl⟩
  · cases e
theorem int_dr {K : Kx} {H : L2.Hp} {ρ : List Addr} {i : Int} {v : V} (h : DR K H ρ (.g (.int i)) v) : v = .int i := by unfold DR GR at h; exact h
theorem bl_dr {K : Kx} {H : L2.Hp} {ρ : List Addr} {i : Bool} {v : V} (h : DR K H ρ (.g (.bl i)) v) : v = .bl i := by unfold DR GR at h; exact h
theorem non_dr {K : Kx} {H : L2.Hp} {ρ : List Addr} {v : V} (h : DR K H ρ (.g .non) v) : v = .non := by unfold DR GR at h; exact h
theorem str_dr {K : Kx} {H : L2.Hp} {ρ : List Addr} {i : Nat} {v : V} (h : DR K H ρ (.g (.str i)) v) : v = .str (encS i) := by unfold DR GR at h; exact h
theorem op_icmp {op : CmpOp} {g : Int → Int → Bool} (ho : OpR X (compareOp op) (rI0 fun i j => .bl (g i j))) : oR X (compareOp op) fun x y h => bO (iCmp g x y) := by
  intro φ pins s σ H x y v u Q I rx ry ⟨ρ, h, d, e, hr, dx, dy, fin⟩
  obtain ⟨b, eb, fin⟩ := bO_fin fin
  obtain ⟨i, j, rfl, rfl, rfl⟩ := iCmp_some eb
  exact ho pins s σ H x y v u Q I rx ry ⟨i, j, int_dr dx, int_dr dy, fin.here hr (by unfold DR GR; rfl)⟩
theorem op_ltI : oR X (compareOp .Lt) fun x y h => bO (cmpV .lt x y h) := op_icmp L2.op_lt
theorem op_leI : oR X (compareOp .LtE) fun x y h => bO (cmpV .le x y h) := op_icmp L2.op_le
theorem op_gtI : oR X (compareOp .Gt) fun x y h => bO (cmpV .gt x y h) := op_icmp L2.op_gt
theorem op_geI : oR X (compareOp .GtE) fun x y h => bO (cmpV .ge x y h) := op_icmp L2.op_ge
/-- x in y -/
theorem memV_some {h : Hp} {x y : D} {b : Bool} (e : memV h x y = some b) : (∃ i kvs g o, y = .ref i ∧ h[i]? = some (.dic kvs) ∧ x = .g g ∧ getK g kvs = some o ∧ o.isSome = b) ∨ ∃ gx, rd h x = some gx ∧ ((∃ gs, (rd h y = some (.tup gs) ∨ rd h y = some (.lst gs)) ∧ memG gx gs = some b) ∨ ∃ n, rd h y = some (.str n) ∧ sgnV gx n = some b) := by
  unfold memV at e
  cases q0 : dicOf h y with
  | some kvs =>
    rw [q0] at e
    left
    unfold dicOf at q0
    split at q0
    · rename_i i
      split at q0
      · rename_i kv q1
        cases q0
        cases x with
        | g g =>
          simp only at e
          cases q2 : getK g kvs with
          | none => rw [q2] at e; cases e
          | some o => rw [q2] at e; cases e; exact ⟨i, kvs, g, o, rfl, q1, rfl, q2, rfl⟩
        | _ => cases e
      · cases q0
    · cases q0
  | none =>
    rw [q0] at e
    right
    cases q : rd h x with
    | none => simp only [q] at e; cases e
    | some gx =>
      simp only [q] at e
      refine ⟨gx, rfl, ?_⟩
      cases q2 : rd h y with
      | none => rw [q2] at e; cases e
      | some gy =>
        rw [q2] at e
        cases gy with
        | tup gs => exact .inl ⟨gs, .inl rfl, e⟩
        | lst gs => exact .inl ⟨gs, .inr rfl, e⟩
        | str n => exact .inr ⟨n, rfl, e⟩
        | _ => cases e
theorem memC_eq (c : Nat) : ∀ l : List Nat, memC c l = decide (c ∈ l)
  | [] => by simp [memC]
  | y :: r => by
    unfold memC
    cases q : Nat.beq c y with
    | true => simp [Nat.eq_of_beq_eq_true q]
    | false =>
      have : c ≠ y := fun z => by subst z; rw [Nat.beq_refl] at q; cases q
      simp [memC_eq c r, this]
theorem sgnV_some {x : G} {n : Nat} {b : Bool} (e : sgnV x n = some b) : ∃ m c, x = .str m ∧ encS m = ⟨#[c]⟩ ∧ b = decide (c ∈ (encS n).cps.toList) := by
  unfold sgnV at e
  split at e
  · split at e
    · rename_i m _ c q
      cases e
      exact ⟨_, c, rfl, by unfold encS; rw [q], by rw [memC_eq]; exact decide_eq_decide.mpr (by simp [encS])⟩
    · cases e
  · cases e
theorem rd_str {h : Hp} {d : D} {n : Nat} (e : rd h d = some (.str n)) : d = .g (.str n) := by
  unfold rd at e
  split at e
  · cases e; rfl
  · split at e
    · rename_i ds _
      cases q : unGs ds <;> rw [q] at e <;> cases e
    · cases e
  · cases e
theorem op_inR (hu : X.A.units + 160 ≤ cLine) : oR X (compareOp .In) fun x y h => bO (cmpV .isin x y h) := by
  intro φ pins s σ H x y v u Q I rx ry ⟨ρ, h, d, e, hr, dx, dy, fin0⟩
  obtain ⟨b, eb, fin⟩ := bO_fin fin0
  clear fin0
  rcases memV_some (show memV h d e = some b from eb) with ⟨i, kvs, g, o, rfl, q1, rfl, q2, q3⟩ | ⟨gx, e1, ⟨gs, e2, e3⟩ | ⟨n, e2, e3⟩⟩
  · obtain ⟨a, w', rfl, dg, si, _⟩ := dic_look hr dy q1 (by unfold DR at dx; exact dx) q2
    obtain rfl : u = Value.ref a := ry
    exact d_in (by omega) I dg rx fun s' I' => ⟨.bl b, H, I', by rw [si, q3]; rfl, fin.here hr (by unfold DR GR; rfl)⟩
  rotate_left
  · obtain ⟨m, c, rfl, em, rfl⟩ := sgnV_some e3
    cases rd_str e1
    cases rd_str e2
    exact op_in_sign pins s σ H x y v u Q I rx ry ⟨c, encS n, by rw [str_dr dx, em], str_dr dy, fin.here hr (by unfold DR GR; rfl)⟩
  have vx := rd_view I hr dx e1 rx
  have hu' : X.A.in1.units + DEEP ≤ cLine := by show X.A.units + 1 + 150 ≤ cLine; omega
  rcases e2 with e2 | e2
  · cases rd_view I hr dy e2 ry with
    | tup g r p q =>
      obtain ⟨f, f1, f2⟩ := memG_fn I e3 g r vx hu'
      exact SeqAt.in_tupleAt f p f1 (by rw [f2]; exact ep_bl I hr fin)
  · cases rd_view I hr dy e2 ry with
    | lst g r p q =>
      obtain ⟨f, f1, f2⟩ := memG_fn I e3 g r vx hu'
      exact SeqAt.in_listAt f p f1 (by rw [f2]; exact ep_bl I hr fin)
theorem op_notinR (hu : X.A.units + 160 ≤ cLine) : oR X (compareOp .NotIn) fun x y h => bO (cmpV .notin x y h) := by
  intro φ pins s σ H x y v u Q I rx ry ⟨ρ, h, d, e, hr, dx, dy, fin0⟩
  obtain ⟨b, eb, fin⟩ := bO_fin fin0
  clear fin0
  rcases memV_some (notO_some (show notO (memV h d e) = some b from eb)) with ⟨i, kvs, g, o, rfl, q1, rfl, q2, q3⟩ | ⟨gx, e1, ⟨gs, e2, e3⟩ | ⟨n, e2, e3⟩⟩
  · obtain ⟨a, w', rfl, dg, si, _⟩ := dic_look hr dy q1 (by unfold DR at dx; exact dx) q2
    obtain rfl : u = Value.ref a := ry
    exact d_notIn (by omega) I dg rx fun s' I' => ⟨.bl b, H, I', by rw [si, q3, Bool.not_not]; rfl, fin.here hr (by unfold DR GR; rfl)⟩
  rotate_left
  · obtain ⟨m, c, rfl, em, hb⟩ := sgnV_some e3
    cases rd_str e1
    cases rd_str e2
    refine op_notIn_sign pins s σ H x y v u Q I rx ry ⟨c, encS n, by rw [str_dr dx, em], str_dr dy, ?_⟩
    rw [← hb, Bool.not_not]
    exact fin.here hr (by unfold DR GR; rfl)
  have vx := rd_view I hr dx e1 rx
  have hu' : X.A.in1.units + DEEP ≤ cLine := by show X.A.units + 1 + 150 ≤ cLine; omega
  rcases e2 with e2 | e2
  · cases rd_view I hr dy e2 ry with
    | tup g r p q =>
      obtain ⟨f, f1, f2⟩ := memG_fn I e3 g r vx hu'
      exact SeqAt.notIn_tupleAt f p f1 (by rw [f2, Bool.not_not]; exact ep_bl I hr fin)
  · cases rd_view I hr dy e2 ry with
    | lst g r p q =>
      obtain ⟨f, f1, f2⟩ := memG_fn I e3 g r vx hu'
      exact SeqAt.notIn_listAt f p f1 (by rw [f2, Bool.not_not]; exact ep_bl I hr fin)
/-- is -/
theorem isV_some {x y : D} {b : Bool} (e : isV x y = some b) : (y = .g .non ∧ ((x = .g .non ∧ b = true) ∨ (x ≠ .g .non ∧ b = false))) ∨ ∃ p q : Bool, x = .g (.bl p) ∧ y = .g (.bl q) ∧ b = (p == q) := by
  unfold isV at e
  split at e
  · left
    refine ⟨rfl, ?_⟩
    split at e
    · cases e; exact .inl ⟨rfl, rfl⟩
    · cases e
    · rename_i n1 n2
      cases e
      exact .inr ⟨n1, rfl⟩
  · right
    split at e
    · cases e; exact ⟨_, _, rfl, rfl, rfl⟩
    · cases e
  · cases e
theorem dr_non {K : Kx} {H : L2.Hp} {ρ : List Addr} {d : D} (h : DR K H ρ d .non) : d = .g .non := by
  cases d with
  | g x => unfold DR at h; cases x <;> simp [GR] at h <;> rfl
  | ref i => unfold DR at h; obtain ⟨a, _, e⟩ := h; cases e
  | mix l ds => unfold DR at h; obtain ⟨a, _, e, _⟩ := h; cases e
  | bm i c m => unfold DR at h; obtain ⟨a, p, _, e, _⟩ := h; cases e
theorem op_is : oR X (compareOp .Is) fun x y h => bO (cmpV .isn x y h) := by
  intro φ pins s σ H x y v u Q I rx ry ⟨ρ, h, d, e, hr, dx, dy, fin0⟩
  obtain ⟨b, eb, fin⟩ := bO_fin fin0
  clear fin0
  rcases isV_some (show isV d e = some b from eb) with ⟨rfl, c⟩ | ⟨p, q, rfl, rfl, rfl⟩
  · have hy := non_dr dy
    refine L2.op_isN pins s σ H x y v u Q I rx ry ⟨hy, ?_⟩
    have : decide (x = .non) = b := by
      rcases c with ⟨rfl, rfl⟩ | ⟨c1, rfl⟩
      · rw [non_dr dx]; simp
      · have : x ≠ .non := fun z => c1 (by subst z; exact dr_non dx)
        simp [this]
    rw [this]
    exact fin.here hr (by unfold DR GR; rfl)
  · refine L2.op_isBl pins s σ H x y v u Q I rx ry ⟨p, q, bl_dr dx, bl_dr dy, ?_⟩
    rw [← Bool.beq_eq_decide_eq]
    exact fin.here hr (by unfold DR GR; rfl)
theorem op_isnt : oR X (compareOp .IsNot) fun x y h => bO (cmpV .isnt x y h) := by
  intro φ pins s σ H x y v u Q I rx ry ⟨ρ, h, d, e, hr, dx, dy, fin0⟩
  obtain ⟨b, eb, fin⟩ := bO_fin fin0
  clear fin0
  rcases isV_some (notO_some (show notO (isV d e) = some b from eb)) with ⟨rfl, c⟩ | ⟨p, q, rfl, rfl, hb⟩
  · have hy := non_dr dy
    refine L2.op_notN pins s σ H x y v u Q I rx ry ⟨hy, ?_⟩
    have : (!decide (x = .non)) = b := by
      rcases c with ⟨rfl, hb⟩ | ⟨c1, hb⟩
      · rw [non_dr dx]; cases b <;> simp_all
      · have : x ≠ .non := fun z => c1 (by subst z; exact dr_non dx)
        cases b <;> simp_all
    rw [this]
    exact fin.here hr (by unfold DR GR; rfl)
  · refine L2.op_notBl pins s σ H x y v u Q I rx ry ⟨p, q, bl_dr dx, bl_dr dy, ?_⟩
    have e : (!decide (p = q)) = b := by rw [← Bool.beq_eq_decide_eq, ← hb, Bool.not_not]
    rw [e]
    exact fin.here hr (by unfold DR GR; rfl)
def cmO : Cm → CmpOp
  | .eq => .Eq | .ne => .NotEq | .lt => .Lt | .le => .LtE | .gt => .Gt | .ge => .GtE | .isin => .In | .notin => .NotIn | .isn => .Is | .isnt => .IsNot
theorem op_cm (hu : X.A.units + 160 ≤ cLine) : ∀ op : Cm, oR X (compareOp (cmO op)) fun x y h => bO (cmpV op x y h)
  | .eq => op_eq hu | .ne => op_ne hu | .lt => op_ltI | .le => op_leI | .gt => op_gtI | .ge => op_geI | .isin => op_inR hu | .notin => op_notinR hu | .isn => op_is | .isnt => op_isnt
end
end Pv
set_option Elab.async false
set_option linter.all false
set_option maxRecDepth 100000
set_option maxHeartbeats 1000000
namespace Pv
open PySem L2 PySem.Spec PyProof.Rows
theorem dec_lt (n : Nat) : ∀ c ∈ dec n, c < B := by
  have : ∀ (f n : Nat) (acc : List Nat), (∀ c ∈ acc, c < B) → ∀ c ∈ decF f n acc, c < B := fun f => by
    induction f with
    | zero => intro n acc ha; simpa [decF] using ha
    | succ f ih =>
      intro n acc ha
      unfold decF
      split
      · exact ha
      · refine ih _ _ fun c hc => ?_
        rcases List.mem_cons.mp hc with rfl | hc
        · exact Nat.mod_lt _ (by decide)
        · exact ha c hc
  exact this _ n [] (by simp)
theorem dec_one {c : Nat} (hc : c < B) : dec (c + 1) = [c] := by
  unfold dec decF
  rw [if_neg (by simp)]
  have e1 : (c + 1 - 1) / B = 0 := by rw [Nat.add_sub_cancel]; exact Nat.div_eq_of_lt hc
  have e2 : (c + 1 - 1) % B = c := by rw [Nat.add_sub_cancel]; exact Nat.mod_eq_of_lt hc
  rw [e1, e2]
  cases (c + 1).log2 with
  | zero => rfl
  | succ k => unfold decF; rw [if_pos (by decide)]
/-- signs that are signs -/
def Sgn (l : List Nat) : Prop := ∀ c ∈ l, c < B
theorem decF_of : ∀ (k : Nat) (l : List Nat), l.length = k → Sgn l → ∀ (f : Nat) (acc : List Nat), enc l < 2 ^ f → decF f (enc l) acc = l ++ acc
  | 0, l, hl, _, f, acc, _ => by
    cases List.eq_nil_of_length_eq_zero hl
    cases f with
    | zero => rfl
    | succ f => unfold decF; rw [if_pos (by rfl)]; rfl
  | k + 1, l, hl, hs, f, acc, hf => by
    have ne : l ≠ [] := fun z => by subst z; cases hl
    obtain ⟨m, c, rfl⟩ : ∃ m c, l = m ++ [c] := ⟨l.dropLast, l.getLast ne, (List.dropLast_concat_getLast ne).symm⟩
    have hm : m.length = k := by simpa using hl
    have hc : c < B := hs c (by simp)
    have e : enc (m ++ [c]) = enc m * B + (c + 1) := by unfold enc; rw [List.foldl_append]; rfl
    rw [e] at hf ⊢
    cases f with
    | zero => exact absurd hf (by simp)
    | succ f =>
      unfold decF
      rw [if_neg (by simp)]
      have e0 : enc m * B + (c + 1) - 1 = B * enc m + c := by rw [Nat.mul_comm]; omega
      have e1 : (B * enc m + c) / B = enc m := by rw [Nat.mul_add_div (by decide), Nat.div_eq_of_lt hc]; rfl
      have e2 : (B * enc m + c) % B = c := by rw [Nat.mul_add_mod]; exact Nat.mod_eq_of_lt hc
      rw [e0, e1, e2]
      have lt : enc m < 2 ^ f := by
        have a1 : enc m * 2 ≤ enc m * B := Nat.mul_le_mul_left _ (by decide)
        rw [Nat.pow_succ] at hf
        omega
      rw [decF_of k m hm (fun x hx => hs x (List.mem_append_left _ hx)) f _ lt]
      simp
theorem dec_enc {l : List Nat} (h : Sgn l) : dec (enc l) = l := by
  unfold dec
  rw [decF_of _ l rfl h _ _ Nat.lt_log2_self, List.append_nil]
theorem encS_enc {l : List Nat} (h : Sgn l) : encS (enc l) = ⟨l.toArray⟩ := by unfold encS; rw [dec_enc h]
theorem Sgn.append {a b : List Nat} (ha : Sgn a) (hb : Sgn b) : Sgn (a ++ b) := fun c hc => (List.mem_append.mp hc).elim (ha c) (hb c)
theorem Sgn.sub {a b : List Nat} (hb : Sgn b) (h : ∀ c ∈ a, c ∈ b) : Sgn a := fun c hc => hb c (h c hc)
theorem str_cat (a b : Nat) : encS (enc (dec a ++ dec b)) = encS a ++ encS b := by
  rw [encS_enc (Sgn.append (dec_lt a) (dec_lt b))]
  show (⟨(dec a ++ dec b).toArray⟩ : Str) = ⟨(dec a).toArray ++ (dec b).toArray⟩
  rw [List.append_toArray]
theorem fold_cat : ∀ (m : Nat) (l acc : List Nat), (List.replicate m l.toArray).foldl (· ++ ·) acc.toArray = (acc ++ (List.replicate m l).flatten).toArray
  | 0, l, acc => by simp
  | m + 1, l, acc => by
    rw [List.replicate_succ, List.foldl_cons, List.append_toArray, fold_cat m l (acc ++ l), List.replicate_succ, List.flatten_cons, List.append_assoc]
theorem flat_mem {l : List Nat} {m : Nat} : ∀ c ∈ (List.replicate m l).flatten, c ∈ l := fun c hc => by
  obtain ⟨x, hx, h⟩ := List.mem_flatten.mp hc
  rw [List.eq_of_mem_replicate hx] at h
  exact h
section
variable {X : Cx}
/-- text * number -/
theorem op_txtRep : OpR X (binaryOp .Mult) fun x y H Q => ∃ a k, x = .str (encS a) ∧ y = .int k ∧ 2 ≤ k ∧ k ≤ 1000 ∧ (dec a).isEmpty = false ∧ (dec a).length ≤ 10000 ∧ Q (.str (encS (enc (repL k (dec a))))) H := by
  intro pins s σ H x y v u Q I rx ry h
  obtain ⟨a, k, rfl, rfl, k2, k3, ne, hl, q⟩ := h
  obtain ⟨t, rfl⟩ := rx
  obtain ⟨w, rfl⟩ := ry
  have len : (encS a).length = (dec a).length := encS_len a
  have n1 : ¬ k < 1 := by omega
  have n2 : ¬ (k == 1 || (encS a).length == 0) = true := by
    rw [Bool.or_eq_true, beq_iff_eq, beq_iff_eq, len]
    rintro (z | z)
    · omega
    · rw [List.eq_nil_of_length_eq_zero z] at ne
      cases ne
  have z1 : (encS a).length * k.toNat ≤ 10000 * 1000 := by rw [len]; exact Nat.mul_le_mul hl (by omega)
  refine PySem.P.mul_str (by rw [decide_eq_false (by omega), decide_eq_false (by omega)] <;> rfl) (fun _ _ => ?_) (fun _ _ => ?_) ?_
  · rw [len]
    intro c
    have c1 : (2 ^ 63 - 1 : Int) / k ≥ (2 ^ 63 - 1) / 1000 := by
      have p : (0 : Int) < k := by omega
      rw [ge_iff_le, Int.le_ediv_iff_mul_le p]
      have : ((2 ^ 63 - 1 : Int) / 1000) * k ≤ ((2 ^ 63 - 1) / 1000) * 1000 := Int.mul_le_mul_of_nonneg_left k3 (by decide)
      omega
    omega
  · exact decide_eq_false (by rw [sizeLine_eq]; omega)
  · rw [if_neg n1, if_neg n2]
    have e : (⟨(List.replicate k.toNat (encS a).cps).foldl (· ++ ·) #[]⟩ : Str) = encS (enc (repL k (dec a))) := by
      unfold repL
      rw [encS_enc (Sgn.sub (dec_lt a) flat_mem)]
      have := fold_cat k.toNat (dec a) []
      rw [List.nil_append] at this
      exact congrArg Str.mk this
    rw [e]
    refine ⟨?_, ⟨.str _, H, I.tok _, ⟨_, rfl⟩, q⟩⟩
    have e3 : dec (enc (repL k (dec a))) = repL k (dec a) := dec_enc (Sgn.sub (dec_lt a) flat_mem)
    have e4 : (repL k (dec a)).length = k.toNat * (dec a).length := by unfold repL; rw [List.length_flatten, List.map_replicate, List.sum_replicate_nat]
    rw [encS_len, e3, e4, sizeLine_eq, Nat.mul_comm, ← len]
    omega
end
/-- a number's text -/
theorem digit_lt {b n : Nat} (hb : b ≤ 16) (h : 0 < b) : ∀ c ∈ (Nat.toDigits b n).map Char.toNat, c < B := fun c hc => by
  obtain ⟨x, hx, rfl⟩ := List.mem_map.mp hc
  have := x.valid
  show x.toNat < 1114112
  unfold Char.toNat
  rcases this with h | h
  · exact Nat.lt_trans h (by decide)
  · exact h.2
theorem str_num (i : Int) : encS (strInt i) = Str.ofString (toString i) := by
  rw [PySem.Str.ofString_eq_toList]
  cases i with
  | ofNat n =>
    show encS (enc _) = _
    rw [encS_enc (digit_lt (by decide) (by decide))]
    show _ = (⟨((Nat.repr n).toList.map Char.toNat).toArray⟩ : Str)
    unfold Nat.repr
    rw [String.toList_ofList]
  | negSucc n =>
    show encS (enc _) = _
    rw [encS_enc (fun c hc => (List.mem_cons.mp hc).elim (fun e => by rw [e]; decide) (digit_lt (by decide) (by decide) c))]
    show _ = (⟨(("-" ++ Nat.repr (n + 1)).toList.map Char.toNat).toArray⟩ : Str)
    unfold Nat.repr
    rw [String.toList_append, String.toList_ofList]
    simp
theorem digV_some {c : Nat} {i : Int} (e : digV c = some i) : 48 ≤ c ∧ c ≤ 57 ∧ i = ((c - 48 : Nat) : Int) := by
  unfold digV at e
  split at e
  · rename_i h
    cases e
    exact ⟨h.1, h.2, rfl⟩
  · cases e
theorem digit_text {c : Nat} {i : Int} (e : digV c = some i) : PySem.intText? ⟨#[c]⟩ = some i := by
  obtain ⟨h1, h2, rfl⟩ := digV_some e
  have z : ∀ k, k < 10 → PySem.intText? ⟨#[k + 48]⟩ = some ((k + 48 - 48 : Nat) : Int) := by decide +kernel
  have z := z (c - 48) (by omega)
  rwa [show c - 48 + 48 = c by omega] at z
/-! ### signs by their place -/
theorem lenF_eq : ∀ (f n k : Nat) (acc : List Nat), acc.length = k → (decF f n acc).length = lenF f n k
  | 0, n, k, acc, h => h
  | f + 1, n, k, acc, h => by
    unfold decF lenF
    split
    · exact h
    · exact lenF_eq f _ _ _ (by simp [h])
theorem lenS_eq (n : Nat) : lenS n = (dec n).length := (lenF_eq _ n 0 [] rfl).symm
def rep1 : Nat → Nat
  | 0 => 0
  | k + 1 => rep1 k + B ^ k
theorem rep1_eq : ∀ k, 1114111 * rep1 k + 1 = B ^ k
  | 0 => rfl
  | k + 1 => by
    have h := rep1_eq k
    have e : B ^ (k + 1) = B ^ k * 1114112 := Nat.pow_succ B k
    rw [e]
    unfold rep1
    omega
theorem ones_eq (k : Nat) : ones k = rep1 k := by
  unfold ones
  have h := rep1_eq k
  rw [← h]
  omega
theorem enc_fold : ∀ (t : List Nat) (m : Nat), t.foldl (fun n c => n * B + (c + 1)) m = m * B ^ t.length + enc t
  | [], m => by simp [enc]
  | c :: t, m => by
    rw [List.foldl_cons, enc_fold t]
    have e : enc (c :: t) = (c + 1) * B ^ t.length + enc t := by
      show (c :: t).foldl _ 0 = _
      rw [List.foldl_cons, enc_fold t, Nat.zero_mul, Nat.zero_add]
    rw [e, List.length_cons, Nat.pow_succ, Nat.add_mul, Nat.mul_assoc, Nat.mul_comm B, Nat.add_assoc]
theorem enc_app (a t : List Nat) : enc (a ++ t) = enc a * B ^ t.length + enc t := by
  unfold enc
  rw [List.foldl_append]
  exact enc_fold t _
theorem enc_bounds : ∀ {t : List Nat}, Sgn t → rep1 t.length ≤ enc t ∧ enc t < rep1 t.length + B ^ t.length
  | [], _ => ⟨Nat.le_refl 0, by decide⟩
  | c :: t, h => by
    obtain ⟨h1, h2⟩ := enc_bounds (t := t) fun x hx => h x (List.mem_cons_of_mem _ hx)
    have e : enc (c :: t) = (c + 1) * B ^ t.length + enc t := by
      have := enc_app [c] t
      simpa [enc] using this
    have hc : c + 1 ≤ B := h c (by simp)
    have u : (c + 1) * B ^ t.length ≤ B * B ^ t.length := Nat.mul_le_mul_right _ hc
    have l : 1 * B ^ t.length ≤ (c + 1) * B ^ t.length := Nat.mul_le_mul_right _ (by omega)
    have p : B ^ (t.length + 1) = B * B ^ t.length := by rw [Nat.pow_succ, Nat.mul_comm]
    rw [e, List.length_cons, p]
    show rep1 t.length + B ^ t.length ≤ _ ∧ _ < rep1 t.length + B ^ t.length + _
    omega
theorem preS_app {a t : List Nat} (h : Sgn t) : preS (enc (a ++ t)) t.length = enc a := by
  obtain ⟨h1, h2⟩ := enc_bounds h
  have hp : 0 < B ^ t.length := Nat.pow_pos (by decide)
  unfold preS
  rw [ones_eq, enc_app]
  have e : enc a * B ^ t.length + enc t - rep1 t.length = B ^ t.length * enc a + (enc t - rep1 t.length) := by rw [Nat.mul_comm]; omega
  rw [e, Nat.mul_add_div hp, Nat.div_eq_of_lt (by omega)]
  rfl
theorem preS_take {n k : Nat} (h : k ≤ (dec n).length) : preS n (lenS n - k) = enc ((dec n).take k) := by
  have e : (dec n).take k ++ (dec n).drop k = dec n := List.take_append_drop k _
  have hl : ((dec n).drop k).length = lenS n - k := by rw [List.length_drop, lenS_eq]
  have := preS_app (a := (dec n).take k) (t := (dec n).drop k) (Sgn.sub (dec_lt n) fun c hc => List.mem_of_mem_drop hc)
  rwa [e, enc_dec, hl] at this
theorem chrS_eq (n i : Nat) : chrS n i = (dec n)[i]? := by
  unfold chrS
  cases q : Nat.blt i (lenS n) with
  | true =>
    have lt : i < (dec n).length := by rw [← lenS_eq]; exact Nat.le_of_ble_eq_true q
    have e : lenS n - 1 - i = lenS n - (i + 1) := by omega
    have e2 : (dec n).take (i + 1) = (dec n).take i ++ [(dec n)[i]] := by rw [List.take_add_one, List.getElem?_eq_getElem lt]; rfl
    dsimp only
    rw [e, preS_take lt, e2, enc_app, List.getElem?_eq_getElem lt]
    have hc : (dec n)[i] < B := dec_lt n _ (List.getElem_mem lt)
    show some ((enc ((dec n).take i) * B ^ 1 + (0 * B + ((dec n)[i] + 1)) - 1) % B) = _
    have e3 : enc ((dec n).take i) * B ^ 1 + (0 * B + ((dec n)[i] + 1)) - 1 = B * enc ((dec n).take i) + (dec n)[i] := by rw [Nat.pow_one, Nat.mul_comm]; omega
    rw [e3, Nat.mul_add_mod, Nat.mod_eq_of_lt hc]
  | false =>
    have ge : (dec n).length ≤ i := by
      rw [← lenS_eq]
      apply Nat.le_of_not_lt
      intro h
      have := Nat.ble_eq_true_of_le h
      rw [show Nat.ble (i + 1) (lenS n) = Nat.blt i (lenS n) from rfl, q] at this
      cases this
    rw [List.getElem?_eq_none ge]
theorem cutN_eq {n lo hi : Nat} (hh : hi ≤ (dec n).length) : cutN n lo hi = enc (cutL (dec n) lo hi) := by
  unfold cutN cutL
  cases q : Nat.blt lo hi with
  | true =>
    have lt : lo < hi := Nat.le_of_ble_eq_true q
    dsimp only
    rw [preS_take hh, preS_take (Nat.le_trans (Nat.le_of_lt lt) hh)]
    have e : (dec n).take hi = (dec n).take lo ++ ((dec n).drop lo).take (hi - lo) := by
      rw [show hi = lo + (hi - lo) by omega, List.take_add, show lo + (hi - lo) - lo = hi - lo by omega]
    have hl : (((dec n).drop lo).take (hi - lo)).length = hi - lo := by rw [List.length_take, List.length_drop]; omega
    rw [e, enc_app, hl]
    omega
  | false =>
    have ge : hi ≤ lo := by
      apply Nat.le_of_not_lt
      intro h
      have := Nat.ble_eq_true_of_le h
      rw [show Nat.ble (lo + 1) hi = Nat.blt lo hi from rfl, q] at this
      cases this
    rw [show hi - lo = 0 by omega]
    rfl
theorem slS_eq (n : Nat) (lo hi : D) : slS n lo hi = omap enc (sl2 (dec n) lo hi) := by
  have le : ∀ (m d : Nat) (o : Option Int), d ≤ m → sIxD m d o ≤ m := fun m d o h => by
    have e : sIxD m d o = HT.sIx m d o := by cases o <;> rfl
    rw [e]
    exact HT.sIx_le _ _ h _
  unfold slS sl2
  cases bnd lo with
  | none => rfl
  | some i =>
    cases bnd hi with
    | none => rfl
    | some j =>
      dsimp only [omap]
      rw [lenS_eq, cutN_eq (le _ _ _ (Nat.le_refl _))]
theorem subS_eq (n : Nat) (i : Int) : (if 0 ≤ i then omap (fun c => G.str (c + 1)) (chrS n i.toNat) else nth ((dec n).map fun c => G.str (c + 1)) i) = nth ((dec n).map fun c => G.str (c + 1)) i := by
  split
  · rename_i h
    unfold nth
    rw [if_pos h, chrS_eq, List.getElem?_map]
    cases (dec n)[i.toNat]? <;> rfl
  · rfl
/-- sep.join -/
theorem join_is (y : Nat) : ∀ ls : List (List Nat), (∀ l ∈ ls, Sgn l) → Str.join (encS y) (ls.map fun l => encS (enc l)) = encS (enc (joinL (dec y) ls)) ∧ Sgn (joinL (dec y) ls)
  | [], _ => ⟨rfl, fun c hc => by simp [joinL] at hc⟩
  | [x], h => ⟨rfl, h x (by simp)⟩
  | x :: z :: r, h => by
    obtain ⟨e, s⟩ := join_is y (z :: r) fun l hl => h l (List.mem_cons_of_mem _ hl)
    have sx := h x (by simp)
    have s2 : Sgn (x ++ (dec y ++ joinL (dec y) (z :: r))) := sx.append (Sgn.append (dec_lt y) s)
    refine ⟨?_, s2⟩
    show encS (enc x) ++ encS y ++ Str.join (encS y) ((z :: r).map fun l => encS (enc l)) = encS (enc (x ++ (dec y ++ joinL (dec y) (z :: r))))
    rw [e, encS_enc sx, encS_enc s, encS_enc s2]
    show (⟨x.toArray ++ (dec y).toArray ++ (joinL (dec y) (z :: r)).toArray⟩ : Str) = _
    rw [List.append_toArray, List.append_toArray, List.append_assoc]
theorem cut_text {n : Nat} (lo hi : Option Int) : cutS (encS n) lo hi = encS (enc (cutL (dec n) (sIxD (dec n).length 0 lo) (sIxD (dec n).length (dec n).length hi))) := by
  have e : ∀ (n d : Nat) (o : Option Int), sIxD n d o = HT.sIx n d o := fun n d o => by cases o <;> rfl
  have s : Sgn (cutL (dec n) (sIxD (dec n).length 0 lo) (sIxD (dec n).length (dec n).length hi)) := Sgn.sub (dec_lt n) fun c hc => List.mem_of_mem_drop (List.mem_of_mem_take hc)
  rw [encS_enc s]
  unfold cutS cutL
  rw [encS_len, e, e]
  rfl
end Pv
set_option Elab.async false
set_option linter.all false
set_option maxRecDepth 100000
set_option maxHeartbeats 1000000
namespace Pv
open PySem L2
section
variable {K : Kx} {ρ : List Addr} {h : Hp} {H : L2.Hp}
theorem tup_dr {gs : List G} {v : V} (d : DR K H ρ (.g (.tup gs)) v) : ∃ a vs, v = .ref a ∧ SqT K.K H a vs ∧ GRs K H ρ gs vs := by unfold DR GR at d; exact d
theorem lst_dr {gs : List G} {v : V} (d : DR K H ρ (.g (.lst gs)) v) : ∃ a vs, v = .ref a ∧ Lv K H ρ a vs ∧ GRs K H ρ gs vs := by unfold DR GR at d; exact d
theorem ref_dr {i : Nat} {v : V} (d : DR K H ρ (.ref i) v) : ∃ a, ρ[i]? = some a ∧ v = .ref a := by unfold DR at d; exact d
theorem mix_dr {l : Bool} {ds : List D} {v : V} (d : DR K H ρ (.mix l ds) v) : ∃ a vs, v = .ref a ∧ (if l = true then Lv K H ρ a vs else SqT K.K H a vs) ∧ DRs K H ρ ds vs := by unfold DR at d; exact d
/-- a list or a tuple -/
def KV (K : Kx) (H : L2.Hp) (l : Bool) (v : V) (vs : List V) : Prop := ∃ a, v = .ref a ∧ (if l = true then Rd H a (.lst vs) else SqT K.K H a vs)
theorem kind_view (hr : HR K ρ h H) {d : D} {v : V} {l : Bool} {ds : List D} (dr : DR K H ρ d v) (e : kind h d = some (l, ds)) : ∃ vs, KV K H l v vs ∧ DRs K H ρ ds vs := by
  cases d with
  | g x =>
    cases x with
    | tup gs =>
      simp only [kind, Option.some.injEq, Prod.mk.injEq] at e
      obtain ⟨rfl, rfl⟩ := e
      obtain ⟨a, vs, rfl, q, g⟩ := tup_dr dr
      exact ⟨vs, ⟨a, rfl, by rw [if_neg (by decide)]; exact q⟩, g.toD⟩
    | lst gs =>
      simp only [kind, Option.some.injEq, Prod.mk.injEq] at e
      obtain ⟨rfl, rfl⟩ := e
      obtain ⟨a, vs, rfl, q, g⟩ := lst_dr dr
      exact ⟨vs, ⟨a, rfl, by rw [if_pos rfl]; exact q.rd⟩, g.toD⟩
    | _ => simp [kind] at e
  | ref i =>
    obtain ⟨a, ha, rfl⟩ := ref_dr dr
    simp only [kind] at e
    cases q : h[i]? with
    | none => simp [q] at e
    | some o =>
      cases o with
      | lst ds' =>
        simp only [q, Option.some.injEq, Prod.mk.injEq] at e
        obtain ⟨rfl, rfl⟩ := e
        obtain ⟨vs, hv, dv⟩ := hr.lst ha q
        exact ⟨vs, ⟨a, rfl, by rw [if_pos rfl]; exact .inl hv⟩, dv⟩
      | _ => simp [q] at e
  | mix l' ds' =>
    simp only [kind, Option.some.injEq, Prod.mk.injEq] at e
    obtain ⟨rfl, rfl⟩ := e
    obtain ⟨a, vs, rfl, q, g⟩ := mix_dr dr
    refine ⟨vs, ⟨a, rfl, ?_⟩, g⟩
    cases l' with
    | true =>
      have q : Lv K H ρ a vs := q
      exact q.rd
    | false => exact q
  | _ => simp [kind] at e
theorem isEmpty_rs {ds : List D} {vs : List V} (d : DRs K H ρ ds vs) : ds.isEmpty = vs.isEmpty := by
  cases ds with
  | nil => rw [d.inv0]; rfl
  | cons x r => obtain ⟨v, t, rfl, _⟩ := d.inv; rfl
theorem isEmpty_gs {ds : List G} {vs : List V} (d : GRs K H ρ ds vs) : ds.isEmpty = vs.isEmpty := by
  cases ds with
  | nil => rw [d.inv0]; rfl
  | cons x r => obtain ⟨v, t, rfl, _⟩ := d.inv; rfl
theorem tru_V (hr : HR K ρ h H) {d : D} {v : V} {b : Bool} (dr : DR K H ρ d v) (e : tru h d = some b) : TruV K.K v H b := by
  cases d with
  | g x =>
    simp only [tru] at e
    cases x with
    | non => cases non_dr dr; cases e; rfl
    | bl c => cases bl_dr dr; cases e; rfl
    | int i => cases int_dr dr; cases e; rfl
    | str n =>
      cases str_dr dr
      simp only [truG] at e
      split at e
      · rename_i hz
        cases e
        have l1 := dec_len n
        have l2 := szOk_le hz
        refine ⟨by rw [encS_len, sizeLine_eq]; omega, ?_⟩
        have := dec_zero_iff n
        rw [encS_len]
        by_cases z : n = 0
        · subst z; rfl
        · have : (dec n).length ≠ 0 := fun c => z (this.mp c)
          have a1 : (n != 0) = true := bne_iff_ne.mpr z
          have a2 : (((dec n).length : Int) != 0) = true := bne_iff_ne.mpr (by omega)
          rw [a1, a2]
      · cases e
    | tup gs =>
      cases e
      obtain ⟨a, vs, rfl, q, g⟩ := tup_dr dr
      exact .inr (.inl ⟨vs, q, by rw [isEmpty_gs g]⟩)
    | lst gs =>
      cases e
      obtain ⟨a, vs, rfl, q, g⟩ := lst_dr dr
      exact .inl ⟨vs, .inl q.rd, by rw [isEmpty_gs g]⟩
    | rng lo hi => cases e
    | set xs => cases e
  | ref i =>
    obtain ⟨a, ha, rfl⟩ := ref_dr dr
    simp only [tru] at e
    cases q : h[i]? with
    | none => simp [q] at e
    | some o =>
      cases o with
      | lst ds =>
        simp only [q, Option.some.injEq] at e
        obtain ⟨vs, hv, dv⟩ := hr.lst ha q
        exact .inl ⟨vs, .inl (.inl hv), by rw [← e, isEmpty_rs dv]⟩
      | dic kvs =>
        simp only [q, Option.some.injEq] at e
        obtain ⟨xs, hv, kr⟩ := hr.dic ha q
        exact .inr (.inr ⟨xs, hv, by rw [← e, kr.empty]⟩)
      | _ => simp [q] at e
  | mix l ds =>
    simp only [tru, Option.some.injEq] at e
    obtain ⟨a, vs, rfl, q, g⟩ := mix_dr dr
    cases l with
    | true =>
      have q : Lv K H ρ a vs := q
      exact .inl ⟨vs, .inl q.rd, by rw [← e, isEmpty_rs g]⟩
    | false => exact .inr (.inl ⟨vs, q, by rw [← e, isEmpty_rs g]⟩)
  | _ => simp [tru] at e
end
section
variable {X : Cx}
theorem omap_some {α β : Type} {f : α → β} {o : Option α} {y : β} (h : omap f o = some y) : ∃ x, o = some x ∧ f x = y := by
  cases o with
  | none => cases h
  | some x => cases h; exact ⟨x, rfl, rfl⟩
theorem fin_int {K : Kx} {ρ : List Addr} {h : Hp} {H : L2.Hp} {Q : VK} {i : Int} (f : Fin K ρ h H Q (.g (.int i))) (hr : HR K ρ h H) : Q (.int i) H := f.here hr (by unfold DR GR; rfl)
theorem fin_bl {K : Kx} {ρ : List Addr} {h : Hp} {H : L2.Hp} {Q : VK} {i : Bool} (f : Fin K ρ h H Q (.g (.bl i))) (hr : HR K ρ h H) : Q (.bl i) H := f.here hr (by unfold DR GR; rfl)
theorem GRs.nil_iff {K : Kx} {ρ : List Addr} {H : L2.Hp} {gs : List G} {vs : List V} (g : GRs K H ρ gs vs) : vs = [] ↔ gs = [] := by
  have := g.length
  cases gs <;> cases vs <;> simp_all
theorem DRs.nil_iff {K : Kx} {ρ : List Addr} {H : L2.Hp} {gs : List D} {vs : List V} (g : DRs K H ρ gs vs) : vs = [] ↔ gs = [] := by
  have := g.length
  cases gs <;> cases vs <;> simp_all
theorem szOk_add {m n : Nat} (h : szOk (m + n) = true) : m + n ≤ sizeLine := szOk_line h
/-- an end that may be boxed -/
def FinB (K : Kx) (ρ : List Addr) (h : Hp) (H : L2.Hp) (Q : VK) : Bool → D → Prop
  | false, d => Fin K ρ h H Q d
  | true, d => ∃ ds, unL d = some ds ∧ Fin K ρ (h ++ [.lst ds]) H Q (.ref h.length)
theorem unL_mkLst (ds : List D) : unL (mkLst ds) = some ds := by
  cases e : unGs ds with
  | none => rw [(unGs_none e).2]; rfl
  | some gs =>
    rw [(unGs_some e).2]
    have : ∀ (ds : List D) gs, unGs ds = some gs → gs.map D.g = ds := fun ds => by
      induction ds with
      | nil => intro gs e; cases e; rfl
      | cons d r ih =>
        intro gs e
        cases d with
        | g x =>
          simp only [unGs] at e
          cases q : unGs r with
          | none => rw [q] at e; cases e
          | some t => rw [q] at e; cases e; simp [ih t q]
        | _ => simp [unGs] at e
    simp only [unL]
    rw [this ds gs e]
theorem FinB.mkLst {K : Kx} {ρ : List Addr} {h : Hp} {H : L2.Hp} {Q : VK} {bx : Bool} {ds : List D} {vs : List V} {p : Addr} (f : FinB K ρ h H Q bx (mkLst ds)) (hr : HR K ρ h H) (hp : H p = none) (dr : DRs K H ρ ds vs) : Q (.ref p) (upd H p (.lst vs)) := by
  cases bx with
  | false => exact Fin.mkLst f hr hp dr
  | true =>
    obtain ⟨ds', e, f⟩ := f
    rw [unL_mkLst] at e
    cases e
    have x := Ext.box (ρ := ρ) (o := .lst vs) hp
    refine f _ (ρ ++ [p]) _ x (hr.box hp ⟨vs, upd_same, dr.ext x⟩) ?_
    unfold DR
    exact ⟨p, by rw [← hr.len]; simp, rfl⟩
theorem FinB.plain {K : Kx} {ρ : List Addr} {h : Hp} {H : L2.Hp} {Q : VK} {bx : Bool} {d : D} (f : FinB K ρ h H Q bx d) (e : unL d = none) : Fin K ρ h H Q d := by
  cases bx with
  | false => exact f
  | true => obtain ⟨ds, e', _⟩ := f; rw [e] at e'; cases e'
theorem unL_mkTup (ds : List D) : unL (mkTup ds) = none := by
  cases e : unGs ds with
  | none => rw [(unGs_none e).1]; rfl
  | some gs => rw [(unGs_some e).1]; rfl
def FinBO (K : Kx) (ρ : List Addr) (h : Hp) (H : L2.Hp) (Q : VK) (bx : Bool) : Option D → Prop
  | some d => FinB K ρ h H Q bx d
  | none => False
def rV2b (K : Kx) (bx : Bool) (f : D → D → Hp → Option D) : R2 := fun x y H Q => ∃ ρ h d e, HR K ρ h H ∧ DR K H ρ d x ∧ DR K H ρ e y ∧ FinBO K ρ h H Q bx (f d e h)
abbrev oRb (X : Cx) (bx : Bool) (f : Value → Value → Sem Value) (g : D → D → Hp → Option D) : Prop := ∀ φ, OpR X f (rV2b ⟨X.K, φ⟩ bx g)
theorem oRb.plain {X : Cx} {f : Value → Value → Sem Value} {g : D → D → Hp → Option D} (h : oRb X false f g) : oR X f g := fun φ pins s σ H x y v u Q I rx ry ⟨ρ, h', d, e, hr, dx, dy, fin⟩ =>
  h φ pins s σ H x y v u Q I rx ry ⟨ρ, h', d, e, hr, dx, dy, by
    cases q : g d e h' with
    | none => rw [q] at fin; exact fin.elim
    | some r => rw [q] at fin; exact fin⟩
theorem rd_get {X : Cx} {pins : List (Addr × Obj)} {s : Shared} {σ : L2.St} {H : L2.Hp} {l : Addr} {xs : List V} (I : Inv X pins σ H s) (h : Rd H l (.lst xs)) :
    xs.length ≤ sizeLine ∧ ∃ (its : List Value) (n : Nat), Vals xs its ∧ xs.length = its.length ∧ s.heap.get? l = some { cls := .type "list", data := .seq its.toArray n } := by
  obtain ⟨z, its, n, r, e⟩ := h.ok I.hok
  exact ⟨z, its, n, r, r.length, e⟩
theorem op_catR {X : Cx} : OpR X (binaryOp .Add) fun x y H Q => ∃ l b xs zs, x = .ref l ∧ y = .ref b ∧ Rd H l (.lst xs) ∧ Rd H b (.lst zs) ∧ xs.length + zs.length ≤ sizeLine ∧ ∀ p, H p = none → Q (.ref p) (L2.upd H p (.lst (xs ++ zs))) := by
  intro pins s σ H x y v u Q I rx ry h
  obtain ⟨l, b, xs, zs, rfl, rfl, h1, h2, hz, q⟩ := h
  cases rx
  cases ry
  obtain ⟨z, its, n, r, hl, e⟩ := rd_get I h1
  obtain ⟨z2, its2, n2, r2, hl2, e2⟩ := rd_get I h2
  refine PySem.P.add_list e e2 ?_ (by rw [List.size_toArray, List.size_toArray, ← hl, ← hl2]; exact hz)
  have ea : its.toArray ++ its2.toArray = (its ++ its2).toArray := by simp
  rw [ea]
  exact ⟨.ref _, _, I.lnew (t' := s.toks) (r.append r2) (by rw [List.length_append]; exact hz), rfl, q _ I.fresh⟩
theorem fold_rep (zs : List Value) (m : Nat) : List.foldl (fun a b => a ++ b) #[] (List.replicate m zs.toArray) = (List.replicate m zs).flatten.toArray := by
  have := foldl_rep zs m []
  rwa [List.nil_append] at this
theorem op_repR {X : Cx} : OpR X (binaryOp .Mult) fun x y H Q => ∃ a m xs, x = .ref a ∧ y = .int m ∧ Rd H a (.lst xs) ∧ -(2 ^ 63) ≤ m ∧ m < 2 ^ 63 ∧ xs.length * m.toNat ≤ sizeLine ∧ ∀ p, H p = none → Q (.ref p) (L2.upd H p (.lst (List.replicate m.toNat xs).flatten)) := by
  intro pins s σ H x y v u Q I rx ry h
  obtain ⟨a, m, xs, rfl, rfl, h0, h1, h2, hz, q⟩ := h
  cases rx
  obtain ⟨t, rfl⟩ := ry
  obtain ⟨z, zs, n, r, hl, e⟩ := rd_get I h0
  have l1 : zs.toArray.size * m.toNat ≤ sizeLine := by rw [List.size_toArray, ← hl]; exact hz
  have l2 : ¬ zs.toArray.size * m.toNat > (2 ^ 63 - 1) / 8 := fun z => by
    have : (sizeLine : Nat) ≤ (2 ^ 63 - 1) / 8 := by decide
    omega
  have l3 : ¬ (!Builtin.List.listFitsIndex m) = true := by rw [fitsIndex_both h1 h2]; decide
  have l4 : ¬ Builtin.List.listTooLong (zs.toArray.size * m.toNat) = true := by rw [notLongL l1]; decide
  have l5 : List.foldl (fun a b => a ++ b) #[] (List.replicate (if zs.toArray.isEmpty = true then 0 else m.toNat) zs.toArray) = (List.replicate m.toNat zs).flatten.toArray := by
    rw [fold_rep]
    cases zs with
    | nil => simp
    | cons b r' => rw [if_neg (by simp)]
  refine wpAny_binaryOp_repeat_ref (T := "list") (U := "int") (by decide) ⟨_, e, rfl⟩ (fun t1 => typeIs_int t1 m t) noFill_list_mul F.fills_int_mul F.slot_int_rmul repeat_list F.slot_int_index.lookup
    (call_meets F.slot_int_rmul (typeIs_int s m t) F.entry_int_rmul (F.args_int_rmul_2 _ _) (int___rmul___int_list m t a zs.toArray n)
      ⟨e, rfl, ⟨_, e, rfl⟩, call_meets F.slot_list_mul ⟨_, e, rfl⟩ F.entry_list_mul (F.args_list_mul_2 _ _) (AutoListH.list___mul___list_int_3 a zs.toArray n m t l3 l2 l4) ⟨e, ?_⟩⟩)
  rw [l5]
  exact ⟨.ref _, _, I.lnew (t' := s.toks) (r.rep m.toNat) (by rw [PyProof.Rows.lm_len_rep_flat, Nat.mul_comm]; exact hz), rfl, q _ I.fresh⟩
/-- the sum of two kinds -/
theorem cat_run {pins : List (Addr × Obj)} {s : Shared} {σ : L2.St} {H : L2.Hp} {x y : V} {v u : Value} {Q : VK} {ρ : List Addr} {φ : Yx} {h : Hp} {l : Bool} {a b : List D} {us vs : List V}
    (I : Inv X pins σ H s) (rx : RelV x v) (ry : RelV y u) (hr : HR ⟨X.K, φ⟩ ρ h H) (kx : KV ⟨X.K, φ⟩ H l x us) (ky : KV ⟨X.K, φ⟩ H l y vs) (da : DRs ⟨X.K, φ⟩ H ρ a us) (db : DRs ⟨X.K, φ⟩ H ρ b vs) (hz : szOk (a.length + b.length) = true)
    (q0 : l = false → us = [] → Q y H) (q1 : l = false → us ≠ [] → vs = [] → Q x H) (q2 : ∀ p, H p = none → Q (.ref p) (upd H p (if l = true then .lst (us ++ vs) else .tup (us ++ vs)))) :
    wpAny (model X.prog X.w) X.A (binaryOp .Add v u) (EP X pins σ Q) X.xe s := by
  obtain ⟨p, rfl, kp⟩ := kx
  obtain ⟨q, rfl, kq⟩ := ky
  have z : us.length + vs.length ≤ sizeLine := by rw [← da.length, ← db.length]; exact szOk_line hz
  cases l with
  | true => exact op_catR pins s σ H _ _ v u Q I rx ry ⟨p, q, us, vs, rfl, rfl, kp, kq, z, q2⟩
  | false => exact L2.op_catA pins s σ H _ _ v u Q I rx ry ⟨p, q, us, vs, rfl, rfl, kp, kq, z, q0 rfl, q1 rfl, fun _ _ p hp => q2 p hp⟩
theorem mkTup_gs (gs : List G) : mkTup (gs.map .g) = .g (.tup gs) := by
  have : unGs (gs.map .g) = some gs := by
    induction gs with
    | nil => rfl
    | cons g r ih => simp [unGs, ih]
  unfold mkTup; rw [this]
theorem mkLst_gs (gs : List G) : mkLst (gs.map .g) = .g (.lst gs) := by
  have : unGs (gs.map .g) = some gs := by
    induction gs with
    | nil => rfl
    | cons g r ih => simp [unGs, ih]
  unfold mkLst; rw [this]
theorem binG_add {x y r : G} (e : binG .add x y = some r) : (∃ i j, x = .int i ∧ y = .int j ∧ r = .int (i + j)) ∨ (∃ a b, x = .tup a ∧ y = .tup b ∧ szOk (a.length + b.length) = true ∧ r = .tup (a ++ b)) ∨ (∃ a b, x = .lst a ∧ y = .lst b ∧ szOk (a.length + b.length) = true ∧ r = .lst (a ++ b)) ∨
    ∃ a b, x = .str a ∧ y = .str b ∧ szOk (a.log2 + b.log2) = true ∧ r = .str (enc (dec a ++ dec b)) := by
  unfold binG at e
  split at e <;> simp_all <;> exact e.symm
theorem binV_add {h : Hp} {x y r : D} (e : binV .add x y h = some r) : (∃ i j, x = .g (.int i) ∧ y = .g (.int j) ∧ r = .g (.int (i + j))) ∨
    (∃ l a b, kind h x = some (l, a) ∧ kind h y = some (l, b) ∧ szOk (a.length + b.length) = true ∧ r = if l = true then mkLst (a ++ b) else mkTup (a ++ b)) ∨
    ∃ a b, x = .g (.str a) ∧ y = .g (.str b) ∧ szOk (a.log2 + b.log2) = true ∧ r = .g (.str (enc (dec a ++ dec b))) := by
  unfold binV at e
  split at e
  · obtain ⟨g, e1, rfl⟩ := omap_some e
    rcases binG_add e1 with ⟨i, j, rfl, rfl, rfl⟩ | ⟨a, b, rfl, rfl, z, rfl⟩ | ⟨a, b, rfl, rfl, z, rfl⟩ | ⟨a, b, rfl, rfl, z, rfl⟩
    · exact .inl ⟨i, j, rfl, rfl, rfl⟩
    · exact .inr (.inl ⟨false, _, _, rfl, rfl, by simpa using z, by rw [if_neg (by decide), ← List.map_append, mkTup_gs]⟩)
    · exact .inr (.inl ⟨true, _, _, rfl, rfl, by simpa using z, by rw [if_pos rfl, ← List.map_append, mkLst_gs]⟩)
    · exact .inr (.inr ⟨a, b, rfl, rfl, z, rfl⟩)
  · right; left
    simp only at e
    split at e
    · rename_i k1 k2
      split at e
      · rename_i z
        cases e
        exact ⟨true, _, _, k1, k2, z, rfl⟩
      · cases e
    · rename_i k1 k2
      split at e
      · rename_i z
        cases e
        exact ⟨false, _, _, k1, k2, z, rfl⟩
      · cases e
    · cases e
theorem op_addB (bx : Bool) : oRb X bx (binaryOp .Add) (binV .add) := by
  intro φ pins s σ H x y v u Q I rx ry ⟨ρ, h, d, e, hr, dx, dy, fin⟩
  cases eb : binV .add d e h with
  | none => rw [eb] at fin; exact fin.elim
  | some r =>
    rw [eb] at fin
    replace fin : FinB ⟨X.K, φ⟩ ρ h H Q bx r := fin
    rcases binV_add eb with ⟨i, j, rfl, rfl, rfl⟩ | ⟨l, a, b, k1, k2, hz, rfl⟩ | ⟨a, b, rfl, rfl, hz, rfl⟩
    · exact L2.op_add pins s σ H x y v u Q I rx ry ⟨i, j, int_dr dx, int_dr dy, fin_int (fin.plain rfl) hr⟩
    · obtain ⟨us, kx, da⟩ := kind_view hr dx k1
      obtain ⟨vs, ky, db⟩ := kind_view hr dy k2
      refine cat_run I rx ry hr kx ky da db hz (fun hl hn => ?_) (fun hl _ hn => ?_) fun p hp => ?_
      · subst hl
        rw [if_neg (by decide)] at fin
        replace fin := fin.plain (unL_mkTup _)
        have ha := da.nil_iff.mp hn
        subst ha
        rw [List.nil_append] at fin
        obtain ⟨q, rfl, kq⟩ := ky
        refine fin.here hr ?_
        cases e2 : unGs b with
        | some gs => rw [(unGs_some e2).1]; unfold DR GR; exact ⟨q, vs, rfl, kq, db.toG e2⟩
        | none => rw [(unGs_none e2).1]; unfold DR; exact ⟨q, vs, rfl, by rw [if_neg (by decide)]; exact kq, db⟩
      · subst hl
        rw [if_neg (by decide)] at fin
        replace fin := fin.plain (unL_mkTup _)
        have ha := db.nil_iff.mp hn
        subst ha
        rw [List.append_nil] at fin
        obtain ⟨q, rfl, kq⟩ := kx
        refine fin.here hr ?_
        cases e2 : unGs a with
        | some gs => rw [(unGs_some e2).1]; unfold DR GR; exact ⟨q, us, rfl, kq, da.toG e2⟩
        | none => rw [(unGs_none e2).1]; unfold DR; exact ⟨q, us, rfl, by rw [if_neg (by decide)]; exact kq, da⟩
      · cases l with
        | true => exact FinB.mkLst fin hr hp (da.append db)
        | false => exact Fin.mkTup (fin.plain (unL_mkTup _)) hr hp (da.append db)
    · refine op_add_str pins s σ H _ _ v u Q I rx ry ⟨encS a, encS b, str_dr dx, str_dr dy, ?_, ?_⟩
      · have l1 := dec_len a
        have l2 := dec_len b
        have l3 := szOk_le hz
        rw [encS_len, encS_len, sizeLine_eq]
        omega
      · rw [← str_cat]
        exact (fin.plain rfl).here hr (by unfold DR GR; rfl)
theorem op_add : oR X (binaryOp .Add) (binV .add) := (op_addB false).plain
theorem binV_int {op : Op} {h : Hp} {x y r : D} (hop : op ≠ .add) (hm : op ≠ .mul) (e : binV op x y h = some r) : ∃ i j g, x = .g (.int i) ∧ y = .g (.int j) ∧ binG op (.int i) (.int j) = some g ∧ r = .g g := by
  unfold binV at e
  split at e
  · obtain ⟨g, e1, rfl⟩ := omap_some e
    have : ∃ i j, ∃ x' y' : G, (x' = .int i ∧ y' = .int j) := ⟨0, 0, _, _, rfl, rfl⟩
    rename_i x y
    have e2 := e1
    unfold binG at e1
    split at e1 <;> first | (cases e1; done) | exact absurd rfl hop | exact absurd rfl hm | exact ⟨_, _, g, rfl, rfl, e2, rfl⟩
  · cases op <;> first | exact absurd rfl hop | exact absurd rfl hm | cases e
def opO : Op → Operator
  | .add => .Add | .sub => .Sub | .mul => .Mult | .fdiv => .FloorDiv | .mod => .Mod | .pow => .Pow | .shl => .LShift | .shr => .RShift | .band => .BitAnd | .bor => .BitOr
/-- by a rule of ints -/
theorem op_ints {op : Op} (hop : op ≠ .add) (hm : op ≠ .mul) {C : Int → Int → Prop} {g : Int → Int → Int} (ho : OpR X (binaryOp (opO op)) (rI C fun i j => .int (g i j)))
    (hb : ∀ i j r, binG op (.int i) (.int j) = some r → C i j ∧ r = .int (g i j)) : oR X (binaryOp (opO op)) (binV op) := by
  intro φ pins s σ H x y v u Q I rx ry ⟨ρ, h, d, e, hr, dx, dy, fin⟩
  cases eb : binV op d e h with
  | none => rw [eb] at fin; exact fin.elim
  | some r =>
    rw [eb] at fin
    replace fin : Fin ⟨X.K, φ⟩ ρ h H Q r := fin
    obtain ⟨i, j, g', rfl, rfl, e2, rfl⟩ := binV_int hop hm eb
    obtain ⟨c, rfl⟩ := hb i j g' e2
    exact ho pins s σ H x y v u Q I rx ry ⟨i, j, int_dr dx, int_dr dy, c, fin_int fin hr⟩
theorem op_sub : oR X (binaryOp .Sub) (binV .sub) := op_ints (op := .sub) (C := fun _ _ => True) (g := fun i j => i - j) (by decide) (by decide)
  (fun pins s σ H x y v u Q I rx ry ⟨i, j, e1, e2, _, q⟩ => L2.op_sub pins s σ H x y v u Q I rx ry ⟨i, j, e1, e2, q⟩) fun i j r e => by simp [binG] at e; exact ⟨trivial, e.symm⟩
theorem op_fdiv : oR X (binaryOp .FloorDiv) (binV .fdiv) := op_ints (op := .fdiv) (by decide) (by decide) L2.op_fdiv fun i j r e => by
  simp only [binG] at e; split at e <;> simp at e; rename_i c; exact ⟨c, e.symm⟩
theorem op_mod : oR X (binaryOp .Mod) (binV .mod) := op_ints (op := .mod) (by decide) (by decide) L2.op_mod fun i j r e => by
  simp only [binG] at e; split at e <;> simp at e; rename_i c; exact ⟨c, e.symm⟩
theorem op_pow : oR X (binaryOp .Pow) (binV .pow) := op_ints (op := .pow) (by decide) (by decide) L2.op_pow fun i j r e => by
  simp only [binG] at e; split at e <;> simp at e; rename_i c; exact ⟨⟨c.1, c.2.1, c.2.2⟩, e.symm⟩
theorem op_shl : oR X (binaryOp .LShift) (binV .shl) := op_ints (op := .shl) (by decide) (by decide) L2.op_shl fun i j r e => by
  simp only [binG] at e; split at e <;> simp at e; rename_i c; exact ⟨⟨c.1, c.2.1, c.2.2⟩, e.symm⟩
theorem op_shr : oR X (binaryOp .RShift) (binV .shr) := op_ints (op := .shr) (by decide) (by decide) L2.op_shr fun i j r e => by
  simp only [binG] at e; split at e <;> simp at e; rename_i c; exact ⟨c, e.symm⟩
theorem op_none {op : Op} (hop : op ≠ .add) (hm : op ≠ .mul) (hb : ∀ i j, binG op (.int i) (.int j) = none) : oR X (binaryOp (opO op)) (binV op) := by
  intro φ pins s σ H x y v u Q I rx ry ⟨ρ, h, d, e, hr, dx, dy, fin⟩
  cases eb : binV op d e h with
  | none => rw [eb] at fin; exact fin.elim
  | some r =>
    obtain ⟨i, j, g', rfl, rfl, e2, rfl⟩ := binV_int hop hm eb
    rw [hb] at e2; cases e2
theorem repL_rs {K : Kx} {ρ : List Addr} {H : L2.Hp} {a : List D} {us : List V} (d : DRs K H ρ a us) : ∀ n : Nat, DRs K H ρ (List.replicate n a).flatten (List.replicate n us).flatten
  | 0 => DRs.nil
  | n + 1 => by
    rw [List.replicate_succ, List.replicate_succ, List.flatten_cons, List.flatten_cons]
    exact d.append (repL_rs d n)
theorem binV_mul {h : Hp} {x y r : D} (e : binV .mul x y h = some r) : (∃ i j, x = .g (.int i) ∧ y = .g (.int j) ∧ CMul i j ∧ r = .g (.int (i * j))) ∨
    (∃ a j, kind h x = some (true, a) ∧ y = .g (.int j) ∧ (-1000 ≤ j ∧ j < 1000000 ∧ szOk (a.length * j.toNat) = true) ∧ r = mkLst (repL j a)) ∨
    (∃ a j, kind h x = some (false, a) ∧ y = .g (.int j) ∧ (2 ≤ j ∧ j ≤ 1000 ∧ a ≠ [] ∧ a.length ≤ 1000) ∧ r = mkTup (repL j a)) ∨
    ∃ a j, x = .g (.str a) ∧ y = .g (.int j) ∧ (2 ≤ j ∧ j ≤ 1000 ∧ (dec a).isEmpty = false ∧ a.log2 < 10000) ∧ r = .g (.str (enc (repL j (dec a)))) := by
  unfold binV at e
  split at e
  · obtain ⟨g, e1, rfl⟩ := omap_some e
    unfold binG at e1
    split at e1 <;> first | (cases e1; done) | skip
    all_goals first | (rename_i hh; simp at hh; done) | skip
    · split at e1
      · rename_i c
        cases e1
        exact .inl ⟨_, _, rfl, rfl, c, rfl⟩
      · cases e1
    · split at e1
      · rename_i c
        cases e1
        right; left
        refine ⟨_, _, rfl, rfl, by simpa using c, ?_⟩
        unfold repL
        rw [← mkLst_gs, List.map_flatten, List.map_replicate]
      · cases e1
    · split at e1
      · rename_i c
        cases e1
        right; right; left
        refine ⟨_, _, rfl, rfl, ⟨c.1, c.2.1, ?_, by simpa using c.2.2.2⟩, ?_⟩
        · intro z
          have := c.2.2.1
          simp at z
          subst z
          cases this
        · unfold repL
          rw [← mkTup_gs, List.map_flatten, List.map_replicate]
      · cases e1
    · split at e1
      · rename_i c
        cases e1
        exact .inr (.inr (.inr ⟨_, _, rfl, rfl, c, rfl⟩))
      · cases e1
  · right; left
    simp only at e
    split at e
    · rename_i k1 _
      split at e
      · rename_i c
        cases e
        exact ⟨_, _, k1, rfl, c, rfl⟩
      · cases e
    · cases e
theorem op_mulB (bx : Bool) : oRb X bx (binaryOp .Mult) (binV .mul) := by
  intro φ pins s σ H x y v u Q I rx ry ⟨ρ, h, d, e, hr, dx, dy, fin⟩
  cases eb : binV .mul d e h with
  | none => rw [eb] at fin; exact fin.elim
  | some r =>
    rw [eb] at fin
    replace fin : FinB ⟨X.K, φ⟩ ρ h H Q bx r := fin
    rcases binV_mul eb with ⟨i, j, rfl, rfl, c, rfl⟩ | ⟨a, j, k1, rfl, ⟨c1, c2, c3⟩, rfl⟩ | ⟨a, j, k1, rfl, ⟨c1, c2, c3, c4⟩, rfl⟩ | ⟨a, j, rfl, rfl, ⟨c1, c2, c3, c4⟩, rfl⟩
    · exact L2.op_mul pins s σ H x y v u Q I rx ry ⟨i, j, int_dr dx, int_dr dy, c, fin_int (fin.plain rfl) hr⟩
    · obtain ⟨us, ⟨p, rfl, kp⟩, da⟩ := kind_view hr dx k1
      rw [if_pos rfl] at kp
      refine op_repR pins s σ H _ y v u Q I rx ry ⟨p, j, us, rfl, int_dr dy, kp, by omega, by omega, by rw [← da.length]; exact szOk_line c3, fun q hq => ?_⟩
      exact FinB.mkLst fin hr hq (repL_rs da _)
    · obtain ⟨us, ⟨p, rfl, kp⟩, da⟩ := kind_view hr dx k1
      rw [if_neg (by decide)] at kp
      refine op_repT pins s σ H _ y v u Q I rx ry ⟨p, j, us, rfl, int_dr dy, kp, fun z => c3 (da.nil_iff.mp z), c1, c2, by rw [← da.length]; exact c4, fun q hq => ?_⟩
      exact Fin.mkTup (fin.plain (unL_mkTup _)) hr hq (repL_rs da _)
    · exact op_txtRep pins s σ H _ _ v u Q I rx ry ⟨a, j, str_dr dx, int_dr dy, c1, c2, c3, by have := dec_len a; omega, (fin.plain rfl).here hr (by unfold DR GR; rfl)⟩
theorem op_mul : oR X (binaryOp .Mult) (binV .mul) := (op_mulB false).plain
theorem op_bin : ∀ op : Op, oR X (binaryOp (opO op)) (binV op)
  | .add => op_add | .sub => op_sub | .mul => op_mul | .fdiv => op_fdiv | .mod => op_mod | .pow => op_pow | .shl => op_shl | .shr => op_shr
  | .band => op_none (op := .band) (by decide) (by decide) fun _ _ => rfl
  | .bor => op_none (op := .bor) (by decide) (by decide) fun _ _ => rfl
end
end Pv
set_option Elab.async false
set_option linter.all false
set_option maxRecDepth 100000
set_option maxHeartbeats 1000000
namespace Pv
open PySem L2 PySem.Spec PyProof.Rows
theorem nth_ix {α β : Type} {ds : List α} {vs : List β} (hl : ds.length = vs.length) {i : Int} {r : α} (e : nth ds i = some r) : ∃ j, ds[j]? = some r ∧ ixN vs.length i = some j := by
  unfold nth at e
  unfold ixN
  split at e
  · rename_i h0
    have hj := (List.getElem?_eq_some_iff.mp e).1
    exact ⟨i.toNat, e, by rw [if_pos h0, if_pos (by omega)]⟩
  · rename_i h0
    split at e
    · rename_i h1
      refine ⟨_, e, ?_⟩
      rw [if_neg h0, if_pos (by omega)]
      congr 1
      omega
    · cases e
section
variable {K : Kx} {ρ : List Addr} {h : Hp} {H : L2.Hp}
theorem nth_ds {ds : List D} {vs : List V} (d : DRs K H ρ ds vs) {i : Int} {r : D} (e : nth ds i = some r) : ∃ v, atI vs i = some v ∧ DR K H ρ r v := by
  obtain ⟨j, h1, h2⟩ := nth_ix d.length e
  obtain ⟨v, h3, h4⟩ := d.get h1
  exact ⟨v, by unfold atI; rw [h2]; exact h3, h4⟩
theorem nth_gs {ds : List G} {vs : List V} (d : GRs K H ρ ds vs) {i : Int} {r : G} (e : nth ds i = some r) : ∃ v, atI vs i = some v ∧ GR K H ρ r v := by
  obtain ⟨j, h1, h2⟩ := nth_ix d.length e
  obtain ⟨v, h3, h4⟩ := d.get h1
  exact ⟨v, by unfold atI; rw [h2]; exact h3, h4⟩
end
section
variable {X : Cx}
abbrev iR (X : Cx) (g : D → D → Hp → Option D) : Prop := ∀ φ, IxR X (rV2 ⟨X.K, φ⟩ g)
theorem dic_get {K : Kx} {ρ : List Addr} {h : Hp} {H : L2.Hp} (hr : HR K ρ h H) {x : D} {g : G} {r : D} {v u : V} (dx : DR K H ρ x v) (dg : GR K H ρ g u) (e : dicGet h x g = some r) : ∃ a w, v = .ref a ∧ DGet H a u (some w) ∧ DR K H ρ r w := by
  unfold dicGet at e
  split at e
  · rename_i i
    obtain ⟨a, ha, rfl⟩ := ref_dr dx
    split at e
    · rename_i kvs q
      obtain ⟨xs, hv, kr⟩ := hr.dic ha q
      unfold getK at e
      cases ko : keyOk g with
      | false => rw [ko] at e; cases e
      | true =>
        rw [ko] at e
        obtain ⟨k, hk⟩ := keyG_ok ko
        obtain ⟨w, h1, h2⟩ := (kr.get hk).2 r e
        refine ⟨a, w, rfl, ?_, h2⟩
        rw [keyG_kV hk dg, ← h1]
        exact DGet.k hv
    · rename_i kvs q
      exact (hr.obj i _ a q ha).elim
    · cases e
  · cases e
theorem tail_dict {prog : Program} {w : World} {A : Around} {E : Value → Shared → Prop} {value slice : Expr} {o i : Value} {Q : Value → Shared → Prop} {s : Shared} (hT : s.TypeIs o "dict")
    (h : wpAny (model prog w) A (getItem o i) Q E s) (hs : subscripted slice false o i = operate [o, i] (getItem o i)) : wpAny (model prog w) A (subscriptTail value slice o i) Q E s := by
  unfold subscriptTail
  refine wpAny_bind ?_
  rw [getitemInPython_of_ne hT.not_modules]
  refine wpAny_bind (wpAny_specialOf hT PySem.F.slot_dict_getitem.lookup ?_)
  have fin : wpAny (model prog w) A (subscripted slice false o i) (fun r s2 => wpAny (model prog w) A (letTemporaryGo value o r >>= fun _ => pure r) Q E s2) E s := by
    rw [hs]
    exact wpAny_operating (wpAny_mono h (fun r s2 q => wpAny_bind (wpAny_letTemporaryGo (wpAny_pure q))) fun _ _ x => x)
  first
    | exact wpAny_pure (wpAny_bind fin)
    | exact wpAny_bind (wpAny_pure (wpAny_bind fin))
    | exact wpAny_bind fin
theorem kv_ix {pins : List (Addr × Obj)} {s : Shared} {σ : L2.St} {H : L2.Hp} {x : V} {i : Int} {v u : Value} {Q : VK} {value slice : Expr} {K : Kx} {l : Bool} {vs : List V} {z : V} (hk : K.K = X.K)
    (I : Inv X pins σ H s) (rx : RelV x v) (ry : RelV (.int i) u) (kx : KV K H l x vs) (hz : atI vs i = some z) (q : Q z H) (hs : subscripted slice false v u = operate [v, u] (getItem v u)) :
    wpAny (model X.prog X.w) X.A (subscriptTail value slice v u) (EP X pins σ Q) X.xe s := by
  obtain ⟨p, rfl, kp⟩ := kx
  cases l with
  | true => exact ix_list value slice pins s σ H _ _ v u Q I rx ry ⟨p, vs, i, z, rfl, rfl, .inl kp, hz, q⟩ hs
  | false => exact ix_tup value slice pins s σ H _ _ v u Q I rx ry ⟨p, vs, i, z, rfl, rfl, by rw [← hk]; exact kp, hz, q⟩ hs
theorem ix_sub (hu : X.A.units + 160 ≤ cLine) : iR X subV := by
  intro φ value slice pins s σ H x y v u Q I rx ry ⟨ρ, h, d, e, hr, dx, dy, fin⟩ hs
  cases eb : subV d e h with
  | none => rw [eb] at fin; exact fin.elim
  | some r =>
    rw [eb] at fin
    replace fin : Fin ⟨X.K, φ⟩ ρ h H Q r := fin
    have dict : ∀ g, e = .g g → dicGet h d g = some r → wpAny (model X.prog X.w) X.A (subscriptTail value slice v u) (EP X pins σ Q) X.xe s := fun g eg ed => by
      subst eg
      unfold DR at dy
      obtain ⟨a, w', rfl, dg, dr⟩ := dic_get hr dx dy ed
      obtain rfl : v = Value.ref a := rx
      exact tail_dict (dict_typeIs I dg) (d_getItem (by omega) I dg ry fun w2 s' I' rw' => ⟨w', H, I', rw', fin.here hr dr⟩) hs
    unfold subV at eb
    split at eb
    · rename_i i
      cases int_dr dy
      unfold ixD at eb
      split at eb
      · rename_i g
        obtain ⟨g', e1, rfl⟩ := omap_some eb
        unfold subG at e1
        split at e1
        · rename_i n
          split at e1
          · rename_i hz
            rw [subS_eq] at e1
            cases str_dr dx
            have l1 := dec_len n
            have l2 := szOk_le hz
            have hl : (((dec n).map fun c => G.str (c + 1))).length = (encS n).cps.toList.length := by simp [encS]
            obtain ⟨j, h1, h2⟩ := nth_ix hl e1
            have hc : ∃ c, (dec n)[j]? = some c ∧ g' = .str (c + 1) := by
              rw [List.getElem?_map] at h1
              cases q : (dec n)[j]? with
              | none => rw [q] at h1; cases h1
              | some c => rw [q] at h1; cases h1; exact ⟨c, rfl, rfl⟩
            obtain ⟨c, h3, rfl⟩ := hc
            refine ix_str value slice pins s σ H _ _ v u Q I rx ry ⟨encS n, i, c, rfl, rfl, by rw [encS_len, sizeLine_eq]; omega, ?_, ?_⟩ hs
            · unfold atI; rw [h2]; show (encS n).cps.toList[j]? = some c; simpa [encS] using h3
            · refine fin.here hr ?_
              unfold DR GR
              have := dec_one (dec_lt n c (List.mem_of_getElem? h3))
              unfold encS
              rw [this]
          · cases e1
        · obtain ⟨a, vs, rfl, q, gr⟩ := tup_dr dx
          obtain ⟨z, z1, z2⟩ := nth_gs gr e1
          exact kv_ix (K := ⟨X.K, φ⟩) (l := false) rfl I rx ry ⟨a, rfl, by rw [if_neg (by decide)]; exact q⟩ z1 (fin.here hr (by unfold DR; exact z2)) hs
        · obtain ⟨a, vs, rfl, q, gr⟩ := lst_dr dx
          obtain ⟨z, z1, z2⟩ := nth_gs gr e1
          exact kv_ix (K := ⟨X.K, φ⟩) (l := true) rfl I rx ry ⟨a, rfl, by rw [if_pos rfl]; exact q.rd⟩ z1 (fin.here hr (by unfold DR; exact z2)) hs
        · cases e1
      · split at eb
        · rename_i k1
          obtain ⟨vs, kx, dv⟩ := kind_view hr dx k1
          obtain ⟨z, z1, z2⟩ := nth_ds dv eb
          exact kv_ix rfl I rx ry kx z1 (fin.here hr z2) hs
        · exact dict _ rfl eb
    · exact dict _ rfl eb
    · cases eb
/-! ### slices -/
theorem sIxD_eq (n d : Nat) (o : Option Int) : sIxD n d o = HT.sIx n d o := by cases o <;> rfl
section
variable {K : Kx} {ρ : List Addr} {h : Hp} {H : L2.Hp}
theorem cut_ds {ds : List D} {vs : List V} (d : DRs K H ρ ds vs) (lo hi : Option Int) : DRs K H ρ (cutL ds (sIxD ds.length 0 lo) (sIxD ds.length ds.length hi)) (cutV vs lo hi) := by
  unfold cutL cutV
  rw [sIxD_eq, sIxD_eq, d.length]
  exact (d.drop _).take _
theorem cut_gs {ds : List G} {vs : List V} (d : GRs K H ρ ds vs) (lo hi : Option Int) : GRs K H ρ (cutL ds (sIxD ds.length 0 lo) (sIxD ds.length ds.length hi)) (cutV vs lo hi) := by
  unfold cutL cutV
  rw [sIxD_eq, sIxD_eq, d.length]
  exact (d.drop _).take _
theorem cut_whole {vs : List V} {lo hi : Option Int} (hw : HT.sIx vs.length 0 lo = 0 ∧ HT.sIx vs.length vs.length hi = vs.length) : cutV vs lo hi = vs := by
  unfold cutV; rw [hw.1, hw.2]; simp
end
/-- a slice's rule by values -/
def rSl (K : Kx) (bx : Bool) : V → Option Int → Option Int → L2.Hp → VK → Prop := fun x lo hi H Q => ∃ ρ h d dl dh, HR K ρ h H ∧ DR K H ρ d x ∧ bnd dl = some lo ∧ bnd dh = some hi ∧ FinBO K ρ h H Q bx (sliV d dl dh h)
theorem sl2_some {α : Type} {ds : List α} {dl dh : D} {lo hi : Option Int} (h1 : bnd dl = some lo) (h2 : bnd dh = some hi) : sl2 ds dl dh = some (cutL ds (sIxD ds.length 0 lo) (sIxD ds.length ds.length hi)) := by unfold sl2; rw [h1, h2]
theorem sl_val (bx : Bool) (φ : Yx) : L2.SlR X (rSl ⟨X.K, φ⟩ bx) := by
  intro pins s σ H x v vl vu lo hi sl Q I rx hs pl pu ⟨ρ, h, d, dl, dh, hr, dx, b1, b2, fin⟩
  cases eb : sliV d dl dh h with
  | none => rw [eb] at fin; exact fin.elim
  | some r =>
    rw [eb] at fin
    replace fin : FinB ⟨X.K, φ⟩ ρ h H Q bx r := fin
    have tupc : ∀ a vs, x = .ref a → SqT X.K H a vs → (Q (.ref a) H → Q (.ref a) H) → (cutV vs lo hi = vs → Q (.ref a) H) → (∀ p, H p = none → Q (.ref p) (upd H p (.tup (cutV vs lo hi)))) →
        ∃ T id, typeLookup (.type T) "__getitem__" = pure (some (.builtin id)) ∧ s.TypeIs v T ∧ wpAny (model X.prog X.w) X.A (getItem v (.ref sl)) (EP X pins σ Q) X.xe s := fun a vs ex hq _ q1 q2 =>
      sl_tupA pins s σ H x v vl vu lo hi sl Q I rx hs pl pu ⟨a, vs, ex, hq, fun hw => q1 (cut_whole hw), fun _ => q2⟩
    unfold sliV at eb
    split at eb
    · obtain ⟨l, e1, rfl⟩ := omap_some eb
      rw [sl2_some b1 b2] at e1
      cases e1
      obtain ⟨a, vs, rfl, q, gr⟩ := tup_dr dx
      replace fin := fin.plain rfl
      refine tupc a vs rfl q id (fun hw => fin.here hr ?_) fun p hp => fin.tup hr hp (cut_gs gr lo hi)
      unfold DR GR
      exact ⟨a, vs, rfl, q, by have := cut_gs gr lo hi; rw [hw] at this; exact this⟩
    · obtain ⟨l, e1, rfl⟩ := omap_some eb
      rw [sl2_some b1 b2] at e1
      cases e1
      obtain ⟨a, vs, rfl, q, gr⟩ := lst_dr dx
      exact sl_list pins s σ H _ v vl vu lo hi sl Q I rx hs pl pu ⟨a, vs, rfl, .inl q.rd, fun p hp => FinB.mkLst (by rw [mkLst_gs]; exact fin) hr hp (cut_gs gr lo hi).toD⟩
    · split at eb
      · rename_i n hz
        obtain ⟨l, e1, rfl⟩ := omap_some eb
        rw [slS_eq, sl2_some b1 b2] at e1
        cases e1
        have l1 := dec_len n
        have l2 := szOk_le hz
        refine sl_str pins s σ H _ v vl vu lo hi sl Q I rx hs pl pu ⟨encS n, str_dr dx, by rw [encS_len, sizeLine_eq]; omega, ?_⟩
        rw [cut_text]
        exact (fin.plain rfl).here hr (by unfold DR GR; rfl)
      · cases eb
    · split at eb
      · rename_i k1
        obtain ⟨l, e1, rfl⟩ := omap_some eb
        rw [sl2_some b1 b2] at e1
        cases e1
        obtain ⟨vs, ⟨a, rfl, kp⟩, dv⟩ := kind_view hr dx k1
        exact sl_list pins s σ H _ v vl vu lo hi sl Q I rx hs pl pu ⟨a, vs, rfl, .inl kp, fun p hp => FinB.mkLst fin hr hp (cut_ds dv lo hi)⟩
      · rename_i k1
        obtain ⟨l, e1, rfl⟩ := omap_some eb
        rw [sl2_some b1 b2] at e1
        cases e1
        obtain ⟨vs, ⟨a, rfl, kp⟩, dv⟩ := kind_view hr dx k1
        replace fin := fin.plain (unL_mkTup _)
        refine tupc a vs rfl kp id (fun hw => fin.here hr ?_) fun p hp => Fin.mkTup fin hr hp (cut_ds dv lo hi)
        have dc := cut_ds dv lo hi
        rw [hw] at dc
        generalize cutL _ _ _ = l at dc
        cases e2 : unGs l with
        | some gs => rw [(unGs_some e2).1]; unfold DR GR; exact ⟨a, vs, rfl, kp, dc.toG e2⟩
        | none => rw [(unGs_none e2).1]; unfold DR; exact ⟨a, vs, rfl, by rw [if_neg (by decide)]; exact kp, dc⟩
      · cases eb
end
end Pv
set_option Elab.async false
set_option linter.all false
set_option maxRecDepth 100000
set_option maxHeartbeats 1000000
namespace Pv
open PySem L2 PySem.Spec PyProof.Rows
section
variable {X : Cx} {K : Kx} {ξ : XRel} {Z : WX} {E : Env} {a b c : Expr} {fa fb fc : F} {pos : Pos}
theorem pe_varF {i : Nat} {x : PySem.Str} (hN : X.N[i]? = some x) (hv : Vis X.env.scope x) (hd : (x == ("__debug__" : PySem.Str)) = false) (hcd : (x == ("__classdict__" : PySem.Str)) = false) : PE X (.Name x pos) (tE K ξ Z E (varF i)) :=
  PE.imp (pe_var hN hv hd hcd) fun σ H Q ⟨ρ, s, h, sr, hr, af⟩ => by
    unfold varF at af
    cases q : s[i]? with
    | none => rw [q] at af; exact af.elim
    | some o =>
      cases o with
      | none => rw [q] at af; exact af.elim
      | some d =>
        rw [q] at af
        obtain ⟨v, h1, h2⟩ := sr.get i d q
        exact ⟨v, h1, Fin.here (show Fin K ρ h H Q d from af) hr h2⟩
/-- a constant's value -/
def GC (K : PySem.W.Frag) (g : G) (v : V) : Prop := ∀ (y : Yx) (H : L2.Hp) (ρ : List Addr), GR ⟨K, y⟩ H ρ g v
theorem pe_conF {e : Expr} {g : G} {v : V} (h : PE X e (tC v)) (hg : ∀ H ρ, GR K H ρ g v) : PE X e (tE K ξ Z E (conF g)) :=
  PE.imp h fun σ H Q ⟨ρ, s, h, sr, hr, af⟩ => Fin.here (show Fin K ρ h H Q (.g g) from af) hr (by unfold DR; exact hg H ρ)
theorem pe_gloF {e : Expr} {n : Nat} {g : G} {v : V} (h : PE X e (tC v)) (hg : ∀ H ρ, GR K H ρ g v) (he : E.glo n = some g) : PE X e (tE K ξ Z E (gloF n)) :=
  PE.imp h fun σ H Q ⟨ρ, s, h, sr, hr, af⟩ => by
    unfold gloF at af
    rw [he] at af
    exact Fin.here (show Fin K ρ h H Q (.g g) from af) hr (by unfold DR; exact hg H ρ)
theorem pe_binF (hK : X.K = K.K) {op : Op} (ha : PE X a (tE K ξ Z E fa)) (hb : PE X b (tE K ξ Z E fb)) : PE X (.BinOp a (opO op) b pos) (tE K ξ Z E (binF op fa fb)) := by
  obtain ⟨k, y⟩ := K; dsimp only at hK; subst hK
  exact PE.imp (pe_op (op_bin op y) ha hb) fun σ H Q t => tE_op2 (n := 3) t
theorem pe_cmpF (hK : X.K = K.K) (hu : X.A.units + 160 ≤ cLine) {op : Cm} (ha : PE X a (tE K ξ Z E fa)) (hb : PE X b (tE K ξ Z E fb)) (hm : behindInMarks (cmO op) b = false) : PE X (.Compare a [cmO op] [b] pos) (tE K ξ Z E (cmpF op fa fb)) := by
  obtain ⟨k, y⟩ := K; dsimp only at hK; subst hK
  exact PE.imp (pe_cmpR (op_cm hu op y) ha hb hm) fun σ H Q t => tE_cmp2 (n := 84) t
/-- from the test's wish to the value's -/
theorem tT_tE {f : F} {σ : L2.St} {H : L2.Hp} {Q : Bool → L2.Hp → Prop} (hb : ∀ s h, match f E s h with | .val (.g (.bl _)) _ => True | .exc .. => True | .bad _ => True | _ => False)
    (t : tT K ξ Z E f σ H Q) : tE K ξ Z E f σ H fun x H' => ∃ k, x = .bl k ∧ Q k H' := by
  obtain ⟨ρ, s, h, sr, hr, af⟩ := t
  refine ⟨ρ, s, h, sr, hr, ?_⟩
  have := hb s h
  generalize f E s h = o at af this
  unfold AfterT at af
  unfold After
  split at af
  · rename_i d h'
    obtain ⟨b, e, q⟩ := af
    have ed : ∃ k, d = .g (.bl k) := by
      revert this
      split <;> intro this
      · rename_i heq; cases heq; exact ⟨_, rfl⟩
      · rename_i heq; cases heq
      · rename_i heq; cases heq
      · exact this.elim
    obtain ⟨k, rfl⟩ := ed
    cases e
    exact fun v ρ' H' x hr' dr => ⟨_, bl_dr dr, q ρ' H' x hr'⟩
  · exact af
  · exact af.elim
theorem cmpF_bl {op : Cm} (s : St) (h : Hp) : match cmpF op fa fb E s h with | .val (.g (.bl _)) _ => True | .exc .. => True | .bad _ => True | _ => False := by
  unfold cmpF
  cases fa E s h <;> simp only [Out.onV]
  rename_i d h1
  cases fb E s h1 <;> simp only [Out.onV]
  rename_i d2 h2
  cases cmpV op d d2 h2 <;> simp [ob]
theorem pt_cmpF (hK : X.K = K.K) (hu : X.A.units + 160 ≤ cLine) {op : Cm} (ha : PE X a (tE K ξ Z E fa)) (hb : PE X b (tE K ξ Z E fb)) (hm : behindInMarks (cmO op) b = false) : PT X (.Compare a [cmO op] [b] pos) (tT K ξ Z E (cmpF op fa fb)) := by
  obtain ⟨k, y⟩ := K; dsimp only at hK; subst hK
  exact PT.imp (pt_cmpR (op_cm hu op y) ha hb hm) fun σ H Q t => tE_cmp2 (n := 84) (tT_tE cmpF_bl t)
/-- a chain -/
theorem tE_chn {o1 o2 : Cm} {σ : L2.St} {H : L2.Hp} {Q : VK} (t : tE K ξ Z E (chnF o1 o2 fa fb fc) σ H Q) :
    tChain (rV2 K fun x y h => bO (cmpV o1 x y h)) (rV2 K fun x y h => bO (cmpV o2 x y h)) (tE K ξ Z E fa) (tE K ξ Z E fb) (tE K ξ Z E fc) σ H Q := by
  obtain ⟨ρ, s, h, sr, hr, af⟩ := t
  refine ⟨ρ, s, h, sr, hr, After.mono af.bind fun x H1 ⟨ρ1, d, h1, x1, hr1, dr1, af1⟩ => ⟨ρ1, s, h1, sr.ext x1, hr1, After.mono af1.bind fun y H2 ⟨ρ2, e, h2, x2, hr2, dr2, af2⟩ => ?_⟩⟩
  refine ⟨ρ2, h2, d, e, hr2, dr1.ext x2, dr2, ?_⟩
  cases q : cmpV o1 d e h2 with
  | none => rw [q] at af2; exact af2.elim
  | some k =>
    rw [q] at af2
    show FinO K ρ2 h2 H2 _ (bO (cmpV o1 d e h2))
    rw [q]
    refine fun v ρ3 H3 x3 hr3 dr3 => ⟨k, bl_dr dr3, ?_⟩
    cases k with
    | false =>
      rw [if_neg (by decide)]
      have af3 : Fin K ρ2 h2 H2 Q (.g (.bl false)) := af2
      exact af3 (.bl false) ρ3 H3 x3 hr3 (by unfold DR GR; rfl)
    | true =>
      rw [if_pos rfl]
      have af3 : After K ξ Z ρ2 H2 σ Q ((fc E s h2).onV fun z h => ob h (cmpV o2 e z h) 85) := af2
      refine ⟨ρ3, s, h2, ((sr.ext x1).ext x2).ext x3, hr3, After.mono (After.bind (af3.ext x3)) fun z H4 ⟨ρ4, g, h4, x4, hr4, dr4, af4⟩ => ?_⟩
      exact ⟨ρ4, h4, e, g, hr4, (dr2.ext x3).ext x4, dr4, af4.ob⟩
theorem pe_chnF (hK : X.K = K.K) (hu : X.A.units + 160 ≤ cLine) {o1 o2 : Cm} (ha : PE X a (tE K ξ Z E fa)) (hb : PE X b (tE K ξ Z E fb)) (hc : PE X c (tE K ξ Z E fc)) (hm : lastMarks [cmO o1, cmO o2] [b, c] = false) :
    PE X (.Compare a [cmO o1, cmO o2] [b, c] pos) (tE K ξ Z E (chnF o1 o2 fa fb fc)) := by
  obtain ⟨k, y⟩ := K; dsimp only at hK; subst hK
  exact PE.imp (pe_chain (op_cm hu o1 y) (op_cm hu o2 y) ha hb hc hm) fun σ H Q t => tE_chn t
theorem chnF_bl {o1 o2 : Cm} (s : St) (h : Hp) : match chnF o1 o2 fa fb fc E s h with | .val (.g (.bl _)) _ => True | .exc .. => True | .bad _ => True | _ => False := by
  unfold chnF
  cases fa E s h <;> simp only [Out.onV]
  rename_i d h1
  cases fb E s h1 <;> simp only [Out.onV]
  rename_i d2 h2
  cases cmpV o1 d d2 h2 with
  | none => trivial
  | some k =>
    cases k with
    | false => trivial
    | true =>
      dsimp only
      cases fc E s h2 <;> simp only [Out.onV]
      rename_i d3 h3
      cases cmpV o2 d2 d3 h3 <;> simp [ob]
theorem pt_chnF (hK : X.K = K.K) (hu : X.A.units + 160 ≤ cLine) {o1 o2 : Cm} (ha : PE X a (tE K ξ Z E fa)) (hb : PE X b (tE K ξ Z E fb)) (hc : PE X c (tE K ξ Z E fc)) (hm : lastMarks [cmO o1, cmO o2] [b, c] = false) :
    PT X (.Compare a [cmO o1, cmO o2] [b, c] pos) (tT K ξ Z E (chnF o1 o2 fa fb fc)) := by
  obtain ⟨k, y⟩ := K; dsimp only at hK; subst hK
  exact PT.imp (pt_chain (op_cm hu o1 y) (op_cm hu o2 y) ha hb hc hm) fun σ H Q t => tE_chn (tT_tE chnF_bl t)
/-- a plain test -/
theorem pt_plain (hK : X.K = K.K) (ha : PE X a (tE K ξ Z E fa)) (he : ∀ whole, isTrue a X.env whole = (do let v ← whole; standAt a.pos; holding [v] (truthy v))) : PT X a (tT K ξ Z E fa) :=
  PT.imp (pt_truth ha he) fun σ H Q ⟨ρ, s, h, sr, hr, af⟩ => by
    refine ⟨ρ, s, h, sr, hr, ?_⟩
    generalize fa E s h = o at af
    cases o <;> first | exact af.elim | exact af | skip
    obtain ⟨b, e, q⟩ := af
    refine fun v ρ' H' x hr' dr => ⟨b, ?_, q ρ' H' x hr'⟩
    rw [hK]
    exact tru_V hr' dr e
/-- and, or -/
theorem pe_andF (hK : X.K = K.K) {rest : List Expr} (ha : PE X a (tE K ξ Z E fa)) (hb : PE X (.BoolOp .And (b :: rest) pos) (tE K ξ Z E fb)) : PE X (.BoolOp .And (a :: b :: rest) pos) (tE K ξ Z E (andF fa fb)) :=
  PE.imp (pe_andT ha hb) fun σ H Q ⟨ρ, s, h, sr, hr, af⟩ => by
    refine ⟨ρ, s, h, sr, hr, After.mono af.bind fun x H1 ⟨ρ1, d, h1, x1, hr1, dr1, af1⟩ => ?_⟩
    cases e : tru h1 d with
    | none => rw [e] at af1; exact af1.elim
    | some k =>
      rw [e] at af1
      refine ⟨k, by rw [hK]; exact tru_V hr1 dr1 e, ?_⟩
      cases k with
      | false => rw [if_neg (by decide)]; exact Fin.here (show Fin K ρ1 h1 H1 Q d from af1) hr1 dr1
      | true => rw [if_pos rfl]; exact ⟨ρ1, s, h1, sr.ext x1, hr1, af1⟩
theorem pe_orF (hK : X.K = K.K) {rest : List Expr} (ha : PE X a (tE K ξ Z E fa)) (hb : PE X (.BoolOp .Or (b :: rest) pos) (tE K ξ Z E fb)) : PE X (.BoolOp .Or (a :: b :: rest) pos) (tE K ξ Z E (orF fa fb)) :=
  PE.imp (pe_orT ha hb) fun σ H Q ⟨ρ, s, h, sr, hr, af⟩ => by
    refine ⟨ρ, s, h, sr, hr, After.mono af.bind fun x H1 ⟨ρ1, d, h1, x1, hr1, dr1, af1⟩ => ?_⟩
    cases e : tru h1 d with
    | none => rw [e] at af1; exact af1.elim
    | some k =>
      rw [e] at af1
      refine ⟨k, by rw [hK]; exact tru_V hr1 dr1 e, ?_⟩
      cases k with
      | true => rw [if_pos rfl]; exact Fin.here (show Fin K ρ1 h1 H1 Q d from af1) hr1 dr1
      | false => rw [if_neg (by decide)]; exact ⟨ρ1, s, h1, sr.ext x1, hr1, af1⟩
theorem AfterT.ext {ρ ρ' : List Addr} {H H' : L2.Hp} {σ : L2.St} {Q : Bool → L2.Hp → Prop} {o : Out} (f : AfterT K ξ Z ρ H σ Q o) (x : Ext ρ H ρ' H') : AfterT K ξ Z ρ' H' σ Q o := by
  cases o <;> first | exact f.elim | exact Exc.ext f x | skip
  obtain ⟨b, e, q⟩ := f
  exact ⟨b, e, fun ρ2 H2 y hr => q ρ2 H2 (x.trans y) hr⟩
theorem pw_andF {rest : List Expr} (ha : PT X a (tT K ξ Z E fa)) (hb : PW X (.BoolOp .And (b :: rest) pos) (tT K ξ Z E fb)) : PW X (.BoolOp .And (a :: b :: rest) pos) (tT K ξ Z E (andF fa fb)) :=
  ⟨fun wh pins s σ H Q I ⟨ρ, st, h, sr, hr, af⟩ => (pw_and ha hb).run wh pins s σ H Q I (by
    refine ⟨ρ, st, h, sr, hr, ?_⟩
    unfold andF at af
    generalize fa E st h = o at af
    cases o <;> first | exact af.elim | exact af | skip
    rename_i d h1
    simp only [Out.onV] at af
    cases e : tru h1 d with
    | none => rw [e] at af; exact af.elim
    | some k =>
      rw [e] at af
      refine ⟨k, e, fun ρ' H' x hr' => ?_⟩
      cases k with
      | true => rw [if_pos rfl]; exact ⟨ρ', st, h1, sr.ext x, hr', AfterT.ext af x⟩
      | false =>
        rw [if_neg (by decide)]
        obtain ⟨b', e', q⟩ := af
        rw [e] at e'; cases e'
        exact q ρ' H' x hr')⟩
theorem pw_orF {rest : List Expr} (ha : PT X a (tT K ξ Z E fa)) (hb : PW X (.BoolOp .Or (b :: rest) pos) (tT K ξ Z E fb)) : PW X (.BoolOp .Or (a :: b :: rest) pos) (tT K ξ Z E (orF fa fb)) :=
  ⟨fun wh pins s σ H Q I ⟨ρ, st, h, sr, hr, af⟩ => (pw_or ha hb).run wh pins s σ H Q I (by
    refine ⟨ρ, st, h, sr, hr, ?_⟩
    unfold orF at af
    generalize fa E st h = o at af
    cases o <;> first | exact af.elim | exact af | skip
    rename_i d h1
    simp only [Out.onV] at af
    cases e : tru h1 d with
    | none => rw [e] at af; exact af.elim
    | some k =>
      rw [e] at af
      refine ⟨k, e, fun ρ' H' x hr' => ?_⟩
      cases k with
      | false => rw [if_neg (by decide)]; exact ⟨ρ', st, h1, sr.ext x, hr', AfterT.ext af x⟩
      | true =>
        rw [if_pos rfl]
        obtain ⟨b', e', q⟩ := af
        rw [e] at e'; cases e'
        exact q ρ' H' x hr')⟩
/-- not -/
theorem notF_eq : unaF false fa E s h = (fa E s h).onV fun x h => ob h (notO (tru h x)) 83 := by unfold unaF; simp
theorem pe_notF (hK : X.K = K.K) (ha : PE X a (tE K ξ Z E fa)) : PE X (.UnaryOp .Not a pos) (tE K ξ Z E (unaF false fa)) :=
  PE.imp (pe_notT ha) fun σ H Q ⟨ρ, s, h, sr, hr, af⟩ => by
    rw [notF_eq] at af
    refine ⟨ρ, s, h, sr, hr, After.mono af.bind fun x H1 ⟨ρ1, d, h1, x1, hr1, dr1, af1⟩ => ?_⟩
    cases e : tru h1 d with
    | none => rw [e] at af1; exact af1.elim
    | some k =>
      rw [e] at af1
      exact ⟨k, by rw [hK]; exact tru_V hr1 dr1 e, fin_bl (show Fin K ρ1 h1 H1 Q (.g (.bl (!k))) from af1) hr1⟩
theorem pt_notF (ha : PT X a (tT K ξ Z E fa)) : PT X (.UnaryOp .Not a pos) (tT K ξ Z E (unaF false fa)) :=
  PT.imp (pt_not ha) fun σ H Q ⟨ρ, s, h, sr, hr, af⟩ => by
    rw [notF_eq] at af
    refine ⟨ρ, s, h, sr, hr, ?_⟩
    generalize fa E s h = o at af
    cases o <;> first | exact af.elim | exact af | skip
    rename_i d h1
    simp only [Out.onV] at af
    cases e : tru h1 d with
    | none => rw [e] at af; exact af.elim
    | some k =>
      rw [e] at af
      obtain ⟨b, e', q⟩ := af
      cases e'
      exact ⟨k, e, q⟩
theorem negF_eq {s : St} {h : Hp} : unaF true fa E s h = (fa E s h).onV negK := by unfold unaF; simp
theorem pe_negF (ha : PE X a (tE K ξ Z E fa)) : PE X (.UnaryOp .USub a pos) (tE K ξ Z E (unaF true fa)) :=
  PE.imp (pe_un un_neg ha) fun σ H Q ⟨ρ, s, h, sr, hr, af⟩ => by
    rw [negF_eq] at af
    refine ⟨ρ, s, h, sr, hr, After.mono af.bind fun x H1 ⟨ρ1, d, h1, x1, hr1, dr1, af1⟩ => ?_⟩
    unfold negK at af1
    split at af1
    · exact ⟨_, int_dr dr1, fin_int (show Fin K ρ1 h1 H1 Q _ from af1) hr1⟩
    · exact af1.elim
/-- a if c else b -/
theorem pe_ifeF (hc : PT X c (tT K ξ Z E fc)) (ha : PE X a (tE K ξ Z E fa)) (hb : PE X b (tE K ξ Z E fb)) : PE X (.IfExp c a b pos) (tE K ξ Z E (ifeF fc fa fb)) :=
  PE.imp (pe_ifExp hc ha hb) fun σ H Q ⟨ρ, s, h, sr, hr, af⟩ => by
    refine ⟨ρ, s, h, sr, hr, ?_⟩
    unfold ifeF at af
    generalize fc E s h = o at af
    cases o <;> first | exact af.elim | exact af | skip
    rename_i d h1
    simp only [Out.onV] at af
    cases e : tru h1 d with
    | none => rw [e] at af; exact af.elim
    | some k =>
      rw [e] at af
      refine ⟨k, e, fun ρ' H' x hr' => ?_⟩
      cases k with
      | true => rw [if_pos rfl]; exact ⟨ρ', s, h1, sr.ext x, hr', After.ext af x⟩
      | false => rw [if_neg (by decide)]; exact ⟨ρ', s, h1, sr.ext x, hr', After.ext af x⟩
theorem pt_ifeF (hc : PT X c (tT K ξ Z E fc)) (ha : PT X a (tT K ξ Z E fa)) (hb : PT X b (tT K ξ Z E fb)) : PT X (.IfExp c a b pos) (tT K ξ Z E (ifeF fc fa fb)) :=
  ⟨fun pins s σ H Q I ⟨ρ, st, h, sr, hr, af⟩ => by
    show wpAny _ _ (do if ← isTrue c X.env (eval c X.env) then isTrue a X.env (eval a X.env) else isTrue b X.env (eval b X.env)) _ _ _
    unfold ifeF at af
    have key : tT K ξ Z E fc σ H fun k H1 => if k = true then tT K ξ Z E fa σ H1 Q else tT K ξ Z E fb σ H1 Q := by
      refine ⟨ρ, st, h, sr, hr, ?_⟩
      generalize fc E st h = o at af
      cases o <;> first | exact af.elim | exact af | skip
      rename_i d h1
      simp only [Out.onV] at af
      cases e : tru h1 d with
      | none => rw [e] at af; exact af.elim
      | some k =>
        rw [e] at af
        refine ⟨k, e, fun ρ' H' x hr' => ?_⟩
        cases k with
        | true => rw [if_pos rfl]; exact ⟨ρ', st, h1, sr.ext x, hr', AfterT.ext af x⟩
        | false => rw [if_neg (by decide)]; exact ⟨ρ', st, h1, sr.ext x, hr', AfterT.ext af x⟩
    refine wpAny_bind (thn (hc.run pins s σ H _ I key) fun k s1 ⟨H1, I1, q1⟩ => ?_)
    cases k with
    | true => rw [if_pos rfl] at q1 ⊢; exact ha.run pins s1 σ H1 Q I1 q1
    | false => rw [if_neg (by decide)] at q1 ⊢; exact hb.run pins s1 σ H1 Q I1 q1⟩
/-- a[i] -/
theorem pe_subF (hK : X.K = K.K) (hu : X.A.units + 160 ≤ cLine) (ha : PE X a (tE K ξ Z E fa)) (hb : PE X b (tE K ξ Z E fb)) (hs : PlainIx b) : PE X (.Subscript a b pos) (tE K ξ Z E (subF fa fb)) := by
  obtain ⟨k, y⟩ := K; dsimp only at hK; subst hK
  exact PE.imp (pe_ix (ix_sub hu y) ha hb hs) fun σ H Q t => tE_op2 (n := 13) t
end
end Pv
set_option Elab.async false
set_option linter.all false
set_option maxRecDepth 100000
set_option maxHeartbeats 1000000
namespace Pv
open PySem L2 PySem.Spec PyProof.Rows
/-! ### boxed ends -/
def bxF (bx : Bool) (f : F) : F := if bx then boxF f else f
section
variable {X : Cx} {K : Kx} {ξ : XRel} {Z : WX} {E : Env} {a b c e : Expr} {es : List Expr} {fa fb fc fr : F} {pos : Pos}
theorem onV_val {o : Option D} {n : Nat} {h : Hp} {ρ : List Addr} {H : L2.Hp} {σ : L2.St} {Q : VK} (bx : Bool) (f : After K ξ Z ρ H σ Q (if bx = true then (ov h o n).onV boxK else ov h o n)) : FinBO K ρ h H Q bx o := by
  cases bx with
  | false =>
    rw [if_neg (by decide)] at f
    cases o with
    | none => exact f.elim
    | some d => exact f
  | true =>
    rw [if_pos rfl] at f
    cases o with
    | none => exact f.elim
    | some d =>
      have f : After K ξ Z ρ H σ Q (boxK d h) := f
      unfold boxK at f
      cases e : unL d with
      | none => rw [e] at f; exact f.elim
      | some ds => rw [e] at f; exact ⟨ds, e, f⟩
theorem bx_onV {bx : Bool} {f : F} {k : D → Hp → Out} {s : St} {h : Hp} (hf : f E s h = (fa E s h).onV k) : bxF bx f E s h = (fa E s h).onV fun x h => if bx = true then (k x h).onV boxK else k x h := by
  cases bx with
  | false => simp only [bxF, if_false, Bool.false_eq_true]; exact hf
  | true =>
    simp only [bxF, if_true, boxF]
    rw [hf]
    cases fa E s h <;> rfl
theorem bx_onL {bx : Bool} {f : F} {k : List D → Hp → Out} {s : St} {h : Hp} (hf : f E s h = (fa E s h).onL k) : bxF bx f E s h = (fa E s h).onL fun x h => if bx = true then (k x h).onV boxK else k x h := by
  cases bx with
  | false => simp only [bxF, if_false, Bool.false_eq_true]; exact hf
  | true =>
    simp only [bxF, if_true, boxF]
    rw [hf]
    cases fa E s h <;> rfl
theorem if_onV {bx : Bool} {o : Out} {k : D → Hp → Out} : (if bx = true then (o.onV k).onV boxK else o.onV k) = o.onV fun x h => if bx = true then (k x h).onV boxK else k x h := by
  cases bx with
  | false => simp
  | true => simp only [if_true]; cases o <;> rfl
theorem tE_op2b {bx : Bool} {f : D → D → Hp → Option D} {n : Nat} {σ : L2.St} {H : L2.Hp} {Q : VK}
    (t : tE K ξ Z E (bxF bx (fun E s h => (fa E s h).onV fun x h => (fb E s h).onV fun y h => ov h (f x y h) n)) σ H Q) : tOp (rV2b K bx f) (tE K ξ Z E fa) (tE K ξ Z E fb) σ H Q := by
  obtain ⟨ρ, s, h, sr, hr, af⟩ := t
  rw [bx_onV (fa := fa) rfl] at af
  refine ⟨ρ, s, h, sr, hr, After.mono af.bind fun x H1 ⟨ρ1, d, h1, x1, hr1, dr1, af1⟩ => ?_⟩
  rw [if_onV] at af1
  exact ⟨ρ1, s, h1, sr.ext x1, hr1, After.mono af1.bind fun y H2 ⟨ρ2, e, h2, x2, hr2, dr2, af2⟩ => ⟨ρ2, h2, d, e, hr2, dr1.ext x2, dr2, onV_val bx af2⟩⟩
theorem pe_addF (hK : X.K = K.K) (bx : Bool) (ha : PE X a (tE K ξ Z E fa)) (hb : PE X b (tE K ξ Z E fb)) : PE X (.BinOp a .Add b pos) (tE K ξ Z E (bxF bx (binF .add fa fb))) := by
  obtain ⟨k, y⟩ := K; dsimp only at hK; subst hK
  exact PE.imp (pe_op (op_addB bx y) ha hb) fun σ H Q t => tE_op2b (n := 3) t
theorem pe_mulF (hK : X.K = K.K) (bx : Bool) (ha : PE X a (tE K ξ Z E fa)) (hb : PE X b (tE K ξ Z E fb)) : PE X (.BinOp a .Mult b pos) (tE K ξ Z E (bxF bx (binF .mul fa fb))) := by
  obtain ⟨k, y⟩ := K; dsimp only at hK; subst hK
  exact PE.imp (pe_op (op_mulB bx y) ha hb) fun σ H Q t => tE_op2b (n := 3) t
/-! ### argument lists -/
def isStar : Expr → Bool
  | .Starred .. => true
  | _ => false
theorem star_no {e : Expr} {es : List Expr} {env : PySem.Env} (h : isStar e = false) : starEach (e :: es) env = (false, eval e env) :: starEach es env := by
  cases e <;> first | rfl | (cases h; done)
theorem pa_nilF : PA X [] (tL K ξ Z E nilF) := PA.imp pa_nil fun σ H Q ⟨ρ, s, h, sr, hr, af⟩ => af [] ρ H Ext.refl hr DRs.nil
theorem AfterL.mono {ρ : List Addr} {H : L2.Hp} {σ : L2.St} {Q Q' : List V → L2.Hp → Prop} {o : Out} (f : AfterL K ξ Z ρ H σ Q o) (hq : ∀ v H, Q v H → Q' v H) : AfterL K ξ Z ρ H σ Q' o := by
  cases o <;> first | exact f.elim | exact fun v ρ2 H2 e hr dr => hq v H2 (f v ρ2 H2 e hr dr) | exact f
theorem pa_consF (hs : isStar e = false) (ha : PE X e (tE K ξ Z E fa)) (hr : PA X es (tL K ξ Z E fr)) : PA X (e :: es) (tL K ξ Z E (cnsF fa fr)) :=
  PA.imp (pa_cons ha hr (star_no hs)) fun σ H Q ⟨ρ, s, h, sr, hr, af⟩ =>
    ⟨ρ, s, h, sr, hr, After.mono (After.bindL af) fun x H1 ⟨ρ1, d, h1, x1, hr1, dr1, af1⟩ => ⟨ρ1, s, h1, sr.ext x1, hr1, AfterL.mono (AfterL.bindL af1) fun xs H2 ⟨ρ2, ds, h2, x2, hr2, dr2, af2⟩ =>
      af2 (x :: xs) ρ2 H2 Ext.refl hr2 (DRs.cons (dr1.ext x2) dr2)⟩⟩
/-! ### displays -/
theorem pe_tupF {k : Nat} (h : PA X es (tL K ξ Z E fa)) : PE X (.Tuple es k pos) (tE K ξ Z E (tupF fa)) :=
  PE.imp (pe_tup h) fun σ H Q ⟨ρ, s, h, sr, hr, af⟩ => ⟨ρ, s, h, sr, hr, AfterL.mono (AfterL.bind af) fun xs H1 ⟨ρ1, ds, h1, x1, hr1, dr1, af1⟩ => by
    split at af1
    · rename_i z
      exact ⟨by rw [← dr1.length]; exact szOk_line z, fun p hp => Fin.mkTup (show Fin K ρ1 h1 H1 Q (mkTup ds) from af1) hr1 hp dr1⟩
    · exact af1.elim⟩
theorem finB_lst {bx : Bool} {ds : List D} {h : Hp} {ρ : List Addr} {H : L2.Hp} {σ : L2.St} {Q : VK} (f : After K ξ Z ρ H σ Q (if bx = true then (Out.val (mkLst ds) h).onV boxK else .val (mkLst ds) h)) : FinB K ρ h H Q bx (mkLst ds) :=
  onV_val (o := some (mkLst ds)) (n := 0) bx f
theorem pe_lstF (bx : Bool) (h : PA X es (tL K ξ Z E fa)) : PE X (.List es pos) (tE K ξ Z E (bxF bx (lstF fa))) :=
  PE.imp (pe_lst h) fun σ H Q ⟨ρ, s, h, sr, hr, af⟩ => by
    rw [bx_onL (fa := fa) rfl] at af
    refine ⟨ρ, s, h, sr, hr, AfterL.mono (AfterL.bind af) fun xs H1 ⟨ρ1, ds, h1, x1, hr1, dr1, af1⟩ => ?_⟩
    cases z : szOk ds.length with
    | false => rw [z] at af1; cases bx <;> exact af1.elim
    | true =>
      rw [z] at af1
      exact ⟨by rw [← dr1.length]; exact szOk_line z, fun p hp => FinB.mkLst (finB_lst (bx := bx) af1) hr1 hp dr1⟩
/-! ### slices -/
def tO (f : F) : TO := fun σ H Q => ∃ ρ s h, SR K H ρ s σ ∧ HR K ρ h H ∧ (match f E s h with
  | .val d h => ∃ o, bnd d = some o ∧ ∀ ρ' H', Ext ρ H ρ' H' → HR K ρ' h H' → Q o H'
  | .exc c ds _ h => Exc K ξ Z ρ h H σ c ds
  | _ => False)
theorem po_noF : PO X none (tO (K := K) (ξ := ξ) (Z := Z) (E := E) (partF .nil fa)) :=
  ⟨fun pins s σ H Q I ⟨ρ, st, h, sr, hr, o, e, q⟩ => po_none.run pins s σ H Q I (by cases e; exact q ρ H Ext.refl hr)⟩
theorem po_someF {t : T} (ht : t ≠ .nil) (ha : PE X a (tE K ξ Z E fa)) : PO X (some a) (tO (K := K) (ξ := ξ) (Z := Z) (E := E) (partF t fa)) :=
  ⟨fun pins s σ H Q I ⟨ρ, st, h, sr, hr, af⟩ => (po_some ha).run pins s σ H Q I (by
    refine ⟨ρ, st, h, sr, hr, ?_⟩
    have ep : partF t fa E st h = (fa E st h).onV fun x h => match x with | .g (.int i) => .val (.g (.int i)) h | _ => .bad 21 := by
      cases t <;> first | rfl | exact absurd rfl ht
    rw [ep] at af
    generalize fa E st h = o at af
    cases o <;> first | exact af.elim | exact af | skip
    rename_i d h1
    simp only [Out.onV] at af
    intro v ρ' H' x hr' dr
    split at af
    · rename_i d' h' heq
      split at heq
      · cases heq
        obtain ⟨o, e, q⟩ := af
        cases e
        exact ⟨_, int_dr dr, q ρ' H' x hr'⟩
      · cases heq
    · rename_i heq
      split at heq <;> cases heq
    · exact af.elim)⟩
theorem pe_sliF (hK : X.K = K.K) (bx : Bool) {tl th : T} {lo hi : Option Expr} {p2 : Pos} (ha : PE X a (tE K ξ Z E fa)) (hl : PO X lo (tO (K := K) (ξ := ξ) (Z := Z) (E := E) (partF tl fb))) (hh : PO X hi (tO (K := K) (ξ := ξ) (Z := Z) (E := E) (partF th fc)))
    (nl : ∀ s h d h', partF tl fb E s h = .val d h' → (bnd d).isSome) (nh : ∀ s h d h', partF th fc E s h = .val d h' → (bnd d).isSome) :
    PE X (.Subscript a (.Slice lo hi none p2) pos) (tE K ξ Z E (bxF bx (sliF fa (partF tl fb) (partF th fc)))) := by
  obtain ⟨k, y⟩ := K; dsimp only at hK; subst hK
  refine PE.imp (pe_slice (sl_val bx y) ha hl hh) fun σ H Q ⟨ρ, s, h, sr, hr, af⟩ => ?_
  rw [bx_onV (fa := fa) rfl] at af
  refine ⟨ρ, s, h, sr, hr, After.mono af.bind fun x H1 ⟨ρ1, d, h1, x1, hr1, dr1, af1⟩ => ?_⟩
  rw [if_onV] at af1
  refine ⟨ρ1, s, h1, sr.ext x1, hr1, ?_⟩
  cases e1 : partF tl fb E s h1 <;> rw [e1] at af1 <;> first | exact af1.elim | exact af1 | skip
  rename_i d2 h2
  obtain ⟨o2, eo2⟩ := Option.isSome_iff_exists.mp (nl _ _ _ _ e1)
  refine ⟨o2, eo2, fun ρ2 H2 x2 hr2 => ?_⟩
  replace af1 : After ⟨X.K, y⟩ ξ Z ρ1 H1 σ Q (if bx = true then ((partF th fc E s h2).onV fun j h => ov h (sliV d d2 j h) 22).onV boxK else (partF th fc E s h2).onV fun j h => ov h (sliV d d2 j h) 22) := af1
  replace af1 := After.ext af1 x2
  rw [if_onV] at af1
  refine ⟨ρ2, s, h2, (sr.ext x1).ext x2, hr2, ?_⟩
  cases e2 : partF th fc E s h2 <;> rw [e2] at af1 <;> first | exact af1.elim | exact af1 | skip
  rename_i d3 h3
  obtain ⟨o3, eo3⟩ := Option.isSome_iff_exists.mp (nh _ _ _ _ e2)
  refine ⟨o3, eo3, fun ρ3 H3 x3 hr3 => ?_⟩
  exact ⟨ρ3, h3, d, d2, d3, hr3, (dr1.ext x2).ext x3, eo2, eo3, onV_val bx (After.ext af1 x3)⟩
theorem part_ok (t : T) (f : F) (s : St) (h : Hp) (d : D) (h' : Hp) (e : partF t f E s h = .val d h') : (bnd d).isSome = true := by
  by_cases ht : t = .nil
  · subst ht; cases e; rfl
  · have ep : partF t f E s h = (f E s h).onV fun x h => match x with | .g (.int i) => .val (.g (.int i)) h | _ => .bad 21 := by
      cases t <;> first | rfl | exact absurd rfl ht
    rw [ep] at e
    cases q : f E s h <;> rw [q] at e <;> simp only [Out.onV] at e <;> first | (cases e; done) | skip
    split at e <;> cases e
    rfl
end
end Pv
set_option Elab.async false
set_option linter.all false
set_option maxRecDepth 100000
set_option maxHeartbeats 1000000
namespace Pv
open PySem L2 PySem.Spec PyProof.Rows
/-! ### isinstance -/
def tN : Tn → Value
  | .non => .type "NoneType" | .bl => .type "bool" | .int => .type "int" | .str => .type "str" | .tup => .type "tuple" | .lst => .type "list" | .ins _ => .none
section
variable {K : Kx} {ρ : List Addr} {h : Hp} {H : L2.Hp}
theorem SqT.ty {K : PySem.W.Frag} {a : Addr} {vs : List V} (q : SqT K H a vs) : TyX K H (.ref a) (.type "tuple") := by
  rcases q with (q | ⟨o, q⟩) | ⟨o, its, n, hk, hc, _⟩
  · exact .base (.tup q)
  · exact .fTuple q
  · exact .kTuple hk hc
theorem rd_ty {K : PySem.W.Frag} {a : Addr} {vs : List V} (q : Rd H a (.lst vs)) : TyX K H (.ref a) (.type "list") := by
  rcases q with q | ⟨o, q⟩
  · exact .base (.lst q)
  · exact .base (.frz q)
theorem ty_view (hr : HR K ρ h H) {d : D} {v : V} {n : Tn} (dr : DR K H ρ d v) (e : tyOf h d = some n) : TyX K.K H v (tN n) := by
  cases d with
  | g x =>
    cases x with
    | non => cases e; cases non_dr dr; exact .base .non
    | bl b => cases e; cases bl_dr dr; exact .base (.bl b)
    | int i => cases e; cases int_dr dr; exact .base (.int i)
    | str i => cases e; cases str_dr dr; exact .base (.str _)
    | tup gs => cases e; obtain ⟨a, vs, rfl, q, _⟩ := tup_dr dr; exact SqT.ty q
    | lst gs => cases e; obtain ⟨a, vs, rfl, q, _⟩ := lst_dr dr; exact rd_ty q.rd
    | rng lo hi => cases e
    | set xs => cases e
  | ref i =>
    obtain ⟨a, ha, rfl⟩ := ref_dr dr
    simp only [tyOf] at e
    cases q : h[i]? with
    | none => simp [q] at e
    | some o =>
      cases o with
      | lst ds =>
        simp only [q, Option.some.injEq] at e
        subst e
        obtain ⟨vs, hv, dv⟩ := hr.lst ha q
        exact .base (.lst hv)
      | _ => simp [q] at e
  | mix l ds =>
    cases e
    obtain ⟨a, vs, rfl, q, g⟩ := mix_dr dr
    cases l with
    | true =>
      have q : Lv K H ρ a vs := q
      exact rd_ty q.rd
    | false => exact SqT.ty q
  | _ => cases e
theorem tyOf_noins (hr : HR K ρ h H) {d : D} {v : V} {n : Tn} (dr : DR K H ρ d v) (e : tyOf h d = some n) : ∀ c, n ≠ .ins c := fun c z => by
  subst z
  cases d with
  | g x => cases x <;> cases e
  | ref i =>
    obtain ⟨a, ha, rfl⟩ := ref_dr dr
    simp only [tyOf] at e
    cases q : h[i]? with
    | none => simp [q] at e
    | some o =>
      cases o with
      | _ => simp [q] at e
  | mix l ds => cases l <;> cases e
  | _ => cases e
end
section
variable {X : Cx} {K : Kx} {ξ : XRel} {Z : WX} {E : Env} {a b c e : Expr} {es : List Expr} {fa fb fc fr : F} {p pos : Pos}
/-- f(args) of a known callee, by a rule of values -/
abbrev cR (X : Cx) (f : Value) (g : List D → Hp → Option D) : Prop := ∀ y, CallR X f fun vs H Q => ∃ ρ h ds, HR ⟨X.K, y⟩ ρ h H ∧ DRs ⟨X.K, y⟩ H ρ ds vs ∧ FinO ⟨X.K, y⟩ ρ h H Q (g ds h)
theorem isaL_some {h : Hp} {d : D} {tys : List Ty} {b : Bool} (e : isaL h d tys = some b) : ∃ n, tyOf h d = some n ∧ b = tys.any (sT n) := by
  unfold isaL at e
  split at e
  · rename_i n q; cases e; exact ⟨n, q, rfl⟩
  · cases e
theorem tE_isa {tys : List Ty} {σ : L2.St} {H : L2.Hp} {Q : VK} (t : tE K ξ Z E (isaF fa tys) σ H Q) :
    tE K ξ Z E fa σ H fun x H1 => ∃ ρ1 h1 d, HR K ρ1 h1 H1 ∧ DR K H1 ρ1 d x ∧ ∃ b, isaL h1 d tys = some b ∧ Fin K ρ1 h1 H1 Q (.g (.bl b)) := by
  obtain ⟨ρ, s, h, sr, hr, af⟩ := t
  refine ⟨ρ, s, h, sr, hr, After.mono af.bind fun x H1 ⟨ρ1, d, h1, x1, hr1, dr1, af1⟩ => ?_⟩
  obtain ⟨b, e, f⟩ := bO_fin af1.ob
  exact ⟨ρ1, h1, d, hr1, dr1, b, e, f⟩
theorem pe_isaF1 (hK : X.K = K.K) {ty : Ty} {te : Expr} {c : V} {u : Value} (hs1 : isStar a = false) (hs2 : isStar te = false) (ha : PE X a (tE K ξ Z E fa)) (ht : PE X te (tC c)) (hc : ClsV c u)
    (hk : ∀ n, (∀ k, n ≠ .ins k) → PySem.W.kitOne X.K (tN n) u = some (sT n ty)) (hg : Gl X "isinstance") (hm : X.mg "isinstance" = none) :
    PE X (.Call (.Name "isinstance" p) [a, te] [] pos) (tE K ξ Z E (isaF fa [ty])) := by
  obtain ⟨k, y⟩ := K; dsimp only at hK; subst hK
  refine PE.imp (pe_callB call_isi hg hm PyProof.Rows.boot_isinstance (pa_cons ha (pa_cons ht pa_nil (star_no hs2)) (star_no hs1)) (by decide) (by decide) (star_no hs1) ?_) fun σ H Q t => ?_
  · rw [star_no hs2]; rfl
  · obtain ⟨ρ, s, h, sr, hr, af⟩ := tE_isa t
    refine ⟨ρ, s, h, sr, hr, After.mono af fun x H1 ⟨ρ1, h1, d, hr1, dr1, b, e1, f⟩ => ?_⟩
    obtain ⟨n, e2, rfl⟩ := isaL_some e1
    refine ⟨x, c, tN n, u, _, rfl, hc, ty_view hr1 dr1 e2, hk n (tyOf_noins hr1 dr1 e2), ?_⟩
    simp only [List.any_cons, List.any_nil, Bool.or_false] at f
    exact fin_bl f hr1
theorem pe_isaFT (hK : X.K = K.K) {tys : List Ty} {ts : List Expr} {cs : List V} {us : List Value} {kk : Nat} {tp : Pos} (hs1 : isStar a = false) (ha : PE X a (tE K ξ Z E fa)) (ht : PA X ts fun _ H Q => Q cs H) (hc : Paired ClsV cs us)
    (hz : cs.length ≤ sizeLine) (hk : ∀ n, (∀ k, n ≠ .ins k) → PySem.W.kitAny X.K (tN n) us = some (tys.any (sT n))) (hg : Gl X "isinstance") (hm : X.mg "isinstance" = none) :
    PE X (.Call (.Name "isinstance" p) [a, .Tuple ts kk tp] [] pos) (tE K ξ Z E (isaF fa tys)) := by
  obtain ⟨k, y⟩ := K; dsimp only at hK; subst hK
  refine PE.imp (pe_callB call_isiT hg hm PyProof.Rows.boot_isinstance (pa_cons ha (pa_cons (pe_tup ht) pa_nil) (star_no hs1)) (by decide) (by decide) (star_no hs1) rfl) fun σ H Q t => ?_
  obtain ⟨ρ, s, h, sr, hr, af⟩ := tE_isa t
  refine ⟨ρ, s, h, sr, hr, After.mono af fun x H1 ⟨ρ1, h1, d, hr1, dr1, b, e1, f⟩ => ?_⟩
  obtain ⟨n, e2, rfl⟩ := isaL_some e1
  refine ⟨hz, fun q hq => ?_⟩
  have x1 : Ext ρ1 H1 ρ1 (upd H1 q (.tup cs)) := Ext.upd hq
  have hr2 := hr1.upd (o := .tup cs) hq
  refine ⟨x, q, cs, tN n, us, _, rfl, upd_same, hc, ty_view hr2 (dr1.ext x1) e2, hk n (tyOf_noins hr1 dr1 e2), ?_⟩
  exact (f.ext x1).here hr2 (by unfold DR GR; rfl)
/-! ### built-ins of one argument -/
theorem pe_bltF1 (hK : X.K = K.K) {bf : Bf} {bx : Bool} {u : Value} {x : PySem.Str} (hb : (∃ T, u = .type T ∧ bootBuiltins x = some (.type T)) ∨ ∃ id, u = .builtin id ∧ bootBuiltins x = some (.builtin id))
    (hr : ∀ y, CallR X u fun vs H Q => ∃ ρ h d v, vs = [v] ∧ HR ⟨X.K, y⟩ ρ h H ∧ DR ⟨X.K, y⟩ H ρ d v ∧ FinBO ⟨X.K, y⟩ ρ h H Q bx (blt1 bf d h))
    (hs1 : isStar a = false) (ha : PE X a (tE K ξ Z E fa)) (hg : Gl X x) (hm : X.mg x = none) (hn : x ≠ "__name__") (hdb : (x == ("__debug__" : PySem.Str)) = false) :
    PE X (.Call (.Name x p) [a] [] pos) (tE K ξ Z E (bxF bx (bltF bf (cnsF fa nilF)))) := by
  obtain ⟨k, y⟩ := K; dsimp only at hK; subst hK
  have conv : ∀ σ H Q, tE ⟨X.K, y⟩ ξ Z E (bxF bx (bltF bf (cnsF fa nilF))) σ H Q → tCB (fun vs H Q => ∃ ρ h d v, vs = [v] ∧ HR ⟨X.K, y⟩ ρ h H ∧ DR ⟨X.K, y⟩ H ρ d v ∧ FinBO ⟨X.K, y⟩ ρ h H Q bx (blt1 bf d h)) (tCons (tE ⟨X.K, y⟩ ξ Z E fa) tNil) σ H Q :=
    fun σ H Q ⟨ρ, s, h, sr, hr', af⟩ => by
      have e : bltF bf (cnsF fa nilF) E s h = (fa E s h).onV fun d h => ov h (bltV bf [d] h) 33 := by
        unfold bltF cnsF nilF
        cases fa E s h <;> rfl
      rw [bx_onV e] at af
      exact ⟨ρ, s, h, sr, hr', After.mono af.bind fun v H1 ⟨ρ1, d, h1, x1, hr1, dr1, af1⟩ => ⟨ρ1, h1, d, v, rfl, hr1, dr1, onV_val bx af1⟩⟩
  rcases hb with ⟨T, rfl, hb⟩ | ⟨id, rfl, hb⟩
  · exact PE.imp (pe_callTy (hr y) hg hm hb (pa_cons ha pa_nil (star_no hs1)) hn hdb (star_no hs1) rfl) conv
  · exact PE.imp (pe_callB (hr y) hg hm hb (pa_cons ha pa_nil (star_no hs1)) hn hdb (star_no hs1) rfl) conv
/-- a rule whose end is plain -/
abbrev b1 (X : Cx) (u : Value) (bx : Bool) (bf : Bf) : Prop := ∀ y, CallR X u fun vs H Q => ∃ ρ h d v, vs = [v] ∧ HR ⟨X.K, y⟩ ρ h H ∧ DR ⟨X.K, y⟩ H ρ d v ∧ FinBO ⟨X.K, y⟩ ρ h H Q bx (blt1 bf d h)
theorem b1_abs : b1 X (.builtin "abs") false .abs := fun y pins s σ H vs us Q I r ⟨ρ, h, d, v, ev, hr, dr, f⟩ => by
  subst ev
  have f : FinO ⟨X.K, y⟩ ρ h H Q (omap (fun i => .g (.int i)) (absV d)) := by
    change FinBO _ ρ h H Q false (omap (fun i => .g (.int i)) (absV d)) at f
    cases q : absV d <;> rw [q] at f <;> exact f
  unfold absV at f
  split at f
  · exact call_abs pins s σ H _ us Q I r ⟨_, by rw [int_dr dr], fin_int f hr⟩
  · exact f.elim
theorem b1_int : b1 X (.type "int") false .int := fun y pins s σ H vs us Q I r ⟨ρ, h, d, v, ev, hr, dr, f⟩ => by
  subst ev
  have f : FinO ⟨X.K, y⟩ ρ h H Q (omap (fun i => .g (.int i)) (intV d)) := by
    change FinBO _ ρ h H Q false (omap (fun i => .g (.int i)) (intV d)) at f
    cases q : intV d <;> rw [q] at f <;> exact f
  unfold intV at f
  split at f
  · exact call_int1 pins s σ H _ us Q I r (.inl ⟨_, by rw [int_dr dr], fin_int f hr⟩)
  · exact call_int1 pins s σ H _ us Q I r (.inr ⟨_, by rw [bl_dr dr], by rw [b2i_if]; exact fin_int f hr⟩)
  · rename_i n _
    split at f
    · rename_i c q
      cases q2 : digV c with
      | none => rw [q2] at f; exact f.elim
      | some i =>
        rw [q2] at f
        refine call_int_str pins s σ H _ us Q I r ⟨encS n, i, by rw [str_dr dr], ?_, by rw [encS_len, q]; exact Nat.le_of_ble_eq_true rfl, fin_int f hr⟩
        unfold encS
        rw [q]
        exact digit_text q2
    · exact f.elim
  · exact f.elim
/-- str(a number) -/
theorem b1_str : b1 X (.type "str") false .str := fun y pins s σ H vs us Q I r ⟨ρ, h, d, v, ev, hr, dr, f⟩ => by
  subst ev
  change FinBO _ ρ h H Q false (strV d) at f
  unfold strV at f
  split at f
  · rename_i i
    by_cases z : i.natAbs.log2 < 1920
    · rw [if_pos z] at f
      replace f : Fin ⟨X.K, y⟩ ρ h H Q (.g (.str (strInt i))) := f
      refine call_str_int pins s σ H _ us Q I r ⟨i, by rw [int_dr dr], z, ?_⟩
      have := f.here hr (v := .str (encS (strInt i))) (by unfold DR GR; rfl)
      rw [str_num] at this
      exact this
    · rw [if_neg z] at f
      exact f.elim
  · exact f.elim
theorem len_view {K : Kx} {ρ : List Addr} {h : Hp} {H : L2.Hp} (hr : HR K ρ h H) {d : D} {v : V} {n : Nat} (dr : DR K H ρ d v) (e : lenV h d = some n) : LenV K.K v H n := by
  have kc : ∀ l ds, kind h d = some (l, ds) → ds.length = n → LenV K.K v H n := fun l ds q e => by
    obtain ⟨vs, ⟨a, rfl, k⟩, dv⟩ := kind_view hr dr q
    cases l with
    | true => exact .inl ⟨vs, .inl k, by rw [← e]; exact dv.length⟩
    | false => exact .inr ⟨vs, k, by rw [← e]; exact dv.length⟩
  unfold lenV at e
  split at e
  · split at e
    · rename_i m z
      cases e
      cases str_dr dr
      have l1 := dec_len m
      have l2 := szOk_le z
      exact ⟨by rw [encS_len, sizeLine_eq]; omega, (lenS_eq m).trans (encS_len m).symm⟩
    · cases e
  · cases e; exact kc false _ rfl (by simp)
  · cases e; exact kc true _ rfl (by simp)
  · split at e
    · rename_i l ds q
      cases e
      exact kc l ds q rfl
    · cases e
theorem b1_len : b1 X (.builtin "len") false .len := fun y pins s σ H vs us Q I r ⟨ρ, h, d, v, ev, hr, dr, f⟩ => by
  subst ev
  change FinBO _ ρ h H Q false (omap (fun n : Nat => .g (.int n)) (lenV h d)) at f
  cases q : lenV h d with
  | none => rw [q] at f; exact f.elim
  | some n =>
    rw [q] at f
    exact call_len pins s σ H _ us Q I r ⟨v, n, rfl, len_view hr dr q, fin_int f hr⟩
theorem KV.sq {K : Kx} {H : L2.Hp} {l : Bool} {v : V} {vs : List V} (k : KV K H l v vs) : ∃ p, v = .ref p ∧ (SqL K.K H p vs ∨ SqT K.K H p vs) := by
  obtain ⟨a, rfl, k⟩ := k
  cases l with
  | true => exact ⟨a, rfl, .inl (.inl k)⟩
  | false => exact ⟨a, rfl, .inr k⟩
theorem lis_some {h : Hp} {d r : D} (nr : ∀ lo hi, d ≠ .g (.rng lo hi)) (e : lisV h d = some r) : ∃ l ds, kind h d = some (l, ds) ∧ r = mkLst ds := by
  unfold lisV at e
  split at e
  · cases e; exact ⟨false, _, rfl, (mkLst_gs _).symm⟩
  · cases e; exact ⟨true, _, rfl, (mkLst_gs _).symm⟩
  · exact absurd rfl (nr _ _)
  · split at e
    · rename_i q; cases e; exact ⟨_, _, q, rfl⟩
    · cases e
/-- the numbers of a range -/
def rIs (lo : Int) : Nat → List Int
  | 0 => []
  | n + 1 => lo :: rIs (lo + 1) n
theorem rIs_len : ∀ (n : Nat) (lo : Int), (rIs lo n).length = n
  | 0, _ => rfl
  | n + 1, lo => by show (rIs (lo + 1) n).length + 1 = n + 1; rw [rIs_len n]
theorem rangeL_gs {K : Kx} {ρ : List Addr} {H : L2.Hp} : ∀ (n : Nat) (lo : Int), GRs K H ρ (rangeL lo 1 n) ((rIs lo n).map V.int)
  | 0, _ => GRs.nil
  | n + 1, lo => GRs.cons (by unfold GR; rfl) (rangeL_gs n (lo + 1))
theorem rIs_vals : ∀ (n : Nat) (lo : Int) (l : List Value), l.length = n → (∀ (i : Nat) v, l[i]? = some v → ∃ t, v = Value.int (lo + (i : Int)) t) → Vals ((rIs lo n).map V.int) l
  | 0, _, [], _, _ => .nil
  | 0, _, _ :: _, e, _ => by cases e
  | _ + 1, _, [], e, _ => by cases e
  | n + 1, lo, v :: l, e, q => by
    obtain ⟨t, rfl⟩ := q 0 v rfl
    refine .cons ⟨t, by simp⟩ (rIs_vals n (lo + 1) l (by simpa using e) fun i v z => ?_)
    obtain ⟨t, rfl⟩ := q (i + 1) v (by simpa using z)
    exact ⟨t, by congr 1; push_cast; omega⟩
theorem line24 : 16777216 ≤ sizeLine := by rw [sizeLine_eq]; omega
theorem call_list_rng (hc : X.calm = true) {pins : List (Addr × Obj)} {s : Shared} {σ : L2.St} {H : L2.Hp} {Q : VK} {a : Addr} {lo hi : Int} (I : Inv X pins σ H s) (ha : H a = some (.rng lo hi)) (b : -(2 ^ 62) ≤ lo ∧ lo < 2 ^ 62 ∧ -(2 ^ 62) ≤ hi ∧ hi < 2 ^ 62) (hn : (hi - lo).toNat ≤ 16777216)
    (q : ∀ p, H p = none → Q (.ref p) (upd H p (.lst ((rIs lo (hi - lo).toNat).map V.int)))) : wpAny (model X.prog X.w) X.A (call (.type "list") [.ref a]) (EP X pins σ Q) X.xe s := by
  obtain ⟨t, u, v, ho⟩ := I.hok a _ ha
  refine call_list_range (n := (hi - lo).toNat) (I.ok.hd hc) ho (small_one b.1 b.2.1 b.2.2.1 b.2.2.2) (by rw [rangeSize_one]; split <;> omega) (by omega) fun h' tk acc' c' hk hS hI => ?_
  have hsz := hI.1
  refine ⟨.ref _, upd H s.heap.objs.size (.lst ((rIs lo (hi - lo).toNat).map V.int)), I.laid (t' := tk) (fun b o e => hk b o e) (Nat.le_refl _) ⟨?_, acc'.toList, c', rIs_vals _ _ _ (by rw [Array.length_toList]; exact hsz) fun i w z => ?_, by rw [Array.toArray_toList]; exact hS⟩, rfl, q _ (I.hok.fresh (Nat.le_refl _))⟩
  · rw [List.length_map, rIs_len]; exact Nat.le_trans hn line24
  · obtain ⟨t, e⟩ := hI.2 i w (by rw [← Array.getElem?_toList]; exact z)
    exact ⟨t, by rw [e, Int.mul_one]⟩
theorem tup_some {h : Hp} {d r : D} (e : tupV h d = some r) : ∃ l ds, kind h d = some (l, ds) ∧ r = mkTup ds := by
  unfold tupV at e
  split at e
  · cases e; exact ⟨false, _, rfl, (mkTup_gs _).symm⟩
  · cases e; exact ⟨true, _, rfl, (mkTup_gs _).symm⟩
  · split at e
    · rename_i q; cases e; exact ⟨_, _, q, rfl⟩
    · cases e
theorem rng_or (d : D) : (∃ lo hi, d = .g (.rng lo hi)) ∨ ∀ lo hi, d ≠ .g (.rng lo hi) := by
  by_cases h : ∃ lo hi, d = .g (.rng lo hi)
  · exact .inl h
  · exact .inr fun lo hi e => h ⟨lo, hi, e⟩
theorem b1_list (hc : X.calm = true) (bx : Bool) : b1 X (.type "list") bx .list := fun y pins s σ H vs us Q I r ⟨ρ, h, d, v, ev, hr, dr, f⟩ => by
  subst ev
  change FinBO _ ρ h H Q bx (lisV h d) at f
  rcases rng_or d with ⟨lo, hi, rfl⟩ | nr
  · simp only [lisV] at f
    split at f
    · rename_i z
      unfold DR GR at dr
      obtain ⟨a, rfl, ha, b⟩ := dr
      rw [Vals.ref1 r]
      exact call_list_rng hc I ha b (Nat.le_of_ble_eq_true z) fun q hq => FinB.mkLst (by rw [mkLst_gs]; exact f) hr hq (rangeL_gs _ _).toD
    · exact f.elim
  cases q : lisV h d with
  | none => rw [q] at f; exact f.elim
  | some r' =>
    rw [q] at f
    obtain ⟨l, ds, k, rfl⟩ := lis_some nr q
    obtain ⟨vs, kv, dv⟩ := kind_view hr dr k
    obtain ⟨p, rfl, sq⟩ := kv.sq
    exact call_list_of pins s σ H _ us Q I r ⟨p, vs, rfl, sq, fun q hq => FinB.mkLst f hr hq dv⟩
theorem b1_tuple : b1 X (.type "tuple") false .tuple := fun y pins s σ H vs us Q I r ⟨ρ, h, d, v, ev, hr, dr, f⟩ => by
  subst ev
  change FinBO _ ρ h H Q false (tupV h d) at f
  cases q : tupV h d with
  | none => rw [q] at f; exact f.elim
  | some r' =>
    rw [q] at f
    replace f : Fin ⟨X.K, y⟩ ρ h H Q r' := f
    obtain ⟨l, ds, k, rfl⟩ := tup_some q
    obtain ⟨vs, ⟨p, rfl, kv⟩, dv⟩ := kind_view hr dr k
    cases l with
    | true => exact call_tuple_of pins s σ H _ us Q I r ⟨p, vs, rfl, .inl ⟨.inl kv, fun q hq => Fin.mkTup f hr hq dv⟩⟩
    | false =>
      refine call_tuple_of pins s σ H _ us Q I r ⟨p, vs, rfl, .inr ⟨kv, f.here hr ?_⟩⟩
      cases e2 : unGs ds with
      | some gs => rw [(unGs_some e2).1]; unfold DR GR; exact ⟨p, vs, rfl, kv, dv.toG e2⟩
      | none => rw [(unGs_none e2).1]; unfold DR; exact ⟨p, vs, rfl, by rw [if_neg (by decide)]; exact kv, dv⟩
/-! ### all, any, sum, max, min -/
theorem lst_view {K : Kx} {ρ : List Addr} {h : Hp} {H : L2.Hp} (hr : HR K ρ h H) {d : D} {v : V} {gs : List G} (dr : DR K H ρ d v) (e : lstG h d = some gs) : ∃ a vs, v = .ref a ∧ Rd H a (.lst vs) ∧ GRs K H ρ gs vs := by
  unfold lstG at e
  split at e
  · cases e
    obtain ⟨a, vs, rfl, q, g⟩ := lst_dr dr
    exact ⟨a, vs, rfl, q.rd, g⟩
  · rename_i i
    split at e
    · rename_i ds q
      obtain ⟨a, ha, rfl⟩ := ref_dr dr
      obtain ⟨vs, hv, dv⟩ := hr.lst ha q
      exact ⟨a, vs, rfl, .inl hv, dv.toG e⟩
    · cases e
  · cases e
theorem bools_of {K : Kx} {ρ : List Addr} {H : L2.Hp} : ∀ {gs : List G} {vs : List V} {bs : List Bool}, GRs K H ρ gs vs → boolsOf gs = some bs → vs = bs.map V.bl
  | [], vs, bs, g, e => by cases e; exact g.inv0
  | x :: r, vs, bs, g, e => by
    obtain ⟨v, t, rfl, g1, g2⟩ := g.inv
    cases x with
    | bl b =>
      simp only [boolsOf] at e
      cases q : boolsOf r with
      | none => rw [q] at e; cases e
      | some t' =>
        rw [q] at e; cases e
        rw [bools_of g2 q]
        have : v = .bl b := by unfold GR at g1; exact g1
        rw [this]; rfl
    | _ => cases e
theorem ints_of {K : Kx} {ρ : List Addr} {H : L2.Hp} : ∀ {gs : List G} {vs : List V} {bs : List Int}, GRs K H ρ gs vs → intsOf gs = some bs → vs = bs.map V.int
  | [], vs, bs, g, e => by cases e; exact g.inv0
  | x :: r, vs, bs, g, e => by
    obtain ⟨v, t, rfl, g1, g2⟩ := g.inv
    cases x with
    | int b =>
      simp only [intsOf] at e
      cases q : intsOf r with
      | none => rw [q] at e; cases e
      | some t' =>
        rw [q] at e; cases e
        rw [ints_of g2 q]
        have : v = .int b := by unfold GR at g1; exact g1
        rw [this]; rfl
    | _ => cases e
theorem finBO_plain {y : Yx} {ρ : List Addr} {h : Hp} {H : L2.Hp} {Q : VK} {o : Option D} (f : FinBO ⟨X.K, y⟩ ρ h H Q false o) : ∃ d, o = some d ∧ Fin ⟨X.K, y⟩ ρ h H Q d := by
  cases o with
  | none => exact f.elim
  | some d => exact ⟨d, rfl, f⟩
theorem omatch {α β : Type} {o : Option α} {k : α → Option β} {r : β} (h : (match o with | some x => k x | none => none) = some r) : ∃ x, o = some x ∧ k x = some r := by
  cases o with
  | none => cases h
  | some x => exact ⟨x, rfl, h⟩
theorem b1_all (hc : X.calm = true) : b1 X (.builtin "all") false .all := fun y pins s σ H vs us Q I r ⟨ρ, h, d, v, ev, hr, dr, f⟩ => by
  subst ev
  obtain ⟨r', e, f⟩ := finBO_plain f
  simp only [blt1] at e
  obtain ⟨gs, e1⟩ : ∃ gs, lstG h d = some gs := by
    cases q : lstG h d with
    | none => rw [q] at e; cases e
    | some g => exact ⟨g, rfl⟩
  rw [e1] at e
  have e2 := e
  obtain ⟨bs, e3, rfl⟩ := omap_some e2
  obtain ⟨a, vs, rfl, q, g⟩ := lst_view hr dr e1
  rw [bools_of g e3] at q
  exact cr_all hc pins s σ H _ us Q I r ⟨a, bs, rfl, .inl q, fin_bl f hr⟩
theorem b1_any (hc : X.calm = true) : b1 X (.builtin "any") false .any := fun y pins s σ H vs us Q I r ⟨ρ, h, d, v, ev, hr, dr, f⟩ => by
  subst ev
  obtain ⟨r', e, f⟩ := finBO_plain f
  simp only [blt1] at e
  obtain ⟨gs, e1⟩ : ∃ gs, lstG h d = some gs := by
    cases q : lstG h d with
    | none => rw [q] at e; cases e
    | some g => exact ⟨g, rfl⟩
  rw [e1] at e
  have e2 := e
  obtain ⟨bs, e3, rfl⟩ := omap_some e2
  obtain ⟨a, vs, rfl, q, g⟩ := lst_view hr dr e1
  rw [bools_of g e3] at q
  exact cr_any hc pins s σ H _ us Q I r ⟨a, bs, rfl, .inl q, fin_bl f hr⟩
theorem sumI_eq : ∀ l : List Int, sumI l = l.sum
  | [] => rfl
  | x :: r => by simp [sumI, sumI_eq r]
theorem b1_sum (hc : X.calm = true) : b1 X (.builtin "sum") false .sum := fun y pins s σ H vs us Q I r ⟨ρ, h, d, v, ev, hr, dr, f⟩ => by
  subst ev
  obtain ⟨r', e, f⟩ := finBO_plain f
  simp only [blt1] at e
  obtain ⟨gs, e1⟩ : ∃ gs, lstG h d = some gs := by
    cases q : lstG h d with
    | none => rw [q] at e; cases e
    | some g => exact ⟨g, rfl⟩
  rw [e1] at e
  have e2 := e
  obtain ⟨bs, e3, rfl⟩ := omap_some e2
  obtain ⟨a, vs, rfl, q, g⟩ := lst_view hr dr e1
  rw [ints_of g e3] at q
  rw [sumI_eq] at f
  exact cr_sum hc pins s σ H _ us Q I r ⟨a, bs, rfl, .inl q, fin_int f hr⟩
theorem maxI_mem : ∀ (r : List Int) (x : Int), maxI x r ∈ x :: r ∧ ∀ y ∈ x :: r, y ≤ maxI x r
  | [], x => ⟨by simp [maxI], by simp [maxI]⟩
  | z :: r, x => by
    have := maxI_mem r (if x < z then z else x)
    unfold maxI
    by_cases hz : x < z
    · rw [if_pos hz] at this ⊢
      refine ⟨List.mem_cons_of_mem _ this.1, fun y hy => ?_⟩
      have hm := this.2 z List.mem_cons_self
      rcases List.mem_cons.mp hy with rfl | hy
      · omega
      · exact this.2 y hy
    · rw [if_neg hz] at this ⊢
      refine ⟨?_, fun y hy => ?_⟩
      · rcases List.mem_cons.mp this.1 with h | h
        · rw [h]; exact List.mem_cons_self
        · exact List.mem_cons_of_mem _ (List.mem_cons_of_mem _ h)
      · have hm := this.2 x List.mem_cons_self
        rcases List.mem_cons.mp hy with rfl | hy
        · exact hm
        · rcases List.mem_cons.mp hy with rfl | hy
          · omega
          · exact this.2 y (List.mem_cons_of_mem _ hy)
theorem minI_mem : ∀ (r : List Int) (x : Int), minI x r ∈ x :: r ∧ ∀ y ∈ x :: r, minI x r ≤ y
  | [], x => ⟨by simp [minI], by simp [minI]⟩
  | z :: r, x => by
    have := minI_mem r (if z < x then z else x)
    unfold minI
    by_cases hz : z < x
    · rw [if_pos hz] at this ⊢
      refine ⟨List.mem_cons_of_mem _ this.1, fun y hy => ?_⟩
      have hm := this.2 z List.mem_cons_self
      rcases List.mem_cons.mp hy with rfl | hy
      · omega
      · exact this.2 y hy
    · rw [if_neg hz] at this ⊢
      refine ⟨?_, fun y hy => ?_⟩
      · rcases List.mem_cons.mp this.1 with h | h
        · rw [h]; exact List.mem_cons_self
        · exact List.mem_cons_of_mem _ (List.mem_cons_of_mem _ h)
      · have hm := this.2 x List.mem_cons_self
        rcases List.mem_cons.mp hy with rfl | hy
        · exact hm
        · rcases List.mem_cons.mp hy with rfl | hy
          · omega
          · exact this.2 y (List.mem_cons_of_mem _ hy)
theorem b1_max (hc : X.calm = true) : b1 X (.builtin "max") false .max := fun y pins s σ H vs us Q I r ⟨ρ, h, d, v, ev, hr, dr, f⟩ => by
  subst ev
  obtain ⟨r', e, f⟩ := finBO_plain f
  simp only [blt1] at e
  obtain ⟨gs, e1⟩ : ∃ gs, lstG h d = some gs := by
    cases q : lstG h d with
    | none => rw [q] at e; cases e
    | some g => exact ⟨g, rfl⟩
  rw [e1] at e
  have e2 := e
  dsimp only at e2
  split at e2
  · rename_i x bs e3
    cases e2
    obtain ⟨a, vs, rfl, q, g⟩ := lst_view hr dr e1
    rw [ints_of g e3] at q
    refine cr_max hc pins s σ H _ us Q I r ⟨a, x :: bs, rfl, .inl q, by simp, fun m h1 h2 => ?_⟩
    obtain ⟨m1, m2⟩ := maxI_mem bs x
    have : m = maxI x bs := Int.le_antisymm (m2 m h1) (h2 _ m1)
    rw [this]
    exact fin_int f hr
  · cases e2
theorem b1_min (hc : X.calm = true) : b1 X (.builtin "min") false .min := fun y pins s σ H vs us Q I r ⟨ρ, h, d, v, ev, hr, dr, f⟩ => by
  subst ev
  obtain ⟨r', e, f⟩ := finBO_plain f
  simp only [blt1] at e
  obtain ⟨gs, e1⟩ : ∃ gs, lstG h d = some gs := by
    cases q : lstG h d with
    | none => rw [q] at e; cases e
    | some g => exact ⟨g, rfl⟩
  rw [e1] at e
  have e2 := e
  dsimp only at e2
  split at e2
  · rename_i x bs e3
    cases e2
    obtain ⟨a, vs, rfl, q, g⟩ := lst_view hr dr e1
    rw [ints_of g e3] at q
    refine cr_min hc pins s σ H _ us Q I r ⟨a, x :: bs, rfl, .inl q, by simp, fun m h1 h2 => ?_⟩
    obtain ⟨m1, m2⟩ := minI_mem bs x
    have : m = minI x bs := Int.le_antisymm (h2 _ m1) (m2 m h1)
    rw [this]
    exact fin_int f hr
  · cases e2
/-- max, min of two ints -/
theorem pe_max2F (hK : X.K = K.K) (hc : X.calm = true) (hs1 : isStar a = false) (hs2 : isStar b = false) (ha : PE X a (tE K ξ Z E fa)) (hb : PE X b (tE K ξ Z E fb)) (hg : Gl X "max") (hm : X.mg "max" = none) :
    PE X (.Call (.Name "max" p) [a, b] [] pos) (tE K ξ Z E (bltF .max (cnsF fa (cnsF fb nilF)))) := by
  refine PE.imp (pe_callB (call_max2 hc) hg hm boot_max (pa_cons ha (pa_cons hb pa_nil (star_no hs2)) (star_no hs1)) (by decide) (by decide) (star_no hs1) (by rw [star_no hs2]; rfl)) fun σ H Q ⟨ρ, s, h, sr, hr, af⟩ => ?_
  have e : bltF .max (cnsF fa (cnsF fb nilF)) E s h = (fa E s h).onV fun d h => (fb E s h).onV fun e h => ov h (blt2 .max d e h) 33 := by
    unfold bltF cnsF nilF
    cases fa E s h <;> try rfl
    rename_i d h1
    simp only [Out.onV]
    cases fb E s h1 <;> rfl
  rw [e] at af
  refine ⟨ρ, s, h, sr, hr, After.mono af.bind fun x H1 ⟨ρ1, d, h1, x1, hr1, dr1, af1⟩ => ⟨ρ1, s, h1, sr.ext x1, hr1, After.mono af1.bind fun y H2 ⟨ρ2, e, h2, x2, hr2, dr2, af2⟩ => ?_⟩⟩
  have f := af2.ov
  simp only [blt2] at f
  split at f
  · cases int_dr dr1
    exact ⟨_, _, by rw [int_dr dr2], fin_int f hr2⟩
  · exact f.elim
theorem pe_min2F (hK : X.K = K.K) (hc : X.calm = true) (hs1 : isStar a = false) (hs2 : isStar b = false) (ha : PE X a (tE K ξ Z E fa)) (hb : PE X b (tE K ξ Z E fb)) (hg : Gl X "min") (hm : X.mg "min" = none) :
    PE X (.Call (.Name "min" p) [a, b] [] pos) (tE K ξ Z E (bltF .min (cnsF fa (cnsF fb nilF)))) := by
  refine PE.imp (pe_callB (call_min2 hc) hg hm boot_min (pa_cons ha (pa_cons hb pa_nil (star_no hs2)) (star_no hs1)) (by decide) (by decide) (star_no hs1) (by rw [star_no hs2]; rfl)) fun σ H Q ⟨ρ, s, h, sr, hr, af⟩ => ?_
  have e : bltF .min (cnsF fa (cnsF fb nilF)) E s h = (fa E s h).onV fun d h => (fb E s h).onV fun e h => ov h (blt2 .min d e h) 33 := by
    unfold bltF cnsF nilF
    cases fa E s h <;> try rfl
    rename_i d h1
    simp only [Out.onV]
    cases fb E s h1 <;> rfl
  rw [e] at af
  refine ⟨ρ, s, h, sr, hr, After.mono af.bind fun x H1 ⟨ρ1, d, h1, x1, hr1, dr1, af1⟩ => ⟨ρ1, s, h1, sr.ext x1, hr1, After.mono af1.bind fun y H2 ⟨ρ2, e, h2, x2, hr2, dr2, af2⟩ => ?_⟩⟩
  have f := af2.ov
  simp only [blt2] at f
  split at f
  · cases int_dr dr1
    exact ⟨_, _, by rw [int_dr dr2], fin_int f hr2⟩
  · exact f.elim
end
end Pv
set_option Elab.async false
set_option linter.all false
set_option maxRecDepth 100000
set_option maxHeartbeats 1000000
namespace Pv
open PySem L2 PySem.Spec PyProof.Rows
/-! ### calls of defs -/
def AfterC (K : Kx) (ξ : XRel) (ρ : List Addr) (H : L2.Hp) (Q : VK) (W : XK) : Out → Prop
  | .val d h => Fin K ρ h H Q d
  | .exc c ds _ h => ∀ cls dd ρ' H', Ext ρ H ρ' H' → HR K ρ' h H' → ξ H' ρ' c ds cls dd → W cls dd H'
  | _ => False
/-- a def's promise: what the evaluator says -/
def spOf (K : PySem.W.Frag) (ξ : Kx → XRel) (call : Nat → List D → Hp → Out) (i np : Nat) : Sp := fun vs H Q W => vs.length = np ∧ ∃ φ ρ h ds, HR ⟨K, φ, none⟩ ρ h H ∧ DRs ⟨K, φ, none⟩ H ρ ds vs ∧ AfterC ⟨K, φ, none⟩ (ξ ⟨K, φ, none⟩) ρ H Q W (call i ds h)
/-! ### room: one step of depth for each frame -/
structure RoomW (k : Nat) (A : Around) : Prop where
  free : A.handled = none
  far : A.depth + k + 32 < recursionLimit
  low : A.units + 5 * k + 300 < cLine
theorem RoomW.mono {j k : Nat} {A : Around} (r : RoomW k A) (h : j ≤ k) : RoomW j A := ⟨r.free, by have := r.far; omega, by have := r.low; omega⟩
theorem RoomW.two {k : Nat} {A : Around} (r : RoomW k A) : Room 2 A := ⟨r.free, by have := r.far; omega, by have := r.low; omega⟩
theorem RoomW.un {k : Nat} {A : Around} (r : RoomW k A) : A.units + 200 < cLine := by have := r.low; omega
theorem RoomW.frame {k : Nat} {A : Around} (r : RoomW (k + 1) A) (env : PySem.Env) : RoomW k (A.deeper env) :=
  ⟨r.free, by have h := r.far; show A.depth + 1 + k + 32 < recursionLimit; omega, by have h := r.low; show A.units + 3 + 5 * k + 300 < cLine; omega⟩
theorem RoomW.making {k : Nat} {A : Around} (r : RoomW (k + 1) A) (C : Addr) (us : List Value) : RoomW k (A.under (.builtin "type.__call__" ⟨.ref C :: us, []⟩)) :=
  ⟨r.free, by have h := r.far; rw [make_depth]; omega, by have h := r.low; rw [make_units]; omega⟩
theorem room_wide {k : Nat} {A : Around} (r : Room (k / 3 + 12) A) : RoomW k A := ⟨r.hd, by have h := r.dp; omega, by have h := r.un; omega⟩
/-- a def's promise wherever there is room -/
structure FnW (P : Program) (w : World) (K : PySem.W.Frag) (mg : PySem.Str → Option Value) (base : Heap) (CX : CXT) (k : Nat) (f : Addr) (fd : FuncData) (ps : List PySem.Str) (sp : Sp) : Prop where
  len : ∀ vs H Q W, sp vs H Q W → vs.length = ps.length
  run : ∀ (A : Around) (outer : List PySem.Env) (s : Shared) (H : L2.Hp) (args : Args) (us : List Value) (vs : List V) (Q : VK) (W : XK), RoomW k A → Env0 P w K mg base A outer s H → BindsTo s fd args (ps.zip us) → Vals vs us → sp vs H Q W →
    codeAny (model P w) A (.call (.ref f) args) (CR CX outer P w H s Q W) s
theorem FnW.mono {P : Program} {w : World} {K : PySem.W.Frag} {mg : PySem.Str → Option Value} {base : Heap} {CX : CXT} {j k : Nat} {f : Addr} {fd : FuncData} {ps : List PySem.Str} {sp : Sp} (F : FnW P w K mg base CX j f fd ps sp) (h : j ≤ k) : FnW P w K mg base CX k f fd ps sp :=
  ⟨F.len, fun A o s H as us vs Q W r => F.run A o s H as us vs Q W (r.mono h)⟩
theorem FnW.narrow {P : Program} {w : World} {K : PySem.W.Frag} {mg : PySem.Str → Option Value} {base : Heap} {CX : CXT} {k : Nat} {f : Addr} {fd : FuncData} {ps : List PySem.Str} {sp : Sp} (F : FnW P w K mg base CX k f fd ps sp) : FnOk P w K mg base CX (k / 3 + 12) f fd ps sp :=
  ⟨F.len, fun A o s H as us vs Q W r => F.run A o s H as us vs Q W (room_wide r)⟩
structure Callee (P : Program) (w : World) (K : PySem.W.Frag) (mg : PySem.Str → Option Value) (base : Heap) (ξ : Kx → XRel) (E : Env) (k : Nat) (x : PySem.Str) (i : Nat) (f : Addr) (fd : FuncData) (ps : List PySem.Str) : Prop where
  at_ : mg x = some (.ref f)
  keep : PySem.W.keepIn K (.ref f) = true
  binds : Binds K fd ps []
  ok : FnW P w K mg base (L2.CX P w) k f fd ps (spOf K ξ E.call i ps.length)
  len : ∀ ds h, (∃ n, E.call i ds h = .bad n) ∨ ds.length = ps.length
section
variable {X : Cx} {K : Kx} {ξ : Kx → XRel} {Z : WX} {E : Env} {a b c e : Expr} {es : List Expr} {fa fb fc fr : F} {p pos : Pos} {k i : Nat} {x : PySem.Str} {f : Addr} {fd : FuncData} {ps : List PySem.Str}
theorem after_call {ρ : List Addr} {H : L2.Hp} {σ : L2.St} {Q : VK} {o : Out} {s : St} {K : Kx} {ξ : XRel} (af : After K ξ Z ρ H σ Q (back s o)) : AfterC K ξ ρ H Q (WE Z σ) o := by
  cases o <;> first | exact af.elim | exact af
theorem code_methD {pins : List (Addr × Obj)} {σ : L2.St} {H : L2.Hp} {s : Shared} {Q : VK} {f : Addr} {fd : FuncData} {ps : List PySem.Str} {sp : Sp} (tk : Takes X Z) (hr : RoomW k X.A) (bn : Binds X.K fd ps []) (F : FnW X.prog X.w X.K X.mg X.base (L2.CX X.prog X.w) k f fd ps sp)
    {us : List Value} {vs : List V} (I : Inv X pins σ H s) (r : Vals vs us) (q : sp vs H Q (WE Z σ)) : codeAny (model X.prog X.w) X.A (.call (.ref f) ⟨us, []⟩) (fun r s' => match r with | .ok (.ret v) => EP X pins σ Q v s' | .ok _ => False | .error e => X.xe e s') s := by
  have hl : (us ++ []).length = ps.length := by
    rw [List.append_nil, ← r.length]
    exact F.len _ _ _ _ q
  have bd := bn s us I.kIn hl
  rw [List.append_nil] at bd
  refine codeAny_mono (F.run X.A X.stack s H ⟨us, []⟩ us vs Q (WE Z σ) hr I.env0 bd r q) fun r s' z => ?_
  cases r with
  | error e => exact passAt tk σ pins H s e s' I z
  | ok fl =>
    cases fl with
    | ret u => exact I.after z
    | _ => exact False.elim z
theorem run_methD {pins : List (Addr × Obj)} {σ : L2.St} {H : L2.Hp} {s : Shared} {Q : VK} {f : Addr} {fd : FuncData} {ps : List PySem.Str} {sp : Sp} (tk : Takes X Z) (hr : RoomW k X.A) (bn : Binds X.K fd ps []) (F : FnW X.prog X.w X.K X.mg X.base (L2.CX X.prog X.w) k f fd ps sp)
    {us : List Value} {vs : List V} (I : Inv X pins σ H s) (r : Vals vs us) (q : sp vs H Q (WE Z σ)) : wpAny (model X.prog X.w) X.A (call (.ref f) us) (EP X pins σ Q) X.xe s :=
  wpAny_call (codeAny_mono (code_methD tk hr bn F I r q) fun r s' z => by
    cases r with
    | error e => exact z
    | ok fl => cases fl <;> exact z)
/-- f(..) -/
def tCallW (sp : Sp) (W : L2.St → XK) (t : TA) : TE := fun σ H Q => t σ H fun vs H1 => sp vs H1 Q (W σ)
theorem pe_callW {sp : Sp} {t : TA} (tk : Takes X Z) (F : FnW X.prog X.w X.K X.mg X.base (L2.CX X.prog X.w) k f fd ps sp) (hr : RoomW k X.A) (hg : Gl X x) (hm : X.mg x = some (.ref f)) (hk : PySem.W.keepIn X.K (.ref f) = true) (bn : Binds X.K fd ps []) (ha : PA X (e :: es) t)
    (hdb : (x == ("__debug__" : PySem.Str)) = false) (he : starEach (e :: es) X.env = (false, eval e X.env) :: starEach es X.env) (hpl : (backTo pos (starEach es X.env)).any (·.1) = false) : PE X (.Call (.Name x p) (e :: es) [] pos) (tCallW sp (fun σ => WE Z σ) t) :=
  ⟨fun pins s σ H Q I q => wpAny_Call_Name_kw (ld_glob I hg hm (PySem.W.callWith_K (h₀ := X.base) I.ok.mod.kin hk (thn (ha.run pos pins s σ H _ I q) fun us s1 ⟨vs, H1, I1, r, q1⟩ => ⟨I1.kIn, run_methD tk hr bn F I1 r q1⟩) he hpl) hdb)⟩
theorem pe_callW0 {sp : Sp} (tk : Takes X Z) (F : FnW X.prog X.w X.K X.mg X.base (L2.CX X.prog X.w) k f fd ps sp) (hr : RoomW k X.A) (hg : Gl X x) (hm : X.mg x = some (.ref f)) (hk : PySem.W.keepIn X.K (.ref f) = true) (bn : Binds X.K fd ps [])
    (hdb : (x == ("__debug__" : PySem.Str)) = false) : PE X (.Call (.Name x p) [] [] pos) (tCallW sp (fun σ => WE Z σ) tNil) :=
  ⟨fun pins s σ H Q I q => wpAny_Call_Name_kw (ld_glob I hg hm (PySem.W.callWith_K0 I.kIn hk (run_methD (us := []) tk hr bn F I .nil q)) hdb)⟩
theorem pe_appF (C : Callee X.prog X.w X.K X.mg X.base ξ E k x i f fd ps) (hK : X.K = K.K) (hx : K.y.xn = none) (hr : RoomW k X.A) (tk : Takes X Z) (hg : Gl X x) (hs : isStar e = false) (ha : PA X (e :: es) (tL K (ξ K) Z E fa)) (hdb : (x == ("__debug__" : PySem.Str)) = false)
    (hpl : (backTo pos (starEach es X.env)).any (·.1) = false) : PE X (.Call (.Name x p) (e :: es) [] pos) (tE K (ξ K) Z E (appF i fa)) := by
  obtain ⟨kk, φ, xn⟩ := K; dsimp only at hK hx; subst hK; subst hx
  refine PE.imp (pe_callW tk C.ok hr hg C.at_ C.keep C.binds ha hdb (star_no hs) hpl) fun σ H Q ⟨ρ, s, h, sr, hr', af⟩ => ?_
  refine ⟨ρ, s, h, sr, hr', AfterL.mono (AfterL.bind af) fun vs H1 ⟨ρ1, ds, h1, x1, hr1, dr1, af1⟩ => ?_⟩
  have ac := after_call af1
  refine ⟨?_, φ, ρ1, h1, ds, hr1, dr1, ac⟩
  rcases C.len ds h1 with ⟨n, z⟩ | z
  · rw [z] at ac; exact ac.elim
  · rw [← dr1.length]; exact z
theorem pe_appF0 (C : Callee X.prog X.w X.K X.mg X.base ξ E k x i f fd ps) (hK : X.K = K.K) (hx : K.y.xn = none) (hr : RoomW k X.A) (hZ : ∀ cls d σ σ' H, Z cls d σ H → Z cls d σ' H) (tk : Takes X Z) (hg : Gl X x) (hdb : (x == ("__debug__" : PySem.Str)) = false) :
    PE X (.Call (.Name x p) [] [] pos) (tE K (ξ K) Z E (appF i nilF)) := by
  obtain ⟨kk, φ, xn⟩ := K; dsimp only at hK hx; subst hK; subst hx
  refine PE.imp (pe_callW0 tk C.ok hr hg C.at_ C.keep C.binds hdb) fun σ H Q ⟨ρ, s, h, sr, hr', af⟩ => ?_
  have af : After ⟨X.K, φ, none⟩ (ξ ⟨X.K, φ, none⟩) Z ρ H σ Q (back s (E.call i [] h)) := af
  have ac := after_call af
  refine ⟨?_, φ, ρ, h, [], hr', DRs.nil, ?_⟩
  · rcases C.len [] h with ⟨n, z⟩ | z
    · rw [z] at ac; exact ac.elim
    · exact z
  · exact ac
/-! ### lists' methods -/
theorem back_one {e : Expr} {env : PySem.Env} {cp : Pos} (hs : isStar e = false) : starEach [e] env = [(false, eval e env)] := star_no hs
theorem recv_ref {h : Hp} {m : Ms} (hm : m = .append ∨ m = .extend ∨ m = .pop ∨ m = .popi) {d : D} (e : recv m h d = true) : ∃ i ds, d = .ref i ∧ h[i]? = some (.lst ds) := by
    unfold recv at e
    rcases hm with rfl | rfl | rfl | rfl
    all_goals
      dsimp only at e
      split at e
      · split at e
        · rename_i q; exact ⟨_, _, rfl, q⟩
        · cases e
      · cases e
theorem recv_lst {K : Kx} {ρ : List Addr} {h : Hp} {H : L2.Hp} {m : Ms} (hm : m = .append ∨ m = .extend ∨ m = .pop ∨ m = .popi) {d : D} {v : V} (hr : HR K ρ h H) (dr : DR K H ρ d v) (e : recv m h d = true) : tyV K.K "list" v H := by
  obtain ⟨i, ds, rfl, q⟩ := recv_ref hm e
  obtain ⟨a, ha, rfl⟩ := ref_dr dr
  obtain ⟨vs, hv, _⟩ := hr.lst ha q
  exact .inl ⟨rfl, vs, .inl (.inl hv)⟩
theorem after_if {K : Kx} {ξ : XRel} {ρ : List Addr} {H : L2.Hp} {σ : L2.St} {Q : VK} {b : Bool} {o : Out} {n : Nat} (af : After K ξ Z ρ H σ Q (if b = true then o else .bad n)) : b = true ∧ After K ξ Z ρ H σ Q o := by
  cases b with
  | true => exact ⟨rfl, by simpa using af⟩
  | false => rw [if_neg (by decide)] at af; exact af.elim
theorem after_vo {K : Kx} {ξ : XRel} {ρ : List Addr} {H : L2.Hp} {σ : L2.St} {Q : VK} {o : Option (D × Hp)} {n : Nat} (af : After K ξ Z ρ H σ Q (vo o n)) : ∃ d h, o = some (d, h) ∧ Fin K ρ h H Q d := by
  cases o with
  | none => exact af.elim
  | some r => exact ⟨r.1, r.2, rfl, af⟩
/-- a box is written -/
theorem fin_write {K : Kx} {ρ : List Addr} {h : Hp} {H : L2.Hp} {Q : VK} {i : Nat} {a : Addr} {zs : List D} {vs us : List V} {d : D} {v : V} (hr : HR K ρ h H) (ha : ρ[i]? = some a) (hv : H a = some (.lst vs))
    (f : Fin K ρ (h.set i (.lst zs)) H Q d) (dz : DRs K H ρ zs us) (dd : DR K H ρ d v) : Q v (upd H a (.lst us)) := by
  have x : Ext ρ H ρ (upd H a (.lst us)) := Ext.write (List.mem_of_getElem? ha) hv id
  exact f v ρ _ x (hr.write ha ⟨us, upd_same, dz.ext x⟩) (dd.ext x)
theorem pe_appendF {K : Kx} {ξ : XRel} {ap cp : Pos} (hK : X.K = K.K) (hs : isStar e = false) (ha : PE X a (tE K ξ Z E fa)) (hb : PE X e (tE K ξ Z E fb)) (hbase : attributeBase a "append" X.env (eval a X.env) = eval a X.env) (hline : (ap.endLine == cp.line) = true) :
    PE X (.Call (.Attribute a "append" ap) [e] [] cp) (tE K ξ Z E (mtdF fa .append (cnsF fb nilF))) := by
  obtain ⟨kk, y⟩ := K; dsimp only at hK; subst hK
  refine PE.imp (pe_bm PySem.F.plainAttrs_list PySem.F.slot_list_append PySem.F.type_list_append mt_append ha (pa_cons hb pa_nil (star_no hs)) hbase (by rw [star_no hs]; rfl) hline (star_no hs) rfl) fun σ H Q ⟨ρ, s, h, sr, hr, af⟩ => ?_
  refine ⟨ρ, s, h, sr, hr, After.mono af.bind fun x H1 ⟨ρ1, d, h1, x1, hr1, dr1, af1⟩ => ?_⟩
  obtain ⟨rc, af1⟩ := after_if af1
  refine ⟨recv_lst (.inl rfl) hr1 dr1 rc, ?_⟩
  obtain ⟨i, ds0, rfl, _⟩ := recv_ref (.inl rfl) rc
  have e1 : ((cnsF fb nilF) E s h1).onL (fun ds h => vo (mtdV .append (.ref i) ds h) 53) = (fb E s h1).onV fun z h => vo (mtdV .append (.ref i) [z] h) 53 := by
    unfold cnsF nilF
    cases fb E s h1 <;> rfl
  rw [e1] at af1
  refine ⟨ρ1, s, h1, sr.ext x1, hr1, After.mono af1.bind fun z H2 ⟨ρ2, g, h2, x2, hr2, dr2, af2⟩ => ?_⟩
  obtain ⟨r, h3, e2, f⟩ := after_vo af2
  simp only [mtdV, appV] at e2
  split at e2
  · rename_i xs q
    split at e2
    · rename_i z'
      cases e2
      obtain ⟨p, hp, rfl⟩ := ref_dr (dr1.ext x2)
      obtain ⟨vs, hv, dv⟩ := hr2.lst hp q
      refine ⟨p, vs, z, rfl, rfl, hv, by rw [← dv.length]; have := szOk_le z'; rw [sizeLine_eq]; omega, ?_⟩
      exact fin_write hr2 hp hv f (dv.append (DRs.one dr2)) (by unfold DR GR; rfl)
    · cases e2
  · cases e2
theorem mt_extR : MtM X "list.extend" fun x vs H Q => ∃ l b xs zs, x = .ref l ∧ vs = [.ref b] ∧ H l = some (.lst xs) ∧ Rd H b (.lst zs) ∧ xs.length + zs.length ≤ sizeLine ∧ Q .non (L2.upd H l (.lst (xs ++ zs))) := by
  intro pins s σ H x vs v us Q I rx rv h
  obtain ⟨l, b, xs, zs, rfl, rfl, h1, h2, hz, q⟩ := h
  cases rx
  obtain ⟨u, rfl, ru⟩ := rv.one
  cases ru
  obtain ⟨z, as, n, r, hl, e⟩ := I.lstM h1
  obtain ⟨z2, bs, n2, r2, hl2, e2⟩ := rd_get I h2
  have l1 : as.toArray.size + bs.toArray.size ≤ sizeLine := by rw [List.size_toArray, List.size_toArray, ← hl, ← hl2]; exact hz
  have l2 : ¬ (!as.toArray.isEmpty && Builtin.List.listTooLong (as.toArray.size + bs.toArray.size)) = true := by rw [notLongL l1, Bool.and_false]; decide
  refine call_meets F.slot_list_extend ⟨_, e, rfl⟩ F.entry_list_extend (F.args_list_extend_2 _ _)
    (AutoSeq1.list_extend_list_list_0 l as.toArray n b bs.toArray n2 l2 (by rw [List.size_toArray]; omega) (by omega)) ⟨e, e2, ?_⟩
  exact ⟨.non, _, I.lset (its' := as ++ bs) h1 e (by simp) (r.append r2) (by rw [List.length_append]; exact hz), rfl, q⟩
theorem pe_extendF {K : Kx} {ξ : XRel} {ap cp : Pos} (hK : X.K = K.K) (hs : isStar e = false) (ha : PE X a (tE K ξ Z E fa)) (hb : PE X e (tE K ξ Z E fb)) (hbase : attributeBase a "extend" X.env (eval a X.env) = eval a X.env) (hline : (ap.endLine == cp.line) = true) :
    PE X (.Call (.Attribute a "extend" ap) [e] [] cp) (tE K ξ Z E (mtdF fa .extend (cnsF fb nilF))) := by
  obtain ⟨kk, y⟩ := K; dsimp only at hK; subst hK
  refine PE.imp (pe_bm PySem.F.plainAttrs_list PySem.F.slot_list_extend PySem.F.type_list_extend mt_extR ha (pa_cons hb pa_nil (star_no hs)) hbase (by rw [star_no hs]; rfl) hline (star_no hs) rfl) fun σ H Q ⟨ρ, s, h, sr, hr, af⟩ => ?_
  refine ⟨ρ, s, h, sr, hr, After.mono af.bind fun x H1 ⟨ρ1, d, h1, x1, hr1, dr1, af1⟩ => ?_⟩
  obtain ⟨rc, af1⟩ := after_if af1
  refine ⟨recv_lst (.inr (.inl rfl)) hr1 dr1 rc, ?_⟩
  obtain ⟨i, ds0, rfl, _⟩ := recv_ref (.inr (.inl rfl)) rc
  have e1 : ((cnsF fb nilF) E s h1).onL (fun ds h => vo (mtdV .extend (.ref i) ds h) 53) = (fb E s h1).onV fun z h => vo (mtdV .extend (.ref i) [z] h) 53 := by
    unfold cnsF nilF
    cases fb E s h1 <;> rfl
  rw [e1] at af1
  refine ⟨ρ1, s, h1, sr.ext x1, hr1, After.mono af1.bind fun z H2 ⟨ρ2, g, h2, x2, hr2, dr2, af2⟩ => ?_⟩
  obtain ⟨r, h3, e2, f⟩ := after_vo af2
  simp only [mtdV, extV] at e2
  split at e2
  · rename_i xs ys q k
    split at e2
    · rename_i z'
      cases e2
      obtain ⟨p, hp, rfl⟩ := ref_dr (dr1.ext x2)
      obtain ⟨vs, hv, dv⟩ := hr2.lst hp q
      obtain ⟨us, ⟨b, rfl, kb⟩, dy⟩ := kind_view hr2 dr2 k
      rw [if_pos rfl] at kb
      refine ⟨p, b, vs, us, rfl, rfl, hv, kb, by rw [← dv.length, ← dy.length]; exact szOk_line z', ?_⟩
      exact fin_write hr2 hp hv f (dv.append dy) (by unfold DR GR; rfl)
    · cases e2
  · cases e2
theorem DRs.dropLast {K : Kx} {ρ : List Addr} {H : L2.Hp} {ds : List D} {vs : List V} (d : DRs K H ρ ds vs) : DRs K H ρ ds.dropLast vs.dropLast := by
  rw [List.dropLast_eq_take, List.dropLast_eq_take, ← d.length]
  exact d.take _
theorem pe_popF {K : Kx} {ξ : XRel} {ap cp : Pos} (hK : X.K = K.K) (ha : PE X a (tE K ξ Z E fa)) (hbase : attributeBase a "pop" X.env (eval a X.env) = eval a X.env) (hline : (ap.endLine == cp.line) = true) :
    PE X (.Call (.Attribute a "pop" ap) [] [] cp) (tE K ξ Z E (mtdF fa .pop nilF)) := by
  obtain ⟨kk, y⟩ := K; dsimp only at hK; subst hK
  refine PE.imp (pe_bm0 PySem.F.plainAttrs_list PySem.F.slot_list_pop PySem.F.type_list_pop mt_pop ha hbase hline) fun σ H Q ⟨ρ, s, h, sr, hr, af⟩ => ?_
  refine ⟨ρ, s, h, sr, hr, After.mono af.bind fun x H1 ⟨ρ1, d, h1, x1, hr1, dr1, af1⟩ => ?_⟩
  obtain ⟨rc, af1⟩ := after_if af1
  refine ⟨recv_lst (.inr (.inr (.inl rfl))) hr1 dr1 rc, ?_⟩
  obtain ⟨i, ds0, rfl, _⟩ := recv_ref (.inr (.inr (.inl rfl))) rc
  obtain ⟨r, h3, e2, f⟩ := after_vo (show After _ ξ Z ρ1 H1 σ Q (vo (mtdV .pop (.ref i) [] h1) 53) from af1)
  simp only [mtdV, popV] at e2
  split at e2
  · rename_i xs q
    split at e2
    · rename_i g q2
      cases e2
      obtain ⟨p, hp, rfl⟩ := ref_dr dr1
      obtain ⟨vs, hv, dv⟩ := hr1.lst hp q
      obtain ⟨y', h1', h2'⟩ := dv.get q2
      rw [dv.length] at h1'
      exact ⟨p, vs, y', rfl, rfl, hv, h1', fin_write hr1 hp hv f dv.dropLast h2'⟩
    · cases e2
  · cases e2
theorem DRs.erase {K : Kx} {ρ : List Addr} {H : L2.Hp} : ∀ {ds : List D} {vs : List V} (i : Nat), DRs K H ρ ds vs → DRs K H ρ (ds.eraseIdx i) (vs.eraseIdx i)
  | [], vs, i, d => by cases d.inv0; exact DRs.nil
  | x :: r, vs, 0, d => by
    obtain ⟨v, t, rfl, _, d2⟩ := d.inv
    exact d2
  | x :: r, vs, i + 1, d => by
    obtain ⟨v, t, rfl, d1, d2⟩ := d.inv
    exact DRs.cons d1 (DRs.erase i d2)
theorem pe_popiF {K : Kx} {ξ : XRel} {ap cp : Pos} (hK : X.K = K.K) (hs : isStar e = false) (ha : PE X a (tE K ξ Z E fa)) (hb : PE X e (tE K ξ Z E fb)) (hbase : attributeBase a "pop" X.env (eval a X.env) = eval a X.env) (hline : (ap.endLine == cp.line) = true) :
    PE X (.Call (.Attribute a "pop" ap) [e] [] cp) (tE K ξ Z E (mtdF fa .popi (cnsF fb nilF))) := by
  obtain ⟨kk, y⟩ := K; dsimp only at hK; subst hK
  refine PE.imp (pe_bm PySem.F.plainAttrs_list PySem.F.slot_list_pop PySem.F.type_list_pop mt_popAt ha (pa_cons hb pa_nil (star_no hs)) hbase (by rw [star_no hs]; rfl) hline (star_no hs) rfl) fun σ H Q ⟨ρ, s, h, sr, hr, af⟩ => ?_
  refine ⟨ρ, s, h, sr, hr, After.mono af.bind fun x H1 ⟨ρ1, d, h1, x1, hr1, dr1, af1⟩ => ?_⟩
  obtain ⟨rc, af1⟩ := after_if af1
  refine ⟨recv_lst (.inr (.inr (.inr rfl))) hr1 dr1 rc, ?_⟩
  obtain ⟨i, ds0, rfl, _⟩ := recv_ref (.inr (.inr (.inr rfl))) rc
  have e1 : ((cnsF fb nilF) E s h1).onL (fun ds h => vo (mtdV .popi (.ref i) ds h) 53) = (fb E s h1).onV fun z h => vo (mtdV .popi (.ref i) [z] h) 53 := by
    unfold cnsF nilF
    cases fb E s h1 <;> rfl
  rw [e1] at af1
  refine ⟨ρ1, s, h1, sr.ext x1, hr1, After.mono af1.bind fun z H2 ⟨ρ2, g, h2, x2, hr2, dr2, af2⟩ => ?_⟩
  obtain ⟨r, h3, e2, f⟩ := after_vo af2
  simp only [mtdV, popiV] at e2
  split at e2
  · rename_i a' j ea eg
    injection ea with ea
    subst ea
    split at e2
    · rename_i xs q
      split at e2
      · rename_i z'
        rw [Bool.and_eq_true] at z'
        have z1 := of_decide_eq_true z'.1
        have z2 : xs.length < 1000000 := by have := z'.2; simp [Nat.blt] at this; omega
        split at e2
        · rename_i dd q2
          cases e2
          obtain ⟨p, hp, rfl⟩ := ref_dr (dr1.ext x2)
          obtain ⟨vs, hv, dv⟩ := hr2.lst hp q
          injection eg with eg _
          subst eg
          cases int_dr dr2
          obtain ⟨v, h4, d4⟩ := dv.get q2
          have lt : j.toNat < vs.length := (List.getElem?_eq_some_iff.mp h4).1
          have ll := dv.length
          refine ⟨p, vs, j, j.toNat, v, rfl, rfl, hv, by omega, by omega, ?_, h4, fin_write hr2 hp hv f (dv.erase _) d4⟩
          unfold seqIndex?
          have h1 : ¬ j < 0 := by omega
          have h2 : j < (vs.length : Int) := by omega
          simp [h1, h2]
        · cases e2
      · cases e2
    · cases e2
  · cases e2
end
end Pv
set_option Elab.async false
set_option linter.all false
set_option maxRecDepth 100000
set_option maxHeartbeats 1000000
namespace Pv
open PySem L2 PySem.Spec PyProof.Rows
section
variable (K : Kx) (ξ : XRel) (Z : WX)
/-- behind a statement -/
def AfterS (ρ : List Addr) (H : L2.Hp) (Dn : L2.Ends) : Out → Prop
  | .nxt s h => ∀ σ' ρ' H', Ext ρ H ρ' H' → HR K ρ' h H' → SR K H' ρ' s σ' → Dn.nx σ' H'
  | .brk s h => ∀ σ' ρ' H', Ext ρ H ρ' H' → HR K ρ' h H' → SR K H' ρ' s σ' → Dn.bk σ' H'
  | .cnt s h => ∀ σ' ρ' H', Ext ρ H ρ' H' → HR K ρ' h H' → SR K H' ρ' s σ' → Dn.ct σ' H'
  | .ret d h => Fin K ρ h H Dn.rt d
  | .exc c ds s h => ∀ cls dd σ' ρ' H', Ext ρ H ρ' H' → HR K ρ' h H' → SR K H' ρ' s σ' → ξ H' ρ' c ds cls dd → Z cls dd σ' H'
  | _ => False
def tS (E : Env) (f : F) : TS := fun Dn σ H => ∃ ρ s h, SR K H ρ s σ ∧ HR K ρ h H ∧ AfterS K ξ Z ρ H Dn (f E s h)
/-- behind a target -/
def AfterG (ρ : List Addr) (H : L2.Hp) (Q : L2.St → L2.Hp → Prop) : Out → Prop
  | .nxt s h => ∀ σ' ρ' H', Ext ρ H ρ' H' → HR K ρ' h H' → SR K H' ρ' s σ' → Q σ' H'
  | _ => False
def tG (E : Env) (t : TF) : TG := fun v σ H Q => ∃ ρ s h d, SR K H ρ s σ ∧ HR K ρ h H ∧ DR K H ρ d v ∧ AfterG K ρ H Q (t d E s h)
def tGs (E : Env) (t : List D → F) : TGs := fun vs σ H Q => ∃ ρ s h ds, SR K H ρ s σ ∧ HR K ρ h H ∧ DRs K H ρ ds vs ∧ AfterG K ρ H Q (t ds E s h)
end
section
variable {K : Kx} {ξ : XRel} {Z : WX} {ρ ρ' : List Addr} {H H' : L2.Hp} {σ : L2.St} {h : Hp} {o : Out} {E : Env} {s : St}
theorem AfterS.ext {Dn : L2.Ends} (f : AfterS K ξ Z ρ H Dn o) (x : Ext ρ H ρ' H') : AfterS K ξ Z ρ' H' Dn o := by
  cases o <;> first | exact False.elim f | exact fun σ' ρ2 H2 e hr sr => f σ' ρ2 H2 (x.trans e) hr sr | exact Fin.ext f x | exact fun c d σ' ρ2 H2 e hr sr q => f c d σ' ρ2 H2 (x.trans e) hr sr q
theorem AfterG.ext {Q : L2.St → L2.Hp → Prop} (f : AfterG K ρ H Q o) (x : Ext ρ H ρ' H') : AfterG K ρ' H' Q o := by
  cases o <;> first | exact False.elim f | exact fun σ' ρ2 H2 e hr sr => f σ' ρ2 H2 (x.trans e) hr sr
/-- an expression in a statement -/
theorem AfterS.bindV {Dn : L2.Ends} {k : D → Hp → Out} (sr : SR K H ρ s σ) (f : AfterS K ξ Z ρ H Dn ((back s o).onV k)) :
    After K ξ Z ρ H σ (fun v H1 => ∃ ρ1 d h1, Ext ρ H ρ1 H1 ∧ HR K ρ1 h1 H1 ∧ DR K H1 ρ1 d v ∧ AfterS K ξ Z ρ1 H1 Dn (k d h1)) o := by
  cases o <;> first | exact False.elim f | skip
  · exact fun v ρ1 H1 e hr dr => ⟨ρ1, _, _, e, hr, dr, AfterS.ext f e⟩
  · exact fun cls dd ρ' H' x hr q => f cls dd σ ρ' H' x hr (sr.ext x) q
theorem AfterS.bindL {Dn : L2.Ends} {k : List D → Hp → Out} (sr : SR K H ρ s σ) (f : AfterS K ξ Z ρ H Dn ((back s o).onL k)) :
    AfterL K ξ Z ρ H σ (fun v H1 => ∃ ρ1 d h1, Ext ρ H ρ1 H1 ∧ HR K ρ1 h1 H1 ∧ DRs K H1 ρ1 d v ∧ AfterS K ξ Z ρ1 H1 Dn (k d h1)) o := by
  cases o <;> first | exact False.elim f | skip
  · exact fun v ρ1 H1 e hr dr => ⟨ρ1, _, _, e, hr, dr, AfterS.ext f e⟩
  · exact fun cls dd ρ' H' x hr q => f cls dd σ ρ' H' x hr (sr.ext x) q
/-- what a target leaves: never a jump -/
def Tame (o : Out) : Prop := (∀ s h, o ≠ .brk s h ∧ o ≠ .cnt s h) ∧ ∀ d h, o ≠ .ret d h
theorem Tame.bindG {Dn : L2.Ends} (f : AfterS K ξ Z ρ H Dn (calm o)) (t : Tame o) : AfterG K ρ H Dn.nx o := by
  cases o <;> first | exact False.elim f | exact f | (exact absurd rfl (t.1 _ _).1) | (exact absurd rfl (t.1 _ _).2) | (exact absurd rfl (t.2 _ _))
end
section
variable {X : Cx} {K : Kx} {ξ : XRel} {Z : WX} {E : Env} {a b c e : Expr} {es : List Expr} {fa fb fc fr : F} {p pos : Pos} {st : Stmt} {rest : List Stmt}
/-! ### small statements, blocks -/
theorem pss_nilF : PSs X [] (tS K ξ Z E skpF) := PSs.imp pss_nil fun Dn σ H ⟨ρ, s, h, sr, hr, af⟩ => af σ ρ H Ext.refl hr sr
theorem pss_consF (h1 : PS X st (tS K ξ Z E fa)) (h2 : PSs X rest (tS K ξ Z E fb)) : PSs X (st :: rest) (tS K ξ Z E (seqF fa fb)) :=
  PSs.imp (pss_cons h1 h2) fun Dn σ H ⟨ρ, s, h, sr, hr, af⟩ => by
    refine ⟨ρ, s, h, sr, hr, ?_⟩
    unfold seqF at af
    generalize fa E s h = o at af
    cases o <;> first | exact False.elim af | exact af | skip
    exact fun σ' ρ' H' x hr' sr' => ⟨ρ', _, _, sr', hr', AfterS.ext af x⟩
theorem ps_passF : PS X (.Pass pos) (tS K ξ Z E skpF) := PS.imp ps_pass fun Dn σ H ⟨ρ, s, h, sr, hr, af⟩ => af σ ρ H Ext.refl hr sr
theorem ps_brkF : PS X (.Break pos) (tS K ξ Z E fun _ s h => .brk s h) := PS.imp ps_break fun Dn σ H ⟨ρ, s, h, sr, hr, af⟩ => af σ ρ H Ext.refl hr sr
theorem ps_cntF : PS X (.Continue pos) (tS K ξ Z E fun _ s h => .cnt s h) := PS.imp ps_continue fun Dn σ H ⟨ρ, s, h, sr, hr, af⟩ => af σ ρ H Ext.refl hr sr
def isComp : Expr → Bool
  | .ListComp .. => true
  | .SetComp .. => true
  | .DictComp .. => true
  | _ => false
theorem swaps_no {e : Expr} {t : Option Expr} {n : Nat} {env : PySem.Env} (h : isComp e = false) : swapsWith e t n env = pure false := by
  cases e <;> first | rfl | (cases h; done)
theorem ps_xprF (hs : isComp a = false) (ha : PE X a (tE K ξ Z E fa)) : PS X (.Expr a pos) (tS K ξ Z E (xprF fa)) :=
  PS.imp (ps_expr ha (swaps_no hs)) fun Dn σ H ⟨ρ, s, h, sr, hr, af⟩ =>
    ⟨ρ, s, h, sr, hr, After.mono (AfterS.bindV sr af) fun v H1 ⟨ρ1, d, h1, x1, hr1, dr1, af1⟩ => af1 σ ρ1 H1 Ext.refl hr1 (sr.ext x1)⟩
theorem ps_retF (ha : PE X a (tE K ξ Z E fa)) : PS X (.Return (some a) pos) (tS K ξ Z E (retF fa)) :=
  PS.imp (ps_ret ha) fun Dn σ H ⟨ρ, s, h, sr, hr, af⟩ =>
    ⟨ρ, s, h, sr, hr, After.mono (AfterS.bindV sr af) fun v H1 ⟨ρ1, d, h1, x1, hr1, dr1, af1⟩ => Fin.here (show Fin K ρ1 h1 H1 Dn.rt d from af1) hr1 dr1⟩
theorem ps_retNF : PS X (.Return none pos) (tS K ξ Z E (retF (conF .non))) :=
  PS.imp ps_retN fun Dn σ H ⟨ρ, s, h, sr, hr, af⟩ => Fin.here (show Fin K ρ h H Dn.rt (.g .non) from af) hr (by unfold DR GR; rfl)
theorem ps_iffF {ta tb : List Stmt} (hc : PT X c (tT K ξ Z E fc)) (ha : PSs X ta (tS K ξ Z E fa)) (hb : PSs X tb (tS K ξ Z E fb)) : PS X (.If c ta tb pos) (tS K ξ Z E (iffF fc fa fb)) :=
  PS.imp (ps_if hc ha hb) fun Dn σ H ⟨ρ, s, h, sr, hr, af⟩ => by
    refine ⟨ρ, s, h, sr, hr, ?_⟩
    unfold iffF at af
    generalize fc E s h = o at af
    cases o <;> first | exact False.elim af | skip
    · rename_i d h1
      have af : AfterS K ξ Z ρ H Dn (match tru h1 d with | some true => fa E s h1 | some false => fb E s h1 | none => .bad 137) := af
      cases e : tru h1 d with
      | none => rw [e] at af; exact False.elim af
      | some k =>
        rw [e] at af
        refine ⟨k, e, fun ρ' H' x hr' => ?_⟩
        cases k with
        | true => rw [if_pos rfl]; exact ⟨ρ', s, h1, sr.ext x, hr', AfterS.ext af x⟩
        | false => rw [if_neg (by decide)]; exact ⟨ρ', s, h1, sr.ext x, hr', AfterS.ext af x⟩
    · exact fun cls dd ρ' H' x hr' q => af cls dd σ ρ' H' x hr' (sr.ext x) q
/-! ### while -/
theorem ps_whlF {body : List Stmt} (hp : PassesOwn (model X.prog X.w) X.A X.env X.xe) (hc : PT X c (tT K ξ Z E fc)) (hb : PSs X body (tS K ξ Z E fb)) : PS X (.While c body [] pos) (tS K ξ Z E (whlF fc fb)) :=
  PS.imp (ps_while hp hc hb) fun Dn σ H ⟨ρ, s, h, sr, hr, af⟩ => by
    refine ⟨fun n σ H => ∃ ρ s h, SR K H ρ s σ ∧ HR K ρ h H ∧ AfterS K ξ Z ρ H Dn (whlLoop fc fb E n s h), ⟨_, ρ, s, h, sr, hr, af⟩, ?_⟩
    rintro n σ H ⟨ρ, s, h, sr, hr, af⟩
    refine ⟨ρ, s, h, sr, hr, ?_⟩
    cases n with
    | zero => exact False.elim af
    | succ n =>
      unfold whlLoop at af
      generalize fc E s h = o at af
      cases o <;> first | exact False.elim af | skip
      · rename_i d h1
        replace af : AfterS K ξ Z ρ H Dn (match tru h1 d with
          | some true => (match fb E s h1 with | .nxt s h => whlLoop fc fb E n s h | .cnt s h => whlLoop fc fb E n s h | .brk s h => .nxt s h | o => o)
          | some false => .nxt s h1
          | none => .bad 139) := af
        cases e : tru h1 d with
        | none => rw [e] at af; exact False.elim af
        | some k =>
          rw [e] at af
          refine ⟨k, e, fun ρ' H' x hr' => ?_⟩
          cases k with
          | false => rw [if_neg (by decide)]; exact af σ ρ' H' x hr' (sr.ext x)
          | true =>
            rw [if_pos rfl]
            refine ⟨fun σ' H' => ∃ ρ s h, SR K H' ρ s σ' ∧ HR K ρ h H' ∧ AfterS K ξ Z ρ H' Dn (whlLoop fc fb E n s h), fun σ' H' q => ⟨n, Nat.lt_succ_self _, q⟩, ρ', s, h1, sr.ext x, hr', ?_⟩
            replace af := AfterS.ext af x
            generalize fb E s h1 = o at af
            cases o <;> first | exact False.elim af | exact af | skip
            · exact fun σ2 ρ2 H2 x2 hr2 sr2 => ⟨ρ2, _, _, sr2, hr2, AfterS.ext af x2⟩
            · exact fun σ2 ρ2 H2 x2 hr2 sr2 => ⟨ρ2, _, _, sr2, hr2, AfterS.ext af x2⟩
      · exact fun cls dd ρ' H' x hr' q => af cls dd σ ρ' H' x hr' (sr.ext x) q
/-! ### targets -/
theorem PG.imp {t : Expr} {g g' : TG} (h : PG X t g) (i : ∀ v σ H Q, g' v σ H Q → g v σ H Q) : PG X t g' := ⟨fun pins s σ H v u Q I r q => h.run pins s σ H v u Q I r (i v σ H Q q)⟩
theorem PGs.imp {t : List Expr} {g g' : TGs} (h : PGs X t g) (i : ∀ v σ H Q, g' v σ H Q → g v σ H Q) : PGs X t g' := ⟨fun pins s σ H v u Q I r q => h.run pins s σ H v u Q I r (i v σ H Q q)⟩
theorem pg_nameF {i : Nat} {x : PySem.Str} (hN : X.N.Nodup) (hi : X.N[i]? = some x) (hx : Loc X.env.scope x) (hf : X.fn x = true ∨ X.env.scope.names.lookup x = some .local) : PG X (.Name x pos) (tG K E (tnT i)) :=
  PG.imp (pg_name hN hi hx hf) fun v σ H Q ⟨ρ, s, h, d, sr, hr, dr, af⟩ => af (σ.set i (some v)) ρ H Ext.refl hr (sr.set i dr)
theorem pgs_nilF : PGs X [] (tGs K E ttNil) := PGs.imp pgs_nil fun vs σ H Q ⟨ρ, s, h, ds, sr, hr, dr, af⟩ => by
  unfold ttNil at af
  cases ds with
  | nil => exact ⟨dr.inv0, af σ ρ H Ext.refl hr sr⟩
  | cons d r => exact False.elim af
def conT (t : TF) (r : List D → F) : List D → F := fun ds E s h => match ds with
  | d :: ds => (t d E s h).onN fun s h => r ds E s h
  | [] => .bad 158
theorem assign_no {e : Expr} {es : List Expr} {env : PySem.Env} (h : isStar e = false) : assignEach (e :: es) env = (false, assign e env) :: assignEach es env := by
  cases e <;> first | rfl | (cases h; done)
theorem pgs_consF {t : TF} {r : List D → F} (hs : isStar e = false) (h1 : PG X e (tG K E t)) (h2 : PGs X es (tGs K E r)) (ht : ∀ d E s h, Tame (t d E s h)) : PGs X (e :: es) (tGs K E (conT t r)) :=
  PGs.imp (pgs_cons h1 h2 (by rw [assign_no hs]; rfl)) fun vs σ H Q ⟨ρ, s, h, ds, sr, hr, dr, af⟩ => by
    unfold conT at af
    cases ds with
    | nil => exact False.elim af
    | cons d ds =>
      obtain ⟨v, vr, rfl, d1, d2⟩ := dr.inv
      refine ⟨v, vr, rfl, ρ, s, h, d, sr, hr, d1, ?_⟩
      replace af : AfterG K ρ H Q ((t d E s h).onN fun s h => r ds E s h) := af
      generalize t d E s h = o at af
      cases o <;> first | exact False.elim af | skip
      exact fun σ' ρ' H' x hr' sr' => ⟨ρ', _, _, ds, sr', hr', d2.ext x, AfterG.ext af x⟩
theorem tup_of {K : Kx} {ρ : List Addr} {H : L2.Hp} {d : D} {v : V} {ds : List D} (dr : DR K H ρ d v) (e : tupOf d = some ds) : ∃ a vs, v = .ref a ∧ (SqT K.K H a vs ∨ SqL K.K H a vs) ∧ DRs K H ρ ds vs := by
  unfold tupOf at e
  split at e
  · cases e
    obtain ⟨a, vs, rfl, q, g⟩ := tup_dr dr
    exact ⟨a, vs, rfl, .inl q, g.toD⟩
  · cases e
    obtain ⟨a, vs, rfl, q, g⟩ := mix_dr dr
    refine ⟨a, vs, rfl, ?_, g⟩
    split at q
    · exact .inr (.inl q.rd)
    · exact .inl q
  · cases e
    obtain ⟨a, vs, rfl, q, g⟩ := lst_dr dr
    exact ⟨a, vs, rfl, .inr (.inl q.rd), g.toD⟩
  · cases e
/-- (a, b, ..) = a tuple or a list of that length -/
def gTA (K : PySem.W.Frag) (n : Nat) (t : TGs) : TG := fun v σ H Q => ∃ a xs, v = .ref a ∧ (SqT K H a xs ∨ SqL K H a xs) ∧ xs.length = n ∧ t xs σ H Q
theorem pg_tupA {es : List Expr} {k : Nat} {t : TGs} {n : Nat} (hc : X.calm = true) (h : PGs X es t) (hn : (assignEach es X.env).length = n) (hst : (assignEach es X.env).findIdx? (·.1) = none) : PG X (.Tuple es k pos) (gTA X.K n t) :=
  ⟨fun pins s σ H v u Q I r ⟨a, xs, e, q, hl, hw⟩ => q.elim (fun q => (pg_tup hc h hn hst).run pins s σ H v u Q I r ⟨a, xs, e, q, hl, hw⟩) (fun q => (pg_unl hc h hn hst).run pins s σ H v u Q I r ⟨a, xs, e, q, hl, hw⟩)⟩
def tupT (r : List D → F) : TF := fun d E s h => match tupOf d with | some ds => r ds E s h | none => .bad 156
theorem noStar_find {es : List Expr} {env : PySem.Env} : (es.any isStar) = false → (assignEach es env).findIdx? (·.1) = none ∧ (assignEach es env).length = es.length := by
  induction es with
  | nil => intro _; exact ⟨rfl, rfl⟩
  | cons e es ih =>
    intro h
    simp only [List.any_cons, Bool.or_eq_false_iff] at h
    obtain ⟨i1, i2⟩ := ih h.2
    rw [assign_no h.1]
    refine ⟨?_, by simp [i2]⟩
    rw [List.findIdx?_cons]
    simp [i1]
theorem pg_tupF (hK : X.K = K.K) (hc : X.calm = true) {k : Nat} {r : List D → F} (hs : es.any isStar = false) (h : PGs X es (tGs K E r)) (hl : ∀ ds E s h (Q : L2.St → L2.Hp → Prop) ρ H, AfterG K ρ H Q (r ds E s h) → ds.length = es.length) : PG X (.Tuple es k pos) (tG K E (tupT r)) :=
  PG.imp (pg_tupA (n := es.length) hc h (noStar_find hs).2 (noStar_find hs).1) fun v σ H Q ⟨ρ, s, h, d, sr, hr, dr, af⟩ => by
    unfold tupT at af
    split at af
    · rename_i ds e
      obtain ⟨a, vs, rfl, q, dv⟩ := tup_of dr e
      exact ⟨a, vs, rfl, by rw [hK]; exact q, by rw [← dv.length]; exact hl _ _ _ _ _ _ _ af, ρ, s, h, ds, sr, hr, dv, af⟩
    · exact False.elim af
/-- a[i] = .. -/
theorem posI_ix {n : Nat} {i : Int} {j : Nat} (h : ixN n i = some j) : posI n i = j := by
  unfold ixN at h
  unfold posI
  split at h
  · rename_i h0
    rw [if_pos h0]
    split at h <;> cases h
    rfl
  · rename_i h0
    rw [if_neg h0]
    split at h <;> cases h
    congr 1
    omega
theorem is_dic {h : Hp} {a : Nat} (e : isDic h a = true) : ∃ kvs, h[a]? = some (.dic kvs) := by
  unfold isDic at e
  split at e
  · rename_i q; exact ⟨_, q⟩
  · cases e
/-- o[i] = v, o a list or a dict -/
theorem set_any {X : Cx} (hu : X.A.units + 160 ≤ cLine) : PSet X (fun o i v H Q => rSetL o i v H Q ∨ ∃ a H', o = .ref a ∧ DPut H a i v H' ∧ Q H') := by
  intro pins s σ H o i v ov iv u Q I ro ri rv h
  rcases h with h | ⟨a, H', rfl, g, q⟩
  · exact set_list pins s σ H o i v ov iv u Q I ro ri rv h
  · obtain rfl : ov = Value.ref a := ro
    exact d_setItem (by omega) I g ri rv fun s' I' => ⟨H', I', q⟩
def isSlice : Expr → Bool
  | .Slice .. => true
  | _ => false
theorem assign_ix {o i : Expr} {env : PySem.Env} (h : isSlice i = false) (v : Value) : assign (.Subscript o i pos) env v = (do
      let ov ← holding [v] (eval o env)
      let iv ← holding [v, ov] (eval i env)
      standAt pos
      holding [v, ov, iv] (setItem ov iv v)
      release [v, ov, iv] []) := by
  cases i <;> first | rfl | (cases h; done)
theorem plain_ix {i : Expr} (h : isSlice i = false) : PlainIx i := fun o k => by cases i <;> first | rfl | (cases h; done)
theorem pg_subF {i : Expr} (hsl : isSlice i = false) (hK : X.K = K.K) (hu : X.A.units + 160 ≤ cLine) (ha : PE X a (tE K ξ (fun _ _ _ _ => False) E fa)) (hb : PE X i (tE K ξ (fun _ _ _ _ => False) E fb)) : PG X (.Subscript a i pos) (tG K E (tsT fa fb)) := by
  refine PG.imp (pg_sub ha hb (set_any hu) (assign_ix hsl)) fun v σ H Q ⟨ρ, s, h, d, sr, hr, dr, af⟩ => ?_
  have conv : ∀ {ρ : List Addr} {H : L2.Hp} {o : Out} {k : D → Hp → Out}, AfterG K ρ H Q (o.onV k) → After K ξ (fun _ _ _ _ => False) ρ H σ (fun v H1 => ∃ ρ1 d h1, Ext ρ H ρ1 H1 ∧ HR K ρ1 h1 H1 ∧ DR K H1 ρ1 d v ∧ AfterG K ρ1 H1 Q (k d h1)) o := fun {ρ H o k} f => by
    cases o <;> first | exact False.elim f | skip
    exact fun v ρ1 H1 e hr dr => ⟨ρ1, _, _, e, hr, dr, AfterG.ext f e⟩
  refine ⟨ρ, s, h, sr, hr, After.mono (conv af) fun x H1 ⟨ρ1, g, h1, x1, hr1, dr1, af1⟩ => ⟨ρ1, s, h1, sr.ext x1, hr1, After.mono (conv af1) fun y H2 ⟨ρ2, k, h2, x2, hr2, dr2, af2⟩ => ?_⟩⟩
  unfold stoV at af2
  split at af2
  · rename_i h3 e
    split at e
    · rename_i i' k'
      split at e
      · rename_i z
        obtain ⟨kvs, q⟩ := is_dic z
        obtain ⟨p, hp, rfl⟩ := ref_dr (dr1.ext x2)
        obtain ⟨xs, hv, kr⟩ := hr2.dic hp q
        unfold stoD at e
        rw [q] at e
        simp only at e
        cases hz : szOk kvs.length with
        | false => rw [hz] at e; cases e
        | true =>
          rw [hz] at e
          simp only [putK] at e
          cases ko : keyOk i' with
          | false => rw [ko] at e; cases e
          | true =>
            rw [ko] at e
            cases e
            obtain ⟨kk, hk⟩ := keyG_ok ko
            unfold DR at dr2
            have hl : xs.length < sizeLine := by
              rw [← kr.length]
              have := Nat.le_of_ble_eq_true hz
              rw [sizeLine_eq]; omega
            refine .inr ⟨p, upd H2 p (.dK (L2.putK xs kk v)), rfl, ?_, ?_⟩
            · rw [keyG_kV hk dr2]
              exact DPut.k hv hl
            · have x3 : Ext ρ2 H2 ρ2 (upd H2 p (.dK (L2.putK xs kk v))) := Ext.write (List.mem_of_getElem? hp) hv id
              have dd := (dr.ext x1).ext x2
              exact af2 σ ρ2 _ x3 (hr2.write hp ⟨_, upd_same, (kr.put hk dd).map fun _ _ q => q.ext x3⟩) (((sr.ext x1).ext x2).ext x3)
      · split at e
        · rename_i n
          unfold stoL at e
          split at e
          · rename_i xs q
            split at e
            · rename_i g' q2
              cases e
              obtain ⟨p, hp, rfl⟩ := ref_dr (dr1.ext x2)
              obtain ⟨vs, hv, dv⟩ := hr2.lst hp q
              obtain ⟨j, _, e2⟩ := nth_ix dv.length q2
              have e3 : posI xs.length n = j := by rw [dv.length]; exact posI_ix e2
              rw [e3] at af2
              refine .inl ⟨p, vs, n, j, rfl, int_dr dr2, hv, e2, ?_⟩
              have x3 : Ext ρ2 H2 ρ2 (upd H2 p (.lst (vs.set j v))) := Ext.write (List.mem_of_getElem? hp) hv id
              have dd := (dr.ext x1).ext x2
              exact af2 σ ρ2 _ x3 (hr2.write hp ⟨_, upd_same, (dv.set dd j).ext x3⟩) (((sr.ext x1).ext x2).ext x3)
            · cases e
          · cases e
        · cases e
    · cases e
  · exact False.elim af2
/-! ### assignments -/
theorem tame_tn (i : Nat) (d : D) (E : Env) (s : St) (h : Hp) : Tame (tnT i d E s h) := ⟨fun _ _ => ⟨nofun, nofun⟩, nofun⟩
theorem ps_asgF {tg : Expr} {t : TF} (ha : PE X a (tE K ξ Z E fa)) (hg : PG X tg (tG K E t)) (ht : ∀ d s h, Tame (t d E s h)) (hs : swapsWithSole [tg] a pos.line X.env = pure false) (hw : swappedStores [tg] a X.env = pure none) (h1 : isStar tg = false) :
    PS X (.Assign [tg] a pos) (tS K ξ Z E (asgF t fa)) :=
  PS.imp (ps_asg ha hg hs hw (by rw [assign_no h1]; rfl)) fun Dn σ H ⟨ρ, s, h, sr, hr, af⟩ =>
    ⟨ρ, s, h, sr, hr, After.mono (AfterS.bindV sr af) fun v H1 ⟨ρ1, d, h1, x1, hr1, dr1, af1⟩ => ⟨ρ1, s, h1, d, sr.ext x1, hr1, dr1, Tame.bindG af1 (ht _ _ _)⟩⟩
end
end Pv
set_option Elab.async false
set_option linter.all false
set_option maxRecDepth 100000
set_option maxHeartbeats 1000000
namespace Pv
open PySem L2 PySem.Spec PyProof.Rows
/-! ### more callers' boxes -/
section
variable {K K2 : Kx} {ρ : List Addr} {H H2 : L2.Hp}
theorem Lv.more (hφ : ∀ b ∈ K2.y.φ, b ∈ K.y.φ ∨ H b = none) {a : Addr} {vs : List V} (q : Lv K H ρ a vs) : Lv K2 H ρ a vs := by
  rcases q with ⟨q, n⟩ | ⟨o, q⟩
  · exact .inl ⟨q, n.1, fun z => (hφ a z).elim n.2 (by rw [q]; simp)⟩
  · exact .inr ⟨o, q⟩
mutual
/-- the relation where more (all not yet laid) may not be named -/
theorem GR.more (hk : K2.K = K.K) (hφ : ∀ b ∈ K2.y.φ, b ∈ K.y.φ ∨ H b = none) : ∀ {g : G} {v : V}, GR K H ρ g v → GR K2 H ρ g v
  | .non, v, h => by unfold GR at h ⊢; exact h
  | .bl b, v, h => by unfold GR at h ⊢; exact h
  | .int i, v, h => by unfold GR at h ⊢; exact h
  | .str n, v, h => by unfold GR at h ⊢; exact h
  | .tup gs, v, h => by
    unfold GR at h ⊢
    obtain ⟨a, vs, e, q, r⟩ := h
    exact ⟨a, vs, e, by rw [hk]; exact q, GRs.more hk hφ r⟩
  | .lst gs, v, h => by
    unfold GR at h ⊢
    obtain ⟨a, vs, e, q, r⟩ := h
    exact ⟨a, vs, e, Lv.more hφ q, GRs.more hk hφ r⟩
  | .rng lo hi, v, h => by unfold GR at h ⊢; exact h
  | .set xs, v, h => by unfold GR at h ⊢; exact h
theorem GRs.more (hk : K2.K = K.K) (hφ : ∀ b ∈ K2.y.φ, b ∈ K.y.φ ∨ H b = none) : ∀ {g : List G} {v : List V}, GRs K H ρ g v → GRs K2 H ρ g v
  | [], v, h => by unfold GRs at h ⊢; exact h
  | g :: r, v, h => by
    unfold GRs at h ⊢
    obtain ⟨u, t, e, h1, h2⟩ := h
    exact ⟨u, t, e, GR.more hk hφ h1, GRs.more hk hφ h2⟩
end
mutual
theorem DR.more (hk : K2.K = K.K) (hφ : ∀ b ∈ K2.y.φ, b ∈ K.y.φ ∨ H b = none) : ∀ {g : D} {v : V}, DR K H ρ g v → DR K2 H ρ g v
  | .g x, v, h => by unfold DR at h ⊢; exact GR.more hk hφ h
  | .ref i, v, h => by unfold DR at h ⊢; exact h
  | .mix l ds, v, h => by
    unfold DR at h ⊢
    obtain ⟨a, vs, e, q, r⟩ := h
    refine ⟨a, vs, e, ?_, DRs.more hk hφ r⟩
    cases l with
    | true => exact Lv.more hφ q
    | false => rw [if_neg (by decide)] at q ⊢; rw [hk]; exact q
  | .bm i c m, v, h => by unfold DR at h ⊢; rw [hk]; exact h
theorem DRs.more (hk : K2.K = K.K) (hφ : ∀ b ∈ K2.y.φ, b ∈ K.y.φ ∨ H b = none) : ∀ {g : List D} {v : List V}, DRs K H ρ g v → DRs K2 H ρ g v
  | [], v, h => by unfold DRs at h ⊢; exact h
  | g :: r, v, h => by
    unfold DRs at h ⊢
    obtain ⟨u, t, e, h1, h2⟩ := h
    exact ⟨u, t, e, DR.more hk hφ h1, DRs.more hk hφ h2⟩
end
/-- one list that is never named may turn -/
structure Off (K K2 : Kx) (H H2 : L2.Hp) (D : Addr) : Prop where
  hk : K2.K = K.K
  hφ : ∀ b ∈ K2.y.φ, b ∈ K.y.φ
  hD : D ∈ K.y.φ
  hl : ∃ xs, H D = some (.lst xs)
  ag : ∀ b, b ≠ D → H2 b = H b
theorem Off.sqt {K K2 : Kx} {D a : Addr} {vs : List V} (o : Off K K2 H H2 D) (q : SqT K.K H a vs) : SqT K2.K H2 a vs := by
  rw [o.hk]
  rcases q with (q | ⟨ob, q⟩) | q
  · refine .inl (.inl ((o.ag a fun e => ?_).trans q))
    subst e
    obtain ⟨xs, z⟩ := o.hl
    rw [q] at z; cases z
  · refine .inl (.inr ⟨ob, (o.ag a fun e => ?_).trans q⟩)
    subst e
    obtain ⟨xs, z⟩ := o.hl
    rw [q] at z; cases z
  · exact .inr q
theorem Off.lst {K K2 : Kx} {D a : Addr} {vs : List V} (o : Off K K2 H H2 D) (q : H a = some (.lst vs)) (n : Own K ρ a) : H2 a = some (.lst vs) ∧ Own K2 ρ a :=
  ⟨(o.ag a fun e => n.2 (by rw [e]; exact o.hD)).trans q, n.1, fun z => n.2 (o.hφ a z)⟩
theorem Off.lv {K K2 : Kx} {D a : Addr} {vs : List V} (o : Off K K2 H H2 D) (q : Lv K H ρ a vs) : Lv K2 H2 ρ a vs := by
  rcases q with ⟨q, n⟩ | ⟨ob, q⟩
  · exact .inl (o.lst q n)
  · refine .inr ⟨ob, (o.ag a fun e => ?_).trans q⟩
    subst e
    obtain ⟨xs, z⟩ := o.hl
    rw [q] at z; cases z
mutual
theorem GR.off {D : Addr} (o : Off K K2 H H2 D) : ∀ {g : G} {v : V}, GR K H ρ g v → GR K2 H2 ρ g v
  | .non, v, h => by unfold GR at h ⊢; exact h
  | .bl b, v, h => by unfold GR at h ⊢; exact h
  | .int i, v, h => by unfold GR at h ⊢; exact h
  | .str n, v, h => by unfold GR at h ⊢; exact h
  | .tup gs, v, h => by
    unfold GR at h ⊢
    obtain ⟨a, vs, e, q, r⟩ := h
    exact ⟨a, vs, e, o.sqt q, GRs.off o r⟩
  | .lst gs, v, h => by
    unfold GR at h ⊢
    obtain ⟨a, vs, e, q, r⟩ := h
    exact ⟨a, vs, e, o.lv q, GRs.off o r⟩
  | .rng lo hi, v, h => by
    unfold GR at h ⊢
    obtain ⟨a, e, q, z⟩ := h
    refine ⟨a, e, (o.ag a fun e => ?_).trans q, z⟩
    subst e
    obtain ⟨xs, z⟩ := o.hl
    rw [q] at z; cases z
  | .set xs, v, h => by
    unfold GR at h ⊢
    obtain ⟨a, n, e, q⟩ := h
    refine ⟨a, n, e, (o.ag a fun e => ?_).trans q⟩
    subst e
    obtain ⟨xs, z⟩ := o.hl
    rw [q] at z; cases z
theorem GRs.off {D : Addr} (o : Off K K2 H H2 D) : ∀ {g : List G} {v : List V}, GRs K H ρ g v → GRs K2 H2 ρ g v
  | [], v, h => by unfold GRs at h ⊢; exact h
  | g :: r, v, h => by
    unfold GRs at h ⊢
    obtain ⟨u, t, e, h1, h2⟩ := h
    exact ⟨u, t, e, GR.off o h1, GRs.off o h2⟩
end
mutual
theorem DR.off {D' : Addr} (o : Off K K2 H H2 D') : ∀ {g : D} {v : V}, DR K H ρ g v → DR K2 H2 ρ g v
  | .g x, v, h => by unfold DR at h ⊢; exact GR.off o h
  | .ref i, v, h => by unfold DR at h ⊢; exact h
  | .mix l ds, v, h => by
    unfold DR at h ⊢
    obtain ⟨a, vs, e, q, r⟩ := h
    refine ⟨a, vs, e, ?_, DRs.off o r⟩
    cases l with
    | true => exact o.lv q
    | false => exact o.sqt q
  | .bm i c m, v, h => by
    unfold DR at h ⊢
    rw [o.hk]
    obtain ⟨a, p, e, e2, q⟩ := h
    refine ⟨a, p, e, e2, (o.ag p fun e => ?_).trans q⟩
    subst e
    obtain ⟨xs, z⟩ := o.hl
    rw [q] at z; cases z
theorem DRs.off {D' : Addr} (o : Off K K2 H H2 D') : ∀ {g : List D} {v : List V}, DRs K H ρ g v → DRs K2 H2 ρ g v
  | [], v, h => by unfold DRs at h ⊢; exact h
  | g :: r, v, h => by
    unfold DRs at h ⊢
    obtain ⟨u, t, e, h1, h2⟩ := h
    exact ⟨u, t, e, DR.off o h1, DRs.off o h2⟩
end
theorem OR.off {D' a : Addr} {ob : O} (o : Off K K2 H H2 D') (ha : a ≠ D') (r : OR K H ρ ob a) : OR K2 H2 ρ ob a := by
  cases ob with
  | lst ds => obtain ⟨vs, e, d⟩ := r; exact ⟨vs, (o.ag a ha).trans e, d.off o⟩
  | dic kvs => obtain ⟨vs, e, d⟩ := r; exact ⟨vs, (o.ag a ha).trans e, d.map fun _ _ q => q.off o⟩
  | ins c fs => obtain ⟨dx, vs, e, d⟩ := r; exact ⟨dx, vs, by rw [o.hk]; exact (o.ag a ha).trans e, d.map fun _ _ q => q.off o⟩
  | _ => exact r.elim
theorem HR.off {D' : Addr} {h : Hp} (o : Off K K2 H H2 D') (hD : D' ∉ ρ) (al : ∀ b ∈ K2.y.φ, H2 b ≠ none) (r : HR K ρ h H) : HR K2 ρ h H2 :=
  ⟨r.len, r.nd, al, fun i ob a h1 h2 => (r.obj i ob a h1 h2).off o fun e => hD (e ▸ List.mem_of_getElem? h2)⟩
theorem HR.more {h : Hp} (hk : K2.K = K.K) (hφ : ∀ b ∈ K2.y.φ, b ∈ K.y.φ ∨ H b = none) (al : ∀ b ∈ K2.y.φ, H b ≠ none) (r : HR K ρ h H) : HR K2 ρ h H :=
  ⟨r.len, r.nd, al, fun i ob a h1 h2 => by
    have := r.obj i ob a h1 h2
    cases ob with
    | lst ds => obtain ⟨vs, e, d⟩ := this; exact ⟨vs, e, d.more hk hφ⟩
    | dic kvs => obtain ⟨vs, e, d⟩ := this; exact ⟨vs, e, d.map fun _ _ q => q.more hk hφ⟩
    | ins c fs => obtain ⟨dx, vs, e, d⟩ := this; exact ⟨dx, vs, by rw [hk]; exact e, d.map fun _ _ q => q.more hk hφ⟩
    | _ => exact this.elim⟩
theorem SR.off {D' : Addr} {s : St} {σ : L2.St} (o : Off K K2 H H2 D') (hx : K2.y.xn = none) (r : SR K H ρ s σ) : SR K2 H2 ρ s σ :=
  ⟨r.len, fun i d e => by obtain ⟨v, h1, h2⟩ := r.get i d e; exact ⟨v, h1, h2.off o⟩, (fun i a d e => by rw [hx] at e; cases e), (fun i a dd f g e => by rw [hx] at e; cases e)⟩
theorem SR.more {s : St} {σ : L2.St} (hk : K2.K = K.K) (hφ : ∀ b ∈ K2.y.φ, b ∈ K.y.φ ∨ H b = none) (hx : K2.y.xn = none) (r : SR K H ρ s σ) : SR K2 H ρ s σ :=
  ⟨r.len, fun i d e => by obtain ⟨v, h1, h2⟩ := r.get i d e; exact ⟨v, h1, h2.more hk hφ⟩, (fun i a d e => by rw [hx] at e; cases e), (fun i a dd f g e => by rw [hx] at e; cases e)⟩
end
/-! ### what is walked -/
/-- an iterator of the evaluator beside the model's -/
def IRel (K : Kx) (ρ0 : List Addr) (H0 : L2.Hp) (J : L2.It) (st : Nat → It) : Prop :=
  ∀ (K2 : Kx) i ρ h H, K2.K = K.K → (∀ b ∈ K2.y.φ, b ∈ K.y.φ ∨ H0 b = none) → ExtW K2.y.φ ρ0 H0 ρ H → HR K2 ρ h H → match nextI h (st i) with
    | .stop => J.stop i H
    | .yld d j => st (i + 1) = j ∧ J.go i H ∧ ∀ x H', J.yld i H x H' → Ext ρ H ρ H' ∧ HR K2 ρ h H' ∧ DR K2 H' ρ d x
    | .bad => True
section
variable {K : Kx} {ξ : XRel} {Z : WX} {ρ ρ' : List Addr} {H H' : L2.Hp} {σ : L2.St} {h : Hp} {E : Env}
def AfterI (K : Kx) (ξ : XRel) (Z : WX) (ρ : List Addr) (H : L2.Hp) (σ : L2.St) (R : L2.It → L2.Hp → Prop) : Out → Prop
  | .itr j u h => u = none ∧ ∀ J st ρ' H', Ext ρ H ρ' H' → HR K ρ' h H' → IRel K ρ' H' J st → st 0 = j → R J H'
  | .exc c ds _ h => Exc K ξ Z ρ h H σ c ds
  | _ => False
def tI (K : Kx) (ξ : XRel) (Z : WX) (E : Env) (f : F) : TI := fun σ H R => ∃ ρ s h, SR K H ρ s σ ∧ HR K ρ h H ∧ AfterI K ξ Z ρ H σ R (f E s h)
theorem AfterI.ext {R : L2.It → L2.Hp → Prop} {o : Out} (f : AfterI K ξ Z ρ H σ R o) (x : Ext ρ H ρ' H') : AfterI K ξ Z ρ' H' σ R o := by
  cases o <;> first | exact f.elim | exact Exc.ext f x | exact ⟨f.1, fun J st ρ2 H2 e => f.2 J st ρ2 H2 (x.trans e)⟩
theorem AfterI.bind {R : L2.It → L2.Hp → Prop} {o : Out} {k : D → Hp → Out} (f : AfterI K ξ Z ρ H σ R (o.onV k)) :
    After K ξ Z ρ H σ (fun v H1 => ∃ ρ1 d h1, Ext ρ H ρ1 H1 ∧ HR K ρ1 h1 H1 ∧ DR K H1 ρ1 d v ∧ AfterI K ξ Z ρ1 H1 σ R (k d h1)) o := by
  cases o <;> first | exact f.elim | exact f | exact fun v ρ1 H1 e hr dr => ⟨ρ1, _, _, e, hr, dr, AfterI.ext f e⟩
theorem AfterI.bindL {R : L2.It → L2.Hp → Prop} {o : Out} {k : List D → Hp → Out} (f : AfterI K ξ Z ρ H σ R (o.onL k)) :
    AfterL K ξ Z ρ H σ (fun v H1 => ∃ ρ1 d h1, Ext ρ H ρ1 H1 ∧ HR K ρ1 h1 H1 ∧ DRs K H1 ρ1 d v ∧ AfterI K ξ Z ρ1 H1 σ R (k d h1)) o := by
  cases o <;> first | exact f.elim | exact f | exact fun v ρ1 H1 e hr dr => ⟨ρ1, _, _, e, hr, dr, AfterI.ext f e⟩
/-- over a list that is no box -/
theorem irel_list {a : Addr} {ds : List D} {vs : List V} (ha : Lv K H ρ a vs) (d : DRs K H ρ ds vs) : IRel K ρ H (Itl K.K a) fun i => .seq (ds.drop i) := fun K2 i ρ2 h2 H2 hk hφ x hr => by
  have q := ((Lv.more (K2 := K2) hφ ha).extW x).rd
  have l := d.length
  dsimp only
  by_cases hi : i < ds.length
  · have e : ds.drop i = ds[i] :: ds.drop (i + 1) := List.drop_eq_getElem_cons hi
    rw [e]
    refine ⟨rfl, ⟨vs, vs[i]'(by omega), .inl q, by simp [show i < vs.length by omega]⟩, fun y H' ⟨e1, e2⟩ => ?_⟩
    subst e1
    refine ⟨Ext.refl, hr, ?_⟩
    obtain ⟨v, h1, h2⟩ := (d.more (K2 := K2) hk hφ).get (show ds[i]? = some ds[i] by simp [hi])
    have := e2 vs (.inl q)
    rw [h1] at this; cases this
    exact h2.extW x
  · rw [List.drop_eq_nil_of_le (by omega)]
    exact ⟨vs, .inl q, by omega⟩
theorem irel_tup {a : Addr} {ds : List D} {vs : List V} (ha : SqT K.K H a vs) (d : DRs K H ρ ds vs) : IRel K ρ H (Itt K.K a) fun i => .seq (ds.drop i) := fun K2 i ρ2 h2 H2 hk hφ x hr => by
  have q := SqT.extW x ha
  have l := d.length
  dsimp only
  by_cases hi : i < ds.length
  · have e : ds.drop i = ds[i] :: ds.drop (i + 1) := List.drop_eq_getElem_cons hi
    rw [e]
    refine ⟨rfl, ⟨vs, vs[i]'(by omega), q, by simp [show i < vs.length by omega]⟩, fun y H' ⟨e1, e2⟩ => ?_⟩
    subst e1
    refine ⟨Ext.refl, hr, ?_⟩
    obtain ⟨v, h1, h2⟩ := (d.more (K2 := K2) hk hφ).get (show ds[i]? = some ds[i] by simp [hi])
    have := e2 vs q
    rw [h1] at this; cases this
    exact h2.extW x
  · rw [List.drop_eq_nil_of_le (by omega)]
    exact ⟨vs, q, by omega⟩
theorem irel_live {a : Addr} {b : Nat} (hb : ρ[b]? = some a) : IRel K ρ H (Itl K.K a) fun i => .live b i := fun K2 i ρ2 h2 H2 hk hφ x hr => by
  have hb2 := x.get hb
  simp only [nextI]
  cases q : h2[b]? with
  | none => trivial
  | some o =>
    cases o with
    | lst ds =>
      obtain ⟨vs, hv, dv⟩ := hr.lst hb2 q
      have l := dv.length
      dsimp only
      cases q2 : ds[i]? with
      | none => exact ⟨vs, .inl (.inl hv), by rw [← l]; exact List.getElem?_eq_none_iff.mp q2⟩
      | some d =>
        obtain ⟨v, h1, h3⟩ := dv.get q2
        refine ⟨rfl, ⟨vs, v, .inl (.inl hv), h1⟩, fun y H' ⟨e1, e2⟩ => ?_⟩
        subst e1
        have := e2 vs (.inl (.inl hv))
        rw [h1] at this; cases this
        exact ⟨Ext.refl, hr, h3⟩
    | _ => trivial
theorem rangeL_get : ∀ (n : Nat) (lo st : Int) (i : Nat), (rangeL lo st n).drop i = if i < n then .int (lo + st * i) :: (rangeL lo st n).drop (i + 1) else []
  | 0, lo, st, i => by simp [rangeL]
  | n + 1, lo, st, 0 => by simp [rangeL]
  | n + 1, lo, st, i + 1 => by
    have := rangeL_get n (lo + st) st i
    simp only [rangeL, List.drop_succ_cons]
    rw [this]
    by_cases h : i < n
    · rw [if_pos h, if_pos (by omega)]
      congr 2
      push_cast
      rw [Int.mul_add, Int.mul_one]
      omega
    · rw [if_neg h, if_neg (by omega)]
theorem irel_rng {lo : Int} {n : Nat} : IRel K ρ H (Itr lo n) fun i => .seq (((rangeL lo 1 n).drop i).map .g) := fun K2 i ρ2 h2 H2 hk hφ x hr => by
  dsimp only
  by_cases hi : i < n
  · have e := rangeL_get n lo 1 i
    rw [if_pos hi] at e
    rw [e]
    refine ⟨rfl, hi, fun y H' ⟨e1, e2⟩ => ?_⟩
    subst e1; subst e2
    exact ⟨Ext.refl, hr, by unfold DR GR; congr 1; omega⟩
  · have e := rangeL_get n lo 1 i
    rw [if_neg hi] at e
    rw [e]
    show n ≤ i
    omega
end
end Pv
set_option Elab.async false
set_option linter.all false
set_option maxRecDepth 100000
set_option maxHeartbeats 1000000
/-! enumerate of a tuple, as of a list in the kit -/
namespace Pv
open PySem L2 PySem.Spec PyProof.Rows
section
variable {prog : Program} {w : World} {A : Around} {E : Value → Shared → Prop} {s : Shared}
theorem enT_next {e I T : Addr} {k : Nat} {ts : Array Value} {x y : Value} {Q : Value → Shared → Prop}
    (e0 : IsEnum s.heap e I k y) (i0 : s.heap.IsTupleIter I T k) (t0 : s.heap.IsTuple T ts) (hx : ts[k]? = some x) (ne : e ≠ I)
    (q : ∀ h', IsEnumOut h' e I ((k : Int) + 1) x s.heap.objs.size → h'.IsTupleIter I T (k + 1) → h'.get? s.heap.objs.size = some { cls := .type "tuple", data := .seq #[.int k s.toks, x] } → h'.objs.size = s.heap.objs.size + 1 →
      (∀ b o, b ≠ e → b ≠ I → s.heap.get? b = some o → h'.get? b = some o) → Q (.ref s.heap.objs.size) { s with heap := h', toks := s.toks + 1 }) :
    wpAny (model prog w) A (Builtin.«enumerate.__next__» ⟨[.ref e], []⟩) (fun fin s' => ∃ v, fin = .done (.ret v) ∧ Q v s') E s := by
  obtain ⟨hp, gg, dd, tk, os⟩ := s
  show wpAny _ _ (field (.ref e) 2 >>= _) _ _ _
  refine wpAny_bind (wpAny_field e0 rfl (x := .ref I) rfl (wpAny_bind (RZ.nextOf_tuple_item i0 t0 hx fun h1 i1 s1 => ?_)))
  replace s1 : Heap.SameBut I hp h1 := s1
  have e1 : IsEnum h1 e I k y := (s1.2 e ne).trans e0
  show wpAny _ _ (field (.ref e) 3 >>= _) _ _ ⟨h1, gg, dd, tk, os⟩
  refine wpAny_bind (wpAny_field e1 rfl (x := rawInt k) rfl ?_)
  show wpAny _ _ (field (.ref e) 4 >>= _) _ _ ⟨h1, gg, dd, tk, os⟩
  refine wpAny_bind (wpAny_field e1 rfl (x := .none) rfl ?_)
  show wpAny _ _ (mkInt k >>= _) _ _ ⟨h1, gg, dd, tk, os⟩
  refine wpAny_bind (wpAny_mkInt ?_)
  show wpAny _ _ (setField (.ref e) 3 (rawInt ((k : Int) + 1)) >>= _) _ _ ⟨h1, gg, dd, tk + 1, os⟩
  refine wpAny_bind (wpAny_setField_rec e1 (by simp) fun h2 e2 s2 => ?_)
  replace s2 : Heap.SameBut e h1 h2 := s2
  replace e2 : IsEnum h2 e I ((k : Int) + 1) y := e2
  show wpAny _ _ (setField (.ref e) 4 .none >>= _) _ _ ⟨h2, gg, dd, tk + 1, os⟩
  refine wpAny_bind (wpAny_setField_rec e2 (by simp) fun h3 e3 s3 => ?_)
  replace s3 : Heap.SameBut e h2 h3 := s3
  replace e3 : IsEnum h3 e I ((k : Int) + 1) y := e3
  show wpAny _ _ (newTuple [.int k tk, x] >>= _) _ _ ⟨h3, gg, dd, tk + 1, os⟩
  refine wpAny_bind (wpAny_newTuple ?_)
  have e4 : IsEnum (h3.push { cls := .type "tuple", data := .seq #[.int k tk, x] }) e I ((k : Int) + 1) y := Heap.get?_push_of_some _ e3
  have z3 : h3.objs.size = hp.objs.size := by rw [s3.1, s2.1, s1.1]
  have lt : e < hp.objs.size := Heap.lt_size e0
  have t4 : (h3.push { cls := .type "tuple", data := .seq #[.int k tk, x] }).get? hp.objs.size = some { cls := .type "tuple", data := .seq #[.int k tk, x] } := by rw [← z3]; exact Heap.get?_push_size _ rfl
  have z4 : (h3.push { cls := .type "tuple", data := .seq #[.int k tk, x] }).objs.size = hp.objs.size + 1 := by rw [Heap.size_push, z3]
  have k4 : ∀ b o, b ≠ e → b ≠ I → hp.get? b = some o → (h3.push { cls := .type "tuple", data := .seq #[.int k tk, x] }).get? b = some o := fun b o be bi hb =>
    Heap.get?_push_of_some _ (s3.extBut b o be (s2.extBut b o be (s1.extBut b o bi hb)))
  have i4 : (h3.push { cls := .type "tuple", data := .seq #[.int k tk, x] }).IsTupleIter I T (k + 1) := by
    obtain ⟨o, ho, r⟩ := (i1.extBut s2.extBut (Ne.symm ne)).extBut s3.extBut (Ne.symm ne); exact ⟨o, Heap.get?_push_of_some _ ho, r⟩
  generalize h3.push { cls := .type "tuple", data := .seq #[.int k tk, x] } = h4 at e4 t4 z4 k4 i4
  show wpAny _ _ (Builtin.SmallTypes.ownedTupleIsFree (.ref e) >>= _) _ _ ⟨h4, gg, dd, tk + 1, os⟩
  rw [z3]
  refine wpAny_bind ?_
  · unfold Builtin.SmallTypes.ownedTupleIsFree
    refine wpAny_bind (wpAny_field e4 rfl (x := .none) rfl (wpAny_pure ?_))
    simp only [if_true]
    refine wpAny_bind (wpAny_rule (wpAny_bind (wpAny_field e4 rfl (x := y) rfl (wpAny_bind (wpAny_setField_rec e4 (by simp) fun h5 e5 s5 => ?_)))))
    replace s5 : Heap.SameBut e h4 h5 := s5
    replace e5 : IsEnum h5 e I ((k : Int) + 1) x := e5
    show wpAny _ _ (Builtin.SmallTypes.ownedTupleHandOut (.ref e) (.ref hp.objs.size) >>= _) _ _ ⟨h5, gg, dd, tk + 1, os⟩
    refine wpAny_bind ?_
    · unfold Builtin.SmallTypes.ownedTupleHandOut
      refine wpAny_bind (wpAny_setField_rec e5 (by simp) fun h6 e6 s6 => ?_)
      replace s6 : Heap.SameBut e h5 h6 := s6
      replace e6 : IsEnumOut h6 e I ((k : Int) + 1) x hp.objs.size := e6
      refine wpAny_setField_rec e6 (by simp) fun h7 e7 s7 => ?_
      replace s7 : Heap.SameBut e h6 h7 := s7
      replace e7 : IsEnumOut h7 e I ((k : Int) + 1) x hp.objs.size := e7
      have up : ∀ b o, b ≠ e → h4.get? b = some o → h7.get? b = some o := fun b o be z => s7.extBut b o be (s6.extBut b o be (s5.extBut b o be z))
      refine wpAny_bind (wpAny_letGo (wpAny_pure ⟨_, rfl, q h7 e7 ?_ (up _ _ (Nat.ne_of_gt lt) t4) (by rw [s7.1, s6.1, s5.1, z4]) fun b o be bi hb => up b o be (k4 b o be bi hb)⟩))
      obtain ⟨o, ho, r⟩ := i4
      exact ⟨o, up _ _ (Ne.symm ne) ho, r⟩
theorem enT_item {e I T : Addr} {k : Nat} {ts : Array Value} {x y : Value} {Q : Option Value → Shared → Prop}
    (e0 : IsEnum s.heap e I k y) (i0 : s.heap.IsTupleIter I T k) (t0 : s.heap.IsTuple T ts) (hx : ts[k]? = some x) (ne : e ≠ I)
    (q : ∀ h', IsEnumOut h' e I ((k : Int) + 1) x s.heap.objs.size → h'.IsTupleIter I T (k + 1) → h'.get? s.heap.objs.size = some { cls := .type "tuple", data := .seq #[.int k s.toks, x] } → h'.objs.size = s.heap.objs.size + 1 →
      (∀ b o, b ≠ e → b ≠ I → s.heap.get? b = some o → h'.get? b = some o) → Q (some (.ref s.heap.objs.size)) { s with heap := h', toks := s.toks + 1 }) :
    wpAny (model prog w) A (pyNext (.ref e)) Q E s := by
  have ty : s.TypeIs (.ref e) "enumerate" := ⟨_, e0, rfl⟩
  unfold pyNext
  refine wpAny_bind (wpAny_attempt (wpAny_callSpecial?_slot (name := Str.ofString "__next__") ty F.slot_enumerate_next (wpAny_call_entry F.slot_enumerate_next ty F.entry_enumerate_next ?_ (F.args_enumerate_next_1 _))))
  exact enT_next e0 i0 t0 hx ne fun h' a b c d k => wpAny_pure (q h' a b c d k)
theorem enT_end {e I T : Addr} {k : Nat} {ts : Array Value} {y : Value} {Q : Option Value → Shared → Prop} (hh : A.handled = none)
    (e0 : IsEnum s.heap e I k y) (i0 : s.heap.IsTupleIter I T k) (t0 : s.heap.IsTuple T ts) (hx : ts[k]? = none) (q : ∀ h', Heap.ExtBut I s.heap h' → Q none { s with heap := h' }) : wpAny (model prog w) A (pyNext (.ref e)) Q E s := by
  have ty : s.TypeIs (.ref e) "enumerate" := ⟨_, e0, rfl⟩
  unfold pyNext
  refine wpAny_bind (wpAny_attempt (wpAny_callSpecial?_slot (name := Str.ofString "__next__") ty F.slot_enumerate_next (wpAny_call_entry F.slot_enumerate_next ty F.entry_enumerate_next ?_ (F.args_enumerate_next_1 _))))
  show wpAny _ _ (field (.ref e) 2 >>= _) _ _ _
  refine wpAny_bind (wpAny_field e0 rfl (x := .ref I) rfl (wpAny_bind (RZ.nextOf_tuple_end hh i0 t0 hx fun h' x he hx' => ?_)))
  obtain ⟨o, ho, hc⟩ := hx'
  exact wpAny_bind (wpAny_isInstance (T := "StopIteration") (b := true) ⟨o, ho, hc⟩ isSubtype_stop (wpAny_pure (q _ he)))
end
theorem enT_new (T : Addr) (ts : Array Value) :
    Meets (Builtin.«enumerate.__new__» ⟨[.type "enumerate", .ref T], []⟩) (fun _ R s => s.heap.IsTuple T ts ∧
      R (.ok (.ret (.ref (s.heap.push { cls := .type "tuple_iterator", data := .fields #[.ref T, .int 0 0] }).objs.size)))
        { s with heap := (s.heap.push { cls := .type "tuple_iterator", data := .fields #[.ref T, .int 0 0] }).push { cls := .type "enumerate", data := .fields #[.none, .bool false, .ref s.heap.objs.size, rawInt 0, .none, .none] } }) :=
  .of_wp fun prog w A R s h => by
    obtain ⟨hp, gg, dd, tk, os⟩ := s; obtain ⟨t0, h⟩ := h
    have hsub := sub_enumerate
    have tL : Heap.IsTuple (Shared.heap ⟨hp, gg, dd, tk, os⟩) T ts := t0
    obtain ⟨ob, ho, hc, n, hd⟩ := t0
    wp_walk using AutoSeq1.wpAny_loadPart' ho
    refine wpAny_stack_any fun st => wpAny_pure ?_
    split
    · rename_i c _ _ _ _ _
      cases (c == Value.type "enumerate") <;> (wp_walk using AutoSeq1.wpAny_loadPart' ho, wpAny_pyIter_tuple tL) <;> exact ⟨_, rfl, h⟩
    · wp_walk using AutoSeq1.wpAny_loadPart' ho, wpAny_pyIter_tuple tL
      exact ⟨_, rfl, h⟩
theorem call_enT {prog : Program} {w : World} {A : Around} {E : Value → Shared → Prop} {s : Shared} {T : Addr} {ts : Array Value} {Q : Value → Shared → Prop} (t0 : s.heap.IsTuple T ts)
    (q : ∀ h', IsEnum h' (s.heap.objs.size + 1) s.heap.objs.size 0 .none → h'.IsTupleIter s.heap.objs.size T 0 → (∀ b o, s.heap.get? b = some o → h'.get? b = some o) → Q (.ref (s.heap.objs.size + 1)) { s with heap := h' }) :
    wpAny (model prog w) A (call (.type "enumerate") [.ref T]) Q E s := by
  refine callType_new F.called_enumerate (by decide) (F.typeCall_enumerate_1 _) (F.newCall_enumerate_1 _) (fun obj => F.args_object_init_2 obj _) F.entry_enumerate_new (enT_new T ts) ⟨t0, ?_⟩
  have z : (s.heap.push { cls := .type "tuple_iterator", data := .fields #[.ref T, .int 0 0] }).objs.size = s.heap.objs.size + 1 := Heap.size_push ..
  show _ ∧ _
  rw [z]
  have e0 : IsEnum ((s.heap.push { cls := .type "tuple_iterator", data := .fields #[.ref T, .int 0 0] }).push { cls := .type "enumerate", data := .fields #[.none, .bool false, .ref s.heap.objs.size, rawInt 0, .none, .none] }) (s.heap.objs.size + 1) s.heap.objs.size 0 .none := by
    have := Heap.get?_push_size (s.heap.push { cls := .type "tuple_iterator", data := .fields #[.ref T, .int 0 0] }) (o := { cls := .type "enumerate", data := .fields #[.none, .bool false, .ref s.heap.objs.size, rawInt 0, .none, .none] }) rfl
    rw [z] at this; exact this
  exact ⟨⟨_, e0, rfl⟩, q _ e0 ⟨_, Heap.get?_push_of_some _ (Heap.get?_push_size _ rfl), rfl, rfl⟩ fun b o x => Heap.get?_push_of_some _ (Heap.get?_push_of_some _ x)⟩
/-- the tuple at a, each item in a new pair with its number -/
def IteT (K : PySem.W.Frag) (a : Addr) : L2.It :=
  ⟨fun i H => ∃ (xs : List V) (x : V), SqT K H a xs ∧ xs[i]? = some x, fun i H v H' => ∃ T x, v = .ref T ∧ H T = none ∧ H' = upd H T (.tup [.int (i : Nat), x]) ∧ ∀ xs, SqT K H a xs → xs[i]? = some x, fun i H => ∃ xs : List V, SqT K H a xs ∧ xs.length ≤ i⟩
theorem turn_enT {P : Program} {w : World} {K : PySem.W.Frag} {elts : List Expr} {kk : Nat} {tpos : Pos} (a e I : Addr) :
    Turn P w K (.Tuple elts kk tpos) (IteT K a) [e, I] e (fun i h => (∃ y, IsEnum h e I ((i : Nat) : Int) y) ∧ h.IsTupleIter I a i ∧ e ≠ I) where
  mem := by simp
  obj := fun i h st b hb => by
    obtain ⟨⟨y, e0⟩, ⟨o, ho, hc, hd⟩, _⟩ := st
    rcases (show b = e ∨ b = I by simpa using hb) with z | z
    · rw [z]; exact ⟨_, e0, fun v q => nomatch q⟩
    · rw [z]; exact ⟨o, ho, fun v q => by rw [hd] at q; cases q⟩
  keep := fun i h h' st k => let ⟨⟨y, e0⟩, hi, ne⟩ := st; ⟨⟨y, k e (by simp) _ e0⟩, hi.at fun o q => k I (by simp) o q, ne⟩
  item := by
    intro X hP hw hK hc i pins s σ H E I' hf st hg
    subst hP hw hK
    obtain ⟨⟨y, e0⟩, i0, ne⟩ := st
    obtain ⟨xs, x, hq, hx⟩ := hg
    obtain ⟨its, rv, p, hz⟩ := I'.tuple hq
    obtain ⟨u, hu, ru⟩ := rv.get hx
    have le : e < s.heap.objs.size := Heap.lt_size e0
    have li : I < s.heap.objs.size := by obtain ⟨_, q, _⟩ := i0; exact Heap.lt_size q
    refine enT_item e0 i0 p (x := u) (by simpa using hu) ne fun h' ho hit' hT hsz hk => ⟨_, rfl, wpAny_letOwnedTupleGo_enum (s := { s with heap := h', toks := s.toks + 1 }) ho fun h'' he' sb => ?_⟩
    have t2 : h''.get? s.heap.objs.size = some { cls := .type "tuple", data := .seq #[.int i s.toks, u] } := (sb.2 _ (Nat.ne_of_gt le)).trans hT
    have new : ObjOk X.prog X.w (upd H s.heap.objs.size (.tup [.int (i : Nat), x])) h'' s.heap.objs.size (.tup [.int (i : Nat), x]) := ⟨by show 2 ≤ sizeLine; decide, [.int i s.toks, u], .cons ⟨_, rfl⟩ (.cons ru .nil), ⟨_, t2, rfl, _, rfl⟩⟩
    have I1 : Inv X pins σ (upd H s.heap.objs.size (.tup [.int (i : Nat), x])) { s with heap := h'', toks := s.toks + 1 } :=
      I'.turnedNew (ch := [e, I]) (fun b ob hb q => (sb.2 b (fun z => hb (by simp [z]))).trans (hk b ob (fun z => hb (by simp [z])) (fun z => hb (by simp [z])) q)) hf (Nat.le_refl _) new
    refine ⟨.ref s.heap.objs.size, _, I1, rfl, ⟨_, x, rfl, I'.hok.fresh (Nat.le_refl _), rfl, fun ys hy => ?_⟩, ⟨⟨u, by rw [show ((i + 1 : Nat) : Int) = (i : Int) + 1 by omega]; exact he'⟩, hit'.at fun o q => (sb.2 I (Ne.symm ne)).trans q, ne⟩, fun b hb => ?_⟩
    · rw [I'.tuple_inj hy hq]; exact hx
    · have lb : b < s.heap.objs.size := by
        rcases (show b = e ∨ b = I by simpa using hb) with z | z
        · rw [z]; exact le
        · rw [z]; exact li
      rw [upd_ne (Nat.ne_of_lt lb)]
      exact (hf b hb).1
  done := by
    intro X hP hw hK hc i pins s σ H E I' hf st hg
    subst hP hw hK
    obtain ⟨⟨y, e0⟩, i0, ne⟩ := st
    obtain ⟨xs, hq, hx⟩ := hg
    obtain ⟨its, rv, p, hz⟩ := I'.tuple hq
    obtain ⟨f0, f1, f2, f3, f4, f5⟩ := hf I (by simp)
    have hl := rv.length
    exact enT_end (I'.ok.hd hc) e0 i0 p (by simp; omega) fun h' eb => ⟨rfl, I'.turned (t' := s.toks) (fun b o hb q => eb b o hb q) f0 f1 f3 f4 f5⟩
  self := fun A i s Q E st h => let ⟨⟨_, he⟩, _⟩ := st; wpAny_pyIter_enum he h
/-- enumerate of a list or a tuple -/
def iEnA (K : PySem.W.Frag) (ta : TA) : TI := fun σ H R => ta σ H fun vs H1 => ∃ a xs, vs = [.ref a] ∧ ((SqL K H1 a xs ∧ R (Ite K a) H1) ∨ (SqT K H1 a xs ∧ R (IteT K a) H1))
theorem pi_enA {X : Cx} {e : Expr} {ta : TA} {p pos tpos : Pos} {elts : List Expr} {kk : Nat} (hg : Gl X "enumerate") (hm : X.mg "enumerate" = none) (ha : PA X [e] ta) (hs : starEach [e] X.env = [(false, eval e X.env)]) :
    PI X (.Tuple elts kk tpos) (.Call (.Name "enumerate" p) [e] [] pos) (iEnA X.K ta) := by
  refine ⟨fun pins s σ H R I h => Call_ (ld_blt I hg hm boot_enumerate (PyProof.Rows.callWith_type1 (thn (ha.run pos pins s σ H _ I h) fun us s1 ⟨vs, H1, I1, r1, a, xs, ex, q⟩ => ?_) hs rfl))⟩
  subst ex
  cases r1 with
  | cons r rr =>
    cases rr
    cases r
    have fp : ∀ b ∈ [s1.heap.objs.size + 1, s1.heap.objs.size], FpOk X pins H1 b := fun b hb => by
      have le : s1.heap.objs.size ≤ b := by
        rcases (show b = s1.heap.objs.size + 1 ∨ b = s1.heap.objs.size by simpa using hb) with z | z
        · rw [z]; exact Nat.le_add_right _ _
        · rw [z]; exact Nat.le_refl _
      exact I1.fpOk le (I1.hok.fresh le)
    rcases q with ⟨hq, q⟩ | ⟨hq, q⟩
    · obtain ⟨its, rv, p', hz⟩ := I1.list hq
      exact call_enumerate_list p'.isList fun h' he hit hsz hk => wpAny_pyIter_enum he ⟨s1.heap.objs.size + 1, [s1.heap.objs.size + 1, s1.heap.objs.size], _, _, H1, rfl, I1.kept (t' := s1.toks) hk, turn_enum a (s1.heap.objs.size + 1) s1.heap.objs.size, ⟨⟨.none, he⟩, hit, Nat.succ_ne_self _⟩, fp, q⟩
    · obtain ⟨its, rv, p', hz⟩ := I1.tuple hq
      exact call_enT p' fun h' he hit hk => wpAny_pyIter_enum he ⟨s1.heap.objs.size + 1, [s1.heap.objs.size + 1, s1.heap.objs.size], _, _, H1, rfl, I1.kept (t' := s1.toks) hk, turn_enT a (s1.heap.objs.size + 1) s1.heap.objs.size, ⟨⟨.none, he⟩, hit, Nat.succ_ne_self _⟩, fp, q⟩
end Pv
set_option Elab.async false
set_option linter.all false
set_option maxRecDepth 100000
set_option maxHeartbeats 1000000
namespace Pv
open PySem L2 PySem.Spec PyProof.Rows
section
variable {K : Kx} {ρ : List Addr} {H : L2.Hp}
/-- enumerate -/
theorem irel_enu {a : Addr} {st : Nat → It} (r : IRel K ρ H (Itl K.K a) st) : IRel K ρ H (Ite K.K a) fun i => .enu i (st i) := fun K2 i ρ2 h2 H2 hk hφ x hr => by
  have q := r K2 i ρ2 h2 H2 hk hφ x hr
  dsimp only
  simp only [nextI]
  generalize nextI h2 (st i) = n at q
  cases n with
  | stop => exact q
  | bad => trivial
  | yld d j =>
    obtain ⟨q1, q2, q3⟩ := q
    refine ⟨by rw [q1], q2, fun v H' ⟨T, y, e1, e2, e3, e4⟩ => ?_⟩
    subst e1; subst e3
    obtain ⟨_, _, dr⟩ := q3 y H2 ⟨rfl, e4⟩
    have xx : Ext ρ2 H2 ρ2 (upd H2 T (.tup [.int (i : Nat), y])) := Ext.upd e2
    refine ⟨xx, hr.upd e2, ?_⟩
    have ds : DRs K2 H2 ρ2 [.g (.int i), d] [.int (i : Nat), y] := DRs.cons (by unfold DR GR; rfl) (DRs.one dr)
    cases e : unGs [.g (.int (i : Nat)), d] with
    | some gs => rw [(unGs_some e).1]; unfold DR GR; exact ⟨T, _, rfl, SqT.of upd_same, (ds.toG e).ext xx⟩
    | none => rw [(unGs_none e).1]; unfold DR; exact ⟨T, _, rfl, by rw [if_neg (by decide)]; exact SqT.of upd_same, ds.ext xx⟩
theorem irel_enT {a : Addr} {st : Nat → It} (r : IRel K ρ H (Itt K.K a) st) : IRel K ρ H (IteT K.K a) fun i => .enu i (st i) := fun K2 i ρ2 h2 H2 hk hφ x hr => by
  have q := r K2 i ρ2 h2 H2 hk hφ x hr
  dsimp only
  simp only [nextI]
  generalize nextI h2 (st i) = n at q
  cases n with
  | stop => exact q
  | bad => trivial
  | yld d j =>
    obtain ⟨q1, q2, q3⟩ := q
    refine ⟨by rw [q1], q2, fun v H' ⟨T, y, e1, e2, e3, e4⟩ => ?_⟩
    subst e1; subst e3
    obtain ⟨_, _, dr⟩ := q3 y H2 ⟨rfl, e4⟩
    have xx : Ext ρ2 H2 ρ2 (upd H2 T (.tup [.int (i : Nat), y])) := Ext.upd e2
    refine ⟨xx, hr.upd e2, ?_⟩
    have ds : DRs K2 H2 ρ2 [.g (.int i), d] [.int (i : Nat), y] := DRs.cons (by unfold DR GR; rfl) (DRs.one dr)
    cases e : unGs [.g (.int (i : Nat)), d] with
    | some gs => rw [(unGs_some e).1]; unfold DR GR; exact ⟨T, _, rfl, SqT.of upd_same, (ds.toG e).ext xx⟩
    | none => rw [(unGs_none e).1]; unfold DR; exact ⟨T, _, rfl, by rw [if_neg (by decide)]; exact SqT.of upd_same, ds.ext xx⟩
theorem pair_dr {K2 : Kx} {ρ2 : List Addr} {H2 : L2.Hp} {T : Addr} {d e : D} {x y : V} (hT : H2 T = none) (d1 : DR K2 H2 ρ2 d x) (d2 : DR K2 H2 ρ2 e y) : DR K2 (upd H2 T (.tup [x, y])) ρ2 (mkTup [d, e]) (.ref T) := by
  have xx : Ext ρ2 H2 ρ2 (upd H2 T (.tup [x, y])) := Ext.upd hT
  have ds : DRs K2 H2 ρ2 [d, e] [x, y] := DRs.cons d1 (DRs.one d2)
  cases q : unGs [d, e] with
  | some gs => rw [(unGs_some q).1]; unfold DR GR; exact ⟨T, _, rfl, SqT.of upd_same, (ds.toG q).ext xx⟩
  | none => rw [(unGs_none q).1]; unfold DR; exact ⟨T, _, rfl, by rw [if_neg (by decide)]; exact SqT.of upd_same, ds.ext xx⟩
/-- zip of lists, of tuples -/
theorem irel_zip {a b : Addr} {st su : Nat → It} (r : IRel K ρ H (Itl K.K a) st) (r' : IRel K ρ H (Itl K.K b) su) : IRel K ρ H (Itz K.K a b) fun i => .zip (st i) (su i) := fun K2 i ρ2 h2 H2 hk hφ x hr => by
  have q := r K2 i ρ2 h2 H2 hk hφ x hr
  have q' := r' K2 i ρ2 h2 H2 hk hφ x hr
  dsimp only
  simp only [nextI]
  generalize nextI h2 (st i) = n at q
  generalize nextI h2 (su i) = m at q'
  cases n with
  | bad => cases m <;> trivial
  | stop =>
    obtain ⟨xs, h1, h3⟩ := q
    cases m with
    | bad => trivial
    | stop => obtain ⟨ys, h4, _⟩ := q'; exact ⟨xs, ys, h1, h4, .inl h3⟩
    | yld e k => obtain ⟨_, ⟨ys, _, h4, _⟩, _⟩ := q'; exact ⟨xs, ys, h1, h4, .inl h3⟩
  | yld d j =>
    obtain ⟨q1, ⟨xs, y1, q2, q2'⟩, q3⟩ := q
    cases m with
    | bad => trivial
    | stop =>
      obtain ⟨ys, h1, h3⟩ := q'
      exact ⟨xs, ys, q2, h1, .inr h3⟩
    | yld e k =>
      obtain ⟨p1, ⟨ys, y2, p2, p2'⟩, p3⟩ := q'
      refine ⟨by rw [q1, p1], ⟨xs, ys, y1, y2, q2, p2, q2', p2'⟩, fun v H' ⟨T, z1, z2, e1, e2, e3, e4, e5⟩ => ?_⟩
      subst e1; subst e3
      obtain ⟨_, _, d1⟩ := q3 z1 H2 ⟨rfl, e4⟩
      obtain ⟨_, _, d2⟩ := p3 z2 H2 ⟨rfl, e5⟩
      exact ⟨Ext.upd e2, hr.upd e2, pair_dr e2 d1 d2⟩
theorem irel_zipT {a b : Addr} {st su : Nat → It} (r : IRel K ρ H (Itt K.K a) st) (r' : IRel K ρ H (Itt K.K b) su) : IRel K ρ H (RZ.ItzT K.K a b) fun i => .zip (st i) (su i) := fun K2 i ρ2 h2 H2 hk hφ x hr => by
  have q := r K2 i ρ2 h2 H2 hk hφ x hr
  have q' := r' K2 i ρ2 h2 H2 hk hφ x hr
  dsimp only
  simp only [nextI]
  generalize nextI h2 (st i) = n at q
  generalize nextI h2 (su i) = m at q'
  cases n with
  | bad => cases m <;> trivial
  | stop =>
    obtain ⟨xs, h1, h3⟩ := q
    cases m with
    | bad => trivial
    | stop => obtain ⟨ys, h4, _⟩ := q'; exact ⟨xs, ys, h1, h4, .inl h3⟩
    | yld e k => obtain ⟨_, ⟨ys, _, h4, _⟩, _⟩ := q'; exact ⟨xs, ys, h1, h4, .inl h3⟩
  | yld d j =>
    obtain ⟨q1, ⟨xs, y1, q2, q2'⟩, q3⟩ := q
    cases m with
    | bad => trivial
    | stop =>
      obtain ⟨ys, h1, h3⟩ := q'
      exact ⟨xs, ys, q2, h1, .inr h3⟩
    | yld e k =>
      obtain ⟨p1, ⟨ys, y2, p2, p2'⟩, p3⟩ := q'
      refine ⟨by rw [q1, p1], ⟨xs, ys, y1, y2, q2, p2, q2', p2'⟩, fun v H' ⟨T, z1, z2, e1, e2, e3, e4, e5⟩ => ?_⟩
      subst e1; subst e3
      obtain ⟨_, _, d1⟩ := q3 z1 H2 ⟨rfl, e4⟩
      obtain ⟨_, _, d2⟩ := p3 z2 H2 ⟨rfl, e5⟩
      exact ⟨Ext.upd e2, hr.upd e2, pair_dr e2 d1 d2⟩
end
section
variable {X : Cx} {K : Kx} {ξ : XRel} {Z : WX} {E : Env} {a b c e : Expr} {es : List Expr} {fa fb fc fr : F} {p pos : Pos} {tg : Expr}
theorem PI.imp {t : Expr} {w w' : TI} (h : PI X tg t w) (i : ∀ σ H R, w' σ H R → w σ H R) : PI X tg t w' := ⟨fun pins s σ H R I q => h.run pins s σ H R I (i σ H R q)⟩
/-- the iterator of a list, of a tuple -/
theorem start_list {pins : List (Addr × Obj)} {σ : L2.St} {H : L2.Hp} {s : Shared} {q : Addr} {xs : List V} {R : L2.It → L2.Hp → Prop} {Ex : Value → Shared → Prop} (I : Inv X pins σ H s) (hq : SqL X.K H q xs) (hR : R (Itl X.K q) H) :
    wpAny (model X.prog X.w) X.A (pyIter (.ref q)) (PIE X pins σ tg R) Ex s := by
  obtain ⟨its, _, pl, _⟩ := I.list hq
  refine wpAny_pyIter_list pl.isList ⟨_, [_], _, _, H, rfl, ?_, turn_list q _, ⟨_, Heap.get?_push_size _ rfl, rfl, rfl⟩, ?_, hR⟩
  · exact I.kept fun _ _ z => Heap.get?_push_of_some _ z
  · intro z hz
    rw [List.mem_singleton.mp hz]
    exact I.fpOk (Nat.le_refl _) (I.hok.fresh (Nat.le_refl _))
theorem start_tup {pins : List (Addr × Obj)} {σ : L2.St} {H : L2.Hp} {s : Shared} {q : Addr} {xs : List V} {R : L2.It → L2.Hp → Prop} {Ex : Value → Shared → Prop} (I : Inv X pins σ H s) (hq : SqT X.K H q xs) (hR : R (Itt X.K q) H) :
    wpAny (model X.prog X.w) X.A (pyIter (.ref q)) (PIE X pins σ tg R) Ex s := by
  obtain ⟨its, _, pl, _⟩ := I.tuple hq
  refine wpAny_pyIter_tuple pl ⟨_, [_], _, _, H, rfl, ?_, turn_tuple q _, ⟨_, Heap.get?_push_size _ rfl, rfl, rfl⟩, ?_, hR⟩
  · exact I.kept fun _ _ z => Heap.get?_push_of_some _ z
  · intro z hz
    rw [List.mem_singleton.mp hz]
    exact I.fpOk (Nat.le_refl _) (I.hok.fresh (Nat.le_refl _))
theorem it_view {ρ : List Addr} {h : Hp} {H : L2.Hp} (hr : HR K ρ h H) {d : D} {v : V} {j : It} (dr : DR K H ρ d v) (e : itOf h d = some j) :
    ∃ q, v = .ref q ∧ ((isL h d = true ∧ ∃ xs st, SqL K.K H q xs ∧ IRel K ρ H (Itl K.K q) st ∧ st 0 = j) ∨ (isL h d = false ∧ ∃ xs st, SqT K.K H q xs ∧ IRel K ρ H (Itt K.K q) st ∧ st 0 = j)) := by
  cases d with
  | ref i =>
    obtain ⟨q, hq, rfl⟩ := ref_dr dr
    simp only [itOf] at e
    cases z : h[i]? with
    | none => simp [z] at e
    | some o =>
      cases o with
      | lst ds =>
        simp only [z, Option.some.injEq] at e
        subst e
        obtain ⟨vs, hv, _⟩ := hr.lst hq z
        exact ⟨q, rfl, .inl ⟨by simp [isL, kind, z], vs, _, .inl (.inl hv), irel_live hq, rfl⟩⟩
      | _ => simp [z] at e
  | g x =>
    cases x with
    | tup gs =>
      cases e
      obtain ⟨q, vs, rfl, sq, g⟩ := tup_dr dr
      exact ⟨q, rfl, .inr ⟨rfl, vs, _, sq, irel_tup sq g.toD, rfl⟩⟩
    | lst gs =>
      cases e
      obtain ⟨q, vs, rfl, sq, g⟩ := lst_dr dr
      exact ⟨q, rfl, .inl ⟨rfl, vs, _, .inl sq.rd, irel_list sq g.toD, rfl⟩⟩
    | _ => cases e
  | mix l ds =>
    cases e
    obtain ⟨q, vs, rfl, sq, g⟩ := mix_dr dr
    cases l with
    | true =>
      have sq : Lv K H ρ q vs := sq
      exact ⟨q, rfl, .inl ⟨rfl, vs, _, .inl sq.rd, irel_list sq g, rfl⟩⟩
    | false => exact ⟨q, rfl, .inr ⟨rfl, vs, _, sq, irel_tup sq g, rfl⟩⟩
  | _ => cases e
theorem oi_some {ρ : List Addr} {H : L2.Hp} {σ : L2.St} {R : L2.It → L2.Hp → Prop} {o : Option It} {h : Hp} {n : Nat} (f : AfterI K ξ Z ρ H σ R (oi o h n)) : ∃ j, o = some j ∧ ∀ J st ρ' H', Ext ρ H ρ' H' → HR K ρ' h H' → IRel K ρ' H' J st → st 0 = j → R J H' := by
  cases o with
  | none => exact False.elim f
  | some j => exact ⟨j, rfl, f.2⟩
theorem start_rng {pins : List (Addr × Obj)} {σ : L2.St} {H : L2.Hp} {s : Shared} {q : Addr} {lo hi : Int} {R : L2.It → L2.Hp → Prop} {Ex : Value → Shared → Prop} (I : Inv X pins σ H s) (hq : H q = some (.rng lo hi)) (b : -(2 ^ 62) ≤ lo ∧ lo < 2 ^ 62 ∧ -(2 ^ 62) ≤ hi ∧ hi < 2 ^ 62) (hR : R (Itr lo (hi - lo).toNat) H) :
    wpAny (model X.prog X.w) X.A (pyIter (.ref q)) (PIE X pins σ tg R) Ex s := by
  obtain ⟨t, u, v, ho⟩ := I.hok q _ hq
  refine wpAny_pyIter_range ho (small_one b.1 b.2.1 b.2.2.1 b.2.2.2) ?_
  refine ⟨_, [_], _, _, H, rfl, ?_, turn_range _ lo (hi - lo).toNat, ?_, ?_, hR⟩
  · exact I.kept fun _ _ z => Heap.get?_push_of_some _ z
  · have e1 : lo + ((0 : Nat) : Int) * 1 = lo := by simp
    have e2 : (((hi - lo).toNat : Nat) : Int) - ((0 : Nat) : Int) = Builtin.Range.rangeSize lo hi 1 := by rw [rangeSize_one]; split <;> omega
    show IsRangeIter _ _ (lo + ((0 : Nat) : Int) * 1) ((((hi - lo).toNat : Nat) : Int) - ((0 : Nat) : Int)) 1
    rw [e1, e2]
    exact Heap.get?_push_size _ rfl
  · intro z hz
    rw [List.mem_singleton.mp hz]
    exact I.fpOk (Nat.le_refl _) (I.hok.fresh (Nat.le_refl _))
theorem itX_or (h : Hp) (d : D) : (∃ lo hi, d = .g (.rng lo hi)) ∨ itX h d = itOf h d := by
  unfold itX
  split
  · exact .inl ⟨_, _, rfl⟩
  · exact .inr rfl
theorem pi_itxF (hK : X.K = K.K) (ha : PE X a (tE K ξ Z E fa)) : PI X tg a (tI K ξ Z E (itxF fa)) := by
  obtain ⟨k, y⟩ := K; dsimp only at hK; subst hK
  refine ⟨fun pins s σ H R I ⟨ρ, st, h, sr, hr, af⟩ => ?_⟩
  refine thn (ha.run pins s σ H _ I ⟨ρ, st, h, sr, hr, AfterI.bind af⟩) fun u s1 ⟨x, H1, I1, r1, ρ1, d, h1, x1, hr1, dr1, af1⟩ => ?_
  obtain ⟨j, e, f⟩ := oi_some af1
  rcases itX_or h1 d with ⟨lo, hi, rfl⟩ | ei
  · cases e
    unfold DR GR at dr1
    obtain ⟨q, rfl, hq, b⟩ := dr1
    cases r1
    exact start_rng I1 hq b (f _ _ _ _ Ext.refl hr1 (irel_rng (lo := lo) (n := (hi - lo).toNat)) rfl)
  rw [ei] at e
  obtain ⟨q, rfl, ⟨_, xs, st', sq, ir, e0⟩ | ⟨_, xs, st', sq, ir, e0⟩⟩ := it_view hr1 dr1 e
  · cases r1
    exact start_list I1 sq (f _ _ _ _ Ext.refl hr1 ir e0)
  · cases r1
    exact start_tup I1 sq (f _ _ _ _ Ext.refl hr1 ir e0)
theorem okI_ok {i : Int} (h : okI i = true) : -(2 ^ 62) ≤ i ∧ i < 2 ^ 62 := by
  have := of_decide_eq_true h
  omega
theorem pi_rng1F (hs1 : isStar a = false) (ha : PE X a (tE K ξ Z E fa)) (hg : Gl X "range") (hm : X.mg "range" = none) : PI X tg (.Call (.Name "range" p) [a] [] pos) (tI K ξ Z E (itr1F fa)) :=
  PI.imp (pi_range1 hg hm (pa_cons ha pa_nil (star_no hs1)) (star_no hs1)) fun σ H R ⟨ρ, s, h, sr, hr, af⟩ => by
    refine ⟨ρ, s, h, sr, hr, After.mono (AfterI.bind af) fun v H1 ⟨ρ1, d, h1, x1, hr1, dr1, af1⟩ => ?_⟩
    obtain ⟨j, e, f⟩ := oi_some af1
    unfold rg1 at e
    split at e
    · rename_i hi
      split at e
      · rename_i z
        cases e
        cases int_dr dr1
        have b := okI_ok z
        exact ⟨hi, rfl, b.1, b.2, f _ _ _ _ Ext.refl hr1 (irel_rng (lo := 0) (n := hi.toNat)) rfl⟩
      · cases e
    · cases e
theorem pi_rng2F (hs1 : isStar a = false) (hs2 : isStar b = false) (ha : PE X a (tE K ξ Z E fa)) (hb : PE X b (tE K ξ Z E fb)) (hg : Gl X "range") (hm : X.mg "range" = none) : PI X tg (.Call (.Name "range" p) [a, b] [] pos) (tI K ξ Z E (itr2F fa fb)) :=
  PI.imp (pi_range2 hg hm (pa_cons ha (pa_cons hb pa_nil (star_no hs2)) (star_no hs1)) (by rw [star_no hs1, star_no hs2]; rfl) (star_no hs2)) fun σ H R ⟨ρ, s, h, sr, hr, af⟩ => by
    refine ⟨ρ, s, h, sr, hr, After.mono (AfterI.bind af) fun v H1 ⟨ρ1, d, h1, x1, hr1, dr1, af1⟩ => ⟨ρ1, s, h1, sr.ext x1, hr1, After.mono (AfterI.bind af1) fun w H2 ⟨ρ2, g, h2, x2, hr2, dr2, af2⟩ => ?_⟩⟩
    obtain ⟨j, e, f⟩ := oi_some af2
    unfold rg2 at e
    split at e
    · rename_i lo hi
      split at e
      · rename_i z
        cases e
        cases int_dr dr1
        cases int_dr dr2
        rw [Bool.and_eq_true] at z
        have b := okI_ok z.1
        have c := okI_ok z.2
        exact ⟨_, _, rfl, ⟨b.1, b.2, c.1, c.2⟩, f _ _ _ _ Ext.refl hr2 irel_rng rfl⟩
      · cases e
    · cases e
theorem pi_iteF (hK : X.K = K.K) {elts : List Expr} {kk : Nat} {tp : Pos} (hs1 : isStar a = false) (ha : PE X a (tE K ξ Z E fa)) (hg : Gl X "enumerate") (hm : X.mg "enumerate" = none) : PI X (.Tuple elts kk tp) (.Call (.Name "enumerate" p) [a] [] pos) (tI K ξ Z E (iteF fa)) := by
  obtain ⟨k, y⟩ := K; dsimp only at hK; subst hK
  refine PI.imp (pi_enA hg hm (pa_cons ha pa_nil (star_no hs1)) (star_no hs1)) fun σ H R ⟨ρ, s, h, sr, hr, af⟩ => ?_
  refine ⟨ρ, s, h, sr, hr, After.mono (AfterI.bind af) fun v H1 ⟨ρ1, d, h1, x1, hr1, dr1, af1⟩ => ?_⟩
  obtain ⟨j, e, f⟩ := oi_some af1
  unfold enuV at e
  obtain ⟨j', e1, rfl⟩ := omap_some e
  obtain ⟨q, rfl, ⟨_, xs, st', sq, ir, rfl⟩ | ⟨_, xs, st', sq, ir, rfl⟩⟩ := it_view hr1 dr1 e1
  · exact ⟨q, xs, rfl, .inl ⟨sq, f _ _ _ _ Ext.refl hr1 (irel_enu ir) rfl⟩⟩
  · exact ⟨q, xs, rfl, .inr ⟨sq, f _ _ _ _ Ext.refl hr1 (irel_enT ir) rfl⟩⟩
/-! ### range with a step -/
theorem itc_rel {lo c : Int} {n : Nat} {K : Kx} {ρ : List Addr} {H : L2.Hp} : IRel K ρ H (Itc lo c n) fun i => .seq (((rangeL lo c n).drop i).map .g) := fun K2 i ρ2 h2 H2 hk hφ x hr => by
  have get : ∀ (n : Nat) (lo : Int) (i : Nat), (rangeL lo c n).drop i = if i < n then .int (lo + i * c) :: (rangeL lo c n).drop (i + 1) else [] := by
    intro n
    induction n with
    | zero => intro lo i; simp [rangeL]
    | succ n ih =>
      intro lo i
      cases i with
      | zero => simp [rangeL]
      | succ i =>
        simp only [rangeL, List.drop_succ_cons]
        rw [ih (lo + c) i]
        by_cases h : i < n
        · rw [if_pos h, if_pos (by omega)]
          have e : lo + c + (i : Int) * c = lo + ((i + 1 : Nat) : Int) * c := by
            rw [Int.natCast_add, Int.add_mul]
            omega
          rw [e]
        · rw [if_neg h, if_neg (by omega)]
  dsimp only
  rw [get n lo i]
  by_cases h : i < n
  · rw [if_pos h]
    exact ⟨rfl, h, fun y H' ⟨e1, e2⟩ => by subst e1; subst e2; exact ⟨Ext.refl, hr, by unfold DR GR; rfl⟩⟩
  · rw [if_neg h]
    exact Nat.le_of_not_lt h
theorem rng_len {i j c : Int} : Builtin.Range.rangeSize i j c = (rngLen i j c : Int) := by
  unfold Builtin.Range.rangeSize rngLen
  by_cases hc : c > 0
  · rw [if_pos hc, if_pos hc]
    by_cases h : i < j
    · rw [if_pos h, if_pos h]
      have : 0 ≤ (j - i - 1) / c := Int.ediv_nonneg (by omega) (by omega)
      omega
    · rw [if_neg h, if_neg h]; rfl
  · rw [if_neg hc, if_neg hc]
    by_cases h : j < i
    · rw [if_pos h, if_pos h]
      have : 0 ≤ (i - j - 1) / (-c) := Int.ediv_nonneg (by omega) (by omega)
      omega
    · rw [if_neg h, if_neg h]; rfl
theorem rng_small {i j c : Int} (hi : okS i = true) (hj : okS j = true) (hc : okC c = true) : RgC i j c (rngLen i j c) := by
  have a := of_decide_eq_true hi
  have b := of_decide_eq_true hj
  have d := of_decide_eq_true hc
  refine ⟨d.2.2, by omega, ?_, rng_len⟩
  unfold Builtin.Range.small
  simp only [Builtin.Range.rangeFitsLong, Bool.and_eq_true, Bool.or_eq_true, decide_eq_true_eq, beq_iff_eq]
  have up : Builtin.Range.rangeSize i j c ≤ 3000000000000 ∧ 0 ≤ Builtin.Range.rangeSize i j c := by
    unfold Builtin.Range.rangeSize
    split
    · split
      · have h1 : (j - i - 1) / c ≤ j - i - 1 := Int.ediv_le_self _ (by omega)
        have h2 : 0 ≤ (j - i - 1) / c := Int.ediv_nonneg (by omega) (by omega)
        omega
      · omega
    · split
      · have h1 : (i - j - 1) / (-c) ≤ i - j - 1 := Int.ediv_le_self _ (by omega)
        have h2 : 0 ≤ (i - j - 1) / (-c) := Int.ediv_nonneg (by omega) (by omega)
        omega
      · omega
  generalize Builtin.Range.rangeSize i j c = n at up
  refine ⟨⟨⟨⟨⟨by omega, by omega⟩, by omega, by omega⟩, by omega, by omega⟩, by omega, by omega⟩, .inr ?_⟩
  by_cases h : c > 0
  · rw [if_pos h]
    simp only [Bool.and_eq_true, decide_eq_true_eq]
    omega
  · rw [if_neg h]
    simp only [Bool.and_eq_true, decide_eq_true_eq]
    omega
theorem rg3_some {x y z : D} {l : List G} (e : rg3L x y z = some l) : ∃ i j c : Int, x = .g (.int i) ∧ y = .g (.int j) ∧ z = .g (.int c) ∧ RgC i j c (rngLen i j c) ∧ l = rangeL i c (rngLen i j c) := by
  unfold rg3L at e
  split at e
  · rename_i i j c
    split at e
    · rename_i q
      simp only [Bool.and_eq_true] at q
      cases e
      exact ⟨i, j, c, rfl, rfl, rfl, rng_small q.1.1 q.1.2 q.2, rfl⟩
    · cases e
  · cases e
theorem pi_rng3F (hs1 : isStar a = false) (hs2 : isStar b = false) (hs3 : isStar c = false) (ha : PE X a (tE K ξ Z E fa)) (hb : PE X b (tE K ξ Z E fb)) (hc : PE X c (tE K ξ Z E fc)) (hg : Gl X "range") (hm : X.mg "range" = none) : PI X tg (.Call (.Name "range" p) [a, b, c] [] pos) (tI K ξ Z E (itr3F fa fb fc)) :=
  PI.imp (pi_range3 hg hm (pa_cons ha (pa_cons hb (pa_cons hc pa_nil (star_no hs3)) (star_no hs2)) (star_no hs1)) (by rw [star_no hs1, star_no hs2, star_no hs3]) (by rw [star_no hs2, star_no hs3]; rfl)) fun σ H R ⟨ρ, s, h, sr, hr, af⟩ => by
    refine ⟨ρ, s, h, sr, hr, After.mono (AfterI.bind af) fun v H1 ⟨ρ1, d, h1, x1, hr1, dr1, af1⟩ => ⟨ρ1, s, h1, sr.ext x1, hr1, After.mono (AfterI.bind af1) fun w H2 ⟨ρ2, g, h2, x2, hr2, dr2, af2⟩ => ⟨ρ2, s, h2, (sr.ext x1).ext x2, hr2, After.mono (AfterI.bind af2) fun u H3 ⟨ρ3, k, h3, x3, hr3, dr3, af3⟩ => ?_⟩⟩⟩
    obtain ⟨j, e, f⟩ := oi_some af3
    unfold rg3 at e
    obtain ⟨l, e1, rfl⟩ := omap_some e
    obtain ⟨i, j, c, rfl, rfl, rfl, rc, rfl⟩ := rg3_some e1
    cases int_dr dr1
    cases int_dr dr2
    cases int_dr dr3
    exact ⟨i, j, c, _, rfl, rc, f _ _ _ _ Ext.refl hr3 itc_rel rfl⟩
theorem pi_itzF (hK : X.K = K.K) {elts : List Expr} {kk : Nat} {tp : Pos} (hs1 : isStar a = false) (hs2 : isStar b = false) (ha : PE X a (tE K ξ Z E fa)) (hb : PE X b (tE K ξ Z E fb)) (hg : Gl X "zip") (hm : X.mg "zip" = none) :
    PI X (.Tuple elts kk tp) (.Call (.Name "zip" p) [a, b] [] pos) (tI K ξ Z E (itzF fa fb)) := by
  obtain ⟨k, y⟩ := K; dsimp only at hK; subst hK
  refine PI.imp (RZ.pi_zipA hg hm (pa_cons ha (pa_cons hb pa_nil (star_no hs2)) (star_no hs1)) (star_no hs1) (by rw [star_no hs2]; rfl)) fun σ H R ⟨ρ, s, h, sr, hr, af⟩ => ?_
  refine ⟨ρ, s, h, sr, hr, After.mono (AfterI.bind af) fun v H1 ⟨ρ1, d, h1, x1, hr1, dr1, af1⟩ => ⟨ρ1, s, h1, sr.ext x1, hr1, After.mono (AfterI.bind af1) fun w H2 ⟨ρ2, g, h2, x2, hr2, dr2, af2⟩ => ?_⟩⟩
  obtain ⟨j, e, f⟩ := oi_some af2
  unfold zipV at e
  split at e
  · rename_i z
    split at e
    · rename_i j1 j2 e1 e2
      cases e
      have z' : isL h2 d = isL h2 g := beq_iff_eq.mp z
      obtain ⟨q, rfl, c1⟩ := it_view hr2 (dr1.ext x2) e1
      obtain ⟨q', rfl, c2⟩ := it_view hr2 dr2 e2
      rcases c1 with ⟨l1, xs, st1, sq1, ir1, rfl⟩ | ⟨l1, xs, st1, sq1, ir1, rfl⟩ <;> rcases c2 with ⟨l2, ys, st2, sq2, ir2, rfl⟩ | ⟨l2, ys, st2, sq2, ir2, rfl⟩
      · exact ⟨q, q', xs, ys, rfl, .inl ⟨sq1, sq2, f _ _ _ _ Ext.refl hr2 (irel_zip ir1 ir2) rfl⟩⟩
      · rw [l1, l2] at z'; cases z'
      · rw [l1, l2] at z'; cases z'
      · exact ⟨q, q', xs, ys, rfl, .inr ⟨sq1, sq2, f _ _ _ _ Ext.refl hr2 (irel_zipT ir1 ir2) rfl⟩⟩
    · cases e
  · cases e
/-! ### for -/
theorem ps_freF {body : List Stmt} {t : TF} (hp : PassesOwn (model X.prog X.w) X.A X.env X.xe) (hc : X.calm = true) (hi : PI X tg a (tI K ξ Z E fa)) (hg : PG X tg (tG K E t)) (ht : ∀ d s h, Tame (t d E s h)) (hb : PSs X body (tS K ξ Z E fb)) (hs : ∀ x, foldedSetIterable a X.env x = pure x) :
    PS X (.For tg a body [] pos) (tS K ξ Z E (freF t fa fb)) :=
  PS.imp (ps_for hp hc hi hg hb hs) fun Dn σ H ⟨ρ, s, h, sr, hr, af⟩ => by
    refine ⟨ρ, s, h, sr, hr, ?_⟩
    unfold freF at af
    generalize fa E s h = o at af
    cases o <;> first | exact False.elim af | skip
    · rename_i j u h1
      cases u with
      | some u => exact False.elim af
      | none =>
        refine ⟨rfl, fun J st ρ1 H1 x1 hr1 ir e0 => ?_⟩
        subst e0
        replace af : AfterS K ξ Z ρ H Dn (forLoop t fb E E.fuel (st 0) s h1) := af
        refine ⟨fun i m σ H => ∃ ρ s h, Ext ρ1 H1 ρ H ∧ SR K H ρ s σ ∧ HR K ρ h H ∧ AfterS K ξ Z ρ H Dn (forLoop t fb E m (st i) s h), ⟨_, ρ1, s, h1, Ext.refl, sr.ext x1, hr1, AfterS.ext af x1⟩, ?_⟩
        rintro i m σ H ⟨ρ, s, h, x, sr, hr, af⟩
        cases m with
        | zero => exact False.elim af
        | succ m =>
          have q := ir K i ρ h H rfl (fun b hb => .inl hb) (x.w _) hr
          unfold forLoop at af
          generalize nextI h (st i) = n at q af
          cases n with
          | bad => exact False.elim af
          | stop => exact .inl ⟨q, af σ ρ H Ext.refl hr sr⟩
          | yld d j =>
            obtain ⟨q1, q2, q3⟩ := q
            subst q1
            refine .inr ⟨q2, fun σ' H' => ∃ ρ s h, Ext ρ1 H1 ρ H' ∧ SR K H' ρ s σ' ∧ HR K ρ h H' ∧ AfterS K ξ Z ρ H' Dn (forLoop t fb E m (st (i + 1)) s h), fun σ' H' q => ⟨m, Nat.lt_succ_self _, q⟩, fun y H' yl => ?_⟩
            obtain ⟨xy, hry, dy⟩ := q3 y H' yl
            refine ⟨ρ, s, h, d, sr.ext xy, hry, dy, ?_⟩
            replace af : AfterS K ξ Z ρ H' Dn ((calm (t d E s h)).onN fun s h => (match fb E s h with | .nxt s h => forLoop t fb E m (st (i + 1)) s h | .cnt s h => forLoop t fb E m (st (i + 1)) s h | .brk s h => .nxt s h | o => o)) := AfterS.ext af xy
            have tm := ht d s h
            generalize t d E s h = o at af tm
            cases o <;> first | exact False.elim af | (exact absurd rfl (tm.1 _ _).1) | (exact absurd rfl (tm.1 _ _).2) | (exact absurd rfl (tm.2 _ _)) | skip
            rename_i s2 h2
            intro σ2 ρ2 H2 x2 hr2 sr2
            refine ⟨ρ2, s2, h2, sr2, hr2, ?_⟩
            replace af := AfterS.ext af x2
            simp only [calm, Out.onN] at af
            have xx := (x.trans xy).trans x2
            generalize fb E s2 h2 = o at af
            cases o <;> first | exact False.elim af | exact af | skip
            · exact fun σ3 ρ3 H3 x3 hr3 sr3 => ⟨ρ3, _, _, xx.trans x3, sr3, hr3, AfterS.ext af x3⟩
            · exact fun σ3 ρ3 H3 x3 hr3 sr3 => ⟨ρ3, _, _, xx.trans x3, sr3, hr3, AfterS.ext af x3⟩
    · exact fun cls dd ρ' H' x hr' q => af cls dd σ ρ' H' x hr' (sr.ext x) q
end
end Pv
set_option Elab.async false
set_option linter.all false
set_option maxRecDepth 100000
set_option maxHeartbeats 1000000
namespace Pv
open PySem L2 PySem.Spec PyProof.Rows
/-! ### wiping -/
theorem wipeL_get : ∀ (vs : List Nat) (σ : L2.St) (j : Nat), (L2.wipe σ vs)[j]? = if j ∈ vs ∧ j < σ.length then some none else σ[j]?
  | [], σ, j => by simp [L2.wipe]
  | v :: vs, σ, j => by
    unfold L2.wipe
    rw [List.getElem?_set, wipe_length, wipeL_get vs σ j]
    by_cases h1 : v = j
    · subst h1
      by_cases h2 : v < σ.length
      · simp [h2]
      · simp [h2]
    · simp only [h1, if_false, List.mem_cons]
      have : (j = v ∨ j ∈ vs) ↔ j ∈ vs := ⟨fun h => h.resolve_left fun e => h1 e.symm, .inr⟩
      simp only [this]
theorem wipe_set {vs : List Nat} {σ : L2.St} {i : Nat} {x : Option V} (h : i ∈ vs) : L2.wipe (σ.set i x) vs = L2.wipe σ vs := by
  apply List.ext_getElem?
  intro j
  rw [wipeL_get, wipeL_get, List.length_set]
  by_cases hj : j ∈ vs ∧ j < σ.length
  · rw [if_pos hj, if_pos hj]
  · rw [if_neg hj, if_neg hj, List.getElem?_set]
    by_cases e : i = j
    · subst e
      have : ¬ i < σ.length := fun z => hj ⟨h, z⟩
      rw [if_pos rfl, if_neg this, List.getElem?_eq_none (by omega)]
    · rw [if_neg e]
theorem wipe_wipe {vs : List Nat} {σ : L2.St} : L2.wipe (L2.wipe σ vs) vs = L2.wipe σ vs := by
  apply List.ext_getElem?
  intro j
  rw [wipeL_get, wipe_length, wipeL_get]
  split <;> rfl
theorem wipeS_get : ∀ (vs : List Nat) (s : St) (j : Nat) (d : D), (wipe s vs)[j]? = some (some d) → j ∉ vs ∧ s[j]? = some (some d)
  | [], s, j, d, h => ⟨by simp, h⟩
  | v :: vs, s, j, d, h => by
    unfold wipe at h
    obtain ⟨h1, h2⟩ := wipeS_get vs (s.set v none) j d h
    rw [List.getElem?_set] at h2
    split at h2
    · split at h2 <;> cases h2
    · rename_i e
      exact ⟨by simp only [List.mem_cons, not_or]; exact ⟨fun z => e z.symm, h1⟩, h2⟩
theorem wipeS_len : ∀ (vs : List Nat) (s : St), (wipe s vs).length = s.length
  | [], s => rfl
  | v :: vs, s => by unfold wipe; rw [wipeS_len vs, List.length_set]
section
variable {K : Kx} {ρ : List Addr} {H : L2.Hp} {s : St} {σ : L2.St}
theorem SR.wipe (hx : K.y.xn = none) (r : SR K H ρ s σ) (vs : List Nat) : SR K H ρ (wipe s vs) (L2.wipe σ vs) :=
  ⟨by rw [wipeS_len, wipe_length, r.len], fun i d e => by
    obtain ⟨h1, h2⟩ := wipeS_get vs s i d e
    obtain ⟨v, h3, h4⟩ := r.get i d h2
    refine ⟨v, ?_, h4⟩
    rw [wipeL_get, if_neg fun z => h1 z.1]
    exact h3, (fun i a d e => by rw [hx] at e; cases e), (fun i a dd f g e => by rw [hx] at e; cases e)⟩
end
/-! ### the targets of a comprehension -/
mutual
def tgOk (own : List Nat) : T → Bool
  | .tn i => own.contains i
  | .tt ts => tgsOk own ts
  | _ => false
def tgsOk (own : List Nat) : T → Bool
  | .nil => true
  | .cns t r => tgOk own t && tgsOk own r
  | _ => false
end
def tgLen : T → Nat
  | .cns _ r => tgLen r + 1
  | _ => 0
mutual
def tgG (K : PySem.W.Frag) : T → TG
  | .tn i => gName i
  | .tt ts => gTA K (tgLen ts) (tgGs K ts)
  | _ => fun _ _ _ _ => False
def tgGs (K : PySem.W.Frag) : T → TGs
  | .nil => gNil
  | .cns t r => gCons (tgG K t) (tgGs K r)
  | _ => fun _ _ _ _ => False
end
theorem tg_shape {own : List Nat} (t : T) : (tgOk own t = true → ∀ {s s' : St} {h h' : Hp} {E : Env} {d : D}, denT t d E s h = .nxt s' h' → h' = h) ∧
    (tgsOk own t = true → ∀ {s s' : St} {h h' : Hp} {E : Env} {ds : List D}, denTs t ds E s h = .nxt s' h' → h' = h ∧ ds.length = tgLen t) := by
  induction t with
  | tn i => exact ⟨fun _ {s s' h h' E d} e => by cases e; rfl, fun ok => by simp [tgsOk] at ok⟩
  | tt ts ih =>
    refine ⟨fun ok {s s' h h' E d} e => ?_, fun ok => by simp [tgsOk] at ok⟩
    simp only [denT] at e
    simp only [tgOk] at ok
    split at e
    · exact (ih.2 ok e).1
    · cases e
  | nil =>
    refine ⟨fun ok => by simp [tgOk] at ok, fun ok {s s' h h' E ds} e => ?_⟩
    simp only [denTs, ttNil] at e
    cases ds with
    | cons d r => cases e
    | nil => cases e; exact ⟨rfl, rfl⟩
  | cns t r ih1 ih2 =>
    refine ⟨fun ok => by simp [tgOk] at ok, fun ok {s s' h h' E ds} e => ?_⟩
    simp only [tgsOk, Bool.and_eq_true] at ok
    cases ds with
    | nil => simp [denTs] at e
    | cons d ds =>
      simp only [denTs] at e
      cases e1 : denT t d E s h <;> rw [e1] at e <;> simp only [Out.onN] at e <;> first | (cases e; done) | skip
      rename_i s1 h1
      have z1 := ih1.1 ok.1 e1
      obtain ⟨z2, z3⟩ := ih2.2 ok.2 e
      exact ⟨z2.trans z1, by simp [tgLen, z3]⟩
  | _ => exact ⟨fun ok => by simp [tgOk] at ok, fun ok => by simp [tgsOk] at ok⟩
theorem tg_run {own : List Nat} (t : T) : (tgOk own t = true → ∀ {K : Kx} {ρ : List Addr} {H : L2.Hp} {s s' : St} {σ : L2.St} {h h' : Hp} {E : Env} {d : D} {v : V} {Q : L2.St → L2.Hp → Prop}, SR K H ρ s σ → DR K H ρ d v → denT t d E s h = .nxt s' h' →
      (∀ σ', SR K H ρ s' σ' → L2.wipe σ' own = L2.wipe σ own → Q σ' H) → tgG K.K t v σ H Q) ∧
    (tgsOk own t = true → ∀ {K : Kx} {ρ : List Addr} {H : L2.Hp} {s s' : St} {σ : L2.St} {h h' : Hp} {E : Env} {ds : List D} {vs : List V} {Q : L2.St → L2.Hp → Prop}, SR K H ρ s σ → DRs K H ρ ds vs → denTs t ds E s h = .nxt s' h' →
      (∀ σ', SR K H ρ s' σ' → L2.wipe σ' own = L2.wipe σ own → Q σ' H) → tgGs K.K t vs σ H Q) := by
  induction t with
  | tn i =>
    refine ⟨fun ok {K ρ H s s' σ h h' E d v Q} sr dr e q => ?_, fun ok => by simp [tgsOk] at ok⟩
    simp only [denT, tnT, Out.nxt.injEq] at e
    obtain ⟨rfl, rfl⟩ := e
    simp only [tgOk, List.contains_iff_mem] at ok
    simp only [tgG, gName]
    exact q _ (sr.set i dr) (wipe_set ok)
  | tt ts ih =>
    refine ⟨fun ok {K ρ H s s' σ h h' E d v Q} sr dr e q => ?_, fun ok => by simp [tgsOk] at ok⟩
    simp only [denT] at e
    simp only [tgOk] at ok
    split at e
    · rename_i ds eds
      obtain ⟨a, vs, rfl, sq, dv⟩ := tup_of dr eds
      have := ((tg_shape ts).2 ok e).2
      simp only [tgG, gTA]
      exact ⟨a, vs, rfl, sq, by rw [← dv.length]; exact this, ih.2 ok sr dv e q⟩
    · cases e
  | nil =>
    refine ⟨fun ok => by simp [tgOk] at ok, fun ok {K ρ H s s' σ h h' E ds vs Q} sr dr e q => ?_⟩
    simp only [denTs, ttNil] at e
    cases ds with
    | cons d r => cases e
    | nil =>
      cases e
      simp only [tgGs, gNil]
      exact ⟨dr.inv0, q σ sr rfl⟩
  | cns t r ih1 ih2 =>
    refine ⟨fun ok => by simp [tgOk] at ok, fun ok {K ρ H s s' σ h h' E ds vs Q} sr dr e q => ?_⟩
    simp only [tgsOk, Bool.and_eq_true] at ok
    cases ds with
    | nil => simp [denTs] at e
    | cons d ds =>
      obtain ⟨v, vr, rfl, d1, d2⟩ := dr.inv
      simp only [denTs] at e
      cases e1 : denT t d E s h <;> rw [e1] at e <;> simp only [Out.onN] at e <;> first | (cases e; done) | skip
      simp only [tgGs, gCons]
      exact ⟨v, vr, rfl, ih1.1 ok.1 sr d1 e1 fun σ1 sr1 w1 => ih2.2 ok.2 sr1 d2 e fun σ2 sr2 w2 => q σ2 sr2 (w2.trans w1)⟩
  | _ => exact ⟨fun ok => by simp [tgOk] at ok, fun ok => by simp [tgsOk] at ok⟩
/-- names as the targets of a for, of an assignment too -/
theorem tg_nxt {own : List Nat} (t : T) : (tgOk own t = true → ∀ d E s h, Tame (denT t d E s h)) ∧ (tgsOk own t = true → ∀ ds E s h, Tame (denTs t ds E s h)) := by
  have bad : ∀ n, Tame (.bad n) := fun n => ⟨fun _ _ => ⟨nofun, nofun⟩, nofun⟩
  induction t with
  | tn i => exact ⟨fun _ d E s h => tame_tn i d E s h, fun ok => by simp [tgsOk] at ok⟩
  | tt ts ih =>
    refine ⟨fun ok d E s h => ?_, fun ok => by simp [tgsOk] at ok⟩
    simp only [denT]
    simp only [tgOk] at ok
    split
    · exact ih.2 ok _ _ _ _
    · exact bad _
  | nil =>
    refine ⟨fun ok => by simp [tgOk] at ok, fun ok ds E s h => ?_⟩
    simp only [denTs, ttNil]
    cases ds with
    | cons d r => exact bad _
    | nil => exact ⟨fun _ _ => ⟨nofun, nofun⟩, nofun⟩
  | cns t r ih1 ih2 =>
    refine ⟨fun ok => by simp [tgOk] at ok, fun ok ds E s h => ?_⟩
    simp only [tgsOk, Bool.and_eq_true] at ok
    cases ds with
    | nil => simp only [denTs]; exact bad _
    | cons d ds =>
      simp only [denTs]
      have := ih1.1 ok.1 d E s h
      generalize denT t d E s h = o at this
      cases o <;> first | exact ih2.2 ok.2 _ _ _ _ | exact this
  | _ => exact ⟨fun ok => by simp [tgOk] at ok, fun ok => by simp [tgsOk] at ok⟩
/-- the comprehension's own list, out of sight -/
abbrev Kx.add (K : Kx) (D : Addr) : Kx := ⟨K.K, D :: K.y.φ, none⟩
section
variable {K : Kx} {ρ ρ1 : List Addr} {H H1 : L2.Hp} {s : St} {σ : L2.St} {h : Hp} {D' : Addr} {o : HO}
theorem add_hφ (hD : H D' = none) : ∀ b ∈ (K.add D').y.φ, b ∈ K.y.φ ∨ H b = none := fun b hb => by
  rcases List.mem_cons.mp hb with rfl | hb
  · exact .inr hD
  · exact .inl hb
theorem HR.track (r : HR K ρ h H) (hD : H D' = none) : HR (K.add D') ρ h (L2.upd H D' o) :=
  ⟨r.len, r.nd, fun b hb => by
    rcases List.mem_cons.mp hb with rfl | hb
    · rw [upd_same]; simp
    · exact al_upd r.al b hb, fun i ob a h1 h2 => by
    have q := r.obj i ob a h1 h2
    have : OR (K.add D') H ρ ob a := by
      cases ob with
      | lst ds => obtain ⟨vs, e, d⟩ := q; exact ⟨vs, e, d.more (K := K) (K2 := K.add D') rfl (add_hφ hD)⟩
      | dic kvs => obtain ⟨vs, e, d⟩ := q; exact ⟨vs, e, d.map fun _ _ z => z.more (K := K) (K2 := K.add D') rfl (add_hφ hD)⟩
      | ins c fs => obtain ⟨dx, vs, e, d⟩ := q; exact ⟨dx, vs, e, d.map fun _ _ z => z.more (K := K) (K2 := K.add D') rfl (add_hφ hD)⟩
      | _ => exact q.elim
    exact this.ext (Ext.upd hD) (upd_ne fun e => r.fresh hD (e ▸ List.mem_of_getElem? h2))⟩
theorem SR.track (r : SR K H ρ s σ) (hD : H D' = none) : SR (K.add D') (L2.upd H D' o) ρ s σ := (r.more (K := K) (K2 := K.add D') rfl (add_hφ hD) rfl).ext (Ext.upd hD)
theorem Ext.updNew (x : Ext ρ1 H1 ρ H) (hD : H1 D' = none) : Ext ρ1 H1 ρ (L2.upd H D' o) :=
  ⟨x.pre, x.new, fun a u e n => by rw [upd_ne (ne_of_none e hD)]; exact x.keep a u e n, fun a u e n => by rw [upd_ne (ne_of_none e hD)]; exact x.imm a u e n, fun a h => x.alive a (upd_none h)⟩
theorem off_upd {xs zs : List V} (hD : H D' = some (.lst xs)) : Off (K.add D') (K.add D') H (L2.upd H D' (.lst zs)) D' :=
  ⟨rfl, fun _ h => h, List.mem_cons_self, ⟨xs, hD⟩, fun b hb => upd_ne hb⟩
def hide (H : L2.Hp) (D' : Addr) : L2.Hp := fun b => if b = D' then none else H b
theorem off_hide {xs : List V} (hx : K.y.xn = none) (hD : H D' = some (.lst xs)) : Off (K.add D') K H (hide H D') D' :=
  ⟨rfl, fun _ h => List.mem_cons_of_mem _ h, List.mem_cons_self, ⟨xs, hD⟩, fun b hb => by simp [hide, hb]⟩
theorem upd_hide {xs : List V} (hD : H D' = some (.lst xs)) : L2.upd (hide H D') D' (.lst xs) = H := by
  funext b
  by_cases e : b = D'
  · subst e; rw [upd_same, hD]
  · rw [upd_ne e]; simp [hide, e]
theorem Ext.hide (x : Ext ρ1 H1 ρ H) (hD : H1 D' = none) : Ext ρ1 H1 ρ (hide H D') :=
  ⟨x.pre, x.new, fun a u e n => by
    have : a ≠ D' := ne_of_none e hD
    simp [Pv.hide, this]; exact x.keep a u e n, fun a u e n => by
    have : a ≠ D' := ne_of_none e hD
    simp [Pv.hide, this]; exact x.imm a u e n, fun a z => by
    by_cases e : a = D'
    · subst e; exact hD
    · simp [Pv.hide, e] at z; exact x.alive a z⟩
theorem FinB.ext {Q : VK} {bx : Bool} {d : D} (f : FinB K ρ1 h H1 Q bx d) (x : Ext ρ1 H1 ρ H) : FinB K ρ h H Q bx d := by
  cases bx with
  | false => exact Fin.ext f x
  | true => obtain ⟨ds, e, f⟩ := f; exact ⟨ds, e, Fin.ext f x⟩
end
section
variable {X : Cx} {K : Kx} {ξ : Kx → XRel} {E : Env} {a e : Expr} {fa fe fc : F} {pos : Pos} {tg : Expr}
abbrev noZ : WX := fun _ _ _ _ => False
/-- whatever the callers' boxes are -/
def tEx (K : PySem.W.Frag) (ξ : Kx → XRel) (E : Env) (f : F) : TE := fun σ H Q => ∃ φ, tE ⟨K, φ, none⟩ (ξ ⟨K, φ, none⟩) noZ E f σ H Q
def tTx (K : PySem.W.Frag) (ξ : Kx → XRel) (E : Env) (f : F) : TT := fun σ H Q => ∃ φ, tT ⟨K, φ, none⟩ (ξ ⟨K, φ, none⟩) noZ E f σ H Q
theorem pe_ex (h : ∀ φ, PE X e (tE ⟨K.K, φ, none⟩ (ξ ⟨K.K, φ, none⟩) noZ E fe)) : PE X e (tEx K.K ξ E fe) := ⟨fun pins s σ H Q I ⟨φ, q⟩ => (h φ).run pins s σ H Q I q⟩
theorem pt_ex (h : ∀ φ, PT X e (tT ⟨K.K, φ, none⟩ (ξ ⟨K.K, φ, none⟩) noZ E fe)) : PT X e (tTx K.K ξ E fe) := ⟨fun pins s σ H Q I ⟨φ, q⟩ => (h φ).run pins s σ H Q I q⟩
theorem PTs.imp {es : List Expr} {t t' : TT} (h : PTs X es t) (i : ∀ σ H Q, t' σ H Q → t σ H Q) : PTs X es t' := ⟨fun pins s σ H Q I q => h.run pins s σ H Q I (i σ H Q q)⟩
theorem pts_noF : PTs X [] (tTx K.K ξ E (conF (.bl true))) := PTs.imp pts_nil fun σ H Q ⟨φ, ρ, s, h, sr, hr, b, e, q⟩ => by
  cases e; exact q ρ H Ext.refl hr
/-- the comprehension's wish, from the evaluator -/
theorem lc_wish {bx : Bool} {t : T} {own : List Nat} {it : F} {Z : WX} {σ : L2.St} {H : L2.Hp} {Q : VK} (hx : K.y.xn = none) (hf : E.fuel ≤ 16000000) (ht : tgOk own t = true) (q : tE K (ξ K) Z E (bxF bx (cprF fe (denT t) it fc own)) σ H Q) :
    tLc (tI K (ξ K) Z E it) (tgG K.K t) (tTx K.K ξ E fc) (tEx K.K ξ E fe) own σ H Q := by
  obtain ⟨ρ, s, h, sr, hr, af⟩ := q
  refine ⟨ρ, s, h, sr, hr, ?_⟩
  have e0 : bxF bx (cprF fe (denT t) it fc own) E s h = (it E s h).onI fun j u h => match u with
      | none => (lcLoop fe (denT t) fc E (wipe s own) E.fuel j h []).onL fun ds h => if bx = true then (Out.val (mkLst ds) h).onV boxK else .val (mkLst ds) h
      | some _ => .bad 143 := by
    cases bx with
    | false => rfl
    | true =>
      simp only [bxF, if_true, boxF, cprF]
      cases it E s h <;> try rfl
      rename_i j u h1
      cases u <;> try rfl
      simp only [Out.onI]
      cases lcLoop fe (denT t) fc E (wipe s own) E.fuel j h1 [] <;> rfl
  rw [e0] at af
  generalize it E s h = o at af
  cases o <;> first | exact False.elim af | exact af | skip
  rename_i j u h1
  cases u with
  | some u => exact False.elim af
  | none =>
    refine ⟨rfl, fun J st ρ1 H1 x1 hr1 ir est D' hD => ?_⟩
    subst est
    replace af : After K (ξ K) Z ρ H σ Q ((lcLoop fe (denT t) fc E (wipe s own) E.fuel (st 0) h1 []).onL fun ds h => if bx = true then (Out.val (mkLst ds) h).onV boxK else .val (mkLst ds) h) := af
    -- no exception leaves the loop
    have calmL : ∀ n j h acc, (∃ ds h', lcLoop fe (denT t) fc E (wipe s own) n j h acc = .vls ds h') ∨ (∃ k, lcLoop fe (denT t) fc E (wipe s own) n j h acc = .bad k) ∨ ∀ (Q : VK) ρ H, ¬ After K (ξ K) Z ρ H σ Q ((lcLoop fe (denT t) fc E (wipe s own) n j h acc).onL fun ds h => if bx = true then (Out.val (mkLst ds) h).onV boxK else .val (mkLst ds) h) := fun n => by
      induction n with
      | zero => intro j h acc; exact .inr (.inl ⟨107, rfl⟩)
      | succ n ih =>
        intro j h acc
        unfold lcLoop
        cases nextI h j with
        | stop => exact .inl ⟨_, _, rfl⟩
        | bad => exact .inr (.inl ⟨_, rfl⟩)
        | yld d j' =>
          dsimp only
          cases denT t d E (wipe s own) h <;> simp only [Out.onX] <;> first | (exact .inr (.inl ⟨_, rfl⟩)) | (exact .inr (.inr fun Q ρ H f => False.elim f)) | skip
          rename_i s1 h2
          cases fc E s1 h2 <;> simp only [calm, Out.onV] <;> first | (exact .inr (.inl ⟨_, rfl⟩)) | (exact .inr (.inr fun Q ρ H f => False.elim f)) | skip
          rename_i b h3
          cases tru h3 b with
          | none => exact .inr (.inl ⟨_, rfl⟩)
          | some k =>
            cases k with
            | false => exact ih _ _ _
            | true =>
              dsimp only
              cases fe E s1 h3 <;> simp only [calm, Out.onV] <;> first | (exact .inr (.inl ⟨_, rfl⟩)) | (exact .inr (.inr fun Q ρ H f => False.elim f)) | skip
              exact ih _ _ _
    rcases calmL E.fuel (st 0) h1 [] with ⟨dsF, hF, eF⟩ | ⟨k, eF⟩ | no
    · rw [eF] at af
      have fin : FinB K ρ1 hF H1 Q bx (mkLst dsF) := (finB_lst (ξ := ξ K) (Z := Z) (σ := σ) (bx := bx) af).ext x1
      refine ⟨fun i m H => ∃ ρ h acc vs, H D' = some (.lst vs) ∧ D' ∉ ρ ∧ Ext ρ1 H1 ρ H ∧ HR (K.add D') ρ h H ∧ DRs (K.add D') H ρ acc.reverse vs ∧ SR (K.add D') H ρ (wipe s own) (L2.wipe σ own) ∧ vs.length + m ≤ E.fuel ∧ lcLoop fe (denT t) fc E (wipe s own) m (st i) h acc = .vls dsF hF, ?_, ?_⟩
      · refine ⟨E.fuel, ρ1, h1, [], [], upd_same, hr1.fresh hD, Ext.refl.updNew hD, hr1.track hD, DRs.nil, ?_, by simp, eF⟩
        exact SR.wipe (K := K.add D') rfl ((sr.ext x1).track hD) own
      · rintro i m H ⟨ρ, h, acc, vs, hv, nD, x, hr, da, sr, hz, el⟩
        cases m with
        | zero => cases el
        | succ m =>
          have q := ir (K.add D') i ρ h H rfl (add_hφ hD) (x.w _) hr
          unfold lcLoop at el
          generalize nextI h (st i) = n at q el
          cases n with
          | bad => cases el
          | stop =>
            cases el
            refine .inl ⟨q, ?_⟩
            have f2 := fin.ext (x.hide hD)
            have o := off_hide (K := K) hx hv
            have := FinB.mkLst f2 (hr.off o nD fun b hb => by
              have : b ≠ D' := fun e => by
                subst e
                have q : H1 b ≠ none := hr1.al b hb
                exact q hD
              simp only [hide, this, if_false]
              exact hr.al b (List.mem_cons_of_mem _ hb)) (p := D') (by simp [hide]) (da.off o)
            rw [upd_hide hv] at this
            exact this
          | yld d j =>
            obtain ⟨q1, q2, q3⟩ := q
            subst q1
            refine .inr ⟨q2, fun H' => ∃ ρ h acc vs, H' D' = some (.lst vs) ∧ D' ∉ ρ ∧ Ext ρ1 H1 ρ H' ∧ HR (K.add D') ρ h H' ∧ DRs (K.add D') H' ρ acc.reverse vs ∧ SR (K.add D') H' ρ (wipe s own) (L2.wipe σ own) ∧ vs.length + m ≤ E.fuel ∧ lcLoop fe (denT t) fc E (wipe s own) m (st (i + 1)) h acc = .vls dsF hF, fun H' w => ⟨m, Nat.lt_succ_self _, w⟩, fun y H' yl => ?_⟩
            obtain ⟨xy, hry, dy⟩ := q3 y H' yl
            dsimp only at el
            cases et : denT t d E (wipe s own) h <;> rw [et] at el <;> simp only [Out.onX] at el <;> first | (cases el; done) | skip
            rename_i s1 h2
            have hh := (tg_shape t).1 ht et
            subst hh
            refine (tg_run t).1 ht (K := K.add D') (sr.ext xy) dy et fun σ1 sr1 w1 => ⟨w1.trans wipe_wipe, ?_⟩
            have keepD : ∀ {ρ2 : List Addr} {H2 : L2.Hp}, Ext ρ H ρ2 H2 → H2 D' = some (.lst vs) ∧ D' ∉ ρ2 := fun {ρ2 H2} z => ⟨z.keep D' _ hv nD, fun hm => (z.new D' hm).elim nD (by rw [hv]; simp)⟩
            refine ⟨D' :: K.y.φ, ρ, s1, h2, sr1, hry, ?_⟩
            cases ec : fc E s1 h2 <;> rw [ec] at el <;> simp only [calm, Out.onV] at el <;> first | (cases el; done) | skip
            rename_i b h3
            cases eb : tru h3 b with
            | none => rw [eb] at el; cases el
            | some k =>
              rw [eb] at el
              refine ⟨k, eb, fun ρ3 H3 x3 hr3 => ?_⟩
              have x03 := xy.trans x3
              cases k with
              | false =>
                dsimp only
                rw [if_neg (by decide)]
                have kd := keepD x03
                exact ⟨ρ3, h3, acc, vs, kd.1, kd.2, x.trans x03, hr3, da.ext x03, sr.ext x03, by omega, el⟩
              | true =>
                dsimp only
                rw [if_pos rfl]
                dsimp only at el
                refine ⟨D' :: K.y.φ, ρ3, s1, h3, sr1.ext x3, hr3, ?_⟩
                cases ee : fe E s1 h3 <;> rw [ee] at el <;> simp only [calm, Out.onV] at el <;> first | (cases el; done) | skip
                rename_i r h4
                intro v ρ4 H4 x4 hr4 dr4
                have x04 := x03.trans x4
                have kd := keepD x04
                refine ⟨vs, kd.1, by rw [sizeLine_eq]; omega, ?_⟩
                have o : Off (K.add D') (K.add D') H4 (L2.upd H4 D' (.lst (vs ++ [v]))) D' := off_upd kd.1
                refine ⟨ρ4, h4, r :: acc, vs ++ [v], upd_same, kd.2, (x.trans x04).updNew hD, hr4.off o kd.2 (al_upd hr4.al), ?_, (sr.ext x04).off o rfl, by simp; omega, el⟩
                rw [List.reverse_cons]
                exact ((da.ext x04).append (DRs.one dr4)).off o
    · rw [eF] at af; exact False.elim af
    · exact absurd af (no Q _ _)
end
end Pv
set_option Elab.async false
set_option linter.all false
set_option maxRecDepth 100000
set_option maxHeartbeats 1000000
namespace Pv
open PySem L2 PySem.Spec PyProof.Rows
theorem tupOf_mkTup (ds : List D) : tupOf (mkTup ds) = some ds := by
  cases e : unGs ds with
  | none => rw [(unGs_none e).1]; rfl
  | some gs =>
    rw [(unGs_some e).1]
    have := unL_mkLst ds
    rw [(unGs_some e).2] at this
    exact this
section
variable {X : Cx} {K : Kx} {ξ : XRel} {Z : WX} {E : Env} {a b c e : Expr} {es : List Expr} {fa fb fc fr : F} {p pos : Pos}
/-! ### a, b = x, y -/
theorem AfterS.tup {ρ : List Addr} {H : L2.Hp} {Dn : L2.Ends} {s : St} {h : Hp} {t : TF} {σ : L2.St} (sr : SR K H ρ s σ) (af : AfterS K ξ Z ρ H Dn (asgF t (tupF fa) E s h)) :
    AfterL K ξ Z ρ H σ (fun vs H1 => ∃ ρ1 ds h1, Ext ρ H ρ1 H1 ∧ HR K ρ1 h1 H1 ∧ DRs K H1 ρ1 ds vs ∧ AfterS K ξ Z ρ1 H1 Dn (calm (t (mkTup ds) E s h1))) (fa E s h) := by
  unfold asgF tupF at af
  generalize fa E s h = o at af
  cases o <;> first | exact False.elim af | skip
  · rename_i ds h1
    simp only [Out.onL] at af
    split at af
    · exact fun vs ρ1 H1 x hr dr => ⟨ρ1, ds, h1, x, hr, dr, AfterS.ext af x⟩
    · exact False.elim af
  · exact fun cls dd ρ' H' x hr q => af cls dd σ ρ' H' x hr (sr.ext x) q
theorem ps_par2F {i j : Nat} {x y : PySem.Str} {px py pt : Pos} {kt k2 : Nat} {pt2 : Pos} (hc : X.calm = true) (hN : X.N.Nodup) (hi : X.N[i]? = some x) (hj : X.N[j]? = some y) (hij : i ≠ j)
    (hx : X.env.scope.names.lookup x = some .local) (hy : X.env.scope.names.lookup y = some .local) (ha : PA X [a, b] (tL K ξ Z E fa)) (hw : swappedStores [.Tuple [.Name x px, .Name y py] kt pt] (.Tuple [a, b] k2 pt2) X.env = pure (some [x, y])) :
    PS X (.Assign [.Tuple [.Name x px, .Name y py] kt pt] (.Tuple [a, b] k2 pt2) pos) (tS K ξ Z E (asgF (denT (.tt (.cns (.tn i) (.cns (.tn j) .nil)))) (tupF fa))) :=
  PS.imp (ps_par hc hN hi hj hij hx hy ha hw rfl) fun Dn σ H ⟨ρ, s, h, sr, hr, af⟩ =>
    ⟨ρ, s, h, sr, hr, AfterL.mono (AfterS.tup sr af) fun vs H1 ⟨ρ1, ds, h1, x1, hr1, dr1, af1⟩ => by
      simp only [denT, tupOf_mkTup] at af1
      match ds, dr1, af1 with
      | [], _, af1 => exact False.elim af1
      | [_], _, af1 => exact False.elim af1
      | d1 :: d2 :: d3 :: r, _, af1 => exact False.elim af1
      | [d1, d2], dr1, af1 =>
        obtain ⟨v, t, rfl, e1, e2⟩ := dr1.inv
        obtain ⟨w, t2, rfl, e3, e4⟩ := e2.inv
        cases e4.inv0
        exact ⟨v, w, rfl, af1 _ ρ1 H1 Ext.refl hr1 (((sr.ext x1).set i e1).set j e3)⟩⟩
theorem ps_par3F {i j l : Nat} {x y z : PySem.Str} {px py pz pt : Pos} {kt k2 : Nat} {pt2 : Pos} (hc : X.calm = true) (hN : X.N.Nodup) (hi : X.N[i]? = some x) (hj : X.N[j]? = some y) (hl : X.N[l]? = some z) (hij : i ≠ j) (hil : i ≠ l) (hjl : j ≠ l)
    (hx : X.env.scope.names.lookup x = some .local) (hy : X.env.scope.names.lookup y = some .local) (hz : X.env.scope.names.lookup z = some .local) (ha : PA X [a, b, c] (tL K ξ Z E fa)) (hw : swappedStores [.Tuple [.Name x px, .Name y py, .Name z pz] kt pt] (.Tuple [a, b, c] k2 pt2) X.env = pure (some [x, y, z])) :
    PS X (.Assign [.Tuple [.Name x px, .Name y py, .Name z pz] kt pt] (.Tuple [a, b, c] k2 pt2) pos) (tS K ξ Z E (asgF (denT (.tt (.cns (.tn i) (.cns (.tn j) (.cns (.tn l) .nil))))) (tupF fa))) :=
  PS.imp (ps_par3 hc hN hi hj hl hij hil hjl hx hy hz ha hw rfl) fun Dn σ H ⟨ρ, s, h, sr, hr, af⟩ =>
    ⟨ρ, s, h, sr, hr, AfterL.mono (AfterS.tup sr af) fun vs H1 ⟨ρ1, ds, h1, x1, hr1, dr1, af1⟩ => by
      simp only [denT, tupOf_mkTup] at af1
      match ds, dr1, af1 with
      | [], _, af1 => exact False.elim af1
      | [_], _, af1 => exact False.elim af1
      | [_, _], _, af1 => exact False.elim af1
      | d1 :: d2 :: d3 :: d4 :: r, _, af1 => exact False.elim af1
      | [d1, d2, d3], dr1, af1 =>
        obtain ⟨v, t, rfl, e1, e2⟩ := dr1.inv
        obtain ⟨w, t2, rfl, e3, e4⟩ := e2.inv
        obtain ⟨u, t3, rfl, e5, e6⟩ := e4.inv
        cases e6.inv0
        exact ⟨v, w, u, rfl, af1 _ ρ1 H1 Ext.refl hr1 ((((sr.ext x1).set i e1).set j e3).set l e5)⟩⟩
/-! ### raise -/
/-- X() of an own class without an initializer -/
theorem make_exc0 {C : Addr} {bmB : List Value} {B newId initId : String} {x : PySem.Str} (Fx : ExcBaseFacts B newId initId bmB) (qC : PySem.W.excIn X.K C bmB newId = true) (gC : X.mg x = some (.ref C)) (kC : PySem.W.keepIn X.K (.ref C) = true) (r : Raises X (.ref C)) (hg : Gl X x) (hdb : (x == ("__debug__" : PySem.Str)) = false) :
    PMk X (.Call (.Name x p) [] [] pos) (fun _ H Q => Q (.ref C) none H) := by
  intro pins s σ H Q I hQ
  refine wpAny_Call_Name_kw (ld_glob I hg gC ?_ hdb)
  refine PySem.W.callWith_K0 I.kIn kC ?_
  obtain ⟨bm, N, nm, qn, bs, hdct, sn, sub, ab, col, dd, k0, k1, k2, k3, k5, mN, hC, hN, hni, T⟩ := exc_obj I.kIn qC
  refine wpAny_call_exc_subT Fx T hC hN hni (fun h' e hm => ?_) (by show 0 ≤ sizeLine; exact Nat.zero_le _)
  exact mk_of I hm r hQ (I.hok.gone hm.new)
theorem ps_raiF {C : Addr} {bmB : List Value} {B newId initId : String} {x : PySem.Str} {n : Nat} {q : Pos} (hc : X.calm = true) (tk : Takes X Z) (Fx : ExcBaseFacts B newId initId bmB) (qC : PySem.W.excIn X.K C bmB newId = true) (gC : X.mg x = some (.ref C)) (kC : PySem.W.keepIn X.K (.ref C) = true) (r : Raises X (.ref C)) (hg : Gl X x) (hdb : (x == ("__debug__" : PySem.Str)) = false)
    (hξ : ∀ H ρ, ξ H ρ n [] (.ref C) none) : PS X (.Raise (some (.Call (.Name x p) [] [] q)) none pos) (tS K ξ Z E (raiF n nilF)) :=
  PS.imp (ps_raise hc tk (make_exc0 Fx qC gC kC r hg hdb)) fun Dn σ H ⟨ρ, s, h, sr, hr, af⟩ => af (.ref C) none σ ρ H Ext.refl hr sr (hξ H ρ)
/-! ### try -/
theorem SR.toXn {K : Kx} {ρ : List Addr} {H : L2.Hp} {s : St} {σ : L2.St} {i : Nat} {a : Addr} {xd : Option (Addr × PySem.Str × G)} (r : SR K H ρ s σ) (hx : ∀ dd f g, xd = some (dd, f, g) → dd ∉ ρ ∧ ∃ v, H dd = some (.xd [(f, v)]) ∧ GR K H ρ g v) :
    SR ⟨K.K, K.y.φ, some (i, a, xd)⟩ H ρ (s.set i none) (σ.set i (some (.ref a))) :=
  ⟨by simp [r.len], fun j d e => by
    rw [List.getElem?_set] at e
    split at e
    · split at e <;> cases e
    · rename_i ij
      obtain ⟨v, h1, h2⟩ := r.get j d e
      exact ⟨v, by rw [List.getElem?_set_ne ij]; exact h1, h2.more (K := K) (K2 := ⟨K.K, K.y.φ, some (i, a, xd)⟩) rfl fun b hb => .inl hb⟩, fun j b d e q => by
    cases e
    have hl := (List.getElem?_eq_some_iff.mp q).1
    rw [List.length_set] at hl
    exact List.getElem?_set_self (by rw [← r.len]; exact hl), fun j b dd f g e => by
    cases e
    obtain ⟨n, v, h1, h2⟩ := hx dd f g rfl
    exact ⟨n, v, h1, h2.more (K := K) (K2 := ⟨K.K, K.y.φ, some (i, a, some (dd, f, g))⟩) rfl fun b hb => .inl hb⟩⟩
theorem SR.unxn {K : Kx} {ρ : List Addr} {H : L2.Hp} {s : St} {σ : L2.St} {i : Nat} {y : Option (Nat × Addr × Option (Addr × PySem.Str × G))} (hx : K.y.xn = none) (r : SR ⟨K.K, K.y.φ, y⟩ H ρ s σ) : SR K H ρ (s.set i none) (σ.set i none) :=
  ⟨by simp [r.len], fun j d e => by
    rw [List.getElem?_set] at e
    split at e
    · split at e <;> cases e
    · rename_i ij
      obtain ⟨v, h1, h2⟩ := r.get j d e
      exact ⟨v, by rw [List.getElem?_set_ne ij]; exact h1, h2.more (K := ⟨K.K, K.y.φ, y⟩) (K2 := K) rfl fun b hb => .inl hb⟩, (fun j b d e => by rw [hx] at e; cases e), (fun j b dd f g e => by rw [hx] at e; cases e)⟩
theorem HR.xn {K : Kx} {ρ : List Addr} {H : L2.Hp} {h : Hp} {y : Option (Nat × Addr × Option (Addr × PySem.Str × G))} (r : HR K ρ h H) : HR ⟨K.K, K.y.φ, y⟩ ρ h H := HR.more (K := K) (K2 := ⟨K.K, K.y.φ, y⟩) rfl (fun b hb => .inl hb) r.al r
theorem HR.unxn {K : Kx} {ρ : List Addr} {H : L2.Hp} {h : Hp} {y : Option (Nat × Addr × Option (Addr × PySem.Str × G))} (r : HR ⟨K.K, K.y.φ, y⟩ ρ h H) : HR K ρ h H := HR.more (K := ⟨K.K, K.y.φ, y⟩) (K2 := K) rfl (fun b hb => .inl hb) r.al r
theorem AfterS.suite {K : Kx} {ξ ξ' : XRel} {ρ : List Addr} {H : L2.Hp} {Dn : L2.Ends} {i : Nat} {y : Option (Nat × Addr × Option (Addr × PySem.Str × G))} {o : Out} (hx : K.y.xn = none) (af : AfterS K ξ Z ρ H Dn (unI i (calm o))) :
    AfterS ⟨K.K, K.y.φ, y⟩ ξ' noZ ρ H { nx := fun σ' H' => Dn.nx (σ'.set i none) H', rt := Dn.rt, bk := fun σ' H' => Dn.bk (σ'.set i none) H', ct := fun σ' H' => Dn.ct (σ'.set i none) H' } o := by
  cases o <;> first | exact False.elim af | skip
  · exact fun σ' ρ' H' x hr sr => af _ ρ' H' x hr.unxn (sr.unxn hx)
  · exact fun σ' ρ' H' x hr sr => af _ ρ' H' x hr.unxn (sr.unxn hx)
  · exact fun σ' ρ' H' x hr sr => af _ ρ' H' x hr.unxn (sr.unxn hx)
  · exact fun v ρ' H' x hr dr => af v ρ' H' x hr.unxn (dr.more (K := ⟨K.K, K.y.φ, y⟩) (K2 := K) rfl fun b hb => .inl hb)
theorem AfterS.wish {K : Kx} {ξ : XRel} {Z Z' : WX} {ρ : List Addr} {H : L2.Hp} {Dn : L2.Ends} {o : Out} (ne : ∀ c ds s h, o ≠ .exc c ds s h) (af : AfterS K ξ Z ρ H Dn o) : AfterS K ξ Z' ρ H Dn o := by
  cases o <;> first | exact False.elim af | exact af | (exact absurd rfl (ne _ _ _ _))
theorem AfterS.bare {K : Kx} {ξ ξ' : XRel} {Z : WX} {ρ : List Addr} {H : L2.Hp} {Dn : L2.Ends} {o : Out} (af : AfterS K ξ Z ρ H Dn (calm o)) : AfterS K ξ' noZ ρ H Dn o := by
  cases o <;> first | exact False.elim af | exact af
end
end Pv
set_option Elab.async false
set_option linter.all false
set_option maxRecDepth 100000
set_option maxHeartbeats 4000000
namespace Pv
open PySem L2 PySem.Spec PyProof.Rows
/-! ### own exceptions with one field, over any built-in base -/
structure OexB (K : PySem.W.Frag) (C : Addr) (bmB : List Value) (newId : String) : Prop where
  cls : ∃ nm q N bs bm sn sub ab col dd k0 k1 k2 k3 k5, K.lookup C = some (excClassObj nm q C N bs bm true sn sub ab col dd k0 k1 k2 k3 k5 newId) ∧ PySem.W.excTail bmB bm = true
  sa : PySem.W.findIn K (.ref C) "__setattr__" = some (some (.builtin "object.__setattr__"))
  exC : PySem.W.subIn K (.ref C) (.type "BaseException") = some true
  tyC : PySem.W.typeIn K (.ref C) = some (.type "type")
  kC : PySem.W.keepIn K (.ref C) = true
abbrev StoF (B : String) (bmB : List Value) : Prop := StoreFacts B bmB "object.__setattr__" "object"
section
variable {X : Cx} {pins : List (Addr × Obj)} {σ : L2.St} {H : L2.Hp} {s : Shared} {a C : Addr} {f : PySem.Str} {y : V} {u : Value} {E : Value → Shared → Prop} {A : Around} {B newId initId : String} {bmB : List Value}
open Builtin Builtin.ObjectAttr in
theorem osa_first {K : PySem.W.Frag} {P : Program} {w : World} {A : Around} {R : Result → Shared → Prop} {h0 : Heap} {g : Array GenState} {d : Drawn} {t : Nat} {os : OsState} {x : Addr} {fv : Array Value} {tk : Tok} {v : Value} (SF : StoF B bmB) (T : OexB K C bmB newId) (X : K.In h0)
    (hx : h0.get? x = some { cls := .ref C, data := .fields fv }) (hn : PySem.W.findIn K (.ref C) f = some none)
    (hq : ∀ h' tk' dx, (∀ b o, b ≠ x → h0.get? b = some o → h'.get? b = some o) → h0.objs.size ≤ dx → dx ≠ x → h'.get? x = some { cls := .ref C, dict := some dx, data := .fields fv } →
      h'.Ns1 dx (fun z => if z = f then some v else none) → R (.ok (.ret .none)) ⟨h', g, d, tk', os⟩) :
    codeAny (model P w) A (.call (.builtin "object.__setattr__") ⟨[.ref x, .str f tk, v], []⟩) R ⟨h0, g, d, t, os⟩ := by
  obtain ⟨nm, q, N, bs, bm, sn, sub, ab, col, dd, k0, k1, k2, k3, k5, hC, hb⟩ := T.cls
  have hcl : PySem.W.clsIn K C = some { name := nm, bases := bs, mro := .ref C :: bm, ns := N, qualname := q, hasDict := true, slotNames := sn, subclasses := sub, abstract := ab, collection := col, hasDel := false } := by unfold PySem.W.clsIn; rw [hC] <;> rfl
  have I : PySem.W.InstAt h0 x { cls := .ref C, data := .fields fv } C none := ⟨hx, rfl, rfl, trivial⟩
  have ov : PySem.W.excOver K C bmB = true := by unfold PySem.W.excOver; rw [hcl]; simp [hb]
  have tn : PySem.W.takerIn K C f = some none := by unfold PySem.W.takerIn; rw [hn]; rfl
  have ne : x ≠ h0.objs.size := Nat.ne_of_lt (Heap.lt_size hx)
  refine PySem.W.osa_openX SF X I ov tn fun b => ?_
  show wpAny _ _ (storeInOwnDict (.ref x) (.ref C) (.str f tk) f v b) _ _ _
  have lc := PySem.W.looks_clsIn (M := model P w) X hcl
  unfold storeInOwnDict ownDictForStores
  repeat (first | with_reducible refine PySem.HandSPX.store_in_new ?_ ?_ | with_reducible refine wpAny_loadPart_at hx ?_ | with_reducible refine lc.at ?_ | wp_step)
  · exact ⟨_, #[], _, (Heap.get?_update_ne _ _ _ _ ne.symm).trans (Heap.get?_push_at rfl rfl), rfl, fun e he => absurd he (by simp), fun _ => rfl⟩
  · intro h' tk' hn' sb
    have hx1 : (h0.push { cls := .type "dict", data := .dict #[] }).get? x = some { cls := .ref C, data := .fields fv } := Heap.get?_push_of_some _ hx
    exact hq h' tk' h0.objs.size (fun b o hb ho => (sb.2 b (Nat.ne_of_lt (Heap.lt_size ho))).trans ((Heap.get?_update_ne _ _ _ _ hb).trans (Heap.get?_push_of_some _ ho))) (Nat.le_refl _) ne.symm
      ((sb.2 x ne).trans (Heap.get?_update_self _ hx1 rfl)) hn'
/-- self.f = y, the first store -/
theorem ost_newB {Q : Unit → Shared → Prop} (SF : StoF B bmB) (T : OexB X.K C bmB newId) (I : Inv X pins σ H s) (e : H a = some (exo a C none)) (hno : PySem.W.findIn X.K (.ref C) f = some none) (ry : RelV y u)
    (h : ∀ dx s', H dx = none → dx ≠ a → Inv X pins σ (L2.upd (L2.upd H dx (exd dx [(f, y)])) a (exo a C (some dx))) s' → Q () s') : wpAny (model X.prog X.w) A (setAttr (.ref a) f u) Q E s := by
  obtain ⟨t1, ho⟩ := exo_at I.hok e
  obtain ⟨h0, g, d, t, os⟩ := s
  refine PySem.W.set_plain I.kIn (ox := { cls := .ref C, dict := none, data := .fields #[.ref t1, .none, .none, .none, .bool false, .none] }) (od := none) ⟨ho, rfl, rfl, trivial⟩ T.sa ?_
  refine osa_first SF T I.kIn ho hno fun h' tk' dx k dn dne hx hn => ?_
  have nod : H dx = none := I.hok.fresh dn
  have lt : ∀ {b : Addr} {o : Obj}, h0.get? b = some o → b ≠ dx := fun q => Nat.ne_of_lt (Nat.lt_of_lt_of_le (Heap.lt_size q) dn)
  have no_a : ∀ {b : Addr}, H b = none → b ≠ a := fun n z => by rw [z, e] at n; cases n
  have both : ∀ {b : Addr}, b ≠ a → b ≠ dx → L2.upd (L2.upd H dx (exd dx [(f, y)])) a (exo a C (some dx)) b = H b := fun h1 h2 => by rw [upd_ne h1, upd_ne h2]
  have un : Un X.fs [] H (L2.upd (L2.upd H dx (exd dx [(f, y)])) a (exo a C (some dx))) h0 h' :=
    ⟨fun b o q n _ _ => k b o (no_a n) q, fun b o q n _ _ => ⟨o.slots, k b o (no_a n) q⟩, fun b o q n _ => (both (no_a n) (lt q)).trans n,
     fun b o q _ => (by
      by_cases hb : b = a
      · exact ⟨_, by rw [hb]; exact hx⟩
      · exact ⟨o, k b o hb q⟩),
     fun b xs q => (both (at_ne e q exo_tup) (ne_of_none q nod)).trans q, fun b o v q => (both (at_ne e q exo_frz) (ne_of_none q nod)).trans q,
     fun b ps q => ⟨#[], by rw [both (at_ne e q exo_tbl) (ne_of_none q nod), q]; simp⟩⟩
  refine h dx _ nod dne (I.un (t' := tk') un fun b o q => ?_)
  by_cases ba : b = a
  · subst ba
    rw [upd_same] at q; cases q
    exact exo_ok hx
  · rw [upd_ne ba] at q
    by_cases bd : b = dx
    · subst bd
      rw [upd_same] at q; cases q
      exact exd_ok hn (relO_put (fs := []) ry fun g => True.intro)
    · rw [upd_ne bd] at q
      refine (I.hok b o q).stay (fun c v hc z => k c v ?_ z) (fun c hc => (both (at_ne e hc exo_own) (ne_of_none hc nod)).trans hc) (fun c xs hc => (both (at_ne e hc exo_tup) (ne_of_none hc nod)).trans hc)
      rcases hc with hc | hc
      · rw [hc]; exact ba
      · exact at_ne e hc exo_own
/-- self.f = e -/
def tOst1 (f : PySem.Str) (C : Addr) (to te : TE) : TS := fun D σ H => te σ H fun y H1 => to σ H1 fun x H2 => ∃ a : Addr, x = .ref a ∧ H2 a = some (exo a C none) ∧ ∀ dx, H2 dx = none → dx ≠ a → D.nx σ (L2.upd (L2.upd H2 dx (exd dx [(f, y)])) a (exo a C (some dx)))
theorem ps_ostB {o e : Expr} {to te : TE} {p pos : Pos} (SF : StoF B bmB) (T : OexB X.K C bmB newId) (hno : PySem.W.findIn X.K (.ref C) f = some none) (ho : PE X o to) (he : PE X e te) (hs : swapsWith e (some (.Attribute o f p)) pos.line X.env = pure false) :
    PS X (.Assign [.Attribute o f p] e pos) (tOst1 f C to te) := by
  refine ⟨fun pins s σ H D I h => ?_⟩
  refine plainObj_wpAny_Assign_Attribute (thn (he.run pins s σ H _ I h) fun v s1 ⟨y, H1, I1, r1, q1⟩ => thn (ho.run pins s1 σ H1 _ I1 q1) fun u s2 ⟨x, H2, I2, r2, a, ex, ea, q⟩ => ?_) hs
  subst ex
  obtain rfl : u = Value.ref a := r2
  exact ost_newB SF T I2 ea hno r1 fun dx s' n ne J => ⟨σ, _, J, q dx n ne⟩
end
/-- C(e) with an __init__ of its own -/
theorem pmk_oexB {X : Cx} {CX : CXT} {x : PySem.Str} {C fI : Addr} {k : Nat} {fd : FuncData} {ps : List PySem.Str} {sp : Sp} {B newId initId : String} {bmB : List Value} {e : Expr} {es : List Expr} {ta : TA} {p pos : Pos} (FB : ExcBaseFacts B newId initId bmB) (T : OexB X.K C bmB newId)
    (iC : PySem.W.findIn X.K (.ref C) "__init__" = some (some (.ref fI))) (tI : PySem.W.typeIn X.K (.ref fI) = some (.type "function")) (F1 : FnOk X.prog X.w X.K X.mg X.base CX k fI fd ps sp) (hr : Room (k + 1) X.A) (hb : Binds X.K fd ps []) (hx : Passes CX X (fun _ _ _ => False))
    (hg : Gl X x) (hm : X.mg x = some (.ref C)) (ha : PA X (e :: es) ta) (hdb : (x == ("__debug__" : PySem.Str)) = false) (he : starEach (e :: es) X.env = (false, eval e X.env) :: starEach es X.env) (hpl : (backTo pos (starEach es X.env)).any (·.1) = false) :
    PMk X (.Call (.Name x p) (e :: es) [] pos) (tMkO C sp [] ta) := by
  intro pins s σ H Q I h
  obtain ⟨nm, q, N, bs, bm, sn, sub, ab, col, dd, k0, k1, k2, k3, k5, hC, hbm⟩ := T.cls
  refine wpAny_Call_Name_kw (ld_glob I hg hm ?_ hdb)
  refine PySem.W.callWith_K (h₀ := X.base) I.ok.mod.kin T.kC (thn (ha.run pos pins s σ H _ I h) fun us s1 ⟨vs, H1, I1, r1, hz, q1⟩ => ⟨I1.kIn, ?_⟩) he hpl
  show wpAny _ _ (call (.ref C) us) _ _ _
  obtain ⟨h0, g, dr, tk, os⟩ := s1
  have above : h0.objs.size ≤ h0.objs.size + 1 := Nat.le_succ _
  have hn : H1 (h0.objs.size + 1) = none := I1.hok.fresh above
  have want := q1 (h0.objs.size + 1) hn
  rw [List.append_nil] at want
  have old : ∀ b o, h0.get? b = some o → ((h0.push (PySem.W.kdv_tup us)).push (PySem.HandSPX.excO C h0.objs.size)).get? b = some o := fun b o z => Heap.get?_push_of_some _ (Heap.get?_push_of_some _ z)
  have there : ((h0.push (PySem.W.kdv_tup us)).push (PySem.HandSPX.excO C h0.objs.size)).get? (h0.objs.size + 1) = some (PySem.HandSPX.excO C h0.objs.size) := by heap_get
  have I2 := I1.laid (t' := tk) (a := h0.objs.size + 1) (o := exo (h0.objs.size + 1) C none) (h' := (h0.push (PySem.W.kdv_tup us)).push (PySem.HandSPX.excO C h0.objs.size)) old above (exo_ok there)
  have r2 : Vals (V.ref (h0.objs.size + 1) :: vs) (Value.ref (h0.objs.size + 1) :: us) := .cons rfl r1
  have len : ((Value.ref (h0.objs.size + 1) :: us) ++ []).length = ps.length := by rw [List.append_nil, ← r2.length, F1.len _ _ _ _ want]
  have few : us.length ≤ sizeLine := by rw [← Paired.length r1, sizeLine_eq]; omega
  have bt := hb _ (Value.ref (h0.objs.size + 1) :: us) I2.kIn len
  rw [List.append_nil] at bt
  refine wpAny_call (PySem.HandSPX.call_own FB (fun Y => PySem.W.excTail_contains Y bm hbm) (I1.kIn _ _ hC) (PySem.W.looks_findIn I1.kIn iC) (fun self => PySem.W.bind_fn I1.kIn self tI) few
    (codeAny_mono (F1.run _ X.stack _ _ ⟨Value.ref (h0.objs.size + 1) :: us, []⟩ (Value.ref (h0.objs.size + 1) :: us) _ _ (fun _ _ _ => False) (hr.make C us []) (I2.env0.make C us []) bt r2 want) fun r s' end_ => ?_))
  cases r with
  | error er => exact hx pins σ _ _ er s' I2 end_
  | ok fl =>
    cases fl with
    | ret u =>
      obtain ⟨v, H2, os2, bare2, un2, hok2, rv, ev, d, fs, ea, ed, hd1, q2⟩ := end_
      subst ev
      obtain ⟨h2, g2, d2, t2, os'⟩ := s'
      exact ⟨rv, mk_end (raises_own T.exC T.tyC) I1 above old un2 hok2 os2 bare2 ea ed hd1 q2⟩
    | next => exact False.elim end_
    | brk => exact False.elim end_
    | cont => exact False.elim end_
/-- isinstance of the caught one, whatever dict it has -/
theorem call_isD {X : Cx} {a D : Addr} {d : Option Addr} {oe : Obj} {pn : List (Addr × Obj)} (C : ExcC X.K D) (hz : Zc (.ref D) d oe) (hf : ∃ vs, oe.data = .fields vs) :
    CallR (X.suite a ((a, oe) :: pn)) (.builtin "isinstance") (fun xs H Q => (∀ dd, d = some dd → ∃ fs, H dd = some (.xd fs)) ∧ rIsE X.K D a xs H Q) := by
  intro pins s σ H xs us Q I r ⟨hd, h⟩
  obtain ⟨c, cv, b, rfl, hcv, e, q⟩ := h
  obtain ⟨u1, u2, rfl, rx, rt⟩ := vals2 r
  cases rx
  have ec := hcv _ rt
  subst ec
  obtain ⟨hget, _⟩ := I.pin (a, oe) (List.mem_append.mpr (.inl List.mem_cons_self))
  obtain ⟨vs, hv⟩ := hf
  obtain ⟨od, J⟩ : ∃ od, PySem.W.InstAt s.heap a oe D od := by
    have no : PySem.W.notCls oe = true := by unfold PySem.W.notCls; rw [hv]
    cases d with
    | none => exact ⟨none, hget, hz.1, no, by rw [hz.2]; trivial⟩
    | some dd =>
      obtain ⟨fs, hx⟩ := hd dd rfl
      obtain ⟨mA, ⟨o, _, _, ho, _⟩, _⟩ := (show ObjOk X.prog X.w H s.heap dd (.xd fs) from I.hok dd _ hx)
      exact ⟨some o, hget, hz.1, no, by rw [hz.2]; exact ho⟩
  have isC : (PySem.W.clsIn X.K D).isSome = true := by
    have hdd := C.hd
    cases q : PySem.W.clsIn X.K D with
    | none => unfold PySem.W.hasDictIn at hdd; rw [q] at hdd; cases hdd
    | some c => rfl
  exact PySem.W.kia_one (PySem.W.kitx_exc isC C.hg C.hk C.hs C.ha C.hn C.ht C.hm) I.kIn J e (fun z => nomatch z) fun tk => ⟨.bl b, H, I.kept (t' := tk) fun _ _ z => z, rfl, q⟩
end Pv
set_option Elab.async false
set_option linter.all false
set_option maxRecDepth 100000
set_option maxHeartbeats 4000000
namespace Pv
open PySem L2 PySem.Spec PyProof.Rows
/-! ### several except clauses, with names or without -/
abbrev Hd := Value × Option Nat × (Addr → Value → Option Addr → TS)
def endN (i : Nat) (D : L2.Ends) : L2.Ends := { nx := fun σ' H' => D.nx (σ'.set i none) H', rt := D.rt, bk := fun σ' H' => D.bk (σ'.set i none) H', ct := fun σ' H' => D.ct (σ'.set i none) H' }
def wishN (K : PySem.W.Frag) (W : WX) (D : L2.Ends) : List Hd → WX
  | [] => W
  | (c, oi, ts) :: r => fun cls d σ H => ∃ b, PySem.W.exmOne K cls c = some b ∧ (b = true → ∀ a, H a = none → match oi with | some i => ts a cls d (endN i D) (σ.set i (some (.ref a))) H | none => ts a cls d D σ H) ∧ (b = false → wishN K W D r cls d σ H)
inductive HdN (X : Cx) : List ExceptHandler → List Hd → Prop
  | nil : HdN X [] []
  | named {x n : PySem.Str} {c : Value} {i : Nat} {ts : Addr → Value → Option Addr → TS} {b : Stmt} {suite : List Stmt} {p q : Pos} {hs : List ExceptHandler} {l : List Hd} (hi : X.N[i]? = some n) (hl : X.env.kindOf n = some .local) (hc : Names X x c)
      (hsu : ∀ (a : Addr) (oe : Obj) (cls : Value) (d : Option Addr) (pn : List (Addr × Obj)), Zc cls d oe → (∃ vs, oe.data = .fields vs) → PSs (X.suite a ((a, oe) :: pn)) (b :: suite) (ts a cls d)) (r : HdN X hs l) :
      HdN X (.ExceptHandler (some (.Name x p)) (some n) (b :: suite) q :: hs) ((c, some i, ts) :: l)
  | bare {x : PySem.Str} {c : Value} {ts : Addr → Value → Option Addr → TS} {b : Stmt} {suite : List Stmt} {p q : Pos} {hs : List ExceptHandler} {l : List Hd} (hc : Names X x c)
      (hsu : ∀ (a : Addr) (oe : Obj) (cls : Value) (d : Option Addr) (pn : List (Addr × Obj)), Zc cls d oe → (∃ vs, oe.data = .fields vs) → PSs (X.suite a ((a, oe) :: pn)) (b :: suite) (ts a cls d)) (r : HdN X hs l) :
      HdN X (.ExceptHandler (some (.Name x p)) none (b :: suite) q :: hs) ((c, none, ts) :: l)
theorem ps_try_named {X : Cx} {body : List Stmt} {h1 : ExceptHandler} {hs : List ExceptHandler} {l : List Hd} {pos : Pos} {tb : WX → TS} {Wout : WX} (hst : X.stack = X.env :: X.outer) (hf : X.env.frame = some X.env.locals) (hN : X.N.Nodup) (tk : Takes X Wout)
    (hb : ∀ (W : WX) (pn : List (Addr × Obj)) (xe : Value → Shared → Prop), Takes (X.tr pn xe) W → PassesOwn (model X.prog X.w) X.A X.env xe → PSs (X.tr pn xe) body (tb W)) (hh : HdN X (h1 :: hs) l) :
    PS X (.Try body (h1 :: hs) [] [] pos) (fun D σ H => tb (wishN X.K Wout D l) D σ H) := by
  refine ⟨fun pins s σ H D I h => ?_⟩
  have ok := I.ok
  have fr : X.A.frames = some (X.env :: X.outer) := by rw [ok.frames, hst]
  refine wpAny_Try_except ?_
  refine wpAny_mono ((hb (wishN X.K Wout D l) (X.pn ++ pins) (fun e t1 => wpAny (model X.prog X.w) X.A (noteFrame e X.env) (fun _ t2 => wpAny (model X.prog X.w) X.A (setFlight e none) (fun _ t3 => wpAny (model X.prog X.w) X.A (handleBy e X.env (h1 :: hs)) (SP X pins D) X.xe t3) X.xe t2) X.xe t1)
    (fun u s' xx => ?_) PassesOwn.looking).run [] s σ H D (I.toTry _) h) (fun f t1 sp => ?_) (fun e t1 he => he)
  · obtain ⟨a, B, sI, pins', σ', H', cls, d, rfl, J', nb, up, sky, na, os, ag, w⟩ := xx
    have J : Inv X pins σ' H' sI := J'.ofTry ok
    rw [hst] at sky
    show wpAny (model X.prog X.w) X.A (noteFrame (.ref a) X.env) _ _ _
    refine Sky.land Zc.steady fr hf sky fun h3 fl3 up3 => ?_
    have J3 : Inv X pins σ' H' { s' with heap := h3 } := J.landed nb fl3.1 (up.trans up3) os ag
    obtain ⟨oe, vs, he, hz, hd⟩ := fl3.there
    have off : a ∉ frs (X.env :: X.outer) := fun hm => by
      obtain ⟨_, o', e', nf⟩ := fl3.2.2.1.mem hm
      rw [he] at e'; cases e'
      exact nf _ hd
    have nL : a ≠ X.env.locals := fun z => off (List.mem_filterMap.mpr ⟨X.env, List.mem_cons_self, by rw [hf, z]⟩)
    have nF : a ∉ X.fs := fun hm => by
      obtain ⟨e, h4, q⟩ := List.mem_filterMap.mp hm
      exact off (List.mem_filterMap.mpr ⟨e, List.mem_cons_of_mem _ h4, q⟩)
    have S3 := J3.suite he hd na nL nF
    have ask : ∀ {x : PySem.Str} {c : Value} {p : Pos} {Q E : Value → Shared → Prop}, Names X x c → Q c { s' with heap := h3 } → wpAny (model X.prog X.w) (X.A.mark (some (.ref a))) (eval (.Name x p) X.env) Q E { s' with heap := h3 } := fun {x c p Q E} hc q => by
      obtain ⟨hg, hdb, hm | ⟨hm, hv, hnn⟩⟩ := hc
      · exact ld_glob (X := X.suite a ((a, oe) :: (X.pn ++ pins))) S3 hg hm q hdb
      · exact ld_blt (X := X.suite a ((a, oe) :: (X.pn ++ pins))) S3 hg hm hv q hnn hdb
    have LT : PySem.W.Looks (model X.prog X.w) h3 (typeOf (.ref a)) cls := fun A Q E s k q => wpAny_typeOf_ref (k _ _ he) (by rw [hz.1]; exact q)
    have go : ∀ {hs' : List ExceptHandler} {l' : List Hd}, HdN X hs' l' → wishN X.K Wout D l' cls d σ' H' → wpAny (model X.prog X.w) X.A (handleBy (.ref a) X.env hs') (SP X pins D) X.xe { s' with heap := h3 } := by
      intro hs' l' hk
      induction hk with
      | nil =>
        intro w
        refine wpAny_handleBy_nil ?_
        obtain ⟨k1, k2, k3, oe5, vs5, T, oT, ts', e1, e2, e3, e4, e5⟩ := id fl3
        unfold PySem.passOn
        refine wpAny_bind (wpAny_field e1 e3 e4 ?_)
        rw [if_neg (show ¬ ((Value.ref T == Value.none) = true) from by simp)]
        have fin : wpAny (model X.prog X.w) X.A (setFlight (.ref a) X.env.frame) (fun _ t4 => wpAny (model X.prog X.w) X.A (throw (.ref a) : Sem Flow) (SP X pins D) X.xe t4) X.xe { s' with heap := h3 } := by
          rw [hf]
          exact HandSPX.setFlight_upZ fl3 fun h4 hh4 up4 => wpAny_throw (tk _ _ ⟨a, B, sI, pins, σ', H', cls, d, rfl, J, nb, (up.trans up3).trans up4, .inr (.inr (by rw [hst]; exact hh4)), na, os, ag, w⟩)
        first
          | exact wpAny_bind (wpAny_pure (wpAny_bind fin))
          | exact wpAny_bind fin
      | @named x n c i ts b suite p q hs2 l2 hi hl hc hsu r ih =>
        intro w
        obtain ⟨b1, w1, wy, wn⟩ := w
        refine wpAny_handleBy_cons (codeAny_handlers_test ?_) (by intro q; cases q)
        refine ask hc ((PySem.W.exm_one (M := model X.prog X.w) J3.kIn LT w1).here ?_)
        cases b1 with
        | false => exact ih (wn rfl)
        | true =>
          refine codeAny_handlers_suite_as ?_
          refine HandSPX.lands_againZ fl3 fun h4 fl4 up4 => ?_
          have J4 : Inv X pins σ' H' { s' with heap := h4 } := J.landed nb fl4.1 ((up.trans up3).trans up4) os ag
          obtain ⟨oe4, vs4, e4, z4, d4⟩ := fl4.there
          refine store_ok (X := X.suite a ((a, oe4) :: (X.pn ++ pins))) (v := .ref a) (J4.suite e4 d4 na nL nF) hN hi (.inl hl) rfl (fun s5 S5 => ?_) (.inr hl)
          refine wpAny_mono ((hsu a oe4 cls d (X.pn ++ pins) z4 ⟨_, d4⟩).run [] s5 _ H' _ S5 (wy rfl a na)) (fun f s6 sp => ?_) (fun _ _ z => False.elim z)
          have last : ∀ {σ6 : L2.St} {H6 : L2.Hp} {Q : Shared → Prop}, Inv (X.suite a ((a, oe4) :: (X.pn ++ pins))) [] σ6 H6 s6 → (∀ s7, Inv X pins (σ6.set i none) H6 s7 → Q s7) →
              wpAny (model X.prog X.w) X.A (do bindName X.env n .none; unbindBehindTheSuite X.env n q) (fun _ s7 => Q s7) X.xe s6 := fun S6 hq => gone_ok (S6.unsuite ok) hN hi hl hq
          cases f with
          | ret u =>
            obtain ⟨v6, σ6, H6, S6, r6, q6⟩ := sp
            exact last S6 fun s7 J7 => ⟨_, _, _, J7, r6, q6⟩
          | _ =>
            obtain ⟨σ6, H6, S6, q6⟩ := sp
            exact last S6 fun s7 J7 => ⟨_, _, J7, q6⟩
      | @bare x c ts b suite p q hs2 l2 hc hsu r ih =>
        intro w
        obtain ⟨b1, w1, wy, wn⟩ := w
        refine wpAny_handleBy_cons (codeAny_handlers_test ?_) (by intro q; cases q)
        refine ask hc ((PySem.W.exm_one (M := model X.prog X.w) J3.kIn LT w1).here ?_)
        cases b1 with
        | false => exact ih (wn rfl)
        | true =>
          refine codeAny_handlers_suite ?_
          refine HandSPX.lands_againZ fl3 fun h4 fl4 up4 => ?_
          have J4 : Inv X pins σ' H' { s' with heap := h4 } := J.landed nb fl4.1 ((up.trans up3).trans up4) os ag
          obtain ⟨oe4, vs4, e4, z4, d4⟩ := fl4.there
          refine wpAny_mono ((hsu a oe4 cls d (X.pn ++ pins) z4 ⟨_, d4⟩).run [] _ _ H' _ (J4.suite e4 d4 na nL nF) (wy rfl a na)) (fun f s6 sp => ?_) (fun _ _ z => False.elim z)
          cases f with
          | ret u =>
            obtain ⟨v6, σ6, H6, S6, r6, q6⟩ := sp
            exact ⟨_, _, _, S6.unsuite ok, r6, q6⟩
          | _ =>
            obtain ⟨σ6, H6, S6, q6⟩ := sp
            exact ⟨_, _, S6.unsuite ok, q6⟩
    exact go hh w
  · cases f with
    | next =>
      obtain ⟨σ', H', J', q⟩ := sp
      exact wpAny_execs_nil ⟨σ', H', J'.ofTry ok, q⟩
    | ret u =>
      obtain ⟨v, σ', H', J', r, q⟩ := sp
      exact ⟨v, σ', H', J'.ofTry ok, r, q⟩
    | _ =>
      obtain ⟨σ', H', J', q⟩ := sp
      exact ⟨σ', H', J'.ofTry ok, q⟩
end Pv
set_option Elab.async false
set_option linter.all false
set_option maxRecDepth 100000
set_option maxHeartbeats 2000000
namespace Pv
open PySem L2 PySem.Spec PyProof.Rows
/-! ### exceptions by number, with one field or none -/
structure Cl where
  adr : Nat → Option Addr
  fld : Nat → Option PySem.Str
instance : CoeFun Cl fun _ => Nat → Option Addr := ⟨Cl.adr⟩
def xdOf (cl : Cl) (c : Nat) (ds : List D) (d : Option Addr) : Option (Addr × PySem.Str × G) → Prop
  | none => ds = [] ∧ d = none ∧ cl.fld c = none
  | some (a, f, x) => ds = [.g x] ∧ d = some a ∧ cl.fld c = some f
def xm (cl : Cl) (c : Nat) (ds : List D) (cls : Value) (d : Option Addr) (xd : Option (Addr × PySem.Str × G)) : Prop := ∃ C, cl c = some C ∧ cls = .ref C ∧ xdOf cl c ds d xd
def xrel (cl : Cl) (K : Kx) : XRel := fun H ρ c ds cls d => ∃ xd, xm cl c ds cls d xd ∧ ∀ a f x, xd = some (a, f, x) → ∃ v, H a = some (.xd [(f, v)]) ∧ GR K H ρ x v
theorem HR.noxd {K : Kx} {ρ : List Addr} {h : Hp} {H : L2.Hp} (r : HR K ρ h H) {a : Addr} {fs : List (PySem.Str × V)} (e : H a = Option.some (HO.xd fs)) : a ∉ ρ := fun z => by
  obtain ⟨i, hi, ea⟩ := List.mem_iff_getElem.mp z
  have hi' : i < h.length := by rw [← r.len]; exact hi
  have o := r.obj i h[i] a (by simp [hi']) (by rw [List.getElem?_eq_getElem hi, ea])
  cases q : h[i] <;> rw [q] at o <;> first | exact o.elim | (obtain ⟨vs, e2, _⟩ := o; rw [e] at e2; cases e2) | (obtain ⟨dx, vs, e2, _⟩ := o; rw [e] at e2; cases e2)
section
variable {X : Cx} {K : Kx} {cl : Cl} {Z : WX} {E : Env}
/-- what the clauses wish, from what the evaluator does -/
def HWish (X : Cx) (cl : Cl) (K : Kx) (Z : WX) (E : Env) (hf : HF) (l : List Hd) : Prop := ∀ (Dn : L2.Ends) (ρ : List Addr) (s : St) (σ : L2.St) (h : Hp) (H : L2.Hp) (c : Nat) (ds : List D) (cls : Value) (d : Option Addr),
  SR K H ρ s σ → HR K ρ h H → xrel cl K H ρ c ds cls d → AfterS K (xrel cl K) Z ρ H Dn (hf c ds E s h) → wishN X.K Z Dn l cls d σ H
theorem hw_nil : HWish X cl K Z E hnil [] := fun Dn ρ s σ h H c ds cls d sr hr q af => af cls d σ ρ H Ext.refl hr sr q
theorem hw_named {k i : Nat} {cv : Value} {fs : F} {r : HF} {l : List Hd} (hx : K.y.xn = none) (hk : ∀ c, E.exsub c k = true → c = k) (hex : ∀ c ds cls d xd, xm cl c ds cls d xd → PySem.W.exmOne X.K cls cv = some (E.exsub c k)) (hr : HWish X cl K Z E r l) :
    HWish X cl K Z E (hcons [k] (some i) fs r) ((cv, some i, fun a cls d => fun D σ H => ∃ ds xd, xm cl k ds cls d xd ∧ tS ⟨K.K, K.y.φ, some (i, a, xd)⟩ (xrel cl ⟨K.K, K.y.φ, some (i, a, xd)⟩) noZ { E with cur := some (k, ds) } fs D σ H) :: l) :=
  fun Dn ρ s σ h H c ds cls d sr hr0 q af => by
    have q0 := q
    obtain ⟨xd, m, qx⟩ := q
    unfold hcons at af
    refine ⟨E.exsub c k, hex _ _ _ _ _ m, fun e a ha => ?_, fun e => ?_⟩
    · have ec := hk c e
      subst ec
      refine ⟨ds, xd, m, ρ, s.set i none, h, sr.toXn fun dd f g z => ?_, hr0.xn, ?_⟩
      · obtain ⟨v, h1, h2⟩ := qx dd f g z
        exact ⟨hr0.noxd h1, v, h1, h2⟩
      · rw [if_pos (by simp [e])] at af
        exact AfterS.suite hx af
    · rw [if_neg (by simp [e])] at af
      exact hr Dn ρ s σ h H c ds cls d sr hr0 q0 af
theorem hw_bare {k : Nat} {cv : Value} {fs : F} {r : HF} {l : List Hd} (hex : ∀ c ds cls d xd, xm cl c ds cls d xd → PySem.W.exmOne X.K cls cv = some (E.exsub c k)) (hr : HWish X cl K Z E r l) :
    HWish X cl K Z E (hcons [k] none fs r) ((cv, none, fun a cls d => tS K (xrel cl K) noZ { E with cur := none } fs) :: l) :=
  fun Dn ρ s σ h H c ds cls d sr hr0 q af => by
    have q0 := q
    obtain ⟨xd, m, qx⟩ := q
    unfold hcons at af
    refine ⟨E.exsub c k, hex _ _ _ _ _ m, fun e a ha => ?_, fun e => ?_⟩
    · rw [if_pos (by simp [e])] at af
      exact ⟨ρ, s, h, sr, hr0, AfterS.bare af⟩
    · rw [if_neg (by simp [e])] at af
      exact hr Dn ρ s σ h H c ds cls d sr hr0 q0 af
theorem ps_tryN {body : List Stmt} {h1 : ExceptHandler} {hs : List ExceptHandler} {l : List Hd} {pos : Pos} {fb : F} {hf : HF} (hst : X.stack = X.env :: X.outer) (hfr : X.env.frame = some X.env.locals) (hN : X.N.Nodup) (tk : Takes X Z)
    (hb : ∀ (W : WX) (pn : List (Addr × Obj)) (xe : Value → Shared → Prop), Takes (X.tr pn xe) W → PassesOwn (model X.prog X.w) X.A X.env xe → PSs (X.tr pn xe) body (tS K (xrel cl K) W E fb)) (hh : HdN X (h1 :: hs) l) (hw : HWish X cl K Z E hf l) :
    PS X (.Try body (h1 :: hs) [] [] pos) (tS K (xrel cl K) Z E (tryF fb hf)) :=
  PS.imp (ps_try_named (tb := fun W => tS K (xrel cl K) W E fb) hst hfr hN tk hb hh) fun Dn σ H ⟨ρ, s, h, sr, hr, af⟩ => by
    refine ⟨ρ, s, h, sr, hr, ?_⟩
    unfold tryF at af
    generalize fb E s h = o at af
    cases o <;> first | exact False.elim af | exact af | skip
    rename_i c ds s1 h1'
    intro cls dd σ' ρ' H' x' hr' sr' q
    exact hw Dn ρ' s1 σ' h1' H' c ds cls dd sr' hr' q (AfterS.ext af x')
/-- isinstance of the caught one -/
theorem pe_exiF {X0 : Cx} {i : Nat} {n : PySem.Str} {a C : Addr} {oe : Obj} {pn : List (Addr × Obj)} {c : Nat} {ds : List D} {d : Option Addr} {xd : Option (Addr × PySem.Str × G)} {ty : Ty} {te : Expr} {v : V} {u : Value} {p np pos : Pos} (hX : X = X0.suite a ((a, oe) :: pn)) (hxn : K.y.xn = some (i, a, xd)) (hcur : E.cur = some (c, ds))
    (hxd : xdOf cl c ds d xd) (EC : ExcC X.K C) (hz : Zc (.ref C) d oe) (hd : ∃ vs, oe.data = .fields vs) (hi : X.N[i]? = some n) (hv : Vis X.env.scope n) (hdb : (n == ("__debug__" : PySem.Str)) = false) (hcd : (n == ("__classdict__" : PySem.Str)) = false)
    (hs2 : isStar te = false) (ht : PE X te (tC v)) (hu : ∀ w, RelV v w → w = u) (hk : PySem.W.kitOne X.K (.ref C) u = some (exT E c ty)) (hg : Gl X "isinstance") (hm : X.mg "isinstance" = none) :
    PE X (.Call (.Name "isinstance" p) [.Name n np, te] [] pos) (tE K (xrel cl K) Z E (exiF i [ty])) := by
  subst hX
  refine PE.imp (pe_callB (call_isD EC hz hd) hg hm PyProof.Rows.boot_isinstance (pa_cons (pe_var hi hv hdb hcd) (pa_cons ht pa_nil (star_no hs2))) (by decide) (by decide) rfl (by rw [star_no hs2]; rfl)) fun σ H Q ⟨ρ, s, h, sr, hr, af⟩ => ?_
  unfold exiF at af
  split at af
  · rename_i c' ds' e1 e2
    rw [hcur] at e2
    cases e2
    have z := sr.xn i a xd hxn e1
    refine ⟨.ref a, z, fun dd e => ?_, v, u, _, rfl, hu, hk, ?_⟩
    · subst e
      cases xd with
      | none => exact absurd hxd.2.1 (by simp)
      | some y =>
        obtain ⟨a2, f, x⟩ := y
        obtain ⟨_, e2, _⟩ := hxd
        cases e2
        obtain ⟨_, v2, h1, _⟩ := sr.xf i a dd f x hxn
        exact ⟨_, h1⟩
    · replace af : Fin K ρ h H Q (.g (.bl ([ty].any (exT E c)))) := af
      simp only [List.any_cons, List.any_nil, Bool.or_false] at af
      exact fin_bl af hr
  · exact False.elim af
/-- the field of the caught one -/
theorem pe_exfF {X0 : Cx} {i : Nat} {n f : PySem.Str} {a C : Addr} {oe : Obj} {pn : List (Addr × Obj)} {c : Nat} {ds : List D} {d : Option Addr} {xd : Option (Addr × PySem.Str × G)} {np pos : Pos} (hX : X = X0.suite a ((a, oe) :: pn)) (hxn : K.y.xn = some (i, a, xd)) (hcur : E.cur = some (c, ds))
    (hxd : xdOf cl c ds d xd) (hf : cl.fld c = some f) (T : XfC X.K C) (hno : PySem.W.findIn X.K (.ref C) f = some none) (hz : Zc (.ref C) d oe) (hd : ∃ vs, oe.data = .fields vs) (hi : X.N[i]? = some n) (hv : Vis X.env.scope n) (hdb : (n == ("__debug__" : PySem.Str)) = false) (hcd : (n == ("__classdict__" : PySem.Str)) = false) :
    PE X (.Attribute (.Name n np) f pos) (tE K (xrel cl K) Z E (exfF i)) := by
  subst hX
  refine PE.imp (pe_xf T hno hz hd (pe_var hi hv hdb hcd) rfl) fun σ H Q ⟨ρ, s, h, sr, hr, af⟩ => ?_
  unfold exfF at af
  split at af
  · rename_i c' d' e1 e2
    rw [hcur] at e2
    cases e2
    have z := sr.xn i a xd hxn e1
    cases xd with
    | none =>
      have := hxd.2.2
      rw [hf] at this; cases this
    | some y =>
      obtain ⟨a2, f2, x⟩ := y
      obtain ⟨e3, rfl, e5⟩ := hxd
      rw [hf] at e5
      cases e5
      cases e3
      obtain ⟨_, v2, h1, h2⟩ := sr.xf i a a2 f x hxn
      refine ⟨.ref a, z, rfl, rfl, a2, _, v2, rfl, h1, by simp [List.lookup], ?_⟩
      replace af : Fin K ρ h H Q (.g x) := af
      exact af.here hr (by unfold DR; exact h2)
  · exact False.elim af
/-! ### raise X(e) -/
def spInit (C : Addr) (f : PySem.Str) : Sp := fun vs H Q _ => ∃ a v, vs = [.ref a, v] ∧ H a = some (exo a C none) ∧ ∀ dx, H dx = none → dx ≠ a → Q .non (L2.upd (L2.upd H dx (exd dx [(f, v)])) a (exo a C (some dx)))
/-- what the kept part says of a class with a field -/
structure ExF (P : Program) (w : World) (K : PySem.W.Frag) (mg : PySem.Str → Option Value) (base : Heap) (C : Addr) (f : PySem.Str) : Prop where
  raw : ∃ (B newId initId : String) (bmB : List Value) (fI : Addr) (fd : FuncData) (ps : List PySem.Str), ExcBaseFacts B newId initId bmB ∧ OexB K C bmB newId ∧ PySem.W.findIn K (.ref C) "__init__" = some (some (.ref fI)) ∧ PySem.W.typeIn K (.ref fI) = some (.type "function") ∧
    Binds K fd ps [] ∧ FnOk P w K mg base (L2.CX P w) 1 fI fd ps (spInit C f)
theorem passes_no {X : Cx} : Passes (L2.CX X.prog X.w) X (fun _ _ _ => False) := fun pins σ H s e s' I ⟨_, _, _, _, _, _, _, _, _, _, _, _, z⟩ => z.elim
theorem ps_raiF1 {C : Addr} {f x : PySem.Str} {n : Nat} {fa : F} {e : Expr} {p q pos : Pos} (hc : X.calm = true) (tk : Takes X Z) (F : ExF X.prog X.w X.K X.mg X.base C f) (hr2 : Room 2 X.A) (gC : X.mg x = some (.ref C)) (hg : Gl X x) (hdb : (x == ("__debug__" : PySem.Str)) = false) (hs : isStar e = false)
    (ha : PE X e (tE K (xrel cl K) Z E fa)) (hcl : cl n = some C) (hf : cl.fld n = some f) : PS X (.Raise (some (.Call (.Name x p) [e] [] q)) none pos) (tS K (xrel cl K) Z E (raiF n (cnsF fa nilF))) := by
  obtain ⟨B, newId, initId, bmB, fI, fd, ps, h1, h2, h3, h4, h5, h6⟩ := F.raw
  refine PS.imp (ps_raise hc tk (pmk_oexB h1 h2 h3 h4 h6 hr2 h5 (passes_no) hg gC (pa_cons ha pa_nil (star_no hs)) hdb (star_no hs) rfl)) fun Dn σ H ⟨ρ, s, h, sr, hr, af⟩ => ?_
  have e1 : raiF n (cnsF fa nilF) E s h = (back s (fa E s h)).onV fun d h => match unGs [d] with | some _ => .exc n [d] s h | none => .bad 134 := by
    unfold raiF cnsF nilF
    cases fa E s h <;> rfl
  rw [e1] at af
  refine ⟨ρ, s, h, sr, hr, After.mono (AfterS.bindV sr af) fun v H1 ⟨ρ1, d, h1', x1, hr1, dr1, af1⟩ => ?_⟩
  cases d with
  | g y =>
    replace af1 : AfterS K (xrel cl K) Z ρ1 H1 Dn (.exc n [.g y] s h1') := af1
    refine ⟨by simp, fun a ha => ⟨a, v, rfl, upd_same, fun dx hdx ne => ⟨rfl, dx, _, upd_same, by rw [upd_ne ne, upd_same], ?_, ?_⟩⟩⟩
    · rw [upd_ne ne] at hdx; exact hdx
    · rw [upd_ne ne] at hdx
      have eH : L2.upd (del (L2.upd (L2.upd (L2.upd H1 a (exo a C none)) dx (exd dx [(f, v)])) a (exo a C (some dx))) a) dx (.xd [(f, v)]) = L2.upd H1 dx (.xd [(f, v)]) := by
        funext b
        by_cases b1 : b = dx
        · subst b1; rw [upd_same, upd_same]
        · rw [upd_ne b1, upd_ne b1]
          by_cases b2 : b = a
          · subst b2; rw [del_same, ha]
          · rw [del_ne b2, upd_ne b2, upd_ne b1, upd_ne b2]
      rw [eH]
      have x2 : Ext ρ1 H1 ρ1 (L2.upd H1 dx (.xd [(f, v)])) := Ext.upd hdx
      refine af1 (.ref C) (some dx) σ ρ1 _ x2 (hr1.upd hdx) ((sr.ext x1).ext x2) ⟨some (dx, f, y), ⟨C, hcl, rfl, rfl, rfl, hf⟩, fun a' f' x' z => ?_⟩
      cases z
      exact ⟨v, upd_same, by unfold DR at dr1; exact dr1.ext x2⟩
  | _ => exact False.elim af1
end
end Pv
set_option Elab.async false
set_option linter.all false
set_option maxRecDepth 100000
set_option maxHeartbeats 1000000
namespace Pv
open PySem L2 PySem.Spec PyProof.Rows
/-! ### calls with keywords -/
def permA {α : Type} (l : List α) (p : List Nat) : List α := p.filterMap fun i => l[i]?
theorem permA_vals {vs : List V} {us : List Value} (r : Vals vs us) (p : List Nat) : Vals (permA vs p) (permA us p) := by
  induction p with
  | nil => exact .nil
  | cons i p ih =>
    unfold permA
    rw [List.filterMap_cons, List.filterMap_cons]
    have : (vs[i]? = none ∧ us[i]? = none) ∨ ∃ v u, vs[i]? = some v ∧ us[i]? = some u ∧ RelV v u := by
      clear ih
      induction r generalizing i with
      | nil => exact .inl ⟨rfl, rfl⟩
      | cons r1 r2 ih =>
        cases i with
        | zero => exact .inr ⟨_, _, rfl, rfl, r1⟩
        | succ j => simpa using ih j
    rcases this with ⟨e1, e2⟩ | ⟨v, u, e1, e2, r⟩
    · rw [e1, e2]; exact ih
    · rw [e1, e2]; exact .cons r ih
theorem permA_drs {K : Kx} {H : L2.Hp} {ρ : List Addr} {ds ds' : List D} {vs : List V} (r : DRs K H ρ ds vs) : ∀ {p : List Nat}, permL ds p = some ds' → DRs K H ρ ds' (permA vs p) := by
  intro p
  induction p generalizing ds' with
  | nil => intro e; cases e; exact DRs.nil
  | cons i p ih =>
    intro e
    unfold permL at e
    split at e
    · rename_i d t e1 e2
      cases e
      obtain ⟨v, e3, dv⟩ := r.get e1
      unfold permA
      rw [List.filterMap_cons, e3]
      exact DRs.cons dv (ih e2)
    · cases e
def KB (K : PySem.W.Frag) (fd : FuncData) (ps : List PySem.Str) (q : Nat × List PySem.Str × List Nat) : Prop := ∀ us ws : List Value, us.length = q.1 → ws.length = q.2.1.length → bindArgs fd ⟨us, q.2.1.zip ws⟩ = pure (ps.zip (permA (us ++ ws) q.2.2))
section
variable {X : Cx} {K : Kx} {ξ : Kx → XRel} {Z : WX} {E : Env} {a b c e : Expr} {es : List Expr} {kws : List Keyword} {fa fb fc fr : F} {p pos : Pos} {k i : Nat} {x : PySem.Str} {f : Addr} {fd : FuncData} {ps : List PySem.Str}
theorem run_kb {pins : List (Addr × Obj)} {σ : L2.St} {H : L2.Hp} {s : Shared} {Q : VK} {us ws : List Value} {vs zs : List V} {CX : CXT} {sp : Sp} {q : Nat × List PySem.Str × List Nat} {W : XK} (F : FnW X.prog X.w X.K X.mg X.base CX k f fd ps sp) (hr : RoomW k X.A) (hb : KB X.K fd ps q) (hx : PassesAt CX X σ W)
    (I : Inv X pins σ H s) (r : Vals vs us) (rz : Vals zs ws) (l1 : vs.length = q.1) (l2 : zs.length = q.2.1.length) (h : sp (permA (vs ++ zs) q.2.2) H Q W) : wpAny (model X.prog X.w) X.A (call (.ref f) us (q.2.1.zip ws)) (EP X pins σ Q) X.xe s := by
  have r2 := permA_vals (r.append rz) q.2.2
  refine wpAny_call (codeAny_mono (F.run X.A X.stack s H ⟨us, q.2.1.zip ws⟩ _ _ Q W hr I.env0 (.of_eq (hb us ws (r.length.symm.trans l1) (rz.length.symm.trans l2))) r2 h) fun r s' hq => ?_)
  cases r with
  | error e => exact hx pins H s e s' I hq
  | ok fl =>
    cases fl with
    | ret u => exact I.after hq
    | next => exact False.elim hq
    | brk => exact False.elim hq
    | cont => exact False.elim hq
def tKB (q : Nat × List PySem.Str × List Nat) (sp : Sp) (W : L2.St → XK) (t tk : TA) : TE := fun σ H Q => t σ H fun vs H1 => tk σ H1 fun zs H2 => vs.length = q.1 ∧ zs.length = q.2.1.length ∧ sp (permA (vs ++ zs) q.2.2) H2 Q (W σ)
theorem pe_kb {CX : CXT} {sp : Sp} {q : Nat × List PySem.Str × List Nat} {W : L2.St → XK} {t tk : TA} (F : FnW X.prog X.w X.K X.mg X.base CX k f fd ps sp) (hr : RoomW k X.A) (hg : Gl X x) (hm : X.mg x = some (.ref f)) (hk : PySem.W.keepIn X.K (.ref f) = true) (hb : KB X.K fd ps q) (hx : ∀ σ, PassesAt CX X σ (W σ))
    (ha : PA X (e :: es) t) (hkw : PK X kws tk) (hall : (backToKw pos (keywordEach kws X.env)).all (·.1.isSome) = true) (hks : (backToKw pos (keywordEach kws X.env)).filterMap (·.1) = q.2.1)
    (hdb : (x == ("__debug__" : PySem.Str)) = false) (he : starEach (e :: es) X.env = (false, eval e X.env) :: starEach es X.env)
    (hpl : ((backTo pos (starEach (e :: es) X.env)).any (·.1) || (backToKw pos (keywordEach kws X.env)).any (·.1.isNone)) = false) :
    PE X (.Call (.Name x p) (e :: es) kws pos) (tKB q sp W t tk) := by
  refine ⟨fun pins s σ H Q I h => ?_⟩
  refine wpAny_Call_Name_kw (ld_glob I hg hm ?_ hdb)
  refine PySem.W.callWith_KW (h₀ := X.base) I.ok.mod.kin hk hall (thn (ha.run pos pins s σ H _ I h) fun us s1 ⟨vs, H1, I1, r, q⟩ => ?_) hpl he
  refine thn (hkw.run pos pins s1 σ H1 _ I1 q) fun ws s2 ⟨zs, H2, I2, rz, l1, l2, q2⟩ => ⟨I2.kIn, ?_⟩
  rw [hks]
  exact run_kb F hr hb (hx σ) I2 r rz l1 l2 q2
theorem pe_kb0 {CX : CXT} {sp : Sp} {q : Nat × List PySem.Str × List Nat} {W : L2.St → XK} {tk : TA} (F : FnW X.prog X.w X.K X.mg X.base CX k f fd ps sp) (hr : RoomW k X.A) (hg : Gl X x) (hm : X.mg x = some (.ref f)) (hk : PySem.W.keepIn X.K (.ref f) = true) (hb : KB X.K fd ps q) (hx : ∀ σ, PassesAt CX X σ (W σ))
    (hkw : PK X kws tk) (hall : (backToKw pos (keywordEach kws X.env)).all (·.1.isSome) = true) (hks : (backToKw pos (keywordEach kws X.env)).filterMap (·.1) = q.2.1)
    (hdb : (x == ("__debug__" : PySem.Str)) = false)
    (hpl : ((backTo pos (starEach [] X.env)).any (·.1) || (backToKw pos (keywordEach kws X.env)).any (·.1.isNone)) = false) :
    PE X (.Call (.Name x p) [] kws pos) (tKB q sp W tNil tk) := by
  refine ⟨fun pins s σ H Q I h => ?_⟩
  refine wpAny_Call_Name_kw (ld_glob I hg hm ?_ hdb)
  have h : tk σ H fun zs H2 => 0 = q.1 ∧ zs.length = q.2.1.length ∧ sp (permA ([] ++ zs) q.2.2) H2 Q (W σ) := h
  refine PySem.W.callWith_KW0 (h₀ := X.base) I.ok.mod.kin hk hall (thn (hkw.run pos pins s σ H _ I h) fun ws s2 ⟨zs, H2, I2, rz, l1, l2, q2⟩ => ⟨I2.kIn, ?_⟩) hpl
  rw [hks]
  exact run_kb F hr hb (hx σ) I2 .nil rz l1 l2 q2
def appL (fp fk : F) : F := fun E s h => (fp E s h).onL fun ds h => (fk E s h).onL fun es h => .vls (ds ++ es) h
theorem appL_cns {fa fp fk : F} : cnsF fa (appL fp fk) = appL (cnsF fa fp) fk := by
  funext E s h
  simp only [cnsF, appL]
  generalize fa E s h = oa
  cases oa <;> try rfl
  rename_i d h1
  simp only [Out.onV]
  generalize fp E s h1 = op
  cases op <;> try rfl
  rename_i ds h2
  simp only [Out.onL]
  generalize fk E s h2 = ok
  cases ok <;> rfl
theorem pk_nilF : PK X [] (tL K (ξ K) Z E nilF) := ⟨fun pos pins s σ H Q I h => pk_nil.run pos pins s σ H Q I (by obtain ⟨ρ, s, h, sr, hr, af⟩ := h; exact af [] ρ H Ext.refl hr DRs.nil)⟩
theorem pk_consF {nm : Option PySem.Str} {kpos : Pos} (ha : PE X e (tE K (ξ K) Z E fa)) (hr : PK X kws (tL K (ξ K) Z E fr)) : PK X (⟨nm, e, kpos⟩ :: kws) (tL K (ξ K) Z E (cnsF fa fr)) :=
  ⟨fun pos pins s σ H Q I h => (pk_cons (nm := nm) (kpos := kpos) ha hr).run pos pins s σ H Q I (by
    obtain ⟨ρ, s, h, sr, hr, af⟩ := h
    exact ⟨ρ, s, h, sr, hr, After.mono (After.bindL af) fun x H1 ⟨ρ1, d, h1, x1, hr1, dr1, af1⟩ => ⟨ρ1, s, h1, sr.ext x1, hr1, AfterL.mono (AfterL.bindL af1) fun xs H2 ⟨ρ2, ds, h2, x2, hr2, dr2, af2⟩ =>
      af2 (x :: xs) ρ2 H2 Ext.refl hr2 (DRs.cons (dr1.ext x2) dr2)⟩⟩)⟩
def Len (f : F) (n : Nat) : Prop := ∀ E s h ds h1, f E s h = .vls ds h1 → ds.length = n
theorem len_nil : Len nilF 0 := fun E s h ds h1 e => by unfold nilF at e; cases e; rfl
theorem len_cns {n : Nat} (r : Len fr n) : Len (cnsF fa fr) (n + 1) := fun E s h ds h1 e => by
  unfold cnsF at e
  generalize fa E s h = oa at e
  cases oa <;> simp only [Out.onV] at e <;> try cases e
  rename_i d h2
  generalize hr : fr E s h2 = ob at e
  cases ob <;> simp only [Out.onL] at e <;> cases e
  rw [List.length_cons, r _ _ _ _ _ hr]
theorem kb_conv {q : Nat × List PySem.Str × List Nat} {φ : List Addr} {kk : PySem.W.Frag} {ps : List PySem.Str} {σ : L2.St} {H : L2.Hp} {Q : VK} (len : ∀ ds h, (∃ n, E.call i ds h = .bad n) ∨ ds.length = ps.length)
    (hl1 : Len fa q.1) (hl2 : Len fb q.2.1.length)
    (t : tE ⟨kk, φ, none⟩ (ξ ⟨kk, φ, none⟩) Z E (apkF i q.2.2 (appL fa fb)) σ H Q) : tKB q (spOf kk ξ E.call i ps.length) (WE Z) (tL ⟨kk, φ, none⟩ (ξ ⟨kk, φ, none⟩) Z E fa) (tL ⟨kk, φ, none⟩ (ξ ⟨kk, φ, none⟩) Z E fb) σ H Q := by
  obtain ⟨ρ, s, h, sr, hr, af⟩ := t
  refine ⟨ρ, s, h, sr, hr, ?_⟩
  have e1 : apkF i q.2.2 (appL fa fb) E s h = (fa E s h).onL fun ds h => (fb E s h).onL fun es h => match permL (ds ++ es) q.2.2 with
    | some ds => back s (E.call i ds h)
    | none => .bad 96 := by
    simp only [apkF, appL]
    generalize fa E s h = oa
    cases oa <;> try rfl
    rename_i ds h1
    simp only [Out.onL]
    generalize fb E s h1 = ob
    cases ob <;> rfl
  rw [e1] at af
  have hla := hl1 E s h
  generalize fa E s h = oa at af hla
  have a1 := AfterL.bind af
  cases oa <;> first | exact a1.elim | exact a1 | skip
  rename_i ds0 h0
  intro vs ρ1 H1 x1 hr1 dr1
  have a2 := AfterL.bind (After.ext af x1)
  have lb := hl2 E s h0
  have af2 : After ⟨kk, φ, none⟩ (ξ ⟨kk, φ, none⟩) Z ρ1 H1 σ Q ((fb E s h0).onL fun es h => match permL (ds0 ++ es) q.2.2 with | some ds => back s (E.call i ds h) | none => .bad 96) := After.ext af x1
  refine ⟨ρ1, s, h0, sr.ext x1, hr1, ?_⟩
  generalize fb E s h0 = ob at af2 lb
  have a3 := AfterL.bind af2
  cases ob <;> first | exact a3.elim | exact a3 | skip
  rename_i ds1 h1
  intro zs ρ2 H2 x2 hr2 dr2
  have af3 : After ⟨kk, φ, none⟩ (ξ ⟨kk, φ, none⟩) Z ρ2 H2 σ Q (match permL (ds0 ++ ds1) q.2.2 with | some ds => back s (E.call i ds h1) | none => .bad 96) := After.ext af2 x2
  refine ⟨by rw [← dr1.length]; exact hla _ _ rfl, by rw [← dr2.length]; exact lb _ _ rfl, ?_⟩
  generalize hp : permL (ds0 ++ ds1) q.2.2 = op at af3
  cases op with
  | none => exact af3.elim
  | some ds =>
    have dr := permA_drs ((dr1.ext x2).append dr2) hp
    have ac := after_call af3
    refine ⟨?_, φ, ρ2, h1, ds, hr2, dr, ac⟩
    rcases len ds h1 with ⟨n, z⟩ | z
    · rw [z] at ac; exact ac.elim
    · rw [← dr.length]; exact z
theorem pe_apkF {q : Nat × List PySem.Str × List Nat} (C : Callee X.prog X.w X.K X.mg X.base ξ E k x i f fd ps) (hb : KB X.K fd ps q) (hK : X.K = K.K) (hx : K.y.xn = none) (hr : RoomW k X.A) (tk : Takes X Z) (hg : Gl X x) (hs : isStar e = false) (ha : PA X (e :: es) (tL K (ξ K) Z E fa)) (hkw : PK X kws (tL K (ξ K) Z E fb)) (hl1 : Len fa q.1) (hl2 : Len fb q.2.1.length)
    (hall : (backToKw pos (keywordEach kws X.env)).all (·.1.isSome) = true) (hks : (backToKw pos (keywordEach kws X.env)).filterMap (·.1) = q.2.1) (hdb : (x == ("__debug__" : PySem.Str)) = false)
    (hpl : ((backTo pos (starEach (e :: es) X.env)).any (·.1) || (backToKw pos (keywordEach kws X.env)).any (·.1.isNone)) = false) : PE X (.Call (.Name x p) (e :: es) kws pos) (tE K (ξ K) Z E (apkF i q.2.2 (appL fa fb))) := by
  obtain ⟨kk, φ, xn⟩ := K; dsimp only at hK hx; subst hK; subst hx
  exact PE.imp (pe_kb (W := WE Z) C.ok hr hg C.at_ C.keep hb (fun σ => passAt tk σ) ha hkw hall hks hdb (star_no hs) hpl) fun σ H Q t => kb_conv C.len hl1 hl2 t
theorem pe_apkF0 {q : Nat × List PySem.Str × List Nat} (C : Callee X.prog X.w X.K X.mg X.base ξ E k x i f fd ps) (hb : KB X.K fd ps q) (hK : X.K = K.K) (hx : K.y.xn = none) (hr : RoomW k X.A) (tk : Takes X Z) (hg : Gl X x) (hkw : PK X kws (tL K (ξ K) Z E fb)) (hl1 : 0 = q.1) (hl2 : Len fb q.2.1.length)
    (hall : (backToKw pos (keywordEach kws X.env)).all (·.1.isSome) = true) (hks : (backToKw pos (keywordEach kws X.env)).filterMap (·.1) = q.2.1) (hdb : (x == ("__debug__" : PySem.Str)) = false)
    (hpl : ((backTo pos (starEach [] X.env)).any (·.1) || (backToKw pos (keywordEach kws X.env)).any (·.1.isNone)) = false) : PE X (.Call (.Name x p) [] kws pos) (tE K (ξ K) Z E (apkF i q.2.2 (appL nilF fb))) := by
  obtain ⟨kk, φ, xn⟩ := K; dsimp only at hK hx; subst hK; subst hx
  refine PE.imp (pe_kb0 (W := WE Z) C.ok hr hg C.at_ C.keep hb (fun σ => passAt tk σ) hkw hall hks hdb hpl) fun σ H Q t => ?_
  obtain ⟨ρ, s, h, sr, hr, af⟩ := kb_conv C.len (hl1 ▸ len_nil) hl2 t
  exact af [] ρ H Ext.refl hr DRs.nil
end
end Pv
set_option Elab.async false
set_option linter.all false
set_option maxRecDepth 100000
set_option maxHeartbeats 1000000
namespace Pv
open PySem L2 PySem.Spec PyProof.Rows
/-! ### sorted(set(xs)) of texts, plain -/
def strsOf : List G → Option (List Nat)
  | [] => some []
  | .str n :: r => (match strsOf r with | some t => some (n :: t) | none => none)
  | _ => none
theorem strsOf_eq : ∀ {xs : List G} {ns : List Nat}, strsOf xs = some ns → xs = ns.map .str
  | [], _, h => by cases h; rfl
  | .str n :: r, _, h => by
    unfold strsOf at h
    split at h
    · rename_i t e
      cases h
      rw [List.map_cons, ← strsOf_eq e]
    · cases h
  | .non :: _, _, h => nomatch h
  | .bl _ :: _, _, h => nomatch h
  | .int _ :: _, _, h => nomatch h
  | .tup _ :: _, _, h => nomatch h
  | .lst _ :: _, _, h => nomatch h
  | .rng _ _ :: _, _, h => nomatch h
  | .set _ :: _, _, h => nomatch h
section
variable {α : Type} [DecidableEq α] {c : α → G} {lt : α → α → Prop} [DecidableRel lt]
theorem memG_of (he : ∀ m n, eqG (c m) (c n) = some (decide (m = n))) {n : α} : ∀ {ms : List α}, memG (c n) (ms.map c) = some (decide (n ∈ ms))
  | [] => by simp [memG]
  | m :: ms => by
    rw [List.map_cons, memG, he, memG_of he]
    simp only [List.mem_cons, Option.some.injEq]
    by_cases h : n = m
    · subst h; simp
    · have h2 : decide (m = n) = false := decide_eq_false fun z => h z.symm
      rw [h2]; simp [h]
theorem dedup_of (he : ∀ m n, eqG (c m) (c n) = some (decide (m = n))) : ∀ {ns ms : List α} {ys : List G}, ms.Nodup → dedup (ns.map c) (ms.map c) = some ys → ∃ ks : List α, ys = ks.map c ∧ ks.Nodup ∧ ∀ x, x ∈ ks ↔ x ∈ ns ∨ x ∈ ms
  | [], ms, ys, nd, h => by
    simp only [List.map_nil, dedup, Option.some.injEq] at h
    exact ⟨ms.reverse, by rw [← h, List.map_reverse], (List.reverse_perm ms).nodup_iff.mpr nd, fun x => by simp⟩
  | n :: ns, ms, ys, nd, h => by
    rw [List.map_cons, dedup, memG_of he] at h
    by_cases q : n ∈ ms
    · rw [decide_eq_true q] at h
      obtain ⟨ks, e, k1, k2⟩ := dedup_of he nd h
      refine ⟨ks, e, k1, fun x => (k2 x).trans ⟨fun z => z.imp (List.mem_cons_of_mem _) id, fun z => z.elim (fun z => ?_) .inr⟩⟩
      rcases List.mem_cons.mp z with rfl | z
      · exact .inr q
      · exact .inl z
    · rw [decide_eq_false q] at h
      have h2 : dedup (ns.map c) ((n :: ms).map c) = some ys := h
      obtain ⟨ks, e, k1, k2⟩ := dedup_of he (List.nodup_cons.mpr ⟨q, nd⟩) h2
      refine ⟨ks, e, k1, fun x => (k2 x).trans ?_⟩
      simp only [List.mem_cons]
      constructor
      · rintro (z | z | z)
        · exact .inl (.inr z)
        · exact .inl (.inl z)
        · exact .inr z
      · rintro ((z | z) | z)
        · exact .inr (.inl z)
        · exact .inl z
        · exact .inr (.inr z)
theorem ins_of (hl : ∀ m n, ltG (c m) (c n) = some (decide (lt m n))) (as : ∀ a b, lt a b → ¬ lt b a) (tr : ∀ m y n, ¬ lt y m → lt y n → lt m n) {n : α} : ∀ {ms : List α} {zs : List G}, ms.Pairwise (fun a b => ¬ lt b a) → insG ltG (c n) (ms.map c) = some zs → ∃ ks : List α, zs = ks.map c ∧ ks.Perm (n :: ms) ∧ ks.Pairwise (fun a b => ¬ lt b a)
  | [], zs, _, h => by cases h; exact ⟨[n], rfl, List.Perm.refl _, List.pairwise_singleton _ _⟩
  | m :: ms, zs, pw, h => by
    obtain ⟨p1, p2⟩ := List.pairwise_cons.mp pw
    rw [List.map_cons, insG, hl] at h
    by_cases q : lt m n
    · rw [decide_eq_true q] at h
      dsimp only at h
      split at h
      · rename_i t et
        cases h
        obtain ⟨ks, e1, k1, k2⟩ := ins_of hl as tr p2 et
        refine ⟨m :: ks, by rw [List.map_cons, e1], (List.Perm.cons m k1).trans (List.Perm.swap n m ms), List.pairwise_cons.mpr ⟨fun y hy => ?_, k2⟩⟩
        rcases List.mem_cons.mp (k1.mem_iff.mp hy) with rfl | hy
        · exact as _ _ q
        · exact p1 y hy
      · cases h
    · rw [decide_eq_false q] at h
      cases h
      refine ⟨n :: m :: ms, rfl, List.Perm.refl _, List.pairwise_cons.mpr ⟨fun y hy => ?_, pw⟩⟩
      rcases List.mem_cons.mp hy with rfl | hy
      · exact q
      · exact fun z => q (tr m y n (p1 y hy) z)
theorem sort_of (hl : ∀ m n, ltG (c m) (c n) = some (decide (lt m n))) (as : ∀ a b, lt a b → ¬ lt b a) (tr : ∀ m y n, ¬ lt y m → lt y n → lt m n) : ∀ {ns : List α} {zs : List G}, sortG ltG (ns.map c) = some zs → ∃ ks : List α, zs = ks.map c ∧ ks.Perm ns ∧ ks.Pairwise (fun a b => ¬ lt b a)
  | [], zs, h => by cases h; exact ⟨[], rfl, List.Perm.refl _, List.Pairwise.nil⟩
  | n :: ns, zs, h => by
    rw [List.map_cons, sortG] at h
    split at h
    · rename_i t et
      obtain ⟨ks, rfl, k1, k2⟩ := sort_of hl as tr et
      obtain ⟨qs, e, q1, q2⟩ := ins_of hl as tr k2 h
      exact ⟨qs, e, q1.trans (List.Perm.cons n k1), q2⟩
    · cases h
end
theorem ltL_eq : ∀ a b : List Nat, ltL a b = decide (a < b)
  | [], [] => by simp [ltL]
  | [], b :: t => by simp [ltL]
  | a :: r, [] => by simp [ltL]
  | a :: r, b :: t => by
    have e : decide (a :: r < b :: t) = decide (a < b ∨ a = b ∧ r < t) := decide_eq_decide.mpr List.cons_lt_cons_iff
    rw [e, ltL, ltL_eq r t]
    by_cases h : a = b
    · subst h; simp
    · have h2 : (a == b) = false := beq_eq_false_iff_ne.mpr h
      rw [h2, if_neg (by decide)]
      simp [h]
      rw [Bool.eq_iff_iff, Nat.blt_eq, decide_eq_true_eq]
abbrev Up (a b : Nat) : Prop := ¬ dec b < dec a
theorem eq_str (m n : Nat) : eqG (.str m) (.str n) = some (decide (m = n)) := by
  have e : eqG (.str m) (.str n) = some (m == n) := rfl
  rw [e]; rfl
theorem eq_int (m n : Int) : eqG (.int m) (.int n) = some (decide (m = n)) := by
  have e : eqG (.int m) (.int n) = some (m == n) := rfl
  rw [e]; rfl
theorem dedup_str {ns ms : List Nat} {ys : List G} : ms.Nodup → dedup (ns.map .str) (ms.map .str) = some ys → ∃ ks : List Nat, ys = ks.map .str ∧ ks.Nodup ∧ ∀ x, x ∈ ks ↔ x ∈ ns ∨ x ∈ ms := dedup_of eq_str
theorem dedup_int {ns ms : List Int} {ys : List G} : ms.Nodup → dedup (ns.map .int) (ms.map .int) = some ys → ∃ ks : List Int, ys = ks.map .int ∧ ks.Nodup ∧ ∀ x, x ∈ ks ↔ x ∈ ns ∨ x ∈ ms := dedup_of eq_int
theorem sort_str {ns : List Nat} {zs : List G} : sortG ltG (ns.map .str) = some zs → ∃ ks : List Nat, zs = ks.map .str ∧ ks.Perm ns ∧ ks.Pairwise Up :=
  sort_of (lt := fun a b => dec a < dec b) (fun m n => by
    have e : ltG (.str m) (.str n) = some (ltL (dec m) (dec n)) := rfl
    rw [e, ltL_eq]) (fun a b => List.lt_asymm) fun m y n h1 z => List.lt_of_le_of_lt (List.not_lt.mp h1) z
theorem sort_int {ns : List Int} {zs : List G} : sortG ltG (ns.map .int) = some zs → ∃ ks : List Int, zs = ks.map .int ∧ ks.Perm ns ∧ ks.Pairwise (fun a b => ¬ b < a) :=
  sort_of (lt := fun a b => a < b) (fun m n => rfl) (fun a b => by omega) fun m y n h1 z => by omega
theorem up_unique {α : Type} (R : α → α → Prop) (as : ∀ a b, R a b → R b a → a = b) : ∀ {l m : List α}, l.Perm m → l.Pairwise R → m.Pairwise R → l = m
  | [], m, p, _, _ => by rw [List.nil_perm.mp p]
  | a :: l, [], p, _, _ => absurd p.length_eq (by simp)
  | a :: l, b :: m, p, h1, h2 => by
    obtain ⟨a1, a2⟩ := List.pairwise_cons.mp h1
    obtain ⟨b1, b2⟩ := List.pairwise_cons.mp h2
    have e : a = b := by
      rcases List.mem_cons.mp (p.mem_iff.mp List.mem_cons_self) with e | ha
      · exact e
      · rcases List.mem_cons.mp (p.mem_iff.mpr List.mem_cons_self) with e | hb
        · exact e.symm
        · exact as a b (a1 b hb) (b1 a ha)
    subst e
    rw [up_unique R as (List.Perm.cons_inv p) a2 b2]
theorem rising_pw : ∀ {l : List PySem.Str} {p : PySem.Str}, risingS p l = true → (∀ y ∈ l, ¬ y.cps.toList < p.cps.toList) ∧ l.Pairwise (fun a b => ¬ b.cps.toList < a.cps.toList)
  | [], p, _ => ⟨fun y h => (by cases h), List.Pairwise.nil⟩
  | x :: r, p, h => by
    have h : (!ltCps x.cps.toList p.cps.toList && risingS x r) = true := h
    rw [Bool.and_eq_true, ltCps_eq] at h
    obtain ⟨h1, h2⟩ := h
    have h1 : ¬ x.cps.toList < p.cps.toList := by simpa using h1
    obtain ⟨i1, i2⟩ := rising_pw h2
    refine ⟨fun y hy => ?_, List.pairwise_cons.mpr ⟨i1, i2⟩⟩
    rcases List.mem_cons.mp hy with rfl | hy
    · exact h1
    · exact fun z => h1 (List.lt_of_le_of_lt (List.not_lt.mp (i1 y hy)) z)
theorem sortedS_pw : ∀ {l : List PySem.Str}, sortedS l = true → l.Pairwise (fun a b => ¬ b.cps.toList < a.cps.toList)
  | [], _ => List.Pairwise.nil
  | x :: r, h => by
    obtain ⟨i1, i2⟩ := rising_pw (l := r) (p := x) h
    exact List.pairwise_cons.mpr ⟨i1, i2⟩
theorem sorted_one {ks : List Nat} {ys l : List PySem.Str} {ns : List Nat} (hk : ks.Nodup) (pk : ks.Pairwise Up) (mk : ∀ x, x ∈ ks ↔ x ∈ ns) (nl : l.Nodup) (ml : ∀ x, x ∈ l ↔ x ∈ ns.map encS) (py : ys.Perm l) (sy : sortedS ys = true) : ys = ks.map encS := by
  refine up_unique (fun a b : PySem.Str => ¬ b.cps.toList < a.cps.toList) (fun a b h1 h2 => ?_) ?_ (sortedS_pw sy) (List.pairwise_map.mpr (pk.imp fun {a b} h => h))
  · have : a.cps.toList = b.cps.toList := List.le_antisymm (List.not_lt.mp h1) (List.not_lt.mp h2)
    cases a; cases b
    simp only at this
    rw [Array.toList_inj.mp this]
  · refine py.trans ((List.perm_ext_iff_of_nodup nl (List.pairwise_map.mpr (hk.imp fun {a b} h e => h (encS_inj e)))).mpr fun x => ?_)
    rw [ml x, List.mem_map, List.mem_map]
    exact ⟨fun ⟨n, h, e⟩ => ⟨n, (mk n).mpr h, e⟩, fun ⟨n, h, e⟩ => ⟨n, (mk n).mp h, e⟩⟩
end Pv
set_option Elab.async false
set_option linter.all false
set_option maxRecDepth 100000
set_option maxHeartbeats 1000000
namespace Pv
open PySem L2 PySem.Spec PyProof.Rows
theorem isS_strs : ∀ {xs : List G}, xs.all isS = true → ∃ ns : List Nat, xs = ns.map .str
  | [], _ => ⟨[], rfl⟩
  | x :: r, h => by
    simp only [List.all_cons, Bool.and_eq_true] at h
    obtain ⟨ns, e⟩ := isS_strs h.2
    cases x with
    | str n => exact ⟨n :: ns, by rw [e]; rfl⟩
    | _ => exact absurd h.1 (by simp [isS])
theorem isI_ints : ∀ {xs : List G}, xs.all isI = true → ∃ ns : List Int, xs = ns.map .int
  | [], _ => ⟨[], rfl⟩
  | x :: r, h => by
    simp only [List.all_cons, Bool.and_eq_true] at h
    obtain ⟨ns, e⟩ := isI_ints h.2
    cases x with
    | int n => exact ⟨n :: ns, by rw [e]; rfl⟩
    | _ => exact absurd h.1 (by simp [isI])
theorem drs_str {K : Kx} {H : L2.Hp} {ρ : List Addr} : ∀ {ns : List Nat} {vs : List V}, GRs K H ρ (ns.map .str) vs → vs = (ns.map encS).map V.str
  | [], vs, g => g.inv0
  | n :: ns, vs, g => by
    obtain ⟨v, t, rfl, g1, g2⟩ := g.inv
    rw [drs_str g2]
    have : v = .str (encS n) := by unfold GR at g1; exact g1
    rw [this]; rfl
theorem grs_of_str {K : Kx} {H : L2.Hp} {ρ : List Addr} : ∀ (ns : List Nat), GRs K H ρ (ns.map G.str) ((ns.map encS).map V.str)
  | [] => GRs.nil
  | n :: ns => GRs.cons (by unfold GR; rfl) (grs_of_str ns)
theorem grs_of_int {K : Kx} {H : L2.Hp} {ρ : List Addr} : ∀ (ns : List Int), GRs K H ρ (ns.map G.int) (ns.map V.int)
  | [] => GRs.nil
  | n :: ns => GRs.cons (by unfold GR; rfl) (grs_of_int ns)
theorem drs_int {K : Kx} {H : L2.Hp} {ρ : List Addr} : ∀ {ns : List Int} {vs : List V}, GRs K H ρ (ns.map .int) vs → vs = ns.map V.int
  | [], vs, g => g.inv0
  | n :: ns, vs, g => by
    obtain ⟨v, t, rfl, g1, g2⟩ := g.inv
    rw [drs_int g2]
    have : v = .int n := by unfold GR at g1; exact g1
    rw [this]; rfl
theorem drs_of_str {K : Kx} {H : L2.Hp} {ρ : List Addr} : ∀ (ns : List Nat), DRs K H ρ ((ns.map G.str).map .g) ((ns.map encS).map V.str)
  | [] => DRs.nil
  | n :: ns => DRs.cons (by unfold DR GR; rfl) (drs_of_str ns)
theorem drs_of_int {K : Kx} {H : L2.Hp} {ρ : List Addr} : ∀ (ns : List Int), DRs K H ρ ((ns.map G.int).map .g) (ns.map V.int)
  | [] => DRs.nil
  | n :: ns => DRs.cons (by unfold DR GR; rfl) (drs_of_int ns)
theorem vstrs : ∀ {us : List Value} {ys : List PySem.Str}, StrsAre us ys → Vals (ys.map V.str) us
  | _, _, .nil => .nil
  | _, _, .cons n t hr => .cons ⟨t, rfl⟩ (vstrs hr)
theorem srt_of {xs : List G} {r : List G} (h : ssetG xs = some r) : (∃ ns : List Nat, xs = ns.map .str ∧ xs.length < 64 ∧ ∃ ks : List Nat, r = ks.map .str ∧ ks.Nodup ∧ ks.Pairwise Up ∧ ∀ x, x ∈ ks ↔ x ∈ ns) ∨ (∃ ns : List Int, xs = ns.map .int ∧ xs.length < 64 ∧ ∃ ks : List Int, r = ks.map .int ∧ ks.Pairwise (· < ·) ∧ ∀ x, x ∈ ks ↔ x ∈ ns) := by
  unfold ssetG at h
  split at h
  · rename_i c
    rw [Bool.and_eq_true, Bool.or_eq_true, Nat.blt_eq] at c
    obtain ⟨c1, c2⟩ := c
    rcases c1 with c1 | c1
    · obtain ⟨ns, rfl⟩ := isS_strs c1
      refine .inl ⟨ns, rfl, c2, ?_⟩
      split at h
      · rename_i ys e
        obtain ⟨ms, rfl, m1, m2⟩ := dedup_str (ms := []) List.nodup_nil e
        obtain ⟨ks, rfl, k1, k2⟩ := sort_str h
        exact ⟨ks, rfl, k1.nodup_iff.mpr m1, k2, fun x => by rw [k1.mem_iff, m2 x]; simp⟩
      · cases h
    · obtain ⟨ns, rfl⟩ := isI_ints c1
      refine .inr ⟨ns, rfl, c2, ?_⟩
      split at h
      · rename_i ys e
        obtain ⟨ms, rfl, m1, m2⟩ := dedup_int (ms := []) List.nodup_nil e
        obtain ⟨ks, rfl, k1, k2⟩ := sort_int h
        refine ⟨ks, rfl, (k2.and (k1.nodup_iff.mpr m1)).imp fun {a b} z => ?_, fun x => by rw [k1.mem_iff, m2 x]; simp⟩
        have := z.1; have := z.2; omega
      · cases h
  · cases h
section
variable {X : Cx} {K : Kx} {ξ : XRel} {Z : WX} {E : Env} {a : Expr} {fa : F} {p p2 q pos : Pos}
theorem sset_conv {σ : L2.St} {H : L2.Hp} {Q : VK} (t : tE K ξ Z E (bltF .sset (cnsF fa nilF)) σ H Q) : tE K ξ Z E fa σ H fun x H1 => ∃ ρ h d l ds xs r, HR K ρ h H1 ∧ DR K H1 ρ d x ∧ kind h d = some (l, ds) ∧ unGs ds = some xs ∧ ssetG xs = some r ∧ Fin K ρ h H1 Q (.g (.lst r)) := by
  obtain ⟨ρ, s, h, sr, hr, af⟩ := t
  have e : bltF .sset (cnsF fa nilF) E s h = (fa E s h).onV fun d h => ov h (bltV .sset [d] h) 33 := by
    unfold bltF cnsF nilF
    cases fa E s h <;> rfl
  rw [e] at af
  refine ⟨ρ, s, h, sr, hr, After.mono af.bind fun v H1 ⟨ρ1, d, h1, x1, hr1, dr1, af1⟩ => ?_⟩
  have f := af1.ov
  change FinO K ρ1 h1 H1 Q (match knG h1 d with | some xs => omap (fun l => .g (.lst l)) (ssetG xs) | none => none) at f
  unfold knG at f
  cases ek : kind h1 d with
  | none => rw [ek] at f; exact f.elim
  | some y =>
    obtain ⟨l, ds⟩ := y
    rw [ek] at f
    dsimp only at f
    cases eu : unGs ds with
    | none => rw [eu] at f; exact f.elim
    | some xs =>
      rw [eu] at f
      dsimp only at f
      cases es : ssetG xs with
      | none => rw [es] at f; exact f.elim
      | some r => rw [es] at f; exact ⟨ρ1, h1, d, l, ds, xs, r, hr1, dr1, ek, eu, es, f⟩
theorem pe_ssetF (hK : X.K = K.K) (hc : X.calm = true) (hs : isStar a = false) (ha : PE X a (tE K ξ Z E fa)) (hg : Gl X "sorted") (hm : X.mg "sorted" = none) (hg2 : Gl X "set") (hm2 : X.mg "set" = none) :
    PE X (.Call (.Name "sorted" p) [.Call (.Name "set" p2) [a] [] q] [] pos) (tE K ξ Z E (bltF .sset (cnsF fa nilF))) := by
  obtain ⟨kk, y⟩ := K; dsimp only at hK; subst hK
  refine ⟨fun pins s σ H Q I t => ?_⟩
  have t := sset_conv t
  have na := star_no (env := X.env) (es := []) hs
  refine Call_ (ld_blt I hg hm PyProof.Rows.boot_sorted ?_)
  refine PyProof.Rows.callWith_builtin1 (PyProof.Rows.args_cons ?_ rfl) rfl rfl
  refine Call_ (ld_blt I hg2 hm2 PyProof.Rows.boot_set ?_)
  refine PyProof.Rows.callWith_type1 (PyProof.Rows.args_cons (thn (ha.run pins s σ H _ I t) fun v s1 ⟨x, H1, I1, r1, ρ, h, d, l, ds, xs, r, hr, dr, ek, eu, es, fin⟩ => PyProof.Rows.args_nil ?_) na) na rfl
  obtain ⟨vs, kv, dv⟩ := kind_view hr dr ek
  have gv := dv.toG eu
  obtain ⟨p, rfl, sq⟩ := kv.sq
  cases r1
  have hd := I1.ok.hd hc
  have fin2 : ∀ (Z : Heap → Prop) (zs : List V), Fin ⟨X.K, y⟩ ρ h H1 Q (.g (.lst r)) → (∀ (s2 : Shared), Z s2.heap → X.A.handled = none → ∀ Q2 : Value → Shared → Prop, (∀ s' p (out : Array Value) (c : Nat), (∀ b o, s2.heap.get? b = some o → s'.heap.get? b = some o) → s'.gens = s2.gens → s'.os = s2.os → s2.heap.objs.size ≤ p →
        s'.heap.get? p = some (seqObj "list" out c) → Vals zs out.toList → Q2 (.ref p) s') → wpAny (model X.prog X.w) X.A (call (.builtin "sorted") [.ref s1.heap.objs.size]) Q2 X.xe s2) → zs.length ≤ sizeLine → GRs ⟨X.K, y⟩ H1 ρ r zs →
      ∀ (h' : Heap) (tk : Nat), Z h' → (∀ b o, s1.heap.get? b = some o → h'.get? b = some o) →
        wpAny (model X.prog X.w) X.A (spliced (backTo pos (starEach [] X.env))) (fun vs s₂ => wpAny (model X.prog X.w) X.A (call (.builtin "sorted") (Value.ref s1.heap.objs.size :: vs)) (EP X pins σ Q) X.xe s₂) X.xe { s1 with heap := h', toks := tk } := fun Z zs fin sr hlen gz h' tk z keep => by
      refine PyProof.Rows.args_nil ?_
      have I2 : Inv X pins σ H1 { s1 with heap := h', toks := tk } := I1.kept keep
      refine sr { s1 with heap := h', toks := tk } z hd _ fun s' p out c k g o hp hget hi => ?_
      have hn : H1 p = none := I2.hok.fresh hp
      have J : Inv X pins σ (upd H1 p (.lst zs)) { s1 with heap := s'.heap, gens := s'.gens, drawn := s'.drawn, toks := s'.toks } :=
        Inv.call (s := { s1 with heap := h', toks := tk }) (ch := []) I2 (Un.laid k hp hn) (I2.hok.laid k hp ⟨hlen, out.toList, c, hi, hget⟩) (by rw [g]; exact I2.bare) (fun _ z => nomatch z)
      have e : s' = { s1 with heap := s'.heap, gens := s'.gens, drawn := s'.drawn, toks := s'.toks } := by
        cases s'
        cases s1
        cases o
        rfl
      rw [e]
      exact ⟨.ref p, _, J, rfl, fin.lst hr hn gz⟩
  rcases srt_of es with ⟨ns, rfl, hl, ks, rfl, k1, k2, k3⟩ | ⟨ns, rfl, hl, ks, rfl, k2, k3⟩
  · have ev := drs_str gv
    subst ev
    rw [List.length_map] at hl
    have kl : ks.length ≤ ns.length := (List.Nodup.length_le_of_subset k1 fun x hx => (k3 x).mp hx)
    have go := fin2 (fun h => ∃ l D, StrR X.prog X.w h s1.heap.objs.size l D ∧ (∀ x, x ∈ l ↔ x ∈ ns.map encS) ∧ l.length ≤ (ns.map encS).length) ((ks.map encS).map V.str) fin (fun s2 ⟨l', D, R, ml, ll⟩ hh Q2 hQ => by
      refine sorted_strR R hh (by rw [List.length_map] at ll; unfold scanBound; omega) fun s' p out c ys k g o hp hget hi py sy => hQ s' p out c k g o hp hget ?_
      have e := sorted_one k1 k2 k3 R.nd ml py sy
      subst e
      exact vstrs hi) (by rw [List.length_map, List.length_map, sizeLine_eq]; omega) (grs_of_str ks)
    rcases sq with sq | sq
    · obtain ⟨its, r, pl, hz⟩ := I1.list sq
      have hi : StrsAre its (ns.map encS) := strsAre_of r
      exact call_setLg hd pl.isList (loop_strs (by simpa using hi) (by rw [List.length_map]; unfold scanBound; omega)) fun h' tk z keep => go h' tk z keep
    · obtain ⟨its, r, pl, hz⟩ := I1.tuple sq
      have hi : StrsAre its (ns.map encS) := strsAre_of r
      exact call_setTg hd pl (loop_strs (by simpa using hi) (by rw [List.length_map]; unfold scanBound; omega)) fun h' tk z keep => go h' tk z keep
  · have ev := drs_int gv
    subst ev
    rw [List.length_map] at hl
    have kn : ks.Nodup := k2.imp fun {a b} h e => by omega
    have kl : ks.length ≤ ns.length := (List.Nodup.length_le_of_subset kn fun x hx => (k3 x).mp hx)
    have go := fin2 (fun h => ∃ c, c ≤ ns.length ∧ SetR X.w h s1.heap.objs.size (fun j => decide (j ∈ ns)) c) (ks.map V.int) fin (fun s2 ⟨c, hc, R⟩ hh Q2 hQ => by
      refine sorted_set R hh (by omega) fun s' p out c' zs k g o hp hget hi hs hm hn => hQ s' p out c' k g o hp hget ?_
      have e : zs = ks := up_unique (fun a b : Int => a < b) (fun a b h1 h2 => by omega) ((List.perm_ext_iff_of_nodup (hs.imp fun {a b} h e => by omega) kn).mpr fun x => by rw [hm x, k3 x]; simp) hs k2
      subst e
      exact vals_of_ints hi) (by rw [List.length_map, sizeLine_eq]; omega) (grs_of_int ks)
    rcases sq with sq | sq
    · obtain ⟨its, r, pl, hz⟩ := I1.list sq
      exact call_setLg hd pl.isList (loop_ints (intsAre_of (by simpa using r)) (by unfold scanBound; omega)) fun h' tk z keep => go h' tk z keep
    · obtain ⟨its, r, pl, hz⟩ := I1.tuple sq
      exact call_setTg hd pl (loop_ints (intsAre_of (by simpa using r)) (by unfold scanBound; omega)) fun h' tk z keep => go h' tk z keep
end
end Pv
set_option Elab.async false
set_option linter.all false
set_option maxRecDepth 100000
set_option maxHeartbeats 1000000
/-! t[::-1] of a tuple, as of a list in the kit -/
namespace Pv
open PySem L2 PySem.Spec PyProof.Rows
section
variable {prog : Program} {w : World} {A : Around} {E : Value → Shared → Prop} {s : Shared}
theorem adj_rev (n : Nat) : Builtin.Slice.sliceAdjust none none (-1) (n : Int) = ((n : Int) - 1, -1) := by
  unfold Builtin.Slice.sliceAdjust
  simp
theorem places_rev (n : Nat) : Builtin.Slice.slicePlaces ((n : Int) - 1) (-1) (-1) = n := by
  unfold Builtin.Slice.slicePlaces
  simp
  omega
theorem applied_rev {sl : Addr} {vl vu vs : Value} {n : Nat} {Q : Int × Int × Nat → Shared → Prop} (hs : s.heap.IsSliceOf sl vl vu vs) (pl : IsPart vl none) (pu : IsPart vu none) (ps : IsPart vs (some (-1)))
    (h : Q ((n : Int) - 1, -1, n) s) : wpAny (model prog w) A (Builtin.Slice.sliceApplied (.ref sl) (pure (n : Int))) Q E s := by
  obtain ⟨ob, ho, hc, hd⟩ := id hs
  unfold Builtin.Slice.sliceApplied Builtin.Slice.sliceFields
  refine wpAny_bind (wpAny_bind (wpAny_field ho hd (x := vl) rfl (wpAny_bind (wpAny_field ho hd (x := vu) rfl (wpAny_bind (wpAny_field ho hd (x := vs) rfl (wpAny_pure ?_)))))))
  refine wpAny_bind (HT.slicePart_ ps ?_)
  show wpAny _ _ (if ((-1 : Int) == 0) = true then _ else _) _ _ s
  rw [if_neg (by decide)]
  refine wpAny_bind (HT.slicePart_ pl (wpAny_bind (HT.slicePart_ pu (wpAny_bind (wpAny_pure ?_)))))
  show wpAny _ _ (match Builtin.Slice.sliceAdjust none none (-1) (n : Int) with | (lo, hi) => pure (lo, (-1 : Int), Builtin.Slice.slicePlaces lo hi (-1))) _ _ s
  rw [adj_rev]
  show wpAny _ _ (pure ((n : Int) - 1, (-1 : Int), Builtin.Slice.slicePlaces ((n : Int) - 1) (-1) (-1))) _ _ s
  rw [places_rev]
  exact wpAny_pure h
theorem pick_rev (xs : Array Value) : ((List.range xs.size).filterMap fun (m : Nat) => xs[((xs.size : Int) - 1 + (m : Int) * (-1)).toNat]?).toArray = xs.toList.reverse.toArray := by
  have e : (fun (m : Nat) => xs[((xs.size : Int) - 1 + (m : Int) * (-1)).toNat]?) = (fun k => xs[k]?) ∘ fun m => xs.size - 1 - m := by
    funext m
    have : ((xs.size : Int) - 1 + (m : Int) * (-1)).toNat = xs.size - 1 - m := by omega
    rw [this]
    rfl
  rw [e, ← List.filterMap_map, PySem.W.krv_range, List.filterMap_reverse, PySem.W.krv_all]
theorem getItem_tuple_rev {t sl : Addr} {items : Array Value} {vl vu vs : Value} {Q : Value → Shared → Prop} (ht : IsTup s.heap t items) (hs : s.heap.IsSliceOf sl vl vu vs) (pl : IsPart vl none) (pu : IsPart vu none) (ps : IsPart vs (some (-1)))
    (h : Q (.ref s.heap.objs.size) { s with heap := s.heap.push { cls := .type "tuple", data := .seq items.toList.reverse.toArray } }) (hz : items.size ≤ sizeLine) : wpAny (model prog w) A (getItem (.ref t) (.ref sl)) Q E s := by
  have ok : sizeOk (.seq items.toList.reverse.toArray) := by
    show items.toList.reverse.toArray.size ≤ sizeLine
    rw [List.size_toArray, List.length_reverse, Array.length_toList]
    exact hz
  obtain ⟨ob, ho, hc, hd⟩ := id hs
  have ty : s.TypeIs (.ref sl) "slice" := ⟨ob, ho, hc⟩
  unfold getItem
  try with_reducible refine wpAny_holding ?_
  first | refine wpAny_bind (wpAny_pure ?_) | skip
  refine wpAny_bind (wpAny_sequenceKey ht.typeIs (by decide) (wpAny_bind (wpAny_callSpecial?_slot (name := Str.ofString "__getitem__") ht.typeIs PyProof.Rows.slot_tuple_getitem (wpAny_call_entry PyProof.Rows.slot_tuple_getitem ht.typeIs entry_tuple_getitem ?_ (args_tuple_getitem _ _)))))
  show wpAny _ _ (Builtin.Tuple.tupleItemsOf (.ref t) >>= _) _ _ s
  refine wpAny_bind (tupleItemsOf_ ht (wpAny_bind (wpAny_typeOf ty ?_)))
  rw [if_pos (by decide)]
  refine wpAny_bind (applied_rev hs pl pu ps ?_)
  have no : ¬ ((((items.size : Int) - 1) == 0 && (-1 : Int) == 1 && items.size == items.size) = true) := by simp
  show wpAny _ _ (if (((items.size : Int) - 1) == 0 && (-1 : Int) == 1 && items.size == items.size) = true then _ else _) _ _ s
  rw [if_neg no, pick_rev]
  first
    | exact wpAny_bind (m := Builtin.Tuple.tupleExact _) (wpAny_newObj_type (wpAny_pure ⟨_, rfl, wpAny_pure h⟩) ok)
    | exact wpAny_bind (m := Builtin.Tuple.tupleExact _) (wpAny_newObj_type (wpAny_bind (wpAny_pure (wpAny_pure ⟨_, rfl, wpAny_pure h⟩))) ok)
    | exact wpAny_bind (wpAny_bind (m := Builtin.Tuple.tupleExact _) (wpAny_newObj_type (wpAny_pure (wpAny_pure ⟨_, rfl, wpAny_pure h⟩)) ok))
    | exact wpAny_bind (wpAny_bind (m := Builtin.Tuple.tupleExact _) (wpAny_newObj_type (wpAny_pure ⟨_, rfl, wpAny_pure h⟩) ok))
end
section
variable {X : Cx}
/-- xs[::-1] of a list or a tuple -/
def tRevA (K : PySem.W.Frag) (te : TE) : TE := fun σ H Q => te σ H fun x H1 => ∃ a xs, x = .ref a ∧ ((SqL K H1 a xs ∧ ∀ p, H1 p = none → Q (.ref p) (upd H1 p (.lst xs.reverse))) ∨ (SqT K H1 a xs ∧ ∀ p, H1 p = none → Q (.ref p) (upd H1 p (.tup xs.reverse))))
theorem pe_revA {e : Expr} {te : TE} {k : Nat} {p1 p2 p3 pos : Pos} (he : PE X e te) : PE X (.Subscript e (.Slice none none (some (.UnaryOp .USub (.Constant (.int 1) k p1) p2)) p3) pos) (tRevA X.K te) := by
  have neg : PO X (some (.UnaryOp .USub (.Constant (.int 1) k p1) p2)) (tPart (tUn (rU fun i => .int (-i)) (tC (.int 1)))) := po_some (pe_un un_neg pe_int)
  refine ⟨fun pins s σ H Q I h => Subscript_ (thn (he.run pins s σ H _ I h) fun v s1 ⟨x, H1, I1, r1, a, xs, ex, q⟩ => ?_)⟩
  subst ex
  cases r1
  refine wpAny_Slice (thn (po_none.run pins s1 σ H1 (fun o H2 => o = none ∧ H2 = H1) I1 ⟨rfl, rfl⟩) fun vl s2 ⟨l, H2, I2, pl, el, e2⟩ => ?_)
  subst el e2
  refine thn (po_none.run pins s2 σ H2 (fun o H3 => o = none ∧ H3 = H2) I2 ⟨rfl, rfl⟩) fun vu s3 ⟨u, H3, I3, pu, eu, e3⟩ => ?_
  subst eu e3
  refine thn (neg.run pins s3 σ H3 (fun o H4 => o = some (-1) ∧ H4 = H3) I3 ⟨1, rfl, -1, rfl, rfl, rfl⟩) fun vs s4 ⟨o, H4, I4, ps, eo, e4⟩ => ?_
  subst eo e4
  have I5 : Inv X pins σ H4 { s4 with heap := s4.heap.push { cls := .type "slice", data := .fields #[vl, vu, vs] } } := I4.kept (t' := s4.toks) fun b ob z => Heap.get?_push_of_some _ z
  show wpAny (model X.prog X.w) X.A (subscriptTail e (.Slice none none (some (.UnaryOp .USub (.Constant (.int 1) k p1) p2)) p3) (.ref a) (.ref s4.heap.objs.size)) (EP X pins σ Q) X.xe { s4 with heap := s4.heap.push { cls := .type "slice", data := .fields #[vl, vu, vs] } }
  rcases q with ⟨hx, q⟩ | ⟨hx, q⟩
  · obtain ⟨its, r, ht, hz⟩ := I5.list hx
    have hlen := r.length
    refine tail_any (ops := [.ref a, .ref s4.heap.objs.size]) ht.isList.typeIs (PySem.slot_list_getitem.lookup) ?_ (by with_unfolding_all rfl)
    refine wpAny_getItem_list_slice ht.isList (Heap.IsSliceOf.new _ vl vu vs) pl pu ps (by decide) ?_ (by rw [List.size_toArray]; omega)
    rw [PySem.W.krv_pick]
    exact ⟨.ref _, _, I5.laid (t' := s4.toks) (o := .lst xs.reverse) (fun b ob z => Heap.get?_push_of_some _ z) (Nat.le_refl _) ⟨by rw [List.length_reverse]; exact hz, _, 0, r.reverse, Heap.get?_push_size _ rfl⟩, rfl, q _ (I5.hok.fresh (Nat.le_refl _))⟩
  · obtain ⟨its, r, ht, hz⟩ := I5.tuple hx
    have hlen := r.length
    refine tail_any (ops := [.ref a, .ref s4.heap.objs.size]) ht.typeIs (PyProof.Rows.slot_tuple_getitem.lookup) ?_ (by with_unfolding_all rfl)
    refine getItem_tuple_rev ht (Heap.IsSliceOf.new _ vl vu vs) pl pu ps ?_ (by rw [List.size_toArray]; omega)
    exact ⟨.ref _, _, I5.laid (t' := s4.toks) (o := .tup xs.reverse) (fun b ob z => Heap.get?_push_of_some _ z) (Nat.le_refl _) ⟨by rw [List.length_reverse]; exact hz, _, r.reverse, IsTup.new _ _⟩, rfl, q _ (I5.hok.fresh (Nat.le_refl _))⟩
end
end Pv
set_option Elab.async false
set_option linter.all false
set_option maxRecDepth 100000
set_option maxHeartbeats 1000000
namespace Pv
open PySem L2 PySem.Spec PyProof.Rows
section
variable {X : Cx} {K : Kx} {ξ : XRel} {Z : WX} {E : Env} {a b e : Expr} {es : List Expr} {fa fb fr : F} {p pos : Pos}
/-! ### xs[::-1] -/
theorem DRs.rev {K : Kx} {H : L2.Hp} {ρ : List Addr} : ∀ {ds : List D} {vs : List V}, DRs K H ρ ds vs → DRs K H ρ ds.reverse vs.reverse
  | [], vs, h => by rw [h.inv0]; exact DRs.nil
  | d :: ds, vs, h => by
    obtain ⟨v, t, rfl, h1, h2⟩ := h.inv
    rw [List.reverse_cons, List.reverse_cons]
    exact (DRs.rev h2).append (DRs.one h1)
theorem slr_some {h : Hp} {d r : D} (e : slrV d h = some r) : ∃ l ds, kind h d = some (l, ds) ∧ r = if l = true then mkLst ds.reverse else mkTup ds.reverse := by
  unfold slrV at e
  split at e
  · rename_i q; cases e; exact ⟨true, _, q, rfl⟩
  · rename_i q; cases e; exact ⟨false, _, q, rfl⟩
  · cases e
theorem pe_slrF (hK : X.K = K.K) {k : Nat} {p1 p2 p3 : Pos} (bx : Bool) (ha : PE X a (tE K ξ Z E fa)) : PE X (.Subscript a (.Slice none none (some (.UnaryOp .USub (.Constant (.int 1) k p1) p2)) p3) pos) (tE K ξ Z E (bxF bx (slrF fa))) := by
  obtain ⟨k', y⟩ := K; dsimp only at hK; subst hK
  refine PE.imp (pe_revA ha) fun σ H Q ⟨ρ, s, h, sr, hr, af⟩ => ?_
  rw [bx_onV (fa := fa) rfl] at af
  refine ⟨ρ, s, h, sr, hr, After.mono af.bind fun x H1 ⟨ρ1, d, h1, x1, hr1, dr1, af1⟩ => ?_⟩
  have f := onV_val (o := slrV d h1) bx af1
  cases e : slrV d h1 with
  | none => rw [e] at f; exact f.elim
  | some r =>
    rw [e] at f
    obtain ⟨l, ds, k1, rfl⟩ := slr_some e
    obtain ⟨vs, ⟨q, rfl, kp⟩, dv⟩ := kind_view hr1 dr1 k1
    cases l with
    | true => exact ⟨q, vs, rfl, .inl ⟨.inl kp, fun p hp => FinB.mkLst f hr1 hp dv.rev⟩⟩
    | false =>
      have f : FinB ⟨X.K, y⟩ ρ1 h1 H1 Q bx (mkTup ds.reverse) := f
      exact ⟨q, vs, rfl, .inr ⟨kp, fun p hp => Fin.mkTup (f.plain (unL_mkTup _)) hr1 hp dv.rev⟩⟩
/-! ### range as a value -/
theorem cr_range1 : CallR X (.type "range") (fun vs H Q => ∃ j, vs = [V.int j] ∧ ∀ p, H p = none → Q (.ref p) (upd H p (.rng 0 j))) := by
  intro pins s σ H vs us Q I r ⟨j, e, q⟩
  subst e
  obtain ⟨u1, rfl, ri⟩ := vals1 r
  obtain ⟨t, rfl⟩ := ri
  exact call_range_1 ⟨.ref s.heap.objs.size, upd H s.heap.objs.size (.rng 0 j), I.laid (t' := s.toks + 1 + 1) (fun b o e => Heap.get?_push_of_some _ e) (Nat.le_refl _) ⟨s.toks, t, s.toks + 1, Heap.get?_push_size _ rfl⟩, rfl, q _ (I.hok.fresh (Nat.le_refl _))⟩
theorem rng_end {K : Kx} {ρ : List Addr} {h : Hp} {H : L2.Hp} {Q : VK} {lo hi : Int} {p : Addr} (f : Fin K ρ h H Q (.g (.rng lo hi))) (hr : HR K ρ h H) (z1 : okI lo = true) (z2 : okI hi = true) (hp : H p = none) : Q (.ref p) (upd H p (.rng lo hi)) :=
  f.new hr hp (by unfold DR GR; exact ⟨p, rfl, upd_same, (okI_ok z1).1, (okI_ok z1).2, (okI_ok z2).1, (okI_ok z2).2⟩)
theorem pe_rg1F (hs1 : isStar a = false) (ha : PE X a (tE K ξ Z E fa)) (hg : Gl X "range") (hm : X.mg "range" = none) : PE X (.Call (.Name "range" p) [a] [] pos) (tE K ξ Z E (rgF (cnsF fa nilF))) := by
  refine PE.imp (pe_callTy cr_range1 hg hm boot_range (pa_cons ha pa_nil (star_no hs1)) (by decide) (by decide) (star_no hs1) rfl) fun σ H Q ⟨ρ, s, h, sr, hr, af⟩ => ?_
  have e : rgF (cnsF fa nilF) E s h = (fa E s h).onV fun d h => rgF (fun _ _ h => .vls [d] h) E s h := by
    unfold rgF cnsF nilF
    cases fa E s h <;> rfl
  rw [e] at af
  refine ⟨ρ, s, h, sr, hr, After.mono af.bind fun x H1 ⟨ρ1, d, h1, x1, hr1, dr1, af1⟩ => ?_⟩
  simp only [rgF, Out.onL] at af1
  split at af1
  · rename_i lo hi st z
    unfold rgOf at z
    split at z <;> first | (cases z; done) | skip
    · rename_i j ej
      obtain ⟨rfl⟩ : d = .g (.int j) := by injection ej
      simp only [Option.some.injEq, Prod.mk.injEq] at z
      obtain ⟨rfl, rfl, rfl⟩ := z
      rw [if_pos (by decide)] at af1
      split at af1
      · rename_i z2
        rw [Bool.and_eq_true] at z2
        cases int_dr dr1
        exact ⟨_, rfl, fun p hp => rng_end af1 hr1 z2.1 z2.2 hp⟩
      · exact af1.elim
    · rename_i ej; injection ej with _ ej; cases ej
    · rename_i ej; injection ej with _ ej; cases ej
  · exact af1.elim
theorem pe_rg2F (hs1 : isStar a = false) (hs2 : isStar b = false) (ha : PE X a (tE K ξ Z E fa)) (hb : PE X b (tE K ξ Z E fb)) (hg : Gl X "range") (hm : X.mg "range" = none) : PE X (.Call (.Name "range" p) [a, b] [] pos) (tE K ξ Z E (rgF (cnsF fa (cnsF fb nilF)))) := by
  refine PE.imp (pe_callTy cr_range2 hg hm boot_range (pa_cons ha (pa_cons hb pa_nil (star_no hs2)) (star_no hs1)) (by decide) (by decide) (star_no hs1) (by rw [star_no hs2]; rfl)) fun σ H Q ⟨ρ, s, h, sr, hr, af⟩ => ?_
  have e : rgF (cnsF fa (cnsF fb nilF)) E s h = (fa E s h).onV fun d h => (fb E s h).onV fun d2 h => rgF (fun _ _ h => .vls [d, d2] h) E s h := by
    unfold rgF cnsF nilF
    cases fa E s h <;> try rfl
    rename_i d h1
    simp only [Out.onV]
    cases fb E s h1 <;> rfl
  rw [e] at af
  refine ⟨ρ, s, h, sr, hr, After.mono af.bind fun x H1 ⟨ρ1, d, h1, x1, hr1, dr1, af1⟩ => ⟨ρ1, s, h1, sr.ext x1, hr1, After.mono af1.bind fun y H2 ⟨ρ2, d2, h2, x2, hr2, dr2, af2⟩ => ?_⟩⟩
  simp only [rgF, Out.onL] at af2
  split at af2
  · rename_i lo hi st z
    unfold rgOf at z
    split at z <;> first | (cases z; done) | skip
    · rename_i ej; injection ej with _ ej; cases ej
    · rename_i i j ej
      injection ej with ea ej
      injection ej with eb _
      subst ea eb
      simp only [Option.some.injEq, Prod.mk.injEq] at z
      obtain ⟨rfl, rfl, rfl⟩ := z
      rw [if_pos (by decide)] at af2
      split at af2
      · rename_i z2
        rw [Bool.and_eq_true] at z2
        cases int_dr dr1
        cases int_dr dr2
        exact ⟨_, _, rfl, fun p hp => rng_end af2 hr2 z2.1 z2.2 hp⟩
      · exact af2.elim
    · rename_i ej; injection ej with _ ej; injection ej with _ ej; cases ej
  · exact af2.elim
/-! ### *xs in a display -/
theorem pa_staF (hK : X.K = K.K) (ha : PE X e (tE K ξ Z E fa)) (hr : PA X es (tL K ξ Z E fr)) : PA X (.Starred e p :: es) (tL K ξ Z E (staF fa fr)) := by
  obtain ⟨k', y⟩ := K; dsimp only at hK; subst hK
  refine PA.imp (StX.pa_star ha hr (by rfl)) fun σ H Q ⟨ρ, s, h, sr, hr, af⟩ =>
    ⟨ρ, s, h, sr, hr, After.mono (After.bindL af) fun x H1 ⟨ρ1, d, h1, x1, hr1, dr1, af1⟩ => ?_⟩
  cases q : kind h1 d with
  | none => rw [q] at af1; exact af1.elim
  | some r =>
    obtain ⟨l, xs⟩ := r
    rw [q] at af1
    obtain ⟨vs, kv, dv⟩ := kind_view hr1 dr1 q
    obtain ⟨p, rfl, sq⟩ := kv.sq
    exact ⟨p, vs, rfl, sq.symm, ρ1, s, h1, sr.ext x1, hr1, AfterL.mono (AfterL.bindL af1) fun ys H2 ⟨ρ2, ds, h2, x2, hr2, dr2, af2⟩ => af2 (vs ++ ys) ρ2 H2 Ext.refl hr2 ((dv.ext x2).append dr2)⟩
/-! ### max(xs, default=e) -/
def rMaxD0 (K : PySem.W.Frag) : List V → List V → L2.Hp → VK → Prop := fun vs zs H Q => ∃ (a : Addr) (ns : List Int) (v : V), vs = [V.ref a] ∧ zs = [v] ∧ SqL K H a (ns.map V.int) ∧ (ns = [] → Q v H) ∧ ∀ m, m ∈ ns → (∀ y, y ∈ ns → y ≤ m) → Q (.int m) H
theorem holdAll_ints {h : Heap} : ∀ {ns : List Int} {us : List Value}, Vals (ns.map V.int) us → PySem.W.HoldAll h us ns
  | [], us, r => by cases r; exact ⟨[], .nil⟩
  | n :: ns, us, r => by
    cases r with
    | cons r t =>
      obtain ⟨t', rfl⟩ := r
      exact PySem.W.HoldAll.cons (PySem.W.holds_int n t') (holdAll_ints t)
theorem maxOf_ints : ∀ (ns : List Int) (x : Int), PySem.W.maxOf x ns = maxI x ns
  | [], x => rfl
  | y :: ns, x => by
    have e : PySem.W.maxOf x (y :: ns) = PySem.W.maxOf (if PySem.W.DatumOrd.lt x y = true then y else x) ns := rfl
    have e2 : (PySem.W.DatumOrd.lt x y = true) = (x < y) := by
      show (decide (x < y) = true) = (x < y)
      simp
    rw [e, maxOf_ints ns, maxI]
    congr 1
    by_cases h : x < y
    · rw [if_pos (by rw [e2]; exact h), if_pos h]
    · rw [if_neg (by rw [e2]; exact h), if_neg h]
theorem cr_maxD0 (hc : X.calm = true) (hu : X.A.units + 160 ≤ cLine) : CallRK X (.builtin "max") [Str.ofString "default"] (rMaxD0 X.K) := by
  intro pins s σ H vs zs us ws Q I r rz ⟨a, ns, v, e1, e2, hs, q0, q⟩
  subst e1 e2
  obtain rfl := Vals.ref1 r
  obtain ⟨w1, rfl, rv⟩ := vals1 rz
  obtain ⟨its, rl, hl, _⟩ := I.list hs
  refine PySem.W.max_list_datum_default (α := Int) (I.ok.hd hc) hl.isList (holdAll_ints (h := s.heap) rl) ?_ (fun e h' tk hk => ⟨v, H, I.kept hk, rv, q0 e⟩) fun y ys i w h' tk e hi hh hk => ?_
  · have e : PySem.W.Datum.depth Int = 0 := rfl
    rw [e]; omega
  · subst e
    obtain ⟨t, rfl⟩ := PySem.W.int_of_holds hh
    rw [maxOf_ints]
    have m := maxI_mem ys y
    exact ⟨.int _, H, I.kept hk, ⟨t, rfl⟩, q _ m.1 m.2⟩
theorem pe_max0F (hK : X.K = K.K) (hc : X.calm = true) (hu : X.A.units + 160 ≤ cLine) {kp : Pos} (hs1 : isStar a = false) (ha : PE X a (tE K ξ Z E fa)) (hb : PE X b (tE K ξ Z E fb)) (hg : Gl X "max") (hm : X.mg "max" = none) :
    PE X (.Call (.Name "max" p) [a] [⟨some "default", b, kp⟩] pos) (tE K ξ Z E (bltF .max0 (cnsF fa (cnsF fb nilF)))) := by
  obtain ⟨k', y⟩ := K; dsimp only at hK; subst hK
  refine PE.imp (pe_callBK (cr_maxD0 hc hu) hg hm boot_max (pa_cons ha pa_nil (star_no hs1)) (pk_cons hb pk_nil) (by decide) (by decide) (by rw [star_no hs1]; rfl) (by rw [star_no hs1]; rfl) rfl rfl rfl) fun σ H Q ⟨ρ, s, h, sr, hr, af⟩ => ?_
  have e : bltF .max0 (cnsF fa (cnsF fb nilF)) E s h = (fa E s h).onV fun d h => (fb E s h).onV fun e h => ov h (blt2 .max0 d e h) 33 := by
    unfold bltF cnsF nilF
    cases fa E s h <;> try rfl
    rename_i d h1
    simp only [Out.onV]
    cases fb E s h1 <;> rfl
  rw [e] at af
  refine ⟨ρ, s, h, sr, hr, After.mono af.bind fun x H1 ⟨ρ1, d, h1, x1, hr1, dr1, af1⟩ => ⟨ρ1, s, h1, sr.ext x1, hr1, After.mono af1.bind fun z H2 ⟨ρ2, e, h2, x2, hr2, dr2, af2⟩ => ?_⟩⟩
  have f := af2.ov
  cases q : lstG h2 d with
  | none => simp only [blt2, q] at f; exact f.elim
  | some xs =>
    obtain ⟨a, vs, rfl, sq, g⟩ := lst_view hr2 (dr1.ext x2) q
    cases xs with
    | nil =>
      cases g.inv0
      simp only [blt2, q] at f
      exact ⟨a, [], z, rfl, rfl, .inl sq, fun _ => Fin.here f hr2 dr2, fun m hm => nomatch hm⟩
    | cons x r =>
      simp only [blt2, q] at f
      split at f
      · rename_i i bs e3
        rw [ints_of g e3] at sq
        refine ⟨a, i :: bs, z, rfl, rfl, .inl sq, nofun, fun m k1 k2 => ?_⟩
        obtain ⟨m1, m2⟩ := maxI_mem bs i
        have : m = maxI i bs := Int.le_antisymm (m2 m k1) (k2 _ m1)
        rw [this]
        exact fin_int f hr2
      · exact f.elim
end
end Pv
set_option Elab.async false
set_option linter.all false
set_option maxRecDepth 100000
set_option maxHeartbeats 1000000
namespace Pv
open PySem L2 PySem.Spec PyProof.Rows
/-! ### list(range(..)) with a step -/
/-- a range object -/
def rgO (p : Addr) (i j c : Int) : HO := .ext fun h => ∃ t u v, IsRange h p i j c t u v
section
variable {X : Cx} {K : Kx} {ξ : XRel} {Z : WX} {E : Env} {a b c e : Expr} {es : List Expr} {fa fb fc fr : F} {p p2 pos pos2 : Pos}
theorem cr_range3 : CallR X (.type "range") (fun vs H Q => ∃ i j c : Int, vs = [V.int i, V.int j, V.int c] ∧ c ≠ 0 ∧ c.natAbs < 1073741824 ∧ ∀ p, H p = none → Q (.ref p) (upd H p (rgO p i j c))) := by
  intro pins s σ H vs us Q I r ⟨i, j, c, e, c0, c1, q⟩
  subst e
  cases r with
  | cons r1 r =>
    cases r with
    | cons r2 r =>
      cases r with
      | cons r3 r =>
        cases r
        obtain ⟨t1, rfl⟩ := r1
        obtain ⟨t2, rfl⟩ := r2
        obtain ⟨t3, rfl⟩ := r3
        have hp := I.hok.fresh (Nat.le_refl s.heap.objs.size)
        have e1 := IsRange.new s.heap i j c t1 t2 t3
        refine call_range_3 c0 ⟨.ref s.heap.objs.size, _, I.laid (t' := s.toks) (o := rgO s.heap.objs.size i j c) (fun b o e => Heap.get?_push_of_some _ e) (Nat.le_refl _) ⟨⟨t1, t2, t3, e1⟩, ⟨_, e1⟩, fun h1 h2 ⟨u1, u2, u3, z⟩ k => ⟨u1, u2, u3, k _ z⟩⟩, rfl, q _ hp⟩ (.inl (PyProof.noPylong_small c1))
def rIc (lo c : Int) : Nat → List Int
  | 0 => []
  | n + 1 => lo :: rIc (lo + c) c n
theorem rIc_len (c : Int) : ∀ (n : Nat) (lo : Int), (rIc lo c n).length = n
  | 0, _ => rfl
  | n + 1, lo => by show (rIc (lo + c) c n).length + 1 = n + 1; rw [rIc_len c n]
theorem rangeC_gs {K : Kx} {ρ : List Addr} {H : L2.Hp} (c : Int) : ∀ (n : Nat) (lo : Int), GRs K H ρ (rangeL lo c n) ((rIc lo c n).map V.int)
  | 0, lo => GRs.nil
  | n + 1, lo => GRs.cons (by unfold GR; rfl) (rangeC_gs c n (lo + c))
theorem rIc_vals (c : Int) : ∀ (n : Nat) (lo : Int) (us : List Value), us.length = n → (∀ (i : Nat) v, us[i]? = some v → ∃ t, v = .int (lo + i * c) t) → Vals ((rIc lo c n).map V.int) us
  | 0, lo, us, h, _ => by
    cases us with
    | nil => exact .nil
    | cons a r => cases h
  | n + 1, lo, us, h, q => by
    cases us with
    | nil => cases h
    | cons u r =>
      obtain ⟨t, e⟩ := q 0 u (by simp)
      refine .cons ⟨t, by rw [e]; simp⟩ (rIc_vals c n (lo + c) r (by simpa using h) fun i v z => ?_)
      obtain ⟨t, rfl⟩ := q (i + 1) v (by simpa using z)
      refine ⟨t, ?_⟩
      congr 1
      rw [Int.natCast_add, Int.add_mul]
      omega
theorem cr_list_rg (hc : X.calm = true) : CallR X (.type "list") (fun vs H Q => ∃ a i j c, vs = [V.ref a] ∧ H a = some (rgO a i j c) ∧ RgC i j c (rngLen i j c) ∧ rngLen i j c ≤ 16777216 ∧ ∀ p, H p = none → Q (.ref p) (upd H p (.lst ((rIc i c (rngLen i j c)).map V.int)))) := by
  intro pins s σ H vs us Q I r ⟨a, i, j, c, e, ha, ⟨_, _, c3, c4⟩, hn, q⟩
  subst e
  rw [Vals.ref1 r]
  obtain ⟨⟨t, u, v, ho⟩, _, _⟩ := I.hok a _ ha
  refine call_list_range (n := rngLen i j c) (I.ok.hd hc) ho c3 c4 (by omega) fun h' tk acc' c' hk hS hI => ?_
  have hsz := hI.1
  refine ⟨.ref _, upd H s.heap.objs.size (.lst ((rIc i c (rngLen i j c)).map V.int)), I.laid (t' := tk) (fun b o e => hk b o e) (Nat.le_refl _) ⟨?_, acc'.toList, c', rIc_vals _ _ _ _ (by rw [Array.length_toList]; exact hsz) fun k w z => ?_, by rw [Array.toArray_toList]; exact hS⟩, rfl, q _ (I.hok.fresh (Nat.le_refl _))⟩
  · rw [List.length_map, rIc_len]; exact Nat.le_trans hn line24
  · obtain ⟨t, e⟩ := hI.2 k w (by rw [← Array.getElem?_toList]; exact z)
    exact ⟨t, by rw [e]⟩
theorem pe_rglF (hc : X.calm = true) (hs1 : isStar a = false) (hs2 : isStar b = false) (hs3 : isStar c = false) (ha : PE X a (tE K ξ Z E fa)) (hb : PE X b (tE K ξ Z E fb)) (h3 : PE X c (tE K ξ Z E fc)) (hg : Gl X "range") (hm : X.mg "range" = none) (hg2 : Gl X "list") (hm2 : X.mg "list" = none) :
    PE X (.Call (.Name "list" p) [.Call (.Name "range" p2) [a, b, c] [] pos2] [] pos) (tE K ξ Z E (rglF fa fb fc)) := by
  have rg := pe_callTy (pos := pos2) (p := p2) cr_range3 hg hm boot_range (pa_cons ha (pa_cons hb (pa_cons h3 pa_nil (star_no hs3)) (star_no hs2)) (star_no hs1)) (by decide) (by decide) (star_no hs1) (by rw [star_no hs2, star_no hs3]; rfl)
  refine PE.imp (pe_callTy (cr_list_rg hc) hg2 hm2 boot_list (pa_cons rg pa_nil (by rfl)) (by decide) (by decide) (by rfl) (by rfl)) fun σ H Q ⟨ρ, s, h, sr, hr, af⟩ => ?_
  refine ⟨ρ, s, h, sr, hr, After.mono af.bind fun x H1 ⟨ρ1, d, h1, x1, hr1, dr1, af1⟩ => ⟨ρ1, s, h1, sr.ext x1, hr1, After.mono af1.bind fun y H2 ⟨ρ2, g, h2, x2, hr2, dr2, af2⟩ => ⟨ρ2, s, h2, (sr.ext x1).ext x2, hr2, After.mono af2.bind fun z H3 ⟨ρ3, k, h3, x3, hr3, dr3, af3⟩ => ?_⟩⟩⟩
  have f := af3.ov
  cases e : rglV d g k with
  | none => rw [e] at f; exact f.elim
  | some r =>
    rw [e] at f
    unfold rglV at e
    split at e
    · rename_i l e1
      split at e
      · rename_i z1
        cases e
        obtain ⟨i, j, c, rfl, rfl, rfl, rc, rfl⟩ := rg3_some e1
        cases int_dr dr1
        cases int_dr dr2
        cases int_dr dr3
        have hl : rngLen i j c ≤ 16777216 := by
          have := Nat.le_of_ble_eq_true z1
          have e2 : (rangeL i c (rngLen i j c)).length = rngLen i j c := by rw [(rangeC_gs (K := K) (ρ := ρ3) (H := H3) c (rngLen i j c) i).length, List.length_map, rIc_len]
          rw [e2] at this; exact this
        refine ⟨i, j, c, rfl, rc.1, rc.2.1, fun q hq => ⟨q, i, j, c, rfl, upd_same, rc, hl, fun q2 hq2 => ?_⟩⟩
        exact Fin.lst (Fin.ext f (Ext.upd hq)) (hr3.upd hq) hq2 (rangeC_gs c _ i)
      · cases e
    · cases e
end
end Pv
set_option Elab.async false
set_option linter.all false
set_option maxRecDepth 100000
set_option maxHeartbeats 1000000
namespace Pv
open PySem L2 PySem.Spec PyProof.Rows
/-! ### isinstance of the caught one with a tuple of classes -/
theorem call_isDT {X : Cx} {a D : Addr} {d : Option Addr} {oe : Obj} {pn : List (Addr × Obj)} (C : ExcC X.K D) (hz : Zc (.ref D) d oe) (hf : ∃ vs, oe.data = .fields vs) :
    CallR (X.suite a ((a, oe) :: pn)) (.builtin "isinstance") (fun xs H Q => (∀ dd, d = some dd → ∃ fs, H dd = some (.xd fs)) ∧ ∃ (tp : Addr) (cs : List V) (ws : List Value) (b : Bool), xs = [.ref a, .ref tp] ∧ H tp = some (.tup cs) ∧ (∀ its, Vals cs its → its = ws) ∧ PySem.W.kitAny X.K (.ref D) ws = some b ∧ Q (.bl b) H) := by
  intro pins s σ H xs us Q I r ⟨hd, tp, cs, ws, b, ex, hT, hw, e, q⟩
  subst ex
  obtain ⟨u1, u2, rfl, rx, rt⟩ := vals2 r
  cases rx
  cases (show u2 = Value.ref tp from rt)
  obtain ⟨_, its, rv, o, h1, h2, n, h3⟩ := (show ObjOk X.prog X.w H s.heap tp (.tup cs) from I.hok tp _ hT)
  have e3 := hw its rv
  subst e3
  obtain ⟨oc, odd, dt, sl⟩ := o
  simp only at h2 h3
  subst h2 h3
  obtain ⟨hget, _⟩ := I.pin (a, oe) (List.mem_append.mpr (.inl List.mem_cons_self))
  obtain ⟨vs, hv⟩ := hf
  have no : PySem.W.notCls oe = true := by unfold PySem.W.notCls; rw [hv]
  obtain ⟨od, J⟩ : ∃ od, PySem.W.InstAt s.heap a oe D od := by
    cases d with
    | none => exact ⟨none, hget, hz.1, no, by rw [hz.2]; trivial⟩
    | some dd =>
      obtain ⟨fs, hx⟩ := hd dd rfl
      obtain ⟨mA, ⟨o, _, _, ho, _⟩, _⟩ := (show ObjOk X.prog X.w H s.heap dd (.xd fs) from I.hok dd _ hx)
      exact ⟨some o, hget, hz.1, no, by rw [hz.2]; exact ho⟩
  have isC : (PySem.W.clsIn X.K D).isSome = true := by
    have hdd := C.hd
    unfold PySem.W.hasDictIn at hdd
    cases q : PySem.W.clsIn X.K D with
    | none => rw [q] at hdd; cases hdd
    | some c => rfl
  exact PySem.W.kia_tup (PySem.W.kitx_exc isC C.hg C.hk C.hs C.ha C.hn C.ht C.hm) I.kIn J h1 e (fun z => nomatch z) fun tk => ⟨.bl b, H, I.kept (t' := tk) fun _ _ z => z, rfl, q⟩
section
variable {X : Cx} {K : Kx} {cl : Cl} {Z : WX} {E : Env}
theorem pe_exiFT {X0 : Cx} {i : Nat} {n : PySem.Str} {a C : Addr} {oe : Obj} {pn : List (Addr × Obj)} {c : Nat} {ds : List D} {d : Option Addr} {xd : Option (Addr × PySem.Str × G)} {tys : List Ty} {ts : List Expr} {cs : List V} {us : List Value} {p np pos tp : Pos} {kk : Nat} (hX : X = X0.suite a ((a, oe) :: pn)) (hxn : K.y.xn = some (i, a, xd)) (hcur : E.cur = some (c, ds))
    (hxd : xdOf cl c ds d xd) (EC : ExcC X.K C) (hz : Zc (.ref C) d oe) (hd : ∃ vs, oe.data = .fields vs) (hi : X.N[i]? = some n) (hv : Vis X.env.scope n) (hdb : (n == ("__debug__" : PySem.Str)) = false) (hcd : (n == ("__classdict__" : PySem.Str)) = false)
    (ht : PA X ts fun _ H Q => Q cs H) (hc : ∀ its, Vals cs its → its = us) (hl : cs.length ≤ sizeLine) (hk : PySem.W.kitAny X.K (.ref C) us = some (tys.any (exT E c))) (hg : Gl X "isinstance") (hm : X.mg "isinstance" = none) :
    PE X (.Call (.Name "isinstance" p) [.Name n np, .Tuple ts kk tp] [] pos) (tE K (xrel cl K) Z E (exiF i tys)) := by
  subst hX
  refine PE.imp (pe_callB (call_isDT EC hz hd) hg hm PyProof.Rows.boot_isinstance (pa_cons (pe_var hi hv hdb hcd) (pa_cons (pe_tup ht) pa_nil)) (by decide) (by decide) rfl rfl) fun σ H Q ⟨ρ, s, h, sr, hr, af⟩ => ?_
  unfold exiF at af
  split at af
  · rename_i c' ds' e1 e2
    rw [hcur] at e2
    cases e2
    have z := sr.xn i a xd hxn e1
    refine ⟨.ref a, z, hl, fun q hq => ?_⟩
    have x1 : Ext ρ H ρ (upd H q (.tup cs)) := Ext.upd hq
    refine ⟨fun dd e => ?_, q, cs, us, _, rfl, upd_same, hc, hk, ?_⟩
    · subst e
      cases xd with
      | none => exact absurd hxd.2.1 (by simp)
      | some y =>
        obtain ⟨a2, f, x⟩ := y
        obtain ⟨_, e2, _⟩ := hxd
        cases e2
        obtain ⟨_, v2, h1, _⟩ := sr.xf i a dd f x hxn
        exact ⟨_, by rw [upd_ne (ne_of_none h1 hq)]; exact h1⟩
    · have f : Fin K ρ h H Q (.g (.bl (tys.any (exT E c)))) := af
      exact (Fin.ext f x1).here (hr.upd hq) (by unfold DR GR; rfl)
  · exact False.elim af
end
end Pv
set_option Elab.async false
set_option linter.all false
set_option maxRecDepth 100000
set_option maxHeartbeats 1000000
namespace Pv
open PySem L2 PySem.Spec PyProof.Rows
/-! ### x = set(e); return tuple(sorted(x)) of ints -/
section
variable {X : Cx} {K : Kx} {ξ : XRel} {Z : WX} {E : Env} {a : Expr} {fa : F} {p p2 p3 p4 p5 q q1 q2 q3 pos : Pos}
theorem cr_setI (hc : X.calm = true) : CallR X (.type "set") (fun vs H Q => ∃ (b : Addr) (ns : List Int), vs = [V.ref b] ∧ (SqL X.K H b (ns.map V.int) ∨ SqT X.K H b (ns.map V.int)) ∧ ns.length < 64 ∧
    ∀ p c, H p = none → c ≤ ns.length → Q (.ref p) (upd H p (SetO X.w p (fun j => decide (j ∈ ns)) c))) := by
  intro pins s σ H vs us Q I r ⟨b, ns, e, sq, hl, q⟩
  subst e
  rw [Vals.ref1 r]
  have hd := I.ok.hd hc
  have fin : ∀ (h' : Heap) (tk : Nat), (∃ c, c ≤ ns.length ∧ SetR X.w h' s.heap.objs.size (fun j => decide (j ∈ ns)) c) → (∀ b o, s.heap.get? b = some o → h'.get? b = some o) → EP X pins σ Q (.ref s.heap.objs.size) { s with heap := h', toks := tk } := fun h' tk ⟨c, hc, R⟩ keep => by
    have hp := I.hok.fresh (Nat.le_refl s.heap.objs.size)
    exact ⟨.ref _, _, I.laid (t' := tk) (o := SetO X.w s.heap.objs.size (fun j => decide (j ∈ ns)) c) keep (Nat.le_refl _) (setO_new R), rfl, q _ c hp hc⟩
  rcases sq with sq | sq
  · obtain ⟨its, rv, pl, hz⟩ := I.list sq
    exact call_setLg hd pl.isList (loop_ints (intsAre_of (by simpa using rv)) (by unfold scanBound; omega)) fin
  · obtain ⟨its, rv, pl, hz⟩ := I.tuple sq
    exact call_setTg hd pl (loop_ints (intsAre_of (by simpa using rv)) (by unfold scanBound; omega)) fin
theorem ssr_some {h : Hp} {d r : D} (e : ssrV h d = some r) : ∃ l ds xs rs, kind h d = some (l, ds) ∧ unGs ds = some xs ∧ xs.all isI = true ∧ ssetG xs = some rs ∧ r = .g (.tup rs) := by
  unfold ssrV knG at e
  cases ek : kind h d with
  | none => rw [ek] at e; cases e
  | some y =>
    obtain ⟨l, ds⟩ := y
    rw [ek] at e
    dsimp only at e
    cases eu : unGs ds with
    | none => rw [eu] at e; cases e
    | some xs =>
      rw [eu] at e
      dsimp only at e
      cases ei : xs.all isI with
      | false => rw [ei] at e; cases e
      | true =>
        rw [ei] at e
        dsimp only at e
        cases es : ssetG xs with
        | none => rw [es] at e; cases e
        | some rs => rw [es] at e; cases e; exact ⟨l, ds, xs, rs, rfl, eu, ei, es, rfl⟩
theorem srt_int {ns : List Int} {r : List G} (h : ssetG (ns.map .int) = some r) : ∃ ks : List Int, r = ks.map .int ∧ ns.length < 64 ∧ ks.Pairwise (· < ·) ∧ ∀ x, x ∈ ks ↔ x ∈ ns := by
  rcases srt_of h with ⟨ms, e2, hl, ks, rfl, _, _, k3⟩ | ⟨ms, e2, hl, ks, rfl, k2, k3⟩
  · cases ns with
    | cons n ns =>
      cases ms with
      | nil => cases e2
      | cons m ms => cases e2
    | nil =>
      cases ms with
      | cons m ms => cases e2
      | nil =>
        have : ks = [] := List.eq_nil_iff_forall_not_mem.mpr fun x hx => by have := (k3 x).mp hx; cases this
        subst this
        exact ⟨[], rfl, by decide, List.Pairwise.nil, fun x => Iff.rfl⟩
  · have e3 : ns = ms := by
      have := congrArg (List.map fun g => match g with | G.int i => i | _ => 0) e2
      simpa [List.map_map, Function.comp_def] using this
    subst e3
    exact ⟨ks, rfl, by simpa using hl, k2, k3⟩
theorem pss_ssrF {i : Nat} {x : PySem.Str} (hK : X.K = K.K) (hc : X.calm = true) (nd : X.N.Nodup) (hN : X.N[i]? = some x) (hv : Vis X.env.scope x) (hl : Loc X.env.scope x) (hf : X.fn x = true ∨ X.env.scope.names.lookup x = some .local) (hd : (x == ("__debug__" : PySem.Str)) = false) (hcd : (x == ("__classdict__" : PySem.Str)) = false)
    (hs : isStar a = false) (ha : PE X a (tE K ξ Z E fa)) (g1 : Gl X "set") (m1 : X.mg "set" = none) (g2 : Gl X "tuple") (m2 : X.mg "tuple" = none) (g3 : Gl X "sorted") (m3 : X.mg "sorted" = none) :
    PSs X [.Assign [.Name x p] (.Call (.Name "set" p2) [a] [] q) q1, .Return (some (.Call (.Name "tuple" p3) [.Call (.Name "sorted" p4) [.Name x p5] [] q2] [] q3)) pos] (tS K ξ Z E (seqF (ssrF i fa) skpF)) := by
  obtain ⟨kk, y⟩ := K; dsimp only at hK; subst hK
  have r1 := pe_callTy (p := p2) (pos := q) (cr_setI hc) g1 m1 PyProof.Rows.boot_set (pa_cons ha pa_nil (star_no hs)) (by decide) (by decide) (star_no hs) rfl
  have r2 := pe_callB (p := p4) (pos := q2) (cr_sortedSet hc) g3 m3 PyProof.Rows.boot_sorted (pa_cons (pe_var (pos := p5) hN hv hd hcd) pa_nil (by rfl)) (by decide) (by decide) (by rfl) (by rfl)
  have r3 := pe_callTy (p := p3) (pos := q3) call_tuple_of g2 m2 boot_tuple (pa_cons r2 pa_nil (by rfl)) (by decide) (by decide) (by rfl) (by rfl)
  refine PSs.imp (pss_cons (ps_set nd hN hl r1 (by rfl) hf) (pss_one (ps_ret r3))) fun Dn σ H ⟨ρ, s, h, sr, hr, af⟩ => ?_
  have e0 : seqF (ssrF i fa) skpF E s h = ((back s (fa E s h)).onV fun d h => match Nat.blt i s.length, ssrV h d with | true, some r => .ret r h | _, _ => .bad 144) := by
    unfold seqF ssrF
    cases fa E s h <;> try rfl
    rename_i d h1
    simp only [back, Out.onV]
    cases Nat.blt i s.length <;> cases ssrV h1 d <;> rfl
  rw [e0] at af
  refine ⟨ρ, s, h, sr, hr, After.mono (AfterS.bindV sr af) fun x H1 ⟨ρ1, d, h1, x1, hr1, dr1, af1⟩ => ?_⟩
  split at af1
  · rename_i r hi er
    have hi : i < s.length := by simp [Nat.blt] at hi; omega
    obtain ⟨l, ds, xs, rs, ek, eu, ei, es, rfl⟩ := ssr_some er
    have f : Fin ⟨X.K, y⟩ ρ1 h1 H1 Dn.rt (.g (.tup rs)) := af1
    obtain ⟨vs, kv, dv⟩ := kind_view hr1 dr1 ek
    have gv := dv.toG eu
    obtain ⟨b, rfl, sq⟩ := kv.sq
    obtain ⟨ns, rfl⟩ := isI_ints ei
    have ev := drs_int gv
    subst ev
    obtain ⟨ks, rfl, hl2, k2, k3⟩ := srt_int es
    · refine ⟨b, ns, rfl, sq, hl2, fun p c hp hc => ?_⟩
      have x2 : Ext ρ1 H1 ρ1 (upd H1 p (SetO X.w p (fun j => decide (j ∈ ns)) c)) := Ext.upd hp
      refine ⟨.ref p, by rw [List.getElem?_set_self (by rw [← sr.len]; exact hi)], p, _, c, rfl, upd_same, by omega, fun zs q hs hm hlz hq => ?_⟩
      have kn : ks.Nodup := k2.imp fun {a b} h e => by omega
      have e : zs = ks := up_unique (fun a b : Int => a < b) (fun a b h1 h2 => by omega) ((List.perm_ext_iff_of_nodup (hs.imp fun {a b} h e => by omega) kn).mpr fun x => by rw [hm x, k3 x]; simp) hs k2
      subst e
      refine ⟨q, zs.map V.int, rfl, .inl ⟨.inl (.inl upd_same), fun t ht => ?_⟩⟩
      exact Fin.tup (Fin.ext f (x2.trans (Ext.upd hq))) ((hr1.upd hp).upd hq) ht (grs_of_int zs)
  · exact False.elim af1
end
end Pv
set_option Elab.async false
set_option linter.all false
set_option maxRecDepth 100000
set_option maxHeartbeats 1000000
namespace Pv
open PySem L2 PySem.Spec PyProof.Rows
/-! ### comprehensions with two fors -/
section
variable {X : Cx} {K : Kx} {ξ : Kx → XRel} {E : Env} {a e tg : Expr} {fa fe f0 f1 i0 i1 : F} {pos : Pos}
def tIx (K : PySem.W.Frag) (ξ : Kx → XRel) (E : Env) (f : F) : TI := fun σ H R => ∃ φ, tI ⟨K, φ, none⟩ (ξ ⟨K, φ, none⟩) noZ E f σ H R
theorem pi_ex (h : ∀ φ, PI X tg e (tI ⟨K.K, φ, none⟩ (ξ ⟨K.K, φ, none⟩) noZ E fe)) : PI X tg e (tIx K.K ξ E fe) := ⟨fun pins s σ H R I ⟨φ, q⟩ => (h φ).run pins s σ H R I q⟩
/-- no exception leaves the loops -/
def Plain (o : Out) : Prop := (∃ ds h, o = .vls ds h) ∨ (∃ n, o = .bad n) ∨ ∀ (k : List D → Hp → Out) (K : Kx) (ξ : XRel) (Z : WX) ρ H σ Q, ¬ After K ξ Z ρ H σ Q (o.onL k)
theorem plain_bad (n : Nat) : Plain (.bad n) := .inr (.inl ⟨n, rfl⟩)
theorem plain_X {o : Out} {k : St → Hp → Out} (h : ∀ s h, Plain (k s h)) : Plain (o.onX k) := by
  cases o <;> first | exact h _ _ | exact plain_bad _
theorem plain_V {o : Out} {k : D → Hp → Out} (h : ∀ s h, Plain (k s h)) : Plain ((calm o).onV k) := by
  cases o <;> first | exact h _ _ | exact plain_bad _
theorem plain_J {o : Out} {k : It → Hp → Out} (h : ∀ s h, Plain (k s h)) : Plain (o.onJ k) := by
  unfold Out.onJ
  split <;> first | exact h _ _ | exact plain_bad _
theorem lcK_plain {t : TF} {s : St} {k : Hp → List D → Out} (hk : ∀ h acc, Plain (k h acc)) : ∀ (n : Nat) (j : It) (h : Hp) (acc : List D), Plain (lcK fe t f1 E s k n j h acc)
  | 0, _, _, _ => plain_bad _
  | n + 1, j, h, acc => by
    unfold lcK
    cases nextI h j with
    | stop => exact hk _ _
    | bad => exact plain_bad _
    | yld d j' =>
      refine plain_X fun s1 h1 => plain_V fun b h2 => ?_
      cases tru h2 b with
      | none => exact plain_bad _
      | some q =>
        cases q with
        | false => exact lcK_plain hk n _ _ _
        | true =>
          refine plain_V fun x h3 => ?_
          split
          · exact lcK_plain hk n _ _ _
          · exact plain_bad _
theorem lc2K_plain {t0 t1 : TF} {own1 : List Nat} {s : St} : ∀ (n : Nat) (j : It) (h : Hp) (acc : List D), Plain (lc2K fe t0 f0 t1 i1 f1 own1 E s n j h acc)
  | 0, _, _, _ => plain_bad _
  | n + 1, j, h, acc => by
    unfold lc2K
    cases nextI h j with
    | stop => exact .inl ⟨_, _, rfl⟩
    | bad => exact plain_bad _
    | yld d j' =>
      refine plain_X fun s1 h1 => plain_V fun b h2 => ?_
      cases tru h2 b with
      | none => exact plain_bad _
      | some q =>
        cases q with
        | false => exact lc2K_plain n _ _ _
        | true => exact plain_J fun k h3 => lcK_plain (fun h acc => lc2K_plain n j' h acc) _ _ _ _
theorem szOk_lt {n : Nat} (h : szOk n = true) : n < sizeLine := by have := szOk_le h; rw [sizeLine_eq]; omega
/-- the wish of a comprehension with two fors, from the evaluator -/
theorem lc2_wish {t0 t1 : T} {own own1 : List Nat} {it : F} {Z : WX} {σ : L2.St} {H : L2.Hp} {Q : VK} (hx : K.y.xn = none) (ht0 : tgOk own t0 = true) (ht1 : tgOk own1 t1 = true) (q : tE K (ξ K) Z E (cp2F fe (denT t0) it f0 (denT t1) i1 f1 own own1) σ H Q) :
    tLc2 (tI K (ξ K) Z E it) (tgG K.K t0) (tTx K.K ξ E f0) (tIx K.K ξ E i1) (tgG K.K t1) (tTx K.K ξ E f1) (tEx K.K ξ E fe) own own1 σ H Q := by
  obtain ⟨ρ, s, h, sr, hr, af⟩ := q
  refine ⟨ρ, s, h, sr, hr, ?_⟩
  unfold cp2F at af
  generalize it E s h = o at af
  cases o <;> first | exact False.elim af | exact af | skip
  rename_i j u h1
  cases u with
  | some u => exact False.elim af
  | none =>
    refine ⟨rfl, fun J st ρ1 H1 x1 hr1 ir est D' hD => ?_⟩
    subst est
    replace af : After K (ξ K) Z ρ H σ Q ((lc2K fe (denT t0) f0 (denT t1) i1 f1 own1 E (wipe s own) E.fuel (st 0) h1 []).onL fun ds h => .val (mkLst ds) h) := af
    rcases lc2K_plain (fe := fe) (f0 := f0) (t0 := denT t0) (t1 := denT t1) (i1 := i1) (f1 := f1) (own1 := own1) (s := wipe s own) (E := E) E.fuel (st 0) h1 [] with ⟨dsF, hF, eF⟩ | ⟨k, eF⟩ | no
    · rw [eF] at af
      have fin : Fin K ρ1 hF H1 Q (mkLst dsF) := Fin.ext (show Fin K ρ hF H Q (mkLst dsF) from af) x1
      have done : ∀ {ρ : List Addr} {H : L2.Hp} {acc : List D} {vs : List V}, H D' = some (.lst vs) → D' ∉ ρ → Ext ρ1 H1 ρ H → HR (K.add D') ρ hF H → DRs (K.add D') H ρ acc.reverse vs → acc.reverse = dsF → Q (.ref D') H := fun {ρ H acc vs} hv nD x hr da ea => by
        have o := off_hide (K := K) hx hv
        have f2 := Fin.ext fin (x.hide hD)
        have := Fin.mkLst f2 (hr.off o nD fun b hb => by
          have : b ≠ D' := fun e => by
            subst e
            have q : H1 b ≠ none := hr1.al b hb
            exact q hD
          simp only [hide, this, if_false]
          exact hr.al b (List.mem_cons_of_mem _ hb)) (p := D') (by simp [hide]) (by rw [← ea]; exact da.off o)
        rw [upd_hide hv] at this
        exact this
      -- what holds at every turn of the outer loop
      refine ⟨fun i m H => ∃ ρ h acc vs, H D' = some (.lst vs) ∧ D' ∉ ρ ∧ Ext ρ1 H1 ρ H ∧ HR (K.add D') ρ h H ∧ DRs (K.add D') H ρ acc.reverse vs ∧ SR (K.add D') H ρ (wipe s own) (L2.wipe σ own) ∧ lc2K fe (denT t0) f0 (denT t1) i1 f1 own1 E (wipe s own) m (st i) h acc = .vls dsF hF, ?_, ?_⟩
      · exact ⟨E.fuel, ρ1, h1, [], [], upd_same, hr1.fresh hD, Ext.refl.updNew hD, hr1.track hD, DRs.nil, SR.wipe (K := K.add D') rfl ((sr.ext x1).track hD) own, eF⟩
      · rintro i m H ⟨ρ, h, acc, vs, hv, nD, x, hr, da, sr, el⟩
        cases m with
        | zero => cases el
        | succ m =>
          have q := ir (K.add D') i ρ h H rfl (add_hφ hD) (x.w _) hr
          unfold lc2K at el
          generalize nextI h (st i) = n at q el
          cases n with
          | bad => cases el
          | stop =>
            cases el
            exact .inl ⟨q, done hv nD x hr da rfl⟩
          | yld d j =>
            obtain ⟨q1, q2, q3⟩ := q
            subst q1
            refine .inr ⟨q2, fun H' => ∃ ρ h acc vs, H' D' = some (.lst vs) ∧ D' ∉ ρ ∧ Ext ρ1 H1 ρ H' ∧ HR (K.add D') ρ h H' ∧ DRs (K.add D') H' ρ acc.reverse vs ∧ SR (K.add D') H' ρ (wipe s own) (L2.wipe σ own) ∧ lc2K fe (denT t0) f0 (denT t1) i1 f1 own1 E (wipe s own) m (st (i + 1)) h acc = .vls dsF hF, fun H' w => ⟨m, Nat.lt_succ_self _, w⟩, fun y H' yl => ?_⟩
            obtain ⟨xy, hry, dy⟩ := q3 y H' yl
            dsimp only at el
            cases et : denT t0 d E (wipe s own) h <;> rw [et] at el <;> simp only [Out.onX] at el <;> first | (cases el; done) | skip
            rename_i s1 h2
            have hh := (tg_shape t0).1 ht0 et
            subst hh
            refine (tg_run t0).1 ht0 (K := K.add D') (sr.ext xy) dy et fun σ1 sr1 w1 => ⟨w1.trans wipe_wipe, ?_⟩
            have keepD : ∀ {ρ2 : List Addr} {H2 : L2.Hp}, Ext ρ H ρ2 H2 → H2 D' = some (.lst vs) ∧ D' ∉ ρ2 := fun {ρ2 H2} z => ⟨z.keep D' _ hv nD, fun hm => (z.new D' hm).elim nD (by rw [hv]; simp)⟩
            refine ⟨D' :: K.y.φ, ρ, s1, h2, sr1, hry, ?_⟩
            cases ec : f0 E s1 h2 <;> rw [ec] at el <;> simp only [calm, Out.onV] at el <;> first | (cases el; done) | skip
            rename_i b h3
            cases eb : tru h3 b with
            | none => rw [eb] at el; cases el
            | some k =>
              rw [eb] at el
              refine ⟨k, eb, fun ρ3 H3 x3 hr3 => ?_⟩
              have x03 := xy.trans x3
              have kd := keepD x03
              cases k with
              | false =>
                dsimp only
                rw [if_neg (by decide)]
                exact ⟨ρ3, h3, acc, vs, kd.1, kd.2, x.trans x03, hr3, da.ext x03, sr.ext x03, el⟩
              | true =>
                dsimp only
                rw [if_pos rfl]
                dsimp only at el
                refine ⟨D' :: K.y.φ, ρ3, s1, h3, sr1.ext x3, hr3, ?_⟩
                cases ei : i1 E s1 h3 <;> rw [ei] at el <;> simp only [Out.onJ] at el <;> first | (cases el; done) | skip
                rename_i j1 u1 h4
                cases u1 with
                | some u => cases el
                | none =>
                  refine ⟨rfl, fun J1 st1 ρ4 H4 x4 hr4 ir1 est1 => ?_⟩
                  subst est1
                  have x04 := x03.trans x4
                  -- what holds at every turn of the inner loop
                  refine ⟨fun j k H => ∃ ρ h acc vs, H D' = some (.lst vs) ∧ D' ∉ ρ ∧ Ext ρ1 H1 ρ H ∧ ExtW (D' :: K.y.φ) ρ4 H4 ρ H ∧ HR (K.add D') ρ h H ∧ DRs (K.add D') H ρ acc.reverse vs ∧ SR (K.add D') H ρ (wipe s own) (L2.wipe σ own) ∧ SR (K.add D') H ρ (wipe s1 own1) (L2.wipe σ1 own1) ∧
                    lcK fe (denT t1) f1 E (wipe s1 own1) (fun h acc => lc2K fe (denT t0) f0 (denT t1) i1 f1 own1 E (wipe s own) m (st (i + 1)) h acc) k (st1 j) h acc = .vls dsF hF, ?_, ?_⟩
                  · have kd4 := keepD x04
                    exact ⟨E.fuel, ρ4, h4, acc, vs, kd4.1, kd4.2, x.trans x04, Ext.refl.w _, hr4, da.ext x04, sr.ext x04, SR.wipe (K := K.add D') rfl ((sr1.ext x3).ext x4) own1, el⟩
                  · rintro j k H5 ⟨ρ5, h5, acc5, vs5, hv5, nD5, x5, y5, hr5, da5, sr5, sq5, el5⟩
                    cases k with
                    | zero => cases el5
                    | succ k =>
                      have q := ir1 (K.add D') j ρ5 h5 H5 rfl (fun b hb => .inl hb) y5 hr5
                      unfold lcK at el5
                      generalize nextI h5 (st1 j) = n5 at q el5
                      cases n5 with
                      | bad => cases el5
                      | stop => exact .inl ⟨q, ρ5, h5, acc5, vs5, hv5, nD5, x5, hr5, da5, sr5, el5⟩
                      | yld d5 j5 =>
                        obtain ⟨p1, p2, p3⟩ := q
                        subst p1
                        refine .inr ⟨p2, fun H => ∃ ρ h acc vs, H D' = some (.lst vs) ∧ D' ∉ ρ ∧ Ext ρ1 H1 ρ H ∧ ExtW (D' :: K.y.φ) ρ4 H4 ρ H ∧ HR (K.add D') ρ h H ∧ DRs (K.add D') H ρ acc.reverse vs ∧ SR (K.add D') H ρ (wipe s own) (L2.wipe σ own) ∧ SR (K.add D') H ρ (wipe s1 own1) (L2.wipe σ1 own1) ∧
                          lcK fe (denT t1) f1 E (wipe s1 own1) (fun h acc => lc2K fe (denT t0) f0 (denT t1) i1 f1 own1 E (wipe s own) m (st (i + 1)) h acc) k (st1 (j + 1)) h acc = .vls dsF hF, fun H' w => ⟨k, Nat.lt_succ_self _, w⟩, fun z H6 zl => ?_⟩
                        obtain ⟨x6, hr6, d6⟩ := p3 z H6 zl
                        dsimp only at el5
                        cases et5 : denT t1 d5 E (wipe s1 own1) h5 <;> rw [et5] at el5 <;> simp only [Out.onX] at el5 <;> first | (cases el5; done) | skip
                        rename_i s7 h7
                        have hh := (tg_shape t1).1 ht1 et5
                        subst hh
                        refine (tg_run t1).1 ht1 (K := K.add D') (sq5.ext x6) d6 et5 fun σ7 sr7 w7 => ⟨w7.trans wipe_wipe, ?_⟩
                        have keep5 : ∀ {ρ2 : List Addr} {H2 : L2.Hp}, Ext ρ5 H5 ρ2 H2 → H2 D' = some (.lst vs5) ∧ D' ∉ ρ2 := fun {ρ2 H2} z => ⟨z.keep D' _ hv5 nD5, fun hm => (z.new D' hm).elim nD5 (by rw [hv5]; simp)⟩
                        refine ⟨D' :: K.y.φ, ρ5, s7, h7, sr7, hr6, ?_⟩
                        cases ec5 : f1 E s7 h7 <;> rw [ec5] at el5 <;> simp only [calm, Out.onV] at el5 <;> first | (cases el5; done) | skip
                        rename_i b8 h8
                        cases eb5 : tru h8 b8 with
                        | none => rw [eb5] at el5; cases el5
                        | some kb =>
                          rw [eb5] at el5
                          refine ⟨kb, eb5, fun ρ8 H8 x8 hr8 => ?_⟩
                          have x58 := x6.trans x8
                          cases kb with
                          | false =>
                            dsimp only
                            rw [if_neg (by decide)]
                            have kd8 := keep5 x58
                            exact ⟨ρ8, h8, acc5, vs5, kd8.1, kd8.2, x5.trans x58, y5.ext x58, hr8, da5.ext x58, sr5.ext x58, sq5.ext x58, el5⟩
                          | true =>
                            dsimp only
                            rw [if_pos rfl]
                            dsimp only at el5
                            refine ⟨D' :: K.y.φ, ρ8, s7, h8, sr7.ext x8, hr8, ?_⟩
                            cases ee5 : fe E s7 h8 <;> rw [ee5] at el5 <;> simp only [calm, Out.onV] at el5 <;> first | (cases el5; done) | skip
                            rename_i r9 h9
                            intro v ρ9 H9 x9 hr9 dr9
                            have x59 := x58.trans x9
                            have kd9 := keep5 x59
                            cases hz : szOk acc5.length with
                            | false => rw [hz] at el5; cases el5
                            | true =>
                              rw [hz] at el5
                              have hlen : vs5.length < sizeLine := by rw [← da5.length, List.length_reverse]; exact szOk_lt hz
                              refine ⟨vs5, kd9.1, hlen, ?_⟩
                              have o : Off (K.add D') (K.add D') H9 (L2.upd H9 D' (.lst (vs5 ++ [v]))) D' := off_upd kd9.1
                              refine ⟨ρ9, h9, r9 :: acc5, vs5 ++ [v], upd_same, kd9.2, (x5.trans x59).updNew hD, ?_, hr9.off o kd9.2 (al_upd hr9.al), ?_, (sr5.ext x59).off o rfl, (sq5.ext x59).off o rfl, el5⟩
                              · exact (y5.ext x59).put List.mem_cons_self kd9.1 id fun v hv i => by
                                  rw [(keepD x04).1] at hv
                                  cases hv; exact i
                              · rw [List.reverse_cons]
                                exact ((da5.ext x59).append (DRs.one dr9)).off o
    · rw [eF] at af; exact False.elim af
    · exact absurd af (no _ _ _ _ _ _ _ _)
end
end Pv
set_option Elab.async false
set_option linter.all false
set_option maxRecDepth 100000
set_option maxHeartbeats 1000000
namespace Pv
open PySem L2 PySem.Spec PyProof.Rows
/-! ### instances -/
theorem beq_no {g f : Nat} (e : g ≠ f) : Nat.beq g f = false := by
  cases q : Nat.beq g f with
  | false => rfl
  | true => exact absurd (Nat.eq_of_beq_eq_true q) e
section
variable {K : Kx} {ρ : List Addr} {h : Hp} {H : L2.Hp}
theorem FRs.get {f : Nat} : ∀ {fs : List (Nat × D)} {xs : List (PySem.Str × V)}, FRs K H ρ fs xs → (getF f fs = none → xs.lookup (encS f) = none) ∧ ∀ d, getF f fs = some d → ∃ v, xs.lookup (encS f) = some v ∧ DR K H ρ d v
  | [], _, h => by cases (show _ = [] from h); exact ⟨fun _ => rfl, fun d e => by cases e⟩
  | (g, d') :: r, _, h => by
    obtain ⟨v, t, rfl, h1, h2⟩ := h
    have ih := FRs.get (f := f) h2
    unfold getF
    by_cases e : g = f
    · subst e
      rw [show Nat.beq g g = true from Nat.beq_refl g]
      refine ⟨nofun, fun d z => ?_⟩
      cases z
      exact ⟨v, by simp [List.lookup], h1⟩
    · rw [beq_no e]
      have ne : (encS f == encS g) = false := beq_eq_false_iff_ne.mpr fun z => e (encS_inj z).symm
      dsimp only
      rw [List.lookup_cons, ne]
      exact ih
theorem FRs.put {f : Nat} {d : D} {v : V} (hd : DR K H ρ d v) : ∀ {fs : List (Nat × D)} {xs : List (PySem.Str × V)}, FRs K H ρ fs xs → FRs K H ρ (putF f d fs) (L2.putF (encS f) v xs)
  | [], _, h => by cases (show _ = [] from h); exact ⟨v, [], rfl, hd, rfl⟩
  | (g, d') :: r, _, h => by
    obtain ⟨u, t, rfl, h1, h2⟩ := h
    unfold putF L2.putF
    by_cases e : g = f
    · subst e
      rw [show Nat.beq g g = true from Nat.beq_refl g, if_pos rfl]
      exact ⟨v, t, rfl, hd, h2⟩
    · rw [beq_no e, if_neg fun z => e (encS_inj z)]
      exact ⟨u, _, rfl, h1, FRs.put hd h2⟩
end
/-- what a world tells of the classes of instances -/
structure ClsW (K : PySem.W.Frag) (E : Env) : Prop where
  attr : ∀ c f, E.attr c f = true → Cls K (clA K c) ∧ NoAttr K (clA K c) (encS f)
/-- a method of a class, as a callee -/
structure CalleeM (P : Program) (w : World) (K : PySem.W.Frag) (mg : PySem.Str → Option Value) (base : Heap) (ξ : Kx → XRel) (E : Env) (k : Nat) (c m i : Nat) : Prop where
  cls : Cls K (clA K c)
  bm : BMeth K (clA K c) (encS m) (He.ma K (clA K c) (encS m))
  ok : ∃ fd ps, Binds K fd ps [] ∧ FnW P w K mg base (L2.CX P w) k (He.ma K (clA K c) (encS m)) fd ps (spOf K ξ E.call i ps.length) ∧ ∀ ds h, (∃ n, E.call i ds h = .bad n) ∨ ds.length = ps.length
/-- a class that is made -/
structure CalleeI (P : Program) (w : World) (K : PySem.W.Frag) (mg : PySem.Str → Option Value) (base : Heap) (ξ : Kx → XRel) (E : Env) (k : Nat) (c i : Nat) : Prop where
  at_ : mg (encS c) = some (.ref (clA K c))
  make : Mk K (clA K c) (He.ma K (clA K c) "__init__")
  ok : ∃ fd ps j, j + 1 ≤ k ∧ Binds K fd ps [] ∧ FnW P w K mg base (L2.CX P w) j (He.ma K (clA K c) "__init__") fd ps (spOf K ξ E.low i ps.length) ∧ ∀ ds h, (∃ n, E.low i ds h = .bad n) ∨ ds.length = ps.length
section
variable {X : Cx} {K : Kx} {ξ : Kx → XRel} {Z : WX} {E : Env} {a b c e o : Expr} {es : List Expr} {fa fb fc fr : F} {p pos apos : Pos} {k i : Nat} {x : PySem.Str}
theorem ins_at {ρ : List Addr} {h : Hp} {H : L2.Hp} {K : Kx} {i : Nat} {v : V} {c : Nat} {fs : List (Nat × D)} (hr : HR K ρ h H) (dr : DR K H ρ (.ref i) v) (e : h[i]? = some (.ins c fs)) : ∃ a dx xs, v = .ref a ∧ ρ[i]? = some a ∧ H a = some (.ins (clA K.K c) dx xs) ∧ FRs K H ρ fs xs := by
  obtain ⟨a, ha, rfl⟩ := ref_dr dr
  obtain ⟨dx, xs, q, f⟩ := hr.ins ha e
  exact ⟨a, dx, xs, rfl, ha, q, f⟩
/-- o.f -/
theorem pe_fldF {K : Kx} {ξ : XRel} {n : Nat} (hK : X.K = K.K) (W : ClsW X.K E) (ha : PE X o (tE K ξ Z E fa)) (hb : attributeBase o (encS n) X.env (eval o X.env) = eval o X.env) : PE X (.Attribute o (encS n) pos) (tE K ξ Z E (fldF fa n)) := by
  obtain ⟨kk, y⟩ := K; dsimp only at hK; subst hK
  refine PE.imp (pe_fld ha hb) fun σ H Q ⟨ρ, s, h, sr, hr, af⟩ => ⟨ρ, s, h, sr, hr, After.mono af.bind fun x H1 ⟨ρ1, d, h1, x1, hr1, dr1, af1⟩ => ?_⟩
  cases d <;> first | exact False.elim af1 | skip
  rename_i j
  dsimp only at af1
  cases q : h1[j]? with
  | none => simp only [q] at af1; exact False.elim af1
  | some ob =>
    cases ob <;> simp only [q] at af1 <;> first | exact False.elim af1 | skip
    rename_i cc fs
    cases qa : E.attr cc n with
    | false => simp only [qa] at af1; exact False.elim af1
    | true =>
      simp only [qa] at af1
      obtain ⟨a, dx, xs, rfl, ha', hv, fr⟩ := ins_at hr1 dr1 q
      obtain ⟨w1, w2⟩ := W.attr cc n qa
      have af1 : FinO ⟨X.K, y⟩ ρ1 h1 H1 Q (getF n fs) := af1.ov
      cases qg : getF n fs with
      | none => rw [qg] at af1; exact False.elim af1
      | some d =>
        rw [qg] at af1
        obtain ⟨v, l, dv⟩ := (fr.get (f := n)).2 d qg
        exact ⟨a, _, dx, xs, v, rfl, hv, w1, w2, l, Fin.here af1 hr1 dv⟩
/-- a target o.f -/
def gFld (K : PySem.W.Frag) (ta : TE) (f : PySem.Str) : TG := fun v σ H Q => ta σ H fun x H2 => ∃ a C dx fs, x = .ref a ∧ H2 a = some (.ins C dx fs) ∧ Cls K C ∧ NoAttr K C f ∧ fs.length < 1000 ∧ Q σ (upd H2 a (.ins C dx (L2.putF f v fs)))
theorem pg_fld {f : PySem.Str} {ta : TE} (ha : PE X o ta) : PG X (.Attribute o f pos) (gFld X.K ta f) := by
  refine ⟨fun pins s σ H v u Q I r h => ?_⟩
  rw [assign_Attribute]
  refine wpAny_bind (wpAny_holding (thn (ha.run pins s σ H _ I h) fun ov s1 ⟨x, H1, I1, r1, a, C, dx, fs, ex, ea, c, n, l, q⟩ => ?_))
  subst ex
  obtain rfl : ov = Value.ref a := r1
  refine wpAny_bind (wpAny_standAt (wpAny_bind (wpAny_holding (setattr_ok I1 ea c n l r fun s3 I3 => ?_))))
  exact wpAny_release ⟨σ, _, I3, q⟩
theorem pg_fldF {K : Kx} {ξ : XRel} {n : Nat} (hK : X.K = K.K) (W : ClsW X.K E) (ha : PE X o (tE K ξ (fun _ _ _ _ => False) E fa)) : PG X (.Attribute o (encS n) pos) (tG K E (tfT fa n)) := by
  obtain ⟨kk, y⟩ := K; dsimp only at hK; subst hK
  refine PG.imp (pg_fld ha) fun v σ H Q ⟨ρ, s, h, d, sr, hr, dr, af⟩ => ?_
  have conv : ∀ {ρ : List Addr} {H : L2.Hp} {o : Out} {k : D → Hp → Out}, AfterG ⟨X.K, y⟩ ρ H Q (o.onV k) → After ⟨X.K, y⟩ ξ (fun _ _ _ _ => False) ρ H σ (fun v H1 => ∃ ρ1 d h1, Ext ρ H ρ1 H1 ∧ HR ⟨X.K, y⟩ ρ1 h1 H1 ∧ DR ⟨X.K, y⟩ H1 ρ1 d v ∧ AfterG ⟨X.K, y⟩ ρ1 H1 Q (k d h1)) o := fun {ρ H o k} f => by
    cases o <;> first | exact False.elim f | skip
    exact fun v ρ1 H1 e hr dr => ⟨ρ1, _, _, e, hr, dr, AfterG.ext f e⟩
  refine ⟨ρ, s, h, sr, hr, After.mono (conv af) fun x H1 ⟨ρ1, g, h1, x1, hr1, dr1, af1⟩ => ?_⟩
  cases g <;> first | exact False.elim af1 | skip
  rename_i j
  dsimp only at af1
  cases q : h1[j]? with
  | none => simp only [q] at af1; exact False.elim af1
  | some ob =>
    cases ob <;> simp only [q] at af1 <;> first | exact False.elim af1 | skip
    rename_i cc fs
    cases qa : (E.attr cc n && Nat.blt fs.length 100) with
    | false => simp only [qa] at af1; exact False.elim af1
    | true =>
      simp only [qa] at af1
      rw [Bool.and_eq_true] at qa
      obtain ⟨a, dx, xs, rfl, ha', hv, fr⟩ := ins_at hr1 dr1 q
      obtain ⟨w1, w2⟩ := W.attr cc n qa.1
      have hl : fs.length < 100 := by have := qa.2; simp [Nat.blt] at this; omega
      have x2 : Ext ρ1 H1 ρ1 (upd H1 a (.ins (clA X.K cc) dx (L2.putF (encS n) v xs))) := Ext.write (List.mem_of_getElem? ha') hv id
      refine ⟨a, _, dx, xs, rfl, hv, w1, w2, by rw [← fr.length]; omega, ?_⟩
      exact af1 σ ρ1 _ x2 (hr1.write ha' ⟨dx, _, upd_same, (fr.put (dr.ext x1)).map fun _ _ z => z.ext x2⟩) ((sr.ext x1).ext x2)
/-! ### methods -/
/-- no f().m -/
def noSup : Expr → Bool
  | .Call (.Name ..) [] [] _ => false
  | _ => true
theorem noSup_is (h : noSup a = true) (env : PySem.Env) (n : PySem.Str) (t : Sem Value) : attributeBase a n env t = t := by
  unfold attributeBase
  split
  · cases h
  · rfl
theorem few_all {pos : Pos} {env : PySem.Env} : ∀ {es : List Expr}, es.any isStar = false → (backTo pos (starEach es env)).all (fun x => !x.1) = true
  | [], _ => rfl
  | e :: es, h => by
    simp only [List.any_cons, Bool.or_eq_false_iff] at h
    rw [star_no h.1]
    show (true && (backTo pos (starEach es env)).all (fun x => !x.1)) = true
    rw [few_all h.2]; rfl
theorem few_any {pos : Pos} {env : PySem.Env} : ∀ {es : List Expr}, es.any isStar = false → (backTo pos (starEach es env)).any (·.1) = false
  | [], _ => rfl
  | e :: es, h => by
    simp only [List.any_cons, Bool.or_eq_false_iff] at h
    rw [star_no h.1]
    show (false || (backTo pos (starEach es env)).any (·.1)) = false
    rw [few_any h.2]; rfl
theorem meth_form {env : PySem.Env} {m : PySem.Str} (hb : attributeBase o m env (eval o env) = eval o env) (hs : es.any isStar = false) (hn : es.length < 30) (hl : (apos.endLine == pos.line) = true) :
    eval (.Call (.Attribute o m apos) es [] pos) env = (do
      let ov ← eval o env
      standAt apos.atName
      let (f, first) ← holding [ov] (getMethod ov m (do return (← importBound o env).getD true))
      callWith pos f first (backTo pos (starEach es env)) (backToKw pos (keywordEach [] env))) := by
  have hf : methodCallForm (es.length + ([] : List Keyword).length) (backTo pos (starEach es env)) (backToKw pos (keywordEach [] env)) = true := by
    unfold methodCallForm
    rw [few_all hs]
    show (true && true && decide (es.length + 0 + 0 < 30)) = true
    simpa using hn
  have hp : methodCallPos true o env apos pos = pure pos := by
    unfold methodCallPos
    rw [hl]; rfl
  rw [arm_eval_Call, hb]
  unfold methodCall
  rw [hf, hp]
  rfl
/-- o.m(..), the class known by the object -/
def tMethD (X : Cx) (k : Nat) (m : PySem.Str) (W : L2.St → XK) (ta : TE) (t : TA) : TE := fun σ H Q => ta σ H fun x H1 => ∃ a C dx fs f fd ps sp, x = .ref a ∧ H1 a = some (.ins C dx fs) ∧ fs.lookup m = none ∧
  Cls X.K C ∧ Meth X.K C m f ∧ Binds X.K fd ps [] ∧ FnW X.prog X.w X.K X.mg X.base (L2.CX X.prog X.w) k f fd ps sp ∧ t σ H1 fun vs H2 => sp (x :: vs) H2 Q (W σ)
theorem pe_methD {m : PySem.Str} {ta : TE} {t : TA} (tk : Takes X Z) (he : PE X o ta) (hr : RoomW k X.A) (ha : PA X (e :: es) t) (hb : attributeBase o m X.env (eval o X.env) = eval o X.env) (hs : (e :: es).any isStar = false) (hn : (e :: es).length < 30) (hl : (apos.endLine == pos.line) = true) :
    PE X (.Call (.Attribute o m apos) (e :: es) [] pos) (tMethD X k m (fun σ => WE Z σ) ta t) := by
  refine ⟨fun pins s σ H Q I h => ?_⟩
  refine PySem.W.methodCall_KW (thn (he.run pins s σ H _ I h) fun u s1 ⟨x, H1, I1, rx, a, C, dx, fs, f, fd, ps, sp, ex, ea, l, c, mm, bn, F, q⟩ => ?_) (meth_form hb hs hn hl)
  subst ex
  obtain rfl : u = Value.ref a := rx
  refine getmeth_ok I1 ea c mm l ?_
  simp only [List.any_cons, Bool.or_eq_false_iff] at hs
  refine PySem.W.callWith_K (first := [.ref a]) (h₀ := X.base) I.ok.mod.kin mm.kp (thn (ha.run pos pins s1 σ H1 _ I1 q) fun us s2 ⟨vs, H2, I2, r, q2⟩ => ⟨I2.kIn, ?_⟩) (star_no hs.1) (few_any hs.2)
  exact run_methD tk hr bn F I2 (.cons (show RelV (V.ref a) (Value.ref a) from rfl) r) q2
theorem pe_methD0 {m : PySem.Str} {ta : TE} (tk : Takes X Z) (he : PE X o ta) (hr : RoomW k X.A) (hb : attributeBase o m X.env (eval o X.env) = eval o X.env) (hl : (apos.endLine == pos.line) = true) :
    PE X (.Call (.Attribute o m apos) [] [] pos) (tMethD X k m (fun σ => WE Z σ) ta tNil) := by
  refine ⟨fun pins s σ H Q I h => ?_⟩
  refine PySem.W.methodCall_KW (thn (he.run pins s σ H _ I h) fun u s1 ⟨x, H1, I1, rx, a, C, dx, fs, f, fd, ps, sp, ex, ea, l, c, mm, bn, F, q⟩ => ?_) (meth_form hb rfl (by decide) hl)
  subst ex
  obtain rfl : u = Value.ref a := rx
  refine getmeth_ok I1 ea c mm l ?_
  exact PySem.W.callWith_K0 (first := [.ref a]) I1.kIn mm.kp (run_methD (us := [.ref a]) tk hr bn F I1 (.cons (show RelV (V.ref a) (Value.ref a) from rfl) .nil) q)
/-- from the evaluator's word to the method's promise -/
theorem met_wish {K : Kx} {ξ : Kx → XRel} {m : Nat} {Q : VK} {σ : L2.St} {H : L2.Hp} (hK : X.K = K.K) (hx : K.y.xn = none) (C : ∀ c i, E.meth c m = some i → CalleeM X.prog X.w X.K X.mg X.base ξ E k c m i) {t : TA} {fr : F}
    (ht : ∀ σ H Q, tL K (ξ K) Z E fr σ H Q → t σ H Q) (q : tE K (ξ K) Z E (metF fa m fr) σ H Q) : tMethD X k (encS m) (fun σ => WE Z σ) (tE K (ξ K) Z E fa) t σ H Q := by
  obtain ⟨kk, φ, xn⟩ := K; dsimp only at hK hx; subst hK; subst hx
  obtain ⟨ρ, s, h, sr, hr, af⟩ := q
  refine ⟨ρ, s, h, sr, hr, After.mono af.bind fun x H1 ⟨ρ1, d, h1, x1, hr1, dr1, af1⟩ => ?_⟩
  cases d <;> first | exact False.elim af1 | skip
  rename_i j
  dsimp only at af1
  unfold clsOf at af1
  cases qo : h1[j]? with
  | none => simp only [qo] at af1; exact False.elim af1
  | some ob =>
    cases ob <;> simp only [qo] at af1 <;> first | exact False.elim af1 | skip
    rename_i cc fs
    cases qg : getF m fs with
    | some d => simp only [qg] at af1; exact False.elim af1
    | none =>
      simp only [qg] at af1
      cases qm : E.meth cc m with
      | none => simp only [qm] at af1; exact False.elim af1
      | some i =>
        simp only [qm] at af1
        have M := C cc i qm
        obtain ⟨fd, ps, bn, F, len⟩ := M.ok
        obtain ⟨a, dx, xs, rfl, ha', hv, fr'⟩ := ins_at hr1 dr1 qo
        refine ⟨a, _, dx, xs, _, fd, ps, _, rfl, hv, (fr'.get (f := m)).1 qg, M.cls, M.bm.mt, bn, F, ht _ _ _ ⟨ρ1, s, h1, sr.ext x1, hr1, AfterL.mono (AfterL.bind af1) fun vs H2 ⟨ρ2, ds, h2, x2, hr2, dr2, af2⟩ => ?_⟩⟩
        have ac := after_call af2
        have dc := DRs.cons (dr1.ext x2) dr2
        refine ⟨?_, φ, ρ2, h2, _, hr2, dc, ac⟩
        rcases len (.ref j :: ds) h2 with ⟨n, z⟩ | z
        · rw [z] at ac; exact ac.elim
        · rw [← dc.length]; exact z
theorem pe_metF {m : Nat} (C : ∀ c i, E.meth c m = some i → CalleeM X.prog X.w X.K X.mg X.base ξ E k c m i) (hK : X.K = K.K) (hx : K.y.xn = none) (tk : Takes X Z) (hr : RoomW k X.A) (ho : PE X o (tE K (ξ K) Z E fa)) (ha : PA X (e :: es) (tL K (ξ K) Z E fr))
    (hb : attributeBase o (encS m) X.env (eval o X.env) = eval o X.env) (hs : (e :: es).any isStar = false) (hn : (e :: es).length < 30) (hl : (apos.endLine == pos.line) = true) : PE X (.Call (.Attribute o (encS m) apos) (e :: es) [] pos) (tE K (ξ K) Z E (metF fa m fr)) :=
  PE.imp (pe_methD tk ho hr ha hb hs hn hl) fun σ H Q q => met_wish hK hx C (fun _ _ _ h => h) q
theorem pe_metF0 {m : Nat} (C : ∀ c i, E.meth c m = some i → CalleeM X.prog X.w X.K X.mg X.base ξ E k c m i) (hK : X.K = K.K) (hx : K.y.xn = none) (tk : Takes X Z) (hr : RoomW k X.A) (ho : PE X o (tE K (ξ K) Z E fa))
    (hb : attributeBase o (encS m) X.env (eval o X.env) = eval o X.env) (hl : (apos.endLine == pos.line) = true) : PE X (.Call (.Attribute o (encS m) apos) [] [] pos) (tE K (ξ K) Z E (metF fa m nilF)) :=
  PE.imp (pe_methD0 tk ho hr hb hl) fun σ H Q q => met_wish hK hx C (fun σ H Q ⟨ρ, s, h, sr, hr, af⟩ => (show ∀ vs ρ' H', Ext ρ H ρ' H' → HR K ρ' h H' → DRs K H' ρ' [] vs → Q vs H' from af) [] ρ H Ext.refl hr DRs.nil) q
/-! ### instances made -/
/-- C(..): an instance, then __init__ -/
def tNewD (C : Addr) (sp : Sp) (W : L2.St → XK) (t : TA) : TE := fun σ H Q => t σ H fun vs H1 => ∀ x dx, H1 x = none → H1 dx = none → dx ≠ x →
  sp (.ref x :: vs) (upd (upd H1 dx (.own x)) x (.ins C dx [])) (fun v H2 => v = .non ∧ Q (.ref x) H2) (W σ)
theorem run_newD {pins : List (Addr × Obj)} {σ : L2.St} {H : L2.Hp} {s : Shared} {Q : VK} {C f : Addr} {fd : FuncData} {ps : List PySem.Str} {sp : Sp} {j : Nat} (tk : Takes X Z) (M : Mk X.K C f) (hr : RoomW (j + 1) X.A) (bn : Binds X.K fd ps []) (F : FnW X.prog X.w X.K X.mg X.base (L2.CX X.prog X.w) j f fd ps sp)
    {us : List Value} {vs : List V} (I : Inv X pins σ H s) (r : Vals vs us)
    (q : ∀ x dx, H x = none → H dx = none → dx ≠ x → sp (.ref x :: vs) (upd (upd H dx (.own x)) x (.ins C dx [])) (fun v H2 => v = .non ∧ Q (.ref x) H2) (WE Z σ)) : wpAny (model X.prog X.w) X.A (call (.ref C) us) (EP X pins σ Q) X.xe s := by
  have q1 := q (s.heap.objs.size + 1) s.heap.objs.size (I.hok.fresh (Nat.le_succ _)) (I.hok.fresh (Nat.le_refl _)) (Nat.ne_of_lt (Nat.lt_succ_self _))
  have I2 := Inv.made (C := C) I
  have r2 : Vals (V.ref (s.heap.objs.size + 1) :: vs) (Value.ref (s.heap.objs.size + 1) :: us) := .cons rfl r
  have hl : (Value.ref (s.heap.objs.size + 1) :: us ++ []).length = ps.length := by
    rw [List.append_nil, ← r2.length]
    exact F.len _ _ _ _ q1
  have bd := bn _ (Value.ref (s.heap.objs.size + 1) :: us) I2.kIn hl
  rw [List.append_nil] at bd
  have run := F.run _ X.stack _ _ ⟨Value.ref (s.heap.objs.size + 1) :: us, []⟩ (Value.ref (s.heap.objs.size + 1) :: us) _ _ (WE Z σ) (hr.making C us) (I2.env0.make C us []) bd r2 q1
  refine wpAny_call (make_map (f := f) I.kIn M.makes M.init (beq_iff_eq.mp M.fn) (codeAny_mono run fun r s' hq' => ?_))
  cases r with
  | error e => exact passAt tk σ pins _ _ e s' I2 hq'
  | ok fl =>
    cases fl with
    | ret u =>
      obtain ⟨v, H', I3, rv, ev, q3⟩ := I2.after hq'
      subst ev
      exact ⟨rv, V.ref (s.heap.objs.size + 1), H', I3, rfl, q3⟩
    | _ => exact False.elim hq'
section
variable {C f : Addr} {fd : FuncData} {ps : List PySem.Str} {sp : Sp} {j : Nat}
theorem pe_newD {t : TA} (tk : Takes X Z) (M : Mk X.K C f) (hr : RoomW (j + 1) X.A) (bn : Binds X.K fd ps []) (F : FnW X.prog X.w X.K X.mg X.base (L2.CX X.prog X.w) j f fd ps sp) (hg : Gl X x) (hm : X.mg x = some (.ref C)) (ha : PA X (e :: es) t) (hdb : (x == ("__debug__" : PySem.Str)) = false) (hs : (e :: es).any isStar = false) :
    PE X (.Call (.Name x p) (e :: es) [] pos) (tNewD C sp (fun σ => WE Z σ) t) := by
  simp only [List.any_cons, Bool.or_eq_false_iff] at hs
  refine ⟨fun pins s σ H Q I h => wpAny_Call_Name_kw (ld_glob I hg hm ?_ hdb)⟩
  refine PySem.W.callWith_K (h₀ := X.base) I.ok.mod.kin M.kp (thn (ha.run pos pins s σ H _ I h) fun us s1 ⟨vs, H1, I1, r, q⟩ => ⟨I1.kIn, run_newD tk M hr bn F I1 r q⟩) (star_no hs.1) (few_any hs.2)
theorem pe_newD0 (tk : Takes X Z) (M : Mk X.K C f) (hr : RoomW (j + 1) X.A) (bn : Binds X.K fd ps []) (F : FnW X.prog X.w X.K X.mg X.base (L2.CX X.prog X.w) j f fd ps sp) (hg : Gl X x) (hm : X.mg x = some (.ref C)) (hdb : (x == ("__debug__" : PySem.Str)) = false) :
    PE X (.Call (.Name x p) [] [] pos) (tNewD C sp (fun σ => WE Z σ) tNil) :=
  ⟨fun pins s σ H Q I h => wpAny_Call_Name_kw (ld_glob I hg hm (PySem.W.callWith_K0 I.kIn M.kp (run_newD tk M hr bn F I .nil h)) hdb)⟩
end
theorem after_made {K : Kx} {ξ : XRel} {ρ : List Addr} {H : L2.Hp} {σ : L2.St} {Q : VK} {o : Out} {s : St} {n : Nat} (af : After K ξ Z ρ H σ Q (made n (back s o))) :
    AfterC K ξ ρ H (fun v H2 => v = .non ∧ ∃ ρ2 h2, Ext ρ H ρ2 H2 ∧ HR K ρ2 h2 H2 ∧ ∀ w, DR K H2 ρ2 (.ref n) w → Q w H2) (WE Z σ) o := by
  cases o <;> first | exact af.elim | exact af | skip
  rename_i d h2
  cases d <;> first | exact af.elim | skip
  rename_i g
  cases g <;> first | exact af.elim | skip
  have af : Fin K ρ h2 H Q (.ref n) := af
  exact fun v ρ2 H2 x hr dr => ⟨by unfold DR GR at dr; exact dr, ρ2, h2, x, hr, fun w dw => af w ρ2 H2 x hr dw⟩
theorem new_wish {K : Kx} {ξ : Kx → XRel} {c i : Nat} {Q : VK} {σ : L2.St} {H : L2.Hp} (hK : X.K = K.K) (hx : K.y.xn = none) (hi : E.init c = some i) {np : Nat} (len : ∀ ds h, (∃ n, E.low i ds h = .bad n) ∨ ds.length = np) {t : TA} {fr : F}
    (ht : ∀ σ H Q, tL K (ξ K) Z E fr σ H Q → t σ H Q) (q : tE K (ξ K) Z E (newF c fr) σ H Q) : tNewD (clA X.K c) (spOf X.K ξ E.low i np) (fun σ => WE Z σ) t σ H Q := by
  obtain ⟨kk, φ, xn⟩ := K; dsimp only at hK hx; subst hK; subst hx
  obtain ⟨ρ, s, h, sr, hr, af⟩ := q
  refine ht _ _ _ ⟨ρ, s, h, sr, hr, AfterL.mono (AfterL.bind af) fun vs H1 ⟨ρ1, ds, h1, x1, hr1, dr1, af1⟩ => ?_⟩
  intro y dx hy hdx ne
  simp only [hi] at af1
  have hr2 : HR ⟨X.K, φ, none⟩ ρ1 h1 (upd H1 dx (.own y)) := hr1.upd hdx
  have hy2 : upd H1 dx (.own y) y = none := by rw [upd_ne (Ne.symm ne)]; exact hy
  have x3 : Ext ρ1 H1 (ρ1 ++ [y]) (upd (upd H1 dx (.own y)) y (.ins (clA X.K c) dx [])) := (Ext.upd hdx).trans (Ext.box hy2)
  have hr3 : HR ⟨X.K, φ, none⟩ (ρ1 ++ [y]) (h1 ++ [.ins c []]) (upd (upd H1 dx (.own y)) y (.ins (clA X.K c) dx [])) := hr2.box hy2 ⟨dx, [], upd_same, rfl⟩
  have d0 : DR ⟨X.K, φ, none⟩ (upd (upd H1 dx (.own y)) y (.ins (clA X.K c) dx [])) (ρ1 ++ [y]) (.ref h1.length) (.ref y) := by unfold DR; exact ⟨y, by rw [← hr1.len]; simp, rfl⟩
  have ac := after_made (af1.ext x3)
  refine ⟨?_, φ, ρ1 ++ [y], _, .ref h1.length :: ds, hr3, DRs.cons d0 (dr1.ext x3), ?_⟩
  · rcases len (.ref h1.length :: ds) (h1 ++ [.ins c []]) with ⟨n, z⟩ | z
    · rw [z] at ac; exact ac.elim
    · rw [← z]; simp [dr1.length]
  · generalize E.low i (.ref h1.length :: ds) (h1 ++ [.ins c []]) = o at ac
    cases o <;> first | exact ac.elim | exact ac | skip
    exact fun v ρ' H' x' hr' dr' => by
      obtain ⟨e, ρ2, h2, x2, hr2', f⟩ := ac v ρ' H' x' hr' dr'
      exact ⟨e, f _ (d0.ext x2)⟩
theorem pe_newF {c i : Nat} (C : CalleeI X.prog X.w X.K X.mg X.base ξ E k c i) (hi : E.init c = some i) (hK : X.K = K.K) (hx : K.y.xn = none) (tk : Takes X Z) (hr : RoomW k X.A) (hg : Gl X (encS c)) (ha : PA X (e :: es) (tL K (ξ K) Z E fr)) (hdb : (encS c == ("__debug__" : PySem.Str)) = false) (hs : (e :: es).any isStar = false) :
    PE X (.Call (.Name (encS c) p) (e :: es) [] pos) (tE K (ξ K) Z E (newF c fr)) := by
  obtain ⟨fd, ps, j, hj, bn, F, len⟩ := C.ok
  exact PE.imp (pe_newD tk C.make (hr.mono hj) bn F hg C.at_ ha hdb hs) fun σ H Q q => new_wish hK hx hi len (fun _ _ _ h => h) q
theorem pe_newF0 {c i : Nat} (C : CalleeI X.prog X.w X.K X.mg X.base ξ E k c i) (hi : E.init c = some i) (hK : X.K = K.K) (hx : K.y.xn = none) (tk : Takes X Z) (hr : RoomW k X.A) (hg : Gl X (encS c)) (hdb : (encS c == ("__debug__" : PySem.Str)) = false) :
    PE X (.Call (.Name (encS c) p) [] [] pos) (tE K (ξ K) Z E (newF c nilF)) := by
  obtain ⟨fd, ps, j, hj, bn, F, len⟩ := C.ok
  exact PE.imp (pe_newD0 tk C.make (hr.mono hj) bn F hg C.at_ hdb) fun σ H Q q => new_wish hK hx hi len (fun σ H Q ⟨ρ, s, h, sr, hr, af⟩ => (show ∀ vs ρ' H', Ext ρ H ρ' H' → HR K ρ' h H' → DRs K H' ρ' [] vs → Q vs H' from af) [] ρ H Ext.refl hr DRs.nil) q
/-! ### bound methods as values -/
theorem pe_bmvF {m : Nat} {K : Kx} {ξ : Kx → XRel} (C : ∀ c i, E.meth c m = some i → CalleeM X.prog X.w X.K X.mg X.base ξ E k c m i) (hK : X.K = K.K) (ho : PE X o (tE K (ξ K) Z E fa)) (hb : attributeBase o (encS m) X.env (eval o X.env) = eval o X.env) : PE X (.Attribute o (encS m) pos) (tE K (ξ K) Z E (bmvF fa m)) := by
  obtain ⟨kk, y⟩ := K; dsimp only at hK; subst hK
  refine ⟨fun pins s σ H Q I ⟨ρ, s0, h, sr, hr, af⟩ => ?_⟩
  refine attr_of hb (thn (ho.run pins s σ H _ I ⟨ρ, s0, h, sr, hr, After.mono af.bind fun _ _ h => h⟩) fun u s1 ⟨x, H1, I1, rx, ρ1, d, h1, x1, hr1, dr1, af1⟩ => ?_)
  cases d <;> first | exact False.elim af1 | skip
  rename_i j
  dsimp only at af1
  unfold clsOf at af1
  cases qo : h1[j]? with
  | none => simp only [qo] at af1; exact False.elim af1
  | some ob =>
    cases ob <;> simp only [qo] at af1 <;> first | exact False.elim af1 | skip
    rename_i cc fs
    cases qg : getF m fs with
    | some d => simp only [qg] at af1; exact False.elim af1
    | none =>
      simp only [qg] at af1
      cases qm : E.meth cc m with
      | none => simp only [qm] at af1; exact False.elim af1
      | some i =>
        simp only [qm] at af1
        have M := C cc i qm
        obtain ⟨a, dx, xs, rfl, ha', hv, fr'⟩ := ins_at hr1 dr1 qo
        refine op_getbound I1 hv M.cls M.bm ((fr'.get (f := m)).1 qg) rx fun p hp => ?_
        exact Fin.new (show Fin ⟨X.K, y⟩ ρ1 h1 H1 Q (.bm j cc m) from af1) hr1 hp (by unfold DR; exact ⟨a, p, ha', rfl, upd_same⟩)
/-- f(), f a local that holds a bound method -/
theorem pe_clvF0 {K : Kx} {ξ : Kx → XRel} {i : Nat} (C : ∀ c m f, E.meth c m = some f → CalleeM X.prog X.w X.K X.mg X.base ξ E k c m f) (hK : X.K = K.K) (hx : K.y.xn = none) (tk : Takes X Z) (hr : RoomW k X.A) (hN : X.N[i]? = some x) (hv : Vis X.env.scope x) (hd : (x == ("__debug__" : PySem.Str)) = false) (hcd : (x == ("__classdict__" : PySem.Str)) = false) :
    PE X (.Call (.Name x p) [] [] pos) (tE K (ξ K) Z E (clvF i nilF)) := by
  obtain ⟨kk, φ, xn⟩ := K; dsimp only at hK hx; subst hK; subst hx
  refine ⟨fun pins s σ H Q I ⟨ρ, s0, h, sr, hr', af⟩ => ?_⟩
  unfold clvF at af
  cases q1 : s0[i]? with
  | none => simp only [q1] at af; exact False.elim af
  | some od =>
    cases od with
    | none => simp only [q1] at af; exact False.elim af
    | some d =>
      cases d <;> simp only [q1] at af <;> first | exact False.elim af | skip
      rename_i j cc m
      cases qm : E.meth cc m with
      | none => simp only [qm] at af; exact False.elim af
      | some f =>
        simp only [qm] at af
        have M := C cc m f qm
        obtain ⟨fd, ps, bn, F, len⟩ := M.ok
        obtain ⟨v, e1, dv⟩ := sr.get i _ q1
        have dv0 := dv
        unfold DR at dv
        obtain ⟨a, pp, ha, rfl, hm⟩ := dv
        refine wpAny_Call_Name_kw (thn ((pe_var (pos := p) hN hv hd hcd).run pins s σ H (fun v H' => v = .ref pp ∧ H' = H) I (show ∃ v, σ[i]? = some (some v) ∧ (v = .ref pp ∧ H = H) from ⟨_, e1, rfl, rfl⟩)) fun u s1 ⟨x1, H1, I1, r1, z1, z2⟩ => ?_)
        subst z1; subst z2
        obtain rfl : u = Value.ref pp := r1
        have af : After ⟨X.K, φ, none⟩ (ξ ⟨X.K, φ, none⟩) Z ρ H1 σ Q (back s0 (E.call f [.ref j] h)) := af
        have ac := after_call af
        have dr : DR ⟨X.K, φ, none⟩ H1 ρ (.ref j) (.ref a) := by unfold DR; exact ⟨a, ha, rfl⟩
        have sp : spOf X.K ξ E.call f ps.length [V.ref a] H1 Q (WE Z σ) := by
          refine ⟨?_, φ, ρ, h, [.ref j], hr', DRs.one dr, ac⟩
          rcases len [.ref j] h with ⟨n, z⟩ | z
          · rw [z] at ac; exact ac.elim
          · exact z
        exact PySem.W.callWith_M0 (met_P I1 hm) M.bm.fi (wpAny_call (call_met I1 hm (code_methD (us := [.ref a]) tk hr bn F I1 (.cons (show RelV (V.ref a) (Value.ref a) from rfl) .nil) sp)))
end
end Pv
set_option Elab.async false
set_option linter.all false
set_option maxRecDepth 100000
set_option maxHeartbeats 1000000
namespace Pv
open PySem L2 PySem.Spec PyProof.Rows
theorem texts_gs {K : Kx} {H : L2.Hp} {ρ : List Addr} : ∀ {gs : List G} {ls : List (List Nat)} {vs : List V}, textsG gs = some ls → GRs K H ρ gs vs → vs = (ls.map fun l => encS (enc l)).map V.str ∧ ∀ l ∈ ls, Sgn l
  | [], ls, vs, e, g => by cases e; cases g.inv0; exact ⟨rfl, nofun⟩
  | x :: r, ls, vs, e, g => by
    obtain ⟨v, t, rfl, g1, g2⟩ := g.inv
    unfold textsG at e
    split at e
    · rename_i q; cases q
    · rename_i n r' q
      cases q
      split at e
      · rename_i t' q
        cases e
        obtain ⟨e1, e2⟩ := texts_gs q g2
        unfold GR at g1
        subst g1
        refine ⟨by rw [e1]; simp [enc_dec], fun l hl => ?_⟩
        rcases List.mem_cons.mp hl with rfl | hl
        · exact dec_lt n
        · exact e2 l hl
      · cases e
    · cases e
section
variable {X : Cx} {K : Kx} {ξ : XRel} {Z : WX} {E : Env} {a e : Expr} {fa fb : F}
theorem pe_joinF {ap cp : Pos} (hK : X.K = K.K) (hs : isStar e = false) (ha : PE X a (tE K ξ Z E fa)) (hb : PE X e (tE K ξ Z E fb)) (hbase : attributeBase a "join" X.env (eval a X.env) = eval a X.env) (hline : (ap.endLine == cp.line) = true) :
    PE X (.Call (.Attribute a "join" ap) [e] [] cp) (tE K ξ Z E (mtdF fa .join (cnsF fb nilF))) := by
  obtain ⟨kk, y⟩ := K; dsimp only at hK; subst hK
  refine PE.imp (pe_join ha hb (star_no hs) hbase hline) fun σ H Q ⟨ρ, s, h, sr, hr, af⟩ => ?_
  refine ⟨ρ, s, h, sr, hr, After.mono af.bind fun x H1 ⟨ρ1, d, h1, x1, hr1, dr1, af1⟩ => ?_⟩
  obtain ⟨rc, af1⟩ := after_if af1
  have : ∃ n, d = .g (.str n) := by
    unfold recv at rc
    dsimp only at rc
    split at rc
    · exact ⟨_, rfl⟩
    · cases rc
  obtain ⟨n, rfl⟩ := this
  cases str_dr dr1
  refine ⟨⟨_, rfl⟩, ?_⟩
  have e1 : ((cnsF fb nilF) E s h1).onL (fun ds h => vo (mtdV .join (.g (.str n)) ds h) 53) = (fb E s h1).onV fun z h => vo (mtdV .join (.g (.str n)) [z] h) 53 := by
    unfold cnsF nilF
    cases fb E s h1 <;> rfl
  rw [e1] at af1
  refine ⟨ρ1, s, h1, sr.ext x1, hr1, After.mono af1.bind fun z H2 ⟨ρ2, g, h2, x2, hr2, dr2, af2⟩ => ?_⟩
  obtain ⟨r, h3, e2, f⟩ := after_vo af2
  simp only [mtdV, mtdW, knG] at e2
  cases k : kind h2 g with
  | none => simp only [k] at e2; cases e2
  | some p =>
    obtain ⟨l, ds⟩ := p
    cases ug : unGs ds with
    | none => simp only [k, ug] at e2; cases e2
    | some gs =>
      cases ut : textsG gs with
      | none => simp only [k, ug, ut] at e2; cases e2
      | some ls =>
        simp only [k, ug, ut] at e2
        split at e2
        · rename_i hz
          cases e2
          obtain ⟨vs, kv, dv⟩ := kind_view hr2 dr2 k
          obtain ⟨p, rfl, sq⟩ := kv.sq
          obtain ⟨ev, sg⟩ := texts_gs ut (dv.toG ug)
          rw [ev] at sq
          refine ⟨encS n, p, _, rfl, rfl, sq, ?_, ?_⟩
          · have l2 := szOk_le hz
            have e4 : ((ls.map fun l => encS (enc l)).map (·.length)).sum = (ls.map (·.length)).sum := by
              rw [List.map_map]
              refine congrArg List.sum (List.map_congr_left fun l hl => ?_)
              show (encS (enc l)).length = l.length
              rw [encS_len, dec_enc (sg l hl)]
            rw [e4, List.length_map, encS_len]
            omega
          · rw [show Txt.join (encS n) (ls.map fun l => encS (enc l)) = Str.join (encS n) (ls.map fun l => encS (enc l)) from PySem.StrLaws.glued_eq_join _ _, (join_is n ls sg).1]
            exact f.here hr2 (by unfold DR GR; rfl)
        · cases e2
end
section
variable {X : Cx} {K : Kx} {ξ : Kx → XRel} {Z : WX} {E : Env} {p pos : Pos} {k i : Nat} {x : PySem.Str} {f : Addr} {fd : FuncData} {ps : List PySem.Str}
/-- f() -/
theorem pe_appN (C : Callee X.prog X.w X.K X.mg X.base ξ E k x i f fd ps) (hK : X.K = K.K) (hx : K.y.xn = none) (hr : RoomW k X.A) (tk : Takes X Z) (hg : Gl X x) (hdb : (x == ("__debug__" : PySem.Str)) = false) :
    PE X (.Call (.Name x p) [] [] pos) (tE K (ξ K) Z E (appF i nilF)) := by
  obtain ⟨kk, φ, xn⟩ := K; dsimp only at hK hx; subst hK; subst hx
  refine PE.imp (pe_callW0 tk C.ok hr hg C.at_ C.keep C.binds hdb) fun σ H Q ⟨ρ, s, h, sr, hr', af⟩ => ?_
  have ac := after_call (show After ⟨X.K, φ, none⟩ (ξ ⟨X.K, φ, none⟩) Z ρ H σ Q (back s (E.call i [] h)) from af)
  refine ⟨?_, φ, ρ, h, [], hr', DRs.nil, ac⟩
  rcases C.len [] h with ⟨n, z⟩ | z
  · rw [z] at ac; exact ac.elim
  · exact z
end
end Pv
set_option Elab.async false
set_option linter.all false
set_option maxRecDepth 100000
set_option maxHeartbeats 1000000
namespace Pv
open PySem L2 PySem.Spec PyProof.Rows
/-! ### the checker: a term beside the text -/
structure Gm where
  fns : List (PySem.Str × Nat × Nat)
  glo : List (PySem.Str × Nat)
  exc : List (PySem.Str × Nat)
  kws : List (PySem.Str × List (Nat × List PySem.Str × List Nat))
  fld : List (Nat × PySem.Str)
  cls : ClT
def kwOf (g : Gm) (x : PySem.Str) : List (Nat × List PySem.Str × List Nat) := (g.kws.lookup x).getD []
def kwN (ks : List Keyword) : List PySem.Str := ks.filterMap (·.arg)
structure Sg where
  N : List PySem.Str
  sc : PySem.Scope
  blk : Option PySem.Scope
  calm : Bool
  stm : Bool
  xn : Option (Nat × Nat)
def dbg (x : PySem.Str) : Bool := x == ("__debug__" : PySem.Str)
def Sg.vis (g : Sg) (x : PySem.Str) : Bool := match g.sc.names.lookup x with | some .local => true | some .cell => true | some .free => true | _ => false
def Sg.loc (g : Sg) (x : PySem.Str) : Bool := match g.sc.names.lookup x with | some .local => true | some .cell => true | _ => false
def Sg.put (g : Sg) (x : PySem.Str) : Bool := g.loc x && (match g.blk with | none => true | some s => s.names.lookup x == some .cell || g.sc.names.lookup x == some .local)
def Sg.gl (g : Sg) (x : PySem.Str) : Bool := g.sc.names.lookup x == some .globalImplicit && !dbg x
def bltNames : List PySem.Str := ["isinstance", "int", "bool", "str", "list", "tuple", "len", "abs", "all", "any", "sum", "max", "min", "range", "enumerate", "zip", "sorted", "set", "ValueError", "LookupError"]
def plainT : Expr → Bool
  | .UnaryOp .Not _ _ => false
  | .BoolOp .. => false
  | .IfExp .. => false
  | .Compare .. => false
  | _ => true
def noCall : Expr → Bool
  | .Call .. => false
  | _ => true
def boxable : T → Bool
  | .lst _ => true
  | .cpr .. => true
  | .sli .. => true
  | .slr .. => true
  | .bin .add _ _ => true
  | .bin .mul _ _ => true
  | .blt .list _ => true
  | _ => false
def tyName : Ty → Option PySem.Str
  | .int => some "int" | .bool => some "bool" | .str => some "str" | .list => some "list" | .tuple => some "tuple" | _ => none
def chkTy (sg : Sg) (t : Ty) (e : Expr) : Bool := match e with
  | .Name x _ => tyName t == some x && sg.gl x
  | _ => false
def chkTys (sg : Sg) : List Ty → List Expr → Bool
  | [], [] => true
  | t :: ts, e :: es => chkTy sg t e && chkTys sg ts es
  | _, _ => false
def chkXT (g : Gm) (sg : Sg) (t : Ty) (e : Expr) : Bool := match e with
  | .Name x _ => sg.gl x && (match t with
    | .exv => x == ("ValueError" : PySem.Str)
    | .exl => x == ("LookupError" : PySem.Str)
    | .cls c => g.exc.lookup x == some c
    | _ => false)
  | _ => false
def bfName : Bf → Option PySem.Str
  | .len => some "len" | .list => some "list" | .tuple => some "tuple" | .abs => some "abs" | .int => some "int" | .all => some "all" | .any => some "any" | .sum => some "sum" | .max => some "max" | .min => some "min" | .str => some "str" | _ => none
/-- the targets that are names -/
def tgChk (sg : Sg) : T → Expr → Bool
  | .tn i, .Name x _ => sg.N[i]? == some x && sg.put x
  | .tt ts, .Tuple es _ _ => tgsChk sg ts es
  | _, _ => false
where tgsChk (sg : Sg) : T → List Expr → Bool
  | .nil, [] => true
  | .cns t r, e :: es => tgChk sg t e && !isStar e && tgsChk sg r es
  | _, _ => false
def ownP (N : List PySem.Str) (own : List Nat) : List (PySem.Str × Nat) := own.filterMap fun i => (N[i]?).map fun x => (x, i)
def notSet : Expr → Bool
  | .Set .. => false
  | _ => true
/-- a, b = x, y: 0 plain, 1 stored from the right, 2 not told -/
def swN (sc : PySem.Scope) (ts : List Expr) : List PySem.Str := ts.filterMap fun
  | .Name id pos => if sc.names.lookup id == some .local && pos.line == (ts.head?.map (·.pos.line)).getD 0 then some id else none
  | _ => none
def swC (sc : PySem.Scope) (ts vs : List Expr) : Nat :=
  if !(ts.length == 2 || ts.length == 3) || vs.length != ts.length then 0
  else if vs.any isStar then 2
  else if (swN sc ts).length != ts.length || (swN sc ts).eraseDups.length != (swN sc ts).length then 0
  else if vs.all (foldedForSure 8) then 0
  else if vs.all (constantsAlone 8) then 2
  else 1
/-- the list of a comprehension goes to a name by itself -/
def swL (sg : Sg) (t : PySem.Str) (tp : Pos) (s : PySem.Scope) (p : Pos) : Bool := sg.sc.names.lookup t == some .local && tp.line == p.line && !(s.names.any fun (n, k) => n == t && (k == .local || k == .cell))
abbrev Sg.into (sg : Sg) (s : PySem.Scope) : Sg := { sg with sc := relS s sg.sc, blk := some s, stm := false }
def noStars (es : List Expr) : Bool := !es.any isStar
def isNil : T → Bool
  | .nil => true
  | _ => false
def isTT : T → Bool
  | .con (.bl true) => true
  | _ => false
/-! rows whose text is looked at aside -/
def ckFld (f : Nat) (e : Expr) (k : Expr → Bool) : Bool := match e with
  | .Attribute o n _ => encS f == n && noSup o && k o
  | _ => false
def ckMet (sg : Sg) (m : Nat) (e : Expr) (k : Expr → Bool) (l : List Expr → Bool) (z : Bool) : Bool := match e with
  | .Call (.Attribute o n ap) [] [] cp => sg.calm && encS m == n && noSup o && ap.endLine == cp.line && k o && z
  | .Call (.Attribute o n ap) (y :: es) [] cp => sg.calm && encS m == n && noSup o && ap.endLine == cp.line && decide (es.length < 29) && k o && l (y :: es)
  | _ => false
def ckNew (g : Gm) (sg : Sg) (c : Nat) (e : Expr) (l : List Expr → Bool) (z : Bool) : Bool := match e with
  | .Call (.Name x _) [] [] _ => sg.calm && sg.gl x && encS c == x && (initT g.cls c).isSome && z
  | .Call (.Name x _) (y :: es) [] _ => sg.calm && sg.gl x && encS c == x && (initT g.cls c).isSome && l (y :: es)
  | _ => false
def ckApp (g : Gm) (sg : Sg) (f : Nat) (e : Expr) (l : List Expr → Bool) (z : Bool) : Bool := match e with
  | .Call (.Name x _) es [] _ => sg.calm && sg.gl x && g.fns.any (fun q => q.1 == x && q.2.1 == f) && (match es with | [] => z | y :: r => l (y :: r))
  | _ => false
def ckClv (sg : Sg) (i : Nat) (e : Expr) (z : Bool) : Bool := match e with
  | .Call (.Name x _) [] [] _ => sg.calm && sg.N[i]? == some x && sg.vis x && !dbg x && !(x == ("__classdict__" : PySem.Str)) && z
  | _ => false
def ckRgl (sg : Sg) (e : Expr) (k1 k2 k3 : Expr → Bool) : Bool := match e with
  | .Call (.Name x _) [.Call (.Name x2 _) [y, z, u] [] _] [] _ => x == ("list" : PySem.Str) && x2 == ("range" : PySem.Str) && sg.gl x && sg.gl x2 && sg.calm && !isStar y && !isStar z && !isStar u && k1 y && k2 z && k3 u
  | _ => false
def ckIf (t : T) (is : List Expr) (k : Expr → Bool) : Bool := match is with
  | [] => isTT t
  | [e] => k e
  | _ => false
def ckCp2 (sg : Sg) (own own1 : List Nat) (t0 t1 f0 f1 : T) (e : Expr) (k0 : Expr → Expr → Bool) (k1 : PySem.Scope → Expr → Expr → Bool) (b0 b1 kx : PySem.Scope → Expr → Bool) : Bool := match e with
  | .ListComp x [⟨tg, iter, is, 0⟩, ⟨tg1, iter1, is1, 0⟩] scope _ => sg.calm && tgOk own t0 && tgOk own1 t1 && own1.all own.contains && (ownP sg.N own).map (·.2) == own && blkC sg.N sg.sc scope (ownP sg.N own) && notSet iter && notSet iter1 && k0 tg iter && k1 scope tg1 iter1 &&
      tgChk (sg.into scope) t0 tg && tgChk (sg.into scope) t1 tg1 && ckIf f0 is (b0 scope) && ckIf f1 is1 (b1 scope) && kx scope x
  | _ => false
def chkXTs (g : Gm) (sg : Sg) : List Ty → List Expr → Bool
  | [], [] => true
  | t :: ts, e :: es => chkXT g sg t e && chkXTs g sg ts es
  | _, _ => false
def ckExi (g : Gm) (sg : Sg) (i : Nat) (tys : List Ty) (e : Expr) : Bool := match e with
  | .Call (.Name x _) [.Name n _, te] [] _ => x == ("isinstance" : PySem.Str) && sg.gl x && (sg.xn.map (·.1)) == some i && sg.N[i]? == some n && sg.vis n && !dbg n && !(n == ("__classdict__" : PySem.Str)) && (match te with
    | .Tuple ts _ _ => chkXTs g sg tys ts && decide (ts.length ≤ 100)
    | te => (match tys with | [t] => chkXT g sg t te | _ => false))
  | _ => false
mutual
def chkE (g : Gm) : T → Sg → Expr → Bool
  | .var i, sg, .Name x _ => sg.N[i]? == some x && sg.vis x && !dbg x && !(x == ("__classdict__" : PySem.Str))
  | .con (.int n), _, .Constant (.int k) _ _ => n == k
  | .con (.bl b), _, .Constant (.bool c) _ _ => b == c
  | .con .non, _, .Constant .none _ _ => true
  | .con (.str n), _, .Constant (.str s) _ _ => encS n == s
  | .glo n, sg, .Name x _ => g.glo.lookup x == some n && sg.gl x
  | .una false a, sg, .UnaryOp .Not e _ => chkE g a sg e
  | .una true a, sg, .UnaryOp .USub e _ => chkE g a sg e
  | .bin op a b, sg, .BinOp x o y _ => o == opO op && chkE g a sg x && chkE g b sg y
  | .cmp op a b, sg, .Compare x [o] [y] _ => o == cmO op && !behindInMarks o y && chkE g a sg x && chkE g b sg y
  | .chn o1 o2 a b c, sg, .Compare x [p1, p2] [y, z] _ => p1 == cmO o1 && p2 == cmO o2 && !lastMarks [p1, p2] [y, z] && chkE g a sg x && chkE g b sg y && chkE g c sg z
  | .and a b, sg, .BoolOp .And (x :: y :: r) p => chkE g a sg x && (match r with | [] => chkE g b sg y | z :: r => chkE g b sg (.BoolOp .And (y :: z :: r) p))
  | .or a b, sg, .BoolOp .Or (x :: y :: r) p => chkE g a sg x && (match r with | [] => chkE g b sg y | z :: r => chkE g b sg (.BoolOp .Or (y :: z :: r) p))
  | .ife c a b, sg, .IfExp z x y _ => chkE g c sg z && chkE g a sg x && chkE g b sg y
  | .sub a i, sg, .Subscript x y _ => !isSlice y && chkE g a sg x && chkE g i sg y
  | .sli a lo hi, sg, .Subscript x (.Slice l h none _) _ => chkE g a sg x && (match l with | none => isNil lo | some e => !isNil lo && chkE g lo sg e) && (match h with | none => isNil hi | some e => !isNil hi && chkE g hi sg e)
  | .tup as, sg, .Tuple es _ _ => chkLS g as sg es
  | .lst as, sg, .List es _ => chkLS g as sg es
  | .slr a, sg, .Subscript x (.Slice none none (some (.UnaryOp .USub (.Constant (.int 1) _ _) _)) _) _ => chkE g a sg x
  | .fld a f, sg, e => ckFld f e (chkE g a sg)
  | .bmv a m, sg, e => ckFld m e (chkE g a sg)
  | .met a m r, sg, e => ckMet sg m e (chkE g a sg) (chkL g r sg) (isNil r)
  | .new c r, sg, e => ckNew g sg c e (chkL g r sg) (isNil r)
  | .clv i r, sg, e => ckClv sg i e (isNil r)
  | .rgl a b c, sg, e => ckRgl sg e (chkE g a sg) (chkE g b sg) (chkE g c sg)
  | .cp2 elt t0 i0 f0 t1 i1 f1 own own1, sg, e => ckCp2 sg own own1 t0 t1 f0 f1 e (chkI g i0 sg) (fun s => chkI g i1 (sg.into s)) (fun s => chkE g f0 (sg.into s)) (fun s => chkE g f1 (sg.into s)) (fun s => chkE g elt (sg.into s))
  | .rg (.cns a .nil), sg, .Call (.Name x _) [y] [] _ => x == ("range" : PySem.Str) && sg.gl x && !isStar y && chkE g a sg y
  | .rg (.cns a (.cns c .nil)), sg, .Call (.Name x _) [y, z] [] _ => x == ("range" : PySem.Str) && sg.gl x && !isStar y && !isStar z && chkE g a sg y && chkE g c sg z
  | .blt .max0 (.cns a (.cns c .nil)), sg, .Call (.Name x _) [y] [⟨some k, z, _⟩] _ => x == ("max" : PySem.Str) && k == ("default" : PySem.Str) && sg.gl x && sg.calm && !isStar y && chkE g a sg y && chkE g c sg z
  | .box t, sg, e => boxable t && chkE g t sg e
  | .app f as, sg, e => ckApp g sg f e (chkL g as sg) (isNil as)
  | .apk f p as, sg, .Call (.Name x _) es (k :: ks) _ => sg.calm && sg.gl x && g.fns.any (fun q => q.1 == x && q.2.1 == f) && (kwOf g x).contains (es.length, kwN (k :: ks), p) && chkK g as sg es (k :: ks)
  | .blt .sset (.cns a .nil), sg, .Call (.Name x _) [.Call (.Name x2 _) [y] [] _] [] _ => x == ("sorted" : PySem.Str) && x2 == ("set" : PySem.Str) && sg.gl x && sg.gl x2 && sg.calm && !isStar y && chkE g a sg y
  | .isa a tys, sg, .Call (.Name x _) [y, te] [] _ => x == ("isinstance" : PySem.Str) && sg.gl x && !isStar y && chkE g a sg y && (match tys, te with
      | [t], .Name n p => chkTy sg t (.Name n p)
      | tys, .Tuple ts _ _ => chkTys sg tys ts && decide (ts.length ≤ 100)
      | _, _ => false)
  | .exi i tys, sg, e => ckExi g sg i tys e
  | .exf i, sg, .Attribute (.Name n _) f _ => (match sg.xn with | some (j, c) => i == j && g.fld.lookup c == some f | none => false) && sg.N[i]? == some n && sg.vis n && !dbg n && !(n == ("__classdict__" : PySem.Str))
  | .blt b (.cns a .nil), sg, .Call (.Name x _) [y] [] _ => bfName b == some x && sg.gl x && sg.calm && !isStar y && chkE g a sg y
  | .blt b (.cns a (.cns c .nil)), sg, .Call (.Name x _) [y, z] [] _ => (b == .max || b == .min) && bfName b == some x && sg.gl x && sg.calm && !isStar y && !isStar z && chkE g a sg y && chkE g c sg z
  | .mtd a m (.cns b .nil), sg, .Call (.Attribute o n ap) [y] [] cp => (m == .append && n == ("append" : PySem.Str) || m == .extend && n == ("extend" : PySem.Str) || m == .popi && n == ("pop" : PySem.Str) || m == .join && n == ("join" : PySem.Str)) && noCall o && ap.endLine == cp.line && !isStar y && chkE g a sg o && chkE g b sg y
  | .mtd a m .nil, sg, .Call (.Attribute o n ap) [] [] cp => m == .pop && n == ("pop" : PySem.Str) && noCall o && ap.endLine == cp.line && chkE g a sg o
  | .cpr elt tgt it ifs own, sg, .ListComp x [⟨tg, iter, is, 0⟩] scope _ => sg.calm && tgOk own tgt && (ownP sg.N own).map (·.2) == own && blkC sg.N sg.sc scope (ownP sg.N own) && notSet iter && chkI g it sg tg iter &&
      tgChk (sg.into scope) tgt tg && (match is with | [] => isTT ifs | [e] => chkE g ifs (sg.into scope) e | _ => false) && chkE g elt (sg.into scope) x
  | _, _, _ => false
def chkL (g : Gm) : T → Sg → List Expr → Bool
  | .nil, _, [] => true
  | .cns a r, sg, e :: es => !isStar e && chkE g a sg e && chkL g r sg es
  | _, _, _ => false
def chkLS (g : Gm) : T → Sg → List Expr → Bool
  | .nil, _, [] => true
  | .cns a r, sg, e :: es => !isStar e && chkE g a sg e && chkLS g r sg es
  | .sta a r, sg, .Starred e _ :: es => chkE g a sg e && chkLS g r sg es
  | _, _, _ => false
def chkK (g : Gm) : T → Sg → List Expr → List Keyword → Bool
  | .nil, _, [], [] => true
  | .cns a r, sg, e :: es, ks => !isStar e && chkE g a sg e && chkK g r sg es ks
  | .cns a r, sg, [], k :: ks => k.arg.isSome && chkE g a sg k.value && chkK g r sg [] ks
  | _, _, _, _ => false
def chkI (g : Gm) : T → Sg → Expr → Expr → Bool
  | .itx a, sg, _, e => chkE g a sg e
  | .itr1 a, sg, _, .Call (.Name x _) [y] [] _ => x == ("range" : PySem.Str) && sg.gl x && !isStar y && chkE g a sg y
  | .itr2 a b, sg, _, .Call (.Name x _) [y, z] [] _ => x == ("range" : PySem.Str) && sg.gl x && !isStar y && !isStar z && chkE g a sg y && chkE g b sg z
  | .itr3 a b c, sg, _, .Call (.Name x _) [y, z, u] [] _ => x == ("range" : PySem.Str) && sg.gl x && !isStar y && !isStar z && !isStar u && chkE g a sg y && chkE g b sg z && chkE g c sg u
  | .ite a, sg, .Tuple .., .Call (.Name x _) [y] [] _ => x == ("enumerate" : PySem.Str) && sg.gl x && !isStar y && chkE g a sg y
  | .itz a b, sg, .Tuple .., .Call (.Name x _) [y, z] [] _ => x == ("zip" : PySem.Str) && sg.gl x && !isStar y && !isStar z && chkE g a sg y && chkE g b sg z
  | _, _, _, _ => false
end
def chkO (g : Gm) (t : T) (op : BoolOp) (sg : Sg) (es : List Expr) (p : Pos) : Bool := match es with
  | [y] => chkE g t sg y
  | es => chkE g t sg (.BoolOp op es p)
def chkP (g : Gm) (t : T) (sg : Sg) (o : Option Expr) : Bool := match o with
  | none => isNil t
  | some e => !isNil t && chkE g t sg e
def chkF (g : Gm) (t : T) (sg : Sg) (es : List Expr) : Bool := match es with
  | [] => isTT t
  | [e] => chkE g t sg e
  | _ => false
def isCpr : T → Bool
  | .cpr .. => true
  | _ => false
def swV (sg : Sg) (n : PySem.Str) (np : Pos) : Expr → Bool
  | .ListComp _ _ s p => swL sg n np s p
  | _ => false
def notSD : Expr → Bool
  | .SetComp .. => false
  | .DictComp .. => false
  | _ => true
def isTup : Expr → Bool
  | .Tuple .. => true
  | _ => false
def unBox : T → T
  | .box t => t
  | t => t
def par2 : T → List Expr → List Expr → T → Bool
  | .cns (.tn i) (.cns (.tn j) .nil), [.Name _ _, .Name _ _], [_, _], .tup _ => i != j
  | .cns (.tn i) (.cns (.tn j) (.cns (.tn l) .nil)), [.Name _ _, .Name _ _, .Name _ _], [_, _, _], .tup _ => i != j && i != l && j != l
  | _, _, _, _ => false
def parOk (sg : Sg) (ts : T) (es : List Expr) (e : T) : Expr → Bool
  | .Tuple vs _ _ => swC sg.sc es vs == 0 || (swC sg.sc es vs == 1 && par2 ts es vs e)
  | _ => true
/-- targets: names, o.f, o[i] -/
def chkG (g : Gm) : T → Sg → Expr → Bool
  | .tn i, sg, .Name x _ => sg.N[i]? == some x && sg.put x
  | .tf a f, sg, .Attribute o n _ => encS f == n && chkE g a sg o
  | .ts a i, sg, .Subscript o y _ => !isSlice y && chkE g a sg o && chkE g i sg y
  | _, _, _ => false
def chkGs (g : Gm) : T → Sg → List Expr → Bool
  | .nil, _, [] => true
  | .cns t r, sg, e :: es => chkG g t sg e && chkGs g r sg es
  | _, _, _ => false
mutual
def chkS (g : Gm) : T → Sg → Stmt → Bool
  | .asg (.tn i) e, sg, .Assign [.Name x tp] v _ => sg.N[i]? == some x && sg.put x && chkE g e sg v && notSD v && (!swV sg x tp v || (sg.calm && isCpr (unBox e)))
  | .asg (.ts a i) e, sg, .Assign [.Subscript o y _] v _ => sg.calm && !isSlice y && chkE g a sg o && chkE g i sg y && chkE g e sg v
  | .asg (.tt ts) e, sg, .Assign [.Tuple es k p] v _ => sg.calm && chkE g e sg v && (match tgChk sg (.tt ts) (.Tuple es k p) with | true => parOk sg ts es e v | false => chkGs g ts sg es && (match v with | .Tuple vs _ _ => swC sg.sc es vs == 0 | _ => true))
  | .asg (.tf a f) e, sg, .Assign [.Attribute o n _] v _ => sg.calm && encS f == n && chkE g a sg o && chkE g e sg v
  | .xpr e, sg, .Expr v _ => !isComp v && chkE g e sg v
  | .ret e, sg, .Return (some v) _ => chkE g e sg v
  | .ret (.con .non), _, .Return none _ => true
  | .iff c a b, sg, .If x p q _ => chkE g c sg x && chkB g a sg p && chkB g b sg q
  | .whl c b, sg, .While x p [] _ => sg.stm && chkE g c sg x && chkB g b sg p
  | .fre t it b, sg, .For tg iter p [] _ => sg.stm && sg.calm && notSet iter && tgChk sg t tg && chkI g it sg tg iter && chkB g b sg p
  | .rai c .nil, sg, .Raise (some (.Call (.Name x _) [] [] _)) none _ => sg.calm && sg.gl x && g.exc.lookup x == some c && g.fld.lookup c == none
  | .rai c (.cns a .nil), sg, .Raise (some (.Call (.Name x _) [y] [] _)) none _ => sg.calm && sg.gl x && g.exc.lookup x == some c && (g.fld.lookup c).isSome && !isStar y && chkE g a sg y
  | .try_ b hs, sg, .Try p (h :: r) [] [] _ => sg.stm && sg.calm && chkB g b sg p && chkH g hs sg (h :: r)
  | .pas, _, .Pass _ => true
  | .brk, _, .Break _ => true
  | .cnt, _, .Continue _ => true
  | _, _, _ => false
def chkH (g : Gm) : T → Sg → List ExceptHandler → Bool
  | .pas, _, [] => true
  | .hnd [c] (some i) s r, sg, .ExceptHandler (some (.Name x _)) (some n) (q :: qs) _ :: hs => g.exc.lookup x == some c && sg.gl x && sg.N[i]? == some n && sg.sc.names.lookup n == some .local && chkB g s { sg with calm := false, stm := false, xn := some (i, c) } (q :: qs) && chkH g r sg hs
  | .hnd [c] none s r, sg, .ExceptHandler (some (.Name x _)) none (q :: qs) _ :: hs => g.exc.lookup x == some c && sg.gl x && chkB g s { sg with calm := false, stm := false, xn := none } (q :: qs) && chkH g r sg hs
  | _, _, _ => false
def chkB (g : Gm) : T → Sg → List Stmt → Bool
  | .nil, _, [] => true
  | .cns (.ssr i e) .nil, sg, [.Assign [.Name x _] (.Call (.Name s1 _) [y] [] _) _, .Return (some (.Call (.Name s2 _) [.Call (.Name s3 _) [.Name x2 _] [] _] [] _)) _] => sg.calm && sg.N[i]? == some x && sg.vis x && sg.put x && !dbg x && !(x == ("__classdict__" : PySem.Str)) && x2 == x && s1 == ("set" : PySem.Str) && s2 == ("tuple" : PySem.Str) && s3 == ("sorted" : PySem.Str) && sg.gl s1 && sg.gl s2 && sg.gl s3 && !isStar y && chkE g e sg y
  | .cns a r, sg, x :: xs => chkS g a sg x && chkB g r sg xs
  | _, _, _ => false
end
end Pv
set_option Elab.async false
set_option linter.all false
set_option maxRecDepth 100000
set_option maxHeartbeats 2000000
namespace Pv
open PySem L2 PySem.Spec PyProof.Rows
def tyV1 : Ty → Value
  | .int => .type "int" | .bool => .type "bool" | .str => .type "str" | .list => .type "list" | .tuple => .type "tuple" | _ => .none
def tyVV : Ty → V
  | .int => .ty "int" | .bool => .ty "bool" | .str => .ty "str" | .list => .ty "list" | .tuple => .ty "tuple" | _ => .non
/-- the facts of a program that the checker leans on -/
structure Wld (g : Gm) (cl : Cl) (P : Program) (w : World) (K : PySem.W.Frag) (mg : PySem.Str → Option Value) (base : Heap) (E : Env) (k : Nat) : Prop where
  blt : ∀ x ∈ bltNames, mg x = none
  glo : ∀ x n, g.glo.lookup x = some n → ∃ u v G, mg x = some u ∧ RelV v u ∧ E.glo n = some G ∧ ∀ y H ρ, GR ⟨K, y⟩ H ρ G v
  fns : ∀ q ∈ g.fns, ∃ f fd ps, Callee P w K mg base (xrel cl) E k q.1 q.2.1 f fd ps ∧ ∀ u ∈ kwOf g q.1, KB K fd ps u
  fuel : E.fuel ≤ 16000000
  kit : ∀ n, (∀ k, n ≠ .ins k) → ∀ t, (tyName t).isSome = true → PySem.W.kitOne K (tN n) (tyV1 t) = some (sT n t)
  exc : ∀ x c, g.exc.lookup x = some c → ∃ C, cl c = some C ∧ mg x = some (.ref C) ∧ PySem.W.keepIn K (.ref C) = true ∧ (cl.fld c = none → ∃ bmB B newId initId, ExcBaseFacts B newId initId bmB ∧ PySem.W.excIn K C bmB newId = true) ∧ (∀ f, cl.fld c = some f → ExF P w K mg base C f) ∧
    PySem.W.subIn K (.ref C) (.type "BaseException") = some true ∧ PySem.W.typeIn K (.ref C) = some (.type "type")
  two : 2 ≤ k
  exs : ∀ c j, E.exsub c j = true → c = j
  fld : ∀ c, cl.fld c = g.fld.lookup c
  fldC : ∀ c C f, cl c = some C → cl.fld c = some f → XfC K C ∧ PySem.W.findIn K (.ref C) f = some none
  excC : ∀ c C, cl c = some C → ExcC K C ∧ (∀ k Ck, cl k = some Ck → PySem.W.exmOne K (.ref C) (.ref Ck) = some (E.exsub c k) ∧ PySem.W.kitOne K (.ref C) (.ref Ck) = some (E.exsub c k)) ∧
    PySem.W.kitOne K (.ref C) (.type "ValueError") = some (E.exv c) ∧ PySem.W.kitOne K (.ref C) (.type "LookupError") = some (!E.exv c)
  cls : ClsW K E
  mth : ∀ c m i, E.meth c m = some i → CalleeM P w K mg base (xrel cl) E k c m i
  ini : ∀ c, (initT g.cls c).isSome = true → ∃ i, E.init c = some i ∧ CalleeI P w K mg base (xrel cl) E k c i
/-- a context of a text beside its signature -/
structure Ag (g : Gm) (cl : Cl) (E : Env) (k : Nat) (sg : Sg) (X : Cx) (K : Kx) (Z : WX) : Prop where
  wld : Wld g cl X.prog X.w X.K X.mg X.base E k
  hK : X.K = K.K
  hN : X.N = sg.N
  nd : X.N.Nodup
  sc : X.env.scope = sg.sc
  bk : X.env.blockKind = .function
  fn : match sg.blk with | none => ∀ x, X.fn x = true | some s => ∀ x, X.fn x = (s.names.lookup x == some .cell)
  un : X.A.units + 160 ≤ cLine
  calm : sg.calm = true → X.calm = true ∧ RoomW k X.A ∧ K.y.xn = none ∧ Takes X Z
  stm : sg.stm = true → PassesOwn (model X.prog X.w) X.A X.env X.xe ∧ X.stack = X.env :: X.outer ∧ X.env.frame = some X.env.locals
  xn : ∀ i c, sg.xn = some (i, c) → ∃ (X0 : Cx) (a : Addr) (oe : Obj) (pn : List (Addr × Obj)) (ds : List D) (d : Option Addr) (xd : Option (Addr × PySem.Str × G)) (C : Addr), X = X0.suite a ((a, oe) :: pn) ∧ K.y.xn = some (i, a, xd) ∧ E.cur = some (c, ds) ∧ cl c = some C ∧ xdOf cl c ds d xd ∧ Zc (.ref C) d oe ∧ ∃ vs, oe.data = .fields vs
section
variable {g : Gm} {cl : Cl} {E : Env} {k : Nat} {sg : Sg} {X : Cx} {K : Kx} {Z : WX} {x : PySem.Str} {a e : Expr} {es : List Expr}
theorem Wld.cur {P : Program} {w : World} {K : PySem.W.Frag} {mg : PySem.Str → Option Value} {base : Heap} {y : Option (Nat × List D)} (W : Wld g cl P w K mg base E k) : Wld g cl P w K mg base { E with cur := y } k :=
  ⟨W.blt, W.glo, fun q hq => by obtain ⟨f, fd, ps, c, z⟩ := W.fns q hq; exact ⟨f, fd, ps, ⟨c.at_, c.keep, c.binds, c.ok, c.len⟩, z⟩, W.fuel, W.kit, W.exc, W.two, W.exs, W.fld, W.fldC, W.excC, ⟨W.cls.attr⟩,
    fun c m i e => by have q := W.mth c m i e; exact ⟨q.cls, q.bm, q.ok⟩, fun c e => by obtain ⟨i, h, q⟩ := W.ini c e; exact ⟨i, h, q.at_, q.make, q.ok⟩⟩
theorem Ag.gl (A : Ag g cl E k sg X K Z) (h : sg.gl x = true) : Gl X x ∧ (x == ("__debug__" : PySem.Str)) = false := by
  unfold Sg.gl at h
  simp only [Bool.and_eq_true, beq_iff_eq, Bool.not_eq_true'] at h
  exact ⟨by show X.env.scope.names.lookup x = _; rw [A.sc]; exact h.1, h.2⟩
theorem Ag.vis (A : Ag g cl E k sg X K Z) (h : sg.vis x = true) : Vis X.env.scope x := by
  unfold Sg.vis at h
  rw [A.sc]
  split at h <;> first | exact .inl (by assumption) | exact .inr (.inl (by assumption)) | exact .inr (.inr (by assumption)) | cases h
theorem Ag.put (A : Ag g cl E k sg X K Z) (h : sg.put x = true) : Loc X.env.scope x ∧ (X.fn x = true ∨ X.env.scope.names.lookup x = some .local) := by
  unfold Sg.put at h
  rw [Bool.and_eq_true] at h
  obtain ⟨h1, h2⟩ := h
  refine ⟨?_, ?_⟩
  · unfold Sg.loc at h1
    rw [A.sc]
    split at h1 <;> first | exact .inl (by assumption) | exact .inr (by assumption) | cases h1
  · have f := A.fn
    cases hb : sg.blk with
    | none => rw [hb] at f; exact .inl (f x)
    | some s =>
      rw [hb] at f h2
      dsimp only at f h2
      rw [Bool.or_eq_true] at h2
      rcases h2 with h2 | h2
      · exact .inl (by rw [f x]; exact h2)
      · exact .inr (by rw [A.sc]; exact beq_iff_eq.mp h2)
theorem Ag.bltn (A : Ag g cl E k sg X K Z) (h : x ∈ bltNames) : X.mg x = none := A.wld.blt x h
theorem plainT_is (h : plainT a = true) (env : PySem.Env) : ∀ whole, isTrue a env whole = (do let v ← whole; standAt a.pos; holding [v] (truthy v)) := fun whole => by
  cases a <;> first | rfl | (cases h; done) | skip
  rename_i op _ _
  cases op <;> first | rfl | (cases h; done)
theorem notSet_is (h : notSet a = true) (env : PySem.Env) : ∀ v, foldedSetIterable a env v = pure v := fun v => by
  cases a <;> first | rfl | (cases h; done)
theorem noCall_is (h : noCall a = true) (env : PySem.Env) (n : PySem.Str) (t : Sem Value) : attributeBase a n env t = t := by
  cases a <;> first | rfl | (cases h; done)
theorem tail_plain {pos : Pos} {env : PySem.Env} : ∀ {es : List Expr}, es.any isStar = false → (backTo pos (starEach es env)).any (·.1) = false
  | [], _ => rfl
  | e :: es, h => by
    simp only [List.any_cons, Bool.or_eq_false_iff] at h
    rw [star_no h.1]
    show (false || (backTo pos (starEach es env)).any (·.1)) = false
    rw [tail_plain h.2]; rfl
theorem ownP_ok {N : List PySem.Str} {own : List Nat} (h : ((ownP N own).map (·.2) == own) = true) : (ownP N own).map (·.2) = own := beq_iff_eq.mp h
/-- into a comprehension's block -/
theorem Ag.blk (A : Ag g cl E k sg X K Z) (hc : sg.calm = true) {s : Shared} {H : L2.Hp} {scope : PySem.Scope} {C : Addr} {cl' : List (PySem.Str × Addr)} {fp : List Addr} (hk : scope.kind = .function) (φ : List Addr) :
    Ag g cl E k (sg.into scope) (X.blk s H scope (compEnvC scope cl' C X.env) fp) ⟨K.K, φ, none⟩ noZ where
  wld := A.wld
  hK := A.hK
  hN := A.hN
  nd := A.nd
  sc := by show relS scope X.env.scope = relS scope sg.sc; rw [A.sc]
  bk := by
    show (if scope.kind.isAnnotationScope then ScopeKind.function else scope.kind) = .function
    rw [hk]; rfl
  fn := fun x => rfl
  un := A.un
  calm := fun _ => ⟨(A.calm hc).1, (A.calm hc).2.1, rfl, fun u s' ⟨_, _, _, _, _, _, _, _, _, _, _, _, _, _, _, _, z⟩ => z.elim⟩
  stm := fun h => by cases h
  xn := fun i c h => by
    have := (A.calm hc).2.2.1
    obtain ⟨X0, a, oe, pn, ds, d, xd, C', e, q, _⟩ := A.xn i c h
    rw [this] at q; cases q
/-- names as targets -/
theorem tgChk_pg (A : Ag g cl E k sg X K Z) (hc : sg.calm = true) : ∀ (t : T), (∀ e, tgChk sg t e = true → PG X e (tgG K.K t) ∧ isStar e = false) ∧ (∀ es, tgChk.tgsChk sg t es = true → PGs X es (tgGs K.K t) ∧ es.any isStar = false ∧ es.length = tgLen t) := by
  intro t
  induction t with
  | tn i =>
    refine ⟨fun e h => ?_, fun es h => by cases es <;> simp [tgChk.tgsChk] at h⟩
    cases e <;> simp [tgChk] at h
    rename_i x p
    obtain ⟨h1, h2⟩ := h
    have q := A.put h2
    exact ⟨by simp only [tgG]; exact pg_name A.nd (by rw [A.hN]; exact h1) q.1 q.2, rfl⟩
  | tt ts ih =>
    refine ⟨fun e h => ?_, fun es h => by cases es <;> simp [tgChk.tgsChk] at h⟩
    cases e <;> simp [tgChk] at h
    rename_i es k' p
    obtain ⟨h1, h2, h3⟩ := ih.2 _ h
    refine ⟨?_, rfl⟩
    simp only [tgG]
    rw [← A.hK]
    rw [← A.hK] at h1
    exact pg_tupA (A.calm hc).1 h1 (by rw [(noStar_find h2).2]; exact h3) (noStar_find h2).1
  | nil =>
    refine ⟨fun e h => by cases e <;> simp [tgChk] at h, fun es h => ?_⟩
    cases es with
    | cons e r => simp [tgChk.tgsChk] at h
    | nil => exact ⟨by simp only [tgGs]; exact pgs_nil, rfl, rfl⟩
  | cns t r ih1 ih2 =>
    refine ⟨fun e h => by cases e <;> simp [tgChk] at h, fun es h => ?_⟩
    cases es with
    | nil => simp [tgChk.tgsChk] at h
    | cons e es =>
      simp only [tgChk.tgsChk, Bool.and_eq_true, Bool.not_eq_true'] at h
      obtain ⟨p1, p2⟩ := ih1.1 e h.1.1
      obtain ⟨q1, q2, q3⟩ := ih2.2 es h.2
      refine ⟨?_, by simp [h.1.2, q2], by simp [tgLen, q3]⟩
      simp only [tgGs]
      exact pgs_cons p1 q1 (by rw [assign_no h.1.2]; rfl)
  | _ => exact ⟨fun e h => by cases e <;> simp [tgChk] at h, fun es h => by cases es <;> simp [tgChk.tgsChk] at h⟩
theorem pg_tgF {own : List Nat} {t : T} (ht : tgOk own t = true) (h : PG X a (tgG K.K t)) : PG X a (tG K E (denT t)) :=
  PG.imp h fun v σ H Q ⟨ρ, s, h, d, sr, hr, dr, af⟩ => by
    cases e : denT t d E s h <;> rw [e] at af <;> first | exact False.elim af | skip
    have hh := (tg_shape t).1 ht e
    subst hh
    exact (tg_run t).1 ht sr dr e fun σ' sr' _ => af σ' ρ H Ext.refl hr sr'
/-- the names of a target -/
def tgNames : T → List Nat
  | .tn i => [i]
  | .tt ts => tgNames ts
  | .cns t r => tgNames t ++ tgNames r
  | _ => []
theorem tgOk_mono {own own' : List Nat} (h : ∀ i ∈ own, i ∈ own') (t : T) : (tgOk own t = true → tgOk own' t = true) ∧ (tgsOk own t = true → tgsOk own' t = true) := by
  induction t with
  | tn i =>
    refine ⟨fun ok => ?_, fun ok => by simp [tgsOk] at ok⟩
    simp only [tgOk, List.contains_iff_mem] at ok ⊢
    exact h i ok
  | tt ts ih => exact ⟨fun ok => ih.2 ok, fun ok => by simp [tgsOk] at ok⟩
  | nil => exact ⟨fun ok => by simp [tgOk] at ok, fun _ => rfl⟩
  | cns t r ih1 ih2 =>
    refine ⟨fun ok => by simp [tgOk] at ok, fun ok => ?_⟩
    simp only [tgsOk, Bool.and_eq_true] at ok ⊢
    exact ⟨ih1.1 ok.1, ih2.2 ok.2⟩
  | _ => exact ⟨fun ok => by simp [tgOk] at ok, fun ok => by simp [tgsOk] at ok⟩
theorem tgChk_ok {sg : Sg} (t : T) : (∀ e, tgChk sg t e = true → tgOk (tgNames t) t = true) ∧ (∀ es, tgChk.tgsChk sg t es = true → tgsOk (tgNames t) t = true) := by
  induction t with
  | tn i => exact ⟨fun e h => by simp [tgOk, tgNames], fun es h => by cases es <;> simp [tgChk.tgsChk] at h⟩
  | tt ts ih =>
    refine ⟨fun e h => ?_, fun es h => by cases es <;> simp [tgChk.tgsChk] at h⟩
    cases e <;> simp [tgChk] at h
    exact ih.2 _ h
  | nil => exact ⟨fun e h => by cases e <;> simp [tgChk] at h, fun es h => rfl⟩
  | cns t r ih1 ih2 =>
    refine ⟨fun e h => by cases e <;> simp [tgChk] at h, fun es h => ?_⟩
    cases es with
    | nil => simp [tgChk.tgsChk] at h
    | cons e es =>
      simp only [tgChk.tgsChk, Bool.and_eq_true, Bool.not_eq_true'] at h
      simp only [tgsOk, tgNames, Bool.and_eq_true]
      exact ⟨(tgOk_mono (fun i hi => List.mem_append_left _ hi) t).1 (ih1.1 e h.1.1), (tgOk_mono (fun i hi => List.mem_append_right _ hi) r).2 (ih2.2 es h.2)⟩
  | _ => exact ⟨fun e h => by cases e <;> simp [tgChk] at h, fun es h => by cases es <;> simp [tgChk.tgsChk] at h⟩
end
end Pv
set_option Elab.async false
set_option linter.all false
set_option maxRecDepth 100000
set_option maxHeartbeats 4000000
namespace Pv
open PySem L2 PySem.Spec PyProof.Rows
section
variable {g : Gm} {cl : Cl} {k : Nat}
theorem bx_no {X : Cx} {e : Expr} {t : T} {f : F} {p : F → Prop} {bx : Bool} (hb : bx = true → boxable t = true) (ht : boxable t = false) (h : p f) : p (bxF bx f) := by
  cases bx with
  | false => exact h
  | true => rw [ht] at hb; cases hb rfl
theorem appL_nil_cns {fa fr : F} : appL nilF (cnsF fa fr) = cnsF fa fr := by
  funext E s h
  simp only [cnsF, appL, nilF, Out.onL]
  generalize fa E s h = oa
  cases oa <;> try rfl
  rename_i d h1
  simp only [Out.onV]
  generalize fr E s h1 = ob
  cases ob <;> rfl
theorem kw_facts {pos : Pos} {env : PySem.Env} : ∀ {ks : List Keyword}, ks.all (·.arg.isSome) = true → (backToKw pos (keywordEach ks env)).all (·.1.isSome) = true ∧ (backToKw pos (keywordEach ks env)).filterMap (·.1) = kwN ks ∧ (kwN ks).length = ks.length ∧ (backToKw pos (keywordEach ks env)).any (·.1.isNone) = false
  | [], _ => ⟨rfl, rfl, rfl, rfl⟩
  | ⟨nm, v, kp⟩ :: ks, h => by
    simp only [List.all_cons, Bool.and_eq_true] at h
    obtain ⟨a, b, c, d⟩ := kw_facts (pos := pos) (env := env) h.2
    cases nm with
    | none => cases h.1
    | some nm =>
      refine ⟨?_, ?_, ?_, ?_⟩
      · show (true && (backToKw pos (keywordEach ks env)).all (·.1.isSome)) = true
        rw [a]; rfl
      · show nm :: (backToKw pos (keywordEach ks env)).filterMap (·.1) = nm :: kwN ks
        rw [b]
      · show (nm :: kwN ks).length = _
        simp [c]
      · show (false || (backToKw pos (keywordEach ks env)).any (·.1.isNone)) = false
        rw [d]; rfl
theorem box_bool {g : Gm} {t : T} {sg : Sg} {op : BoolOp} {es : List Expr} {p : Pos} (h1 : boxable t = true) (h2 : chkE g t sg (.BoolOp op es p) = true) : False := by
  generalize he : Expr.BoolOp op es p = e at h2
  unfold chkE at h2
  split at h2 <;> first | (cases he; done) | (cases h1; done) | (cases h2; done)
theorem and_inv {g : Gm} {t : T} {sg : Sg} {es : List Expr} {p : Pos} (h : chkE g t sg (.BoolOp .And es p) = true) : ∃ a b x y r, t = .and a b ∧ es = x :: y :: r ∧ chkE g a sg x = true ∧ chkO g b .And sg (y :: r) p = true := by
  generalize he : Expr.BoolOp .And es p = e at h
  unfold chkE at h
  split at h <;> first | (cases he; done) | (cases h; done) | (subst he; simp only [ckFld, ckMet, ckNew, ckClv, ckRgl, ckCp2, ckExi, ckApp] at h; cases h; done) | skip
  · rename_i a b x y r p'
    cases he
    rw [Bool.and_eq_true] at h
    exact ⟨a, b, x, y, r, rfl, rfl, h.1, by unfold chkO; cases r <;> exact h.2⟩
  · subst he
    rw [Bool.and_eq_true] at h
    exact (box_bool h.1 h.2).elim
theorem or_inv {g : Gm} {t : T} {sg : Sg} {es : List Expr} {p : Pos} (h : chkE g t sg (.BoolOp .Or es p) = true) : ∃ a b x y r, t = .or a b ∧ es = x :: y :: r ∧ chkE g a sg x = true ∧ chkO g b .Or sg (y :: r) p = true := by
  generalize he : Expr.BoolOp .Or es p = e at h
  unfold chkE at h
  split at h <;> first | (cases he; done) | (cases h; done) | (subst he; simp only [ckFld, ckMet, ckNew, ckClv, ckRgl, ckCp2, ckExi, ckApp] at h; cases h; done) | skip
  · rename_i a b x y r p'
    cases he
    rw [Bool.and_eq_true] at h
    exact ⟨a, b, x, y, r, rfl, rfl, h.1, by unfold chkO; cases r <;> exact h.2⟩
  · subst he
    rw [Bool.and_eq_true] at h
    exact (box_bool h.1 h.2).elim
theorem find_fn {g : Gm} {x : PySem.Str} {f : Nat} (h : g.fns.any (fun q => q.1 == x && q.2.1 == f) = true) : ∃ q ∈ g.fns, q.1 = x ∧ q.2.1 = f := by
  obtain ⟨q, hq, e⟩ := List.any_eq_true.mp h
  rw [Bool.and_eq_true] at e
  exact ⟨q, hq, beq_iff_eq.mp e.1, beq_iff_eq.mp e.2⟩
theorem tyv {t : Ty} {n : PySem.Str} (h : (tyName t == some n) = true) : n ∈ bltNames ∧ ∃ T, bootBuiltins n = some (.type T) ∧ tyV1 t = .type T ∧ tyVV t = .ty T ∧ n ≠ "__name__" ∧ (tyName t).isSome = true := by
  cases t <;> simp [tyName] at h <;> subst h
  · exact ⟨by decide +kernel, "int", boot_int, rfl, rfl, by decide, rfl⟩
  · exact ⟨by decide +kernel, "bool", boot_bool, rfl, rfl, by decide, rfl⟩
  · exact ⟨by decide +kernel, "str", boot_str, rfl, rfl, by decide, rfl⟩
  · exact ⟨by decide +kernel, "list", boot_list, rfl, rfl, by decide, rfl⟩
  · exact ⟨by decide +kernel, "tuple", boot_tuple, rfl, rfl, by decide, rfl⟩
theorem chkTy_pe {E : Env} {sg : Sg} {X : Cx} {K : Kx} {Z : WX} {t : Ty} {e : Expr} (A : Ag g cl E k sg X K Z) (h : chkTy sg t e = true) : PE X e (tC (tyVV t)) ∧ isStar e = false ∧ ClsV (tyVV t) (tyV1 t) ∧ (tyName t).isSome = true := by
  unfold chkTy at h
  split at h
  · rw [Bool.and_eq_true] at h
    obtain ⟨h1, T, h2, h3, h4, h5, h6⟩ := tyv h.1
    have q := A.gl h.2
    refine ⟨pe_bltn q.1 (A.bltn h1) h2 (by rw [h4]; rfl) h5 q.2, rfl, by rw [h3, h4]; exact .ty T, h6⟩
  · cases h
theorem chkTys_pa {E : Env} {sg : Sg} {X : Cx} {K : Kx} {Z : WX} (A : Ag g cl E k sg X K Z) : ∀ {ts : List Ty} {es : List Expr}, chkTys sg ts es = true →
    PA X es (fun _ H Q => Q (ts.map tyVV) H) ∧ Paired ClsV (ts.map tyVV) (ts.map tyV1) ∧ ts.length = es.length ∧ ∀ n, (∀ k, n ≠ .ins k) → PySem.W.kitAny X.K (tN n) (ts.map tyV1) = some (ts.any (sT n))
  | [], [], _ => ⟨PA.imp pa_nil fun σ H Q q => q, .nil, rfl, fun _ _ => rfl⟩
  | [], _ :: _, h => by cases h
  | _ :: _, [], h => by cases h
  | t :: ts, e :: es, h => by
    rw [chkTys, Bool.and_eq_true] at h
    obtain ⟨p1, p2, p3, p4⟩ := chkTy_pe A h.1
    obtain ⟨q1, q2, q3, q4⟩ := chkTys_pa A h.2
    refine ⟨PA.imp (pa_cons p1 q1 (star_no p2)) fun σ H Q q => q, .cons p3 q2, by simp [q3], fun n hn => ?_⟩
    show (match PySem.W.kitOne X.K (tN n) (tyV1 t) with | some true => some true | some false => PySem.W.kitAny X.K (tN n) (ts.map tyV1) | none => none) = _
    rw [A.wld.kit n hn t p4, q4 n hn]
    cases h2 : sT n t <;> simp [h2]
theorem chkXT_pe {E : Env} {sg : Sg} {X : Cx} {K : Kx} {Z : WX} {t : Ty} {e : Expr} {c : Nat} {C : Addr} (A : Ag g cl E k sg X K Z) (hC : cl c = some C) (h : chkXT g sg t e = true) :
    ∃ v u, PE X e (tC v) ∧ isStar e = false ∧ (∀ w, RelV v w → w = u) ∧ PySem.W.kitOne X.K (.ref C) u = some (exT E c t) := by
  obtain ⟨_, x2, x3, x4⟩ := A.wld.excC c C hC
  unfold chkXT at h
  split at h
  · rename_i x p
    rw [Bool.and_eq_true] at h
    have q := A.gl h.1
    obtain ⟨_, h⟩ := h
    split at h
    · have e := beq_iff_eq.mp h
      subst e
      exact ⟨.ty "ValueError", .type "ValueError", pe_bltn q.1 (A.bltn (by decide +kernel)) (by decide +kernel) rfl (by decide) q.2, rfl, fun w r => r, x3⟩
    · have e := beq_iff_eq.mp h
      subst e
      exact ⟨.ty "LookupError", .type "LookupError", pe_bltn q.1 (A.bltn (by decide +kernel)) (by decide +kernel) rfl (by decide) q.2, rfl, fun w r => r, x4⟩
    · rename_i c'
      have e := beq_iff_eq.mp h
      obtain ⟨C', h1, h2, _⟩ := A.wld.exc x c' e
      exact ⟨.ref C', .ref C', pe_glob q.1 h2 rfl q.2, rfl, fun w r => r, (x2 c' C' h1).2⟩
    · cases h
  · cases h
theorem chkXTs_pa {E : Env} {sg : Sg} {X : Cx} {K : Kx} {Z : WX} {c : Nat} {C : Addr} (A : Ag g cl E k sg X K Z) (hC : cl c = some C) : ∀ {ts : List Ty} {es : List Expr}, chkXTs g sg ts es = true →
    ∃ (cs : List V) (us : List Value), PA X es (fun _ H Q => Q cs H) ∧ (∀ its, Vals cs its → its = us) ∧ cs.length = es.length ∧ PySem.W.kitAny X.K (.ref C) us = some (ts.any (exT E c))
  | [], [], _ => ⟨[], [], PA.imp pa_nil fun σ H Q q => q, fun its h => by cases h; rfl, rfl, rfl⟩
  | [], _ :: _, h => by cases h
  | _ :: _, [], h => by cases h
  | t :: ts, e :: es, h => by
    rw [chkXTs, Bool.and_eq_true] at h
    obtain ⟨v, u, p1, p2, p3, p4⟩ := chkXT_pe A hC h.1
    obtain ⟨cs, us, q1, q2, q3, q4⟩ := chkXTs_pa A hC h.2
    refine ⟨v :: cs, u :: us, PA.imp (pa_cons p1 q1 (star_no p2)) fun σ H Q q => q, fun its h => ?_, by simp [q3], ?_⟩
    · cases h with
      | cons r rr => rw [p3 _ r, q2 _ rr]
    · show (match PySem.W.kitOne X.K (.ref C) u with | some true => some true | some false => PySem.W.kitAny X.K (.ref C) us | none => none) = _
      rw [p4, q4]
      cases h2 : exT E c t <;> simp [h2]
theorem den_cns (a r : T) : den (.cns a r) = cnsF (den a) (den r) := by rw [den]
theorem den_nil : den .nil = nilF := by rw [den]
theorem den_rg (as : T) : den (.rg as) = rgF (den as) := by rw [den]
theorem den_blt (b : Bf) (as : T) : den (.blt b as) = bltF b (den as) := by rw [den]
theorem den_fld (a : T) (f : Nat) : den (.fld a f) = fldF (den a) f := by rw [den]
theorem den_bmv (a : T) (f : Nat) : den (.bmv a f) = bmvF (den a) f := by rw [den]
theorem den_app (f : Nat) (as : T) : den (.app f as) = appF f (den as) := by rw [den]
theorem den_met (a : T) (f : Nat) (as : T) : den (.met a f as) = metF (den a) f (den as) := by rw [den]
theorem den_new (c : Nat) (as : T) : den (.new c as) = newF c (den as) := by rw [den]
theorem den_clv (i : Nat) (as : T) : den (.clv i as) = clvF i (den as) := by rw [den]
theorem den_rgl (a b c : T) : den (.rgl a b c) = rglF (den a) (den b) (den c) := by rw [den]
theorem den_cp2 (elt t0 i0 f0 t1 i1 f1 : T) (own own1 : List Nat) : den (.cp2 elt t0 i0 f0 t1 i1 f1 own own1) = cp2F (den elt) (denT t0) (den i0) (den f0) (denT t1) (den i1) (den f1) own own1 := by rw [den]
theorem den_mtd (a : T) (m : Ms) (as : T) : den (.mtd a m as) = mtdF (den a) m (den as) := by rw [den]
mutual
theorem sndE (t : T) (sg : Sg) (e : Expr) (h : chkE g t sg e = true) {E : Env} {X : Cx} {K : Kx} {Z : WX} (A : Ag g cl E k sg X K Z) :
    (∀ bx, (bx = true → boxable t = true) → PE X e (tE K (xrel cl K) Z E (bxF bx (den t)))) ∧ PT X e (tT K (xrel cl K) Z E (den t)) := by
  have plain : plainT e = true → (∀ bx, (bx = true → boxable t = true) → PE X e (tE K (xrel cl K) Z E (bxF bx (den t)))) → (∀ bx, (bx = true → boxable t = true) → PE X e (tE K (xrel cl K) Z E (bxF bx (den t)))) ∧ PT X e (tT K (xrel cl K) Z E (den t)) := fun hp q =>
    ⟨q, pt_plain A.hK (q false nofun) (plainT_is hp X.env)⟩
  have both : boxable t = false → PE X e (tE K (xrel cl K) Z E (den t)) → PT X e (tT K (xrel cl K) Z E (den t)) → (∀ bx, (bx = true → boxable t = true) → PE X e (tE K (xrel cl K) Z E (bxF bx (den t)))) ∧ PT X e (tT K (xrel cl K) Z E (den t)) := fun hb q r => by
    refine ⟨fun bx hx => ?_, r⟩
    cases bx with
    | false => exact q
    | true => rw [hb] at hx; cases hx rfl
  have one : boxable t = false → plainT e = true → PE X e (tE K (xrel cl K) Z E (den t)) → (∀ bx, (bx = true → boxable t = true) → PE X e (tE K (xrel cl K) Z E (bxF bx (den t)))) ∧ PT X e (tT K (xrel cl K) Z E (den t)) := fun hb hp q =>
    both hb q (pt_plain A.hK q (plainT_is hp X.env))
  unfold chkE at h
  split at h
  · -- a name
    simp only [Bool.and_eq_true, Bool.not_eq_true', beq_iff_eq] at h
    obtain ⟨⟨⟨h1, h2⟩, h3⟩, h4⟩ := h
    exact one rfl rfl (by unfold den; exact pe_varF (by rw [A.hN]; exact h1) (A.vis h2) h3 (by simpa using h4))
  · rename_i n k' p q
    cases beq_iff_eq.mp h
    exact one rfl rfl (by unfold den; exact pe_conF pe_int fun H ρ => by unfold GR; rfl)
  · rename_i n k' p q
    cases beq_iff_eq.mp h
    exact one rfl rfl (by unfold den; exact pe_conF pe_bl fun H ρ => by unfold GR; rfl)
  · exact one rfl rfl (by unfold den; exact pe_conF pe_non fun H ρ => by unfold GR; rfl)
  · rename_i n k' p q
    have e := beq_iff_eq.mp h
    subst e
    exact one rfl rfl (by unfold den; exact pe_conF pe_str fun H ρ => by unfold GR; rfl)
  · rw [Bool.and_eq_true] at h
    obtain ⟨u, v, G, h1, h2, h3, h4⟩ := A.wld.glo _ _ (beq_iff_eq.mp h.1)
    have q := A.gl h.2
    exact one rfl rfl (by unfold den; exact pe_gloF (pe_glob q.1 h1 h2 q.2) (fun H ρ => by have := h4 K.y H ρ; rw [A.hK] at this; exact this) h3)
  · rename_i a x p
    have ih := sndE a sg x h A
    exact both rfl (by unfold den; exact pe_notF A.hK (ih.1 false nofun)) (by unfold den; exact pt_notF ih.2)
  · rename_i a x p
    have ih := sndE a sg x h A
    exact one rfl rfl (by unfold den; exact pe_negF (ih.1 false nofun))
  · rename_i op a b x o y p
    simp only [Bool.and_eq_true, beq_iff_eq] at h
    obtain ⟨⟨rfl, h1⟩, h2⟩ := h
    have i1 := (sndE a sg x h1 A).1 false nofun
    have i2 := (sndE b sg y h2 A).1 false nofun
    refine plain rfl fun bx hb => ?_
    unfold den
    cases bx with
    | false => exact pe_binF A.hK i1 i2
    | true =>
      have hb := hb rfl
      cases op <;> first | exact pe_addF A.hK true i1 i2 | exact pe_mulF A.hK true i1 i2 | (cases hb; done)
  · rename_i op a b x o y p
    simp only [Bool.and_eq_true, beq_iff_eq, Bool.not_eq_true'] at h
    obtain ⟨⟨⟨rfl, h0⟩, h1⟩, h2⟩ := h
    have i1 := (sndE a sg x h1 A).1 false nofun
    have i2 := (sndE b sg y h2 A).1 false nofun
    exact both rfl (by unfold den; exact pe_cmpF A.hK A.un i1 i2 h0) (by unfold den; exact pt_cmpF A.hK A.un i1 i2 h0)
  · rename_i o1 o2 a b c x p1 p2 y z p
    simp only [Bool.and_eq_true, beq_iff_eq, Bool.not_eq_true'] at h
    obtain ⟨⟨⟨⟨⟨rfl, rfl⟩, h0⟩, h1⟩, h2⟩, h3⟩ := h
    have i1 := (sndE a sg x h1 A).1 false nofun
    have i2 := (sndE b sg y h2 A).1 false nofun
    have i3 := (sndE c sg z h3 A).1 false nofun
    exact both rfl (by unfold den; exact pe_chnF A.hK A.un i1 i2 i3 h0) (by unfold den; exact pt_chnF A.hK A.un i1 i2 i3 h0)
  · rename_i a b x y r p
    rw [Bool.and_eq_true] at h
    have i1 := sndE a sg x h.1 A
    have i2 := sndO b .And sg (y :: r) p (by unfold chkO; cases r <;> exact h.2) A
    exact both rfl (by unfold den; exact pe_andF A.hK (i1.1 false nofun) i2.1) (by unfold den; exact (pw_andF i1.2 i2.2).pt)
  · rename_i a b x y r p
    rw [Bool.and_eq_true] at h
    have i1 := sndE a sg x h.1 A
    have i2 := sndO b .Or sg (y :: r) p (by unfold chkO; cases r <;> exact h.2) A
    exact both rfl (by unfold den; exact pe_orF A.hK (i1.1 false nofun) i2.1) (by unfold den; exact (pw_orF i1.2 i2.2).pt)
  · rename_i c a b z x y p
    simp only [Bool.and_eq_true] at h
    have i0 := sndE c sg z h.1.1 A
    have i1 := sndE a sg x h.1.2 A
    have i2 := sndE b sg y h.2 A
    exact both rfl (by unfold den; exact pe_ifeF i0.2 (i1.1 false nofun) (i2.1 false nofun)) (by unfold den; exact pt_ifeF i0.2 i1.2 i2.2)
  · rename_i a i x y p
    simp only [Bool.and_eq_true, Bool.not_eq_true'] at h
    have i1 := (sndE a sg x h.1.2 A).1 false nofun
    have i2 := (sndE i sg y h.2 A).1 false nofun
    exact one rfl rfl (by unfold den; exact pe_subF A.hK A.un i1 i2 (plain_ix h.1.1))
  · rename_i a lo hi x l u p2 p
    simp only [Bool.and_eq_true] at h
    have i1 := (sndE a sg x h.1.1 A).1 false nofun
    have i2 := sndP lo sg l (by unfold chkP; exact h.1.2) A
    have i3 := sndP hi sg u (by unfold chkP; exact h.2) A
    refine plain rfl fun bx _ => ?_
    unfold den
    exact pe_sliF A.hK bx i1 i2 i3 (part_ok _ _) (part_ok _ _)
  · rename_i as es k' p
    exact one rfl rfl (by unfold den; exact pe_tupF (sndLS as sg es h A))
  · rename_i as es p
    refine plain rfl fun bx _ => ?_
    unfold den
    exact pe_lstF bx (sndLS as sg es h A)
  · rename_i a x _ _ _ _ _
    refine plain rfl fun bx _ => ?_
    unfold den
    exact pe_slrF A.hK bx ((sndE a sg x h A).1 false nofun)
  · rename_i a f
    unfold ckFld at h
    split at h
    · rename_i o n p
      simp only [Bool.and_eq_true, beq_iff_eq] at h
      obtain ⟨⟨rfl, h1⟩, h2⟩ := h
      exact one rfl rfl (by rw [den_fld]; exact pe_fldF A.hK (by have := A.wld.cls; rw [A.hK]; rw [A.hK] at this; exact this) ((sndE a sg o h2 A).1 false nofun) (noSup_is h1 _ _ _))
    · cases h
  · rename_i a m
    unfold ckFld at h
    split at h
    · rename_i o n p
      simp only [Bool.and_eq_true, beq_iff_eq] at h
      obtain ⟨⟨rfl, h1⟩, h2⟩ := h
      exact one rfl rfl (by rw [den_bmv]; exact pe_bmvF (fun c i e => A.wld.mth c m i e) A.hK ((sndE a sg o h2 A).1 false nofun) (noSup_is h1 _ _ _))
    · cases h
  · rename_i a m r
    unfold ckMet at h
    split at h
    · rename_i o n ap cp
      simp only [Bool.and_eq_true, beq_iff_eq] at h
      obtain ⟨⟨⟨⟨⟨hc, rfl⟩, h1⟩, h2⟩, h4⟩, h5⟩ := h
      obtain ⟨c1, c2, c3, c4⟩ := A.calm hc
      refine one rfl rfl ?_
      cases r <;> first | (cases h5; done) | skip
      rw [den_met, den_nil]
      exact pe_metF0 (fun c i e => A.wld.mth c m i e) A.hK c3 c4 c2 ((sndE a sg o h4 A).1 false nofun) (noSup_is h1 _ _ _) (by rw [beq_iff_eq]; exact h2)
    · rename_i o n ap y es cp
      simp only [Bool.and_eq_true, beq_iff_eq] at h
      obtain ⟨⟨⟨⟨⟨⟨hc, rfl⟩, h1⟩, h2⟩, h3⟩, h4⟩, h5⟩ := h
      obtain ⟨c1, c2, c3, c4⟩ := A.calm hc
      refine one rfl rfl ?_
      rw [den_met]
      exact pe_metF (fun c i e => A.wld.mth c m i e) A.hK c3 c4 c2 ((sndE a sg o h4 A).1 false nofun) (sndL r sg (y :: es) h5 A) (noSup_is h1 _ _ _) (sndL_star _ sg (y :: es) h5) (by have := of_decide_eq_true h3; rw [List.length_cons]; omega) (by rw [beq_iff_eq]; exact h2)
    · cases h
  · rename_i c r
    unfold ckNew at h
    split at h
    · rename_i x p q
      simp only [Bool.and_eq_true, beq_iff_eq] at h
      obtain ⟨⟨⟨⟨hc, h1⟩, rfl⟩, h2⟩, h5⟩ := h
      obtain ⟨c1, c2, c3, c4⟩ := A.calm hc
      obtain ⟨i, hi, C⟩ := A.wld.ini c h2
      have gl := A.gl h1
      refine one rfl rfl ?_
      cases r <;> first | (cases h5; done) | skip
      rw [den_new, den_nil]
      exact pe_newF0 C hi A.hK c3 c4 c2 gl.1 gl.2
    · rename_i x p y es q
      simp only [Bool.and_eq_true, beq_iff_eq] at h
      obtain ⟨⟨⟨⟨hc, h1⟩, rfl⟩, h2⟩, h3⟩ := h
      obtain ⟨c1, c2, c3, c4⟩ := A.calm hc
      obtain ⟨i, hi, C⟩ := A.wld.ini c h2
      have gl := A.gl h1
      refine one rfl rfl ?_
      rw [den_new]
      exact pe_newF C hi A.hK c3 c4 c2 gl.1 (sndL r sg (y :: es) h3 A) gl.2 (sndL_star _ sg (y :: es) h3)
    · cases h
  · rename_i i r
    unfold ckClv at h
    split at h
    · rename_i x p q
      simp only [Bool.and_eq_true, Bool.not_eq_true', beq_iff_eq] at h
      obtain ⟨⟨⟨⟨⟨hc, h1⟩, h2⟩, h3⟩, h4⟩, h5⟩ := h
      obtain ⟨c1, c2, c3, c4⟩ := A.calm hc
      refine one rfl rfl ?_
      cases r <;> first | (cases h5; done) | skip
      rw [den_clv, den_nil]
      exact pe_clvF0 (fun c m f e => A.wld.mth c m f e) A.hK c3 c4 c2 (by rw [A.hN]; exact h1) (A.vis h2) h3 (by simpa using h4)
    · cases h
  · rename_i a b c
    unfold ckRgl at h
    split at h
    · rename_i x p x2 p2 y z u q2 q
      simp only [Bool.and_eq_true, Bool.not_eq_true', beq_iff_eq] at h
      obtain ⟨⟨⟨⟨⟨⟨⟨⟨⟨⟨rfl, rfl⟩, h1⟩, h2⟩, hc⟩, s1⟩, s2⟩, s3⟩, h3⟩, h4⟩, h5⟩ := h
      refine one rfl rfl ?_
      rw [den_rgl]
      exact pe_rglF (A.calm hc).1 s1 s2 s3 ((sndE a sg y h3 A).1 false nofun) ((sndE b sg z h4 A).1 false nofun) ((sndE c sg u h5 A).1 false nofun) (A.gl h2).1 (A.bltn (by decide +kernel)) (A.gl h1).1 (A.bltn (by decide +kernel))
    · cases h
  · rename_i elt t0 i0 f0 t1 i1 f1 own own1
    unfold ckCp2 at h
    split at h
    · rename_i x tg iter is tg1 iter1 is1 scope p
      simp only [Bool.and_eq_true] at h
      obtain ⟨⟨⟨⟨⟨⟨⟨⟨⟨⟨⟨⟨⟨⟨hc, h1⟩, h1'⟩, ha⟩, h2⟩, h3⟩, h4⟩, h4'⟩, h5⟩, h5'⟩, h6⟩, h6'⟩, h7⟩, h7'⟩, h8⟩ := h
      obtain ⟨c1, c2, c3, c4⟩ := A.calm hc
      have ok := blkOk_by h3
      have eo := ownP_ok h2
      refine one rfl rfl ?_
      rw [den_cp2]
      refine PE.imp (pe_lc2 (g := tgG K.K t0) (tt := tTx K.K (xrel cl) E (den f0)) (wi1 := tIx K.K (xrel cl) E (den i1)) (g1 := tgG K.K t1) (tt1 := tTx K.K (xrel cl) E (den f1)) (te := tEx K.K (xrel cl) E (den elt)) (vs1 := own1) c1 A.nd (sndI i0 sg tg iter h5 A) (by rw [A.hN, A.sc]; exact ok) (fun i hi => by rw [eo]; have := List.all_eq_true.mp ha i hi; simpa using this)
        (fun s H C cl' fp => ((tgChk_pg (A.blk hc ok.kind []) hc t0).1 tg h6).1) (fun s H C cl' fp => sndF f0 (sg.into scope) is (by unfold ckIf at h7; unfold chkF; exact h7) fun φ => A.blk hc ok.kind φ)
        (fun s H C cl' fp => pi_ex fun φ => sndI i1 (sg.into scope) tg1 iter1 h5' (A.blk hc ok.kind φ)) (fun s H C cl' fp => ((tgChk_pg (A.blk hc ok.kind []) hc t1).1 tg1 h6').1) (fun s H C cl' fp => sndF f1 (sg.into scope) is1 (by unfold ckIf at h7'; unfold chkF; exact h7') fun φ => A.blk hc ok.kind φ)
        (fun s H C cl' fp => pe_ex fun φ => (sndE elt (sg.into scope) x h8 (A.blk hc ok.kind φ)).1 false nofun) (notSet_is h4 X.env) (fun env x => notSet_is h4' env x)) fun σ H Q q => ?_
      rw [eo]
      exact lc2_wish c3 h1 h1' q
    · cases h
  · rename_i a x p y q
    simp only [Bool.and_eq_true, Bool.not_eq_true', beq_iff_eq] at h
    obtain ⟨⟨⟨rfl, h1⟩, h2⟩, h3⟩ := h
    exact one rfl rfl (by rw [den_rg, den_cns, den_nil]; exact pe_rg1F h2 ((sndE a sg y h3 A).1 false nofun) (A.gl h1).1 (A.bltn (by decide +kernel)))
  · rename_i a c x p y z q
    simp only [Bool.and_eq_true, Bool.not_eq_true', beq_iff_eq] at h
    obtain ⟨⟨⟨⟨⟨rfl, h1⟩, h2⟩, h3⟩, h4⟩, h5⟩ := h
    exact one rfl rfl (by rw [den_rg, den_cns, den_cns, den_nil]; exact pe_rg2F h2 h3 ((sndE a sg y h4 A).1 false nofun) ((sndE c sg z h5 A).1 false nofun) (A.gl h1).1 (A.bltn (by decide +kernel)))
  · rename_i a c x p y kk z kp q
    simp only [Bool.and_eq_true, Bool.not_eq_true', beq_iff_eq] at h
    obtain ⟨⟨⟨⟨⟨⟨rfl, rfl⟩, h1⟩, hc⟩, h2⟩, h3⟩, h4⟩ := h
    exact one rfl rfl (by rw [den_blt, den_cns, den_cns, den_nil]; exact pe_max0F A.hK (A.calm hc).1 A.un h2 ((sndE a sg y h3 A).1 false nofun) ((sndE c sg z h4 A).1 false nofun) (A.gl h1).1 (A.bltn (by decide +kernel)))
  · rename_i t'
    rw [Bool.and_eq_true] at h
    have ih := (sndE t' sg e h.2 A).1 true fun _ => h.1
    have hp : plainT e = true := by
      have h2 := h.2
      have h1 := h.1
      unfold chkE at h2
      split at h2 <;> first | rfl | (cases h2; done) | (cases h1; done)
    exact one rfl hp (by unfold den; exact ih)
  · rename_i f as
    unfold ckApp at h
    split at h
    · rename_i x p es q
      simp only [Bool.and_eq_true] at h
      obtain ⟨⟨⟨hc, h1⟩, h2⟩, h3⟩ := h
      obtain ⟨q', hq, e1, e2⟩ := find_fn h2
      obtain ⟨f', fd, ps, C, _⟩ := A.wld.fns q' hq
      rw [e1, e2] at C
      obtain ⟨c1, c2, c3, c4⟩ := A.calm hc
      have gl := A.gl h1
      cases es with
      | nil =>
        cases as <;> first | (cases h3; done) | skip
        exact one rfl rfl (by rw [den_app, den_nil]; exact pe_appN C A.hK c3 c2 c4 gl.1 gl.2)
      | cons y es =>
        have ns := sndL_star as sg (y :: es) h3
        simp only [List.any_cons, Bool.or_eq_false_iff] at ns
        exact one rfl rfl (by rw [den_app]; exact pe_appF C A.hK c3 c2 c4 gl.1 ns.1 (sndL as sg (y :: es) h3 A) gl.2 (tail_plain ns.2))
    · cases h
  · rename_i f p as x p' es kk ks q
    simp only [Bool.and_eq_true] at h
    obtain ⟨⟨⟨⟨hc, h1⟩, h2⟩, h3⟩, h4⟩ := h
    obtain ⟨q', hq, e1, e2⟩ := find_fn h2
    obtain ⟨f', fd, ps, C, kb⟩ := A.wld.fns q' hq
    rw [e1] at kb
    rw [e1, e2] at C
    have hb := kb _ (List.contains_iff_mem.mp h3)
    obtain ⟨c1, c2, c3, c4⟩ := A.calm hc
    have gl := A.gl h1
    refine one rfl rfl ?_
    unfold den
    obtain ⟨fa, fb, ed, pa, pk, l1, l2, ns, al, e8, e9⟩ := sndK as sg es (kk :: ks) h4 A
    obtain ⟨k1, k2, k3, k4⟩ := kw_facts (pos := q) (env := X.env) al
    rw [ed]
    cases es with
    | nil =>
      rw [e8 rfl]
      exact pe_apkF0 C hb A.hK c3 c2 c4 gl.1 pk rfl (by show Len _ (kwN _).length; rw [k3]; exact l2) k1 k2 gl.2 (by rw [k4]; rfl)
    | cons e es =>
      simp only [List.any_cons, Bool.or_eq_false_iff] at ns
      exact pe_apkF C hb A.hK c3 c2 c4 gl.1 ns.1 pa pk l1 (by show Len _ (kwN _).length; rw [k3]; exact l2) k1 k2 gl.2 (by rw [k4, Bool.or_false, star_no ns.1]; exact tail_plain ns.2)
  · rename_i a x p x2 p2 y q2 q
    simp only [Bool.and_eq_true, Bool.not_eq_true', beq_iff_eq] at h
    obtain ⟨⟨⟨⟨⟨⟨rfl, rfl⟩, h1⟩, h2⟩, hc⟩, h3⟩, h4⟩ := h
    have i1 := (sndE a sg y h4 A).1 false nofun
    exact one rfl rfl (by rw [den_blt, den_cns, den_nil]; exact pe_ssetF A.hK (A.calm hc).1 h3 i1 (A.gl h1).1 (A.bltn (by decide +kernel)) (A.gl h2).1 (A.bltn (by decide +kernel)))
  · rename_i a tys x p y te q
    simp only [Bool.and_eq_true, Bool.not_eq_true', beq_iff_eq] at h
    obtain ⟨⟨⟨⟨rfl, h1⟩, h2⟩, h3⟩, h4⟩ := h
    have i1 := (sndE a sg y h3 A).1 false nofun
    have gl := A.gl h1
    have bl := A.bltn (x := "isinstance") (by decide +kernel)
    refine one rfl rfl ?_
    unfold den
    split at h4
    · rename_i ty n p'
      obtain ⟨p1, p2, p3, p4⟩ := chkTy_pe A h4
      exact pe_isaF1 A.hK h2 p2 i1 p1 p3 (fun n hn => A.wld.kit n hn ty p4) gl.1 bl
    · rename_i ts kk tp
      rw [Bool.and_eq_true] at h4
      obtain ⟨q1, q2, q3, q4⟩ := chkTys_pa A h4.1
      refine pe_isaFT A.hK h2 i1 q1 q2 ?_ q4 gl.1 bl
      have := of_decide_eq_true h4.2
      rw [List.length_map, q3, sizeLine_eq]; omega
    · cases h4
  · rename_i i tys
    unfold ckExi at h
    split at h
    · rename_i x p n np te q
      simp only [Bool.and_eq_true, Bool.not_eq_true', beq_iff_eq] at h
      obtain ⟨⟨⟨⟨⟨⟨⟨rfl, h1⟩, h2⟩, h3⟩, h4⟩, h5⟩, h6⟩, h7⟩ := h
      obtain ⟨⟨j, c⟩, h8, h9⟩ := Option.map_eq_some_iff.mp h2
      simp only at h9
      subst h9
      obtain ⟨X0, a, oe, pn, ds, d, xd, C, e1, e2, e3, e4, e5, e6, e7⟩ := A.xn j c h8
      have gl := A.gl h1
      have bl := A.bltn (x := "isinstance") (by decide +kernel)
      refine one rfl rfl ?_
      unfold den
      split at h7
      · rename_i ts kk tp
        rw [Bool.and_eq_true] at h7
        obtain ⟨cs, us, q1, q2, q3, q4⟩ := chkXTs_pa A e4 h7.1
        exact pe_exiFT e1 e2 e3 e5 (A.wld.excC c C e4).1 e6 e7 (by rw [A.hN]; exact h3) (A.vis h4) h5 (by simpa using h6) q1 q2 (by rw [q3, sizeLine_eq]; have := of_decide_eq_true h7.2; omega) q4 gl.1 bl
      · split at h7
        · rename_i ty
          obtain ⟨v, u, v1, v2, v3, v4⟩ := chkXT_pe A e4 h7
          exact pe_exiF e1 e2 e3 e5 (A.wld.excC c C e4).1 e6 e7 (by rw [A.hN]; exact h3) (A.vis h4) h5 (by simpa using h6) v2 v1 v3 v4 gl.1 bl
        · cases h7
    · cases h
  · rename_i i n np f q
    simp only [Bool.and_eq_true, Bool.not_eq_true', beq_iff_eq] at h
    obtain ⟨⟨⟨⟨h2, h3⟩, h4⟩, h5⟩, h6⟩ := h
    split at h2
    · rename_i j c h8
      rw [Bool.and_eq_true, beq_iff_eq, beq_iff_eq] at h2
      obtain ⟨rfl, h2⟩ := h2
      obtain ⟨X0, a, oe, pn, ds, d, xd, C, e1, e2, e3, e4, e5, e6, e7⟩ := A.xn i c h8
      have hf := (A.wld.fld c).trans h2
      obtain ⟨z1, z2⟩ := A.wld.fldC c C f e4 hf
      exact one rfl rfl (by unfold den; exact pe_exfF e1 e2 e3 e5 hf z1 z2 e6 e7 (by rw [A.hN]; exact h3) (A.vis h4) h5 (by simpa using h6))
    · cases h2
  · rename_i b a x p y q _
    simp only [Bool.and_eq_true, Bool.not_eq_true', beq_iff_eq] at h
    obtain ⟨⟨⟨⟨h0, h1⟩, hc⟩, h2⟩, h3⟩ := h
    have i1 := (sndE a sg y h3 A).1 false nofun
    have gl := A.gl h1
    have cm := (A.calm hc).1
    refine plain rfl fun bx hb => ?_
    rw [den_blt, den_cns, den_nil]
    cases b <;> simp [bfName] at h0 <;> subst h0 <;> first
      | exact pe_bltF1 A.hK (.inl ⟨"list", rfl, boot_list⟩) (b1_list cm bx) h2 i1 gl.1 (A.bltn (by decide +kernel)) (by decide) gl.2
      | (cases bx with
        | true => cases hb rfl
        | false => first
          | exact pe_bltF1 A.hK (.inr ⟨"len", rfl, boot_len⟩) b1_len h2 i1 gl.1 (A.bltn (by decide +kernel)) (by decide) gl.2
          | exact pe_bltF1 A.hK (.inl ⟨"tuple", rfl, boot_tuple⟩) b1_tuple h2 i1 gl.1 (A.bltn (by decide +kernel)) (by decide) gl.2
          | exact pe_bltF1 A.hK (.inr ⟨"abs", rfl, boot_abs⟩) b1_abs h2 i1 gl.1 (A.bltn (by decide +kernel)) (by decide) gl.2
          | exact pe_bltF1 A.hK (.inl ⟨"int", rfl, boot_int⟩) b1_int h2 i1 gl.1 (A.bltn (by decide +kernel)) (by decide) gl.2
          | exact pe_bltF1 A.hK (.inl ⟨"str", rfl, boot_str⟩) b1_str h2 i1 gl.1 (A.bltn (by decide +kernel)) (by decide) gl.2
          | exact pe_bltF1 A.hK (.inr ⟨"all", rfl, boot_all⟩) (b1_all cm) h2 i1 gl.1 (A.bltn (by decide +kernel)) (by decide) gl.2
          | exact pe_bltF1 A.hK (.inr ⟨"any", rfl, boot_any⟩) (b1_any cm) h2 i1 gl.1 (A.bltn (by decide +kernel)) (by decide) gl.2
          | exact pe_bltF1 A.hK (.inr ⟨"sum", rfl, boot_sum⟩) (b1_sum cm) h2 i1 gl.1 (A.bltn (by decide +kernel)) (by decide) gl.2
          | exact pe_bltF1 A.hK (.inr ⟨"max", rfl, boot_max⟩) (b1_max cm) h2 i1 gl.1 (A.bltn (by decide +kernel)) (by decide) gl.2
          | exact pe_bltF1 A.hK (.inr ⟨"min", rfl, boot_min⟩) (b1_min cm) h2 i1 gl.1 (A.bltn (by decide +kernel)) (by decide) gl.2)
  · rename_i b a c x p y z q
    simp only [Bool.and_eq_true, Bool.not_eq_true', beq_iff_eq, Bool.or_eq_true] at h
    obtain ⟨⟨⟨⟨⟨⟨⟨h9, h0⟩, h1⟩, hc⟩, h2⟩, h3⟩, h4⟩, h5⟩ := h
    have i1 := (sndE a sg y h4 A).1 false nofun
    have i2 := (sndE c sg z h5 A).1 false nofun
    have gl := A.gl h1
    have cm := (A.calm hc).1
    rcases h9 with rfl | rfl
    · simp [bfName] at h0
      subst h0
      exact one rfl rfl (by rw [den_blt, den_cns, den_cns, den_nil]; exact pe_max2F A.hK cm h2 h3 i1 i2 gl.1 (A.bltn (by decide +kernel)))
    · simp [bfName] at h0
      subst h0
      exact one rfl rfl (by rw [den_blt, den_cns, den_cns, den_nil]; exact pe_min2F A.hK cm h2 h3 i1 i2 gl.1 (A.bltn (by decide +kernel)))
  · rename_i a m b o n ap y cp
    simp only [Bool.and_eq_true, Bool.not_eq_true', beq_iff_eq, Bool.or_eq_true] at h
    obtain ⟨⟨⟨⟨⟨h0, h1⟩, h2⟩, h3⟩, h4⟩, h5⟩ := h
    have i1 := (sndE a sg o h4 A).1 false nofun
    have i2 := (sndE b sg y h5 A).1 false nofun
    refine one rfl rfl ?_
    rw [den_mtd, den_cns, den_nil]
    rcases h0 with ((⟨rfl, rfl⟩ | ⟨rfl, rfl⟩) | ⟨rfl, rfl⟩) | ⟨rfl, rfl⟩
    · exact pe_appendF A.hK h3 i1 i2 (noCall_is h1 _ _ _) (by rw [beq_iff_eq]; exact h2)
    · exact pe_extendF A.hK h3 i1 i2 (noCall_is h1 _ _ _) (by rw [beq_iff_eq]; exact h2)
    · exact pe_popiF A.hK h3 i1 i2 (noCall_is h1 _ _ _) (by rw [beq_iff_eq]; exact h2)
    · exact pe_joinF A.hK h3 i1 i2 (noCall_is h1 _ _ _) (by rw [beq_iff_eq]; exact h2)
  · rename_i a m o n ap cp
    simp only [Bool.and_eq_true, Bool.not_eq_true', beq_iff_eq] at h
    obtain ⟨⟨⟨⟨rfl, rfl⟩, h1⟩, h2⟩, h4⟩ := h
    have i1 := (sndE a sg o h4 A).1 false nofun
    exact one rfl rfl (by rw [den_mtd, den_nil]; exact pe_popF A.hK i1 (noCall_is h1 _ _ _) (by rw [beq_iff_eq]; exact h2))
  · rename_i elt tgt it ifs own x tg iter is scope p
    simp only [Bool.and_eq_true] at h
    obtain ⟨⟨⟨⟨⟨⟨⟨⟨hc, h1⟩, h2⟩, h3⟩, h4⟩, h5⟩, h6⟩, h7⟩, h8⟩ := h
    obtain ⟨c1, c2, c3, c4⟩ := A.calm hc
    have ok := blkOk_by h3
    have eo := ownP_ok h2
    refine plain rfl fun bx hb => ?_
    unfold den
    have kk : X.K = K.K := A.hK
    refine PE.imp (pe_lc (g := tgG K.K tgt) (tt := tTx K.K (xrel cl) E (den ifs)) (te := tEx K.K (xrel cl) E (den elt)) c1 A.nd (sndI it sg tg iter h5 A) (by rw [A.hN, A.sc]; exact ok) (fun s H C cl' fp => ?_) (fun s H C cl' fp => ?_) (fun s H C cl' fp => ?_) (notSet_is h4 X.env)) fun σ H Q q => ?_
    · exact ((tgChk_pg (A.blk hc ok.kind []) hc tgt).1 tg h6).1
    · exact sndF ifs (sg.into scope) is (by unfold chkF; exact h7) fun φ => A.blk hc ok.kind φ
    · exact pe_ex fun φ => (sndE elt (sg.into scope) x h8 (A.blk hc ok.kind φ)).1 false nofun
    · rw [eo]
      exact lc_wish c3 A.wld.fuel h1 q
  · cases h
termination_by 2 * sizeOf t
decreasing_by all_goals (simp_wf; try first | omega | (have := ‹t = _›; rw [this]; simp; done) | (have := ‹t = _›; rw [this]; simp; omega))
theorem sndO (t : T) (op : BoolOp) (sg : Sg) (es : List Expr) (pos : Pos) (h : chkO g t op sg es pos = true) {E : Env} {X : Cx} {K : Kx} {Z : WX} (A : Ag g cl E k sg X K Z) :
    PE X (.BoolOp op es pos) (tE K (xrel cl K) Z E (den t)) ∧ PW X (.BoolOp op es pos) (tT K (xrel cl K) Z E (den t)) := by
  unfold chkO at h
  split at h
  · rename_i y
    have ih := sndE t sg y h A
    exact ⟨pe_one (ih.1 false nofun), by cases op; exact pw_and1 ih.2; exact pw_or1 ih.2⟩
  · cases op with
    | And =>
      obtain ⟨a, b, x, y, r, rfl, rfl, h1, h2⟩ := and_inv h
      have i1 := sndE a sg x h1 A
      have i2 := sndO b .And sg (y :: r) pos h2 A
      exact ⟨by unfold den; exact pe_andF A.hK (i1.1 false nofun) i2.1, by unfold den; exact pw_andF i1.2 i2.2⟩
    | Or =>
      obtain ⟨a, b, x, y, r, rfl, rfl, h1, h2⟩ := or_inv h
      have i1 := sndE a sg x h1 A
      have i2 := sndO b .Or sg (y :: r) pos h2 A
      exact ⟨by unfold den; exact pe_orF A.hK (i1.1 false nofun) i2.1, by unfold den; exact pw_orF i1.2 i2.2⟩
termination_by 2 * sizeOf t + 1
decreasing_by all_goals (simp_wf; try first | omega | (have := ‹t = _›; rw [this]; simp; done) | (have := ‹t = _›; rw [this]; simp; omega))
theorem sndP (t : T) (sg : Sg) (o : Option Expr) (h : chkP g t sg o = true) {E : Env} {X : Cx} {K : Kx} {Z : WX} (A : Ag g cl E k sg X K Z) : PO X o (tO (K := K) (ξ := xrel cl K) (Z := Z) (E := E) (partF t (den t))) := by
  unfold chkP at h
  split at h
  · cases t <;> first | exact po_noF | (cases h; done)
  · rename_i e
    rw [Bool.and_eq_true, Bool.not_eq_true'] at h
    exact po_someF (fun z => by rw [z] at h; cases h.1) ((sndE t sg e h.2 A).1 false nofun)
termination_by 2 * sizeOf t + 1
decreasing_by all_goals (simp_wf; try first | omega | (have := ‹t = _›; rw [this]; simp; done) | (have := ‹t = _›; rw [this]; simp; omega))
theorem sndL (t : T) (sg : Sg) (es : List Expr) (h : chkL g t sg es = true) {E : Env} {X : Cx} {K : Kx} {Z : WX} (A : Ag g cl E k sg X K Z) : PA X es (tL K (xrel cl K) Z E (den t)) := by
  unfold chkL at h
  split at h
  · unfold den; exact pa_nilF
  · rename_i a r e es
    simp only [Bool.and_eq_true, Bool.not_eq_true'] at h
    unfold den
    exact pa_consF h.1.1 ((sndE a sg e h.1.2 A).1 false nofun) (sndL r sg es h.2 A)
  · cases h
termination_by 2 * sizeOf t + 1
decreasing_by all_goals (simp_wf; try first | omega | (have := ‹t = _›; rw [this]; simp; done) | (have := ‹t = _›; rw [this]; simp; omega))
theorem sndLS (t : T) (sg : Sg) (es : List Expr) (h : chkLS g t sg es = true) {E : Env} {X : Cx} {K : Kx} {Z : WX} (A : Ag g cl E k sg X K Z) : PA X es (tL K (xrel cl K) Z E (den t)) := by
  unfold chkLS at h
  split at h
  · unfold den; exact pa_nilF
  · rename_i a r e es
    simp only [Bool.and_eq_true, Bool.not_eq_true'] at h
    unfold den
    exact pa_consF h.1.1 ((sndE a sg e h.1.2 A).1 false nofun) (sndLS r sg es h.2 A)
  · rename_i a r e _ es
    rw [Bool.and_eq_true] at h
    unfold den
    exact pa_staF A.hK ((sndE a sg e h.1 A).1 false nofun) (sndLS r sg es h.2 A)
  · cases h
termination_by 2 * sizeOf t + 1
decreasing_by all_goals (simp_wf; try first | omega | (have := ‹t = _›; rw [this]; simp; done) | (have := ‹t = _›; rw [this]; simp; omega))
theorem sndL_star (t : T) (sg : Sg) (es : List Expr) (h : chkL g t sg es = true) : es.any isStar = false := by
  unfold chkL at h
  split at h
  · rfl
  · rename_i a r e es
    simp only [Bool.and_eq_true, Bool.not_eq_true'] at h
    simp only [List.any_cons, h.1.1, Bool.false_or]
    exact sndL_star r sg es h.2
  · cases h
theorem sndK (t : T) (sg : Sg) (es : List Expr) (ks : List Keyword) (h : chkK g t sg es ks = true) {E : Env} {X : Cx} {K : Kx} {Z : WX} (A : Ag g cl E k sg X K Z) :
    ∃ fa fb, den t = appL fa fb ∧ PA X es (tL K (xrel cl K) Z E fa) ∧ PK X ks (tL K (xrel cl K) Z E fb) ∧ Len fa es.length ∧ Len fb ks.length ∧ es.any isStar = false ∧ ks.all (·.arg.isSome) = true ∧ (es = [] → fa = nilF) ∧ appL nilF fb = fb := by
  unfold chkK at h
  split at h
  · exact ⟨nilF, nilF, by unfold den; rfl, pa_nilF, pk_nilF (ξ := xrel cl), len_nil, len_nil, rfl, rfl, fun _ => rfl, rfl⟩
  · rename_i a r e es
    simp only [Bool.and_eq_true, Bool.not_eq_true'] at h
    obtain ⟨fa, fb, e1, e2, e3, e4, e5, e6, e7, e8, e9⟩ := sndK r sg es ks h.2 A
    exact ⟨cnsF (den a) fa, fb, by rw [den_cns, e1, appL_cns], pa_consF h.1.1 ((sndE a sg e h.1.2 A).1 false nofun) e2, e3, len_cns e4, e5, by simp [h.1.1, e6], e7, (fun z => by cases z), e9⟩
  · rename_i a r kk ks
    simp only [Bool.and_eq_true] at h
    obtain ⟨fa, fb, e1, e2, e3, e4, e5, e6, e7, e8, e9⟩ := sndK r sg [] ks h.2 A
    obtain ⟨nm, v, kp⟩ := kk
    have e0 := e8 rfl
    subst e0
    exact ⟨nilF, cnsF (den a) fb, by rw [den_cns, e1, e9, appL_nil_cns], pa_nilF, pk_consF (ξ := xrel cl) ((sndE a sg v h.1.2 A).1 false nofun) e3, len_nil, len_cns e5, rfl, by simp [h.1.1, e7], fun _ => rfl, appL_nil_cns⟩
  · cases h
termination_by 2 * sizeOf t
decreasing_by all_goals (simp_wf; try first | omega | (have := ‹t = _›; rw [this]; simp; done) | (have := ‹t = _›; rw [this]; simp; omega))
theorem sndF (t : T) (sg : Sg) (es : List Expr) (h : chkF g t sg es = true) {E : Env} {X : Cx} {K : Kx} (A : ∀ φ, Ag g cl E k sg X ⟨K.K, φ, none⟩ noZ) : PTs X es (tTx K.K (xrel cl) E (den t)) := by
  unfold chkF at h
  split at h
  · unfold isTT at h
    split at h
    · unfold den; exact pts_noF
    · cases h
  · rename_i e
    exact pts_one (pt_ex fun φ => (sndE t sg e h (A φ)).2)
  · cases h
termination_by 2 * sizeOf t + 1
decreasing_by all_goals (simp_wf; try first | omega | (have := ‹t = _›; rw [this]; simp; done) | (have := ‹t = _›; rw [this]; simp; omega))
theorem sndI (t : T) (sg : Sg) (tg e : Expr) (h : chkI g t sg tg e = true) {E : Env} {X : Cx} {K : Kx} {Z : WX} (A : Ag g cl E k sg X K Z) : PI X tg e (tI K (xrel cl K) Z E (den t)) := by
  unfold chkI at h
  split at h
  · rename_i a
    unfold den; exact pi_itxF A.hK ((sndE a sg e h A).1 false nofun)
  · rename_i a x p y q
    simp only [Bool.and_eq_true, Bool.not_eq_true', beq_iff_eq] at h
    obtain ⟨⟨⟨rfl, h1⟩, h2⟩, h3⟩ := h
    unfold den; exact pi_rng1F h2 ((sndE a sg y h3 A).1 false nofun) (A.gl h1).1 (A.bltn (by decide +kernel))
  · rename_i a b x p y z q
    simp only [Bool.and_eq_true, Bool.not_eq_true', beq_iff_eq] at h
    obtain ⟨⟨⟨⟨⟨rfl, h1⟩, h2⟩, h3⟩, h4⟩, h5⟩ := h
    unfold den; exact pi_rng2F h2 h3 ((sndE a sg y h4 A).1 false nofun) ((sndE b sg z h5 A).1 false nofun) (A.gl h1).1 (A.bltn (by decide +kernel))
  · rename_i a b c x p y z u q
    simp only [Bool.and_eq_true, Bool.not_eq_true', beq_iff_eq] at h
    obtain ⟨⟨⟨⟨⟨⟨⟨rfl, h1⟩, h2⟩, h3⟩, h3'⟩, h4⟩, h5⟩, h6⟩ := h
    unfold den; exact pi_rng3F h2 h3 h3' ((sndE a sg y h4 A).1 false nofun) ((sndE b sg z h5 A).1 false nofun) ((sndE c sg u h6 A).1 false nofun) (A.gl h1).1 (A.bltn (by decide +kernel))
  · rename_i a es kk tp x p y q
    simp only [Bool.and_eq_true, Bool.not_eq_true', beq_iff_eq] at h
    obtain ⟨⟨⟨rfl, h1⟩, h2⟩, h3⟩ := h
    unfold den; exact pi_iteF A.hK h2 ((sndE a sg y h3 A).1 false nofun) (A.gl h1).1 (A.bltn (by decide +kernel))
  · rename_i a b es kk tp x p y z q
    simp only [Bool.and_eq_true, Bool.not_eq_true', beq_iff_eq] at h
    obtain ⟨⟨⟨⟨⟨rfl, h1⟩, h2⟩, h3⟩, h4⟩, h5⟩ := h
    unfold den; exact pi_itzF A.hK h2 h3 ((sndE a sg y h4 A).1 false nofun) ((sndE b sg z h5 A).1 false nofun) (A.gl h1).1 (A.bltn (by decide +kernel))
  · cases h
termination_by 2 * sizeOf t + 1
decreasing_by all_goals (simp_wf; try first | omega | (have := ‹t = _›; rw [this]; simp; done) | (have := ‹t = _›; rw [this]; simp; omega))
end
end
end Pv
set_option Elab.async false
set_option linter.all false
set_option maxRecDepth 100000
set_option maxHeartbeats 2000000
namespace Pv
open PySem L2 PySem.Spec PyProof.Rows
variable {g : Gm} {cl : Cl} {E : Env} {k : Nat} {sg : Sg} {X : Cx} {K : Kx} {Z : WX}
theorem swap_key {env : PySem.Env} {ts vs : List Expr} {k1 k2 : Nat} {p1 p2 : Pos} : swappedStores [.Tuple ts k1 p1] (.Tuple vs k2 p2) env =
    if (!(ts.length == 2 || ts.length == 3) || vs.length != ts.length || env.blockKind != .function) = true then pure none
    else if vs.any isStar = true then pure none
    else if ((swN env.scope ts).length != ts.length || (swN env.scope ts).eraseDups.length != (swN env.scope ts).length) = true then pure none
    else if vs.all (foldedForSure 8) = true then pure none
    else if vs.all (constantsAlone 8) = true then (do unsupported "assign.tuple-of-constant-expressions:order-of-the-stores"; pure (some (swN env.scope ts)))
    else pure (some (swN env.scope ts)) := by
  unfold swappedStores
  rfl
theorem swC0 (A : Ag g cl E k sg X K Z) {ts vs : List Expr} {k1 k2 : Nat} {p1 p2 : Pos} (h : swC sg.sc ts vs = 0) : swappedStores [.Tuple ts k1 p1] (.Tuple vs k2 p2) X.env = pure none := by
  rw [swap_key, A.bk, A.sc]
  unfold swC at h
  have e : (ScopeKind.function != ScopeKind.function) = false := rfl
  rw [e, Bool.or_false]
  split
  · rfl
  · rename_i h1
    rw [if_neg h1] at h
    split
    · rfl
    · rename_i h2
      rw [if_neg h2] at h
      split
      · rfl
      · rename_i h3
        rw [if_neg h3] at h
        split
        · rfl
        · rename_i h4
          rw [if_neg h4] at h
          split at h <;> cases h
theorem swC1 (A : Ag g cl E k sg X K Z) {ts vs : List Expr} {k1 k2 : Nat} {p1 p2 : Pos} (h : swC sg.sc ts vs = 1) : swappedStores [.Tuple ts k1 p1] (.Tuple vs k2 p2) X.env = pure (some (swN sg.sc ts)) ∧ (swN sg.sc ts).length = ts.length := by
  rw [swap_key, A.bk, A.sc]
  unfold swC at h
  have e : (ScopeKind.function != ScopeKind.function) = false := rfl
  rw [e, Bool.or_false]
  split at h
  · cases h
  · rename_i h1
    rw [if_neg h1]
    split at h
    · cases h
    · rename_i h2
      rw [if_neg h2]
      split at h
      · cases h
      · rename_i h3
        rw [if_neg h3]
        split at h
        · cases h
        · rename_i h4
          rw [if_neg h4]
          split at h
          · cases h
          · rename_i h5
            rw [if_neg h5]
            refine ⟨rfl, ?_⟩
            simp only [Bool.or_eq_true, bne_iff_ne, ne_eq, not_or, Decidable.not_not] at h3
            exact h3.1
theorem swL_is (A : Ag g cl E k sg X K Z) {n : PySem.Str} {tp p : Pos} {x : Expr} {gs : List Comprehension} {s : PySem.Scope} {l : Nat} : swapsWith (.ListComp x gs s p) (some (.Name n tp)) l X.env = pure (swL sg n tp s p) := by
  unfold swapsWith swL
  simp only [A.bk, Env.kindOf, A.sc]
  rfl
theorem sw_name {n : PySem.Str} {tp : Pos} {v : Expr} {env : PySem.Env} : swappedStores [.Name n tp] v env = pure none := by
  cases v <;> rfl
theorem sw_sub {o i : Expr} {tp : Pos} {v : Expr} {env : PySem.Env} : swappedStores [.Subscript o i tp] v env = pure none := by
  cases v <;> rfl
theorem sw_notup {es : List Expr} {kk : Nat} {tp : Pos} {v : Expr} {env : PySem.Env} (h : isTup v = false) : swappedStores [.Tuple es kk tp] v env = pure none := by
  cases v <;> first | rfl | (cases h; done)
theorem swN2 {sc : PySem.Scope} {x y : PySem.Str} {px py : Pos} (h : (swN sc [.Name x px, .Name y py]).length = 2) : swN sc [.Name x px, .Name y py] = [x, y] ∧ sc.names.lookup x = some .local ∧ sc.names.lookup y = some .local := by
  unfold swN at h ⊢
  simp only [List.filterMap_cons, List.filterMap_nil] at h ⊢
  split at h <;> split at h <;> simp at h
  rename_i h1 _ _ h2
  split at h1 <;> cases h1
  split at h2 <;> cases h2
  rename_i c1 c2
  simp only [Bool.and_eq_true, beq_iff_eq] at c1 c2
  refine ⟨?_, c1.1, c2.1⟩
  simp [c1.1, c2.1, c1.2, c2.2]
theorem swN3 {sc : PySem.Scope} {x y z : PySem.Str} {px py pz : Pos} (h : (swN sc [.Name x px, .Name y py, .Name z pz]).length = 3) : swN sc [.Name x px, .Name y py, .Name z pz] = [x, y, z] ∧ sc.names.lookup x = some .local ∧ sc.names.lookup y = some .local ∧ sc.names.lookup z = some .local := by
  unfold swN at h ⊢
  simp only [List.filterMap_cons, List.filterMap_nil] at h ⊢
  split at h <;> split at h <;> split at h <;> simp at h
  rename_i h1 _ _ h2 _ _ h3
  split at h1 <;> cases h1
  split at h2 <;> cases h2
  split at h3 <;> cases h3
  rename_i c1 c2 c3
  simp only [Bool.and_eq_true, beq_iff_eq] at c1 c2 c3
  refine ⟨?_, c1.1, c2.1, c3.1⟩
  simp [c1.1, c2.1, c3.1, c1.2, c2.2, c3.2]
theorem Ag.noz (A : Ag g cl E k sg X K Z) (hc : sg.calm = true) : Ag g cl E k sg X K noZ :=
  ⟨A.wld, A.hK, A.hN, A.nd, A.sc, A.bk, A.fn, A.un, fun h => ⟨(A.calm h).1, (A.calm h).2.1, (A.calm h).2.2.1, fun u s' ⟨_, _, _, _, _, _, _, _, _, _, _, _, _, _, _, _, z⟩ => z.elim⟩, A.stm, A.xn⟩
theorem Ag.tr (A : Ag g cl E k sg X K Z) (hc : sg.calm = true) {W : WX} {pn : List (Addr × Obj)} {xe : Value → Shared → Prop} (tk : Takes (X.tr pn xe) W) (hp : PassesOwn (model X.prog X.w) X.A X.env xe) : Ag g cl E k sg (X.tr pn xe) K W :=
  ⟨A.wld, A.hK, A.hN, A.nd, A.sc, A.bk, A.fn, A.un, fun h => ⟨(A.calm h).1, (A.calm h).2.1, (A.calm h).2.2.1, tk⟩, fun h => ⟨hp, (A.stm h).2⟩, fun i c h => by
    have := (A.calm hc).2.2.1
    obtain ⟨X0, a, oe, pn, ds, d, xd, C', e, q, _⟩ := A.xn i c h
    rw [this] at q; cases q⟩
theorem Ag.suite (A : Ag g cl E k sg X K Z) {i : Nat} {a : Addr} {oe : Obj} {pn : List (Addr × Obj)} {cls : Value} {d : Option Addr} {c : Nat} {ds : List D} {xd : Option (Addr × PySem.Str × G)} (hz : Zc cls d oe) (hd : ∃ vs, oe.data = .fields vs) (hx : xm cl c ds cls d xd) :
    Ag g cl { E with cur := some (c, ds) } k { sg with calm := false, stm := false, xn := some (i, c) } (X.suite a ((a, oe) :: pn)) ⟨K.K, K.y.φ, some (i, a, xd)⟩ noZ := by
  obtain ⟨C, hC, rfl, hx⟩ := hx
  exact ⟨A.wld.cur, A.hK, A.hN, A.nd, A.sc, A.bk, A.fn, A.un, nofun, nofun, fun j e => by
    intro z
    cases z
    exact ⟨X, a, oe, pn, ds, d, xd, C, rfl, rfl, rfl, hC, hx, hz, hd⟩⟩
theorem Ag.bare (A : Ag g cl E k sg X K Z) {a : Addr} {oe : Obj} {pn : List (Addr × Obj)} : Ag g cl { E with cur := none } k { sg with calm := false, stm := false, xn := none } (X.suite a ((a, oe) :: pn)) K noZ :=
  ⟨A.wld.cur, A.hK, A.hN, A.nd, A.sc, A.bk, A.fn, A.un, nofun, nofun, nofun⟩
theorem tame_onV {o : Out} {f : D → Hp → Out} (h : ∀ d h, Tame (f d h)) : Tame (o.onV f) := by
  cases o <;> first | exact h _ _ | exact ⟨fun _ _ => ⟨nofun, nofun⟩, nofun⟩
theorem tame_ts {fa fi : F} (d : D) (E : Env) (s : St) (h : Hp) : Tame (tsT fa fi d E s h) := by
  unfold tsT
  refine tame_onV fun x h => tame_onV fun i h => ?_
  split <;> exact ⟨fun _ _ => ⟨nofun, nofun⟩, nofun⟩
theorem den_tup (as : T) : den (.tup as) = tupF (den as) := by rw [den]
theorem den_asg (t e : T) : den (.asg t e) = asgF (denT t) (den e) := by rw [den]
theorem den_cpr (elt tgt it ifs : T) (own : List Nat) : den (.cpr elt tgt it ifs own) = cprF (den elt) (denT tgt) (den it) (den ifs) own := by rw [den]
theorem den_box (t : T) : den (.box t) = boxF (den t) := by rw [den]
/-- a comprehension that goes to a name by itself -/
theorem ps_lcF {t : T} {v : Expr} {bx : Bool} {i : Nat} {n : PySem.Str} {np : Pos} {pos : Pos} (A : Ag g cl E k sg X K Z) (hc : sg.calm = true) (hcp : isCpr t = true) (h : chkE g t sg v = true) (hi : sg.N[i]? = some n) (hl : sg.sc.names.lookup n = some .local) (hs : swV sg n np v = true) :
    PS X (.Assign [.Name n np] v pos) (tS K (xrel cl K) Z E (asgF (tnT i) (bxF bx (den t)))) := by
  unfold chkE at h
  split at h <;> first | (cases hcp; done) | skip
  all_goals first | (cases h; done) | skip
  rename_i elt tgt it ifs own x tg iter is scope p
  simp only [Bool.and_eq_true] at h
  obtain ⟨⟨⟨⟨⟨⟨⟨⟨_, h1⟩, h2⟩, h3⟩, h4⟩, h5⟩, h6⟩, h7⟩, h8⟩ := h
  obtain ⟨c1, c2, c3, c4⟩ := A.calm hc
  have ok := blkOk_by h3
  have eo := ownP_ok h2
  have hs : swL sg n np scope p = true := hs
  rw [den_cpr]
  refine PS.imp (ps_setLc (g := tgG K.K tgt) (tt := tTx K.K (xrel cl) E (den ifs)) (te := tEx K.K (xrel cl) E (den elt)) c1 A.nd (i := i) (by rw [A.hN]; exact hi) (by rw [A.sc]; exact hl) (by rw [swL_is A, hs]) (sndI it sg tg iter h5 A) (by rw [A.hN, A.sc]; exact ok) (fun s H C cl' fp => ?_) (fun s H C cl' fp => ?_) (fun s H C cl' fp => ?_) (notSet_is h4 X.env)) fun Dn σ H ⟨ρ, s, h, sr, hr, af⟩ => ?_
  · exact ((tgChk_pg (A.blk hc ok.kind []) hc tgt).1 tg h6).1
  · exact sndF ifs (sg.into scope) is h7 fun φ => A.blk hc ok.kind φ
  · exact pe_ex fun φ => (sndE elt (sg.into scope) x h8 (A.blk hc ok.kind φ)).1 false nofun
  · rw [eo]
    refine lc_wish c3 A.wld.fuel h1 (Z := Z) ⟨ρ, s, h, sr, hr, After.mono (AfterS.bindV sr af) fun v H1 ⟨ρ1, d, h1, x1, hr1, dr1, af1⟩ => ?_⟩
    exact af1 _ ρ1 H1 Ext.refl hr1 ((sr.ext x1).set i dr1)
/-! ### targets: names, o.f, o[i] -/
theorem den_tn (i : Nat) : denT (.tn i) = tnT i := by rw [denT]
theorem den_tf (a : T) (f : Nat) : denT (.tf a f) = tfT (den a) f := by rw [denT]
theorem den_ts (a i : T) : denT (.ts a i) = tsT (den a) (den i) := by rw [denT]
theorem den_tcns (t r : T) : denTs (.cns t r) = conT (denT t) (denTs r) := by
  funext ds E s h
  cases ds <;> simp [denTs, conT]
theorem den_tnil : denTs .nil = ttNil := by rw [denTs]
theorem tame_tf {fa : F} {f : Nat} (d : D) (E : Env) (s : St) (h : Hp) : Tame (tfT fa f d E s h) := by
  unfold tfT
  refine tame_onV fun x h => ?_
  split
  · split
    · split <;> exact ⟨fun _ _ => ⟨nofun, nofun⟩, nofun⟩
    · exact ⟨fun _ _ => ⟨nofun, nofun⟩, nofun⟩
  · exact ⟨fun _ _ => ⟨nofun, nofun⟩, nofun⟩
theorem attr_no {v o : Expr} {n : PySem.Str} {tp : Pos} {l : Nat} {env : PySem.Env} : swapsWithSole [.Attribute o n tp] v l env = pure false := by
  show swapsWith v (some (.Attribute o n tp)) l env = pure false
  cases v <;> rfl
theorem sw_attr {o : Expr} {n : PySem.Str} {tp : Pos} {v : Expr} {env : PySem.Env} : swappedStores [.Attribute o n tp] v env = pure none := by
  cases v <;> rfl
theorem sndG (A : Ag g cl E k sg X K noZ) {t : T} {e : Expr} (h : chkG g t sg e = true) : PG X e (tG K E (denT t)) ∧ isStar e = false ∧ ∀ d (E : Env) s h, Tame (denT t d E s h) := by
  unfold chkG at h
  split at h
  · rename_i i x p
    rw [Bool.and_eq_true, beq_iff_eq] at h
    have q := A.put h.2
    rw [den_tn]
    exact ⟨pg_nameF A.nd (by rw [A.hN]; exact h.1) q.1 q.2, rfl, fun d E s h => tame_tn _ d E s h⟩
  · rename_i a f o n p
    rw [Bool.and_eq_true, beq_iff_eq] at h
    obtain ⟨rfl, h⟩ := h
    rw [den_tf]
    exact ⟨pg_fldF A.hK (by have := A.wld.cls; exact this) ((sndE a sg o h A).1 false nofun), rfl, fun d E s h => tame_tf d E s h⟩
  · rename_i a i o y p
    simp only [Bool.and_eq_true, Bool.not_eq_true'] at h
    rw [den_ts]
    exact ⟨pg_subF h.1.1 A.hK A.un ((sndE a sg o h.1.2 A).1 false nofun) ((sndE i sg y h.2 A).1 false nofun), rfl, fun d E s h => tame_ts d E s h⟩
  · cases h
theorem tgs_len {g : Gm} {sg : Sg} {K : Kx} : ∀ {t : T} {es : List Expr}, chkGs g t sg es = true → ∀ ds (E : Env) s h (Q : L2.St → L2.Hp → Prop) ρ H, AfterG K ρ H Q (denTs t ds E s h) → ds.length = es.length := by
  intro t
  induction t with
  | nil =>
    intro es h ds E s h Q ρ H q
    cases es with
    | cons e r => cases h
    | nil =>
      rw [den_tnil] at q
      unfold ttNil at q
      cases ds with
      | nil => rfl
      | cons d r => exact False.elim q
  | cns t r _ ih =>
    intro es h ds E s h2 Q ρ H q
    cases es with
    | nil => cases h
    | cons e es =>
      unfold chkGs at h
      rw [Bool.and_eq_true] at h
      rw [den_tcns] at q
      unfold conT at q
      cases ds with
      | nil => exact False.elim q
      | cons d ds =>
        dsimp only at q
        generalize denT t d E s h2 = o at q
        cases o <;> first | exact False.elim q | skip
        simp only [Out.onN] at q
        rw [List.length_cons, List.length_cons, ih h.2 _ _ _ _ _ _ _ q]
  | _ => intro es h; cases es <;> cases h
theorem sndGs (A : Ag g cl E k sg X K noZ) : ∀ {t : T} {es : List Expr}, chkGs g t sg es = true → PGs X es (tGs K E (denTs t)) ∧ es.any isStar = false ∧ ∀ ds (E : Env) s h, Tame (denTs t ds E s h) := by
  intro t
  induction t with
  | nil =>
    intro es h
    cases es with
    | cons e r => cases h
    | nil =>
      rw [den_tnil]
      refine ⟨pgs_nilF, rfl, fun ds E s h => ?_⟩
      unfold ttNil
      split <;> exact ⟨fun _ _ => ⟨nofun, nofun⟩, nofun⟩
  | cns t r _ ih =>
    intro es h
    cases es with
    | nil => cases h
    | cons e es =>
      unfold chkGs at h
      rw [Bool.and_eq_true] at h
      obtain ⟨a1, a2, a3⟩ := sndG A h.1
      obtain ⟨b1, b2, b3⟩ := ih h.2
      rw [den_tcns]
      refine ⟨pgs_consF a2 a1 b1 a3, by simp [a2, b2], fun ds E s h => ?_⟩
      unfold conT
      cases ds with
      | nil => exact ⟨fun _ _ => ⟨nofun, nofun⟩, nofun⟩
      | cons d ds =>
        have := a3 d E s h
        dsimp only
        generalize denT t d E s h = o at this
        cases o <;> first | exact b3 _ _ _ _ | exact this
  | _ => intro es h; cases es <;> cases h
end Pv
set_option Elab.async false
set_option linter.all false
set_option maxRecDepth 100000
set_option maxHeartbeats 4000000
namespace Pv
open PySem L2 PySem.Spec PyProof.Rows
section
variable {g : Gm} {cl : Cl} {k : Nat}
theorem lc_no {sg : Sg} {E : Env} {X : Cx} {K : Kx} {Z : WX} (A : Ag g cl E k sg X K Z) {x : PySem.Str} {tp : Pos} {v : Expr} {l : Nat} (h1 : notSD v = true) (h2 : swV sg x tp v = false) : swapsWithSole [.Name x tp] v l X.env = pure false := by
  show swapsWith v (some (.Name x tp)) l X.env = pure false
  cases v <;> first | rfl | (cases h1; done) | skip
  rw [swL_is A]
  have h2 : swL sg x tp _ _ = false := h2
  rw [h2]
theorem sub_no {v : Expr} {o i : Expr} {tp : Pos} {l : Nat} {env : PySem.Env} : swapsWithSole [.Subscript o i tp] v l env = pure false := by
  show swapsWith v (some (.Subscript o i tp)) l env = pure false
  cases v <;> rfl
theorem tup_no {v : Expr} {es : List Expr} {kk : Nat} {tp : Pos} {l : Nat} {env : PySem.Env} : swapsWithSole [.Tuple es kk tp] v l env = pure false := by
  show swapsWith v (some (.Tuple es kk tp)) l env = pure false
  cases v <;> rfl
theorem par_ok {sg : Sg} {E : Env} {X : Cx} {K : Kx} {Z : WX} (A : Ag g cl E k sg X K Z) (hc : sg.calm = true) {ts e : T} {es : List Expr} {v : Expr} {kk : Nat} {tp pos : Pos} (ht : tgChk sg (.tt ts) (.Tuple es kk tp) = true) (he : chkE g e sg v = true) (hp : parOk sg ts es e v = true) :
    PS X (.Assign [.Tuple es kk tp] v pos) (tS K (xrel cl K) Z E (asgF (denT (.tt ts)) (den e))) := by
  have ie := (sndE e sg v he A).1 false nofun
  have pg := ((tgChk_pg A hc (.tt ts)).1 _ ht).1
  have ok := (tgChk_ok (.tt ts)).1 _ ht
  have plain : swappedStores [.Tuple es kk tp] v X.env = pure none → PS X (.Assign [.Tuple es kk tp] v pos) (tS K (xrel cl K) Z E (asgF (denT (.tt ts)) (den e))) := fun hw =>
    ps_asgF ie (pg_tgF ok pg) (fun d s h => (tg_nxt (.tt ts)).1 ok d E s h) tup_no hw rfl
  by_cases hT : isTup v = true
  · cases v <;> first | (cases hT; done) | skip
    rename_i vs k2 p2
    simp only [parOk, Bool.or_eq_true, Bool.and_eq_true, beq_iff_eq] at hp
    rcases hp with hp | ⟨hp, h2⟩
    · exact plain (swC0 A hp)
    · obtain ⟨w1, w2⟩ := swC1 A (k1 := kk) (k2 := k2) (p1 := tp) (p2 := p2) hp
      obtain ⟨c1, c2, c3, c4⟩ := A.calm hc
      unfold par2 at h2
      split at h2
      · rename_i i j x px y py a b as
        obtain ⟨n1, n2, n3⟩ := swN2 w2
        rw [n1] at w1
        simp only [tgChk, tgChk.tgsChk, Bool.and_eq_true, beq_iff_eq] at ht
        obtain ⟨⟨⟨t1, t2⟩, t3⟩, ⟨⟨t4, t5⟩, t6⟩, t7⟩ := ht
        rw [den_tup]
        have la : chkLS g as sg [a, b] = true := by unfold chkE at he; exact he
        exact ps_par2F c1 A.nd (by rw [A.hN]; exact t1) (by rw [A.hN]; exact t4) (by simpa using h2) (by rw [A.sc]; exact n2) (by rw [A.sc]; exact n3) (sndLS as sg [a, b] la A) w1
      · rename_i i j l x px y py z pz a b c as
        obtain ⟨n1, n2, n3, n4⟩ := swN3 w2
        rw [n1] at w1
        simp only [Bool.and_eq_true, bne_iff_ne, ne_eq] at h2
        simp only [tgChk, tgChk.tgsChk, Bool.and_eq_true, beq_iff_eq] at ht
        obtain ⟨⟨⟨t1, t2⟩, t3⟩, ⟨⟨t4, t5⟩, t6⟩, ⟨⟨t7, t8⟩, t9⟩, t10⟩ := ht
        rw [den_tup]
        have la : chkLS g as sg [a, b, c] = true := by unfold chkE at he; exact he
        exact ps_par3F c1 A.nd (by rw [A.hN]; exact t1) (by rw [A.hN]; exact t4) (by rw [A.hN]; exact t7) h2.1.1 h2.1.2 h2.2 (by rw [A.sc]; exact n2) (by rw [A.sc]; exact n3) (by rw [A.sc]; exact n4) (sndLS as sg [a, b, c] la A) w1
      · cases h2
  · exact plain (sw_notup (by simpa using hT))
theorem den_rai (c : Nat) (as : T) : den (.rai c as) = raiF c (den as) := by rw [den]
theorem den_try (b hs : T) : den (.try_ b hs) = tryF (denB b) (denH hs) := by rw [den]
theorem den_hnd (cs : List Nat) (i : Option Nat) (b r : T) : denH (.hnd cs i b r) = hcons cs i (denB b) (denH r) := by rw [denH]
mutual
theorem sndS (t : T) (sg : Sg) (st : Stmt) (h : chkS g t sg st = true) {E : Env} {X : Cx} {K : Kx} {Z : WX} (A : Ag g cl E k sg X K Z) : PS X st (tS K (xrel cl K) Z E (den t)) := by
  unfold chkS at h
  split at h
  · rename_i i e x tp v pos
    simp only [Bool.and_eq_true, Bool.or_eq_true, Bool.not_eq_true', beq_iff_eq] at h
    obtain ⟨⟨⟨⟨h1, h2⟩, h3⟩, h4⟩, h5⟩ := h
    rw [den_asg]
    show PS X _ (tS K (xrel cl K) Z E (asgF (tnT i) (den e)))
    cases hs : swV sg x tp v with
    | false =>
      have q := A.put h2
      exact ps_asgF ((sndE e sg v h3 A).1 false nofun) (pg_nameF A.nd (by rw [A.hN]; exact h1) q.1 q.2) (fun d s h => tame_tn i d E s h) (lc_no A h4 hs) sw_name rfl
    | true =>
      rw [hs] at h5
      rcases h5 with h5 | h5
      · cases h5
      · have hl : sg.sc.names.lookup x = some .local := by
          cases v <;> first | (cases hs; done) | skip
          have hs : swL sg x tp _ _ = true := hs
          unfold swL at hs
          simp only [Bool.and_eq_true, beq_iff_eq] at hs
          exact hs.1.1
        have hu : e = unBox e ∨ e = .box (unBox e) := by cases e <;> first | exact .inl rfl | exact .inr rfl
        rcases hu with hu | hu
        · rw [hu] at h3 ⊢
          exact ps_lcF (bx := false) A h5.1 h5.2 h3 h1 hl hs
        · rw [hu] at h3 ⊢
          rw [den_box]
          unfold chkE at h3
          rw [Bool.and_eq_true] at h3
          exact ps_lcF (bx := true) A h5.1 h5.2 h3.2 h1 hl hs
  · rename_i a i e o y tp v pos
    simp only [Bool.and_eq_true, Bool.not_eq_true'] at h
    obtain ⟨⟨⟨⟨hc, h1⟩, h3⟩, h4⟩, h5⟩ := h
    rw [den_asg]
    have An := A.noz hc
    show PS X _ (tS K (xrel cl K) Z E (asgF (tsT (den a) (den i)) (den e)))
    exact ps_asgF ((sndE e sg v h5 A).1 false nofun) (pg_subF h1 A.hK A.un ((sndE a sg o h3 An).1 false nofun) ((sndE i sg y h4 An).1 false nofun)) (fun d s h => tame_ts d E s h) sub_no sw_sub rfl
  · rename_i ts e es kk p v pos
    simp only [Bool.and_eq_true, Bool.not_eq_true'] at h
    obtain ⟨⟨hc, h3⟩, h⟩ := h
    rw [den_asg]
    split at h
    · rename_i h2
      exact par_ok A hc h2 h3 h
    · rw [Bool.and_eq_true] at h
      obtain ⟨q1, q2, q3⟩ := sndGs (E := E) (A.noz hc) h.1
      have dt : denT (.tt ts) = tupT (denTs ts) := by rw [denT]; rfl
      rw [dt]
      refine ps_asgF ((sndE e sg v h3 A).1 false nofun) (pg_tupF A.hK (A.calm hc).1 q2 q1 (tgs_len h.1)) (fun d s h => ?_) tup_no ?_ rfl
      · unfold tupT
        split
        · exact q3 _ _ _ _
        · exact ⟨fun _ _ => ⟨nofun, nofun⟩, nofun⟩
      · have hw := h.2
        by_cases hT : isTup v = true
        · cases v <;> first | (cases hT; done) | skip
          exact swC0 A (beq_iff_eq.mp hw)
        · exact sw_notup (by simpa using hT)
  · rename_i a f e o n p v pos
    simp only [Bool.and_eq_true, beq_iff_eq] at h
    obtain ⟨⟨⟨hc, rfl⟩, h2⟩, h3⟩ := h
    rw [den_asg]
    have dt : denT (.tf a f) = tfT (den a) f := by rw [denT]
    rw [dt]
    exact ps_asgF ((sndE e sg v h3 A).1 false nofun) (pg_fldF A.hK (by have := A.wld.cls; exact this) ((sndE a sg o h2 (A.noz hc)).1 false nofun)) (fun d s h => tame_tf d E s h) attr_no sw_attr rfl
  · rename_i e v pos
    simp only [Bool.and_eq_true, Bool.not_eq_true'] at h
    unfold den
    exact ps_xprF h.1 ((sndE e sg v h.2 A).1 false nofun)
  · rename_i e v pos
    unfold den
    exact ps_retF ((sndE e sg v h A).1 false nofun)
  · unfold den den
    exact ps_retNF
  · rename_i c a b x p q pos
    simp only [Bool.and_eq_true] at h
    unfold den
    exact ps_iffF (sndE c sg x h.1.1 A).2 (sndB a sg p h.1.2 A) (sndB b sg q h.2 A)
  · rename_i c b x p pos
    simp only [Bool.and_eq_true] at h
    unfold den
    exact ps_whlF (A.stm h.1.1).1 (sndE c sg x h.1.2 A).2 (sndB b sg p h.2 A)
  · rename_i t it b tg iter p pos
    simp only [Bool.and_eq_true] at h
    obtain ⟨⟨⟨⟨⟨h1, hc⟩, h2⟩, h3⟩, h4⟩, h5⟩ := h
    have pg := ((tgChk_pg A hc t).1 _ h3).1
    have ok := (tgChk_ok t).1 _ h3
    unfold den
    exact ps_freF (A.stm h1).1 (A.calm hc).1 (sndI it sg tg iter h4 A) (pg_tgF ok pg) (fun d s h => (tg_nxt t).1 ok d E s h) (sndB b sg p h5 A) (notSet_is h2 X.env)
  · rename_i c x xp q pos
    simp only [Bool.and_eq_true, beq_iff_eq] at h
    obtain ⟨⟨⟨hc, h1⟩, h2⟩, h3⟩ := h
    obtain ⟨C, e1, e2, e3, e4, _, e6, e7⟩ := A.wld.exc x c h2
    have fn := (A.wld.fld c).trans h3
    obtain ⟨bmB, B, newId, initId, e4, e5⟩ := e4 fn
    have gl := A.gl h1
    unfold den den
    exact ps_raiF (A.calm hc).1 (A.calm hc).2.2.2 e4 e5 e2 e3 (raises_own e6 e7) gl.1 gl.2 fun H ρ => ⟨none, ⟨C, e1, rfl, rfl, rfl, fn⟩, fun a f x z => nomatch z⟩
  · rename_i c a x xp y q pos
    simp only [Bool.and_eq_true, beq_iff_eq, Bool.not_eq_true'] at h
    obtain ⟨⟨⟨⟨⟨hc, h1⟩, h2⟩, h3⟩, h4⟩, h5⟩ := h
    obtain ⟨C, e1, e2, e3, _, e4, e6, e7⟩ := A.wld.exc x c h2
    obtain ⟨f, hf⟩ := Option.isSome_iff_exists.mp h3
    have fn := (A.wld.fld c).trans hf
    have gl := A.gl h1
    obtain ⟨c1, c2, c3, c4⟩ := A.calm hc
    rw [den_rai, den_cns, den_nil]
    exact ps_raiF1 c1 c4 (e4 f fn) c2.two e2 gl.1 gl.2 h4 ((sndE a sg y h5 A).1 false nofun) e1 fn
  · rename_i b hs p hh r pos
    simp only [Bool.and_eq_true] at h
    obtain ⟨⟨⟨h1, hc⟩, h2⟩, h3⟩ := h
    obtain ⟨c1, c2, c3, c4⟩ := A.calm hc
    obtain ⟨s1, s2, s3⟩ := A.stm h1
    obtain ⟨l, l1, l2⟩ := sndH hs sg (hh :: r) h3 A hc
    rw [den_try]
    exact ps_tryN s2 s3 A.nd c4 (fun W pn xe tk hp => sndB b sg p h2 (A.tr hc tk hp)) l1 l2
  · unfold den; exact ps_passF
  · unfold den; exact ps_brkF
  · unfold den; exact ps_cntF
  · cases h
termination_by 2 * sizeOf t
decreasing_by all_goals (simp_wf; try first | omega | (have := ‹t = _›; rw [this]; simp; done) | (have := ‹t = _›; rw [this]; simp; omega))
theorem sndH (t : T) (sg : Sg) (hs : List ExceptHandler) (h : chkH g t sg hs = true) {E : Env} {X : Cx} {K : Kx} {Z : WX} (A : Ag g cl E k sg X K Z) (hc : sg.calm = true) : ∃ l, HdN X hs l ∧ HWish X cl K Z E (denH t) l := by
  unfold chkH at h
  split at h
  · rw [denH]
    · exact ⟨[], .nil, hw_nil⟩
    · intro _ _ _ _ e; cases e
  · rename_i c i s r x xp n q qs hp hs
    simp only [Bool.and_eq_true, beq_iff_eq] at h
    obtain ⟨⟨⟨⟨⟨h1, h2⟩, h3⟩, h4⟩, h5⟩, h6⟩ := h
    obtain ⟨C, e1, e2, _⟩ := A.wld.exc x c h1
    have gl := A.gl h2
    obtain ⟨c1, c2, c3, c4⟩ := A.calm hc
    obtain ⟨l, l1, l2⟩ := sndH r sg hs h6 A hc
    rw [den_hnd]
    refine ⟨_, .named (by rw [A.hN]; exact h3) (by show X.env.scope.names.lookup n = _; rw [A.sc]; exact h4) ⟨gl.1, gl.2, .inl e2⟩ (fun a oe cls d pn hz hd => ⟨fun pins s' σ H Dn I ⟨ds, xd, m, z⟩ => (sndB s _ (q :: qs) h5 (A.suite hz hd m)).run pins s' σ H Dn I z⟩) l1,
      hw_named c3 (fun c' e => A.wld.exs c' c e) (fun c' ds cls d xd ⟨C', hC', e, _⟩ => by rw [e]; exact ((A.wld.excC c' C' hC').2.1 c C e1).1) l2⟩
  · rename_i c s r x xp q qs hp hs
    simp only [Bool.and_eq_true, beq_iff_eq] at h
    obtain ⟨⟨⟨h1, h2⟩, h5⟩, h6⟩ := h
    obtain ⟨C, e1, e2, _⟩ := A.wld.exc x c h1
    have gl := A.gl h2
    obtain ⟨l, l1, l2⟩ := sndH r sg hs h6 A hc
    rw [den_hnd]
    exact ⟨_, .bare ⟨gl.1, gl.2, .inl e2⟩ (fun a oe cls d pn hz hd => sndB s _ (q :: qs) h5 A.bare) l1,
      hw_bare (fun c' ds cls d xd ⟨C', hC', e, _⟩ => by rw [e]; exact ((A.wld.excC c' C' hC').2.1 c C e1).1) l2⟩
  · cases h
termination_by 2 * sizeOf t
decreasing_by all_goals (simp_wf; try first | omega | (have := ‹t = _›; rw [this]; simp; done) | (have := ‹t = _›; rw [this]; simp; omega))
theorem sndB (t : T) (sg : Sg) (sts : List Stmt) (h : chkB g t sg sts = true) {E : Env} {X : Cx} {K : Kx} {Z : WX} (A : Ag g cl E k sg X K Z) : PSs X sts (tS K (xrel cl K) Z E (denB t)) := by
  unfold chkB at h
  split at h
  · unfold denB; exact pss_nilF
  · rename_i i e x p s1 p2 y q q1 s2 p3 s3 p4 x2 p5 q2 q3 pos
    simp only [Bool.and_eq_true, Bool.not_eq_true', beq_iff_eq] at h
    obtain ⟨⟨⟨⟨⟨⟨⟨⟨⟨⟨⟨⟨⟨⟨hc, h1⟩, h2⟩, h3⟩, h4⟩, h5⟩, rfl⟩, rfl⟩, rfl⟩, rfl⟩, g1⟩, g2⟩, g3⟩, h6⟩, h7⟩ := h
    have pt := A.put h3
    have dd : denB (.cns (.ssr i e) .nil) = seqF (ssrF i (den e)) skpF := by rw [denB, denB, den]
    rw [dd]
    exact pss_ssrF A.hK (A.calm hc).1 A.nd (by rw [A.hN]; exact h1) (A.vis h2) pt.1 pt.2 h4 (by simpa using h5) h6 ((sndE e sg y h7 A).1 false nofun) (A.gl g1).1 (A.bltn (by decide +kernel)) (A.gl g2).1 (A.bltn (by decide +kernel)) (A.gl g3).1 (A.bltn (by decide +kernel))
  · rename_i a r x xs _
    rw [Bool.and_eq_true] at h
    unfold denB
    exact pss_consF (sndS a sg x h.1 A) (sndB r sg xs h.2 A)
  · cases h
termination_by 2 * sizeOf t + 1
decreasing_by all_goals (simp_wf; try first | omega | (have := ‹t = _›; rw [this]; simp; done) | (have := ‹t = _›; rw [this]; simp; omega))
end
end
end Pv
set_option Elab.async false
set_option linter.all false
set_option maxRecDepth 100000
set_option maxHeartbeats 2000000
namespace Pv
open PySem L2 PySem.Spec PyProof.Rows
/-! ### other callers' boxes -/
section
variable {K1 K2 : Kx} {ρ1 ρ2 : List Addr} {H : L2.Hp}
theorem Lv.own (ho : ∀ a, Own K1 ρ1 a → Own K2 ρ2 a) {a : Addr} {vs : List V} (q : Lv K1 H ρ1 a vs) : Lv K2 H ρ2 a vs := q.imp (fun q => ⟨q.1, ho a q.2⟩) id
mutual
theorem GR.own (hk : K2.K = K1.K) (ho : ∀ a, Own K1 ρ1 a → Own K2 ρ2 a) : ∀ {g : G} {v : V}, GR K1 H ρ1 g v → GR K2 H ρ2 g v
  | .non, v, h => by unfold GR at h ⊢; exact h
  | .bl b, v, h => by unfold GR at h ⊢; exact h
  | .int i, v, h => by unfold GR at h ⊢; exact h
  | .str n, v, h => by unfold GR at h ⊢; exact h
  | .tup gs, v, h => by
    unfold GR at h ⊢
    obtain ⟨a, vs, e, q, r⟩ := h
    exact ⟨a, vs, e, by rw [hk]; exact q, GRs.own hk ho r⟩
  | .lst gs, v, h => by
    unfold GR at h ⊢
    obtain ⟨a, vs, e, q, r⟩ := h
    exact ⟨a, vs, e, Lv.own ho q, GRs.own hk ho r⟩
  | .rng lo hi, v, h => by unfold GR at h ⊢; exact h
  | .set xs, v, h => by unfold GR at h ⊢; exact h
theorem GRs.own (hk : K2.K = K1.K) (ho : ∀ a, Own K1 ρ1 a → Own K2 ρ2 a) : ∀ {g : List G} {v : List V}, GRs K1 H ρ1 g v → GRs K2 H ρ2 g v
  | [], v, h => by unfold GRs at h ⊢; exact h
  | g :: r, v, h => by
    unfold GRs at h ⊢
    obtain ⟨u, t, e, h1, h2⟩ := h
    exact ⟨u, t, e, GR.own hk ho h1, GRs.own hk ho h2⟩
end
mutual
theorem GR.nol (hk : K2.K = K1.K) : ∀ {g : G} {v : V}, noLst g = true → GR K1 H ρ1 g v → GR K2 H ρ2 g v
  | .non, v, _, h => by unfold GR at h ⊢; exact h
  | .bl b, v, _, h => by unfold GR at h ⊢; exact h
  | .int i, v, _, h => by unfold GR at h ⊢; exact h
  | .str n, v, _, h => by unfold GR at h ⊢; exact h
  | .tup gs, v, n, h => by
    unfold GR at h ⊢
    unfold noLst at n
    obtain ⟨a, vs, e, q, r⟩ := h
    exact ⟨a, vs, e, by rw [hk]; exact q, GRs.nol hk n r⟩
  | .lst gs, v, n, h => by unfold noLst at n; cases n
  | .rng lo hi, v, _, h => by unfold GR at h ⊢; exact h
  | .set xs, v, _, h => by unfold GR at h ⊢; exact h
theorem GRs.nol (hk : K2.K = K1.K) : ∀ {g : List G} {v : List V}, noLsts g = true → GRs K1 H ρ1 g v → GRs K2 H ρ2 g v
  | [], v, _, h => by unfold GRs at h ⊢; exact h
  | g :: r, v, n, h => by
    unfold GRs at h ⊢
    unfold noLsts at n
    rw [Bool.and_eq_true] at n
    obtain ⟨u, t, e, h1, h2⟩ := h
    exact ⟨u, t, e, GR.nol hk n.1 h1, GRs.nol hk n.2 h2⟩
end
end
section
variable {K : PySem.W.Frag} {φ ρ : List Addr} {h : Hp} {H H2 : L2.Hp}
/-- what a pure callee may not name -/
def inner (b : Bool) (φ ρ : List Addr) : List Addr := if b then [] else φ ++ ρ
theorem argsG_dr (hr : HR ⟨K, φ, none⟩ ρ h H) : ∀ {ds ds' : List D} {b c : Bool} {vs : List V}, argsG h ds = some (ds', b) → (b = true → c = true) → DRs ⟨K, φ, none⟩ H ρ ds vs → DRs ⟨K, inner c φ ρ, none⟩ H [] ds' vs
  | [], ds', b, c, vs, e, _, d => by
    cases e
    rw [d.inv0]; exact DRs.nil
  | x :: r, ds', b, c, vs, e, hb, d => by
    obtain ⟨v, t, rfl, d1, d2⟩ := d.inv
    unfold argsG at e
    have own : ∀ a, Own ⟨K, φ, none⟩ ρ a → Own ⟨K, inner c φ ρ, none⟩ [] a := fun a o => ⟨by simp, fun z => by
      unfold inner at z
      cases c with
      | true => exact absurd z (by simp)
      | false => exact (List.mem_append.mp z).elim o.2 o.1⟩
    cases q : argsG h r with
    | none => rw [q] at e; cases e
    | some p =>
      obtain ⟨t', b'⟩ := p
      rw [q] at e
      dsimp only at e
      split at e
      · cases e
        exact DRs.cons (by unfold DR at d1 ⊢; exact d1.own (by rfl) own) (argsG_dr hr q hb d2)
      · split at e
        · rename_i y qy
          cases e
          have hc := hb rfl
          subst hc
          refine DRs.cons ?_ (argsG_dr hr q (fun _ => rfl) d2)
          have own' : ∀ a, Own ⟨K, φ, none⟩ ρ a → Own ⟨K, inner true φ ρ, none⟩ [] a := fun a o => ⟨by simp, by simp [inner]⟩
          unfold DR
          cases x with
          | g x => cases qy; unfold DR at d1; exact d1.own (by rfl) own'
          | ref i =>
            obtain ⟨a, ha, rfl⟩ := ref_dr d1
            simp only [rd] at qy
            cases q2 : h[i]? with
            | none => simp [q2] at qy
            | some o =>
              cases o with
              | lst ds =>
                cases q3 : unGs ds with
                | none => simp [q2, q3] at qy
                | some gs =>
                  simp [q2, q3] at qy
                  subst qy
                  obtain ⟨vs, hv, dv⟩ := hr.lst ha q2
                  unfold GR
                  exact ⟨a, vs, rfl, .inl ⟨hv, by simp, by simp [inner]⟩, (dv.toG q3).own (by rfl) own'⟩
              | _ => simp [q2] at qy
          | _ => simp [rd] at qy
        · cases e
theorem back_ext {ρ2 : List Addr} (x : Ext [] H ρ2 H2) : Ext ρ H ρ H2 := ⟨List.prefix_refl _, fun a h => .inl h, fun a o e _ => x.keep a o e (by simp), x.imm, x.alive⟩
theorem back_hr {ρ2 : List Addr} (hr : HR ⟨K, φ, none⟩ ρ h H) (x : Ext [] H ρ2 H2) : HR ⟨K, φ, none⟩ ρ h H2 where
  len := hr.len
  nd := hr.nd
  al := fun a ha z => by
    cases q : H a with
    | none => exact hr.al a ha q
    | some o =>
      rw [x.keep a o q (by simp)] at z
      cases z
  obj := fun i ob a h1 h2 => by
    obtain ⟨u, e, _⟩ := OR.some (hr.obj i ob a h1 h2)
    exact (hr.obj i ob a h1 h2).ext (back_ext x) ((x.keep a u e (by simp)).trans e.symm)
theorem back_gr {b : Bool} {ρ2 : List Addr} {h2 : Hp} {d : D} {g : G} {v : V} (hr : HR ⟨K, φ, none⟩ ρ h H) (x : Ext [] H ρ2 H2) (hr2 : HR ⟨K, inner b φ ρ, none⟩ ρ2 h2 H2) (dr : DR ⟨K, inner b φ ρ, none⟩ H2 ρ2 d v) (e : rd h2 d = some g) (hn : b = true → noLst g = true) :
    GR ⟨K, φ, none⟩ H2 ρ g v := by
  have own : b = false → ∀ a, Own ⟨K, inner b φ ρ, none⟩ ρ2 a → Own ⟨K, φ, none⟩ ρ a := fun hb a o => by
    subst hb
    have z : a ∉ φ ++ ρ := o.2
    exact ⟨fun q => z (List.mem_append_right _ q), fun q => z (List.mem_append_left _ q)⟩
  cases d with
  | g y =>
    cases e
    unfold DR at dr
    cases b with
    | false => exact dr.own (by rfl) (own rfl)
    | true => exact dr.nol (by rfl) (hn rfl)
  | ref i =>
    obtain ⟨a, ha, rfl⟩ := ref_dr dr
    simp only [rd] at e
    cases q2 : h2[i]? with
    | none => simp [q2] at e
    | some o =>
      cases o with
      | lst ds =>
        cases q3 : unGs ds with
        | none => simp [q2, q3] at e
        | some gs =>
          simp [q2, q3] at e
          subst e
          obtain ⟨vs, hv, dv⟩ := hr2.lst ha q2
          cases b with
          | true => have := hn rfl; unfold noLst at this; cases this
          | false =>
            have hnew : H a = none := (x.new a (List.mem_of_getElem? ha)).resolve_left (by simp)
            unfold GR
            exact ⟨a, vs, rfl, .inl ⟨hv, hr.own hnew⟩, (dv.toG q3).own (by rfl) (own rfl)⟩
      | _ => simp [q2] at e
  | _ => simp [rd] at e
end
/-! ### a program's functions -/
structure FI where
  f : Addr
  name : PySem.Str
  qual : PySem.Str
  params : Arguments
  body : List Stmt
  scope : PySem.Scope
  dV : Value
  kV : Value
  doc : Value
  pm : Value
  cdv : Value
  ct : Value
  oc : Value
  an : Option Addr
  od : Option Addr
  osl : Array (Option Value)
  N : List PySem.Str
  ps : List PySem.Str
  b : T
  pure : Bool
def FI.fd (i : FI) : FuncData := PySem.W.fnOf i.name i.qual i.params i.body i.scope i.dV i.kV i.doc i.pm i.an i.cdv i.ct
def sgOf (N : List PySem.Str) (sc : PySem.Scope) : Sg := { N := N, sc := sc, blk := none, calm := true, stm := true, xn := none }
structure FIc (g : Gm) (K : PySem.W.Frag) (prog : Prog) (n : Nat) (i : FI) : Prop where
  lk : K.lookup i.f = some ⟨i.oc, i.od, .func i.fd, i.osl⟩
  cd : PySem.W.codeIn K i.cdv i.qual = true
  S : FnScope i.N i.ps i.scope
  chk : chkB g i.b (sgOf i.N i.scope) i.body = true
  fn : prog.fn n = some ⟨i.ps.length, i.N.length, i.pure, denB i.b⟩
  binds : Binds K i.fd i.ps []
structure FIok (g : Gm) (K : PySem.W.Frag) (mg : PySem.Str → Option Value) (prog : Prog) (x : PySem.Str) (n : Nat) (i : FI) : Prop where
  core : FIc g K prog n i
  at_ : mg x = some (.ref i.f)
  keep : PySem.W.keepIn K (.ref i.f) = true
  kb : ∀ u ∈ kwOf g x, KB K i.fd i.ps u
/-- the facts that no level changes -/
structure Wl0 (g : Gm) (cl : Cl) (K : PySem.W.Frag) (mg : PySem.Str → Option Value) (prog : Prog) : Prop where
  blt : ∀ x ∈ bltNames, mg x = none
  glo : ∀ x n, g.glo.lookup x = some n → ∃ u v G, mg x = some u ∧ RelV v u ∧ prog.glo n = some G ∧ ∀ y H ρ, GR ⟨K, y⟩ H ρ G v
  fns : ∀ q ∈ g.fns, ∃ i, FIok g K mg prog q.1 q.2.1 i
  fuel : prog.fuel ≤ 16000000
  kit : ∀ n, (∀ k, n ≠ .ins k) → ∀ t, (tyName t).isSome = true → PySem.W.kitOne K (tN n) (tyV1 t) = some (sT n t)
  exc : ∀ x c, g.exc.lookup x = some c → ∃ C, cl c = some C ∧ mg x = some (.ref C) ∧ PySem.W.keepIn K (.ref C) = true ∧ (cl.fld c = none → ∃ bmB B newId initId, ExcBaseFacts B newId initId bmB ∧ PySem.W.excIn K C bmB newId = true) ∧ (∀ f, cl.fld c = some f → ∀ (P : Program) (w : World) (base : Heap), ExF P w K mg base C f) ∧
    PySem.W.subIn K (.ref C) (.type "BaseException") = some true ∧ PySem.W.typeIn K (.ref C) = some (.type "type")
  exs : ∀ c j, prog.exsub c j = true → c = j
  fld : ∀ c, cl.fld c = g.fld.lookup c
  fldC : ∀ c C f, cl c = some C → cl.fld c = some f → XfC K C ∧ PySem.W.findIn K (.ref C) f = some none
  excC : ∀ c C, cl c = some C → ExcC K C ∧ (∀ k Ck, cl k = some Ck → PySem.W.exmOne K (.ref C) (.ref Ck) = some (prog.exsub c k) ∧ PySem.W.kitOne K (.ref C) (.ref Ck) = some (prog.exsub c k)) ∧
    PySem.W.kitOne K (.ref C) (.type "ValueError") = some (prog.exv c) ∧ PySem.W.kitOne K (.ref C) (.type "LookupError") = some (!prog.exv c)
  attr : ∀ c f, prog.attr c f = true → Cls K (clA K c) ∧ NoAttr K (clA K c) (encS f)
  mth : ∀ c m n, prog.meth c m = some n → ∃ i, FIc g K prog n i ∧ i.f = He.ma K (clA K c) (encS m) ∧ Cls K (clA K c) ∧ BMeth K (clA K c) (encS m) (He.ma K (clA K c) (encS m))
  ini : ∀ c, (initT g.cls c).isSome = true → ∃ n i, prog.init c = some n ∧ FIc g K prog n i ∧ i.f = He.ma K (clA K c) "__init__" ∧ mg (encS c) = some (.ref (clA K c)) ∧ Mk K (clA K c) (He.ma K (clA K c) "__init__")
section
variable {g : Gm} {cl : Cl} {P : Program} {w : World} {K : PySem.W.Frag} {mg : PySem.Str → Option Value} {base : Heap} {prog : Prog}
theorem runFn_len {E : Env} {n : Nat} {fd : Fn} (ds : List D) (h : Hp) : (∃ m, runFn E fd n ds h = .bad m) ∨ ds.length = fd.np := by
  unfold runFn
  by_cases q : ds.length = fd.np
  · exact .inr q
  · left
    have : (ds.length == fd.np) = false := beq_false_of_ne q
    rw [this]
    exact ⟨174, rfl⟩
theorem callS_len {r m n : Nat} {low : Nat → List D → Hp → Out} {fd : Fn} (e : prog.fn n = some fd) (ds : List D) (h : Hp) : (∃ m', callS prog r low m n ds h = .bad m') ∨ ds.length = fd.np := by
  cases m with
  | zero => exact .inl ⟨_, rfl⟩
  | succ m =>
    unfold callS
    rw [e]
    exact runFn_len ds h
theorem callF_len {r n : Nat} {fd : Fn} (e : prog.fn n = some fd) (ds : List D) (h : Hp) : (∃ m, callF prog r n ds h = .bad m) ∨ ds.length = fd.np := by
  induction r with
  | zero => exact .inl ⟨_, rfl⟩
  | succ r ih =>
    unfold callF
    split
    · exact callS_len e ds h
    · exact ih
/-- the slots at the entry -/
theorem SR.start {K : Kx} {ρ : List Addr} {H : L2.Hp} {ds : List D} {vs : List V} {N : List PySem.Str} (hx : K.y.xn = none) (d : DRs K H ρ ds vs) (hl : vs.length ≤ N.length) : SR K H ρ (mkSlots ds N.length) (start N vs) := by
  have l := d.length
  refine ⟨by simp [mkSlots, L2.start, l], fun i x e => ?_, (fun i a d e => by rw [hx] at e; cases e), (fun i a dd f g e => by rw [hx] at e; cases e)⟩
  unfold mkSlots at e
  by_cases hi : i < ds.length
  · rw [List.getElem?_append_left (by simpa using hi), List.getElem?_map] at e
    cases q : ds[i]? with
    | none => rw [q] at e; cases e
    | some y =>
      rw [q] at e
      cases e
      obtain ⟨v, h1, h2⟩ := d.get q
      refine ⟨v, ?_, h2⟩
      unfold L2.start
      rw [List.getElem?_append_left (by simp; omega), List.getElem?_map, h1]; rfl
  · rw [List.getElem?_append_right (by simpa using hi), List.getElem?_replicate] at e
    split at e <;> cases e
theorem after_fin {K : Kx} {ξ : XRel} {ρ : List Addr} {H : L2.Hp} {Q : VK} {Ex : XK} {o : Out} (af : AfterC K ξ ρ H Q Ex (finish o)) : AfterS K ξ (fun cls d _ H => Ex cls d H) ρ H { nx := fun _ H' => Q .non H', rt := Q } o := by
  cases o <;> first | exact False.elim af | skip
  · exact fun σ' ρ' H' x hr sr => af .non ρ' H' x hr (by unfold DR GR; rfl)
  · exact af
  · exact fun cls dd σ' ρ' H' x hr sr q => af cls dd ρ' H' x hr q
/-- a body keeps a def's promise -/
theorem fn_wide {CX : CXT} {k : Nat} {f : Addr} {name qual : PySem.Str} {params : Arguments} {body : List Stmt} {scope : PySem.Scope} {dV kV doc pm cdv ct oc : Value} {an od : Option Addr} {osl : Array (Option Value)} {N ps : List PySem.Str} {sp : Sp}
    (lk : K.lookup f = some ⟨oc, od, .func (PySem.W.fnOf name qual params body scope dV kV doc pm an cdv ct), osl⟩) (cd : PySem.W.codeIn K cdv qual = true) (S : FnScope N ps scope) (len : ∀ vs H Q W, sp vs H Q W → vs.length = ps.length)
    (hb : ∀ (A : Around) (outer : List PySem.Env) (s : Shared) (H : L2.Hp) (vs : List V) (Q : VK) (W : XK), RoomW k (A.deeper (envOfC qual scope s.heap.objs.size f cdv)) → sp vs H Q W →
      ∃ t, PSs (cxOf CX P w K mg base N qual scope f cdv A outer s H W) body t ∧ t { nx := fun _ H' => Q .non H', rt := Q } (start N vs) H) : FnW P w K mg base CX (k + 1) f (PySem.W.fnOf name qual params body scope dV kV doc pm an cdv ct) ps sp := by
  refine ⟨len, fun A outer s H args us vs Q W hr e0 bd r q => ?_⟩
  have keep : ∀ b o, base.get? b = some o → s.heap.get? b = some o := fun b o e => (e0.bs b o e).1
  have KX : K.In s.heap := e0.mod.kin.keeps keep
  have free : s.heap.NoLimit := e0.mod.nolimit.keeps keep
  have kinds : ∀ y ∈ ps.zip us, scope.names.lookup y.1 = some .local ∨ (scope.names.lookup y.1 = some .cell ∧ ((cellsFrom (s.heap.objs.size + 1) scope.names []).lookup y.1).isSome = true) := by
    rintro ⟨n, v⟩ hy
    exact (S.par n (List.of_mem_zip hy).1).imp id fun c => ⟨c, PySem.W.cellsFrom_some _ _ _ (.inl c)⟩
  have dp : A.depth < recursionLimit := by have := hr.far; omega
  refine codeAny_call_function dp (KX _ _ lk) rfl S.co S.gen rfl (PySem.W.codeRec_of KX cd) (bd _ _ _ _ (wpAny_newFunctionEnv_cells S.kind kinds fun env he s1 x => ?_))
  subst he
  refine ⟨free.keeps x.toInCall.keep, codeAny_func ?_⟩
  obtain ⟨t, ht, hq⟩ := hb A outer s H vs Q W (hr.frame _) q
  have I0 := inv_start (CX := CX) (E := W) S hr.free e0 (len _ _ _ _ q) r x
  have fin : ∀ {σ' : L2.St} {H' : L2.Hp} {v : V} {u : Value} {s' : Shared}, Inv (cxOf CX P w K mg base N qual scope f cdv A outer s H W) [] σ' H' s' → RelV v u → Q v H' → CE outer P w H s Q u s' :=
    fun J rv q => ⟨_, _, J.os, J.bare, J.base, J.hok, rv, q⟩
  refine wpAny_mono (ht.run [] s1 (start N vs) H _ I0 hq) (fun fl s' hs => ?_) fun e s' hs => hs
  cases fl with
  | ret u => obtain ⟨v, σ', H', J, rv, q⟩ := hs; exact fin J rv q
  | next => obtain ⟨σ', H', J, q⟩ := hs; exact fin (v := .non) (u := .none) J rfl q
  | _ => obtain ⟨_, _, _, z⟩ := hs; exact z.elim
theorem fn_step {E : Env} {k : Nat} (wld : Wld g cl P w K mg base E k) {n : Nat} {i : FI} (F : FIc g K prog n i) (call : Nat → List D → Hp → Out)
    (hc : ∀ ds h, call n ds h = runFn E ⟨i.ps.length, i.N.length, i.pure, denB i.b⟩ n ds h) : FnW P w K mg base (L2.CX P w) (k + 1) i.f i.fd i.ps (spOf K (xrel cl) call n i.ps.length) := by
  refine fn_wide F.lk F.cd F.S (fun vs H Q E q => q.1) fun A outer s H vs Q W hr ⟨hl, φ, ρ, h, ds, hR, dr, af⟩ => ?_
  have hN : i.ps.length ≤ i.N.length := by
    have := congrArg List.length F.S.pre
    rw [List.length_take] at this
    omega
  have ag : ∀ φ', Ag g cl E k (sgOf i.N i.scope) (cxOf (L2.CX P w) P w K mg base i.N i.qual i.scope i.f i.cdv A outer s H W) ⟨K, φ', none⟩ (fun cls d _ H => W cls d H) := fun φ' =>
    { wld := wld, hK := rfl, hN := rfl, nd := F.S.nd, sc := rfl, bk := by show (if i.scope.kind.isAnnotationScope then ScopeKind.function else i.scope.kind) = .function; rw [F.S.kind]; rfl,
      fn := fun _ => rfl, un := by have := hr.un; show (A.deeper _).units + 160 ≤ cLine; omega, calm := fun _ => ⟨rfl, hr, rfl, takes_of rfl rfl rfl rfl⟩, stm := fun _ => ⟨passes_of rfl, rfl, rfl⟩, xn := nofun }
  rw [hc] at af
  unfold runFn at af
  dsimp only at af
  split at af
  · cases hp : i.pure with
    | false =>
      rw [hp] at af
      refine ⟨_, sndB i.b _ _ F.chk (ag φ), ρ, _, h, SR.start rfl dr (by omega), hR, after_fin (by rw [if_neg (by decide)] at af; exact af)⟩
    | true =>
      rw [hp] at af
      simp only [if_true] at af
      cases ea : argsG h ds with
      | none => rw [ea] at af; exact False.elim af
      | some p =>
        obtain ⟨ds', b⟩ := p
        rw [ea] at af
        replace af : AfterC ⟨K, φ, none⟩ (xrel cl ⟨K, φ, none⟩) ρ H Q W (pureEnd n h b (finish (denB i.b E (mkSlots ds' i.N.length) []))) := af
        have da := argsG_dr hR ea (c := b) id dr
        refine ⟨_, sndB i.b _ _ F.chk (ag (inner b φ ρ)), [], _, [], SR.start rfl da (by omega), ⟨rfl, List.nodup_nil, fun a ha => ?_, fun j ob a h1 => by simp at h1⟩, after_fin ?_⟩
        · unfold inner at ha
          cases b with
          | true => simp at ha
          | false =>
            rcases List.mem_append.mp ha with z | z
            · exact hR.al a z
            · obtain ⟨u, e, _⟩ := hR.some z
              rw [e]; simp
        · generalize finish (denB i.b E (mkSlots ds' i.N.length) []) = o at af
          cases o <;> first | exact False.elim af | skip
          · rename_i d h2
            intro v ρ2 H2 x2 hr2 dr2
            unfold pureEnd at af
            dsimp only at af
            split at af
            · rename_i y ey
              have fin : Fin ⟨K, φ, none⟩ ρ h H Q (.g y) ∧ (b = true → noLst y = true) := by
                cases b with
                | false => exact ⟨by rw [if_neg (by decide)] at af; exact af, nofun⟩
                | true =>
                  simp only [if_true] at af
                  split at af
                  · rename_i z; exact ⟨af, fun _ => z⟩
                  · exact False.elim af
              exact fin.1 v ρ H2 (back_ext x2) (back_hr hR x2) (by unfold DR; exact back_gr hR x2 hr2 dr2 ey fin.2)
            · exact False.elim af
          · rename_i c xs s2 h2
            intro cls dd ρ2 H2 x2 hr2 q
            unfold pureEnd at af
            dsimp only at af
            split at af
            · rename_i gs eg
              have key : (b = true → noLsts gs = true) ∧ AfterC ⟨K, φ, none⟩ (xrel cl ⟨K, φ, none⟩) ρ H Q W (.exc c xs s2 h) := by
                cases b with
                | false => exact ⟨nofun, by rw [if_neg (by decide)] at af; exact af⟩
                | true =>
                  simp only [if_true] at af
                  split at af
                  · rename_i z; exact ⟨fun _ => z, af⟩
                  · exact False.elim af
              refine key.2 cls dd ρ H2 (back_ext x2) (back_hr hR x2) ?_
              obtain ⟨xd, m, qx⟩ := q
              refine ⟨xd, m, fun a f x z => ?_⟩
              obtain ⟨v, h1, h3⟩ := qx a f x z
              refine ⟨v, h1, ?_⟩
              subst z
              obtain ⟨C, _, _, e1, _, _⟩ := m
              subst e1
              cases eg
              cases b with
              | false => exact h3.own (by rfl) fun a o => ⟨fun q => (show a ∉ φ ++ ρ from o.2) (List.mem_append_right _ q), fun q => (show a ∉ φ ++ ρ from o.2) (List.mem_append_left _ q)⟩
              | true => exact h3.nol (by rfl) (by have := key.1 rfl; simpa [noLsts] using this)
            · exact False.elim af
  · exact False.elim af
/-- the levels that the ranks below r take -/
def lvl (prog : Prog) : Nat → Nat
  | 0 => 2
  | r + 1 => lvl prog r + 1 + prog.deep r
theorem lvl_two (prog : Prog) : ∀ r, 2 ≤ lvl prog r
  | 0 => Nat.le_refl 2
  | r + 1 => Nat.le_trans (lvl_two prog r) (Nat.le_trans (Nat.le_add_right _ 1) (Nat.le_add_right _ _))
theorem spOf_eq {K : PySem.W.Frag} {ξ : Kx → XRel} {c c' : Nat → List D → Hp → Out} {n np : Nat} (e : c n = c' n) : spOf K ξ c n np = spOf K ξ c' n np := by
  unfold spOf
  rw [e]
theorem sp_to {k n np : Nat} {i : FI} {ξ : Kx → XRel} {c c' : Nat → List D → Hp → Out} (F : FnW P w K mg base (L2.CX P w) k i.f i.fd i.ps (spOf K ξ c n np)) (e : c n = c' n) : FnW P w K mg base (L2.CX P w) k i.f i.fd i.ps (spOf K ξ c' n np) := by
  rw [← spOf_eq e]; exact F
/-- the calls of a text of rank r -/
abbrev callM (prog : Prog) (r m : Nat) : Nat → List D → Hp → Out := fun j => match Nat.beq (prog.rank j) r with | true => callS prog r (callF prog r) m j | false => callF prog r j
theorem callM_len {r m n : Nat} {fd : Fn} (e : prog.fn n = some fd) (ds : List D) (h : Hp) : (∃ m', callM prog r m n ds h = .bad m') ∨ ds.length = fd.np := by
  unfold callM
  cases Nat.beq (prog.rank n) r with
  | true => exact callS_len e ds h
  | false => exact callF_len e ds h
theorem callS_ok (W : Wl0 g cl K mg prog) (r : Nat) (low : ∀ (n : Nat) (i : FI), FIc g K prog n i → FnW P w K mg base (L2.CX P w) (lvl prog r) i.f i.fd i.ps (spOf K (xrel cl) (callF prog r) n i.ps.length)) :
    ∀ (m : Nat) (n : Nat) (i : FI), FIc g K prog n i → FnW P w K mg base (L2.CX P w) (lvl prog r + 1 + m) i.f i.fd i.ps (spOf K (xrel cl) (callS prog r (callF prog r) m) n i.ps.length)
  | 0, n, i, F => ⟨fun vs H Q E q => q.1, fun A outer s H args us vs Q E _ _ _ _ ⟨_, _, _, _, _, _, _, z⟩ => False.elim z⟩
  | m + 1, n, i, F => by
    have go : ∀ (n : Nat) (j : FI), FIc g K prog n j → FnW P w K mg base (L2.CX P w) (lvl prog r + 1 + m) j.f j.fd j.ps (spOf K (xrel cl) (callM prog r m) n j.ps.length) := fun n j J => by
      cases e : Nat.beq (prog.rank n) r with
      | true => exact sp_to (callS_ok W r low m n j J) (by show _ = (match Nat.beq (prog.rank n) r with | true => callS prog r (callF prog r) m n | false => callF prog r n); rw [e])
      | false => exact sp_to ((low n j J).mono (by omega)) (by show _ = (match Nat.beq (prog.rank n) r with | true => callS prog r (callF prog r) m n | false => callF prog r n); rw [e])
    have wld : Wld g cl P w K mg base (envP prog (callM prog r m) (callF prog r)) (lvl prog r + 1 + m) :=
      { blt := W.blt, glo := W.glo, fns := fun q hq => by
          obtain ⟨j, J⟩ := W.fns q hq
          exact ⟨j.f, j.fd, j.ps, ⟨J.at_, J.keep, J.core.binds, go _ j J.core, fun ds h => callM_len J.core.fn ds h⟩, J.kb⟩
        fuel := W.fuel, kit := W.kit, exc := fun x c e => by
          obtain ⟨C, h1, h2, h3, h4, h5, h6⟩ := W.exc x c e
          exact ⟨C, h1, h2, h3, h4, fun f hf => h5 f hf P w base, h6⟩
        two := Nat.le_trans (lvl_two prog r) (by omega), exs := W.exs, fld := W.fld, fldC := W.fldC, excC := W.excC, cls := ⟨W.attr⟩
        mth := fun c m' n e => by
          obtain ⟨j, J, ef, h1, h2⟩ := W.mth c m' n e
          refine ⟨h1, h2, j.fd, j.ps, J.binds, ?_, fun ds h => callM_len J.fn ds h⟩
          have := go n j J
          rw [ef] at this
          exact this
        ini := fun c e => by
          obtain ⟨n, j, h0, J, ef, h1, h2⟩ := W.ini c e
          refine ⟨n, h0, h1, h2, j.fd, j.ps, lvl prog r, by omega, J.binds, ?_, fun ds h => callF_len J.fn ds h⟩
          have := low n j J
          rw [ef] at this
          exact this }
    exact fn_step wld F _ fun ds h => by
      unfold callS
      rw [F.fn] <;> rfl
theorem fns_ok (W : Wl0 g cl K mg prog) : ∀ (r : Nat) (n : Nat) (i : FI), FIc g K prog n i → FnW P w K mg base (L2.CX P w) (lvl prog r) i.f i.fd i.ps (spOf K (xrel cl) (callF prog r) n i.ps.length)
  | 0, n, i, F => ⟨fun vs H Q E q => q.1, fun A outer s H args us vs Q E _ _ _ _ ⟨_, _, _, _, _, _, _, z⟩ => False.elim z⟩
  | r + 1, n, i, F => by
    cases e : Nat.beq (prog.rank n) r with
    | true => exact sp_to (callS_ok W r (fns_ok W r) (prog.deep r) n i F) (by funext ds h; show _ = (match Nat.beq (prog.rank n) r with | true => callS prog r (callF prog r) (prog.deep r) n ds h | false => callF prog r n ds h); rw [e])
    | false => exact sp_to ((fns_ok W r n i F).mono (by show lvl prog r ≤ lvl prog r + 1 + prog.deep r; omega)) (by funext ds h; show _ = (match Nat.beq (prog.rank n) r with | true => callS prog r (callF prog r) (prog.deep r) n ds h | false => callF prog r n ds h); rw [e])
end
end Pv
set_option Elab.async false
set_option linter.all false
set_option maxRecDepth 100000
set_option maxHeartbeats 2000000
namespace Pv
open PySem L2 PySem.Spec PyProof.Rows
/-! ### what the top has laid, asked of the kept part -/
def vOf : Value → V
  | .none => .non | .bool b => .bl b | .int i _ => .int i | .str x _ => .str x | .ref a => .ref a | .type n => .ty n | _ => .non
mutual
def gvB (K : PySem.W.Frag) : G → Value → Bool
  | .non, .none => true
  | .bl b, .bool c => b == c
  | .int i, .int j _ => i == j
  | .str n, .str x _ => encS n == x
  | .tup gs, .ref a => (match K.lookup a with
    | some ⟨.type c, _, .seq its _, _⟩ => decide (c = "tuple") && (decide (its.size ≤ sizeLine) && gvsB K gs its.toList)
    | _ => false)
  | _, _ => false
def gvsB (K : PySem.W.Frag) : List G → List Value → Bool
  | [], [] => true
  | g :: r, u :: t => gvB K g u && gvsB K r t
  | _, _ => false
end
mutual
theorem gvB_ok {K : PySem.W.Frag} : ∀ (g : G) (u : Value), gvB K g u = true → RelV (vOf u) u ∧ ∀ y H ρ, GR ⟨K, y⟩ H ρ g (vOf u)
  | .non, u, h => by
    cases u <;> simp [gvB] at h
    exact ⟨rfl, fun y H ρ => by unfold GR; rfl⟩
  | .bl b, u, h => by
    cases u <;> simp [gvB] at h
    subst h
    exact ⟨rfl, fun y H ρ => by unfold GR; rfl⟩
  | .int i, u, h => by
    cases u <;> simp [gvB] at h
    subst h
    exact ⟨⟨_, rfl⟩, fun y H ρ => by unfold GR; rfl⟩
  | .str n, u, h => by
    cases u <;> simp [gvB] at h
    subst h
    exact ⟨⟨_, rfl⟩, fun y H ρ => by unfold GR; rfl⟩
  | .tup gs, u, h => by
    cases u <;> simp only [gvB] at h <;> first | (cases h; done) | skip
    rename_i a
    split at h
    · rename_i c dd its n sl e
      simp only [Bool.and_eq_true, decide_eq_true_eq] at h
      obtain ⟨h1, h2, h3⟩ := h
      obtain ⟨q1, q2⟩ := gvsB_ok gs its.toList h3
      refine ⟨rfl, fun y H ρ => ?_⟩
      unfold GR
      exact ⟨a, _, rfl, .inr ⟨_, its, n, e, by rw [h1], rfl, h2, q1⟩, q2 y H ρ⟩
    · cases h
  | .lst gs, u, h => by cases u <;> simp [gvB] at h
  | .rng lo hi, u, h => by cases u <;> simp [gvB] at h
  | .set xs, u, h => by cases u <;> simp [gvB] at h
theorem gvsB_ok {K : PySem.W.Frag} : ∀ (gs : List G) (us : List Value), gvsB K gs us = true → Vals (us.map vOf) us ∧ ∀ y H ρ, GRs ⟨K, y⟩ H ρ gs (us.map vOf)
  | [], us, h => by
    cases us with
    | nil => exact ⟨.nil, fun y H ρ => GRs.nil⟩
    | cons u t => simp [gvsB] at h
  | g :: r, us, h => by
    cases us with
    | nil => simp [gvsB] at h
    | cons u t =>
      simp only [gvsB, Bool.and_eq_true] at h
      obtain ⟨a1, a2⟩ := gvB_ok g u h.1
      obtain ⟨b1, b2⟩ := gvsB_ok r t h.2
      exact ⟨.cons a1 b1, fun y H ρ => GRs.cons (a2 y H ρ) (b2 y H ρ)⟩
end
/-- a constant of the module -/
def gloB (K : PySem.W.Frag) (prog : Prog) (p : PySem.Str × Nat) : Bool := match PySem.W.nsIn K mainGlobals p.1, prog.glo p.2 with
  | some (some u), some g => gvB K g u
  | _, _ => false
def allTn : List Tn := [.non, .bl, .int, .str, .tup, .lst]
def allTy : List Ty := [.int, .bool, .str, .list, .tuple]
def kitB (K : PySem.W.Frag) : Bool := allTn.all fun n => allTy.all fun t => decide (PySem.W.kitOne K (tN n) (tyV1 t) = some (sT n t))
theorem kitB_ok {K : PySem.W.Frag} (h : kitB K = true) : ∀ n, (∀ k, n ≠ .ins k) → ∀ t, (tyName t).isSome = true → PySem.W.kitOne K (tN n) (tyV1 t) = some (sT n t) := fun n hn t ht => by
  have hn' : n ∈ allTn := by cases n <;> first | (simp [allTn]; done) | exact absurd rfl (hn _)
  have ht' : t ∈ allTy := by cases t <;> first | (simp [allTy]; done) | (cases ht; done)
  exact of_decide_eq_true (List.all_eq_true.mp (List.all_eq_true.mp h n hn') t ht')
/-- the classes by number -/
def clOf (K : PySem.W.Frag) (g : Gm) : Cl := { adr := fun c => (g.exc.find? fun p => p.2 == c).map fun p => He.ga K p.1, fld := fun c => g.fld.lookup c }
def veB : List Value := [.type "ValueError", .type "Exception", .type "BaseException", .type "object"]
def leB : List Value := [.type "LookupError", .type "Exception", .type "BaseException", .type "object"]
def excB (K : PySem.W.Frag) (g : Gm) (prog : Prog) (p : PySem.Str × Nat) : Bool :=
  let C := He.ga K p.1
  (He.Fa.glo p.1).ok K && PySem.W.keepIn K (.ref C) && decide (PySem.W.subIn K (.ref C) (.type "BaseException") = some true) && decide (PySem.W.typeIn K (.ref C) = some (.type "type")) &&
  (match g.fld.lookup p.2 with
    | none => PySem.W.excIn K C veB "ValueError.__new__" || PySem.W.excIn K C leB "LookupError.__new__"
    | some f => (PySem.W.excInitIn K C veB "ValueError.__new__" || PySem.W.excInitIn K C leB "LookupError.__new__") && decide (PySem.W.findIn K (.ref C) "__setattr__" = some (some (.builtin "object.__setattr__"))) && decide (PySem.W.findIn K (.ref C) f = some none) &&
      decide (PySem.W.findIn K (.ref C) "__init__" = some (some (.ref (He.ma K C "__init__")))) && decide (PySem.W.typeIn K (.ref (He.ma K C "__init__")) = some (.type "function"))) &&
  decide (PySem.W.findIn K (.ref C) "__getattribute__" = some (some (.builtin "BaseException.__getattribute__"))) && decide (PySem.W.findIn K (.ref C) "__getattr__" = some none) && PySem.W.hasDictIn K C &&
  decide (PySem.W.findIn K (.ref C) "__class__" = some (some (.builtin "object.__class__"))) && decide (PySem.W.specialIn K (.builtin "object.__class__") "__get__" = some (some (.builtin "getset_descriptor.__get__"))) &&
  decide (PySem.W.takesIn K (.builtin "object.__class__") = some true) && decide (PySem.W.mroIn K C (.type "object") = some true) &&
  (g.exc.all fun q => decide (PySem.W.exmOne K (.ref C) (.ref (He.ga K q.1)) = some (prog.exsub p.2 q.2)) && decide (PySem.W.kitOne K (.ref C) (.ref (He.ga K q.1)) = some (prog.exsub p.2 q.2))) &&
  decide (PySem.W.kitOne K (.ref C) (.type "ValueError") = some (prog.exv p.2)) && decide (PySem.W.kitOne K (.ref C) (.type "LookupError") = some (!prog.exv p.2)) && (g.exc.lookup p.1 == some p.2) && (g.exc.find? (fun q => q.2 == p.2) == some p)
/-- the classes of instances -/
def bmB (K : PySem.W.Frag) (c m : Nat) : Bool := (He.Fa.meth (encS c) (encS m)).ok K && decide (PySem.W.specialIn K (.ref (He.ma K (clA K c) (encS m))) "__get__" = some (some (.builtin "function.__get__"))) &&
  decide (PySem.W.takesIn K (.ref (He.ma K (clA K c) (encS m))) = some false) && !PySem.W.copiedNames.contains (encS m) && PySem.W.fnIn K (He.ma K (clA K c) (encS m))
def clsB (K : PySem.W.Frag) (e : Nat × List Nat × List (Nat × Nat)) : Bool := (He.Fa.cls (encS e.1)).ok K && (He.Fa.glo (encS e.1)).ok K && (He.Fa.mkr (encS e.1)).ok K && e.2.1.all (fun f => (He.Fa.noat (encS e.1) (encS f)).ok K) && e.2.2.all fun m => bmB K e.1 m.1
theorem bmB_ok {K : PySem.W.Frag} {c m : Nat} (h : bmB K c m = true) : BMeth K (clA K c) (encS m) (He.ma K (clA K c) (encS m)) := by
  unfold bmB at h
  simp only [Bool.and_eq_true, decide_eq_true_eq, Bool.not_eq_true'] at h
  obtain ⟨⟨⟨⟨h1, h2⟩, h3⟩, h4⟩, h5⟩ := h
  exact ⟨He.meth_ok h1, h2, h3, h4, h5⟩
theorem attrT_mem : ∀ {t : ClT} {c f : Nat}, attrT t c f = true → ∃ e ∈ t, e.1 = c ∧ f ∈ e.2.1
  | [], c, f, h => by cases h
  | (k, fs, ms) :: r, c, f, h => by
    unfold attrT at h
    split at h
    · rename_i e
      refine ⟨_, List.mem_cons_self, Nat.eq_of_beq_eq_true e, ?_⟩
      have go : ∀ {l : List Nat}, memN f l = true → f ∈ l := by
        intro l
        induction l with
        | nil => intro h; cases h
        | cons y l ih =>
          intro h
          unfold memN at h
          split at h
          · rename_i e
            rw [Nat.eq_of_beq_eq_true e]; exact List.mem_cons_self
          · exact List.mem_cons_of_mem _ (ih h)
      exact go h
    · obtain ⟨e, h1, h2⟩ := attrT_mem h
      exact ⟨e, List.mem_cons_of_mem _ h1, h2⟩
theorem methT_mem : ∀ {t : ClT} {c m n : Nat}, methT t c m = some n → ∃ e ∈ t, e.1 = c ∧ (m, n) ∈ e.2.2
  | [], c, f, n, h => by cases h
  | (k, fs, ms) :: r, c, m, n, h => by
    unfold methT at h
    split at h
    · rename_i e
      refine ⟨_, List.mem_cons_self, Nat.eq_of_beq_eq_true e, ?_⟩
      have go : ∀ {l : List (Nat × Nat)}, lookN m l = some n → (m, n) ∈ l := by
        intro l
        induction l with
        | nil => intro h; cases h
        | cons y l ih =>
          intro h
          obtain ⟨y1, y2⟩ := y
          unfold lookN at h
          split at h
          · rename_i e
            cases h
            rw [Nat.eq_of_beq_eq_true e]; exact List.mem_cons_self
          · exact List.mem_cons_of_mem _ (ih h)
      exact go h
    · obtain ⟨e, h1, h2⟩ := methT_mem h
      exact ⟨e, List.mem_cons_of_mem _ h1, h2⟩
def wl0B (K : PySem.W.Frag) (g : Gm) (prog : Prog) : Bool :=
  (bltNames.all fun x => He.eqO (PySem.W.nsIn K mainGlobals x) (some none)) && g.glo.all (gloB K prog) && kitB K && g.exc.all (excB K g prog) && g.cls.all (clsB K)
end Pv
set_option Elab.async false
set_option linter.all false
set_option maxRecDepth 100000
set_option maxHeartbeats 2000000
namespace Pv
open PySem L2 PySem.Spec PyProof.Rows
section
variable {g : Gm} {K : PySem.W.Frag} {mg : PySem.Str → Option Value} {prog : Prog} {h : Heap}
theorem fiok {x : PySem.Str} {params : Arguments} {body : List Stmt} {scope : PySem.Scope} {f : Addr} {fd : FuncData} {N ps : List PySem.Str} {n : Nat} {b : T} {pu : Bool} (F : FunD K x x params body scope [] [] f fd) (at_ : mg x = some (.ref f)) (S : FnScope N ps scope) (chk : chkB g b (sgOf N scope) body = true)
    (fn : prog.fn n = some ⟨ps.length, N.length, pu, denB b⟩) (bind : Binds K fd ps []) (kb : ∀ u ∈ kwOf g x, KB K fd ps u) : ∃ i, FIok g K mg prog x n i ∧ i.f = f ∧ i.ps = ps ∧ i.fd = fd := by
  obtain ⟨oc, od, dV, kV, doc, pm, an, cdv, ct, osl, rfl, lk, cd, _, _⟩ := F.ex
  exact ⟨⟨f, x, x, params, body, scope, dV, kV, doc, pm, cdv, ct, oc, an, od, osl, N, ps, b, pu⟩, ⟨⟨lk, cd, S, chk, fn, bind⟩, at_, F.kp, kb⟩, rfl, rfl, rfl⟩
/-- a method -/
theorem ficM {m qual : PySem.Str} {params : Arguments} {body : List Stmt} {scope : PySem.Scope} {f : Addr} {fd : FuncData} {N ps : List PySem.Str} {n : Nat} {b : T} {pu : Bool} (F : FunD K m qual params body scope [] [] f fd) (S : FnScope N ps scope) (chk : chkB g b (sgOf N scope) body = true)
    (fn : prog.fn n = some ⟨ps.length, N.length, pu, denB b⟩) (bind : Binds K fd ps []) : ∃ i, FIc g K prog n i ∧ i.f = f := by
  obtain ⟨oc, od, dV, kV, doc, pm, an, cdv, ct, osl, rfl, lk, cd, _, _⟩ := F.ex
  exact ⟨⟨f, m, qual, params, body, scope, dV, kV, doc, pm, cdv, ct, oc, an, od, osl, N, ps, b, pu⟩, ⟨lk, cd, S, chk, fn, bind⟩, rfl⟩
theorem kbN {x qual : PySem.Str} {params : Arguments} {body : List Stmt} {scope : PySem.Scope} {kws : List (PySem.Str × V)} {f : Addr} {fd : FuncData} {ps : List PySem.Str} {q : Nat × List PySem.Str × List Nat} (F : FunD K x qual params body scope [] kws f fd)
    (h : ∀ (kV doc pm : Value) (an : Option Addr) (cdv ct : Value) (us ws : List Value), us.length = q.1 → ws.length = q.2.1.length → bindArgs (PySem.W.fnOf x qual params body scope .none kV doc pm an cdv ct) ⟨us, q.2.1.zip ws⟩ = pure (ps.zip (permA (us ++ ws) q.2.2))) : KB K fd ps q := by
  obtain ⟨oc, od, dV, kV, doc, pm, an, cdv, ct, osl, rfl, lk, hcd, hD, hK⟩ := F.ex
  rcases hD with ⟨_, rfl⟩ | ⟨e, _⟩
  · exact fun us ws h1 h2 => h kV doc pm an cdv ct us ws h1 h2
  · exact absurd rfl e
theorem exc_base {C : Addr} (h : (PySem.W.excIn K C veB "ValueError.__new__" || PySem.W.excIn K C leB "LookupError.__new__") = true) : ∃ bmB B newId initId, ExcBaseFacts B newId initId bmB ∧ PySem.W.excIn K C bmB newId = true := by
  rcases Bool.or_eq_true_iff.mp h with h | h
  · exact ⟨_, _, _, _, PySem.F.excBase_ValueError, h⟩
  · exact ⟨_, _, _, _, PySem.F.excBase_LookupError, h⟩
theorem oexB_of {C : Addr} {bmB : List Value} {newId : String} (h : PySem.W.excInitIn K C bmB newId = true) (hd : PySem.W.hasDictIn K C = true) :
    ∃ nm q N bs bm sn sub ab col dd k0 k1 k2 k3 k5, K.lookup C = some (excClassObj nm q C N bs bm true sn sub ab col dd k0 k1 k2 k3 k5 newId) ∧ PySem.W.excTail bmB bm = true := by
  unfold PySem.W.excInitIn at h
  split at h
  · rename_i dd cd sl ho
    split at h
    · rename_i C' bm k0 k1 k2 k3 n k5 hm hs
      simp only [Bool.and_eq_true, beq_iff_eq, Bool.not_eq_true'] at h
      obtain ⟨⟨⟨rfl, rfl⟩, h1⟩, h2⟩ := h
      obtain ⟨nm, bs, mro, ns, qn, hdt, sn, sub, ab, col, del⟩ := cd
      dsimp only at hm h1
      subst hm h1
      have e1 : sl = #[k0, k1, k2, k3, some (.builtin n), k5] := by
        obtain ⟨l⟩ := sl
        simp only at hs
        rw [hs]
      subst e1
      have e2 : hdt = true := by
        unfold PySem.W.hasDictIn at hd
        unfold PySem.W.clsIn at hd
        rw [ho] at hd
        simpa using hd
      subst e2
      exact ⟨nm, qn, ns, bs, bm, sn, sub, ab, col, dd, k0, k1, k2, k3, k5, ho, h2⟩
    · cases h
  · cases h
/-- an __init__ that stores its one argument -/
theorem init_ok {P : Program} {w : World} {base : Heap} {x qual : PySem.Str} {params : Arguments} {scope : PySem.Scope} {fI C : Addr} {fd : FuncData} {a b f : PySem.Str} {p1 p2 p3 pos : Pos} {B newId : String} {bmB : List Value} (F : FunD K x qual params [.Assign [.Attribute (.Name a p1) f p2] (.Name b p3) pos] scope [] [] fI fd)
    (S : FnScope [a, b] [a, b] scope) (SF : StoF B bmB) (T : OexB K C bmB newId) (hno : PySem.W.findIn K (.ref C) f = some none) (ha : (a == ("__debug__" : PySem.Str)) = false ∧ (a == ("__classdict__" : PySem.Str)) = false) (hb : (b == ("__debug__" : PySem.Str)) = false ∧ (b == ("__classdict__" : PySem.Str)) = false) :
    FnOk P w K mg base (L2.CX P w) 1 fI fd [a, b] (spInit C f) := by
  have vis : ∀ y ∈ [a, b], Vis scope y := fun y hy => (S.par y hy).elim .inl fun z => .inr (.inl z)
  refine F.ok S (fun vs H Q E h => ?_) (fun cdv A outer s H vs Q E hr h => ⟨_, pss_one (ps_ostB SF T hno (pe_var (i := 0) rfl (vis a (by simp)) ha.1 ha.2) (pe_var (i := 1) rfl (vis b (by simp)) hb.1 hb.2) rfl), ?_⟩)
  · obtain ⟨_, _, rfl, _⟩ := h; rfl
  · obtain ⟨e, v, rfl, h1, h2⟩ := h
    exact ⟨v, rfl, .ref e, rfl, e, rfl, h1, h2⟩
theorem exf_of {g : Gm} {prog : Prog} {x f : PySem.Str} {c : Nat} {qual : PySem.Str} {params : Arguments} {scope : PySem.Scope} {fd : FuncData} {a b : PySem.Str} {p1 p2 p3 pos : Pos} (hb : excB K g prog (x, c) = true) (hf : g.fld.lookup c = some f)
    (F : FunD K "__init__" qual params [.Assign [.Attribute (.Name a p1) f p2] (.Name b p3) pos] scope [] [] (He.fAd K (x, some "__init__")) fd) (S : FnScope [a, b] [a, b] scope) (hbn : Binds K fd [a, b] [])
    (h1 : (a == ("__debug__" : PySem.Str)) = false ∧ (a == ("__classdict__" : PySem.Str)) = false) (h2 : (b == ("__debug__" : PySem.Str)) = false ∧ (b == ("__classdict__" : PySem.Str)) = false) (P : Program) (w : World) (base : Heap) : ExF P w K mg base (He.ga K x) f := by
  unfold excB at hb
  simp only [Bool.and_eq_true, decide_eq_true_eq, hf] at hb
  obtain ⟨⟨⟨⟨⟨⟨⟨⟨⟨⟨⟨⟨⟨⟨⟨⟨b1, b2⟩, b3⟩, b4⟩, ⟨⟨⟨⟨c1, c2⟩, c3⟩, c4⟩, c5⟩⟩, _⟩, _⟩, b7⟩, _⟩, _⟩, _⟩, _⟩, _⟩, _⟩, _⟩, _⟩, _⟩ := hb
  rcases Bool.or_eq_true_iff.mp c1 with h | h
  · have T : OexB K (He.ga K x) veB "ValueError.__new__" := ⟨oexB_of h b7, c2, b3, b4, b2⟩
    exact ⟨⟨_, _, _, _, _, fd, [a, b], PySem.F.excBase_ValueError, T, c4, c5, hbn, init_ok F S PySem.F.store_ValueError T c3 h1 h2⟩⟩
  · have T : OexB K (He.ga K x) leB "LookupError.__new__" := ⟨oexB_of h b7, c2, b3, b4, b2⟩
    exact ⟨⟨_, _, _, _, _, fd, [a, b], PySem.F.excBase_LookupError, T, c4, c5, hbn, init_ok F S PySem.F.store_LookupError T c3 h1 h2⟩⟩
theorem wl0_of (X : K.In h) (G : h.Ns mainGlobals mg) (hb : wl0B K g prog = true) (fns : ∀ q ∈ g.fns, ∃ i, FIok g K mg prog q.1 q.2.1 i) (hf : prog.fuel ≤ 16000000) (hs : ∀ c j, prog.exsub c j = true → c = j)
    (hi : ∀ p ∈ g.exc, ∀ f, g.fld.lookup p.2 = some f → excB K g prog p = true → ∀ (P : Program) (w : World) (base : Heap), ExF P w K mg base (He.ga K p.1) f)
    (ha : prog.attr = attrT g.cls) (hm : prog.meth = methT g.cls) (hn : prog.init = initT g.cls) (mt : ∀ e ∈ g.cls, ∀ m ∈ e.2.2, ∃ i, FIc g K prog m.2 i ∧ i.f = He.ma K (clA K e.1) (encS m.1)) : Wl0 g (clOf K g) K mg prog := by
  unfold wl0B at hb
  simp only [Bool.and_eq_true] at hb
  obtain ⟨⟨⟨⟨h1, h2⟩, h3⟩, h4⟩, h5⟩ := hb
  have hc : ∀ e ∈ g.cls, Cls K (clA K e.1) ∧ mg (encS e.1) = some (.ref (clA K e.1)) ∧ Mk K (clA K e.1) (He.ma K (clA K e.1) "__init__") ∧ (∀ f ∈ e.2.1, NoAttr K (clA K e.1) (encS f)) ∧ ∀ m ∈ e.2.2, BMeth K (clA K e.1) (encS m.1) (He.ma K (clA K e.1) (encS m.1)) := fun e he => by
    have q := List.all_eq_true.mp h5 e he
    unfold clsB at q
    simp only [Bool.and_eq_true] at q
    obtain ⟨⟨⟨⟨q1, q2⟩, q3⟩, q4⟩, q5⟩ := q
    exact ⟨He.cls_ok q1, He.glo_ok X G q2, He.mkr_ok q3, fun f hf => He.noat_ok (List.all_eq_true.mp q4 f hf), fun m hm => bmB_ok (List.all_eq_true.mp q5 m hm)⟩
  have cl_of : ∀ x c, g.exc.lookup x = some c → clOf K g c = some (He.ga K x) ∧ excB K g prog (x, c) = true := fun x c e => by
    have hm := PySem.mem_of_lookup e
    have hb := List.all_eq_true.mp h4 (x, c) hm
    refine ⟨?_, hb⟩
    unfold excB at hb
    simp only [Bool.and_eq_true, beq_iff_eq] at hb
    show ((g.exc.find? fun p => p.2 == c).map fun p => He.ga K p.1) = _
    rw [hb.2]; rfl
  have of_cl : ∀ c C, clOf K g c = some C → ∃ p ∈ g.exc, p.2 = c ∧ C = He.ga K p.1 := fun c C e => by
    have e : ((g.exc.find? fun p => p.2 == c).map fun p => He.ga K p.1) = some C := e
    cases q : g.exc.find? (fun p => p.2 == c) with
    | none => rw [q] at e; cases e
    | some p =>
      rw [q] at e
      cases e
      exact ⟨p, List.mem_of_find?_eq_some q, by have := List.find?_some q; simpa using this, rfl⟩
  have at_ : ∀ c f, prog.attr c f = true → Cls K (clA K c) ∧ NoAttr K (clA K c) (encS f) := fun c f e => by
    rw [ha] at e
    obtain ⟨x, hx, rfl, hf⟩ := attrT_mem e
    exact ⟨(hc x hx).1, (hc x hx).2.2.2.1 f hf⟩
  have mt_ : ∀ c m n, prog.meth c m = some n → ∃ i, FIc g K prog n i ∧ i.f = He.ma K (clA K c) (encS m) ∧ Cls K (clA K c) ∧ BMeth K (clA K c) (encS m) (He.ma K (clA K c) (encS m)) := fun c m n e => by
    rw [hm] at e
    obtain ⟨x, hx, rfl, hf⟩ := methT_mem e
    obtain ⟨i, h1, h2⟩ := mt x hx (m, n) hf
    exact ⟨i, h1, h2, (hc x hx).1, (hc x hx).2.2.2.2 (m, n) hf⟩
  have in_ : ∀ c, (initT g.cls c).isSome = true → ∃ n i, prog.init c = some n ∧ FIc g K prog n i ∧ i.f = He.ma K (clA K c) "__init__" ∧ mg (encS c) = some (.ref (clA K c)) ∧ Mk K (clA K c) (He.ma K (clA K c) "__init__") := fun c e => by
    obtain ⟨n, hi⟩ := Option.isSome_iff_exists.mp e
    obtain ⟨x, hx, rfl, hf⟩ := methT_mem hi
    obtain ⟨i, h1, h2⟩ := mt x hx (INIT, n) hf
    have e2 : encS INIT = ("__init__" : PySem.Str) := by decide +kernel
    exact ⟨n, i, by rw [hn]; exact hi, h1, by rw [h2, e2], (hc x hx).2.1, (hc x hx).2.2.1⟩
  refine { blt := fun x hx => PySem.W.mg_none_of X G (He.eqO_ok (List.all_eq_true.mp h1 x hx)), glo := fun x n e => ?_, fns := fns, fuel := hf, kit := kitB_ok h3, exc := fun x c e => ?_, exs := hs, fld := fun c => rfl, fldC := fun c C f e ef => ?_, excC := fun c C e => ?_, attr := at_, mth := mt_, ini := in_ }
  · have q := List.all_eq_true.mp h2 (x, n) (PySem.mem_of_lookup e)
    unfold gloB at q
    split at q
    · rename_i u gg e1 e2
      obtain ⟨q1, q2⟩ := gvB_ok gg u q
      exact ⟨u, vOf u, gg, PySem.W.mg_of X G e1, q1, e2, q2⟩
    · cases q
  · obtain ⟨a1, hb⟩ := cl_of x c e
    have hb0 := hb
    unfold excB at hb
    simp only [Bool.and_eq_true, decide_eq_true_eq] at hb
    obtain ⟨⟨⟨⟨⟨⟨⟨⟨⟨⟨⟨⟨⟨⟨⟨⟨b1, b2⟩, b3⟩, b4⟩, b5⟩, _⟩, _⟩, _⟩, _⟩, _⟩, _⟩, _⟩, _⟩, _⟩, _⟩, _⟩, _⟩ := hb
    refine ⟨_, a1, He.glo_ok X G b1, b2, fun hf => ?_, fun f hf => hi (x, c) (PySem.mem_of_lookup e) f hf hb0, b3, b4⟩
    have hf : g.fld.lookup c = none := hf
    rw [hf] at b5
    exact exc_base b5
  · obtain ⟨p, hp, rfl, rfl⟩ := of_cl c C e
    have hb := List.all_eq_true.mp h4 p hp
    have ef : g.fld.lookup p.2 = some f := ef
    unfold excB at hb
    simp only [Bool.and_eq_true, decide_eq_true_eq, ef] at hb
    obtain ⟨⟨⟨⟨⟨⟨⟨⟨⟨⟨⟨⟨⟨⟨⟨⟨b1, b2⟩, b3⟩, b4⟩, ⟨⟨⟨⟨c1, c2⟩, c3⟩, c4⟩, c5⟩⟩, b5⟩, b6⟩, b7⟩, _⟩, _⟩, _⟩, _⟩, _⟩, _⟩, _⟩, _⟩, _⟩ := hb
    exact ⟨⟨b5, b6, b3, b7⟩, c3⟩
  · obtain ⟨p, hp, rfl, rfl⟩ := of_cl c C e
    have hb := List.all_eq_true.mp h4 p hp
    unfold excB at hb
    simp only [Bool.and_eq_true, decide_eq_true_eq] at hb
    obtain ⟨⟨⟨⟨⟨⟨⟨⟨⟨⟨⟨⟨⟨⟨⟨⟨b1, b2⟩, c3⟩, b4⟩, _⟩, b3⟩, b4'⟩, b5⟩, b6⟩, b7⟩, b8⟩, b9⟩, b10⟩, b11⟩, b12⟩, b13⟩, b14⟩ := hb
    refine ⟨⟨b3, b4', c3, b5, b6, b7, b8, b9⟩, fun k Ck ek => ?_, b11, b12⟩
    obtain ⟨q, hq, rfl, rfl⟩ := of_cl k Ck ek
    have := List.all_eq_true.mp b10 q hq
    simp only [Bool.and_eq_true, decide_eq_true_eq] at this
    exact this
end
/-! ### the hook -/
abbrev AlX : Type := He.AlD × Bool
def obsX (fa : List He.Fa) (fn : List He.DefD) (more : PySem.W.Frag → Bool) (K : PySem.W.Frag) : AlX := (He.obsD fa fn K, more K)
def SaysX (fa : List He.Fa) (fn : List He.DefD) (more : PySem.W.Frag → Bool) (K : PySem.W.Frag) : Prop := He.SaysD fa fn K ∧ more K = true
def obsXG (n : Nat) (fa : List He.Fa) (fn : List He.DefD) (more : PySem.W.Frag → Bool) (g : Addr → Option Obj) : AlX := obsX fa fn more (He.frG g (He.asD g n))
def hookX (n : Nat) (fa : List He.Fa) (fn : List He.DefD) (more : PySem.W.Frag → Bool) : PySem.W.Hook where
  α := AlX
  obs := fun s => obsXG n fa fn more s.heap.get?
  val := fun _ => (He.valD fn, true)
  says := fun _ h => ∃ K : PySem.W.Frag, K.In h ∧ SaysX fa fn more K
  of := fun _ _ e => ⟨_, He.frG_in, (Prod.mk.inj e).1, (Prod.mk.inj e).2⟩
  keeps := fun _ _ _ ⟨K, hK, c⟩ k => ⟨K, PySem.W.Frag.In.keeps hK k, c⟩
theorem obsXG_eq {n : Nat} {fa : List He.Fa} {fn : List He.DefD} {more : PySem.W.Frag → Bool} {g : Addr → Option Obj} {s : Shared} (h : ∀ a, g a = s.heap.get? a) : obsXG n fa fn more g = (hookX n fa fn more).obs s := by
  have e : g = s.heap.get? := funext h
  rw [e]; rfl
end Pv
set_option Elab.async false
set_option linter.all false
set_option maxRecDepth 100000
set_option maxHeartbeats 2000000
namespace Pv
open PySem L2 PySem.Spec PyProof.Rows
/-- the module holds no list -/
def noList (K : PySem.W.Frag) : Bool := K.all fun p => !decide (p.2.cls = .type "list")
theorem of_lookup : ∀ {K : PySem.W.Frag} {a : Addr} {o : Obj}, K.lookup a = some o → (a, o) ∈ K
  | [], a, o, h => nomatch (show (none : Option Obj) = some o from h)
  | (b, u) :: r, a, o, h => by
    cases e : (a == b) with
    | true =>
      have h' : (match (a == b) with | true => some u | false => r.lookup a) = some o := h
      rw [e] at h'
      cases h'
      rw [beq_iff_eq.mp e]; exact List.mem_cons_self
    | false =>
      have h' : (match (a == b) with | true => some u | false => r.lookup a) = some o := h
      rw [e] at h'
      exact List.mem_cons_of_mem _ (of_lookup h')
theorem noList_ok {K : PySem.W.Frag} (h : noList K = true) {a : Addr} {o : Obj} (e : K.lookup a = some o) (c : o.cls = .type "list") : False := by
  have := List.all_eq_true.mp h (a, o) (of_lookup e)
  rw [decide_eq_true c] at this
  cases this
def moreB (g : Gm) (prog : Prog) (K : PySem.W.Frag) : Bool := wl0B K g prog && noList K
theorem grs_ints {K : Kx} {H : L2.Hp} {ρ : List Addr} : ∀ (ns : List Int), GRs K H ρ (ns.map G.int) (ns.map V.int)
  | [] => GRs.nil
  | n :: ns => GRs.cons (by unfold GR; rfl) (grs_ints ns)
/-- the law's promise from what the evaluator says -/
theorem sp_law {K : PySem.W.Frag} {ξ : Kx → XRel} {call : Nat → List D → Hp → Out} {i : Nat} {H : L2.Hp} {a : Addr} {ns : List Int} (hk : noList K = true) (hO : Only H) (hS : SqL K H a (ns.map V.int)) {h2 : Hp}
    (hc : call i [.g (.lst (ns.map .int))] [] = .val (.g (.bl true)) h2) : spOf K ξ call i 1 [.ref a] H (fun v _ => v = .bl true) fun _ _ _ => False := by
  have fz : ∃ o, H a = some (.frz o (.lst (ns.map V.int))) := by
    rcases hS with (h | h) | ⟨o, its, n, h1, h2, _⟩
    · rcases hO a with z | ⟨o, xs, z⟩
      · rw [h] at z; cases z
      · rw [h] at z; cases z
    · exact h
    · exact (noList_ok hk h1 h2).elim
  refine ⟨rfl, [], [], [], [.g (.lst (ns.map .int))], ⟨rfl, List.nodup_nil, fun a h => by simp at h, fun i o a h => by simp at h⟩, DRs.one ?_, ?_⟩
  · unfold DR GR
    exact ⟨a, _, rfl, .inr fz, grs_ints ns⟩
  · rw [hc]
    exact fun v ρ' H' x hr dr => by unfold DR GR at dr; exact dr
theorem cx_end {P : Program} {w : World} (H : L2.Hp) (s : Shared) (e : Value) (s' : Shared) : L2.CX P w [] H s (fun _ _ _ => False) e s' → False := by
  intro h
  obtain ⟨_, _, _, _, _, _, _, _, _, _, _, _, h⟩ := h
  exact h
open PySem.W in
theorem walk_main {l : OpenLaw} {m k : Nat} {q : Program} {loose : List PySem.Str} {XP : (PySem.Str → Option Value) → Heap → Prop} {YP : World → Heap → Prop} {d : DefRec} {x : PySem.Str} (h1 : l.most = some m) (h2 : m ≤ sizeLine) (h3 : d.params.defaults = []) (h4 : RoomW (k + 16) callerA)
    (F : ∀ (w : World) (mg : PySem.Str → Option Value) (f : Addr) (h : Heap), YP w h → h.Ns mainGlobals mg → mg d.name = some (.ref f) → ∃ (K : PySem.W.Frag) (fd : FuncData) (sp : Sp), K.In h ∧ (∀ (s : Shared) (u : Value), BindsTo s fd ⟨[u], []⟩ [(x, u)]) ∧
      (∀ (H : L2.Hp) (a : Addr) (is : List Int), is.length ≤ m → Only H → SqL K H a (is.map V.int) → sp [.ref a] H (fun v _ => v = .bl true) fun _ _ _ => False) ∧ ∀ base : Heap, K.In base → base.Ns mainGlobals mg → FnW l.prog w K mg base (L2.CX l.prog w) k f fd [x] sp) :
    WalkO q loose XP YP l.row.toRowW d [] (fun f vs => PySem.call f vs) := by
  refine Att.attach_call h1 h3 fun w t0 t1 mg mb f o pm cd doc a vs is G Y ho hd hcd z1 z2 z3 z4 z5 => ?_
  obtain ⟨K, fd, sp, KX, c1, c2, c3⟩ := F w mg f _ Y G.T.g z1
  have far : 301 + (k + 16) + 32 < 1000 := h4.far
  exact law_call (k := k / 3 + 12) KX G.T.g G.T.b G.T.builtins G.T.nolimit z5 z2 z3 (Nat.le_trans z4 h2) ⟨h4.free, by show 301 + 3 * (k / 3 + 12) + 5 < 1000; omega, by show 4 + 16 * (k / 3 + 12) + 200 < 9900; omega⟩ (fun b hb hn => (c3 b hb hn).narrow) c1 (fun H p r => c2 H a is z4 p r) fun H e s' => cx_end H t1 e s'
end Pv
set_option linter.all false
set_option maxRecDepth 100000
namespace Lk06
open Pv

/-- 0 BadText.__init__: 0 self, 1 line -/
def b0 : T := (.cns (.asg (.tf (.var 0) 150734766675312181350) (.var 1))
  .nil)
/-- 1 is_number: 0 thing -/
def b1 : T := (.cns (.ret (.and (.isa (.var 0) [.int]) (.una false (.isa (.var 0) [.bool]))))
  .nil)
/-- 2 tuple_of: 0 thing, 1 part -/
def b2 : T := (.cns (.iff (.isa (.var 0) [.list, .tuple]) (.cns (.ret (.blt .tuple (.cns (.cpr (.app 2 (.cns (.var 1) .nil)) (.tn 1) (.itx (.var 0)) (.con (.bl true)) [1]) .nil)))
  .nil) .nil)
  (.cns (.ret (.var 0))
  .nil))
/-- 3 is_tuple_of: 0 thing, 1 many -/
def b3 : T := (.cns (.ret (.and (.isa (.var 0) [.tuple]) (.cmp .eq (.blt .len (.cns (.var 0) .nil)) (.var 1))))
  .nil)
/-- 4 is_finger: 0 thing -/
def b4 : T := (.cns (.ret (.and (.isa (.var 0) [.str]) (.cmp .isin (.var 0) (.glo 2))))
  .nil)
/-- 5 is_letter_set: 0 wide, 1 thing, 2 near, 3 far, 4 own -/
def b5 : T := (.cns (.iff (.or (.una false (.isa (.var 1) [.tuple])) (.una false (.blt .all (.cns (.cpr (.and (.app 1 (.cns (.var 4) .nil)) (.chn .le .le (.con (.int 1)) (.var 4) (.var 0))) (.tn 4) (.itx (.var 1)) (.con (.bl true)) [4]) .nil)))) (.cns (.ret (.con (.bl false)))
  .nil) .nil)
  (.cns (.ret (.blt .all (.cns (.cpr (.cmp .lt (.var 2) (.var 3)) (.tt (.cns (.tn 2) (.cns (.tn 3) .nil))) (.itz (.var 1) (.sli (.var 1) (.con (.int 1)) .nil)) (.con (.bl true)) [2, 3]) .nil)))
  .nil))
/-- 6 parts_of_saying: 0 wide, 1 thing, 2 word, 3 good -/
def b6 : T := (.cns (.iff (.or (.una false (.isa (.var 1) [.tuple])) (.or (.cmp .eq (.var 1) (.tup .nil)) (.una false (.isa (.sub (.var 1) (.con (.int 0))) [.str])))) (.cns (.ret (.con .non))
  .nil) .nil)
  (.cns (.asg (.tn 2) (.sub (.var 1) (.con (.int 0))))
  (.cns (.iff (.cmp .eq (.var 2) (.con (.str 151432070561908))) (.cns (.ret (.ife (.cmp .eq (.blt .len (.cns (.var 1) .nil)) (.con (.int 1))) (.lst .nil) (.con .non)))
  .nil) .nil)
  (.cns (.iff (.cmp .eq (.var 2) (.con (.str 187098851983795969899026387959923))) (.cns (.asg (.tn 3) (.and (.app 3 (.cns (.var 1) (.cns (.con (.int 3)) .nil))) (.and (.app 4 (.cns (.sub (.var 1) (.con (.int 1))) .nil)) (.app 5 (.cns (.var 0) (.cns (.sub (.var 1) (.con (.int 2))) .nil))))))
  (.cns (.ret (.ife (.var 3) (.lst .nil) (.con .non)))
  .nil)) .nil)
  (.cns (.iff (.cmp .isin (.var 2) (.tup (.cns (.con (.str 169933834109170924119864192991334)) (.cns (.con (.str 160414962669402849382)) .nil)))) (.cns (.asg (.tn 3) (.and (.app 3 (.cns (.var 1) (.cns (.con (.int 3)) .nil))) (.and (.app 4 (.cns (.sub (.var 1) (.con (.int 1))) .nil)) (.and (.app 4 (.cns (.sub (.var 1) (.con (.int 2))) .nil)) (.cmp .ne (.sub (.var 1) (.con (.int 1))) (.sub (.var 1) (.con (.int 2))))))))
  (.cns (.ret (.ife (.var 3) (.lst .nil) (.con .non)))
  .nil)) .nil)
  (.cns (.iff (.cmp .eq (.var 2) (.con (.str 137778380669045))) (.cns (.ret (.ife (.cmp .eq (.blt .len (.cns (.var 1) .nil)) (.con (.int 2))) (.lst (.cns (.sub (.var 1) (.con (.int 1))) .nil)) (.con .non)))
  .nil) .nil)
  (.cns (.iff (.cmp .isin (.var 2) (.tup (.cns (.con (.str 121642187423845)) (.cns (.con (.str 124780659)) .nil)))) (.cns (.ret (.ife (.cmp .eq (.blt .len (.cns (.var 1) .nil)) (.con (.int 3))) (.blt .list (.cns (.sli (.var 1) (.con (.int 1)) .nil) .nil)) (.con .non)))
  .nil) .nil)
  (.cns (.iff (.cmp .isin (.var 2) (.tup (.cns (.con (.str 160414980046840528998)) (.cns (.con (.str 157150596765217453102006394)) .nil)))) (.cns (.ret (.ife (.and (.cmp .eq (.blt .len (.cns (.var 1) .nil)) (.con (.int 3))) (.app 4 (.cns (.sub (.var 1) (.con (.int 1))) .nil))) (.lst (.cns (.sub (.var 1) (.con (.int 2))) .nil)) (.con .non)))
  .nil) .nil)
  (.cns (.ret (.con .non))
  .nil)))))))))
/-- 7 is_saying: 0 wide, 1 thing, 2 line, 3 parts -/
def b7 : T := (.cns (.asg (.tn 2) (.box (.lst (.cns (.var 1) .nil))))
  (.cns (.whl (.cmp .ne (.var 2) (.lst .nil)) (.cns (.asg (.tn 3) (.app 6 (.cns (.var 0) (.cns (.mtd (.var 2) .pop .nil) .nil))))
  (.cns (.iff (.cmp .isn (.var 3) (.con .non)) (.cns (.ret (.con (.bl false)))
  .nil) .nil)
  (.cns (.xpr (.mtd (.var 2) .extend (.cns (.var 3) .nil)))
  .nil))))
  (.cns (.ret (.con (.bl true)))
  .nil)))
/-- 8 sure_saying: 0 saying, 1 own -/
def b8 : T := (.cns (.asg (.tn 1) (.app 2 (.cns (.var 0) .nil)))
  (.cns (.iff (.una false (.app 7 (.cns (.glo 3) (.cns (.var 1) .nil)))) (.cns (.rai 1 .nil)
  .nil) .nil)
  (.cns (.ret (.var 1))
  .nil)))
/-- 9 parts_of_mood: 0 wide, 1 thing, 2 word -/
def b9 : T := (.cns (.iff (.or (.una false (.isa (.var 1) [.tuple])) (.or (.cmp .eq (.var 1) (.tup .nil)) (.una false (.isa (.sub (.var 1) (.con (.int 0))) [.str])))) (.cns (.ret (.con .non))
  .nil) .nil)
  (.cns (.asg (.tn 2) (.sub (.var 1) (.con (.int 0))))
  (.cns (.iff (.cmp .eq (.var 2) (.con (.str 151432070561908))) (.cns (.ret (.ife (.cmp .eq (.blt .len (.cns (.var 1) .nil)) (.con (.int 1))) (.lst .nil) (.con .non)))
  .nil) .nil)
  (.cns (.iff (.cmp .eq (.var 2) (.con (.str 187098851983795969899026387959923))) (.cns (.ret (.ife (.and (.app 3 (.cns (.var 1) (.cns (.con (.int 2)) .nil))) (.app 5 (.cns (.var 0) (.cns (.sub (.var 1) (.con (.int 1))) .nil)))) (.lst .nil) (.con .non)))
  .nil) .nil)
  (.cns (.iff (.cmp .isin (.var 2) (.tup (.cns (.con (.str 137778380669045)) (.cns (.glo 6) (.cns (.glo 7) .nil))))) (.cns (.ret (.ife (.cmp .eq (.blt .len (.cns (.var 1) .nil)) (.con (.int 2))) (.lst (.cns (.sub (.var 1) (.con (.int 1))) .nil)) (.con .non)))
  .nil) .nil)
  (.cns (.iff (.cmp .isin (.var 2) (.tup (.cns (.con (.str 121642187423845)) (.cns (.con (.str 124780659)) .nil)))) (.cns (.ret (.ife (.cmp .eq (.blt .len (.cns (.var 1) .nil)) (.con (.int 3))) (.blt .list (.cns (.sli (.var 1) (.con (.int 1)) .nil) .nil)) (.con .non)))
  .nil) .nil)
  (.cns (.ret (.con .non))
  .nil)))))))
/-- 10 is_mood: 0 wide, 1 thing, 2 line, 3 parts -/
def b10 : T := (.cns (.asg (.tn 2) (.box (.lst (.cns (.var 1) .nil))))
  (.cns (.whl (.cmp .ne (.var 2) (.lst .nil)) (.cns (.asg (.tn 3) (.app 9 (.cns (.var 0) (.cns (.mtd (.var 2) .pop .nil) .nil))))
  (.cns (.iff (.cmp .isn (.var 3) (.con .non)) (.cns (.ret (.con (.bl false)))
  .nil) .nil)
  (.cns (.xpr (.mtd (.var 2) .extend (.cns (.var 3) .nil)))
  .nil))))
  (.cns (.ret (.con (.bl true)))
  .nil)))
/-- 11 sure_mood: 0 mood, 1 own -/
def b11 : T := (.cns (.asg (.tn 1) (.app 2 (.cns (.var 0) .nil)))
  (.cns (.iff (.una false (.app 10 (.cns (.glo 3) (.cns (.var 1) .nil)))) (.cns (.rai 1 .nil)
  .nil) .nil)
  (.cns (.ret (.var 1))
  .nil)))
/-- 12 is_end: 0 thing -/
def b12 : T := (.cns (.ret (.and (.isa (.var 0) [.str]) (.cmp .isin (.var 0) (.tup (.cns (.glo 4) (.cns (.glo 5) .nil))))))
  .nil)
/-- 13 is_term: 0 wide, 1 thing -/
def b13 : T := (.cns (.ret (.and (.app 3 (.cns (.var 1) (.cns (.con (.int 2)) .nil))) (.and (.app 12 (.cns (.sub (.var 1) (.con (.int 0))) .nil)) (.app 10 (.cns (.var 0) (.cns (.sub (.var 1) (.con (.int 1))) .nil))))))
  .nil)
/-- 14 sure_term: 0 term, 1 own -/
def b14 : T := (.cns (.asg (.tn 1) (.app 2 (.cns (.var 0) .nil)))
  (.cns (.iff (.una false (.app 13 (.cns (.glo 3) (.cns (.var 1) .nil)))) (.cns (.rai 1 .nil)
  .nil) .nil)
  (.cns (.ret (.var 1))
  .nil)))
/-- 15 letters_written: 0 letters, 1 letter -/
def b15 : T := (.cns (.ret (.ife (.cmp .ne (.var 0) (.tup .nil)) (.mtd (.con (.str 45)) .join (.cns (.cpr (.blt .str (.cns (.var 1) .nil)) (.tn 1) (.itx (.var 0)) (.con (.bl true)) [1]) .nil)) (.glo 11)))
  .nil)
/-- 16 bare_written: 0 own -/
def b16 : T := (.cns (.iff (.cmp .eq (.sub (.var 0) (.con (.int 0))) (.con (.str 151432070561908))) (.cns (.ret (.sub (.var 0) (.con (.int 0))))
  .nil) .nil)
  (.cns (.iff (.cmp .eq (.sub (.var 0) (.con (.int 0))) (.con (.str 187098851983795969899026387959923))) (.cns (.ret (.bin .add (.app 15 (.cns (.sub (.var 0) (.una true (.con (.int 1)))) .nil)) (.ife (.cmp .eq (.blt .len (.cns (.var 0) .nil)) (.con (.int 3))) (.bin .add (.bin .add (.bin .add (.con (.str 33)) (.glo 12)) (.con (.str 33))) (.sub (.var 0) (.con (.int 1)))) (.con (.str 0)))))
  .nil) .nil)
  (.cns (.ret (.bin .add (.bin .add (.bin .add (.bin .add (.sub (.var 0) (.con (.int 1))) (.con (.str 33))) (.sub (.var 0) (.con (.int 0)))) (.con (.str 33))) (.sub (.var 0) (.con (.int 2)))))
  .nil)))
/-- 17 written: 0 own, 1 least, 2 word, 3 level, 4 found -/
def b17 : T := (.cns (.asg (.tn 2) (.sub (.var 0) (.con (.int 0))))
  (.cns (.iff (.cmp .isin (.var 2) (.tup (.cns (.con (.str 121642187423845)) (.cns (.con (.str 124780659)) .nil)))) (.cns (.asg (.tn 3) (.ife (.cmp .eq (.var 2) (.con (.str 121642187423845))) (.glo 9) (.glo 8)))
  (.cns (.asg (.tn 4) (.bin .add (.bin .add (.bin .add (.bin .add (.app 17 (.cns (.sub (.var 0) (.con (.int 1))) (.cns (.var 3) .nil))) (.con (.str 33))) (.var 2)) (.con (.str 33))) (.app 17 (.cns (.sub (.var 0) (.con (.int 2))) (.cns (.bin .add (.var 3) (.con (.int 1))) .nil)))))
  (.cns (.ret (.ife (.cmp .ge (.var 3) (.var 1)) (.var 4) (.bin .add (.bin .add (.con (.str 41)) (.var 4)) (.con (.str 42)))))
  .nil))) .nil)
  (.cns (.iff (.cmp .isin (.var 2) (.tup (.cns (.con (.str 160414980046840528998)) (.cns (.con (.str 157150596765217453102006394)) .nil)))) (.cns (.ret (.bin .add (.bin .add (.bin .add (.bin .add (.var 2) (.con (.str 33))) (.sub (.var 0) (.con (.int 1)))) (.con (.str 33))) (.app 17 (.cns (.sub (.var 0) (.con (.int 2))) (.cns (.glo 10) .nil)))))
  .nil) .nil)
  (.cns (.ret (.ife (.cmp .isin (.var 2) (.tup (.cns (.con (.str 137778380669045)) (.cns (.con (.str 167935401307080367825879155)) (.cns (.con (.str 150987815357684423128645733)) .nil))))) (.bin .add (.bin .add (.var 2) (.con (.str 33))) (.app 17 (.cns (.sub (.var 0) (.con (.int 1))) (.cns (.glo 10) .nil)))) (.app 16 (.cns (.var 0) .nil))))
  .nil))))
/-- 18 saying_text: 0 saying -/
def b18 : T := (.cns (.ret (.app 17 (.cns (.app 8 (.cns (.var 0) .nil)) (.cns (.glo 8) .nil))))
  .nil)
/-- 19 mood_text: 0 mood -/
def b19 : T := (.cns (.ret (.app 17 (.cns (.app 11 (.cns (.var 0) .nil)) (.cns (.glo 8) .nil))))
  .nil)
/-- 20 term_text: 0 term, 1 end, 2 mood -/
def b20 : T := (.cns (.asg (.tt (.cns (.tn 1) (.cns (.tn 2) .nil))) (.app 14 (.cns (.var 0) .nil)))
  (.cns (.ret (.bin .add (.bin .add (.var 1) (.con (.str 33))) (.app 17 (.cns (.var 2) (.cns (.glo 8) .nil)))))
  .nil))
/-- 21 run_end: 0 text, 1 place, 2 signs, 3 at -/
def b21 : T := (.cns (.asg (.tn 3) (.var 1))
  (.cns (.whl (.and (.cmp .lt (.var 3) (.blt .len (.cns (.var 0) .nil))) (.cmp .isin (.sub (.var 0) (.var 3)) (.var 2))) (.cns (.asg (.tn 3) (.bin .add (.var 3) (.con (.int 1))))
  .nil))
  (.cns (.ret (.var 3))
  .nil)))
/-- 22 pieces_of: 0 text, 1 found, 2 at, 3 line, 4 sign, 5 end, 6 own, 7 letter -/
def b22 : T := (.cns (.asg (.tt (.cns (.tn 1) (.cns (.tn 2) (.cns (.tn 3) .nil)))) (.tup (.cns (.box (.lst .nil)) (.cns (.con (.int 0)) (.cns (.con (.int 1)) .nil)))))
  (.cns (.whl (.cmp .lt (.var 2) (.blt .len (.cns (.var 0) .nil))) (.cns (.asg (.tn 4) (.sub (.var 0) (.var 2)))
  (.cns (.iff (.cmp .isin (.var 4) (.glo 16)) (.cns (.asg (.tn 3) (.bin .add (.var 3) (.ife (.cmp .eq (.var 4) (.con (.str 11))) (.con (.int 1)) (.con (.int 0)))))
  (.cns (.asg (.tn 2) (.bin .add (.var 2) (.con (.int 1))))
  (.cns .cnt
  .nil))) .nil)
  (.cns (.asg (.tn 5) (.bin .add (.var 2) (.con (.int 1))))
  (.cns (.iff (.or (.cmp .isin (.var 4) (.glo 13)) (.cmp .isin (.var 4) (.glo 14))) (.cns (.asg (.tn 5) (.app 21 (.cns (.var 0) (.cns (.var 2) (.cns (.bin .add (.glo 13) (.glo 14)) .nil)))))
  .nil) .nil)
  (.cns (.asg (.tn 6) (.sli (.var 0) (.var 2) (.var 5)))
  (.cns (.iff (.and (.cmp .notin (.var 4) (.glo 15)) (.and (.cmp .notin (.var 6) (.glo 20)) (.cmp .notin (.var 6) (.cpr (.blt .str (.cns (.bin .add (.var 7) (.con (.int 1))) .nil)) (.tn 7) (.itr1 (.glo 3)) (.con (.bl true)) [7])))) (.cns (.rai 0 (.cns (.var 3) .nil))
  .nil) .nil)
  (.cns (.xpr (.mtd (.var 1) .append (.cns (.tup (.cns (.var 6) (.cns (.var 3) .nil))) .nil)))
  (.cns (.asg (.tn 2) (.var 5))
  .nil)))))))))
  (.cns (.xpr (.mtd (.var 1) .append (.cns (.tup (.cns (.glo 21) (.cns (.var 3) .nil))) .nil)))
  (.cns (.ret (.var 1))
  .nil))))
/-- 23 Reader.__init__: 0 self, 1 text, 2 with_fingers -/
def b23 : T := (.cns (.asg (.tf (.var 0) 193964865296379547845141511667828) (.app 22 (.cns (.var 1) .nil)))
  (.cns (.asg (.tf (.var 0) 109183093) (.con (.int 0)))
  (.cns (.asg (.tf (.var 0) 139671669225684336753) (.con (.int 0)))
  (.cns (.asg (.tf (.var 0) 393911774329911074065007390528258797629155106053334605785501215686772) (.var 2))
  .nil))))
/-- 24 Reader.now: 0 self -/
def b24 : T := (.cns (.ret (.sub (.sub (.fld (.var 0) 193964865296379547845141511667828) (.fld (.var 0) 109183093)) (.con (.int 0))))
  .nil)
/-- 25 Reader.sure: 0 self, 1 good -/
def b25 : T := (.cns (.iff (.una false (.var 1)) (.cns (.rai 0 (.cns (.sub (.sub (.fld (.var 0) 193964865296379547845141511667828) (.fld (.var 0) 109183093)) (.con (.int 1))) .nil))
  .nil) .nil)
  .nil)
/-- 26 Reader.took: 0 self, 1 piece, 2 found -/
def b26 : T := (.cns (.asg (.tn 2) (.cmp .eq (.met (.var 0) 137778380669048 .nil) (.var 1)))
  (.cns (.iff (.var 2) (.cns (.asg (.tf (.var 0) 109183093) (.bin .add (.fld (.var 0) 109183093) (.con (.int 1))))
  .nil) .nil)
  (.cns (.ret (.var 2))
  .nil)))
/-- 27 Reader.take: 0 self, 1 pieces -/
def b27 : T := (.cns (.xpr (.met (.var 0) 160414987494319390822 (.cns (.cmp .isin (.met (.var 0) 137778380669048 .nil) (.var 1)) .nil)))
  (.cns (.asg (.tf (.var 0) 109183093) (.bin .add (.fld (.var 0) 109183093) (.con (.int 1))))
  (.cns (.ret (.sub (.sub (.fld (.var 0) 193964865296379547845141511667828) (.bin .sub (.fld (.var 0) 109183093) (.con (.int 1)))) (.con (.int 0))))
  .nil)))
/-- 28 Reader.any_of: 0 self, 1 found -/
def b28 : T := (.cns (.asg (.tn 1) (.met (.var 0) 168217343106552235345325174292583 .nil))
  (.cns (.whl (.met (.var 0) 161797866607422210156 (.cns (.con (.str 124780659)) .nil)) (.cns (.asg (.tn 1) (.tup (.cns (.con (.str 124780659)) (.cns (.var 1) (.cns (.met (.var 0) 168217343106552235345325174292583 .nil) .nil)))))
  .nil))
  (.cns (.ret (.var 1))
  .nil)))
/-- 29 Reader.all_of: 0 self, 1 found -/
def b29 : T := (.cns (.asg (.tn 1) (.met (.var 0) 150987820889243077916426342 .nil))
  (.cns (.whl (.met (.var 0) 161797866607422210156 (.cns (.con (.str 121642187423845)) .nil)) (.cns (.asg (.tn 1) (.tup (.cns (.con (.str 121642187423845)) (.cns (.var 1) (.cns (.met (.var 0) 150987820889243077916426342 .nil) .nil)))))
  .nil))
  (.cns (.ret (.var 1))
  .nil)))
/-- 30 Reader.within: 0 self, 1 work, 2 found -/
def b30 : T := (.cns (.xpr (.met (.var 0) 160414987494319390822 (.cns (.cmp .lt (.fld (.var 0) 139671669225684336753) (.glo 22)) .nil)))
  (.cns (.asg (.tf (.var 0) 139671669225684336753) (.bin .add (.fld (.var 0) 139671669225684336753) (.con (.int 1))))
  (.cns (.asg (.tn 2) (.clv 1 .nil))
  (.cns (.asg (.tf (.var 0) 139671669225684336753) (.bin .sub (.fld (.var 0) 139671669225684336753) (.con (.int 1))))
  (.cns (.ret (.var 2))
  .nil)))))
/-- 31 Reader.alone: 0 self, 1 word, 2 found, 3 finger -/
def b31 : T := (.cns (.asg (.tn 1) (.met (.var 0) 137778380669048 .nil))
  (.cns (.iff (.cmp .eq (.var 1) (.con (.str 41))) (.cns (.asg (.tf (.var 0) 109183093) (.bin .add (.fld (.var 0) 109183093) (.con (.int 1))))
  (.cns (.asg (.tn 2) (.met (.var 0) 205980377808624270902531944218735 (.cns (.bmv (.var 0) 168217346187951236431203628220519) .nil)))
  (.cns (.xpr (.met (.var 0) 161797849229980074086 (.cns (.tup (.cns (.con (.str 42)) .nil)) .nil)))
  (.cns (.ret (.var 2))
  .nil)))) .nil)
  (.cns (.iff (.or (.cmp .eq (.var 1) (.con (.str 137778380669045))) (.and (.cmp .isin (.var 1) (.glo 19)) (.una false (.fld (.var 0) 393911774329911074065007390528258797629155106053334605785501215686772)))) (.cns (.asg (.tf (.var 0) 109183093) (.bin .add (.fld (.var 0) 109183093) (.con (.int 1))))
  (.cns (.ret (.tup (.cns (.var 1) (.cns (.met (.var 0) 205980377808624270902531944218735 (.cns (.bmv (.var 0) 150987820889243077916426342) .nil)) .nil))))
  .nil)) .nil)
  (.cns (.iff (.and (.cmp .isin (.var 1) (.glo 18)) (.fld (.var 0) 393911774329911074065007390528258797629155106053334605785501215686772)) (.cns (.asg (.tf (.var 0) 109183093) (.bin .add (.fld (.var 0) 109183093) (.con (.int 1))))
  (.cns (.asg (.tn 3) (.met (.var 0) 161797849229980074086 (.cns (.glo 2) .nil)))
  (.cns (.ret (.tup (.cns (.var 1) (.cns (.var 3) (.cns (.met (.var 0) 205980377808624270902531944218735 (.cns (.bmv (.var 0) 150987820889243077916426342) .nil)) .nil)))))
  .nil))) .nil)
  (.cns (.ret (.met (.var 0) 136905891139557720166 .nil))
  .nil)))))
/-- 32 Reader.bare: 0 self, 1 letters, 2 near, 3 word -/
def b32 : T := (.cns (.iff (.met (.var 0) 161797866607422210156 (.cns (.con (.str 151432070561908)) .nil)) (.cns (.ret (.tup (.cns (.con (.str 151432070561908)) .nil)))
  .nil) .nil)
  (.cns (.iff (.and (.cmp .isin (.met (.var 0) 137778380669048 .nil) (.glo 2)) (.fld (.var 0) 393911774329911074065007390528258797629155106053334605785501215686772)) (.cns (.asg (.tn 2) (.met (.var 0) 161797849229980074086 (.cns (.glo 2) .nil)))
  (.cns (.asg (.tn 3) (.met (.var 0) 161797849229980074086 (.cns (.glo 17) .nil)))
  (.cns (.xpr (.met (.var 0) 160414987494319390822 (.cns (.and (.cmp .isin (.met (.var 0) 137778380669048 .nil) (.glo 2)) (.cmp .ne (.met (.var 0) 137778380669048 .nil) (.var 2))) .nil)))
  (.cns (.ret (.tup (.cns (.var 3) (.cns (.var 2) (.cns (.met (.var 0) 161797849229980074086 (.cns (.glo 2) .nil)) .nil)))))
  .nil)))) .nil)
  (.cns (.asg (.tn 1) (.met (.var 0) 208449076181370895616144087142805733492 .nil))
  (.cns (.iff (.una false (.fld (.var 0) 393911774329911074065007390528258797629155106053334605785501215686772)) (.cns (.ret (.tup (.cns (.con (.str 187098851983795969899026387959923)) (.cns (.var 1) .nil))))
  .nil) .nil)
  (.cns (.xpr (.met (.var 0) 161797849229980074086 (.cns (.tup (.cns (.glo 12) .nil)) .nil)))
  (.cns (.ret (.tup (.cns (.con (.str 187098851983795969899026387959923)) (.cns (.met (.var 0) 161797849229980074086 (.cns (.glo 2) .nil)) (.cns (.var 1) .nil)))))
  .nil))))))
/-- 33 Reader.letters: 0 self, 1 found -/
def b33 : T := (.cns (.iff (.met (.var 0) 161797866607422210156 (.cns (.glo 11) .nil)) (.cns (.ret (.tup .nil))
  .nil) .nil)
  (.cns (.asg (.tn 1) (.box (.lst (.cns (.met (.var 0) 187098851983795969899026387959923 (.cns (.con (.int 0)) .nil)) .nil))))
  (.cns (.whl (.met (.var 0) 161797866607422210156 (.cns (.con (.str 45)) .nil)) (.cns (.xpr (.mtd (.var 1) .append (.cns (.met (.var 0) 187098851983795969899026387959923 (.cns (.sub (.var 1) (.una true (.con (.int 1)))) .nil)) .nil)))
  .nil))
  (.cns (.ret (.blt .tuple (.cns (.var 1) .nil)))
  .nil))))
/-- 34 Reader.letter: 0 self, 1 least, 2 letter -/
def b34 : T := (.cns (.xpr (.met (.var 0) 160414987494319390822 (.cns (.cmp .isin (.met (.var 0) 137778380669048 .nil) (.cpr (.blt .str (.cns (.var 2) .nil)) (.tn 2) (.itr2 (.bin .add (.var 1) (.con (.int 1))) (.bin .add (.glo 3) (.con (.int 1)))) (.con (.bl true)) [2])) .nil)))
  (.cns (.ret (.blt .int (.cns (.met (.var 0) 161797849229980074086 (.cns (.tup (.cns (.met (.var 0) 137778380669048 .nil) .nil)) .nil)) .nil)))
  .nil))
/-- 35 Reader.whole: 0 self, 1 found -/
def b35 : T := (.cns (.xpr (.met (.var 0) 160414987494319390822 (.cns (.cmp .eq (.met (.var 0) 137778380669048 .nil) (.glo 21)) .nil)))
  (.cns (.ret (.var 1))
  .nil))
/-- 36 read_saying: 0 text, 1 reader -/
def b36 : T := (.cns (.asg (.tn 1) (.new 142469805509794913095634989219955 (.cns (.var 0) (.cns (.con (.bl true)) .nil))))
  (.cns (.ret (.met (.var 1) 184883006616863335727824998 (.cns (.met (.var 1) 168217346187951236431203628220519 .nil) .nil)))
  .nil))
/-- 37 read_mood: 0 text, 1 reader -/
def b37 : T := (.cns (.asg (.tn 1) (.new 142469805509794913095634989219955 (.cns (.var 0) (.cns (.con (.bl false)) .nil))))
  (.cns (.ret (.met (.var 1) 184883006616863335727824998 (.cns (.met (.var 1) 168217346187951236431203628220519 .nil) .nil)))
  .nil))
/-- 38 read_term: 0 text, 1 reader, 2 end -/
def b38 : T := (.cns (.asg (.tn 1) (.new 142469805509794913095634989219955 (.cns (.var 0) (.cns (.con (.bl false)) .nil))))
  (.cns (.asg (.tn 2) (.met (.var 1) 161797849229980074086 (.cns (.tup (.cns (.glo 4) (.cns (.glo 5) .nil))) .nil)))
  (.cns (.ret (.met (.var 1) 184883006616863335727824998 (.cns (.tup (.cns (.var 2) (.cns (.met (.var 1) 168217346187951236431203628220519 .nil) .nil))) .nil)))
  .nil)))
/-- 39 _law_box: 0 script, 1 k, 2 cell -/
def b39 : T := (.cns (.asg (.tn 2) (.ife (.cmp .lt (.var 1) (.blt .len (.cns (.var 0) .nil))) (.sub (.var 0) (.var 1)) (.con (.int 0))))
  (.cns (.ret (.box (.lst (.cns (.bin .mul (.blt .abs (.cns (.var 2) .nil)) (.blt .int (.cns (.cmp .ge (.blt .abs (.cns (.var 2) .nil)) (.bin .pow (.con (.int 10)) (.con (.int 18)))) .nil))) (.cns (.bin .add (.bin .add (.bin .mod (.blt .int (.cns (.var 2) .nil)) (.con (.int 2305843009213693951))) (.bin .mul (.con (.int 39373)) (.var 1))) (.con (.int 91827361))) (.cns (.con (.int 0)) .nil))))))
  .nil))
/-- 40 _law_take: 0 urn, 1 below, 2 once, 3 far, 4 twice, 5 drawn -/
def b40 : T := (.cns (.iff (.cmp .gt (.sub (.var 0) (.con (.int 0))) (.con (.int 0))) (.cns (.asg (.tn 5) (.bin .mod (.blt .int (.cns (.sub (.var 0) (.con (.int 0))) .nil)) (.var 1)))
  (.cns (.asg (.ts (.var 0) (.con (.int 0))) (.bin .fdiv (.sub (.var 0) (.con (.int 0))) (.var 1)))
  (.cns (.ret (.var 5))
  .nil))) .nil)
  (.cns (.asg (.ts (.var 0) (.con (.int 2))) (.bin .add (.sub (.var 0) (.con (.int 2))) (.con (.int 1))))
  (.cns (.asg (.tn 2) (.bin .mod (.blt .int (.cns (.bin .mul (.bin .add (.sub (.var 0) (.con (.int 1))) (.bin .mul (.con (.int 48271)) (.sub (.var 0) (.con (.int 2))))) (.bin .add (.con (.int 39373)) (.sub (.var 0) (.con (.int 2))))) .nil)) (.con (.int 2147483647))))
  (.cns (.asg (.tn 3) (.bin .add (.bin .mod (.blt .int (.cns (.var 2) .nil)) (.con (.int 40009))) (.con (.int 7))))
  (.cns (.asg (.tn 4) (.bin .mod (.blt .int (.cns (.bin .mul (.bin .add (.bin .add (.var 2) (.sub (.var 0) (.con (.int 2)))) (.bin .fdiv (.sub (.var 0) (.con (.int 1))) (.con (.int 1000003)))) (.var 3)) .nil)) (.con (.int 2147483629))))
  (.cns (.ret (.bin .mod (.blt .int (.cns (.bin .fdiv (.bin .mod (.blt .int (.cns (.bin .add (.bin .mul (.var 4) (.con (.int 48271))) (.var 2)) .nil)) (.con (.int 2147483587))) (.con (.int 64))) .nil)) (.var 1)))
  .nil))))))
/-- 41 _law_cells: 0 script, 1 many, 2 cells, 3 k, 4 cell, 5 at -/
def b41 : T := (.cns (.asg (.tn 2) (.or (.box (.blt .list (.cns (.sli (.var 0) .nil (.var 1)) .nil))) (.box (.lst (.cns (.con (.int 0)) .nil)))))
  (.cns (.fre (.tt (.cns (.tn 3) (.cns (.tn 4) .nil))) (.ite (.sli (.var 0) (.var 1) (.con (.int 63)))) (.cns (.asg (.tn 5) (.bin .mod (.blt .int (.cns (.var 3) .nil)) (.var 1)))
  (.cns (.asg (.ts (.var 2) (.var 5)) (.bin .add (.sub (.var 2) (.var 5)) (.bin .mul (.var 4) (.bin .add (.var 3) (.con (.int 2))))))
  .nil)))
  (.cns (.ret (.var 2))
  .nil)))
/-- 42 _law_soft: 0 matter, 1 bit -/
def b42 : T := (.cns (.ret (.ife (.isa (.var 0) [.list, .tuple]) (.cpr (.app 42 (.cns (.var 1) .nil)) (.tn 1) (.itx (.var 0)) (.con (.bl true)) [1]) (.var 0)))
  .nil)
/-- 43 _law_same: 0 got, 1 due, 2 mine, 3 own -/
def b43 : T := (.cns (.iff (.isa (.var 1) [.list, .tuple]) (.cns (.iff (.or (.cmp .ne (.isa (.var 0) [.list]) (.isa (.var 1) [.list])) (.cmp .ne (.isa (.var 0) [.tuple]) (.isa (.var 1) [.tuple]))) (.cns (.ret (.con (.bl false)))
  .nil) .nil)
  (.cns (.ret (.and (.cmp .eq (.blt .len (.cns (.var 0) .nil)) (.blt .len (.cns (.var 1) .nil))) (.blt .all (.cns (.cpr (.app 43 (.cns (.var 2) (.cns (.var 3) .nil))) (.tt (.cns (.tn 2) (.cns (.tn 3) .nil))) (.itz (.var 0) (.var 1)) (.con (.bl true)) [2, 3]) .nil))))
  .nil)) .nil)
  (.cns (.iff (.or (.cmp .isn (.var 1) (.con .non)) (.isa (.var 1) [.bool, .str])) (.cns (.ret (.and (.cmp .eq (.isa (.var 0) [.str]) (.isa (.var 1) [.str])) (.and (.cmp .eq (.isa (.var 0) [.bool]) (.isa (.var 1) [.bool])) (.and (.cmp .eq (.cmp .isn (.var 0) (.con .non)) (.cmp .isn (.var 1) (.con .non))) (.cmp .eq (.var 0) (.var 1))))))
  .nil) .nil)
  (.cns (.ret (.and (.isa (.var 0) [.int]) (.and (.una false (.isa (.var 0) [.bool])) (.cmp .eq (.var 0) (.var 1)))))
  .nil)))
/-- 44 _law_try: 0 door, 1 own, 2 error, 3 raised, 4 found -/
def b44 : T := (.cns (.asg (.tt (.cns (.tn 3) (.cns (.tn 4) .nil))) (.tup (.cns (.con (.str 0)) (.cns (.con .non) .nil))))
  (.cns (.try_ (.cns (.iff (.cmp .lt (.var 0) (.con (.int 3))) (.cns (.asg (.tn 4) (.ife (.cmp .eq (.var 0) (.con (.int 0))) (.app 36 (.cns (.var 1) .nil)) (.ife (.cmp .eq (.var 0) (.con (.int 1))) (.app 37 (.cns (.var 1) .nil)) (.app 38 (.cns (.var 1) .nil)))))
  .nil) (.cns (.asg (.tn 4) (.ife (.cmp .eq (.var 0) (.con (.int 3))) (.app 18 (.cns (.var 1) .nil)) (.ife (.cmp .eq (.var 0) (.con (.int 4))) (.app 19 (.cns (.var 1) .nil)) (.app 20 (.cns (.var 1) .nil)))))
  .nil))
  .nil) (.hnd [0] (some 2) (.cns (.asg (.tn 3) (.lst (.cns (.con (.str 128129309259225799499483723691507384437)) (.cns (.exi 2 [.exv]) (.cns (.exf 2) .nil)))))
  .nil) (.hnd [1] (some 2) (.cns (.asg (.tn 3) (.lst (.cns (.con (.str 132499537513641482333585525)) (.cns (.exi 2 [.exv]) .nil))))
  .nil) .pas)))
  (.cns (.ret (.tup (.cns (.var 3) (.cns (.var 4) .nil))))
  .nil)))
/-- 45 _law_rows: 0 rows, 1 a, 2 b, 3 c, 4 yes, 5 one, 6 two, 7 no -/
def b45 : T := (.cns (.asg (.tt (.cns (.tn 1) (.cns (.tn 2) (.cns (.tn 3) (.cns (.tn 4) .nil))))) (.tup (.cns (.tup (.cns (.con (.str 187098851983795969899026387959923)) (.cns (.con (.str 121)) (.cns (.tup (.cns (.con (.int 1)) .nil)) .nil)))) (.cns (.tup (.cns (.con (.str 187098851983795969899026387959923)) (.cns (.con (.str 122)) (.cns (.tup (.cns (.con (.int 2)) (.cns (.con (.int 3)) .nil))) .nil)))) (.cns (.tup (.cns (.con (.str 187098851983795969899026387959923)) (.cns (.con (.str 121)) (.cns (.tup .nil) .nil)))) (.cns (.tup (.cns (.con (.str 151432070561908)) .nil)) .nil))))))
  (.cns (.asg (.tt (.cns (.tn 5) (.cns (.tn 6) (.cns (.tn 7) .nil)))) (.tup (.cns (.tup (.cns (.con (.str 187098851983795969899026387959923)) (.cns (.tup (.cns (.con (.int 1)) .nil)) .nil))) (.cns (.tup (.cns (.con (.str 187098851983795969899026387959923)) (.cns (.tup (.cns (.con (.int 2)) .nil)) .nil))) (.cns (.tup (.cns (.con (.str 187098851983795969899026387959923)) (.cns (.tup .nil) .nil))) .nil)))))
  (.cns (.asg (.tn 0) (.lst (.cns (.tup (.cns (.con (.int 0)) (.cns (.con (.str 151432070561908)) (.cns (.var 4) (.cns (.con (.str 151432070561908)) .nil))))) (.cns (.tup (.cns (.con (.int 0)) (.cns (.con (.str 70309902309675862754793722411178944002326561)) (.cns (.var 1) (.cns (.con (.str 85825140215950838583452096331897)) .nil))))) (.cns (.tup (.cns (.con (.int 0)) (.cns (.con (.str 108660696397390777113014833623343994416201850)) (.cns (.var 2) (.cns (.con (.str 108660696397390777113014833623343994416201850)) .nil))))) (.cns (.tup (.cns (.con (.int 0)) (.cns (.con (.str 121060113344269553266376222504094633845605814435962)) (.cns (.var 2) (.cns (.con (.str 108660696397390777113014833623343994416201850)) .nil))))) (.cns (.tup (.cns (.con (.int 0)) (.cns (.con (.str 263483963720405972908707529421472529249990140297337)) (.cns (.var 3) (.cns (.con (.str 263483963720405972908707529421472529249990140297337)) .nil))))) .nil)))))))
  (.cns (.asg (.tn 0) (.bin .add (.var 0) (.lst (.cns (.tup (.cns (.con (.int 0)) (.cns (.con (.str 319996438437934530820171051857930043549853694789619351674)) (.cns (.tup (.cns (.con (.str 169933834109170924119864192991334)) (.cns (.con (.str 121)) (.cns (.con (.str 122)) .nil)))) (.cns (.con (.str 319996438437934530820171051857930043549853694789619351674)) .nil))))) (.cns (.tup (.cns (.con (.int 0)) (.cns (.con (.str 259933287844478502581950812095673446318538873)) (.cns (.tup (.cns (.con (.str 160414962669402849382)) (.cns (.con (.str 122)) (.cns (.con (.str 121)) .nil)))) (.cns (.con (.str 259933287844478502581950812095673446318538873)) .nil))))) (.cns (.tup (.cns (.con (.int 0)) (.cns (.con (.str 327048297080696949105949954738608399014553971235749207898194036)) (.cns (.tup (.cns (.con (.str 137778380669045)) (.cns (.tup (.cns (.con (.str 137778380669045)) (.cns (.var 4) .nil))) .nil))) (.cns (.con (.str 327048297080696949105949954738608399014553971235749207898194036)) .nil))))) .nil))))))
  (.cns (.asg (.tn 0) (.bin .add (.var 0) (.lst (.cns (.tup (.cns (.con (.int 0)) (.cns (.con (.str 1179956640255506561221744251190875187282569753140856397864218616010947938174487097999716317790421941285050948179406788668771336313)) (.cns (.tup (.cns (.con (.str 121642187423845)) (.cns (.tup (.cns (.con (.str 121642187423845)) (.cns (.var 4) (.cns (.var 4) .nil)))) (.cns (.var 1) .nil)))) (.cns (.con (.str 1179956640255506561221744251190875187282569753140856397864218616010947938174487097999716317790421941285050948179406788668771336313)) .nil))))) .nil))))
  (.cns (.asg (.tn 0) (.bin .add (.var 0) (.lst (.cns (.tup (.cns (.con (.int 0)) (.cns (.con (.str 1464615927192081513900275061889896397085992025966855311990589191069126824916207899068247298384639104804983490210079481452729474730950170050602)) (.cns (.tup (.cns (.con (.str 121642187423845)) (.cns (.var 4) (.cns (.tup (.cns (.con (.str 121642187423845)) (.cns (.var 4) (.cns (.var 1) .nil)))) .nil)))) (.cns (.con (.str 1464615927192081513900275061889896397085992025966855311990589191069126824916207899068247298384639104804983490210079481452729474730950170050602)) .nil))))) .nil))))
  (.cns (.asg (.tn 0) (.bin .add (.var 0) (.lst (.cns (.tup (.cns (.con (.int 0)) (.cns (.con (.str 1059100557444410042456902303427895174141635617792785775008435935166744148266290462897884125326233727852830998581431855612020)) (.cns (.tup (.cns (.con (.str 124780659)) (.cns (.var 4) (.cns (.tup (.cns (.con (.str 121642187423845)) (.cns (.var 1) (.cns (.var 4) .nil)))) .nil)))) (.cns (.con (.str 1059100557444410042456902303427895174141635617792785775008435935166744148266290462897884125326233727852830998581431855612020)) .nil))))) .nil))))
  (.cns (.asg (.tn 0) (.bin .add (.var 0) (.lst (.cns (.tup (.cns (.con (.int 0)) (.cns (.con (.str 441793946354549940753486923713416234295391338529238337823849035799142417402326672255183198210705661150978312499258251513011417192464500)) (.cns (.tup (.cns (.con (.str 121642187423845)) (.cns (.tup (.cns (.con (.str 124780659)) (.cns (.var 4) (.cns (.var 1) .nil)))) (.cns (.var 4) .nil)))) (.cns (.con (.str 441793946354549940753486923713416234295391338529238337823849035799142417402326672255183198210705661150978312499258251513011417192464500)) .nil))))) .nil))))
  (.cns (.asg (.tn 0) (.bin .add (.var 0) (.lst (.cns (.tup (.cns (.con (.int 0)) (.cns (.con (.str 548373796878281819199634269779113117045624549637703641571856441957791136021718308552351331302633288081817247296216401099652017976429186392592613418)) (.cns (.tup (.cns (.con (.str 124780659)) (.cns (.var 4) (.cns (.tup (.cns (.con (.str 124780659)) (.cns (.var 4) (.cns (.var 4) .nil)))) .nil)))) (.cns (.con (.str 853256278491190710766355600069389113091012596003314531830872123829040454457680066453375807584394486275806330922)) .nil))))) .nil))))
  (.cns (.asg (.tn 0) (.bin .add (.var 0) (.lst (.cns (.tup (.cns (.con (.int 0)) (.cns (.con (.str 1007013761790741553578707335861245784784105948255578181162297741747632976581676080332372002633529222293090635473328517021812)) (.cns (.tup (.cns (.con (.str 121642187423845)) (.cns (.tup (.cns (.con (.str 160414980046840528998)) (.cns (.con (.str 121)) (.cns (.var 1) .nil)))) (.cns (.var 4) .nil)))) (.cns (.con (.str 1007013761790741553578707335861245784784105948255578181162297741747632976581676080332372002633529222293090635473328517021812)) .nil))))) .nil))))
  (.cns (.asg (.tn 0) (.bin .add (.var 0) (.lst (.cns (.tup (.cns (.con (.int 0)) (.cns (.con (.str 1249951349145305947412337353379528866805555310838011689465702125161440344888320288985394367285029756858120505328864187123735110668779562)) (.cns (.tup (.cns (.con (.str 160414980046840528998)) (.cns (.con (.str 121)) (.cns (.tup (.cns (.con (.str 121642187423845)) (.cns (.var 1) (.cns (.var 4) .nil)))) .nil)))) (.cns (.con (.str 1249951349145305947412337353379528866805555310838011689465702125161440344888320288985394367285029756858120505328864187123735110668779562)) .nil))))) .nil))))
  (.cns (.asg (.tn 0) (.bin .add (.var 0) (.lst (.cns (.tup (.cns (.con (.int 0)) (.cns (.con (.str 2287342651157941814060881015392134562078750658155073956259844326949547571425418970550871153525350698247634182253013117491453011093249259082622234768952496840276074359226489)) (.cns (.tup (.cns (.con (.str 137778380669045)) (.cns (.tup (.cns (.con (.str 160414980046840528998)) (.cns (.con (.str 122)) (.cns (.tup (.cns (.con (.str 157150596765217453102006394)) (.cns (.con (.str 121)) (.cns (.tup (.cns (.con (.str 169933834109170924119864192991334)) (.cns (.con (.str 122)) (.cns (.con (.str 121)) .nil)))) .nil)))) .nil)))) .nil))) (.cns (.con (.str 2287342651157941814060881015392134562078750658155073956259844326949547571425418970550871153525350698247634182253013117491453011093249259082622234768952496840276074359226489)) .nil))))) .nil))))
  (.cns (.asg (.tn 0) (.bin .add (.var 0) (.lst (.cns (.tup (.cns (.con (.int 0)) (.cns (.con (.str 3238350784587179095534543416808907009868657345807454214004043768303288467524975534269590682025945069778574953499879062964326569343339088449813470238429714966366270698402066259046694891084182061098)) (.cns (.tup (.cns (.con (.str 157150596765217453102006394)) (.cns (.con (.str 122)) (.cns (.tup (.cns (.con (.str 124780659)) (.cns (.tup (.cns (.con (.str 137778380669045)) (.cns (.tup (.cns (.con (.str 160414962669402849382)) (.cns (.con (.str 121)) (.cns (.con (.str 122)) .nil)))) .nil))) (.cns (.var 2) .nil)))) .nil)))) (.cns (.con (.str 3607885469317991276484181235187805006578789440038328250015955720456059011321888185017246561594922215948320139268513455232977567222833089628742251392651524257425424579708551662817827472547829365226471466)) .nil))))) .nil))))
  (.cns (.asg (.tn 0) (.bin .add (.var 0) (.lst (.cns (.tup (.cns (.con (.int 0)) (.cns (.con (.str 653611970795561743954585519775580072107492515887474603543923834342321456061933230749657311727714420)) (.cns (.tup (.cns (.con (.str 160414980046840528998)) (.cns (.con (.str 121)) (.cns (.tup (.cns (.con (.str 160414980046840528998)) (.cns (.con (.str 121)) (.cns (.var 4) .nil)))) .nil)))) (.cns (.con (.str 653611970795561743954585519775580072107492515887474603543923834342321456061933230749657311727714420)) .nil))))) .nil))))
  (.cns (.asg (.tn 0) (.bin .add (.var 0) (.lst (.cns (.tup (.cns (.con (.int 1)) (.cns (.con (.str 50)) (.cns (.var 5) (.cns (.con (.str 50)) .nil))))) (.cns (.tup (.cns (.con (.int 1)) (.cns (.con (.str 153500547243944378470)) (.cns (.var 7) (.cns (.con (.str 153500547243944378470)) .nil))))) (.cns (.tup (.cns (.con (.int 1)) (.cns (.con (.str 77034587818973302674489396)) (.cns (.tup (.cns (.con (.str 187098851983795969899026387959923)) (.cns (.tup (.cns (.con (.int 1)) (.cns (.con (.int 2)) (.cns (.con (.int 3)) .nil)))) .nil))) (.cns (.con (.str 77034587818973302674489396)) .nil))))) (.cns (.tup (.cns (.con (.int 1)) (.cns (.con (.str 398632838841193917344927342291422764899544636139583241283430258148969087027)) (.cns (.tup (.cns (.con (.str 121642187423845)) (.cns (.tup (.cns (.con (.str 167935401307080367825879155)) (.cns (.var 5) .nil))) (.cns (.var 6) .nil)))) (.cns (.con (.str 398632838841193917344927342291422764899544636139583241283430258148969087027)) .nil))))) .nil)))))))
  (.cns (.asg (.tn 0) (.bin .add (.var 0) (.lst (.cns (.tup (.cns (.con (.int 1)) (.cns (.con (.str 494801236715089693238680535038341099702580921883160570563901865978587863596201316384810)) (.cns (.tup (.cns (.con (.str 167935401307080367825879155)) (.cns (.tup (.cns (.con (.str 121642187423845)) (.cns (.var 5) (.cns (.var 6) .nil)))) .nil))) (.cns (.con (.str 494801236715089693238680535038341099702580921883160570563901865978587863596201316384810)) .nil))))) (.cns (.tup (.cns (.con (.int 1)) (.cns (.con (.str 685402729157219660077909899024130919792065560444796925387856794774745709394911218766113484471133172111281160234)) (.cns (.tup (.cns (.con (.str 150987815357684423128645733)) (.cns (.tup (.cns (.con (.str 167935401307080367825879155)) (.cns (.tup (.cns (.con (.str 137778380669045)) (.cns (.var 6) .nil))) .nil))) .nil))) (.cns (.con (.str 552189476096174151257935598041568125292041329670836766656359917686235209097885332368470145491861555)) .nil))))) .nil)))))
  (.cns (.asg (.tn 0) (.bin .add (.var 0) (.lst (.cns (.tup (.cns (.con (.int 1)) (.cns (.con (.str 503880208206133092337030089074175493157370513158286645288458334222876501746042653769770)) (.cns (.tup (.cns (.con (.str 137778380669045)) (.cns (.tup (.cns (.con (.str 124780659)) (.cns (.var 5) (.cns (.var 7) .nil)))) .nil))) (.cns (.con (.str 503880208206133092337030089074175493157370513158286645288458334222876501746042653769770)) .nil))))) (.cns (.tup (.cns (.con (.int 1)) (.cns (.con (.str 182859061145472207316646521954254916269547612498174392870430766684956917876)) (.cns (.tup (.cns (.con (.str 124780659)) (.cns (.tup (.cns (.con (.str 124780659)) (.cns (.var 5) (.cns (.var 6) .nil)))) (.cns (.var 4) .nil)))) (.cns (.con (.str 182859061145472207316646521954254916269547612498174392870430766684956917876)) .nil))))) .nil)))))
  (.cns (.asg (.tn 0) (.bin .add (.var 0) (.lst (.cns (.tup (.cns (.con (.int 1)) (.cns (.con (.str 97322923906773436144285552229411380321680602890282)) (.cns (.tup (.cns (.con (.str 121642187423845)) (.cns (.var 5) (.cns (.var 6) .nil)))) (.cns (.con (.str 95618818616273420667589746989644972083)) .nil))))) (.cns (.tup (.cns (.con (.int 1)) (.cns (.con (.str 15211765820130721803)) (.cns (.var 5) (.cns (.con (.str 50)) .nil))))) .nil)))))
  (.cns (.asg (.tn 0) (.bin .add (.var 0) (.lst (.cns (.tup (.cns (.con (.int 2)) (.cns (.con (.str 196974847059298815545258088026241826866)) (.cns (.tup (.cns (.con (.str 158691281745463918695743605)) (.cns (.var 5) .nil))) (.cns (.con (.str 196974847059298815545258088026241826866)) .nil))))) (.cns (.tup (.cns (.con (.int 2)) (.cns (.con (.str 557824021765980089275717022969323030742579187538912880829028842067019269440802038875831618505867315)) (.cns (.tup (.cns (.con (.str 136905891139541008492)) (.cns (.tup (.cns (.con (.str 124780659)) (.cns (.tup (.cns (.con (.str 167935401307080367825879155)) (.cns (.var 5) .nil))) (.cns (.var 6) .nil)))) .nil))) (.cns (.con (.str 557824021765980089275717022969323030742579187538912880829028842067019269440802038875831618505867315)) .nil))))) .nil)))))
  (.cns (.ret (.bin .add (.var 0) (.lst (.cns (.tup (.cns (.con (.int 2)) (.cns (.con (.str 219452040806929521984758578967102264177721386)) (.cns (.tup (.cns (.con (.str 158691281745463918695743605)) (.cns (.var 5) .nil))) (.cns (.con (.str 196974847059298815545258088026241826866)) .nil))))) (.cns (.tup (.cns (.con (.int 2)) (.cns (.con (.str 120687233838108411366819012459420444191091363256994928533566871007803080820)) (.cns (.tup (.cns (.con (.str 136905891139541008492)) (.cns (.tup (.cns (.con (.str 137778380669045)) (.cns (.var 4) .nil))) .nil))) (.cns (.con (.str 324977244906477802181177601767888908789570704851904851930236496248948)) .nil))))) .nil)))))
  .nil))))))))))))))))))))
/-- 46 _law_told_right: 0 soft, 1 rows, 2 got, 3 due, 4 door, 5 text, 6 told, 7 written_v -/
def b46 : T := (.cns (.asg (.tn 1) (.app 45 .nil))
  (.cns (.asg (.tn 2) (.lst (.cns (.cpr (.app 44 (.cns (.var 4) (.cns (.var 5) .nil))) (.tt (.cns (.tn 4) (.cns (.tn 5) (.cns (.tn 6) (.cns (.tn 7) .nil))))) (.itx (.var 1)) (.con (.bl true)) [4, 5, 6, 7]) (.cns (.cpr (.app 44 (.cns (.bin .add (.var 4) (.con (.int 3))) (.cns (.ife (.var 0) (.app 42 (.cns (.var 6) .nil)) (.var 6)) .nil))) (.tt (.cns (.tn 4) (.cns (.tn 5) (.cns (.tn 6) (.cns (.tn 7) .nil))))) (.itx (.var 1)) (.con (.bl true)) [4, 5, 6, 7]) .nil))))
  (.cns (.asg (.tn 2) (.bin .add (.var 2) (.lst (.cns (.cpr (.app 44 (.cns (.var 4) (.cns (.var 7) .nil))) (.tt (.cns (.tn 4) (.cns (.tn 5) (.cns (.tn 6) (.cns (.tn 7) .nil))))) (.itx (.var 1)) (.con (.bl true)) [4, 5, 6, 7]) .nil))))
  (.cns (.asg (.tn 3) (.lst (.cns (.cpr (.tup (.cns (.con (.str 0)) (.cns (.var 6) .nil))) (.tt (.cns (.tn 4) (.cns (.tn 5) (.cns (.tn 6) (.cns (.tn 7) .nil))))) (.itx (.var 1)) (.con (.bl true)) [4, 5, 6, 7]) (.cns (.cpr (.tup (.cns (.con (.str 0)) (.cns (.var 7) .nil))) (.tt (.cns (.tn 4) (.cns (.tn 5) (.cns (.tn 6) (.cns (.tn 7) .nil))))) (.itx (.var 1)) (.con (.bl true)) [4, 5, 6, 7]) (.cns (.cpr (.tup (.cns (.con (.str 0)) (.cns (.var 6) .nil))) (.tt (.cns (.tn 4) (.cns (.tn 5) (.cns (.tn 6) (.cns (.tn 7) .nil))))) (.itx (.var 1)) (.con (.bl true)) [4, 5, 6, 7]) .nil)))))
  (.cns (.asg (.tn 2) (.bin .add (.var 2) (.lst (.cns (.apk 36 [0] (.cns (.con (.str 151432070561908)) .nil)) (.cns (.apk 37 [0] (.cns (.con (.str 50)) .nil)) (.cns (.apk 38 [0] (.cns (.con (.str 169933827946404728334035539001394)) .nil)) (.cns (.apk 18 [0] (.cns (.tup (.cns (.con (.str 151432070561908)) .nil)) .nil)) (.cns (.apk 19 [0] (.cns (.tup (.cns (.con (.str 151432070561908)) .nil)) .nil)) (.cns (.apk 20 [0] (.cns (.tup (.cns (.con (.str 158691281745463918695743605)) (.cns (.tup (.cns (.con (.str 151432070561908)) .nil)) .nil))) .nil)) .nil)))))))))
  (.cns (.ret (.app 43 (.cns (.var 2) (.cns (.bin .add (.var 3) (.lst (.cns (.tup (.cns (.con (.str 151432070561908)) .nil)) (.cns (.tup (.cns (.con (.str 187098851983795969899026387959923)) (.cns (.tup (.cns (.con (.int 1)) .nil)) .nil))) (.cns (.tup (.cns (.con (.str 136905891139541008492)) (.cns (.tup (.cns (.con (.str 187098851983795969899026387959923)) (.cns (.tup (.cns (.con (.int 1)) .nil)) .nil))) .nil))) (.cns (.con (.str 151432070561908)) (.cns (.con (.str 151432070561908)) (.cns (.con (.str 244494152087489863597483349930185174744454639517812)) .nil)))))))) .nil))))
  .nil))))))
/-- 47 _law_refused_right: 0 soft, 1 bads, 2 unfit, 3 deep, 4 got, 5 due, 6 door, 7 text, 8 at, 9 own -/
def b47 : T := (.cns (.asg (.tn 1) (.lst (.cns (.tup (.cns (.con (.int 0)) (.cns (.con (.str 0)) (.cns (.con (.int 1)) .nil)))) (.cns (.tup (.cns (.con (.int 0)) (.cns (.con (.str 12255243)) (.cns (.con (.int 3)) .nil)))) (.cns (.tup (.cns (.con (.int 0)) (.cns (.con (.str 50)) (.cns (.con (.int 1)) .nil)))) (.cns (.tup (.cns (.con (.int 0)) (.cns (.con (.str 69144368990184931445)) (.cns (.con (.int 1)) .nil)))) (.cns (.tup (.cns (.con (.int 0)) (.cns (.con (.str 85825140215950838583452071821362)) (.cns (.con (.int 2)) .nil)))) (.cns (.tup (.cns (.con (.int 0)) (.cns (.con (.str 85825140215950838583452096331899)) (.cns (.con (.int 1)) .nil)))) (.cns (.tup (.cns (.con (.int 0)) (.cns (.con (.str 121)) (.cns (.con (.int 1)) .nil)))) (.cns (.tup (.cns (.con (.int 0)) (.cns (.con (.str 257802687641696072164351793993723687955791974)) (.cns (.con (.int 1)) .nil)))) (.cns (.tup (.cns (.con (.int 0)) (.cns (.con (.str 319996386215934962843938657287604970772411676057619071097)) (.cns (.con (.int 3)) .nil)))) (.cns (.tup (.cns (.con (.int 0)) (.cns (.con (.str 259933287844478502581950812095673446318538874)) (.cns (.con (.int 1)) .nil)))) .nil))))))))))))
  (.cns (.asg (.tn 1) (.bin .add (.var 1) (.lst (.cns (.tup (.cns (.con (.int 0)) (.cns (.con (.str 207696767125651204647317968846970)) (.cns (.con (.int 1)) .nil)))) (.cns (.tup (.cns (.con (.int 0)) (.cns (.con (.str 108660696397387344109439912486271772842328185)) (.cns (.con (.int 1)) .nil)))) (.cns (.tup (.cns (.con (.int 0)) (.cns (.con (.str 106530096194634094216064971682508227524755577)) (.cns (.con (.int 1)) .nil)))) (.cns (.tup (.cns (.con (.int 0)) (.cns (.con (.str 118686458531521597370091188484679496057177504809081)) (.cns (.con (.int 2)) .nil)))) (.cns (.tup (.cns (.con (.int 0)) (.cns (.con (.str 95618839214194725293168955686550306937)) (.cns (.con (.int 1)) .nil)))) (.cns (.tup (.cns (.con (.int 0)) (.cns (.con (.str 90974645578332544191784457142393)) (.cns (.con (.int 1)) .nil)))) (.cns (.tup (.cns (.con (.int 0)) (.cns (.con (.str 84108638428490270047341309395065)) (.cns (.con (.int 1)) .nil)))) (.cns (.tup (.cns (.con (.int 0)) (.cns (.con (.str 93706472557272393663108175184717217913)) (.cns (.con (.int 1)) .nil)))) .nil)))))))))))
  (.cns (.asg (.tn 1) (.bin .add (.var 1) (.lst (.cns (.tup (.cns (.con (.int 0)) (.cns (.con (.str 327048297080682706889442703539239169501142271049835589303074937)) (.cns (.con (.int 1)) .nil)))) (.cns (.tup (.cns (.con (.int 0)) (.cns (.con (.str 132229979202928915157010765474792731679990039377233707124)) (.cns (.con (.int 1)) .nil)))) (.cns (.tup (.cns (.con (.int 0)) (.cns (.con (.str 233309954293975850937214854308548706420)) (.cns (.con (.int 1)) .nil)))) (.cns (.tup (.cns (.con (.int 0)) (.cns (.con (.str 233309954293975850937214824518665568357)) (.cns (.con (.int 1)) .nil)))) (.cns (.tup (.cns (.con (.int 0)) (.cns (.con (.str 187412963996118373334971909535296782452)) (.cns (.con (.int 1)) .nil)))) (.cns (.tup (.cns (.con (.int 0)) (.cns (.con (.str 137778380669045)) (.cns (.con (.int 1)) .nil)))) (.cns (.tup (.cns (.con (.int 0)) (.cns (.con (.str 45678634)) (.cns (.con (.int 1)) .nil)))) (.cns (.tup (.cns (.con (.int 0)) (.cns (.con (.str 56698500415828131956)) (.cns (.con (.int 1)) .nil)))) (.cns (.tup (.cns (.con (.int 0)) (.cns (.con (.str 168712286997868445738)) (.cns (.con (.int 1)) .nil)))) .nil))))))))))))
  (.cns (.asg (.tn 1) (.bin .add (.var 1) (.lst (.cns (.tup (.cns (.con (.int 0)) (.cns (.con (.str 78407594230057247031019753620422393898)) (.cns (.con (.int 2)) .nil)))) (.cns (.tup (.cns (.con (.int 0)) (.cns (.con (.str 258736479385834951124230252024905553688983796842612)) (.cns (.con (.int 1)) .nil)))) (.cns (.tup (.cns (.con (.int 0)) (.cns (.con (.str 321694670014352689989237112014432267341206596744337151941322369728633)) (.cns (.con (.int 1)) .nil)))) (.cns (.tup (.cns (.con (.int 0)) (.cns (.con (.str 247149837705592619287384758800179757557612660)) (.cns (.con (.int 1)) .nil)))) (.cns (.tup (.cns (.con (.int 0)) (.cns (.con (.str 306773635875438885103967649316115795050496470907844165748)) (.cns (.con (.int 1)) .nil)))) (.cns (.tup (.cns (.con (.int 0)) (.cns (.con (.str 199114379902915387230213685444729)) (.cns (.con (.int 1)) .nil)))) (.cns (.tup (.cns (.con (.int 0)) (.cns (.con (.str 242120433356781722119746883545151577231905882046475)) (.cns (.con (.int 3)) .nil)))) (.cns (.tup (.cns (.con (.int 0)) (.cns (.con (.str 244494152087489863597483349930185174744454639517812)) (.cns (.con (.int 1)) .nil)))) .nil)))))))))))
  (.cns (.asg (.tn 1) (.bin .add (.var 1) (.lst (.cns (.tup (.cns (.con (.int 0)) (.cns (.con (.str 111712213008500)) (.cns (.con (.int 1)) .nil)))) (.cns (.tup (.cns (.con (.int 0)) (.cns (.con (.str 168712286997868445756)) (.cns (.con (.int 1)) .nil)))) (.cns (.tup (.cns (.con (.int 0)) (.cns (.con (.str 400476953577953095525603750482512696800626151133451874852936008204404)) (.cns (.con (.int 2)) .nil)))) (.cns (.tup (.cns (.con (.int 0)) (.cns (.con (.str 289594942198401623331252311247225266461147119616116)) (.cns (.con (.int 1)) .nil)))) (.cns (.tup (.cns (.con (.int 0)) (.cns (.con (.str 287221208553484413193098078116506567415276971819130)) (.cns (.con (.int 1)) .nil)))) (.cns (.tup (.cns (.con (.int 0)) (.cns (.con (.str 95618849513205450056580172351271927929)) (.cns (.con (.int 1)) .nil)))) (.cns (.tup (.cns (.con (.int 0)) (.cns (.con (.str 1179956640255506561221744251190875187282569653272752650934818592389603658355021858915124495575176268321421004365669627742033477696)) (.cns (.con (.int 4)) .nil)))) .nil))))))))))
  (.cns (.asg (.tn 1) (.bin .add (.var 1) (.lst (.cns (.tup (.cns (.con (.int 0)) (.cns (.con (.str 289594942198401623331252428339799580928834526707751)) (.cns (.con (.int 2)) .nil)))) (.cns (.tup (.cns (.con (.int 1)) (.cns (.con (.str 0)) (.cns (.con (.int 1)) .nil)))) (.cns (.tup (.cns (.con (.int 1)) (.cns (.con (.str 85825140215950838583452096331897)) (.cns (.con (.int 1)) .nil)))) (.cns (.tup (.cns (.con (.int 1)) (.cns (.con (.str 319996438437934530820171051857930043549853694789619351674)) (.cns (.con (.int 1)) .nil)))) (.cns (.tup (.cns (.con (.int 1)) (.cns (.con (.str 306773635875438885103967649316112713669472910316923125876)) (.cns (.con (.int 1)) .nil)))) (.cns (.tup (.cns (.con (.int 1)) (.cns (.con (.str 157150596765217453102006394)) (.cns (.con (.int 1)) .nil)))) (.cns (.tup (.cns (.con (.int 1)) (.cns (.con (.str 167935401307080367825879155)) (.cns (.con (.int 1)) .nil)))) (.cns (.tup (.cns (.con (.int 1)) (.cns (.con (.str 118686432964506577186948947556930200899995219066931)) (.cns (.con (.int 1)) .nil)))) (.cns (.tup (.cns (.con (.int 1)) (.cns (.con (.str 62062314192947)) (.cns (.con (.int 1)) .nil)))) .nil))))))))))))
  (.cns (.asg (.tn 1) (.bin .add (.var 1) (.lst (.cns (.tup (.cns (.con (.int 1)) (.cns (.con (.str 64544818659379)) (.cns (.con (.int 1)) .nil)))) (.cns (.tup (.cns (.con (.int 1)) (.cns (.con (.str 263483963720405972908707529421490506769071532343398)) (.cns (.con (.int 1)) .nil)))) (.cns (.tup (.cns (.con (.int 1)) (.cns (.con (.str 196974847059298815545258088026241826866)) (.cns (.con (.int 1)) .nil)))) (.cns (.tup (.cns (.con (.int 1)) (.cns (.con (.str 212273843825251307941050281987424780405)) (.cns (.con (.int 3)) .nil)))) (.cns (.tup (.cns (.con (.int 1)) (.cns (.con (.str 55705645)) (.cns (.con (.int 1)) .nil)))) (.cns (.tup (.cns (.con (.int 1)) (.cns (.con (.str 98)) (.cns (.con (.int 1)) .nil)))) (.cns (.tup (.cns (.con (.int 2)) (.cns (.con (.str 50)) (.cns (.con (.int 1)) .nil)))) (.cns (.tup (.cns (.con (.int 2)) (.cns (.con (.str 158691281745463918695743605)) (.cns (.con (.int 1)) .nil)))) (.cns (.tup (.cns (.con (.int 2)) (.cns (.con (.str 152528496189256312053039115)) (.cns (.con (.int 2)) .nil)))) .nil))))))))))))
  (.cns (.asg (.tn 1) (.bin .add (.var 1) (.lst (.cns (.tup (.cns (.con (.int 2)) (.cns (.con (.str 338107677062058528811166288074112356974172603332315738535856014688306)) (.cns (.con (.int 1)) .nil)))) (.cns (.tup (.cns (.con (.int 2)) (.cns (.con (.str 338107677062058528811166288074112356890063915601863231648249560694892)) (.cns (.con (.int 1)) .nil)))) (.cns (.tup (.cns (.con (.int 2)) (.cns (.con (.str 338107677062058528811166288074070284634796427685337972642045681008761)) (.cns (.con (.int 2)) .nil)))) (.cns (.tup (.cns (.con (.int 2)) (.cns (.con (.str 324977244906477802181177601767772253784959676001582465938751244533812)) (.cns (.con (.int 1)) .nil)))) (.cns (.tup (.cns (.con (.int 2)) (.cns (.con (.str 208449069315363745753126660427066966066)) (.cns (.con (.int 1)) .nil)))) (.cns (.tup (.cns (.con (.int 2)) (.cns (.con (.str 0)) (.cns (.con (.int 1)) .nil)))) .nil)))))))))
  (.cns (.asg (.tn 2) (.lst (.cns (.tup (.cns (.con (.int 3)) (.cns (.tup (.cns (.con (.str 187098851983795969899026387959923)) (.cns (.tup (.cns (.con (.int 1)) .nil)) .nil))) .nil))) (.cns (.tup (.cns (.con (.int 3)) (.cns (.tup (.cns (.con (.str 187098851983795969899026387959923)) (.cns (.con (.str 121)) (.cns (.tup (.cns (.con (.int 4)) .nil)) .nil)))) .nil))) (.cns (.tup (.cns (.con (.int 3)) (.cns (.tup (.cns (.con (.str 187098851983795969899026387959923)) (.cns (.con (.str 121)) (.cns (.tup (.cns (.con (.int 2)) (.cns (.con (.int 1)) .nil))) .nil)))) .nil))) (.cns (.tup (.cns (.con (.int 3)) (.cns (.tup (.cns (.con (.str 160414962669402849382)) (.cns (.con (.str 121)) (.cns (.con (.str 121)) .nil)))) .nil))) (.cns (.tup (.cns (.con (.int 3)) (.cns (.tup (.cns (.con (.str 167935401307080367825879155)) (.cns (.tup (.cns (.con (.str 151432070561908)) .nil)) .nil))) .nil))) (.cns (.tup (.cns (.con (.int 3)) (.cns (.con .non) .nil))) (.cns (.tup (.cns (.con (.int 3)) (.cns (.con (.str 151432070561908)) .nil))) .nil)))))))))
  (.cns (.asg (.tn 2) (.bin .add (.var 2) (.lst (.cns (.tup (.cns (.con (.int 4)) (.cns (.tup (.cns (.con (.str 187098851983795969899026387959923)) (.cns (.con (.str 121)) (.cns (.tup (.cns (.con (.int 1)) .nil)) .nil)))) .nil))) (.cns (.tup (.cns (.con (.int 4)) (.cns (.tup (.cns (.con (.str 169933834109170924119864192991334)) (.cns (.con (.str 121)) (.cns (.con (.str 122)) .nil)))) .nil))) (.cns (.tup (.cns (.con (.int 4)) (.cns (.tup (.cns (.con (.str 151432070561908)) (.cns (.con (.int 1)) .nil))) .nil))) (.cns (.tup (.cns (.con (.int 4)) (.cns (.tup (.cns (.con (.str 121642187423845)) (.cns (.tup (.cns (.con (.str 151432070561908)) .nil)) .nil))) .nil))) (.cns (.tup (.cns (.con (.int 5)) (.cns (.tup (.cns (.con (.str 151432070561908)) .nil)) .nil))) (.cns (.tup (.cns (.con (.int 5)) (.cns (.tup (.cns (.con (.str 158691281745463918695743605)) (.cns (.tup (.cns (.con (.str 187098851983795969899026387959923)) (.cns (.tup (.cns (.con (.int 4)) .nil)) .nil))) .nil))) .nil))) (.cns (.tup (.cns (.con (.int 5)) (.cns (.tup (.cns (.con (.str 150734756745353363573)) (.cns (.tup (.cns (.con (.str 151432070561908)) .nil)) .nil))) .nil))) .nil))))))))))
  (.cns (.asg (.tn 2) (.bin .add (.var 2) (.lst (.cns (.tup (.cns (.con (.int 5)) (.cns (.tup (.cns (.con (.str 158691281745463918695743605)) .nil)) .nil))) .nil))))
  (.cns (.asg (.tn 3) (.bin .add (.bin .add (.bin .mul (.con (.str 41)) (.con (.int 120))) (.con (.str 151432070561908))) (.bin .mul (.con (.str 42)) (.con (.int 120)))))
  (.cns (.asg (.tn 4) (.bin .add (.cpr (.app 44 (.cns (.var 6) (.cns (.var 7) .nil))) (.tt (.cns (.tn 6) (.cns (.tn 7) (.cns (.tn 8) .nil)))) (.itx (.var 1)) (.con (.bl true)) [6, 7, 8]) (.cpr (.app 44 (.cns (.var 6) (.cns (.ife (.var 0) (.app 42 (.cns (.var 9) .nil)) (.var 9)) .nil))) (.tt (.cns (.tn 6) (.cns (.tn 9) .nil))) (.itx (.var 2)) (.con (.bl true)) [6, 9])))
  (.cns (.asg (.tn 4) (.bin .add (.var 4) (.lst (.cns (.app 44 (.cns (.con (.int 0)) (.cns (.var 3) .nil))) (.cns (.app 44 (.cns (.con (.int 1)) (.cns (.var 3) .nil))) (.cns (.app 44 (.cns (.con (.int 0)) (.cns (.bin .add (.bin .add (.con (.str 45678603)) (.var 3)) (.con (.str 42))) .nil))) (.cns (.sub (.app 44 (.cns (.con (.int 1)) (.cns (.bin .add (.bin .mul (.con (.str 153500547243951063073)) (.con (.int 120))) (.con (.str 50))) .nil))) (.con (.int 0))) (.cns (.app 44 (.cns (.con (.int 1)) (.cns (.bin .add (.bin .mul (.con (.str 153500547243951063073)) (.con (.int 121))) (.con (.str 50))) .nil))) .nil))))))))
  (.cns (.asg (.tn 4) (.bin .add (.var 4) (.lst (.cns (.app 44 (.cns (.con (.int 0)) (.cns (.bin .add (.bin .mul (.con (.str 221835720022396867897827829518197915681)) (.con (.int 120))) (.con (.str 23436814504129574078432320315323096926388340))) .nil))) .nil))))
  (.cns (.asg (.tn 5) (.bin .add (.cpr (.tup (.cns (.lst (.cns (.con (.str 128129309259225799499483723691507384437)) (.cns (.con (.bl true)) (.cns (.var 8) .nil)))) (.cns (.con .non) .nil))) (.tt (.cns (.tn 6) (.cns (.tn 7) (.cns (.tn 8) .nil)))) (.itx (.var 1)) (.con (.bl true)) [6, 7, 8]) (.bin .mul (.lst (.cns (.tup (.cns (.lst (.cns (.con (.str 132499537513641482333585525)) (.cns (.con (.bl true)) .nil))) (.cns (.con .non) .nil))) .nil)) (.blt .len (.cns (.var 2) .nil)))))
  (.cns (.asg (.tn 5) (.bin .add (.var 5) (.lst (.cns (.tup (.cns (.con (.str 0)) (.cns (.tup (.cns (.con (.str 151432070561908)) .nil)) .nil))) (.cns (.tup (.cns (.con (.str 0)) (.cns (.tup (.cns (.con (.str 151432070561908)) .nil)) .nil))) (.cns (.tup (.cns (.lst (.cns (.con (.str 128129309259225799499483723691507384437)) (.cns (.con (.bl true)) (.cns (.con (.int 2)) .nil)))) (.cns (.con .non) .nil))) (.cns (.con (.str 0)) (.cns (.tup (.cns (.lst (.cns (.con (.str 128129309259225799499483723691507384437)) (.cns (.con (.bl true)) (.cns (.con (.int 1)) .nil)))) (.cns (.con .non) .nil))) (.cns (.tup (.cns (.lst (.cns (.con (.str 128129309259225799499483723691507384437)) (.cns (.con (.bl true)) (.cns (.con (.int 2)) .nil)))) (.cns (.con .non) .nil))) .nil)))))))))
  (.cns (.ret (.app 43 (.cns (.var 4) (.cns (.var 5) .nil))))
  .nil))))))))))))))))))
/-- 48 law: 0 script, 1 urn, 2 soft, 3 part -/
def b48 : T := (.cns (.asg (.tn 1) (.app 39 (.cns (.app 41 (.cns (.var 0) (.cns (.con (.int 1)) .nil))) (.cns (.con (.int 0)) .nil))))
  (.cns (.asg (.tt (.cns (.tn 2) (.cns (.tn 3) .nil))) (.tup (.cns (.cmp .eq (.app 40 (.cns (.var 1) (.cns (.con (.int 2)) .nil))) (.con (.int 0))) (.cns (.app 40 (.cns (.var 1) (.cns (.con (.int 2)) .nil))) .nil))))
  (.cns (.ret (.ife (.cmp .eq (.var 3) (.con (.int 0))) (.app 46 (.cns (.var 2) .nil)) (.app 47 (.cns (.var 2) .nil))))
  .nil)))
def B0 : F := (seqF (asgF (tfT (varF 0) 150734766675312181350) (varF 1)) skpF)
def B1 : F := (seqF (retF (andF (isaF (varF 0) [.int]) (unaF false (isaF (varF 0) [.bool])))) skpF)
def B2 : F := (seqF (iffF (isaF (varF 0) [.list, .tuple]) (seqF (retF (bltF .tuple (cnsF (cprF (appF 2 (cnsF (varF 1) nilF)) (tnT 1) (itxF (varF 0)) (conF (.bl true)) [1]) nilF))) skpF) skpF) (seqF (retF (varF 0)) skpF))
def B3 : F := (seqF (retF (andF (isaF (varF 0) [.tuple]) (cmpF .eq (bltF .len (cnsF (varF 0) nilF)) (varF 1)))) skpF)
def B4 : F := (seqF (retF (andF (isaF (varF 0) [.str]) (cmpF .isin (varF 0) (gloF 2)))) skpF)
def B5 : F := (seqF (iffF (orF (unaF false (isaF (varF 1) [.tuple])) (unaF false (bltF .all (cnsF (cprF (andF (appF 1 (cnsF (varF 4) nilF)) (chnF .le .le (conF (.int 1)) (varF 4) (varF 0))) (tnT 4) (itxF (varF 1)) (conF (.bl true)) [4]) nilF)))) (seqF (retF (conF (.bl false))) skpF) skpF) (seqF (retF (bltF .all (cnsF (cprF (cmpF .lt (varF 2) (varF 3)) (fun d E s h => match tupOf d with | some ds => (fun ds E s h => match ds with | d :: ds => ((tnT 2) d E s h).onN fun s h => (fun ds E s h => match ds with | d :: ds => ((tnT 3) d E s h).onN fun s h => ttNil ds E s h | [] => .bad 158) ds E s h | [] => .bad 158) ds E s h | none => .bad 156) (itzF (varF 1) (sliF (varF 1) (partF (.con (.int 1)) (conF (.int 1))) (partF .nil nilF))) (conF (.bl true)) [2, 3]) nilF))) skpF))
def B6 : F := (seqF (iffF (orF (unaF false (isaF (varF 1) [.tuple])) (orF (cmpF .eq (varF 1) (tupF nilF)) (unaF false (isaF (subF (varF 1) (conF (.int 0))) [.str])))) (seqF (retF (conF .non)) skpF) skpF) (seqF (asgF (tnT 2) (subF (varF 1) (conF (.int 0)))) (seqF (iffF (cmpF .eq (varF 2) (conF (.str 151432070561908))) (seqF (retF (ifeF (cmpF .eq (bltF .len (cnsF (varF 1) nilF)) (conF (.int 1))) (lstF nilF) (conF .non))) skpF) skpF) (seqF (iffF (cmpF .eq (varF 2) (conF (.str 187098851983795969899026387959923))) (seqF (asgF (tnT 3) (andF (appF 3 (cnsF (varF 1) (cnsF (conF (.int 3)) nilF))) (andF (appF 4 (cnsF (subF (varF 1) (conF (.int 1))) nilF)) (appF 5 (cnsF (varF 0) (cnsF (subF (varF 1) (conF (.int 2))) nilF)))))) (seqF (retF (ifeF (varF 3) (lstF nilF) (conF .non))) skpF)) skpF) (seqF (iffF (cmpF .isin (varF 2) (tupF (cnsF (conF (.str 169933834109170924119864192991334)) (cnsF (conF (.str 160414962669402849382)) nilF)))) (seqF (asgF (tnT 3) (andF (appF 3 (cnsF (varF 1) (cnsF (conF (.int 3)) nilF))) (andF (appF 4 (cnsF (subF (varF 1) (conF (.int 1))) nilF)) (andF (appF 4 (cnsF (subF (varF 1) (conF (.int 2))) nilF)) (cmpF .ne (subF (varF 1) (conF (.int 1))) (subF (varF 1) (conF (.int 2)))))))) (seqF (retF (ifeF (varF 3) (lstF nilF) (conF .non))) skpF)) skpF) (seqF (iffF (cmpF .eq (varF 2) (conF (.str 137778380669045))) (seqF (retF (ifeF (cmpF .eq (bltF .len (cnsF (varF 1) nilF)) (conF (.int 2))) (lstF (cnsF (subF (varF 1) (conF (.int 1))) nilF)) (conF .non))) skpF) skpF) (seqF (iffF (cmpF .isin (varF 2) (tupF (cnsF (conF (.str 121642187423845)) (cnsF (conF (.str 124780659)) nilF)))) (seqF (retF (ifeF (cmpF .eq (bltF .len (cnsF (varF 1) nilF)) (conF (.int 3))) (bltF .list (cnsF (sliF (varF 1) (partF (.con (.int 1)) (conF (.int 1))) (partF .nil nilF)) nilF)) (conF .non))) skpF) skpF) (seqF (iffF (cmpF .isin (varF 2) (tupF (cnsF (conF (.str 160414980046840528998)) (cnsF (conF (.str 157150596765217453102006394)) nilF)))) (seqF (retF (ifeF (andF (cmpF .eq (bltF .len (cnsF (varF 1) nilF)) (conF (.int 3))) (appF 4 (cnsF (subF (varF 1) (conF (.int 1))) nilF))) (lstF (cnsF (subF (varF 1) (conF (.int 2))) nilF)) (conF .non))) skpF) skpF) (seqF (retF (conF .non)) skpF)))))))))
def B7 : F := (seqF (asgF (tnT 2) (boxF (lstF (cnsF (varF 1) nilF)))) (seqF (whlF (cmpF .ne (varF 2) (lstF nilF)) (seqF (asgF (tnT 3) (appF 6 (cnsF (varF 0) (cnsF (mtdF (varF 2) .pop nilF) nilF)))) (seqF (iffF (cmpF .isn (varF 3) (conF .non)) (seqF (retF (conF (.bl false))) skpF) skpF) (seqF (xprF (mtdF (varF 2) .extend (cnsF (varF 3) nilF))) skpF)))) (seqF (retF (conF (.bl true))) skpF)))
def B8 : F := (seqF (asgF (tnT 1) (appF 2 (cnsF (varF 0) nilF))) (seqF (iffF (unaF false (appF 7 (cnsF (gloF 3) (cnsF (varF 1) nilF)))) (seqF (raiF 1 nilF) skpF) skpF) (seqF (retF (varF 1)) skpF)))
def B9 : F := (seqF (iffF (orF (unaF false (isaF (varF 1) [.tuple])) (orF (cmpF .eq (varF 1) (tupF nilF)) (unaF false (isaF (subF (varF 1) (conF (.int 0))) [.str])))) (seqF (retF (conF .non)) skpF) skpF) (seqF (asgF (tnT 2) (subF (varF 1) (conF (.int 0)))) (seqF (iffF (cmpF .eq (varF 2) (conF (.str 151432070561908))) (seqF (retF (ifeF (cmpF .eq (bltF .len (cnsF (varF 1) nilF)) (conF (.int 1))) (lstF nilF) (conF .non))) skpF) skpF) (seqF (iffF (cmpF .eq (varF 2) (conF (.str 187098851983795969899026387959923))) (seqF (retF (ifeF (andF (appF 3 (cnsF (varF 1) (cnsF (conF (.int 2)) nilF))) (appF 5 (cnsF (varF 0) (cnsF (subF (varF 1) (conF (.int 1))) nilF)))) (lstF nilF) (conF .non))) skpF) skpF) (seqF (iffF (cmpF .isin (varF 2) (tupF (cnsF (conF (.str 137778380669045)) (cnsF (gloF 6) (cnsF (gloF 7) nilF))))) (seqF (retF (ifeF (cmpF .eq (bltF .len (cnsF (varF 1) nilF)) (conF (.int 2))) (lstF (cnsF (subF (varF 1) (conF (.int 1))) nilF)) (conF .non))) skpF) skpF) (seqF (iffF (cmpF .isin (varF 2) (tupF (cnsF (conF (.str 121642187423845)) (cnsF (conF (.str 124780659)) nilF)))) (seqF (retF (ifeF (cmpF .eq (bltF .len (cnsF (varF 1) nilF)) (conF (.int 3))) (bltF .list (cnsF (sliF (varF 1) (partF (.con (.int 1)) (conF (.int 1))) (partF .nil nilF)) nilF)) (conF .non))) skpF) skpF) (seqF (retF (conF .non)) skpF)))))))
def B10 : F := (seqF (asgF (tnT 2) (boxF (lstF (cnsF (varF 1) nilF)))) (seqF (whlF (cmpF .ne (varF 2) (lstF nilF)) (seqF (asgF (tnT 3) (appF 9 (cnsF (varF 0) (cnsF (mtdF (varF 2) .pop nilF) nilF)))) (seqF (iffF (cmpF .isn (varF 3) (conF .non)) (seqF (retF (conF (.bl false))) skpF) skpF) (seqF (xprF (mtdF (varF 2) .extend (cnsF (varF 3) nilF))) skpF)))) (seqF (retF (conF (.bl true))) skpF)))
def B11 : F := (seqF (asgF (tnT 1) (appF 2 (cnsF (varF 0) nilF))) (seqF (iffF (unaF false (appF 10 (cnsF (gloF 3) (cnsF (varF 1) nilF)))) (seqF (raiF 1 nilF) skpF) skpF) (seqF (retF (varF 1)) skpF)))
def B12 : F := (seqF (retF (andF (isaF (varF 0) [.str]) (cmpF .isin (varF 0) (tupF (cnsF (gloF 4) (cnsF (gloF 5) nilF)))))) skpF)
def B13 : F := (seqF (retF (andF (appF 3 (cnsF (varF 1) (cnsF (conF (.int 2)) nilF))) (andF (appF 12 (cnsF (subF (varF 1) (conF (.int 0))) nilF)) (appF 10 (cnsF (varF 0) (cnsF (subF (varF 1) (conF (.int 1))) nilF)))))) skpF)
def B14 : F := (seqF (asgF (tnT 1) (appF 2 (cnsF (varF 0) nilF))) (seqF (iffF (unaF false (appF 13 (cnsF (gloF 3) (cnsF (varF 1) nilF)))) (seqF (raiF 1 nilF) skpF) skpF) (seqF (retF (varF 1)) skpF)))
def B15 : F := (seqF (retF (ifeF (cmpF .ne (varF 0) (tupF nilF)) (mtdF (conF (.str 45)) .join (cnsF (cprF (bltF .str (cnsF (varF 1) nilF)) (tnT 1) (itxF (varF 0)) (conF (.bl true)) [1]) nilF)) (gloF 11))) skpF)
def B16 : F := (seqF (iffF (cmpF .eq (subF (varF 0) (conF (.int 0))) (conF (.str 151432070561908))) (seqF (retF (subF (varF 0) (conF (.int 0)))) skpF) skpF) (seqF (iffF (cmpF .eq (subF (varF 0) (conF (.int 0))) (conF (.str 187098851983795969899026387959923))) (seqF (retF (binF .add (appF 15 (cnsF (subF (varF 0) (unaF true (conF (.int 1)))) nilF)) (ifeF (cmpF .eq (bltF .len (cnsF (varF 0) nilF)) (conF (.int 3))) (binF .add (binF .add (binF .add (conF (.str 33)) (gloF 12)) (conF (.str 33))) (subF (varF 0) (conF (.int 1)))) (conF (.str 0))))) skpF) skpF) (seqF (retF (binF .add (binF .add (binF .add (binF .add (subF (varF 0) (conF (.int 1))) (conF (.str 33))) (subF (varF 0) (conF (.int 0)))) (conF (.str 33))) (subF (varF 0) (conF (.int 2))))) skpF)))
def B17 : F := (seqF (asgF (tnT 2) (subF (varF 0) (conF (.int 0)))) (seqF (iffF (cmpF .isin (varF 2) (tupF (cnsF (conF (.str 121642187423845)) (cnsF (conF (.str 124780659)) nilF)))) (seqF (asgF (tnT 3) (ifeF (cmpF .eq (varF 2) (conF (.str 121642187423845))) (gloF 9) (gloF 8))) (seqF (asgF (tnT 4) (binF .add (binF .add (binF .add (binF .add (appF 17 (cnsF (subF (varF 0) (conF (.int 1))) (cnsF (varF 3) nilF))) (conF (.str 33))) (varF 2)) (conF (.str 33))) (appF 17 (cnsF (subF (varF 0) (conF (.int 2))) (cnsF (binF .add (varF 3) (conF (.int 1))) nilF))))) (seqF (retF (ifeF (cmpF .ge (varF 3) (varF 1)) (varF 4) (binF .add (binF .add (conF (.str 41)) (varF 4)) (conF (.str 42))))) skpF))) skpF) (seqF (iffF (cmpF .isin (varF 2) (tupF (cnsF (conF (.str 160414980046840528998)) (cnsF (conF (.str 157150596765217453102006394)) nilF)))) (seqF (retF (binF .add (binF .add (binF .add (binF .add (varF 2) (conF (.str 33))) (subF (varF 0) (conF (.int 1)))) (conF (.str 33))) (appF 17 (cnsF (subF (varF 0) (conF (.int 2))) (cnsF (gloF 10) nilF))))) skpF) skpF) (seqF (retF (ifeF (cmpF .isin (varF 2) (tupF (cnsF (conF (.str 137778380669045)) (cnsF (conF (.str 167935401307080367825879155)) (cnsF (conF (.str 150987815357684423128645733)) nilF))))) (binF .add (binF .add (varF 2) (conF (.str 33))) (appF 17 (cnsF (subF (varF 0) (conF (.int 1))) (cnsF (gloF 10) nilF)))) (appF 16 (cnsF (varF 0) nilF)))) skpF))))
def B18 : F := (seqF (retF (appF 17 (cnsF (appF 8 (cnsF (varF 0) nilF)) (cnsF (gloF 8) nilF)))) skpF)
def B19 : F := (seqF (retF (appF 17 (cnsF (appF 11 (cnsF (varF 0) nilF)) (cnsF (gloF 8) nilF)))) skpF)
def B20 : F := (seqF (asgF (fun d E s h => match tupOf d with | some ds => (fun ds E s h => match ds with | d :: ds => ((tnT 1) d E s h).onN fun s h => (fun ds E s h => match ds with | d :: ds => ((tnT 2) d E s h).onN fun s h => ttNil ds E s h | [] => .bad 158) ds E s h | [] => .bad 158) ds E s h | none => .bad 156) (appF 14 (cnsF (varF 0) nilF))) (seqF (retF (binF .add (binF .add (varF 1) (conF (.str 33))) (appF 17 (cnsF (varF 2) (cnsF (gloF 8) nilF))))) skpF))
def B21 : F := (seqF (asgF (tnT 3) (varF 1)) (seqF (whlF (andF (cmpF .lt (varF 3) (bltF .len (cnsF (varF 0) nilF))) (cmpF .isin (subF (varF 0) (varF 3)) (varF 2))) (seqF (asgF (tnT 3) (binF .add (varF 3) (conF (.int 1)))) skpF)) (seqF (retF (varF 3)) skpF)))
def B22 : F := (seqF (asgF (fun d E s h => match tupOf d with | some ds => (fun ds E s h => match ds with | d :: ds => ((tnT 1) d E s h).onN fun s h => (fun ds E s h => match ds with | d :: ds => ((tnT 2) d E s h).onN fun s h => (fun ds E s h => match ds with | d :: ds => ((tnT 3) d E s h).onN fun s h => ttNil ds E s h | [] => .bad 158) ds E s h | [] => .bad 158) ds E s h | [] => .bad 158) ds E s h | none => .bad 156) (tupF (cnsF (boxF (lstF nilF)) (cnsF (conF (.int 0)) (cnsF (conF (.int 1)) nilF))))) (seqF (whlF (cmpF .lt (varF 2) (bltF .len (cnsF (varF 0) nilF))) (seqF (asgF (tnT 4) (subF (varF 0) (varF 2))) (seqF (iffF (cmpF .isin (varF 4) (gloF 16)) (seqF (asgF (tnT 3) (binF .add (varF 3) (ifeF (cmpF .eq (varF 4) (conF (.str 11))) (conF (.int 1)) (conF (.int 0))))) (seqF (asgF (tnT 2) (binF .add (varF 2) (conF (.int 1)))) (seqF (fun _ s h => .cnt s h) skpF))) skpF) (seqF (asgF (tnT 5) (binF .add (varF 2) (conF (.int 1)))) (seqF (iffF (orF (cmpF .isin (varF 4) (gloF 13)) (cmpF .isin (varF 4) (gloF 14))) (seqF (asgF (tnT 5) (appF 21 (cnsF (varF 0) (cnsF (varF 2) (cnsF (binF .add (gloF 13) (gloF 14)) nilF))))) skpF) skpF) (seqF (asgF (tnT 6) (sliF (varF 0) (partF (.var 2) (varF 2)) (partF (.var 5) (varF 5)))) (seqF (iffF (andF (cmpF .notin (varF 4) (gloF 15)) (andF (cmpF .notin (varF 6) (gloF 20)) (cmpF .notin (varF 6) (cprF (bltF .str (cnsF (binF .add (varF 7) (conF (.int 1))) nilF)) (tnT 7) (itr1F (gloF 3)) (conF (.bl true)) [7])))) (seqF (raiF 0 (cnsF (varF 3) nilF)) skpF) skpF) (seqF (xprF (mtdF (varF 1) .append (cnsF (tupF (cnsF (varF 6) (cnsF (varF 3) nilF))) nilF))) (seqF (asgF (tnT 2) (varF 5)) skpF))))))))) (seqF (xprF (mtdF (varF 1) .append (cnsF (tupF (cnsF (gloF 21) (cnsF (varF 3) nilF))) nilF))) (seqF (retF (varF 1)) skpF))))
def B23 : F := (seqF (asgF (tfT (varF 0) 193964865296379547845141511667828) (appF 22 (cnsF (varF 1) nilF))) (seqF (asgF (tfT (varF 0) 109183093) (conF (.int 0))) (seqF (asgF (tfT (varF 0) 139671669225684336753) (conF (.int 0))) (seqF (asgF (tfT (varF 0) 393911774329911074065007390528258797629155106053334605785501215686772) (varF 2)) skpF))))
def B24 : F := (seqF (retF (subF (subF (fldF (varF 0) 193964865296379547845141511667828) (fldF (varF 0) 109183093)) (conF (.int 0)))) skpF)
def B25 : F := (seqF (iffF (unaF false (varF 1)) (seqF (raiF 0 (cnsF (subF (subF (fldF (varF 0) 193964865296379547845141511667828) (fldF (varF 0) 109183093)) (conF (.int 1))) nilF)) skpF) skpF) skpF)
def B26 : F := (seqF (asgF (tnT 2) (cmpF .eq (metF (varF 0) 137778380669048 nilF) (varF 1))) (seqF (iffF (varF 2) (seqF (asgF (tfT (varF 0) 109183093) (binF .add (fldF (varF 0) 109183093) (conF (.int 1)))) skpF) skpF) (seqF (retF (varF 2)) skpF)))
def B27 : F := (seqF (xprF (metF (varF 0) 160414987494319390822 (cnsF (cmpF .isin (metF (varF 0) 137778380669048 nilF) (varF 1)) nilF))) (seqF (asgF (tfT (varF 0) 109183093) (binF .add (fldF (varF 0) 109183093) (conF (.int 1)))) (seqF (retF (subF (subF (fldF (varF 0) 193964865296379547845141511667828) (binF .sub (fldF (varF 0) 109183093) (conF (.int 1)))) (conF (.int 0)))) skpF)))
def B28 : F := (seqF (asgF (tnT 1) (metF (varF 0) 168217343106552235345325174292583 nilF)) (seqF (whlF (metF (varF 0) 161797866607422210156 (cnsF (conF (.str 124780659)) nilF)) (seqF (asgF (tnT 1) (tupF (cnsF (conF (.str 124780659)) (cnsF (varF 1) (cnsF (metF (varF 0) 168217343106552235345325174292583 nilF) nilF))))) skpF)) (seqF (retF (varF 1)) skpF)))
def B29 : F := (seqF (asgF (tnT 1) (metF (varF 0) 150987820889243077916426342 nilF)) (seqF (whlF (metF (varF 0) 161797866607422210156 (cnsF (conF (.str 121642187423845)) nilF)) (seqF (asgF (tnT 1) (tupF (cnsF (conF (.str 121642187423845)) (cnsF (varF 1) (cnsF (metF (varF 0) 150987820889243077916426342 nilF) nilF))))) skpF)) (seqF (retF (varF 1)) skpF)))
def B30 : F := (seqF (xprF (metF (varF 0) 160414987494319390822 (cnsF (cmpF .lt (fldF (varF 0) 139671669225684336753) (gloF 22)) nilF))) (seqF (asgF (tfT (varF 0) 139671669225684336753) (binF .add (fldF (varF 0) 139671669225684336753) (conF (.int 1)))) (seqF (asgF (tnT 2) (clvF 1 nilF)) (seqF (asgF (tfT (varF 0) 139671669225684336753) (binF .sub (fldF (varF 0) 139671669225684336753) (conF (.int 1)))) (seqF (retF (varF 2)) skpF)))))
def B31 : F := (seqF (asgF (tnT 1) (metF (varF 0) 137778380669048 nilF)) (seqF (iffF (cmpF .eq (varF 1) (conF (.str 41))) (seqF (asgF (tfT (varF 0) 109183093) (binF .add (fldF (varF 0) 109183093) (conF (.int 1)))) (seqF (asgF (tnT 2) (metF (varF 0) 205980377808624270902531944218735 (cnsF (bmvF (varF 0) 168217346187951236431203628220519) nilF))) (seqF (xprF (metF (varF 0) 161797849229980074086 (cnsF (tupF (cnsF (conF (.str 42)) nilF)) nilF))) (seqF (retF (varF 2)) skpF)))) skpF) (seqF (iffF (orF (cmpF .eq (varF 1) (conF (.str 137778380669045))) (andF (cmpF .isin (varF 1) (gloF 19)) (unaF false (fldF (varF 0) 393911774329911074065007390528258797629155106053334605785501215686772)))) (seqF (asgF (tfT (varF 0) 109183093) (binF .add (fldF (varF 0) 109183093) (conF (.int 1)))) (seqF (retF (tupF (cnsF (varF 1) (cnsF (metF (varF 0) 205980377808624270902531944218735 (cnsF (bmvF (varF 0) 150987820889243077916426342) nilF)) nilF)))) skpF)) skpF) (seqF (iffF (andF (cmpF .isin (varF 1) (gloF 18)) (fldF (varF 0) 393911774329911074065007390528258797629155106053334605785501215686772)) (seqF (asgF (tfT (varF 0) 109183093) (binF .add (fldF (varF 0) 109183093) (conF (.int 1)))) (seqF (asgF (tnT 3) (metF (varF 0) 161797849229980074086 (cnsF (gloF 2) nilF))) (seqF (retF (tupF (cnsF (varF 1) (cnsF (varF 3) (cnsF (metF (varF 0) 205980377808624270902531944218735 (cnsF (bmvF (varF 0) 150987820889243077916426342) nilF)) nilF))))) skpF))) skpF) (seqF (retF (metF (varF 0) 136905891139557720166 nilF)) skpF)))))
def B32 : F := (seqF (iffF (metF (varF 0) 161797866607422210156 (cnsF (conF (.str 151432070561908)) nilF)) (seqF (retF (tupF (cnsF (conF (.str 151432070561908)) nilF))) skpF) skpF) (seqF (iffF (andF (cmpF .isin (metF (varF 0) 137778380669048 nilF) (gloF 2)) (fldF (varF 0) 393911774329911074065007390528258797629155106053334605785501215686772)) (seqF (asgF (tnT 2) (metF (varF 0) 161797849229980074086 (cnsF (gloF 2) nilF))) (seqF (asgF (tnT 3) (metF (varF 0) 161797849229980074086 (cnsF (gloF 17) nilF))) (seqF (xprF (metF (varF 0) 160414987494319390822 (cnsF (andF (cmpF .isin (metF (varF 0) 137778380669048 nilF) (gloF 2)) (cmpF .ne (metF (varF 0) 137778380669048 nilF) (varF 2))) nilF))) (seqF (retF (tupF (cnsF (varF 3) (cnsF (varF 2) (cnsF (metF (varF 0) 161797849229980074086 (cnsF (gloF 2) nilF)) nilF))))) skpF)))) skpF) (seqF (asgF (tnT 1) (metF (varF 0) 208449076181370895616144087142805733492 nilF)) (seqF (iffF (unaF false (fldF (varF 0) 393911774329911074065007390528258797629155106053334605785501215686772)) (seqF (retF (tupF (cnsF (conF (.str 187098851983795969899026387959923)) (cnsF (varF 1) nilF)))) skpF) skpF) (seqF (xprF (metF (varF 0) 161797849229980074086 (cnsF (tupF (cnsF (gloF 12) nilF)) nilF))) (seqF (retF (tupF (cnsF (conF (.str 187098851983795969899026387959923)) (cnsF (metF (varF 0) 161797849229980074086 (cnsF (gloF 2) nilF)) (cnsF (varF 1) nilF))))) skpF))))))
def B33 : F := (seqF (iffF (metF (varF 0) 161797866607422210156 (cnsF (gloF 11) nilF)) (seqF (retF (tupF nilF)) skpF) skpF) (seqF (asgF (tnT 1) (boxF (lstF (cnsF (metF (varF 0) 187098851983795969899026387959923 (cnsF (conF (.int 0)) nilF)) nilF)))) (seqF (whlF (metF (varF 0) 161797866607422210156 (cnsF (conF (.str 45)) nilF)) (seqF (xprF (mtdF (varF 1) .append (cnsF (metF (varF 0) 187098851983795969899026387959923 (cnsF (subF (varF 1) (unaF true (conF (.int 1)))) nilF)) nilF))) skpF)) (seqF (retF (bltF .tuple (cnsF (varF 1) nilF))) skpF))))
def B34 : F := (seqF (xprF (metF (varF 0) 160414987494319390822 (cnsF (cmpF .isin (metF (varF 0) 137778380669048 nilF) (cprF (bltF .str (cnsF (varF 2) nilF)) (tnT 2) (itr2F (binF .add (varF 1) (conF (.int 1))) (binF .add (gloF 3) (conF (.int 1)))) (conF (.bl true)) [2])) nilF))) (seqF (retF (bltF .int (cnsF (metF (varF 0) 161797849229980074086 (cnsF (tupF (cnsF (metF (varF 0) 137778380669048 nilF) nilF)) nilF)) nilF))) skpF))
def B35 : F := (seqF (xprF (metF (varF 0) 160414987494319390822 (cnsF (cmpF .eq (metF (varF 0) 137778380669048 nilF) (gloF 21)) nilF))) (seqF (retF (varF 1)) skpF))
def B36 : F := (seqF (asgF (tnT 1) (newF 142469805509794913095634989219955 (cnsF (varF 0) (cnsF (conF (.bl true)) nilF)))) (seqF (retF (metF (varF 1) 184883006616863335727824998 (cnsF (metF (varF 1) 168217346187951236431203628220519 nilF) nilF))) skpF))
def B37 : F := (seqF (asgF (tnT 1) (newF 142469805509794913095634989219955 (cnsF (varF 0) (cnsF (conF (.bl false)) nilF)))) (seqF (retF (metF (varF 1) 184883006616863335727824998 (cnsF (metF (varF 1) 168217346187951236431203628220519 nilF) nilF))) skpF))
def B38 : F := (seqF (asgF (tnT 1) (newF 142469805509794913095634989219955 (cnsF (varF 0) (cnsF (conF (.bl false)) nilF)))) (seqF (asgF (tnT 2) (metF (varF 1) 161797849229980074086 (cnsF (tupF (cnsF (gloF 4) (cnsF (gloF 5) nilF))) nilF))) (seqF (retF (metF (varF 1) 184883006616863335727824998 (cnsF (tupF (cnsF (varF 2) (cnsF (metF (varF 1) 168217346187951236431203628220519 nilF) nilF))) nilF))) skpF)))
def B39 : F := (seqF (asgF (tnT 2) (ifeF (cmpF .lt (varF 1) (bltF .len (cnsF (varF 0) nilF))) (subF (varF 0) (varF 1)) (conF (.int 0)))) (seqF (retF (boxF (lstF (cnsF (binF .mul (bltF .abs (cnsF (varF 2) nilF)) (bltF .int (cnsF (cmpF .ge (bltF .abs (cnsF (varF 2) nilF)) (binF .pow (conF (.int 10)) (conF (.int 18)))) nilF))) (cnsF (binF .add (binF .add (binF .mod (bltF .int (cnsF (varF 2) nilF)) (conF (.int 2305843009213693951))) (binF .mul (conF (.int 39373)) (varF 1))) (conF (.int 91827361))) (cnsF (conF (.int 0)) nilF)))))) skpF))
def B40 : F := (seqF (iffF (cmpF .gt (subF (varF 0) (conF (.int 0))) (conF (.int 0))) (seqF (asgF (tnT 5) (binF .mod (bltF .int (cnsF (subF (varF 0) (conF (.int 0))) nilF)) (varF 1))) (seqF (asgF (tsT (varF 0) (conF (.int 0))) (binF .fdiv (subF (varF 0) (conF (.int 0))) (varF 1))) (seqF (retF (varF 5)) skpF))) skpF) (seqF (asgF (tsT (varF 0) (conF (.int 2))) (binF .add (subF (varF 0) (conF (.int 2))) (conF (.int 1)))) (seqF (asgF (tnT 2) (binF .mod (bltF .int (cnsF (binF .mul (binF .add (subF (varF 0) (conF (.int 1))) (binF .mul (conF (.int 48271)) (subF (varF 0) (conF (.int 2))))) (binF .add (conF (.int 39373)) (subF (varF 0) (conF (.int 2))))) nilF)) (conF (.int 2147483647)))) (seqF (asgF (tnT 3) (binF .add (binF .mod (bltF .int (cnsF (varF 2) nilF)) (conF (.int 40009))) (conF (.int 7)))) (seqF (asgF (tnT 4) (binF .mod (bltF .int (cnsF (binF .mul (binF .add (binF .add (varF 2) (subF (varF 0) (conF (.int 2)))) (binF .fdiv (subF (varF 0) (conF (.int 1))) (conF (.int 1000003)))) (varF 3)) nilF)) (conF (.int 2147483629)))) (seqF (retF (binF .mod (bltF .int (cnsF (binF .fdiv (binF .mod (bltF .int (cnsF (binF .add (binF .mul (varF 4) (conF (.int 48271))) (varF 2)) nilF)) (conF (.int 2147483587))) (conF (.int 64))) nilF)) (varF 1))) skpF))))))
def B41 : F := (seqF (asgF (tnT 2) (orF (boxF (bltF .list (cnsF (sliF (varF 0) (partF .nil nilF) (partF (.var 1) (varF 1))) nilF))) (boxF (lstF (cnsF (conF (.int 0)) nilF))))) (seqF (freF (fun d E s h => match tupOf d with | some ds => (fun ds E s h => match ds with | d :: ds => ((tnT 3) d E s h).onN fun s h => (fun ds E s h => match ds with | d :: ds => ((tnT 4) d E s h).onN fun s h => ttNil ds E s h | [] => .bad 158) ds E s h | [] => .bad 158) ds E s h | none => .bad 156) (iteF (sliF (varF 0) (partF (.var 1) (varF 1)) (partF (.con (.int 63)) (conF (.int 63))))) (seqF (asgF (tnT 5) (binF .mod (bltF .int (cnsF (varF 3) nilF)) (varF 1))) (seqF (asgF (tsT (varF 2) (varF 5)) (binF .add (subF (varF 2) (varF 5)) (binF .mul (varF 4) (binF .add (varF 3) (conF (.int 2)))))) skpF))) (seqF (retF (varF 2)) skpF)))
def B42 : F := (seqF (retF (ifeF (isaF (varF 0) [.list, .tuple]) (cprF (appF 42 (cnsF (varF 1) nilF)) (tnT 1) (itxF (varF 0)) (conF (.bl true)) [1]) (varF 0))) skpF)
def B43 : F := (seqF (iffF (isaF (varF 1) [.list, .tuple]) (seqF (iffF (orF (cmpF .ne (isaF (varF 0) [.list]) (isaF (varF 1) [.list])) (cmpF .ne (isaF (varF 0) [.tuple]) (isaF (varF 1) [.tuple]))) (seqF (retF (conF (.bl false))) skpF) skpF) (seqF (retF (andF (cmpF .eq (bltF .len (cnsF (varF 0) nilF)) (bltF .len (cnsF (varF 1) nilF))) (bltF .all (cnsF (cprF (appF 43 (cnsF (varF 2) (cnsF (varF 3) nilF))) (fun d E s h => match tupOf d with | some ds => (fun ds E s h => match ds with | d :: ds => ((tnT 2) d E s h).onN fun s h => (fun ds E s h => match ds with | d :: ds => ((tnT 3) d E s h).onN fun s h => ttNil ds E s h | [] => .bad 158) ds E s h | [] => .bad 158) ds E s h | none => .bad 156) (itzF (varF 0) (varF 1)) (conF (.bl true)) [2, 3]) nilF)))) skpF)) skpF) (seqF (iffF (orF (cmpF .isn (varF 1) (conF .non)) (isaF (varF 1) [.bool, .str])) (seqF (retF (andF (cmpF .eq (isaF (varF 0) [.str]) (isaF (varF 1) [.str])) (andF (cmpF .eq (isaF (varF 0) [.bool]) (isaF (varF 1) [.bool])) (andF (cmpF .eq (cmpF .isn (varF 0) (conF .non)) (cmpF .isn (varF 1) (conF .non))) (cmpF .eq (varF 0) (varF 1)))))) skpF) skpF) (seqF (retF (andF (isaF (varF 0) [.int]) (andF (unaF false (isaF (varF 0) [.bool])) (cmpF .eq (varF 0) (varF 1))))) skpF)))
def B44 : F := (seqF (asgF (fun d E s h => match tupOf d with | some ds => (fun ds E s h => match ds with | d :: ds => ((tnT 3) d E s h).onN fun s h => (fun ds E s h => match ds with | d :: ds => ((tnT 4) d E s h).onN fun s h => ttNil ds E s h | [] => .bad 158) ds E s h | [] => .bad 158) ds E s h | none => .bad 156) (tupF (cnsF (conF (.str 0)) (cnsF (conF .non) nilF)))) (seqF (tryF (seqF (iffF (cmpF .lt (varF 0) (conF (.int 3))) (seqF (asgF (tnT 4) (ifeF (cmpF .eq (varF 0) (conF (.int 0))) (appF 36 (cnsF (varF 1) nilF)) (ifeF (cmpF .eq (varF 0) (conF (.int 1))) (appF 37 (cnsF (varF 1) nilF)) (appF 38 (cnsF (varF 1) nilF))))) skpF) (seqF (asgF (tnT 4) (ifeF (cmpF .eq (varF 0) (conF (.int 3))) (appF 18 (cnsF (varF 1) nilF)) (ifeF (cmpF .eq (varF 0) (conF (.int 4))) (appF 19 (cnsF (varF 1) nilF)) (appF 20 (cnsF (varF 1) nilF))))) skpF)) skpF) (hcons [0] (some 2) (seqF (asgF (tnT 3) (lstF (cnsF (conF (.str 128129309259225799499483723691507384437)) (cnsF (exiF 2 [.exv]) (cnsF (exfF 2) nilF))))) skpF) (hcons [1] (some 2) (seqF (asgF (tnT 3) (lstF (cnsF (conF (.str 132499537513641482333585525)) (cnsF (exiF 2 [.exv]) nilF)))) skpF) hnil))) (seqF (retF (tupF (cnsF (varF 3) (cnsF (varF 4) nilF)))) skpF)))
def B45 : F := (seqF (asgF (fun d E s h => match tupOf d with | some ds => (fun ds E s h => match ds with | d :: ds => ((tnT 1) d E s h).onN fun s h => (fun ds E s h => match ds with | d :: ds => ((tnT 2) d E s h).onN fun s h => (fun ds E s h => match ds with | d :: ds => ((tnT 3) d E s h).onN fun s h => (fun ds E s h => match ds with | d :: ds => ((tnT 4) d E s h).onN fun s h => ttNil ds E s h | [] => .bad 158) ds E s h | [] => .bad 158) ds E s h | [] => .bad 158) ds E s h | [] => .bad 158) ds E s h | none => .bad 156) (tupF (cnsF (tupF (cnsF (conF (.str 187098851983795969899026387959923)) (cnsF (conF (.str 121)) (cnsF (tupF (cnsF (conF (.int 1)) nilF)) nilF)))) (cnsF (tupF (cnsF (conF (.str 187098851983795969899026387959923)) (cnsF (conF (.str 122)) (cnsF (tupF (cnsF (conF (.int 2)) (cnsF (conF (.int 3)) nilF))) nilF)))) (cnsF (tupF (cnsF (conF (.str 187098851983795969899026387959923)) (cnsF (conF (.str 121)) (cnsF (tupF nilF) nilF)))) (cnsF (tupF (cnsF (conF (.str 151432070561908)) nilF)) nilF)))))) (seqF (asgF (fun d E s h => match tupOf d with | some ds => (fun ds E s h => match ds with | d :: ds => ((tnT 5) d E s h).onN fun s h => (fun ds E s h => match ds with | d :: ds => ((tnT 6) d E s h).onN fun s h => (fun ds E s h => match ds with | d :: ds => ((tnT 7) d E s h).onN fun s h => ttNil ds E s h | [] => .bad 158) ds E s h | [] => .bad 158) ds E s h | [] => .bad 158) ds E s h | none => .bad 156) (tupF (cnsF (tupF (cnsF (conF (.str 187098851983795969899026387959923)) (cnsF (tupF (cnsF (conF (.int 1)) nilF)) nilF))) (cnsF (tupF (cnsF (conF (.str 187098851983795969899026387959923)) (cnsF (tupF (cnsF (conF (.int 2)) nilF)) nilF))) (cnsF (tupF (cnsF (conF (.str 187098851983795969899026387959923)) (cnsF (tupF nilF) nilF))) nilF))))) (seqF (asgF (tnT 0) (lstF (cnsF (tupF (cnsF (conF (.int 0)) (cnsF (conF (.str 151432070561908)) (cnsF (varF 4) (cnsF (conF (.str 151432070561908)) nilF))))) (cnsF (tupF (cnsF (conF (.int 0)) (cnsF (conF (.str 70309902309675862754793722411178944002326561)) (cnsF (varF 1) (cnsF (conF (.str 85825140215950838583452096331897)) nilF))))) (cnsF (tupF (cnsF (conF (.int 0)) (cnsF (conF (.str 108660696397390777113014833623343994416201850)) (cnsF (varF 2) (cnsF (conF (.str 108660696397390777113014833623343994416201850)) nilF))))) (cnsF (tupF (cnsF (conF (.int 0)) (cnsF (conF (.str 121060113344269553266376222504094633845605814435962)) (cnsF (varF 2) (cnsF (conF (.str 108660696397390777113014833623343994416201850)) nilF))))) (cnsF (tupF (cnsF (conF (.int 0)) (cnsF (conF (.str 263483963720405972908707529421472529249990140297337)) (cnsF (varF 3) (cnsF (conF (.str 263483963720405972908707529421472529249990140297337)) nilF))))) nilF))))))) (seqF (asgF (tnT 0) (binF .add (varF 0) (lstF (cnsF (tupF (cnsF (conF (.int 0)) (cnsF (conF (.str 319996438437934530820171051857930043549853694789619351674)) (cnsF (tupF (cnsF (conF (.str 169933834109170924119864192991334)) (cnsF (conF (.str 121)) (cnsF (conF (.str 122)) nilF)))) (cnsF (conF (.str 319996438437934530820171051857930043549853694789619351674)) nilF))))) (cnsF (tupF (cnsF (conF (.int 0)) (cnsF (conF (.str 259933287844478502581950812095673446318538873)) (cnsF (tupF (cnsF (conF (.str 160414962669402849382)) (cnsF (conF (.str 122)) (cnsF (conF (.str 121)) nilF)))) (cnsF (conF (.str 259933287844478502581950812095673446318538873)) nilF))))) (cnsF (tupF (cnsF (conF (.int 0)) (cnsF (conF (.str 327048297080696949105949954738608399014553971235749207898194036)) (cnsF (tupF (cnsF (conF (.str 137778380669045)) (cnsF (tupF (cnsF (conF (.str 137778380669045)) (cnsF (varF 4) nilF))) nilF))) (cnsF (conF (.str 327048297080696949105949954738608399014553971235749207898194036)) nilF))))) nilF)))))) (seqF (asgF (tnT 0) (binF .add (varF 0) (lstF (cnsF (tupF (cnsF (conF (.int 0)) (cnsF (conF (.str 1179956640255506561221744251190875187282569753140856397864218616010947938174487097999716317790421941285050948179406788668771336313)) (cnsF (tupF (cnsF (conF (.str 121642187423845)) (cnsF (tupF (cnsF (conF (.str 121642187423845)) (cnsF (varF 4) (cnsF (varF 4) nilF)))) (cnsF (varF 1) nilF)))) (cnsF (conF (.str 1179956640255506561221744251190875187282569753140856397864218616010947938174487097999716317790421941285050948179406788668771336313)) nilF))))) nilF)))) (seqF (asgF (tnT 0) (binF .add (varF 0) (lstF (cnsF (tupF (cnsF (conF (.int 0)) (cnsF (conF (.str 1464615927192081513900275061889896397085992025966855311990589191069126824916207899068247298384639104804983490210079481452729474730950170050602)) (cnsF (tupF (cnsF (conF (.str 121642187423845)) (cnsF (varF 4) (cnsF (tupF (cnsF (conF (.str 121642187423845)) (cnsF (varF 4) (cnsF (varF 1) nilF)))) nilF)))) (cnsF (conF (.str 1464615927192081513900275061889896397085992025966855311990589191069126824916207899068247298384639104804983490210079481452729474730950170050602)) nilF))))) nilF)))) (seqF (asgF (tnT 0) (binF .add (varF 0) (lstF (cnsF (tupF (cnsF (conF (.int 0)) (cnsF (conF (.str 1059100557444410042456902303427895174141635617792785775008435935166744148266290462897884125326233727852830998581431855612020)) (cnsF (tupF (cnsF (conF (.str 124780659)) (cnsF (varF 4) (cnsF (tupF (cnsF (conF (.str 121642187423845)) (cnsF (varF 1) (cnsF (varF 4) nilF)))) nilF)))) (cnsF (conF (.str 1059100557444410042456902303427895174141635617792785775008435935166744148266290462897884125326233727852830998581431855612020)) nilF))))) nilF)))) (seqF (asgF (tnT 0) (binF .add (varF 0) (lstF (cnsF (tupF (cnsF (conF (.int 0)) (cnsF (conF (.str 441793946354549940753486923713416234295391338529238337823849035799142417402326672255183198210705661150978312499258251513011417192464500)) (cnsF (tupF (cnsF (conF (.str 121642187423845)) (cnsF (tupF (cnsF (conF (.str 124780659)) (cnsF (varF 4) (cnsF (varF 1) nilF)))) (cnsF (varF 4) nilF)))) (cnsF (conF (.str 441793946354549940753486923713416234295391338529238337823849035799142417402326672255183198210705661150978312499258251513011417192464500)) nilF))))) nilF)))) (seqF (asgF (tnT 0) (binF .add (varF 0) (lstF (cnsF (tupF (cnsF (conF (.int 0)) (cnsF (conF (.str 548373796878281819199634269779113117045624549637703641571856441957791136021718308552351331302633288081817247296216401099652017976429186392592613418)) (cnsF (tupF (cnsF (conF (.str 124780659)) (cnsF (varF 4) (cnsF (tupF (cnsF (conF (.str 124780659)) (cnsF (varF 4) (cnsF (varF 4) nilF)))) nilF)))) (cnsF (conF (.str 853256278491190710766355600069389113091012596003314531830872123829040454457680066453375807584394486275806330922)) nilF))))) nilF)))) (seqF (asgF (tnT 0) (binF .add (varF 0) (lstF (cnsF (tupF (cnsF (conF (.int 0)) (cnsF (conF (.str 1007013761790741553578707335861245784784105948255578181162297741747632976581676080332372002633529222293090635473328517021812)) (cnsF (tupF (cnsF (conF (.str 121642187423845)) (cnsF (tupF (cnsF (conF (.str 160414980046840528998)) (cnsF (conF (.str 121)) (cnsF (varF 1) nilF)))) (cnsF (varF 4) nilF)))) (cnsF (conF (.str 1007013761790741553578707335861245784784105948255578181162297741747632976581676080332372002633529222293090635473328517021812)) nilF))))) nilF)))) (seqF (asgF (tnT 0) (binF .add (varF 0) (lstF (cnsF (tupF (cnsF (conF (.int 0)) (cnsF (conF (.str 1249951349145305947412337353379528866805555310838011689465702125161440344888320288985394367285029756858120505328864187123735110668779562)) (cnsF (tupF (cnsF (conF (.str 160414980046840528998)) (cnsF (conF (.str 121)) (cnsF (tupF (cnsF (conF (.str 121642187423845)) (cnsF (varF 1) (cnsF (varF 4) nilF)))) nilF)))) (cnsF (conF (.str 1249951349145305947412337353379528866805555310838011689465702125161440344888320288985394367285029756858120505328864187123735110668779562)) nilF))))) nilF)))) (seqF (asgF (tnT 0) (binF .add (varF 0) (lstF (cnsF (tupF (cnsF (conF (.int 0)) (cnsF (conF (.str 2287342651157941814060881015392134562078750658155073956259844326949547571425418970550871153525350698247634182253013117491453011093249259082622234768952496840276074359226489)) (cnsF (tupF (cnsF (conF (.str 137778380669045)) (cnsF (tupF (cnsF (conF (.str 160414980046840528998)) (cnsF (conF (.str 122)) (cnsF (tupF (cnsF (conF (.str 157150596765217453102006394)) (cnsF (conF (.str 121)) (cnsF (tupF (cnsF (conF (.str 169933834109170924119864192991334)) (cnsF (conF (.str 122)) (cnsF (conF (.str 121)) nilF)))) nilF)))) nilF)))) nilF))) (cnsF (conF (.str 2287342651157941814060881015392134562078750658155073956259844326949547571425418970550871153525350698247634182253013117491453011093249259082622234768952496840276074359226489)) nilF))))) nilF)))) (seqF (asgF (tnT 0) (binF .add (varF 0) (lstF (cnsF (tupF (cnsF (conF (.int 0)) (cnsF (conF (.str 3238350784587179095534543416808907009868657345807454214004043768303288467524975534269590682025945069778574953499879062964326569343339088449813470238429714966366270698402066259046694891084182061098)) (cnsF (tupF (cnsF (conF (.str 157150596765217453102006394)) (cnsF (conF (.str 122)) (cnsF (tupF (cnsF (conF (.str 124780659)) (cnsF (tupF (cnsF (conF (.str 137778380669045)) (cnsF (tupF (cnsF (conF (.str 160414962669402849382)) (cnsF (conF (.str 121)) (cnsF (conF (.str 122)) nilF)))) nilF))) (cnsF (varF 2) nilF)))) nilF)))) (cnsF (conF (.str 3607885469317991276484181235187805006578789440038328250015955720456059011321888185017246561594922215948320139268513455232977567222833089628742251392651524257425424579708551662817827472547829365226471466)) nilF))))) nilF)))) (seqF (asgF (tnT 0) (binF .add (varF 0) (lstF (cnsF (tupF (cnsF (conF (.int 0)) (cnsF (conF (.str 653611970795561743954585519775580072107492515887474603543923834342321456061933230749657311727714420)) (cnsF (tupF (cnsF (conF (.str 160414980046840528998)) (cnsF (conF (.str 121)) (cnsF (tupF (cnsF (conF (.str 160414980046840528998)) (cnsF (conF (.str 121)) (cnsF (varF 4) nilF)))) nilF)))) (cnsF (conF (.str 653611970795561743954585519775580072107492515887474603543923834342321456061933230749657311727714420)) nilF))))) nilF)))) (seqF (asgF (tnT 0) (binF .add (varF 0) (lstF (cnsF (tupF (cnsF (conF (.int 1)) (cnsF (conF (.str 50)) (cnsF (varF 5) (cnsF (conF (.str 50)) nilF))))) (cnsF (tupF (cnsF (conF (.int 1)) (cnsF (conF (.str 153500547243944378470)) (cnsF (varF 7) (cnsF (conF (.str 153500547243944378470)) nilF))))) (cnsF (tupF (cnsF (conF (.int 1)) (cnsF (conF (.str 77034587818973302674489396)) (cnsF (tupF (cnsF (conF (.str 187098851983795969899026387959923)) (cnsF (tupF (cnsF (conF (.int 1)) (cnsF (conF (.int 2)) (cnsF (conF (.int 3)) nilF)))) nilF))) (cnsF (conF (.str 77034587818973302674489396)) nilF))))) (cnsF (tupF (cnsF (conF (.int 1)) (cnsF (conF (.str 398632838841193917344927342291422764899544636139583241283430258148969087027)) (cnsF (tupF (cnsF (conF (.str 121642187423845)) (cnsF (tupF (cnsF (conF (.str 167935401307080367825879155)) (cnsF (varF 5) nilF))) (cnsF (varF 6) nilF)))) (cnsF (conF (.str 398632838841193917344927342291422764899544636139583241283430258148969087027)) nilF))))) nilF))))))) (seqF (asgF (tnT 0) (binF .add (varF 0) (lstF (cnsF (tupF (cnsF (conF (.int 1)) (cnsF (conF (.str 494801236715089693238680535038341099702580921883160570563901865978587863596201316384810)) (cnsF (tupF (cnsF (conF (.str 167935401307080367825879155)) (cnsF (tupF (cnsF (conF (.str 121642187423845)) (cnsF (varF 5) (cnsF (varF 6) nilF)))) nilF))) (cnsF (conF (.str 494801236715089693238680535038341099702580921883160570563901865978587863596201316384810)) nilF))))) (cnsF (tupF (cnsF (conF (.int 1)) (cnsF (conF (.str 685402729157219660077909899024130919792065560444796925387856794774745709394911218766113484471133172111281160234)) (cnsF (tupF (cnsF (conF (.str 150987815357684423128645733)) (cnsF (tupF (cnsF (conF (.str 167935401307080367825879155)) (cnsF (tupF (cnsF (conF (.str 137778380669045)) (cnsF (varF 6) nilF))) nilF))) nilF))) (cnsF (conF (.str 552189476096174151257935598041568125292041329670836766656359917686235209097885332368470145491861555)) nilF))))) nilF))))) (seqF (asgF (tnT 0) (binF .add (varF 0) (lstF (cnsF (tupF (cnsF (conF (.int 1)) (cnsF (conF (.str 503880208206133092337030089074175493157370513158286645288458334222876501746042653769770)) (cnsF (tupF (cnsF (conF (.str 137778380669045)) (cnsF (tupF (cnsF (conF (.str 124780659)) (cnsF (varF 5) (cnsF (varF 7) nilF)))) nilF))) (cnsF (conF (.str 503880208206133092337030089074175493157370513158286645288458334222876501746042653769770)) nilF))))) (cnsF (tupF (cnsF (conF (.int 1)) (cnsF (conF (.str 182859061145472207316646521954254916269547612498174392870430766684956917876)) (cnsF (tupF (cnsF (conF (.str 124780659)) (cnsF (tupF (cnsF (conF (.str 124780659)) (cnsF (varF 5) (cnsF (varF 6) nilF)))) (cnsF (varF 4) nilF)))) (cnsF (conF (.str 182859061145472207316646521954254916269547612498174392870430766684956917876)) nilF))))) nilF))))) (seqF (asgF (tnT 0) (binF .add (varF 0) (lstF (cnsF (tupF (cnsF (conF (.int 1)) (cnsF (conF (.str 97322923906773436144285552229411380321680602890282)) (cnsF (tupF (cnsF (conF (.str 121642187423845)) (cnsF (varF 5) (cnsF (varF 6) nilF)))) (cnsF (conF (.str 95618818616273420667589746989644972083)) nilF))))) (cnsF (tupF (cnsF (conF (.int 1)) (cnsF (conF (.str 15211765820130721803)) (cnsF (varF 5) (cnsF (conF (.str 50)) nilF))))) nilF))))) (seqF (asgF (tnT 0) (binF .add (varF 0) (lstF (cnsF (tupF (cnsF (conF (.int 2)) (cnsF (conF (.str 196974847059298815545258088026241826866)) (cnsF (tupF (cnsF (conF (.str 158691281745463918695743605)) (cnsF (varF 5) nilF))) (cnsF (conF (.str 196974847059298815545258088026241826866)) nilF))))) (cnsF (tupF (cnsF (conF (.int 2)) (cnsF (conF (.str 557824021765980089275717022969323030742579187538912880829028842067019269440802038875831618505867315)) (cnsF (tupF (cnsF (conF (.str 136905891139541008492)) (cnsF (tupF (cnsF (conF (.str 124780659)) (cnsF (tupF (cnsF (conF (.str 167935401307080367825879155)) (cnsF (varF 5) nilF))) (cnsF (varF 6) nilF)))) nilF))) (cnsF (conF (.str 557824021765980089275717022969323030742579187538912880829028842067019269440802038875831618505867315)) nilF))))) nilF))))) (seqF (retF (binF .add (varF 0) (lstF (cnsF (tupF (cnsF (conF (.int 2)) (cnsF (conF (.str 219452040806929521984758578967102264177721386)) (cnsF (tupF (cnsF (conF (.str 158691281745463918695743605)) (cnsF (varF 5) nilF))) (cnsF (conF (.str 196974847059298815545258088026241826866)) nilF))))) (cnsF (tupF (cnsF (conF (.int 2)) (cnsF (conF (.str 120687233838108411366819012459420444191091363256994928533566871007803080820)) (cnsF (tupF (cnsF (conF (.str 136905891139541008492)) (cnsF (tupF (cnsF (conF (.str 137778380669045)) (cnsF (varF 4) nilF))) nilF))) (cnsF (conF (.str 324977244906477802181177601767888908789570704851904851930236496248948)) nilF))))) nilF))))) skpF))))))))))))))))))))
def B46 : F := (seqF (asgF (tnT 1) (appF 45 nilF)) (seqF (asgF (tnT 2) (lstF (cnsF (cprF (appF 44 (cnsF (varF 4) (cnsF (varF 5) nilF))) (fun d E s h => match tupOf d with | some ds => (fun ds E s h => match ds with | d :: ds => ((tnT 4) d E s h).onN fun s h => (fun ds E s h => match ds with | d :: ds => ((tnT 5) d E s h).onN fun s h => (fun ds E s h => match ds with | d :: ds => ((tnT 6) d E s h).onN fun s h => (fun ds E s h => match ds with | d :: ds => ((tnT 7) d E s h).onN fun s h => ttNil ds E s h | [] => .bad 158) ds E s h | [] => .bad 158) ds E s h | [] => .bad 158) ds E s h | [] => .bad 158) ds E s h | none => .bad 156) (itxF (varF 1)) (conF (.bl true)) [4, 5, 6, 7]) (cnsF (cprF (appF 44 (cnsF (binF .add (varF 4) (conF (.int 3))) (cnsF (ifeF (varF 0) (appF 42 (cnsF (varF 6) nilF)) (varF 6)) nilF))) (fun d E s h => match tupOf d with | some ds => (fun ds E s h => match ds with | d :: ds => ((tnT 4) d E s h).onN fun s h => (fun ds E s h => match ds with | d :: ds => ((tnT 5) d E s h).onN fun s h => (fun ds E s h => match ds with | d :: ds => ((tnT 6) d E s h).onN fun s h => (fun ds E s h => match ds with | d :: ds => ((tnT 7) d E s h).onN fun s h => ttNil ds E s h | [] => .bad 158) ds E s h | [] => .bad 158) ds E s h | [] => .bad 158) ds E s h | [] => .bad 158) ds E s h | none => .bad 156) (itxF (varF 1)) (conF (.bl true)) [4, 5, 6, 7]) nilF)))) (seqF (asgF (tnT 2) (binF .add (varF 2) (lstF (cnsF (cprF (appF 44 (cnsF (varF 4) (cnsF (varF 7) nilF))) (fun d E s h => match tupOf d with | some ds => (fun ds E s h => match ds with | d :: ds => ((tnT 4) d E s h).onN fun s h => (fun ds E s h => match ds with | d :: ds => ((tnT 5) d E s h).onN fun s h => (fun ds E s h => match ds with | d :: ds => ((tnT 6) d E s h).onN fun s h => (fun ds E s h => match ds with | d :: ds => ((tnT 7) d E s h).onN fun s h => ttNil ds E s h | [] => .bad 158) ds E s h | [] => .bad 158) ds E s h | [] => .bad 158) ds E s h | [] => .bad 158) ds E s h | none => .bad 156) (itxF (varF 1)) (conF (.bl true)) [4, 5, 6, 7]) nilF)))) (seqF (asgF (tnT 3) (lstF (cnsF (cprF (tupF (cnsF (conF (.str 0)) (cnsF (varF 6) nilF))) (fun d E s h => match tupOf d with | some ds => (fun ds E s h => match ds with | d :: ds => ((tnT 4) d E s h).onN fun s h => (fun ds E s h => match ds with | d :: ds => ((tnT 5) d E s h).onN fun s h => (fun ds E s h => match ds with | d :: ds => ((tnT 6) d E s h).onN fun s h => (fun ds E s h => match ds with | d :: ds => ((tnT 7) d E s h).onN fun s h => ttNil ds E s h | [] => .bad 158) ds E s h | [] => .bad 158) ds E s h | [] => .bad 158) ds E s h | [] => .bad 158) ds E s h | none => .bad 156) (itxF (varF 1)) (conF (.bl true)) [4, 5, 6, 7]) (cnsF (cprF (tupF (cnsF (conF (.str 0)) (cnsF (varF 7) nilF))) (fun d E s h => match tupOf d with | some ds => (fun ds E s h => match ds with | d :: ds => ((tnT 4) d E s h).onN fun s h => (fun ds E s h => match ds with | d :: ds => ((tnT 5) d E s h).onN fun s h => (fun ds E s h => match ds with | d :: ds => ((tnT 6) d E s h).onN fun s h => (fun ds E s h => match ds with | d :: ds => ((tnT 7) d E s h).onN fun s h => ttNil ds E s h | [] => .bad 158) ds E s h | [] => .bad 158) ds E s h | [] => .bad 158) ds E s h | [] => .bad 158) ds E s h | none => .bad 156) (itxF (varF 1)) (conF (.bl true)) [4, 5, 6, 7]) (cnsF (cprF (tupF (cnsF (conF (.str 0)) (cnsF (varF 6) nilF))) (fun d E s h => match tupOf d with | some ds => (fun ds E s h => match ds with | d :: ds => ((tnT 4) d E s h).onN fun s h => (fun ds E s h => match ds with | d :: ds => ((tnT 5) d E s h).onN fun s h => (fun ds E s h => match ds with | d :: ds => ((tnT 6) d E s h).onN fun s h => (fun ds E s h => match ds with | d :: ds => ((tnT 7) d E s h).onN fun s h => ttNil ds E s h | [] => .bad 158) ds E s h | [] => .bad 158) ds E s h | [] => .bad 158) ds E s h | [] => .bad 158) ds E s h | none => .bad 156) (itxF (varF 1)) (conF (.bl true)) [4, 5, 6, 7]) nilF))))) (seqF (asgF (tnT 2) (binF .add (varF 2) (lstF (cnsF (apkF 36 [0] (cnsF (conF (.str 151432070561908)) nilF)) (cnsF (apkF 37 [0] (cnsF (conF (.str 50)) nilF)) (cnsF (apkF 38 [0] (cnsF (conF (.str 169933827946404728334035539001394)) nilF)) (cnsF (apkF 18 [0] (cnsF (tupF (cnsF (conF (.str 151432070561908)) nilF)) nilF)) (cnsF (apkF 19 [0] (cnsF (tupF (cnsF (conF (.str 151432070561908)) nilF)) nilF)) (cnsF (apkF 20 [0] (cnsF (tupF (cnsF (conF (.str 158691281745463918695743605)) (cnsF (tupF (cnsF (conF (.str 151432070561908)) nilF)) nilF))) nilF)) nilF))))))))) (seqF (retF (appF 43 (cnsF (varF 2) (cnsF (binF .add (varF 3) (lstF (cnsF (tupF (cnsF (conF (.str 151432070561908)) nilF)) (cnsF (tupF (cnsF (conF (.str 187098851983795969899026387959923)) (cnsF (tupF (cnsF (conF (.int 1)) nilF)) nilF))) (cnsF (tupF (cnsF (conF (.str 136905891139541008492)) (cnsF (tupF (cnsF (conF (.str 187098851983795969899026387959923)) (cnsF (tupF (cnsF (conF (.int 1)) nilF)) nilF))) nilF))) (cnsF (conF (.str 151432070561908)) (cnsF (conF (.str 151432070561908)) (cnsF (conF (.str 244494152087489863597483349930185174744454639517812)) nilF)))))))) nilF)))) skpF))))))
def S47_0 : F := (asgF (tnT 1) (lstF (cnsF (tupF (cnsF (conF (.int 0)) (cnsF (conF (.str 0)) (cnsF (conF (.int 1)) nilF)))) (cnsF (tupF (cnsF (conF (.int 0)) (cnsF (conF (.str 12255243)) (cnsF (conF (.int 3)) nilF)))) (cnsF (tupF (cnsF (conF (.int 0)) (cnsF (conF (.str 50)) (cnsF (conF (.int 1)) nilF)))) (cnsF (tupF (cnsF (conF (.int 0)) (cnsF (conF (.str 69144368990184931445)) (cnsF (conF (.int 1)) nilF)))) (cnsF (tupF (cnsF (conF (.int 0)) (cnsF (conF (.str 85825140215950838583452071821362)) (cnsF (conF (.int 2)) nilF)))) (cnsF (tupF (cnsF (conF (.int 0)) (cnsF (conF (.str 85825140215950838583452096331899)) (cnsF (conF (.int 1)) nilF)))) (cnsF (tupF (cnsF (conF (.int 0)) (cnsF (conF (.str 121)) (cnsF (conF (.int 1)) nilF)))) (cnsF (tupF (cnsF (conF (.int 0)) (cnsF (conF (.str 257802687641696072164351793993723687955791974)) (cnsF (conF (.int 1)) nilF)))) (cnsF (tupF (cnsF (conF (.int 0)) (cnsF (conF (.str 319996386215934962843938657287604970772411676057619071097)) (cnsF (conF (.int 3)) nilF)))) (cnsF (tupF (cnsF (conF (.int 0)) (cnsF (conF (.str 259933287844478502581950812095673446318538874)) (cnsF (conF (.int 1)) nilF)))) nilF))))))))))))
def S47_1 : F := (asgF (tnT 1) (binF .add (varF 1) (lstF (cnsF (tupF (cnsF (conF (.int 0)) (cnsF (conF (.str 207696767125651204647317968846970)) (cnsF (conF (.int 1)) nilF)))) (cnsF (tupF (cnsF (conF (.int 0)) (cnsF (conF (.str 108660696397387344109439912486271772842328185)) (cnsF (conF (.int 1)) nilF)))) (cnsF (tupF (cnsF (conF (.int 0)) (cnsF (conF (.str 106530096194634094216064971682508227524755577)) (cnsF (conF (.int 1)) nilF)))) (cnsF (tupF (cnsF (conF (.int 0)) (cnsF (conF (.str 118686458531521597370091188484679496057177504809081)) (cnsF (conF (.int 2)) nilF)))) (cnsF (tupF (cnsF (conF (.int 0)) (cnsF (conF (.str 95618839214194725293168955686550306937)) (cnsF (conF (.int 1)) nilF)))) (cnsF (tupF (cnsF (conF (.int 0)) (cnsF (conF (.str 90974645578332544191784457142393)) (cnsF (conF (.int 1)) nilF)))) (cnsF (tupF (cnsF (conF (.int 0)) (cnsF (conF (.str 84108638428490270047341309395065)) (cnsF (conF (.int 1)) nilF)))) (cnsF (tupF (cnsF (conF (.int 0)) (cnsF (conF (.str 93706472557272393663108175184717217913)) (cnsF (conF (.int 1)) nilF)))) nilF)))))))))))
def S47_2 : F := (asgF (tnT 1) (binF .add (varF 1) (lstF (cnsF (tupF (cnsF (conF (.int 0)) (cnsF (conF (.str 327048297080682706889442703539239169501142271049835589303074937)) (cnsF (conF (.int 1)) nilF)))) (cnsF (tupF (cnsF (conF (.int 0)) (cnsF (conF (.str 132229979202928915157010765474792731679990039377233707124)) (cnsF (conF (.int 1)) nilF)))) (cnsF (tupF (cnsF (conF (.int 0)) (cnsF (conF (.str 233309954293975850937214854308548706420)) (cnsF (conF (.int 1)) nilF)))) (cnsF (tupF (cnsF (conF (.int 0)) (cnsF (conF (.str 233309954293975850937214824518665568357)) (cnsF (conF (.int 1)) nilF)))) (cnsF (tupF (cnsF (conF (.int 0)) (cnsF (conF (.str 187412963996118373334971909535296782452)) (cnsF (conF (.int 1)) nilF)))) (cnsF (tupF (cnsF (conF (.int 0)) (cnsF (conF (.str 137778380669045)) (cnsF (conF (.int 1)) nilF)))) (cnsF (tupF (cnsF (conF (.int 0)) (cnsF (conF (.str 45678634)) (cnsF (conF (.int 1)) nilF)))) (cnsF (tupF (cnsF (conF (.int 0)) (cnsF (conF (.str 56698500415828131956)) (cnsF (conF (.int 1)) nilF)))) (cnsF (tupF (cnsF (conF (.int 0)) (cnsF (conF (.str 168712286997868445738)) (cnsF (conF (.int 1)) nilF)))) nilF))))))))))))
def S47_3 : F := (asgF (tnT 1) (binF .add (varF 1) (lstF (cnsF (tupF (cnsF (conF (.int 0)) (cnsF (conF (.str 78407594230057247031019753620422393898)) (cnsF (conF (.int 2)) nilF)))) (cnsF (tupF (cnsF (conF (.int 0)) (cnsF (conF (.str 258736479385834951124230252024905553688983796842612)) (cnsF (conF (.int 1)) nilF)))) (cnsF (tupF (cnsF (conF (.int 0)) (cnsF (conF (.str 321694670014352689989237112014432267341206596744337151941322369728633)) (cnsF (conF (.int 1)) nilF)))) (cnsF (tupF (cnsF (conF (.int 0)) (cnsF (conF (.str 247149837705592619287384758800179757557612660)) (cnsF (conF (.int 1)) nilF)))) (cnsF (tupF (cnsF (conF (.int 0)) (cnsF (conF (.str 306773635875438885103967649316115795050496470907844165748)) (cnsF (conF (.int 1)) nilF)))) (cnsF (tupF (cnsF (conF (.int 0)) (cnsF (conF (.str 199114379902915387230213685444729)) (cnsF (conF (.int 1)) nilF)))) (cnsF (tupF (cnsF (conF (.int 0)) (cnsF (conF (.str 242120433356781722119746883545151577231905882046475)) (cnsF (conF (.int 3)) nilF)))) (cnsF (tupF (cnsF (conF (.int 0)) (cnsF (conF (.str 244494152087489863597483349930185174744454639517812)) (cnsF (conF (.int 1)) nilF)))) nilF)))))))))))
def S47_4 : F := (asgF (tnT 1) (binF .add (varF 1) (lstF (cnsF (tupF (cnsF (conF (.int 0)) (cnsF (conF (.str 111712213008500)) (cnsF (conF (.int 1)) nilF)))) (cnsF (tupF (cnsF (conF (.int 0)) (cnsF (conF (.str 168712286997868445756)) (cnsF (conF (.int 1)) nilF)))) (cnsF (tupF (cnsF (conF (.int 0)) (cnsF (conF (.str 400476953577953095525603750482512696800626151133451874852936008204404)) (cnsF (conF (.int 2)) nilF)))) (cnsF (tupF (cnsF (conF (.int 0)) (cnsF (conF (.str 289594942198401623331252311247225266461147119616116)) (cnsF (conF (.int 1)) nilF)))) (cnsF (tupF (cnsF (conF (.int 0)) (cnsF (conF (.str 287221208553484413193098078116506567415276971819130)) (cnsF (conF (.int 1)) nilF)))) (cnsF (tupF (cnsF (conF (.int 0)) (cnsF (conF (.str 95618849513205450056580172351271927929)) (cnsF (conF (.int 1)) nilF)))) (cnsF (tupF (cnsF (conF (.int 0)) (cnsF (conF (.str 1179956640255506561221744251190875187282569653272752650934818592389603658355021858915124495575176268321421004365669627742033477696)) (cnsF (conF (.int 4)) nilF)))) nilF))))))))))
def S47_5 : F := (asgF (tnT 1) (binF .add (varF 1) (lstF (cnsF (tupF (cnsF (conF (.int 0)) (cnsF (conF (.str 289594942198401623331252428339799580928834526707751)) (cnsF (conF (.int 2)) nilF)))) (cnsF (tupF (cnsF (conF (.int 1)) (cnsF (conF (.str 0)) (cnsF (conF (.int 1)) nilF)))) (cnsF (tupF (cnsF (conF (.int 1)) (cnsF (conF (.str 85825140215950838583452096331897)) (cnsF (conF (.int 1)) nilF)))) (cnsF (tupF (cnsF (conF (.int 1)) (cnsF (conF (.str 319996438437934530820171051857930043549853694789619351674)) (cnsF (conF (.int 1)) nilF)))) (cnsF (tupF (cnsF (conF (.int 1)) (cnsF (conF (.str 306773635875438885103967649316112713669472910316923125876)) (cnsF (conF (.int 1)) nilF)))) (cnsF (tupF (cnsF (conF (.int 1)) (cnsF (conF (.str 157150596765217453102006394)) (cnsF (conF (.int 1)) nilF)))) (cnsF (tupF (cnsF (conF (.int 1)) (cnsF (conF (.str 167935401307080367825879155)) (cnsF (conF (.int 1)) nilF)))) (cnsF (tupF (cnsF (conF (.int 1)) (cnsF (conF (.str 118686432964506577186948947556930200899995219066931)) (cnsF (conF (.int 1)) nilF)))) (cnsF (tupF (cnsF (conF (.int 1)) (cnsF (conF (.str 62062314192947)) (cnsF (conF (.int 1)) nilF)))) nilF))))))))))))
def S47_6 : F := (asgF (tnT 1) (binF .add (varF 1) (lstF (cnsF (tupF (cnsF (conF (.int 1)) (cnsF (conF (.str 64544818659379)) (cnsF (conF (.int 1)) nilF)))) (cnsF (tupF (cnsF (conF (.int 1)) (cnsF (conF (.str 263483963720405972908707529421490506769071532343398)) (cnsF (conF (.int 1)) nilF)))) (cnsF (tupF (cnsF (conF (.int 1)) (cnsF (conF (.str 196974847059298815545258088026241826866)) (cnsF (conF (.int 1)) nilF)))) (cnsF (tupF (cnsF (conF (.int 1)) (cnsF (conF (.str 212273843825251307941050281987424780405)) (cnsF (conF (.int 3)) nilF)))) (cnsF (tupF (cnsF (conF (.int 1)) (cnsF (conF (.str 55705645)) (cnsF (conF (.int 1)) nilF)))) (cnsF (tupF (cnsF (conF (.int 1)) (cnsF (conF (.str 98)) (cnsF (conF (.int 1)) nilF)))) (cnsF (tupF (cnsF (conF (.int 2)) (cnsF (conF (.str 50)) (cnsF (conF (.int 1)) nilF)))) (cnsF (tupF (cnsF (conF (.int 2)) (cnsF (conF (.str 158691281745463918695743605)) (cnsF (conF (.int 1)) nilF)))) (cnsF (tupF (cnsF (conF (.int 2)) (cnsF (conF (.str 152528496189256312053039115)) (cnsF (conF (.int 2)) nilF)))) nilF))))))))))))
def S47_7 : F := (asgF (tnT 1) (binF .add (varF 1) (lstF (cnsF (tupF (cnsF (conF (.int 2)) (cnsF (conF (.str 338107677062058528811166288074112356974172603332315738535856014688306)) (cnsF (conF (.int 1)) nilF)))) (cnsF (tupF (cnsF (conF (.int 2)) (cnsF (conF (.str 338107677062058528811166288074112356890063915601863231648249560694892)) (cnsF (conF (.int 1)) nilF)))) (cnsF (tupF (cnsF (conF (.int 2)) (cnsF (conF (.str 338107677062058528811166288074070284634796427685337972642045681008761)) (cnsF (conF (.int 2)) nilF)))) (cnsF (tupF (cnsF (conF (.int 2)) (cnsF (conF (.str 324977244906477802181177601767772253784959676001582465938751244533812)) (cnsF (conF (.int 1)) nilF)))) (cnsF (tupF (cnsF (conF (.int 2)) (cnsF (conF (.str 208449069315363745753126660427066966066)) (cnsF (conF (.int 1)) nilF)))) (cnsF (tupF (cnsF (conF (.int 2)) (cnsF (conF (.str 0)) (cnsF (conF (.int 1)) nilF)))) nilF)))))))))
def S47_8 : F := (asgF (tnT 2) (lstF (cnsF (tupF (cnsF (conF (.int 3)) (cnsF (tupF (cnsF (conF (.str 187098851983795969899026387959923)) (cnsF (tupF (cnsF (conF (.int 1)) nilF)) nilF))) nilF))) (cnsF (tupF (cnsF (conF (.int 3)) (cnsF (tupF (cnsF (conF (.str 187098851983795969899026387959923)) (cnsF (conF (.str 121)) (cnsF (tupF (cnsF (conF (.int 4)) nilF)) nilF)))) nilF))) (cnsF (tupF (cnsF (conF (.int 3)) (cnsF (tupF (cnsF (conF (.str 187098851983795969899026387959923)) (cnsF (conF (.str 121)) (cnsF (tupF (cnsF (conF (.int 2)) (cnsF (conF (.int 1)) nilF))) nilF)))) nilF))) (cnsF (tupF (cnsF (conF (.int 3)) (cnsF (tupF (cnsF (conF (.str 160414962669402849382)) (cnsF (conF (.str 121)) (cnsF (conF (.str 121)) nilF)))) nilF))) (cnsF (tupF (cnsF (conF (.int 3)) (cnsF (tupF (cnsF (conF (.str 167935401307080367825879155)) (cnsF (tupF (cnsF (conF (.str 151432070561908)) nilF)) nilF))) nilF))) (cnsF (tupF (cnsF (conF (.int 3)) (cnsF (conF .non) nilF))) (cnsF (tupF (cnsF (conF (.int 3)) (cnsF (conF (.str 151432070561908)) nilF))) nilF)))))))))
def S47_9 : F := (asgF (tnT 2) (binF .add (varF 2) (lstF (cnsF (tupF (cnsF (conF (.int 4)) (cnsF (tupF (cnsF (conF (.str 187098851983795969899026387959923)) (cnsF (conF (.str 121)) (cnsF (tupF (cnsF (conF (.int 1)) nilF)) nilF)))) nilF))) (cnsF (tupF (cnsF (conF (.int 4)) (cnsF (tupF (cnsF (conF (.str 169933834109170924119864192991334)) (cnsF (conF (.str 121)) (cnsF (conF (.str 122)) nilF)))) nilF))) (cnsF (tupF (cnsF (conF (.int 4)) (cnsF (tupF (cnsF (conF (.str 151432070561908)) (cnsF (conF (.int 1)) nilF))) nilF))) (cnsF (tupF (cnsF (conF (.int 4)) (cnsF (tupF (cnsF (conF (.str 121642187423845)) (cnsF (tupF (cnsF (conF (.str 151432070561908)) nilF)) nilF))) nilF))) (cnsF (tupF (cnsF (conF (.int 5)) (cnsF (tupF (cnsF (conF (.str 151432070561908)) nilF)) nilF))) (cnsF (tupF (cnsF (conF (.int 5)) (cnsF (tupF (cnsF (conF (.str 158691281745463918695743605)) (cnsF (tupF (cnsF (conF (.str 187098851983795969899026387959923)) (cnsF (tupF (cnsF (conF (.int 4)) nilF)) nilF))) nilF))) nilF))) (cnsF (tupF (cnsF (conF (.int 5)) (cnsF (tupF (cnsF (conF (.str 150734756745353363573)) (cnsF (tupF (cnsF (conF (.str 151432070561908)) nilF)) nilF))) nilF))) nilF))))))))))
def S47_10 : F := (asgF (tnT 2) (binF .add (varF 2) (lstF (cnsF (tupF (cnsF (conF (.int 5)) (cnsF (tupF (cnsF (conF (.str 158691281745463918695743605)) nilF)) nilF))) nilF))))
def S47_11 : F := (asgF (tnT 3) (binF .add (binF .add (binF .mul (conF (.str 41)) (conF (.int 120))) (conF (.str 151432070561908))) (binF .mul (conF (.str 42)) (conF (.int 120)))))
def S47_12 : F := (asgF (tnT 4) (binF .add (cprF (appF 44 (cnsF (varF 6) (cnsF (varF 7) nilF))) (fun d E s h => match tupOf d with | some ds => (fun ds E s h => match ds with | d :: ds => ((tnT 6) d E s h).onN fun s h => (fun ds E s h => match ds with | d :: ds => ((tnT 7) d E s h).onN fun s h => (fun ds E s h => match ds with | d :: ds => ((tnT 8) d E s h).onN fun s h => ttNil ds E s h | [] => .bad 158) ds E s h | [] => .bad 158) ds E s h | [] => .bad 158) ds E s h | none => .bad 156) (itxF (varF 1)) (conF (.bl true)) [6, 7, 8]) (cprF (appF 44 (cnsF (varF 6) (cnsF (ifeF (varF 0) (appF 42 (cnsF (varF 9) nilF)) (varF 9)) nilF))) (fun d E s h => match tupOf d with | some ds => (fun ds E s h => match ds with | d :: ds => ((tnT 6) d E s h).onN fun s h => (fun ds E s h => match ds with | d :: ds => ((tnT 9) d E s h).onN fun s h => ttNil ds E s h | [] => .bad 158) ds E s h | [] => .bad 158) ds E s h | none => .bad 156) (itxF (varF 2)) (conF (.bl true)) [6, 9])))
def S47_13 : F := (asgF (tnT 4) (binF .add (varF 4) (lstF (cnsF (appF 44 (cnsF (conF (.int 0)) (cnsF (varF 3) nilF))) (cnsF (appF 44 (cnsF (conF (.int 1)) (cnsF (varF 3) nilF))) (cnsF (appF 44 (cnsF (conF (.int 0)) (cnsF (binF .add (binF .add (conF (.str 45678603)) (varF 3)) (conF (.str 42))) nilF))) (cnsF (subF (appF 44 (cnsF (conF (.int 1)) (cnsF (binF .add (binF .mul (conF (.str 153500547243951063073)) (conF (.int 120))) (conF (.str 50))) nilF))) (conF (.int 0))) (cnsF (appF 44 (cnsF (conF (.int 1)) (cnsF (binF .add (binF .mul (conF (.str 153500547243951063073)) (conF (.int 121))) (conF (.str 50))) nilF))) nilF))))))))
def S47_14 : F := (asgF (tnT 4) (binF .add (varF 4) (lstF (cnsF (appF 44 (cnsF (conF (.int 0)) (cnsF (binF .add (binF .mul (conF (.str 221835720022396867897827829518197915681)) (conF (.int 120))) (conF (.str 23436814504129574078432320315323096926388340))) nilF))) nilF))))
def S47_15 : F := (asgF (tnT 5) (binF .add (cprF (tupF (cnsF (lstF (cnsF (conF (.str 128129309259225799499483723691507384437)) (cnsF (conF (.bl true)) (cnsF (varF 8) nilF)))) (cnsF (conF .non) nilF))) (fun d E s h => match tupOf d with | some ds => (fun ds E s h => match ds with | d :: ds => ((tnT 6) d E s h).onN fun s h => (fun ds E s h => match ds with | d :: ds => ((tnT 7) d E s h).onN fun s h => (fun ds E s h => match ds with | d :: ds => ((tnT 8) d E s h).onN fun s h => ttNil ds E s h | [] => .bad 158) ds E s h | [] => .bad 158) ds E s h | [] => .bad 158) ds E s h | none => .bad 156) (itxF (varF 1)) (conF (.bl true)) [6, 7, 8]) (binF .mul (lstF (cnsF (tupF (cnsF (lstF (cnsF (conF (.str 132499537513641482333585525)) (cnsF (conF (.bl true)) nilF))) (cnsF (conF .non) nilF))) nilF)) (bltF .len (cnsF (varF 2) nilF)))))
def S47_16 : F := (asgF (tnT 5) (binF .add (varF 5) (lstF (cnsF (tupF (cnsF (conF (.str 0)) (cnsF (tupF (cnsF (conF (.str 151432070561908)) nilF)) nilF))) (cnsF (tupF (cnsF (conF (.str 0)) (cnsF (tupF (cnsF (conF (.str 151432070561908)) nilF)) nilF))) (cnsF (tupF (cnsF (lstF (cnsF (conF (.str 128129309259225799499483723691507384437)) (cnsF (conF (.bl true)) (cnsF (conF (.int 2)) nilF)))) (cnsF (conF .non) nilF))) (cnsF (conF (.str 0)) (cnsF (tupF (cnsF (lstF (cnsF (conF (.str 128129309259225799499483723691507384437)) (cnsF (conF (.bl true)) (cnsF (conF (.int 1)) nilF)))) (cnsF (conF .non) nilF))) (cnsF (tupF (cnsF (lstF (cnsF (conF (.str 128129309259225799499483723691507384437)) (cnsF (conF (.bl true)) (cnsF (conF (.int 2)) nilF)))) (cnsF (conF .non) nilF))) nilF)))))))))
def R47 : F := (seqF (retF (appF 43 (cnsF (varF 4) (cnsF (varF 5) nilF)))) skpF)
def B47 : F := (seqF S47_0 (seqF S47_1 (seqF S47_2 (seqF S47_3 (seqF S47_4 (seqF S47_5 (seqF S47_6 (seqF S47_7 (seqF S47_8 (seqF S47_9 (seqF S47_10 (seqF S47_11 (seqF S47_12 (seqF S47_13 (seqF S47_14 (seqF S47_15 (seqF S47_16 R47)))))))))))))))))
def S48_0 : F := (asgF (tnT 1) (appF 39 (cnsF (appF 41 (cnsF (varF 0) (cnsF (conF (.int 1)) nilF))) (cnsF (conF (.int 0)) nilF))))
def S48_1 : F := (asgF (fun d E s h => match tupOf d with | some ds => (fun ds E s h => match ds with | d :: ds => ((tnT 2) d E s h).onN fun s h => (fun ds E s h => match ds with | d :: ds => ((tnT 3) d E s h).onN fun s h => ttNil ds E s h | [] => .bad 158) ds E s h | [] => .bad 158) ds E s h | none => .bad 156) (tupF (cnsF (cmpF .eq (appF 40 (cnsF (varF 1) (cnsF (conF (.int 2)) nilF))) (conF (.int 0))) (cnsF (appF 40 (cnsF (varF 1) (cnsF (conF (.int 2)) nilF))) nilF))))
def R48 : F := (seqF (retF (ifeF (cmpF .eq (varF 3) (conF (.int 0))) (appF 46 (cnsF (varF 2) nilF)) (appF 47 (cnsF (varF 2) nilF)))) skpF)
def B48 : F := (seqF S48_0 (seqF S48_1 R48))
def glos : List G := [
  (.str 121),
  (.str 122),
  (.tup [(.str 121), (.str 122)]),
  (.int 3),
  (.str 158691281745463918695743605),
  (.str 136905891139541008492),
  (.str 167935401307080367825879155),
  (.str 150987815357684423128645733),
  (.int 0),
  (.int 1),
  (.int 2),
  (.str 153500547243944378470),
  (.str 109183093),
  (.str 1460319113460227117152845428928720437566143895091180909290970857471595500457777966685641642926210983564809233526063992063594062289164745036008468243939451),
  (.str 129585421538797664067284787118887970697999448927977930810),
  (.str 50891114283053),
  (.str 36765707),
  (.tup [(.str 169933834109170924119864192991334), (.str 160414962669402849382)]),
  (.tup [(.str 160414980046840528998), (.str 157150596765217453102006394)]),
  (.tup [(.str 167935401307080367825879155), (.str 150987815357684423128645733)]),
  (.tup [(.str 151432070561908), (.str 153500547243944378470), (.str 109183093), (.str 137778380669045), (.str 121642187423845), (.str 124780659), (.str 169933834109170924119864192991334), (.str 160414962669402849382), (.str 160414980046840528998), (.str 157150596765217453102006394), (.str 167935401307080367825879155), (.str 150987815357684423128645733), (.str 158691281745463918695743605), (.str 136905891139541008492), (.str 121), (.str 122)]),
  (.str 0),
  (.int 120)]
def clsT : ClT := [(142469805509794913095634989219955, [193964865296379547845141511667828, 109183093, 139671669225684336753, 393911774329911074065007390528258797629155106053334605785501215686772], [(204537803052516924526299489552122890984357984, 23), (137778380669048, 24), (160414987494319390822, 25), (161797866607422210156, 26), (161797849229980074086, 27), (168217346187951236431203628220519, 28), (168217343106552235345325174292583, 29), (205980377808624270902531944218735, 30), (150987820889243077916426342, 31), (136905891139557720166, 32), (208449076181370895616144087142805733492, 33), (187098851983795969899026387959923, 34), (184883006616863335727824998, 35)])]
def ranks : List Nat := [0, 0, 0, 0, 0, 1, 2, 3, 4, 2, 3, 4, 0, 4, 5, 0, 1, 2, 5, 5, 6, 0, 1, 2, 0, 1, 1, 2, 6, 6, 6, 6, 5, 4, 3, 2, 7, 7, 7, 0, 0, 0, 0, 0, 8, 0, 9, 9, 10]
def deeps : List Nat := [30, 1, 12, 1, 1, 1, 500, 1, 1, 1, 1]
def fnT : Nat → Option Fn := fun i => (match Nat.blt i 24 with | true => (match Nat.blt i 12 with | true => (match Nat.blt i 6 with | true => (match Nat.blt i 3 with | true => (match Nat.blt i 1 with | true => (match Nat.beq i 0 with | true => some ⟨2, 2, false, B0⟩ | false => none) | false => (match Nat.blt i 2 with | true => (match Nat.beq i 1 with | true => some ⟨1, 1, true, B1⟩ | false => none) | false => (match Nat.beq i 2 with | true => some ⟨1, 2, true, B2⟩ | false => none))) | false => (match Nat.blt i 4 with | true => (match Nat.beq i 3 with | true => some ⟨2, 2, true, B3⟩ | false => none) | false => (match Nat.blt i 5 with | true => (match Nat.beq i 4 with | true => some ⟨1, 1, true, B4⟩ | false => none) | false => (match Nat.beq i 5 with | true => some ⟨2, 5, true, B5⟩ | false => none)))) | false => (match Nat.blt i 9 with | true => (match Nat.blt i 7 with | true => (match Nat.beq i 6 with | true => some ⟨2, 4, true, B6⟩ | false => none) | false => (match Nat.blt i 8 with | true => (match Nat.beq i 7 with | true => some ⟨2, 4, true, B7⟩ | false => none) | false => (match Nat.beq i 8 with | true => some ⟨1, 2, true, B8⟩ | false => none))) | false => (match Nat.blt i 10 with | true => (match Nat.beq i 9 with | true => some ⟨2, 3, true, B9⟩ | false => none) | false => (match Nat.blt i 11 with | true => (match Nat.beq i 10 with | true => some ⟨2, 4, true, B10⟩ | false => none) | false => (match Nat.beq i 11 with | true => some ⟨1, 2, true, B11⟩ | false => none))))) | false => (match Nat.blt i 18 with | true => (match Nat.blt i 15 with | true => (match Nat.blt i 13 with | true => (match Nat.beq i 12 with | true => some ⟨1, 1, true, B12⟩ | false => none) | false => (match Nat.blt i 14 with | true => (match Nat.beq i 13 with | true => some ⟨2, 2, true, B13⟩ | false => none) | false => (match Nat.beq i 14 with | true => some ⟨1, 2, true, B14⟩ | false => none))) | false => (match Nat.blt i 16 with | true => (match Nat.beq i 15 with | true => some ⟨1, 2, true, B15⟩ | false => none) | false => (match Nat.blt i 17 with | true => (match Nat.beq i 16 with | true => some ⟨1, 1, true, B16⟩ | false => none) | false => (match Nat.beq i 17 with | true => some ⟨2, 5, true, B17⟩ | false => none)))) | false => (match Nat.blt i 21 with | true => (match Nat.blt i 19 with | true => (match Nat.beq i 18 with | true => some ⟨1, 1, true, B18⟩ | false => none) | false => (match Nat.blt i 20 with | true => (match Nat.beq i 19 with | true => some ⟨1, 1, true, B19⟩ | false => none) | false => (match Nat.beq i 20 with | true => some ⟨1, 3, true, B20⟩ | false => none))) | false => (match Nat.blt i 22 with | true => (match Nat.beq i 21 with | true => some ⟨3, 4, true, B21⟩ | false => none) | false => (match Nat.blt i 23 with | true => (match Nat.beq i 22 with | true => some ⟨1, 8, true, B22⟩ | false => none) | false => (match Nat.beq i 23 with | true => some ⟨3, 3, false, B23⟩ | false => none)))))) | false => (match Nat.blt i 36 with | true => (match Nat.blt i 30 with | true => (match Nat.blt i 27 with | true => (match Nat.blt i 25 with | true => (match Nat.beq i 24 with | true => some ⟨1, 1, false, B24⟩ | false => none) | false => (match Nat.blt i 26 with | true => (match Nat.beq i 25 with | true => some ⟨2, 2, false, B25⟩ | false => none) | false => (match Nat.beq i 26 with | true => some ⟨2, 3, false, B26⟩ | false => none))) | false => (match Nat.blt i 28 with | true => (match Nat.beq i 27 with | true => some ⟨2, 2, false, B27⟩ | false => none) | false => (match Nat.blt i 29 with | true => (match Nat.beq i 28 with | true => some ⟨1, 2, false, B28⟩ | false => none) | false => (match Nat.beq i 29 with | true => some ⟨1, 2, false, B29⟩ | false => none)))) | false => (match Nat.blt i 33 with | true => (match Nat.blt i 31 with | true => (match Nat.beq i 30 with | true => some ⟨2, 3, false, B30⟩ | false => none) | false => (match Nat.blt i 32 with | true => (match Nat.beq i 31 with | true => some ⟨1, 4, false, B31⟩ | false => none) | false => (match Nat.beq i 32 with | true => some ⟨1, 4, false, B32⟩ | false => none))) | false => (match Nat.blt i 34 with | true => (match Nat.beq i 33 with | true => some ⟨1, 2, false, B33⟩ | false => none) | false => (match Nat.blt i 35 with | true => (match Nat.beq i 34 with | true => some ⟨2, 3, false, B34⟩ | false => none) | false => (match Nat.beq i 35 with | true => some ⟨2, 2, false, B35⟩ | false => none))))) | false => (match Nat.blt i 42 with | true => (match Nat.blt i 39 with | true => (match Nat.blt i 37 with | true => (match Nat.beq i 36 with | true => some ⟨1, 2, true, B36⟩ | false => none) | false => (match Nat.blt i 38 with | true => (match Nat.beq i 37 with | true => some ⟨1, 2, true, B37⟩ | false => none) | false => (match Nat.beq i 38 with | true => some ⟨1, 3, true, B38⟩ | false => none))) | false => (match Nat.blt i 40 with | true => (match Nat.beq i 39 with | true => some ⟨2, 3, false, B39⟩ | false => none) | false => (match Nat.blt i 41 with | true => (match Nat.beq i 40 with | true => some ⟨2, 6, false, B40⟩ | false => none) | false => (match Nat.beq i 41 with | true => some ⟨2, 6, true, B41⟩ | false => none)))) | false => (match Nat.blt i 45 with | true => (match Nat.blt i 43 with | true => (match Nat.beq i 42 with | true => some ⟨1, 2, true, B42⟩ | false => none) | false => (match Nat.blt i 44 with | true => (match Nat.beq i 43 with | true => some ⟨2, 4, true, B43⟩ | false => none) | false => (match Nat.beq i 44 with | true => some ⟨2, 5, true, B44⟩ | false => none))) | false => (match Nat.blt i 47 with | true => (match Nat.blt i 46 with | true => (match Nat.beq i 45 with | true => some ⟨0, 8, true, B45⟩ | false => none) | false => (match Nat.beq i 46 with | true => some ⟨1, 8, true, B46⟩ | false => none)) | false => (match Nat.blt i 48 with | true => (match Nat.beq i 47 with | true => some ⟨1, 10, true, B47⟩ | false => none) | false => (match Nat.beq i 48 with | true => some ⟨1, 4, true, B48⟩ | false => none)))))))
def rankT : Nat → Nat := fun i => (match Nat.blt i 24 with | true => (match Nat.blt i 12 with | true => (match Nat.blt i 6 with | true => (match Nat.blt i 3 with | true => (match Nat.blt i 1 with | true => (match Nat.beq i 0 with | true => 0 | false => 0) | false => (match Nat.blt i 2 with | true => (match Nat.beq i 1 with | true => 0 | false => 0) | false => (match Nat.beq i 2 with | true => 0 | false => 0))) | false => (match Nat.blt i 4 with | true => (match Nat.beq i 3 with | true => 0 | false => 0) | false => (match Nat.blt i 5 with | true => (match Nat.beq i 4 with | true => 0 | false => 0) | false => (match Nat.beq i 5 with | true => 1 | false => 0)))) | false => (match Nat.blt i 9 with | true => (match Nat.blt i 7 with | true => (match Nat.beq i 6 with | true => 2 | false => 0) | false => (match Nat.blt i 8 with | true => (match Nat.beq i 7 with | true => 3 | false => 0) | false => (match Nat.beq i 8 with | true => 4 | false => 0))) | false => (match Nat.blt i 10 with | true => (match Nat.beq i 9 with | true => 2 | false => 0) | false => (match Nat.blt i 11 with | true => (match Nat.beq i 10 with | true => 3 | false => 0) | false => (match Nat.beq i 11 with | true => 4 | false => 0))))) | false => (match Nat.blt i 18 with | true => (match Nat.blt i 15 with | true => (match Nat.blt i 13 with | true => (match Nat.beq i 12 with | true => 0 | false => 0) | false => (match Nat.blt i 14 with | true => (match Nat.beq i 13 with | true => 4 | false => 0) | false => (match Nat.beq i 14 with | true => 5 | false => 0))) | false => (match Nat.blt i 16 with | true => (match Nat.beq i 15 with | true => 0 | false => 0) | false => (match Nat.blt i 17 with | true => (match Nat.beq i 16 with | true => 1 | false => 0) | false => (match Nat.beq i 17 with | true => 2 | false => 0)))) | false => (match Nat.blt i 21 with | true => (match Nat.blt i 19 with | true => (match Nat.beq i 18 with | true => 5 | false => 0) | false => (match Nat.blt i 20 with | true => (match Nat.beq i 19 with | true => 5 | false => 0) | false => (match Nat.beq i 20 with | true => 6 | false => 0))) | false => (match Nat.blt i 22 with | true => (match Nat.beq i 21 with | true => 0 | false => 0) | false => (match Nat.blt i 23 with | true => (match Nat.beq i 22 with | true => 1 | false => 0) | false => (match Nat.beq i 23 with | true => 2 | false => 0)))))) | false => (match Nat.blt i 36 with | true => (match Nat.blt i 30 with | true => (match Nat.blt i 27 with | true => (match Nat.blt i 25 with | true => (match Nat.beq i 24 with | true => 0 | false => 0) | false => (match Nat.blt i 26 with | true => (match Nat.beq i 25 with | true => 1 | false => 0) | false => (match Nat.beq i 26 with | true => 1 | false => 0))) | false => (match Nat.blt i 28 with | true => (match Nat.beq i 27 with | true => 2 | false => 0) | false => (match Nat.blt i 29 with | true => (match Nat.beq i 28 with | true => 6 | false => 0) | false => (match Nat.beq i 29 with | true => 6 | false => 0)))) | false => (match Nat.blt i 33 with | true => (match Nat.blt i 31 with | true => (match Nat.beq i 30 with | true => 6 | false => 0) | false => (match Nat.blt i 32 with | true => (match Nat.beq i 31 with | true => 6 | false => 0) | false => (match Nat.beq i 32 with | true => 5 | false => 0))) | false => (match Nat.blt i 34 with | true => (match Nat.beq i 33 with | true => 4 | false => 0) | false => (match Nat.blt i 35 with | true => (match Nat.beq i 34 with | true => 3 | false => 0) | false => (match Nat.beq i 35 with | true => 2 | false => 0))))) | false => (match Nat.blt i 42 with | true => (match Nat.blt i 39 with | true => (match Nat.blt i 37 with | true => (match Nat.beq i 36 with | true => 7 | false => 0) | false => (match Nat.blt i 38 with | true => (match Nat.beq i 37 with | true => 7 | false => 0) | false => (match Nat.beq i 38 with | true => 7 | false => 0))) | false => (match Nat.blt i 40 with | true => (match Nat.beq i 39 with | true => 0 | false => 0) | false => (match Nat.blt i 41 with | true => (match Nat.beq i 40 with | true => 0 | false => 0) | false => (match Nat.beq i 41 with | true => 0 | false => 0)))) | false => (match Nat.blt i 45 with | true => (match Nat.blt i 43 with | true => (match Nat.beq i 42 with | true => 0 | false => 0) | false => (match Nat.blt i 44 with | true => (match Nat.beq i 43 with | true => 0 | false => 0) | false => (match Nat.beq i 44 with | true => 8 | false => 0))) | false => (match Nat.blt i 47 with | true => (match Nat.blt i 46 with | true => (match Nat.beq i 45 with | true => 0 | false => 0) | false => (match Nat.beq i 46 with | true => 9 | false => 0)) | false => (match Nat.blt i 48 with | true => (match Nat.beq i 47 with | true => 9 | false => 0) | false => (match Nat.beq i 48 with | true => 10 | false => 0)))))))
def prog : Prog := { fn := fnT, meth := methT clsT, init := initT clsT, attr := attrT clsT, glo := fun i => glos[i]?, exsub := fun a b => a == b, exv := fun c => !([] : List Nat).contains c, fuel := 4000, rank := rankT, deep := fun r => deeps.getD r 0 }
def levels : Nat := 11
def sigs : List (String × Nat × List String × T) := [
  ("__init__", 2, ["self", "line"], b0),
  ("is_number", 1, ["thing"], b1),
  ("tuple_of", 1, ["thing", "part"], b2),
  ("is_tuple_of", 2, ["thing", "many"], b3),
  ("is_finger", 1, ["thing"], b4),
  ("is_letter_set", 2, ["wide", "thing", "near", "far", "own"], b5),
  ("parts_of_saying", 2, ["wide", "thing", "word", "good"], b6),
  ("is_saying", 2, ["wide", "thing", "line", "parts"], b7),
  ("sure_saying", 1, ["saying", "own"], b8),
  ("parts_of_mood", 2, ["wide", "thing", "word"], b9),
  ("is_mood", 2, ["wide", "thing", "line", "parts"], b10),
  ("sure_mood", 1, ["mood", "own"], b11),
  ("is_end", 1, ["thing"], b12),
  ("is_term", 2, ["wide", "thing"], b13),
  ("sure_term", 1, ["term", "own"], b14),
  ("letters_written", 1, ["letters", "letter"], b15),
  ("bare_written", 1, ["own"], b16),
  ("written", 2, ["own", "least", "word", "level", "found"], b17),
  ("saying_text", 1, ["saying"], b18),
  ("mood_text", 1, ["mood"], b19),
  ("term_text", 1, ["term", "end", "mood"], b20),
  ("run_end", 3, ["text", "place", "signs", "at"], b21),
  ("pieces_of", 1, ["text", "found", "at", "line", "sign", "end", "own", "letter"], b22),
  ("__init__", 3, ["self", "text", "with_fingers"], b23),
  ("now", 1, ["self"], b24),
  ("sure", 2, ["self", "good"], b25),
  ("took", 2, ["self", "piece", "found"], b26),
  ("take", 2, ["self", "pieces"], b27),
  ("any_of", 1, ["self", "found"], b28),
  ("all_of", 1, ["self", "found"], b29),
  ("within", 2, ["self", "work", "found"], b30),
  ("alone", 1, ["self", "word", "found", "finger"], b31),
  ("bare", 1, ["self", "letters", "near", "word"], b32),
  ("letters", 1, ["self", "found"], b33),
  ("letter", 2, ["self", "least", "letter"], b34),
  ("whole", 2, ["self", "found"], b35),
  ("read_saying", 1, ["text", "reader"], b36),
  ("read_mood", 1, ["text", "reader"], b37),
  ("read_term", 1, ["text", "reader", "end"], b38),
  ("_law_box", 2, ["script", "k", "cell"], b39),
  ("_law_take", 2, ["urn", "below", "once", "far", "twice", "drawn"], b40),
  ("_law_cells", 2, ["script", "many", "cells", "k", "cell", "at"], b41),
  ("_law_soft", 1, ["matter", "bit"], b42),
  ("_law_same", 2, ["got", "due", "mine", "own"], b43),
  ("_law_try", 2, ["door", "own", "error", "raised", "found"], b44),
  ("_law_rows", 0, ["rows", "a", "b", "c", "yes", "one", "two", "no"], b45),
  ("_law_told_right", 1, ["soft", "rows", "got", "due", "door", "text", "told", "written_v"], b46),
  ("_law_refused_right", 1, ["soft", "bads", "unfit", "deep", "got", "due", "door", "text", "at", "own"], b47),
  ("law", 1, ["script", "urn", "soft", "part"], b48)]
def gloN : List String := ["X", "Y", "FINGERS", "MOST_WIDE", "FRONT", "BACK", "LATER", "AHEAD", "ANY_OF", "ALL_OF", "ALONE", "NO_LETTER", "AT", "SMALL", "FIGURES", "MARKS", "BLANKS", "PAIRED", "BINDING", "LEADING", "WORDS", "END", "MOST_DEEP"]
def excN : List (String × Nat) := [("BadText", 0), ("Unfit", 1)]
def lawId : Nat := 48
end Lk06
set_option Elab.async false
set_option linter.all false
set_option maxRecDepth 100000
set_option maxHeartbeats 4000000
namespace Lk06
open PySem PySem.Spec PyProof.Rows L2 Pv
def top (i : Nat) : Stmt := PySem.Challenge.pw_twofingers_k06_texts_by_hand_and_refused.main.body.getD i (.Pass ⟨0, 0, 0, 0⟩)
def gm : Gm := { fns := [(("is_number" : PySem.Str), 1, 1), (("tuple_of" : PySem.Str), 2, 1), (("is_tuple_of" : PySem.Str), 3, 2), (("is_finger" : PySem.Str), 4, 1), (("is_letter_set" : PySem.Str), 5, 2), (("parts_of_saying" : PySem.Str), 6, 2), (("is_saying" : PySem.Str), 7, 2), (("sure_saying" : PySem.Str), 8, 1), (("parts_of_mood" : PySem.Str), 9, 2), (("is_mood" : PySem.Str), 10, 2), (("sure_mood" : PySem.Str), 11, 1), (("is_end" : PySem.Str), 12, 1), (("is_term" : PySem.Str), 13, 2), (("sure_term" : PySem.Str), 14, 1), (("letters_written" : PySem.Str), 15, 1), (("bare_written" : PySem.Str), 16, 1), (("written" : PySem.Str), 17, 2), (("saying_text" : PySem.Str), 18, 1), (("mood_text" : PySem.Str), 19, 1), (("term_text" : PySem.Str), 20, 1), (("run_end" : PySem.Str), 21, 3), (("pieces_of" : PySem.Str), 22, 1), (("read_saying" : PySem.Str), 36, 1), (("read_mood" : PySem.Str), 37, 1), (("read_term" : PySem.Str), 38, 1), (("_law_box" : PySem.Str), 39, 2), (("_law_take" : PySem.Str), 40, 2), (("_law_cells" : PySem.Str), 41, 2), (("_law_soft" : PySem.Str), 42, 1), (("_law_same" : PySem.Str), 43, 2), (("_law_try" : PySem.Str), 44, 2), (("_law_rows" : PySem.Str), 45, 0), (("_law_told_right" : PySem.Str), 46, 1), (("_law_refused_right" : PySem.Str), 47, 1), (("law" : PySem.Str), 48, 1)], glo := [("X", 0), ("Y", 1), ("FINGERS", 2), ("MOST_WIDE", 3), ("FRONT", 4), ("BACK", 5), ("LATER", 6), ("AHEAD", 7), ("ANY_OF", 8), ("ALL_OF", 9), ("ALONE", 10), ("NO_LETTER", 11), ("AT", 12), ("SMALL", 13), ("FIGURES", 14), ("MARKS", 15), ("BLANKS", 16), ("PAIRED", 17), ("BINDING", 18), ("LEADING", 19), ("WORDS", 20), ("END", 21), ("MOST_DEEP", 22)], exc := [("BadText", 0), ("Unfit", 1)], kws := [("read_saying", [(0, ["text"], [0])]), ("read_mood", [(0, ["text"], [0])]), ("read_term", [(0, ["text"], [0])]), ("saying_text", [(0, ["saying"], [0])]), ("mood_text", [(0, ["mood"], [0])]), ("term_text", [(0, ["term"], [0])])], fld := [(0, "line")], cls := clsT }
theorem sc1 : FnScope ["thing"] ["thing"] (defScope (top 4)) := ⟨rfl, rfl, rfl, by decide +kernel, rfl, by decide +kernel, by decide +kernel⟩
theorem ck1 : chkB gm b1 (sgOf ["thing"] (defScope (top 4))) (defBody (top 4)) = true := by decide +kernel
theorem sc2 : FnScope ["thing", "part"] ["thing"] (defScope (top 5)) := ⟨rfl, rfl, rfl, by decide +kernel, rfl, by decide +kernel, by decide +kernel⟩
theorem ck2 : chkB gm b2 (sgOf ["thing", "part"] (defScope (top 5))) (defBody (top 5)) = true := by decide +kernel
theorem sc3 : FnScope ["thing", "many"] ["thing", "many"] (defScope (top 6)) := ⟨rfl, rfl, rfl, by decide +kernel, rfl, by decide +kernel, by decide +kernel⟩
theorem ck3 : chkB gm b3 (sgOf ["thing", "many"] (defScope (top 6))) (defBody (top 6)) = true := by decide +kernel
theorem sc4 : FnScope ["thing"] ["thing"] (defScope (top 12)) := ⟨rfl, rfl, rfl, by decide +kernel, rfl, by decide +kernel, by decide +kernel⟩
theorem ck4 : chkB gm b4 (sgOf ["thing"] (defScope (top 12))) (defBody (top 12)) = true := by decide +kernel
theorem sc5 : FnScope ["wide", "thing", "near", "far", "own"] ["wide", "thing"] (defScope (top 13)) := ⟨rfl, rfl, rfl, by decide +kernel, rfl, by decide +kernel, by decide +kernel⟩
theorem ck5 : chkB gm b5 (sgOf ["wide", "thing", "near", "far", "own"] (defScope (top 13))) (defBody (top 13)) = true := by decide +kernel
theorem sc6 : FnScope ["wide", "thing", "word", "good"] ["wide", "thing"] (defScope (top 14)) := ⟨rfl, rfl, rfl, by decide +kernel, rfl, by decide +kernel, by decide +kernel⟩
theorem ck6 : chkB gm b6 (sgOf ["wide", "thing", "word", "good"] (defScope (top 14))) (defBody (top 14)) = true := by decide +kernel
theorem sc7 : FnScope ["wide", "thing", "line", "parts"] ["wide", "thing"] (defScope (top 15)) := ⟨rfl, rfl, rfl, by decide +kernel, rfl, by decide +kernel, by decide +kernel⟩
theorem ck7 : chkB gm b7 (sgOf ["wide", "thing", "line", "parts"] (defScope (top 15))) (defBody (top 15)) = true := by decide +kernel
theorem sc8 : FnScope ["saying", "own"] ["saying"] (defScope (top 16)) := ⟨rfl, rfl, rfl, by decide +kernel, rfl, by decide +kernel, by decide +kernel⟩
theorem ck8 : chkB gm b8 (sgOf ["saying", "own"] (defScope (top 16))) (defBody (top 16)) = true := by decide +kernel
theorem sc9 : FnScope ["wide", "thing", "word"] ["wide", "thing"] (defScope (top 22)) := ⟨rfl, rfl, rfl, by decide +kernel, rfl, by decide +kernel, by decide +kernel⟩
theorem ck9 : chkB gm b9 (sgOf ["wide", "thing", "word"] (defScope (top 22))) (defBody (top 22)) = true := by decide +kernel
theorem sc10 : FnScope ["wide", "thing", "line", "parts"] ["wide", "thing"] (defScope (top 23)) := ⟨rfl, rfl, rfl, by decide +kernel, rfl, by decide +kernel, by decide +kernel⟩
theorem ck10 : chkB gm b10 (sgOf ["wide", "thing", "line", "parts"] (defScope (top 23))) (defBody (top 23)) = true := by decide +kernel
theorem sc11 : FnScope ["mood", "own"] ["mood"] (defScope (top 24)) := ⟨rfl, rfl, rfl, by decide +kernel, rfl, by decide +kernel, by decide +kernel⟩
theorem ck11 : chkB gm b11 (sgOf ["mood", "own"] (defScope (top 24))) (defBody (top 24)) = true := by decide +kernel
theorem sc12 : FnScope ["thing"] ["thing"] (defScope (top 25)) := ⟨rfl, rfl, rfl, by decide +kernel, rfl, by decide +kernel, by decide +kernel⟩
theorem ck12 : chkB gm b12 (sgOf ["thing"] (defScope (top 25))) (defBody (top 25)) = true := by decide +kernel
theorem sc13 : FnScope ["wide", "thing"] ["wide", "thing"] (defScope (top 26)) := ⟨rfl, rfl, rfl, by decide +kernel, rfl, by decide +kernel, by decide +kernel⟩
theorem ck13 : chkB gm b13 (sgOf ["wide", "thing"] (defScope (top 26))) (defBody (top 26)) = true := by decide +kernel
theorem sc14 : FnScope ["term", "own"] ["term"] (defScope (top 27)) := ⟨rfl, rfl, rfl, by decide +kernel, rfl, by decide +kernel, by decide +kernel⟩
theorem ck14 : chkB gm b14 (sgOf ["term", "own"] (defScope (top 27))) (defBody (top 27)) = true := by decide +kernel
theorem sc15 : FnScope ["letters", "letter"] ["letters"] (defScope (top 34)) := ⟨rfl, rfl, rfl, by decide +kernel, rfl, by decide +kernel, by decide +kernel⟩
theorem ck15 : chkB gm b15 (sgOf ["letters", "letter"] (defScope (top 34))) (defBody (top 34)) = true := by decide +kernel
theorem sc16 : FnScope ["own"] ["own"] (defScope (top 35)) := ⟨rfl, rfl, rfl, by decide +kernel, rfl, by decide +kernel, by decide +kernel⟩
theorem ck16 : chkB gm b16 (sgOf ["own"] (defScope (top 35))) (defBody (top 35)) = true := by decide +kernel
theorem sc17 : FnScope ["own", "least", "word", "level", "found"] ["own", "least"] (defScope (top 36)) := ⟨rfl, rfl, rfl, by decide +kernel, rfl, by decide +kernel, by decide +kernel⟩
theorem ck17 : chkB gm b17 (sgOf ["own", "least", "word", "level", "found"] (defScope (top 36))) (defBody (top 36)) = true := by decide +kernel
theorem sc18 : FnScope ["saying"] ["saying"] (defScope (top 37)) := ⟨rfl, rfl, rfl, by decide +kernel, rfl, by decide +kernel, by decide +kernel⟩
theorem ck18 : chkB gm b18 (sgOf ["saying"] (defScope (top 37))) (defBody (top 37)) = true := by decide +kernel
theorem sc19 : FnScope ["mood"] ["mood"] (defScope (top 38)) := ⟨rfl, rfl, rfl, by decide +kernel, rfl, by decide +kernel, by decide +kernel⟩
theorem ck19 : chkB gm b19 (sgOf ["mood"] (defScope (top 38))) (defBody (top 38)) = true := by decide +kernel
theorem sc20 : FnScope ["term", "end", "mood"] ["term"] (defScope (top 39)) := ⟨rfl, rfl, rfl, by decide +kernel, rfl, by decide +kernel, by decide +kernel⟩
theorem ck20 : chkB gm b20 (sgOf ["term", "end", "mood"] (defScope (top 39))) (defBody (top 39)) = true := by decide +kernel
theorem sc21 : FnScope ["text", "place", "signs", "at"] ["text", "place", "signs"] (defScope (top 51)) := ⟨rfl, rfl, rfl, by decide +kernel, rfl, by decide +kernel, by decide +kernel⟩
theorem ck21 : chkB gm b21 (sgOf ["text", "place", "signs", "at"] (defScope (top 51))) (defBody (top 51)) = true := by decide +kernel
theorem sc22 : FnScope ["text", "found", "at", "line", "sign", "end", "own", "letter"] ["text"] (defScope (top 52)) := ⟨rfl, rfl, rfl, by decide +kernel, rfl, by decide +kernel, by decide +kernel⟩
theorem ck22 : chkB gm b22 (sgOf ["text", "found", "at", "line", "sign", "end", "own", "letter"] (defScope (top 52))) (defBody (top 52)) = true := by decide +kernel
theorem sc36 : FnScope ["text", "reader"] ["text"] (defScope (top 54)) := ⟨rfl, rfl, rfl, by decide +kernel, rfl, by decide +kernel, by decide +kernel⟩
theorem ck36 : chkB gm b36 (sgOf ["text", "reader"] (defScope (top 54))) (defBody (top 54)) = true := by decide +kernel
theorem sc37 : FnScope ["text", "reader"] ["text"] (defScope (top 55)) := ⟨rfl, rfl, rfl, by decide +kernel, rfl, by decide +kernel, by decide +kernel⟩
theorem ck37 : chkB gm b37 (sgOf ["text", "reader"] (defScope (top 55))) (defBody (top 55)) = true := by decide +kernel
theorem sc38 : FnScope ["text", "reader", "end"] ["text"] (defScope (top 56)) := ⟨rfl, rfl, rfl, by decide +kernel, rfl, by decide +kernel, by decide +kernel⟩
theorem ck38 : chkB gm b38 (sgOf ["text", "reader", "end"] (defScope (top 56))) (defBody (top 56)) = true := by decide +kernel
theorem sc39 : FnScope ["script", "k", "cell"] ["script", "k"] (defScope (top 58)) := ⟨rfl, rfl, rfl, by decide +kernel, rfl, by decide +kernel, by decide +kernel⟩
theorem ck39 : chkB gm b39 (sgOf ["script", "k", "cell"] (defScope (top 58))) (defBody (top 58)) = true := by decide +kernel
theorem sc40 : FnScope ["urn", "below", "once", "far", "twice", "drawn"] ["urn", "below"] (defScope (top 59)) := ⟨rfl, rfl, rfl, by decide +kernel, rfl, by decide +kernel, by decide +kernel⟩
theorem ck40 : chkB gm b40 (sgOf ["urn", "below", "once", "far", "twice", "drawn"] (defScope (top 59))) (defBody (top 59)) = true := by decide +kernel
theorem sc41 : FnScope ["script", "many", "cells", "k", "cell", "at"] ["script", "many"] (defScope (top 60)) := ⟨rfl, rfl, rfl, by decide +kernel, rfl, by decide +kernel, by decide +kernel⟩
theorem ck41 : chkB gm b41 (sgOf ["script", "many", "cells", "k", "cell", "at"] (defScope (top 60))) (defBody (top 60)) = true := by decide +kernel
theorem sc42 : FnScope ["matter", "bit"] ["matter"] (defScope (top 61)) := ⟨rfl, rfl, rfl, by decide +kernel, rfl, by decide +kernel, by decide +kernel⟩
theorem ck42 : chkB gm b42 (sgOf ["matter", "bit"] (defScope (top 61))) (defBody (top 61)) = true := by decide +kernel
theorem sc43 : FnScope ["got", "due", "mine", "own"] ["got", "due"] (defScope (top 62)) := ⟨rfl, rfl, rfl, by decide +kernel, rfl, by decide +kernel, by decide +kernel⟩
theorem ck43 : chkB gm b43 (sgOf ["got", "due", "mine", "own"] (defScope (top 62))) (defBody (top 62)) = true := by decide +kernel
theorem sc44 : FnScope ["door", "own", "error", "raised", "found"] ["door", "own"] (defScope (top 63)) := ⟨rfl, rfl, rfl, by decide +kernel, rfl, by decide +kernel, by decide +kernel⟩
theorem ck44 : chkB gm b44 (sgOf ["door", "own", "error", "raised", "found"] (defScope (top 63))) (defBody (top 63)) = true := by decide +kernel
theorem sc45 : FnScope ["rows", "a", "b", "c", "yes", "one", "two", "no"] [] (defScope (top 64)) := ⟨rfl, rfl, rfl, by decide +kernel, rfl, by decide +kernel, by decide +kernel⟩
theorem ck45 : chkB gm b45 (sgOf ["rows", "a", "b", "c", "yes", "one", "two", "no"] (defScope (top 64))) (defBody (top 64)) = true := by decide +kernel
theorem sc46 : FnScope ["soft", "rows", "got", "due", "door", "text", "told", "written_v"] ["soft"] (defScope (top 65)) := ⟨rfl, rfl, rfl, by decide +kernel, rfl, by decide +kernel, by decide +kernel⟩
theorem ck46 : chkB gm b46 (sgOf ["soft", "rows", "got", "due", "door", "text", "told", "written_v"] (defScope (top 65))) (defBody (top 65)) = true := by decide +kernel
theorem sc47 : FnScope ["soft", "bads", "unfit", "deep", "got", "due", "door", "text", "at", "own"] ["soft"] (defScope (top 66)) := ⟨rfl, rfl, rfl, by decide +kernel, rfl, by decide +kernel, by decide +kernel⟩
theorem ck47 : chkB gm b47 (sgOf ["soft", "bads", "unfit", "deep", "got", "due", "door", "text", "at", "own"] (defScope (top 66))) (defBody (top 66)) = true := by decide +kernel
theorem sc48 : FnScope ["script", "urn", "soft", "part"] ["script"] (defScope (top 67)) := ⟨rfl, rfl, rfl, by decide +kernel, rfl, by decide +kernel, by decide +kernel⟩
theorem ck48 : chkB gm b48 (sgOf ["script", "urn", "soft", "part"] (defScope (top 67))) (defBody (top 67)) = true := by decide +kernel
def d1 : He.DefD := ⟨("is_number", none), "is_number", "is_number", defArgs (top 4), defBody (top 4), defScope (top 4), [], []⟩
def d2 : He.DefD := ⟨("tuple_of", none), "tuple_of", "tuple_of", defArgs (top 5), defBody (top 5), defScope (top 5), [], []⟩
def d3 : He.DefD := ⟨("is_tuple_of", none), "is_tuple_of", "is_tuple_of", defArgs (top 6), defBody (top 6), defScope (top 6), [], []⟩
def d4 : He.DefD := ⟨("is_finger", none), "is_finger", "is_finger", defArgs (top 12), defBody (top 12), defScope (top 12), [], []⟩
def d5 : He.DefD := ⟨("is_letter_set", none), "is_letter_set", "is_letter_set", defArgs (top 13), defBody (top 13), defScope (top 13), [], []⟩
def d6 : He.DefD := ⟨("parts_of_saying", none), "parts_of_saying", "parts_of_saying", defArgs (top 14), defBody (top 14), defScope (top 14), [], []⟩
def d7 : He.DefD := ⟨("is_saying", none), "is_saying", "is_saying", defArgs (top 15), defBody (top 15), defScope (top 15), [], []⟩
def d8 : He.DefD := ⟨("sure_saying", none), "sure_saying", "sure_saying", defArgs (top 16), defBody (top 16), defScope (top 16), [], []⟩
def d9 : He.DefD := ⟨("parts_of_mood", none), "parts_of_mood", "parts_of_mood", defArgs (top 22), defBody (top 22), defScope (top 22), [], []⟩
def d10 : He.DefD := ⟨("is_mood", none), "is_mood", "is_mood", defArgs (top 23), defBody (top 23), defScope (top 23), [], []⟩
def d11 : He.DefD := ⟨("sure_mood", none), "sure_mood", "sure_mood", defArgs (top 24), defBody (top 24), defScope (top 24), [], []⟩
def d12 : He.DefD := ⟨("is_end", none), "is_end", "is_end", defArgs (top 25), defBody (top 25), defScope (top 25), [], []⟩
def d13 : He.DefD := ⟨("is_term", none), "is_term", "is_term", defArgs (top 26), defBody (top 26), defScope (top 26), [], []⟩
def d14 : He.DefD := ⟨("sure_term", none), "sure_term", "sure_term", defArgs (top 27), defBody (top 27), defScope (top 27), [], []⟩
def d15 : He.DefD := ⟨("letters_written", none), "letters_written", "letters_written", defArgs (top 34), defBody (top 34), defScope (top 34), [], []⟩
def d16 : He.DefD := ⟨("bare_written", none), "bare_written", "bare_written", defArgs (top 35), defBody (top 35), defScope (top 35), [], []⟩
def d17 : He.DefD := ⟨("written", none), "written", "written", defArgs (top 36), defBody (top 36), defScope (top 36), [], []⟩
def d18 : He.DefD := ⟨("saying_text", none), "saying_text", "saying_text", defArgs (top 37), defBody (top 37), defScope (top 37), [], []⟩
def d19 : He.DefD := ⟨("mood_text", none), "mood_text", "mood_text", defArgs (top 38), defBody (top 38), defScope (top 38), [], []⟩
def d20 : He.DefD := ⟨("term_text", none), "term_text", "term_text", defArgs (top 39), defBody (top 39), defScope (top 39), [], []⟩
def d21 : He.DefD := ⟨("run_end", none), "run_end", "run_end", defArgs (top 51), defBody (top 51), defScope (top 51), [], []⟩
def d22 : He.DefD := ⟨("pieces_of", none), "pieces_of", "pieces_of", defArgs (top 52), defBody (top 52), defScope (top 52), [], []⟩
def d36 : He.DefD := ⟨("read_saying", none), "read_saying", "read_saying", defArgs (top 54), defBody (top 54), defScope (top 54), [], []⟩
def d37 : He.DefD := ⟨("read_mood", none), "read_mood", "read_mood", defArgs (top 55), defBody (top 55), defScope (top 55), [], []⟩
def d38 : He.DefD := ⟨("read_term", none), "read_term", "read_term", defArgs (top 56), defBody (top 56), defScope (top 56), [], []⟩
def d39 : He.DefD := ⟨("_law_box", none), "_law_box", "_law_box", defArgs (top 58), defBody (top 58), defScope (top 58), [], []⟩
def d40 : He.DefD := ⟨("_law_take", none), "_law_take", "_law_take", defArgs (top 59), defBody (top 59), defScope (top 59), [], []⟩
def d41 : He.DefD := ⟨("_law_cells", none), "_law_cells", "_law_cells", defArgs (top 60), defBody (top 60), defScope (top 60), [], []⟩
def d42 : He.DefD := ⟨("_law_soft", none), "_law_soft", "_law_soft", defArgs (top 61), defBody (top 61), defScope (top 61), [], []⟩
def d43 : He.DefD := ⟨("_law_same", none), "_law_same", "_law_same", defArgs (top 62), defBody (top 62), defScope (top 62), [], []⟩
def d44 : He.DefD := ⟨("_law_try", none), "_law_try", "_law_try", defArgs (top 63), defBody (top 63), defScope (top 63), [], []⟩
def d45 : He.DefD := ⟨("_law_rows", none), "_law_rows", "_law_rows", defArgs (top 64), defBody (top 64), defScope (top 64), [], []⟩
def d46 : He.DefD := ⟨("_law_told_right", none), "_law_told_right", "_law_told_right", defArgs (top 65), defBody (top 65), defScope (top 65), [], []⟩
def d47 : He.DefD := ⟨("_law_refused_right", none), "_law_refused_right", "_law_refused_right", defArgs (top 66), defBody (top 66), defScope (top 66), [], []⟩
def d48 : He.DefD := ⟨("law", none), "law", "law", defArgs (top 67), defBody (top 67), defScope (top 67), [], []⟩
def md0 : Stmt := match top 1 with | .ClassDef _ _ _ b _ _ _ _ _ _ _ => b.getD 0 (.Pass ⟨0, 0, 0, 0⟩) | s => s
def de0 : He.DefD := ⟨("BadText", some "__init__"), "__init__", "BadText.__init__", defArgs md0, defBody md0, defScope md0, [], []⟩
theorem se0 : FnScope ["self", "line"] ["self", "line"] (defScope md0) := ⟨rfl, rfl, rfl, by decide +kernel, rfl, by decide +kernel, by decide +kernel⟩
def mt23 : Stmt := match top 53 with | .ClassDef _ _ _ b _ _ _ _ _ _ _ => b.getD 0 (.Pass ⟨0, 0, 0, 0⟩) | s => s
theorem sc23 : FnScope ["self", "text", "with_fingers"] ["self", "text", "with_fingers"] (defScope mt23) := ⟨rfl, rfl, rfl, by decide +kernel, rfl, by decide +kernel, by decide +kernel⟩
theorem ck23 : chkB gm b23 (sgOf ["self", "text", "with_fingers"] (defScope mt23)) (defBody mt23) = true := by decide +kernel
def dm23 : He.DefD := ⟨("Reader", some "__init__"), "__init__", "Reader.__init__", defArgs mt23, defBody mt23, defScope mt23, [], []⟩
def mt24 : Stmt := match top 53 with | .ClassDef _ _ _ b _ _ _ _ _ _ _ => b.getD 1 (.Pass ⟨0, 0, 0, 0⟩) | s => s
theorem sc24 : FnScope ["self"] ["self"] (defScope mt24) := ⟨rfl, rfl, rfl, by decide +kernel, rfl, by decide +kernel, by decide +kernel⟩
theorem ck24 : chkB gm b24 (sgOf ["self"] (defScope mt24)) (defBody mt24) = true := by decide +kernel
def dm24 : He.DefD := ⟨("Reader", some "now"), "now", "Reader.now", defArgs mt24, defBody mt24, defScope mt24, [], []⟩
def mt25 : Stmt := match top 53 with | .ClassDef _ _ _ b _ _ _ _ _ _ _ => b.getD 2 (.Pass ⟨0, 0, 0, 0⟩) | s => s
theorem sc25 : FnScope ["self", "good"] ["self", "good"] (defScope mt25) := ⟨rfl, rfl, rfl, by decide +kernel, rfl, by decide +kernel, by decide +kernel⟩
theorem ck25 : chkB gm b25 (sgOf ["self", "good"] (defScope mt25)) (defBody mt25) = true := by decide +kernel
def dm25 : He.DefD := ⟨("Reader", some "sure"), "sure", "Reader.sure", defArgs mt25, defBody mt25, defScope mt25, [], []⟩
def mt26 : Stmt := match top 53 with | .ClassDef _ _ _ b _ _ _ _ _ _ _ => b.getD 3 (.Pass ⟨0, 0, 0, 0⟩) | s => s
theorem sc26 : FnScope ["self", "piece", "found"] ["self", "piece"] (defScope mt26) := ⟨rfl, rfl, rfl, by decide +kernel, rfl, by decide +kernel, by decide +kernel⟩
theorem ck26 : chkB gm b26 (sgOf ["self", "piece", "found"] (defScope mt26)) (defBody mt26) = true := by decide +kernel
def dm26 : He.DefD := ⟨("Reader", some "took"), "took", "Reader.took", defArgs mt26, defBody mt26, defScope mt26, [], []⟩
def mt27 : Stmt := match top 53 with | .ClassDef _ _ _ b _ _ _ _ _ _ _ => b.getD 4 (.Pass ⟨0, 0, 0, 0⟩) | s => s
theorem sc27 : FnScope ["self", "pieces"] ["self", "pieces"] (defScope mt27) := ⟨rfl, rfl, rfl, by decide +kernel, rfl, by decide +kernel, by decide +kernel⟩
theorem ck27 : chkB gm b27 (sgOf ["self", "pieces"] (defScope mt27)) (defBody mt27) = true := by decide +kernel
def dm27 : He.DefD := ⟨("Reader", some "take"), "take", "Reader.take", defArgs mt27, defBody mt27, defScope mt27, [], []⟩
def mt28 : Stmt := match top 53 with | .ClassDef _ _ _ b _ _ _ _ _ _ _ => b.getD 5 (.Pass ⟨0, 0, 0, 0⟩) | s => s
theorem sc28 : FnScope ["self", "found"] ["self"] (defScope mt28) := ⟨rfl, rfl, rfl, by decide +kernel, rfl, by decide +kernel, by decide +kernel⟩
theorem ck28 : chkB gm b28 (sgOf ["self", "found"] (defScope mt28)) (defBody mt28) = true := by decide +kernel
def dm28 : He.DefD := ⟨("Reader", some "any_of"), "any_of", "Reader.any_of", defArgs mt28, defBody mt28, defScope mt28, [], []⟩
def mt29 : Stmt := match top 53 with | .ClassDef _ _ _ b _ _ _ _ _ _ _ => b.getD 6 (.Pass ⟨0, 0, 0, 0⟩) | s => s
theorem sc29 : FnScope ["self", "found"] ["self"] (defScope mt29) := ⟨rfl, rfl, rfl, by decide +kernel, rfl, by decide +kernel, by decide +kernel⟩
theorem ck29 : chkB gm b29 (sgOf ["self", "found"] (defScope mt29)) (defBody mt29) = true := by decide +kernel
def dm29 : He.DefD := ⟨("Reader", some "all_of"), "all_of", "Reader.all_of", defArgs mt29, defBody mt29, defScope mt29, [], []⟩
def mt30 : Stmt := match top 53 with | .ClassDef _ _ _ b _ _ _ _ _ _ _ => b.getD 7 (.Pass ⟨0, 0, 0, 0⟩) | s => s
theorem sc30 : FnScope ["self", "work", "found"] ["self", "work"] (defScope mt30) := ⟨rfl, rfl, rfl, by decide +kernel, rfl, by decide +kernel, by decide +kernel⟩
theorem ck30 : chkB gm b30 (sgOf ["self", "work", "found"] (defScope mt30)) (defBody mt30) = true := by decide +kernel
def dm30 : He.DefD := ⟨("Reader", some "within"), "within", "Reader.within", defArgs mt30, defBody mt30, defScope mt30, [], []⟩
def mt31 : Stmt := match top 53 with | .ClassDef _ _ _ b _ _ _ _ _ _ _ => b.getD 8 (.Pass ⟨0, 0, 0, 0⟩) | s => s
theorem sc31 : FnScope ["self", "word", "found", "finger"] ["self"] (defScope mt31) := ⟨rfl, rfl, rfl, by decide +kernel, rfl, by decide +kernel, by decide +kernel⟩
theorem ck31 : chkB gm b31 (sgOf ["self", "word", "found", "finger"] (defScope mt31)) (defBody mt31) = true := by decide +kernel
def dm31 : He.DefD := ⟨("Reader", some "alone"), "alone", "Reader.alone", defArgs mt31, defBody mt31, defScope mt31, [], []⟩
def mt32 : Stmt := match top 53 with | .ClassDef _ _ _ b _ _ _ _ _ _ _ => b.getD 9 (.Pass ⟨0, 0, 0, 0⟩) | s => s
theorem sc32 : FnScope ["self", "letters", "near", "word"] ["self"] (defScope mt32) := ⟨rfl, rfl, rfl, by decide +kernel, rfl, by decide +kernel, by decide +kernel⟩
theorem ck32 : chkB gm b32 (sgOf ["self", "letters", "near", "word"] (defScope mt32)) (defBody mt32) = true := by decide +kernel
def dm32 : He.DefD := ⟨("Reader", some "bare"), "bare", "Reader.bare", defArgs mt32, defBody mt32, defScope mt32, [], []⟩
def mt33 : Stmt := match top 53 with | .ClassDef _ _ _ b _ _ _ _ _ _ _ => b.getD 10 (.Pass ⟨0, 0, 0, 0⟩) | s => s
theorem sc33 : FnScope ["self", "found"] ["self"] (defScope mt33) := ⟨rfl, rfl, rfl, by decide +kernel, rfl, by decide +kernel, by decide +kernel⟩
theorem ck33 : chkB gm b33 (sgOf ["self", "found"] (defScope mt33)) (defBody mt33) = true := by decide +kernel
def dm33 : He.DefD := ⟨("Reader", some "letters"), "letters", "Reader.letters", defArgs mt33, defBody mt33, defScope mt33, [], []⟩
def mt34 : Stmt := match top 53 with | .ClassDef _ _ _ b _ _ _ _ _ _ _ => b.getD 11 (.Pass ⟨0, 0, 0, 0⟩) | s => s
theorem sc34 : FnScope ["self", "least", "letter"] ["self", "least"] (defScope mt34) := ⟨rfl, rfl, rfl, by decide +kernel, rfl, by decide +kernel, by decide +kernel⟩
theorem ck34 : chkB gm b34 (sgOf ["self", "least", "letter"] (defScope mt34)) (defBody mt34) = true := by decide +kernel
def dm34 : He.DefD := ⟨("Reader", some "letter"), "letter", "Reader.letter", defArgs mt34, defBody mt34, defScope mt34, [], []⟩
def mt35 : Stmt := match top 53 with | .ClassDef _ _ _ b _ _ _ _ _ _ _ => b.getD 12 (.Pass ⟨0, 0, 0, 0⟩) | s => s
theorem sc35 : FnScope ["self", "found"] ["self", "found"] (defScope mt35) := ⟨rfl, rfl, rfl, by decide +kernel, rfl, by decide +kernel, by decide +kernel⟩
theorem ck35 : chkB gm b35 (sgOf ["self", "found"] (defScope mt35)) (defBody mt35) = true := by decide +kernel
def dm35 : He.DefD := ⟨("Reader", some "whole"), "whole", "Reader.whole", defArgs mt35, defBody mt35, defScope mt35, [], []⟩
def dfs : List He.DefD := [d1, d2, d3, d4, d5, d6, d7, d8, d9, d10, d11, d12, d13, d14, d15, d16, d17, d18, d19, d20, d21, d22, d36, d37, d38, d39, d40, d41, d42, d43, d44, d45, d46, d47, d48, de0, dm23, dm24, dm25, dm26, dm27, dm28, dm29, dm30, dm31, dm32, dm33, dm34, dm35]
def fa : List He.Fa := [.glo "is_number", .glo "tuple_of", .glo "is_tuple_of", .glo "is_finger", .glo "is_letter_set", .glo "parts_of_saying", .glo "is_saying", .glo "sure_saying", .glo "parts_of_mood", .glo "is_mood", .glo "sure_mood", .glo "is_end", .glo "is_term", .glo "sure_term", .glo "letters_written", .glo "bare_written", .glo "written", .glo "saying_text", .glo "mood_text", .glo "term_text", .glo "run_end", .glo "pieces_of", .glo "read_saying", .glo "read_mood", .glo "read_term", .glo "_law_box", .glo "_law_take", .glo "_law_cells", .glo "_law_soft", .glo "_law_same", .glo "_law_try", .glo "_law_rows", .glo "_law_told_right", .glo "_law_refused_right", .glo "law"]
section
variable {K : PySem.W.Frag} {mg : PySem.Str → Option Value} {h : Heap}
theorem fn1 (X : K.In h) (G : h.Ns mainGlobals mg) (c : SaysX fa dfs (moreB gm prog) K) : ∃ i, FIok gm K mg prog "is_number" 1 i ∧ i.f = He.ga K "is_number" ∧ i.ps = (["thing"] : List PySem.Str) ∧ ∀ (s : Shared) (us : List Value), us.length = 1 → BindsTo s i.fd ⟨us, []⟩ (i.ps.zip us) := by
  obtain ⟨fd, F⟩ := c.1.def_ 0 (d := d1) rfl
  have b : ∀ (kV doc pm : Value) (an : Option Addr) (cdv ct : Value) (us : List Value), us.length = 1 → bindArgs (PySem.W.fnOf "is_number" "is_number" (defArgs (top 4)) (defBody (top 4)) (defScope (top 4)) .none kV doc pm an cdv ct) ⟨us, []⟩ = pure ((["thing"] : List PySem.Str).zip us) := fun _ _ _ _ _ _ us hl => match us, hl with | [_], _ => rfl
  have kb : ∀ u ∈ kwOf gm "is_number", KB K fd ["thing"] u := by
    have e : kwOf gm "is_number" = [] := by decide +kernel
    rw [e]; exact fun _ h => nomatch h
  obtain ⟨i, h1, h2, h3, h4⟩ := fiok (n := 1) (pu := true) F (He.glo_ok X G (c.1.fact 0 (f := .glo "is_number") rfl)) sc1 ck1 (by kernel_rfl) (F.bindsN b) kb
  exact ⟨i, h1, h2, h3, fun s us hl => by rw [h4, h3]; exact F.bindsA (ps := (["thing"] : List PySem.Str)) b s us hl⟩
theorem fn2 (X : K.In h) (G : h.Ns mainGlobals mg) (c : SaysX fa dfs (moreB gm prog) K) : ∃ i, FIok gm K mg prog "tuple_of" 2 i ∧ i.f = He.ga K "tuple_of" ∧ i.ps = (["thing"] : List PySem.Str) ∧ ∀ (s : Shared) (us : List Value), us.length = 1 → BindsTo s i.fd ⟨us, []⟩ (i.ps.zip us) := by
  obtain ⟨fd, F⟩ := c.1.def_ 1 (d := d2) rfl
  have b : ∀ (kV doc pm : Value) (an : Option Addr) (cdv ct : Value) (us : List Value), us.length = 1 → bindArgs (PySem.W.fnOf "tuple_of" "tuple_of" (defArgs (top 5)) (defBody (top 5)) (defScope (top 5)) .none kV doc pm an cdv ct) ⟨us, []⟩ = pure ((["thing"] : List PySem.Str).zip us) := fun _ _ _ _ _ _ us hl => match us, hl with | [_], _ => rfl
  have kb : ∀ u ∈ kwOf gm "tuple_of", KB K fd ["thing"] u := by
    have e : kwOf gm "tuple_of" = [] := by decide +kernel
    rw [e]; exact fun _ h => nomatch h
  obtain ⟨i, h1, h2, h3, h4⟩ := fiok (n := 2) (pu := true) F (He.glo_ok X G (c.1.fact 1 (f := .glo "tuple_of") rfl)) sc2 ck2 (by kernel_rfl) (F.bindsN b) kb
  exact ⟨i, h1, h2, h3, fun s us hl => by rw [h4, h3]; exact F.bindsA (ps := (["thing"] : List PySem.Str)) b s us hl⟩
theorem fn3 (X : K.In h) (G : h.Ns mainGlobals mg) (c : SaysX fa dfs (moreB gm prog) K) : ∃ i, FIok gm K mg prog "is_tuple_of" 3 i ∧ i.f = He.ga K "is_tuple_of" ∧ i.ps = (["thing", "many"] : List PySem.Str) ∧ ∀ (s : Shared) (us : List Value), us.length = 2 → BindsTo s i.fd ⟨us, []⟩ (i.ps.zip us) := by
  obtain ⟨fd, F⟩ := c.1.def_ 2 (d := d3) rfl
  have b : ∀ (kV doc pm : Value) (an : Option Addr) (cdv ct : Value) (us : List Value), us.length = 2 → bindArgs (PySem.W.fnOf "is_tuple_of" "is_tuple_of" (defArgs (top 6)) (defBody (top 6)) (defScope (top 6)) .none kV doc pm an cdv ct) ⟨us, []⟩ = pure ((["thing", "many"] : List PySem.Str).zip us) := fun _ _ _ _ _ _ us hl => match us, hl with | [_, _], _ => rfl
  have kb : ∀ u ∈ kwOf gm "is_tuple_of", KB K fd ["thing", "many"] u := by
    have e : kwOf gm "is_tuple_of" = [] := by decide +kernel
    rw [e]; exact fun _ h => nomatch h
  obtain ⟨i, h1, h2, h3, h4⟩ := fiok (n := 3) (pu := true) F (He.glo_ok X G (c.1.fact 2 (f := .glo "is_tuple_of") rfl)) sc3 ck3 (by kernel_rfl) (F.bindsN b) kb
  exact ⟨i, h1, h2, h3, fun s us hl => by rw [h4, h3]; exact F.bindsA (ps := (["thing", "many"] : List PySem.Str)) b s us hl⟩
theorem fn4 (X : K.In h) (G : h.Ns mainGlobals mg) (c : SaysX fa dfs (moreB gm prog) K) : ∃ i, FIok gm K mg prog "is_finger" 4 i ∧ i.f = He.ga K "is_finger" ∧ i.ps = (["thing"] : List PySem.Str) ∧ ∀ (s : Shared) (us : List Value), us.length = 1 → BindsTo s i.fd ⟨us, []⟩ (i.ps.zip us) := by
  obtain ⟨fd, F⟩ := c.1.def_ 3 (d := d4) rfl
  have b : ∀ (kV doc pm : Value) (an : Option Addr) (cdv ct : Value) (us : List Value), us.length = 1 → bindArgs (PySem.W.fnOf "is_finger" "is_finger" (defArgs (top 12)) (defBody (top 12)) (defScope (top 12)) .none kV doc pm an cdv ct) ⟨us, []⟩ = pure ((["thing"] : List PySem.Str).zip us) := fun _ _ _ _ _ _ us hl => match us, hl with | [_], _ => rfl
  have kb : ∀ u ∈ kwOf gm "is_finger", KB K fd ["thing"] u := by
    have e : kwOf gm "is_finger" = [] := by decide +kernel
    rw [e]; exact fun _ h => nomatch h
  obtain ⟨i, h1, h2, h3, h4⟩ := fiok (n := 4) (pu := true) F (He.glo_ok X G (c.1.fact 3 (f := .glo "is_finger") rfl)) sc4 ck4 (by kernel_rfl) (F.bindsN b) kb
  exact ⟨i, h1, h2, h3, fun s us hl => by rw [h4, h3]; exact F.bindsA (ps := (["thing"] : List PySem.Str)) b s us hl⟩
theorem fn5 (X : K.In h) (G : h.Ns mainGlobals mg) (c : SaysX fa dfs (moreB gm prog) K) : ∃ i, FIok gm K mg prog "is_letter_set" 5 i ∧ i.f = He.ga K "is_letter_set" ∧ i.ps = (["wide", "thing"] : List PySem.Str) ∧ ∀ (s : Shared) (us : List Value), us.length = 2 → BindsTo s i.fd ⟨us, []⟩ (i.ps.zip us) := by
  obtain ⟨fd, F⟩ := c.1.def_ 4 (d := d5) rfl
  have b : ∀ (kV doc pm : Value) (an : Option Addr) (cdv ct : Value) (us : List Value), us.length = 2 → bindArgs (PySem.W.fnOf "is_letter_set" "is_letter_set" (defArgs (top 13)) (defBody (top 13)) (defScope (top 13)) .none kV doc pm an cdv ct) ⟨us, []⟩ = pure ((["wide", "thing"] : List PySem.Str).zip us) := fun _ _ _ _ _ _ us hl => match us, hl with | [_, _], _ => rfl
  have kb : ∀ u ∈ kwOf gm "is_letter_set", KB K fd ["wide", "thing"] u := by
    have e : kwOf gm "is_letter_set" = [] := by decide +kernel
    rw [e]; exact fun _ h => nomatch h
  obtain ⟨i, h1, h2, h3, h4⟩ := fiok (n := 5) (pu := true) F (He.glo_ok X G (c.1.fact 4 (f := .glo "is_letter_set") rfl)) sc5 ck5 (by kernel_rfl) (F.bindsN b) kb
  exact ⟨i, h1, h2, h3, fun s us hl => by rw [h4, h3]; exact F.bindsA (ps := (["wide", "thing"] : List PySem.Str)) b s us hl⟩
theorem fn6 (X : K.In h) (G : h.Ns mainGlobals mg) (c : SaysX fa dfs (moreB gm prog) K) : ∃ i, FIok gm K mg prog "parts_of_saying" 6 i ∧ i.f = He.ga K "parts_of_saying" ∧ i.ps = (["wide", "thing"] : List PySem.Str) ∧ ∀ (s : Shared) (us : List Value), us.length = 2 → BindsTo s i.fd ⟨us, []⟩ (i.ps.zip us) := by
  obtain ⟨fd, F⟩ := c.1.def_ 5 (d := d6) rfl
  have b : ∀ (kV doc pm : Value) (an : Option Addr) (cdv ct : Value) (us : List Value), us.length = 2 → bindArgs (PySem.W.fnOf "parts_of_saying" "parts_of_saying" (defArgs (top 14)) (defBody (top 14)) (defScope (top 14)) .none kV doc pm an cdv ct) ⟨us, []⟩ = pure ((["wide", "thing"] : List PySem.Str).zip us) := fun _ _ _ _ _ _ us hl => match us, hl with | [_, _], _ => rfl
  have kb : ∀ u ∈ kwOf gm "parts_of_saying", KB K fd ["wide", "thing"] u := by
    have e : kwOf gm "parts_of_saying" = [] := by decide +kernel
    rw [e]; exact fun _ h => nomatch h
  obtain ⟨i, h1, h2, h3, h4⟩ := fiok (n := 6) (pu := true) F (He.glo_ok X G (c.1.fact 5 (f := .glo "parts_of_saying") rfl)) sc6 ck6 (by kernel_rfl) (F.bindsN b) kb
  exact ⟨i, h1, h2, h3, fun s us hl => by rw [h4, h3]; exact F.bindsA (ps := (["wide", "thing"] : List PySem.Str)) b s us hl⟩
theorem fn7 (X : K.In h) (G : h.Ns mainGlobals mg) (c : SaysX fa dfs (moreB gm prog) K) : ∃ i, FIok gm K mg prog "is_saying" 7 i ∧ i.f = He.ga K "is_saying" ∧ i.ps = (["wide", "thing"] : List PySem.Str) ∧ ∀ (s : Shared) (us : List Value), us.length = 2 → BindsTo s i.fd ⟨us, []⟩ (i.ps.zip us) := by
  obtain ⟨fd, F⟩ := c.1.def_ 6 (d := d7) rfl
  have b : ∀ (kV doc pm : Value) (an : Option Addr) (cdv ct : Value) (us : List Value), us.length = 2 → bindArgs (PySem.W.fnOf "is_saying" "is_saying" (defArgs (top 15)) (defBody (top 15)) (defScope (top 15)) .none kV doc pm an cdv ct) ⟨us, []⟩ = pure ((["wide", "thing"] : List PySem.Str).zip us) := fun _ _ _ _ _ _ us hl => match us, hl with | [_, _], _ => rfl
  have kb : ∀ u ∈ kwOf gm "is_saying", KB K fd ["wide", "thing"] u := by
    have e : kwOf gm "is_saying" = [] := by decide +kernel
    rw [e]; exact fun _ h => nomatch h
  obtain ⟨i, h1, h2, h3, h4⟩ := fiok (n := 7) (pu := true) F (He.glo_ok X G (c.1.fact 6 (f := .glo "is_saying") rfl)) sc7 ck7 (by kernel_rfl) (F.bindsN b) kb
  exact ⟨i, h1, h2, h3, fun s us hl => by rw [h4, h3]; exact F.bindsA (ps := (["wide", "thing"] : List PySem.Str)) b s us hl⟩
theorem fn8 (X : K.In h) (G : h.Ns mainGlobals mg) (c : SaysX fa dfs (moreB gm prog) K) : ∃ i, FIok gm K mg prog "sure_saying" 8 i ∧ i.f = He.ga K "sure_saying" ∧ i.ps = (["saying"] : List PySem.Str) ∧ ∀ (s : Shared) (us : List Value), us.length = 1 → BindsTo s i.fd ⟨us, []⟩ (i.ps.zip us) := by
  obtain ⟨fd, F⟩ := c.1.def_ 7 (d := d8) rfl
  have b : ∀ (kV doc pm : Value) (an : Option Addr) (cdv ct : Value) (us : List Value), us.length = 1 → bindArgs (PySem.W.fnOf "sure_saying" "sure_saying" (defArgs (top 16)) (defBody (top 16)) (defScope (top 16)) .none kV doc pm an cdv ct) ⟨us, []⟩ = pure ((["saying"] : List PySem.Str).zip us) := fun _ _ _ _ _ _ us hl => match us, hl with | [_], _ => rfl
  have kb : ∀ u ∈ kwOf gm "sure_saying", KB K fd ["saying"] u := by
    have e : kwOf gm "sure_saying" = [] := by decide +kernel
    rw [e]; exact fun _ h => nomatch h
  obtain ⟨i, h1, h2, h3, h4⟩ := fiok (n := 8) (pu := true) F (He.glo_ok X G (c.1.fact 7 (f := .glo "sure_saying") rfl)) sc8 ck8 (by kernel_rfl) (F.bindsN b) kb
  exact ⟨i, h1, h2, h3, fun s us hl => by rw [h4, h3]; exact F.bindsA (ps := (["saying"] : List PySem.Str)) b s us hl⟩
theorem fn9 (X : K.In h) (G : h.Ns mainGlobals mg) (c : SaysX fa dfs (moreB gm prog) K) : ∃ i, FIok gm K mg prog "parts_of_mood" 9 i ∧ i.f = He.ga K "parts_of_mood" ∧ i.ps = (["wide", "thing"] : List PySem.Str) ∧ ∀ (s : Shared) (us : List Value), us.length = 2 → BindsTo s i.fd ⟨us, []⟩ (i.ps.zip us) := by
  obtain ⟨fd, F⟩ := c.1.def_ 8 (d := d9) rfl
  have b : ∀ (kV doc pm : Value) (an : Option Addr) (cdv ct : Value) (us : List Value), us.length = 2 → bindArgs (PySem.W.fnOf "parts_of_mood" "parts_of_mood" (defArgs (top 22)) (defBody (top 22)) (defScope (top 22)) .none kV doc pm an cdv ct) ⟨us, []⟩ = pure ((["wide", "thing"] : List PySem.Str).zip us) := fun _ _ _ _ _ _ us hl => match us, hl with | [_, _], _ => rfl
  have kb : ∀ u ∈ kwOf gm "parts_of_mood", KB K fd ["wide", "thing"] u := by
    have e : kwOf gm "parts_of_mood" = [] := by decide +kernel
    rw [e]; exact fun _ h => nomatch h
  obtain ⟨i, h1, h2, h3, h4⟩ := fiok (n := 9) (pu := true) F (He.glo_ok X G (c.1.fact 8 (f := .glo "parts_of_mood") rfl)) sc9 ck9 (by kernel_rfl) (F.bindsN b) kb
  exact ⟨i, h1, h2, h3, fun s us hl => by rw [h4, h3]; exact F.bindsA (ps := (["wide", "thing"] : List PySem.Str)) b s us hl⟩
theorem fn10 (X : K.In h) (G : h.Ns mainGlobals mg) (c : SaysX fa dfs (moreB gm prog) K) : ∃ i, FIok gm K mg prog "is_mood" 10 i ∧ i.f = He.ga K "is_mood" ∧ i.ps = (["wide", "thing"] : List PySem.Str) ∧ ∀ (s : Shared) (us : List Value), us.length = 2 → BindsTo s i.fd ⟨us, []⟩ (i.ps.zip us) := by
  obtain ⟨fd, F⟩ := c.1.def_ 9 (d := d10) rfl
  have b : ∀ (kV doc pm : Value) (an : Option Addr) (cdv ct : Value) (us : List Value), us.length = 2 → bindArgs (PySem.W.fnOf "is_mood" "is_mood" (defArgs (top 23)) (defBody (top 23)) (defScope (top 23)) .none kV doc pm an cdv ct) ⟨us, []⟩ = pure ((["wide", "thing"] : List PySem.Str).zip us) := fun _ _ _ _ _ _ us hl => match us, hl with | [_, _], _ => rfl
  have kb : ∀ u ∈ kwOf gm "is_mood", KB K fd ["wide", "thing"] u := by
    have e : kwOf gm "is_mood" = [] := by decide +kernel
    rw [e]; exact fun _ h => nomatch h
  obtain ⟨i, h1, h2, h3, h4⟩ := fiok (n := 10) (pu := true) F (He.glo_ok X G (c.1.fact 9 (f := .glo "is_mood") rfl)) sc10 ck10 (by kernel_rfl) (F.bindsN b) kb
  exact ⟨i, h1, h2, h3, fun s us hl => by rw [h4, h3]; exact F.bindsA (ps := (["wide", "thing"] : List PySem.Str)) b s us hl⟩
theorem fn11 (X : K.In h) (G : h.Ns mainGlobals mg) (c : SaysX fa dfs (moreB gm prog) K) : ∃ i, FIok gm K mg prog "sure_mood" 11 i ∧ i.f = He.ga K "sure_mood" ∧ i.ps = (["mood"] : List PySem.Str) ∧ ∀ (s : Shared) (us : List Value), us.length = 1 → BindsTo s i.fd ⟨us, []⟩ (i.ps.zip us) := by
  obtain ⟨fd, F⟩ := c.1.def_ 10 (d := d11) rfl
  have b : ∀ (kV doc pm : Value) (an : Option Addr) (cdv ct : Value) (us : List Value), us.length = 1 → bindArgs (PySem.W.fnOf "sure_mood" "sure_mood" (defArgs (top 24)) (defBody (top 24)) (defScope (top 24)) .none kV doc pm an cdv ct) ⟨us, []⟩ = pure ((["mood"] : List PySem.Str).zip us) := fun _ _ _ _ _ _ us hl => match us, hl with | [_], _ => rfl
  have kb : ∀ u ∈ kwOf gm "sure_mood", KB K fd ["mood"] u := by
    have e : kwOf gm "sure_mood" = [] := by decide +kernel
    rw [e]; exact fun _ h => nomatch h
  obtain ⟨i, h1, h2, h3, h4⟩ := fiok (n := 11) (pu := true) F (He.glo_ok X G (c.1.fact 10 (f := .glo "sure_mood") rfl)) sc11 ck11 (by kernel_rfl) (F.bindsN b) kb
  exact ⟨i, h1, h2, h3, fun s us hl => by rw [h4, h3]; exact F.bindsA (ps := (["mood"] : List PySem.Str)) b s us hl⟩
theorem fn12 (X : K.In h) (G : h.Ns mainGlobals mg) (c : SaysX fa dfs (moreB gm prog) K) : ∃ i, FIok gm K mg prog "is_end" 12 i ∧ i.f = He.ga K "is_end" ∧ i.ps = (["thing"] : List PySem.Str) ∧ ∀ (s : Shared) (us : List Value), us.length = 1 → BindsTo s i.fd ⟨us, []⟩ (i.ps.zip us) := by
  obtain ⟨fd, F⟩ := c.1.def_ 11 (d := d12) rfl
  have b : ∀ (kV doc pm : Value) (an : Option Addr) (cdv ct : Value) (us : List Value), us.length = 1 → bindArgs (PySem.W.fnOf "is_end" "is_end" (defArgs (top 25)) (defBody (top 25)) (defScope (top 25)) .none kV doc pm an cdv ct) ⟨us, []⟩ = pure ((["thing"] : List PySem.Str).zip us) := fun _ _ _ _ _ _ us hl => match us, hl with | [_], _ => rfl
  have kb : ∀ u ∈ kwOf gm "is_end", KB K fd ["thing"] u := by
    have e : kwOf gm "is_end" = [] := by decide +kernel
    rw [e]; exact fun _ h => nomatch h
  obtain ⟨i, h1, h2, h3, h4⟩ := fiok (n := 12) (pu := true) F (He.glo_ok X G (c.1.fact 11 (f := .glo "is_end") rfl)) sc12 ck12 (by kernel_rfl) (F.bindsN b) kb
  exact ⟨i, h1, h2, h3, fun s us hl => by rw [h4, h3]; exact F.bindsA (ps := (["thing"] : List PySem.Str)) b s us hl⟩
theorem fn13 (X : K.In h) (G : h.Ns mainGlobals mg) (c : SaysX fa dfs (moreB gm prog) K) : ∃ i, FIok gm K mg prog "is_term" 13 i ∧ i.f = He.ga K "is_term" ∧ i.ps = (["wide", "thing"] : List PySem.Str) ∧ ∀ (s : Shared) (us : List Value), us.length = 2 → BindsTo s i.fd ⟨us, []⟩ (i.ps.zip us) := by
  obtain ⟨fd, F⟩ := c.1.def_ 12 (d := d13) rfl
  have b : ∀ (kV doc pm : Value) (an : Option Addr) (cdv ct : Value) (us : List Value), us.length = 2 → bindArgs (PySem.W.fnOf "is_term" "is_term" (defArgs (top 26)) (defBody (top 26)) (defScope (top 26)) .none kV doc pm an cdv ct) ⟨us, []⟩ = pure ((["wide", "thing"] : List PySem.Str).zip us) := fun _ _ _ _ _ _ us hl => match us, hl with | [_, _], _ => rfl
  have kb : ∀ u ∈ kwOf gm "is_term", KB K fd ["wide", "thing"] u := by
    have e : kwOf gm "is_term" = [] := by decide +kernel
    rw [e]; exact fun _ h => nomatch h
  obtain ⟨i, h1, h2, h3, h4⟩ := fiok (n := 13) (pu := true) F (He.glo_ok X G (c.1.fact 12 (f := .glo "is_term") rfl)) sc13 ck13 (by kernel_rfl) (F.bindsN b) kb
  exact ⟨i, h1, h2, h3, fun s us hl => by rw [h4, h3]; exact F.bindsA (ps := (["wide", "thing"] : List PySem.Str)) b s us hl⟩
theorem fn14 (X : K.In h) (G : h.Ns mainGlobals mg) (c : SaysX fa dfs (moreB gm prog) K) : ∃ i, FIok gm K mg prog "sure_term" 14 i ∧ i.f = He.ga K "sure_term" ∧ i.ps = (["term"] : List PySem.Str) ∧ ∀ (s : Shared) (us : List Value), us.length = 1 → BindsTo s i.fd ⟨us, []⟩ (i.ps.zip us) := by
  obtain ⟨fd, F⟩ := c.1.def_ 13 (d := d14) rfl
  have b : ∀ (kV doc pm : Value) (an : Option Addr) (cdv ct : Value) (us : List Value), us.length = 1 → bindArgs (PySem.W.fnOf "sure_term" "sure_term" (defArgs (top 27)) (defBody (top 27)) (defScope (top 27)) .none kV doc pm an cdv ct) ⟨us, []⟩ = pure ((["term"] : List PySem.Str).zip us) := fun _ _ _ _ _ _ us hl => match us, hl with | [_], _ => rfl
  have kb : ∀ u ∈ kwOf gm "sure_term", KB K fd ["term"] u := by
    have e : kwOf gm "sure_term" = [] := by decide +kernel
    rw [e]; exact fun _ h => nomatch h
  obtain ⟨i, h1, h2, h3, h4⟩ := fiok (n := 14) (pu := true) F (He.glo_ok X G (c.1.fact 13 (f := .glo "sure_term") rfl)) sc14 ck14 (by kernel_rfl) (F.bindsN b) kb
  exact ⟨i, h1, h2, h3, fun s us hl => by rw [h4, h3]; exact F.bindsA (ps := (["term"] : List PySem.Str)) b s us hl⟩
theorem fn15 (X : K.In h) (G : h.Ns mainGlobals mg) (c : SaysX fa dfs (moreB gm prog) K) : ∃ i, FIok gm K mg prog "letters_written" 15 i ∧ i.f = He.ga K "letters_written" ∧ i.ps = (["letters"] : List PySem.Str) ∧ ∀ (s : Shared) (us : List Value), us.length = 1 → BindsTo s i.fd ⟨us, []⟩ (i.ps.zip us) := by
  obtain ⟨fd, F⟩ := c.1.def_ 14 (d := d15) rfl
  have b : ∀ (kV doc pm : Value) (an : Option Addr) (cdv ct : Value) (us : List Value), us.length = 1 → bindArgs (PySem.W.fnOf "letters_written" "letters_written" (defArgs (top 34)) (defBody (top 34)) (defScope (top 34)) .none kV doc pm an cdv ct) ⟨us, []⟩ = pure ((["letters"] : List PySem.Str).zip us) := fun _ _ _ _ _ _ us hl => match us, hl with | [_], _ => rfl
  have kb : ∀ u ∈ kwOf gm "letters_written", KB K fd ["letters"] u := by
    have e : kwOf gm "letters_written" = [] := by decide +kernel
    rw [e]; exact fun _ h => nomatch h
  obtain ⟨i, h1, h2, h3, h4⟩ := fiok (n := 15) (pu := true) F (He.glo_ok X G (c.1.fact 14 (f := .glo "letters_written") rfl)) sc15 ck15 (by kernel_rfl) (F.bindsN b) kb
  exact ⟨i, h1, h2, h3, fun s us hl => by rw [h4, h3]; exact F.bindsA (ps := (["letters"] : List PySem.Str)) b s us hl⟩
theorem fn16 (X : K.In h) (G : h.Ns mainGlobals mg) (c : SaysX fa dfs (moreB gm prog) K) : ∃ i, FIok gm K mg prog "bare_written" 16 i ∧ i.f = He.ga K "bare_written" ∧ i.ps = (["own"] : List PySem.Str) ∧ ∀ (s : Shared) (us : List Value), us.length = 1 → BindsTo s i.fd ⟨us, []⟩ (i.ps.zip us) := by
  obtain ⟨fd, F⟩ := c.1.def_ 15 (d := d16) rfl
  have b : ∀ (kV doc pm : Value) (an : Option Addr) (cdv ct : Value) (us : List Value), us.length = 1 → bindArgs (PySem.W.fnOf "bare_written" "bare_written" (defArgs (top 35)) (defBody (top 35)) (defScope (top 35)) .none kV doc pm an cdv ct) ⟨us, []⟩ = pure ((["own"] : List PySem.Str).zip us) := fun _ _ _ _ _ _ us hl => match us, hl with | [_], _ => rfl
  have kb : ∀ u ∈ kwOf gm "bare_written", KB K fd ["own"] u := by
    have e : kwOf gm "bare_written" = [] := by decide +kernel
    rw [e]; exact fun _ h => nomatch h
  obtain ⟨i, h1, h2, h3, h4⟩ := fiok (n := 16) (pu := true) F (He.glo_ok X G (c.1.fact 15 (f := .glo "bare_written") rfl)) sc16 ck16 (by kernel_rfl) (F.bindsN b) kb
  exact ⟨i, h1, h2, h3, fun s us hl => by rw [h4, h3]; exact F.bindsA (ps := (["own"] : List PySem.Str)) b s us hl⟩
theorem fn17 (X : K.In h) (G : h.Ns mainGlobals mg) (c : SaysX fa dfs (moreB gm prog) K) : ∃ i, FIok gm K mg prog "written" 17 i ∧ i.f = He.ga K "written" ∧ i.ps = (["own", "least"] : List PySem.Str) ∧ ∀ (s : Shared) (us : List Value), us.length = 2 → BindsTo s i.fd ⟨us, []⟩ (i.ps.zip us) := by
  obtain ⟨fd, F⟩ := c.1.def_ 16 (d := d17) rfl
  have b : ∀ (kV doc pm : Value) (an : Option Addr) (cdv ct : Value) (us : List Value), us.length = 2 → bindArgs (PySem.W.fnOf "written" "written" (defArgs (top 36)) (defBody (top 36)) (defScope (top 36)) .none kV doc pm an cdv ct) ⟨us, []⟩ = pure ((["own", "least"] : List PySem.Str).zip us) := fun _ _ _ _ _ _ us hl => match us, hl with | [_, _], _ => rfl
  have kb : ∀ u ∈ kwOf gm "written", KB K fd ["own", "least"] u := by
    have e : kwOf gm "written" = [] := by decide +kernel
    rw [e]; exact fun _ h => nomatch h
  obtain ⟨i, h1, h2, h3, h4⟩ := fiok (n := 17) (pu := true) F (He.glo_ok X G (c.1.fact 16 (f := .glo "written") rfl)) sc17 ck17 (by kernel_rfl) (F.bindsN b) kb
  exact ⟨i, h1, h2, h3, fun s us hl => by rw [h4, h3]; exact F.bindsA (ps := (["own", "least"] : List PySem.Str)) b s us hl⟩
theorem fn18 (X : K.In h) (G : h.Ns mainGlobals mg) (c : SaysX fa dfs (moreB gm prog) K) : ∃ i, FIok gm K mg prog "saying_text" 18 i ∧ i.f = He.ga K "saying_text" ∧ i.ps = (["saying"] : List PySem.Str) ∧ ∀ (s : Shared) (us : List Value), us.length = 1 → BindsTo s i.fd ⟨us, []⟩ (i.ps.zip us) := by
  obtain ⟨fd, F⟩ := c.1.def_ 17 (d := d18) rfl
  have b : ∀ (kV doc pm : Value) (an : Option Addr) (cdv ct : Value) (us : List Value), us.length = 1 → bindArgs (PySem.W.fnOf "saying_text" "saying_text" (defArgs (top 37)) (defBody (top 37)) (defScope (top 37)) .none kV doc pm an cdv ct) ⟨us, []⟩ = pure ((["saying"] : List PySem.Str).zip us) := fun _ _ _ _ _ _ us hl => match us, hl with | [_], _ => rfl
  have kb : ∀ u ∈ kwOf gm "saying_text", KB K fd ["saying"] u := by
    have e : kwOf gm "saying_text" = ([(0, ["saying"], [0])] : List (Nat × List PySem.Str × List Nat)) := by decide +kernel
    rw [e]
    exact List.forall_mem_cons.mpr ⟨kbN F fun _ _ _ _ _ _ us ws h1 h2 => match us, ws, h1, h2 with | [], [_], _, _ => rfl, fun _ h => nomatch h⟩
  obtain ⟨i, h1, h2, h3, h4⟩ := fiok (n := 18) (pu := true) F (He.glo_ok X G (c.1.fact 17 (f := .glo "saying_text") rfl)) sc18 ck18 (by kernel_rfl) (F.bindsN b) kb
  exact ⟨i, h1, h2, h3, fun s us hl => by rw [h4, h3]; exact F.bindsA (ps := (["saying"] : List PySem.Str)) b s us hl⟩
theorem fn19 (X : K.In h) (G : h.Ns mainGlobals mg) (c : SaysX fa dfs (moreB gm prog) K) : ∃ i, FIok gm K mg prog "mood_text" 19 i ∧ i.f = He.ga K "mood_text" ∧ i.ps = (["mood"] : List PySem.Str) ∧ ∀ (s : Shared) (us : List Value), us.length = 1 → BindsTo s i.fd ⟨us, []⟩ (i.ps.zip us) := by
  obtain ⟨fd, F⟩ := c.1.def_ 18 (d := d19) rfl
  have b : ∀ (kV doc pm : Value) (an : Option Addr) (cdv ct : Value) (us : List Value), us.length = 1 → bindArgs (PySem.W.fnOf "mood_text" "mood_text" (defArgs (top 38)) (defBody (top 38)) (defScope (top 38)) .none kV doc pm an cdv ct) ⟨us, []⟩ = pure ((["mood"] : List PySem.Str).zip us) := fun _ _ _ _ _ _ us hl => match us, hl with | [_], _ => rfl
  have kb : ∀ u ∈ kwOf gm "mood_text", KB K fd ["mood"] u := by
    have e : kwOf gm "mood_text" = ([(0, ["mood"], [0])] : List (Nat × List PySem.Str × List Nat)) := by decide +kernel
    rw [e]
    exact List.forall_mem_cons.mpr ⟨kbN F fun _ _ _ _ _ _ us ws h1 h2 => match us, ws, h1, h2 with | [], [_], _, _ => rfl, fun _ h => nomatch h⟩
  obtain ⟨i, h1, h2, h3, h4⟩ := fiok (n := 19) (pu := true) F (He.glo_ok X G (c.1.fact 18 (f := .glo "mood_text") rfl)) sc19 ck19 (by kernel_rfl) (F.bindsN b) kb
  exact ⟨i, h1, h2, h3, fun s us hl => by rw [h4, h3]; exact F.bindsA (ps := (["mood"] : List PySem.Str)) b s us hl⟩
theorem fn20 (X : K.In h) (G : h.Ns mainGlobals mg) (c : SaysX fa dfs (moreB gm prog) K) : ∃ i, FIok gm K mg prog "term_text" 20 i ∧ i.f = He.ga K "term_text" ∧ i.ps = (["term"] : List PySem.Str) ∧ ∀ (s : Shared) (us : List Value), us.length = 1 → BindsTo s i.fd ⟨us, []⟩ (i.ps.zip us) := by
  obtain ⟨fd, F⟩ := c.1.def_ 19 (d := d20) rfl
  have b : ∀ (kV doc pm : Value) (an : Option Addr) (cdv ct : Value) (us : List Value), us.length = 1 → bindArgs (PySem.W.fnOf "term_text" "term_text" (defArgs (top 39)) (defBody (top 39)) (defScope (top 39)) .none kV doc pm an cdv ct) ⟨us, []⟩ = pure ((["term"] : List PySem.Str).zip us) := fun _ _ _ _ _ _ us hl => match us, hl with | [_], _ => rfl
  have kb : ∀ u ∈ kwOf gm "term_text", KB K fd ["term"] u := by
    have e : kwOf gm "term_text" = ([(0, ["term"], [0])] : List (Nat × List PySem.Str × List Nat)) := by decide +kernel
    rw [e]
    exact List.forall_mem_cons.mpr ⟨kbN F fun _ _ _ _ _ _ us ws h1 h2 => match us, ws, h1, h2 with | [], [_], _, _ => rfl, fun _ h => nomatch h⟩
  obtain ⟨i, h1, h2, h3, h4⟩ := fiok (n := 20) (pu := true) F (He.glo_ok X G (c.1.fact 19 (f := .glo "term_text") rfl)) sc20 ck20 (by kernel_rfl) (F.bindsN b) kb
  exact ⟨i, h1, h2, h3, fun s us hl => by rw [h4, h3]; exact F.bindsA (ps := (["term"] : List PySem.Str)) b s us hl⟩
theorem fn21 (X : K.In h) (G : h.Ns mainGlobals mg) (c : SaysX fa dfs (moreB gm prog) K) : ∃ i, FIok gm K mg prog "run_end" 21 i ∧ i.f = He.ga K "run_end" ∧ i.ps = (["text", "place", "signs"] : List PySem.Str) ∧ ∀ (s : Shared) (us : List Value), us.length = 3 → BindsTo s i.fd ⟨us, []⟩ (i.ps.zip us) := by
  obtain ⟨fd, F⟩ := c.1.def_ 20 (d := d21) rfl
  have b : ∀ (kV doc pm : Value) (an : Option Addr) (cdv ct : Value) (us : List Value), us.length = 3 → bindArgs (PySem.W.fnOf "run_end" "run_end" (defArgs (top 51)) (defBody (top 51)) (defScope (top 51)) .none kV doc pm an cdv ct) ⟨us, []⟩ = pure ((["text", "place", "signs"] : List PySem.Str).zip us) := fun _ _ _ _ _ _ us hl => match us, hl with | [_, _, _], _ => rfl
  have kb : ∀ u ∈ kwOf gm "run_end", KB K fd ["text", "place", "signs"] u := by
    have e : kwOf gm "run_end" = [] := by decide +kernel
    rw [e]; exact fun _ h => nomatch h
  obtain ⟨i, h1, h2, h3, h4⟩ := fiok (n := 21) (pu := true) F (He.glo_ok X G (c.1.fact 20 (f := .glo "run_end") rfl)) sc21 ck21 (by kernel_rfl) (F.bindsN b) kb
  exact ⟨i, h1, h2, h3, fun s us hl => by rw [h4, h3]; exact F.bindsA (ps := (["text", "place", "signs"] : List PySem.Str)) b s us hl⟩
theorem fn22 (X : K.In h) (G : h.Ns mainGlobals mg) (c : SaysX fa dfs (moreB gm prog) K) : ∃ i, FIok gm K mg prog "pieces_of" 22 i ∧ i.f = He.ga K "pieces_of" ∧ i.ps = (["text"] : List PySem.Str) ∧ ∀ (s : Shared) (us : List Value), us.length = 1 → BindsTo s i.fd ⟨us, []⟩ (i.ps.zip us) := by
  obtain ⟨fd, F⟩ := c.1.def_ 21 (d := d22) rfl
  have b : ∀ (kV doc pm : Value) (an : Option Addr) (cdv ct : Value) (us : List Value), us.length = 1 → bindArgs (PySem.W.fnOf "pieces_of" "pieces_of" (defArgs (top 52)) (defBody (top 52)) (defScope (top 52)) .none kV doc pm an cdv ct) ⟨us, []⟩ = pure ((["text"] : List PySem.Str).zip us) := fun _ _ _ _ _ _ us hl => match us, hl with | [_], _ => rfl
  have kb : ∀ u ∈ kwOf gm "pieces_of", KB K fd ["text"] u := by
    have e : kwOf gm "pieces_of" = [] := by decide +kernel
    rw [e]; exact fun _ h => nomatch h
  obtain ⟨i, h1, h2, h3, h4⟩ := fiok (n := 22) (pu := true) F (He.glo_ok X G (c.1.fact 21 (f := .glo "pieces_of") rfl)) sc22 ck22 (by kernel_rfl) (F.bindsN b) kb
  exact ⟨i, h1, h2, h3, fun s us hl => by rw [h4, h3]; exact F.bindsA (ps := (["text"] : List PySem.Str)) b s us hl⟩
theorem fn36 (X : K.In h) (G : h.Ns mainGlobals mg) (c : SaysX fa dfs (moreB gm prog) K) : ∃ i, FIok gm K mg prog "read_saying" 36 i ∧ i.f = He.ga K "read_saying" ∧ i.ps = (["text"] : List PySem.Str) ∧ ∀ (s : Shared) (us : List Value), us.length = 1 → BindsTo s i.fd ⟨us, []⟩ (i.ps.zip us) := by
  obtain ⟨fd, F⟩ := c.1.def_ 22 (d := d36) rfl
  have b : ∀ (kV doc pm : Value) (an : Option Addr) (cdv ct : Value) (us : List Value), us.length = 1 → bindArgs (PySem.W.fnOf "read_saying" "read_saying" (defArgs (top 54)) (defBody (top 54)) (defScope (top 54)) .none kV doc pm an cdv ct) ⟨us, []⟩ = pure ((["text"] : List PySem.Str).zip us) := fun _ _ _ _ _ _ us hl => match us, hl with | [_], _ => rfl
  have kb : ∀ u ∈ kwOf gm "read_saying", KB K fd ["text"] u := by
    have e : kwOf gm "read_saying" = ([(0, ["text"], [0])] : List (Nat × List PySem.Str × List Nat)) := by decide +kernel
    rw [e]
    exact List.forall_mem_cons.mpr ⟨kbN F fun _ _ _ _ _ _ us ws h1 h2 => match us, ws, h1, h2 with | [], [_], _, _ => rfl, fun _ h => nomatch h⟩
  obtain ⟨i, h1, h2, h3, h4⟩ := fiok (n := 36) (pu := true) F (He.glo_ok X G (c.1.fact 22 (f := .glo "read_saying") rfl)) sc36 ck36 (by kernel_rfl) (F.bindsN b) kb
  exact ⟨i, h1, h2, h3, fun s us hl => by rw [h4, h3]; exact F.bindsA (ps := (["text"] : List PySem.Str)) b s us hl⟩
theorem fn37 (X : K.In h) (G : h.Ns mainGlobals mg) (c : SaysX fa dfs (moreB gm prog) K) : ∃ i, FIok gm K mg prog "read_mood" 37 i ∧ i.f = He.ga K "read_mood" ∧ i.ps = (["text"] : List PySem.Str) ∧ ∀ (s : Shared) (us : List Value), us.length = 1 → BindsTo s i.fd ⟨us, []⟩ (i.ps.zip us) := by
  obtain ⟨fd, F⟩ := c.1.def_ 23 (d := d37) rfl
  have b : ∀ (kV doc pm : Value) (an : Option Addr) (cdv ct : Value) (us : List Value), us.length = 1 → bindArgs (PySem.W.fnOf "read_mood" "read_mood" (defArgs (top 55)) (defBody (top 55)) (defScope (top 55)) .none kV doc pm an cdv ct) ⟨us, []⟩ = pure ((["text"] : List PySem.Str).zip us) := fun _ _ _ _ _ _ us hl => match us, hl with | [_], _ => rfl
  have kb : ∀ u ∈ kwOf gm "read_mood", KB K fd ["text"] u := by
    have e : kwOf gm "read_mood" = ([(0, ["text"], [0])] : List (Nat × List PySem.Str × List Nat)) := by decide +kernel
    rw [e]
    exact List.forall_mem_cons.mpr ⟨kbN F fun _ _ _ _ _ _ us ws h1 h2 => match us, ws, h1, h2 with | [], [_], _, _ => rfl, fun _ h => nomatch h⟩
  obtain ⟨i, h1, h2, h3, h4⟩ := fiok (n := 37) (pu := true) F (He.glo_ok X G (c.1.fact 23 (f := .glo "read_mood") rfl)) sc37 ck37 (by kernel_rfl) (F.bindsN b) kb
  exact ⟨i, h1, h2, h3, fun s us hl => by rw [h4, h3]; exact F.bindsA (ps := (["text"] : List PySem.Str)) b s us hl⟩
theorem fn38 (X : K.In h) (G : h.Ns mainGlobals mg) (c : SaysX fa dfs (moreB gm prog) K) : ∃ i, FIok gm K mg prog "read_term" 38 i ∧ i.f = He.ga K "read_term" ∧ i.ps = (["text"] : List PySem.Str) ∧ ∀ (s : Shared) (us : List Value), us.length = 1 → BindsTo s i.fd ⟨us, []⟩ (i.ps.zip us) := by
  obtain ⟨fd, F⟩ := c.1.def_ 24 (d := d38) rfl
  have b : ∀ (kV doc pm : Value) (an : Option Addr) (cdv ct : Value) (us : List Value), us.length = 1 → bindArgs (PySem.W.fnOf "read_term" "read_term" (defArgs (top 56)) (defBody (top 56)) (defScope (top 56)) .none kV doc pm an cdv ct) ⟨us, []⟩ = pure ((["text"] : List PySem.Str).zip us) := fun _ _ _ _ _ _ us hl => match us, hl with | [_], _ => rfl
  have kb : ∀ u ∈ kwOf gm "read_term", KB K fd ["text"] u := by
    have e : kwOf gm "read_term" = ([(0, ["text"], [0])] : List (Nat × List PySem.Str × List Nat)) := by decide +kernel
    rw [e]
    exact List.forall_mem_cons.mpr ⟨kbN F fun _ _ _ _ _ _ us ws h1 h2 => match us, ws, h1, h2 with | [], [_], _, _ => rfl, fun _ h => nomatch h⟩
  obtain ⟨i, h1, h2, h3, h4⟩ := fiok (n := 38) (pu := true) F (He.glo_ok X G (c.1.fact 24 (f := .glo "read_term") rfl)) sc38 ck38 (by kernel_rfl) (F.bindsN b) kb
  exact ⟨i, h1, h2, h3, fun s us hl => by rw [h4, h3]; exact F.bindsA (ps := (["text"] : List PySem.Str)) b s us hl⟩
theorem fn39 (X : K.In h) (G : h.Ns mainGlobals mg) (c : SaysX fa dfs (moreB gm prog) K) : ∃ i, FIok gm K mg prog "_law_box" 39 i ∧ i.f = He.ga K "_law_box" ∧ i.ps = (["script", "k"] : List PySem.Str) ∧ ∀ (s : Shared) (us : List Value), us.length = 2 → BindsTo s i.fd ⟨us, []⟩ (i.ps.zip us) := by
  obtain ⟨fd, F⟩ := c.1.def_ 25 (d := d39) rfl
  have b : ∀ (kV doc pm : Value) (an : Option Addr) (cdv ct : Value) (us : List Value), us.length = 2 → bindArgs (PySem.W.fnOf "_law_box" "_law_box" (defArgs (top 58)) (defBody (top 58)) (defScope (top 58)) .none kV doc pm an cdv ct) ⟨us, []⟩ = pure ((["script", "k"] : List PySem.Str).zip us) := fun _ _ _ _ _ _ us hl => match us, hl with | [_, _], _ => rfl
  have kb : ∀ u ∈ kwOf gm "_law_box", KB K fd ["script", "k"] u := by
    have e : kwOf gm "_law_box" = [] := by decide +kernel
    rw [e]; exact fun _ h => nomatch h
  obtain ⟨i, h1, h2, h3, h4⟩ := fiok (n := 39) (pu := false) F (He.glo_ok X G (c.1.fact 25 (f := .glo "_law_box") rfl)) sc39 ck39 (by kernel_rfl) (F.bindsN b) kb
  exact ⟨i, h1, h2, h3, fun s us hl => by rw [h4, h3]; exact F.bindsA (ps := (["script", "k"] : List PySem.Str)) b s us hl⟩
theorem fn40 (X : K.In h) (G : h.Ns mainGlobals mg) (c : SaysX fa dfs (moreB gm prog) K) : ∃ i, FIok gm K mg prog "_law_take" 40 i ∧ i.f = He.ga K "_law_take" ∧ i.ps = (["urn", "below"] : List PySem.Str) ∧ ∀ (s : Shared) (us : List Value), us.length = 2 → BindsTo s i.fd ⟨us, []⟩ (i.ps.zip us) := by
  obtain ⟨fd, F⟩ := c.1.def_ 26 (d := d40) rfl
  have b : ∀ (kV doc pm : Value) (an : Option Addr) (cdv ct : Value) (us : List Value), us.length = 2 → bindArgs (PySem.W.fnOf "_law_take" "_law_take" (defArgs (top 59)) (defBody (top 59)) (defScope (top 59)) .none kV doc pm an cdv ct) ⟨us, []⟩ = pure ((["urn", "below"] : List PySem.Str).zip us) := fun _ _ _ _ _ _ us hl => match us, hl with | [_, _], _ => rfl
  have kb : ∀ u ∈ kwOf gm "_law_take", KB K fd ["urn", "below"] u := by
    have e : kwOf gm "_law_take" = [] := by decide +kernel
    rw [e]; exact fun _ h => nomatch h
  obtain ⟨i, h1, h2, h3, h4⟩ := fiok (n := 40) (pu := false) F (He.glo_ok X G (c.1.fact 26 (f := .glo "_law_take") rfl)) sc40 ck40 (by kernel_rfl) (F.bindsN b) kb
  exact ⟨i, h1, h2, h3, fun s us hl => by rw [h4, h3]; exact F.bindsA (ps := (["urn", "below"] : List PySem.Str)) b s us hl⟩
theorem fn41 (X : K.In h) (G : h.Ns mainGlobals mg) (c : SaysX fa dfs (moreB gm prog) K) : ∃ i, FIok gm K mg prog "_law_cells" 41 i ∧ i.f = He.ga K "_law_cells" ∧ i.ps = (["script", "many"] : List PySem.Str) ∧ ∀ (s : Shared) (us : List Value), us.length = 2 → BindsTo s i.fd ⟨us, []⟩ (i.ps.zip us) := by
  obtain ⟨fd, F⟩ := c.1.def_ 27 (d := d41) rfl
  have b : ∀ (kV doc pm : Value) (an : Option Addr) (cdv ct : Value) (us : List Value), us.length = 2 → bindArgs (PySem.W.fnOf "_law_cells" "_law_cells" (defArgs (top 60)) (defBody (top 60)) (defScope (top 60)) .none kV doc pm an cdv ct) ⟨us, []⟩ = pure ((["script", "many"] : List PySem.Str).zip us) := fun _ _ _ _ _ _ us hl => match us, hl with | [_, _], _ => rfl
  have kb : ∀ u ∈ kwOf gm "_law_cells", KB K fd ["script", "many"] u := by
    have e : kwOf gm "_law_cells" = [] := by decide +kernel
    rw [e]; exact fun _ h => nomatch h
  obtain ⟨i, h1, h2, h3, h4⟩ := fiok (n := 41) (pu := true) F (He.glo_ok X G (c.1.fact 27 (f := .glo "_law_cells") rfl)) sc41 ck41 (by kernel_rfl) (F.bindsN b) kb
  exact ⟨i, h1, h2, h3, fun s us hl => by rw [h4, h3]; exact F.bindsA (ps := (["script", "many"] : List PySem.Str)) b s us hl⟩
theorem fn42 (X : K.In h) (G : h.Ns mainGlobals mg) (c : SaysX fa dfs (moreB gm prog) K) : ∃ i, FIok gm K mg prog "_law_soft" 42 i ∧ i.f = He.ga K "_law_soft" ∧ i.ps = (["matter"] : List PySem.Str) ∧ ∀ (s : Shared) (us : List Value), us.length = 1 → BindsTo s i.fd ⟨us, []⟩ (i.ps.zip us) := by
  obtain ⟨fd, F⟩ := c.1.def_ 28 (d := d42) rfl
  have b : ∀ (kV doc pm : Value) (an : Option Addr) (cdv ct : Value) (us : List Value), us.length = 1 → bindArgs (PySem.W.fnOf "_law_soft" "_law_soft" (defArgs (top 61)) (defBody (top 61)) (defScope (top 61)) .none kV doc pm an cdv ct) ⟨us, []⟩ = pure ((["matter"] : List PySem.Str).zip us) := fun _ _ _ _ _ _ us hl => match us, hl with | [_], _ => rfl
  have kb : ∀ u ∈ kwOf gm "_law_soft", KB K fd ["matter"] u := by
    have e : kwOf gm "_law_soft" = [] := by decide +kernel
    rw [e]; exact fun _ h => nomatch h
  obtain ⟨i, h1, h2, h3, h4⟩ := fiok (n := 42) (pu := true) F (He.glo_ok X G (c.1.fact 28 (f := .glo "_law_soft") rfl)) sc42 ck42 (by kernel_rfl) (F.bindsN b) kb
  exact ⟨i, h1, h2, h3, fun s us hl => by rw [h4, h3]; exact F.bindsA (ps := (["matter"] : List PySem.Str)) b s us hl⟩
theorem fn43 (X : K.In h) (G : h.Ns mainGlobals mg) (c : SaysX fa dfs (moreB gm prog) K) : ∃ i, FIok gm K mg prog "_law_same" 43 i ∧ i.f = He.ga K "_law_same" ∧ i.ps = (["got", "due"] : List PySem.Str) ∧ ∀ (s : Shared) (us : List Value), us.length = 2 → BindsTo s i.fd ⟨us, []⟩ (i.ps.zip us) := by
  obtain ⟨fd, F⟩ := c.1.def_ 29 (d := d43) rfl
  have b : ∀ (kV doc pm : Value) (an : Option Addr) (cdv ct : Value) (us : List Value), us.length = 2 → bindArgs (PySem.W.fnOf "_law_same" "_law_same" (defArgs (top 62)) (defBody (top 62)) (defScope (top 62)) .none kV doc pm an cdv ct) ⟨us, []⟩ = pure ((["got", "due"] : List PySem.Str).zip us) := fun _ _ _ _ _ _ us hl => match us, hl with | [_, _], _ => rfl
  have kb : ∀ u ∈ kwOf gm "_law_same", KB K fd ["got", "due"] u := by
    have e : kwOf gm "_law_same" = [] := by decide +kernel
    rw [e]; exact fun _ h => nomatch h
  obtain ⟨i, h1, h2, h3, h4⟩ := fiok (n := 43) (pu := true) F (He.glo_ok X G (c.1.fact 29 (f := .glo "_law_same") rfl)) sc43 ck43 (by kernel_rfl) (F.bindsN b) kb
  exact ⟨i, h1, h2, h3, fun s us hl => by rw [h4, h3]; exact F.bindsA (ps := (["got", "due"] : List PySem.Str)) b s us hl⟩
theorem fn44 (X : K.In h) (G : h.Ns mainGlobals mg) (c : SaysX fa dfs (moreB gm prog) K) : ∃ i, FIok gm K mg prog "_law_try" 44 i ∧ i.f = He.ga K "_law_try" ∧ i.ps = (["door", "own"] : List PySem.Str) ∧ ∀ (s : Shared) (us : List Value), us.length = 2 → BindsTo s i.fd ⟨us, []⟩ (i.ps.zip us) := by
  obtain ⟨fd, F⟩ := c.1.def_ 30 (d := d44) rfl
  have b : ∀ (kV doc pm : Value) (an : Option Addr) (cdv ct : Value) (us : List Value), us.length = 2 → bindArgs (PySem.W.fnOf "_law_try" "_law_try" (defArgs (top 63)) (defBody (top 63)) (defScope (top 63)) .none kV doc pm an cdv ct) ⟨us, []⟩ = pure ((["door", "own"] : List PySem.Str).zip us) := fun _ _ _ _ _ _ us hl => match us, hl with | [_, _], _ => rfl
  have kb : ∀ u ∈ kwOf gm "_law_try", KB K fd ["door", "own"] u := by
    have e : kwOf gm "_law_try" = [] := by decide +kernel
    rw [e]; exact fun _ h => nomatch h
  obtain ⟨i, h1, h2, h3, h4⟩ := fiok (n := 44) (pu := true) F (He.glo_ok X G (c.1.fact 30 (f := .glo "_law_try") rfl)) sc44 ck44 (by kernel_rfl) (F.bindsN b) kb
  exact ⟨i, h1, h2, h3, fun s us hl => by rw [h4, h3]; exact F.bindsA (ps := (["door", "own"] : List PySem.Str)) b s us hl⟩
theorem fn45 (X : K.In h) (G : h.Ns mainGlobals mg) (c : SaysX fa dfs (moreB gm prog) K) : ∃ i, FIok gm K mg prog "_law_rows" 45 i ∧ i.f = He.ga K "_law_rows" ∧ i.ps = ([] : List PySem.Str) ∧ ∀ (s : Shared) (us : List Value), us.length = 0 → BindsTo s i.fd ⟨us, []⟩ (i.ps.zip us) := by
  obtain ⟨fd, F⟩ := c.1.def_ 31 (d := d45) rfl
  have b : ∀ (kV doc pm : Value) (an : Option Addr) (cdv ct : Value) (us : List Value), us.length = 0 → bindArgs (PySem.W.fnOf "_law_rows" "_law_rows" (defArgs (top 64)) (defBody (top 64)) (defScope (top 64)) .none kV doc pm an cdv ct) ⟨us, []⟩ = pure (([] : List PySem.Str).zip us) := fun _ _ _ _ _ _ us hl => match us, hl with | [], _ => rfl
  have kb : ∀ u ∈ kwOf gm "_law_rows", KB K fd [] u := by
    have e : kwOf gm "_law_rows" = [] := by decide +kernel
    rw [e]; exact fun _ h => nomatch h
  obtain ⟨i, h1, h2, h3, h4⟩ := fiok (n := 45) (pu := true) F (He.glo_ok X G (c.1.fact 31 (f := .glo "_law_rows") rfl)) sc45 ck45 (by kernel_rfl) (F.bindsN b) kb
  exact ⟨i, h1, h2, h3, fun s us hl => by rw [h4, h3]; exact F.bindsA (ps := ([] : List PySem.Str)) b s us hl⟩
theorem fn46 (X : K.In h) (G : h.Ns mainGlobals mg) (c : SaysX fa dfs (moreB gm prog) K) : ∃ i, FIok gm K mg prog "_law_told_right" 46 i ∧ i.f = He.ga K "_law_told_right" ∧ i.ps = (["soft"] : List PySem.Str) ∧ ∀ (s : Shared) (us : List Value), us.length = 1 → BindsTo s i.fd ⟨us, []⟩ (i.ps.zip us) := by
  obtain ⟨fd, F⟩ := c.1.def_ 32 (d := d46) rfl
  have b : ∀ (kV doc pm : Value) (an : Option Addr) (cdv ct : Value) (us : List Value), us.length = 1 → bindArgs (PySem.W.fnOf "_law_told_right" "_law_told_right" (defArgs (top 65)) (defBody (top 65)) (defScope (top 65)) .none kV doc pm an cdv ct) ⟨us, []⟩ = pure ((["soft"] : List PySem.Str).zip us) := fun _ _ _ _ _ _ us hl => match us, hl with | [_], _ => rfl
  have kb : ∀ u ∈ kwOf gm "_law_told_right", KB K fd ["soft"] u := by
    have e : kwOf gm "_law_told_right" = [] := by decide +kernel
    rw [e]; exact fun _ h => nomatch h
  obtain ⟨i, h1, h2, h3, h4⟩ := fiok (n := 46) (pu := true) F (He.glo_ok X G (c.1.fact 32 (f := .glo "_law_told_right") rfl)) sc46 ck46 (by kernel_rfl) (F.bindsN b) kb
  exact ⟨i, h1, h2, h3, fun s us hl => by rw [h4, h3]; exact F.bindsA (ps := (["soft"] : List PySem.Str)) b s us hl⟩
theorem fn47 (X : K.In h) (G : h.Ns mainGlobals mg) (c : SaysX fa dfs (moreB gm prog) K) : ∃ i, FIok gm K mg prog "_law_refused_right" 47 i ∧ i.f = He.ga K "_law_refused_right" ∧ i.ps = (["soft"] : List PySem.Str) ∧ ∀ (s : Shared) (us : List Value), us.length = 1 → BindsTo s i.fd ⟨us, []⟩ (i.ps.zip us) := by
  obtain ⟨fd, F⟩ := c.1.def_ 33 (d := d47) rfl
  have b : ∀ (kV doc pm : Value) (an : Option Addr) (cdv ct : Value) (us : List Value), us.length = 1 → bindArgs (PySem.W.fnOf "_law_refused_right" "_law_refused_right" (defArgs (top 66)) (defBody (top 66)) (defScope (top 66)) .none kV doc pm an cdv ct) ⟨us, []⟩ = pure ((["soft"] : List PySem.Str).zip us) := fun _ _ _ _ _ _ us hl => match us, hl with | [_], _ => rfl
  have kb : ∀ u ∈ kwOf gm "_law_refused_right", KB K fd ["soft"] u := by
    have e : kwOf gm "_law_refused_right" = [] := by decide +kernel
    rw [e]; exact fun _ h => nomatch h
  obtain ⟨i, h1, h2, h3, h4⟩ := fiok (n := 47) (pu := true) F (He.glo_ok X G (c.1.fact 33 (f := .glo "_law_refused_right") rfl)) sc47 ck47 (by kernel_rfl) (F.bindsN b) kb
  exact ⟨i, h1, h2, h3, fun s us hl => by rw [h4, h3]; exact F.bindsA (ps := (["soft"] : List PySem.Str)) b s us hl⟩
theorem fn48 (X : K.In h) (G : h.Ns mainGlobals mg) (c : SaysX fa dfs (moreB gm prog) K) : ∃ i, FIok gm K mg prog "law" 48 i ∧ i.f = He.ga K "law" ∧ i.ps = (["script"] : List PySem.Str) ∧ ∀ (s : Shared) (us : List Value), us.length = 1 → BindsTo s i.fd ⟨us, []⟩ (i.ps.zip us) := by
  obtain ⟨fd, F⟩ := c.1.def_ 34 (d := d48) rfl
  have b : ∀ (kV doc pm : Value) (an : Option Addr) (cdv ct : Value) (us : List Value), us.length = 1 → bindArgs (PySem.W.fnOf "law" "law" (defArgs (top 67)) (defBody (top 67)) (defScope (top 67)) .none kV doc pm an cdv ct) ⟨us, []⟩ = pure ((["script"] : List PySem.Str).zip us) := fun _ _ _ _ _ _ us hl => match us, hl with | [_], _ => rfl
  have kb : ∀ u ∈ kwOf gm "law", KB K fd ["script"] u := by
    have e : kwOf gm "law" = [] := by decide +kernel
    rw [e]; exact fun _ h => nomatch h
  obtain ⟨i, h1, h2, h3, h4⟩ := fiok (n := 48) (pu := true) F (He.glo_ok X G (c.1.fact 34 (f := .glo "law") rfl)) sc48 ck48 (by kernel_rfl) (F.bindsN b) kb
  exact ⟨i, h1, h2, h3, fun s us hl => by rw [h4, h3]; exact F.bindsA (ps := (["script"] : List PySem.Str)) b s us hl⟩
theorem fm23 (c : SaysX fa dfs (moreB gm prog) K) : ∃ i, FIc gm K prog 23 i ∧ i.f = He.ma K (clA K 142469805509794913095634989219955) (encS 204537803052516924526299489552122890984357984) := by
  obtain ⟨fd, F⟩ := c.1.def_ 36 (d := dm23) rfl
  have b : ∀ (kV doc pm : Value) (an : Option Addr) (cdv ct : Value) (us : List Value), us.length = 3 → bindArgs (PySem.W.fnOf "__init__" "Reader.__init__" (defArgs mt23) (defBody mt23) (defScope mt23) .none kV doc pm an cdv ct) ⟨us, []⟩ = pure ((["self", "text", "with_fingers"] : List PySem.Str).zip us) := fun _ _ _ _ _ _ us hl => match us, hl with | [_, _, _], _ => rfl
  obtain ⟨i, h1, h2⟩ := ficM (n := 23) (pu := false) F sc23 ck23 (by kernel_rfl) (F.bindsN b)
  have e1 : encS 142469805509794913095634989219955 = ("Reader" : PySem.Str) := by decide +kernel
  have e2 : encS 204537803052516924526299489552122890984357984 = ("__init__" : PySem.Str) := by decide +kernel
  exact ⟨i, h1, by rw [h2]; unfold clA; rw [e1, e2]; rfl⟩
theorem fm24 (c : SaysX fa dfs (moreB gm prog) K) : ∃ i, FIc gm K prog 24 i ∧ i.f = He.ma K (clA K 142469805509794913095634989219955) (encS 137778380669048) := by
  obtain ⟨fd, F⟩ := c.1.def_ 37 (d := dm24) rfl
  have b : ∀ (kV doc pm : Value) (an : Option Addr) (cdv ct : Value) (us : List Value), us.length = 1 → bindArgs (PySem.W.fnOf "now" "Reader.now" (defArgs mt24) (defBody mt24) (defScope mt24) .none kV doc pm an cdv ct) ⟨us, []⟩ = pure ((["self"] : List PySem.Str).zip us) := fun _ _ _ _ _ _ us hl => match us, hl with | [_], _ => rfl
  obtain ⟨i, h1, h2⟩ := ficM (n := 24) (pu := false) F sc24 ck24 (by kernel_rfl) (F.bindsN b)
  have e1 : encS 142469805509794913095634989219955 = ("Reader" : PySem.Str) := by decide +kernel
  have e2 : encS 137778380669048 = ("now" : PySem.Str) := by decide +kernel
  exact ⟨i, h1, by rw [h2]; unfold clA; rw [e1, e2]; rfl⟩
theorem fm25 (c : SaysX fa dfs (moreB gm prog) K) : ∃ i, FIc gm K prog 25 i ∧ i.f = He.ma K (clA K 142469805509794913095634989219955) (encS 160414987494319390822) := by
  obtain ⟨fd, F⟩ := c.1.def_ 38 (d := dm25) rfl
  have b : ∀ (kV doc pm : Value) (an : Option Addr) (cdv ct : Value) (us : List Value), us.length = 2 → bindArgs (PySem.W.fnOf "sure" "Reader.sure" (defArgs mt25) (defBody mt25) (defScope mt25) .none kV doc pm an cdv ct) ⟨us, []⟩ = pure ((["self", "good"] : List PySem.Str).zip us) := fun _ _ _ _ _ _ us hl => match us, hl with | [_, _], _ => rfl
  obtain ⟨i, h1, h2⟩ := ficM (n := 25) (pu := false) F sc25 ck25 (by kernel_rfl) (F.bindsN b)
  have e1 : encS 142469805509794913095634989219955 = ("Reader" : PySem.Str) := by decide +kernel
  have e2 : encS 160414987494319390822 = ("sure" : PySem.Str) := by decide +kernel
  exact ⟨i, h1, by rw [h2]; unfold clA; rw [e1, e2]; rfl⟩
theorem fm26 (c : SaysX fa dfs (moreB gm prog) K) : ∃ i, FIc gm K prog 26 i ∧ i.f = He.ma K (clA K 142469805509794913095634989219955) (encS 161797866607422210156) := by
  obtain ⟨fd, F⟩ := c.1.def_ 39 (d := dm26) rfl
  have b : ∀ (kV doc pm : Value) (an : Option Addr) (cdv ct : Value) (us : List Value), us.length = 2 → bindArgs (PySem.W.fnOf "took" "Reader.took" (defArgs mt26) (defBody mt26) (defScope mt26) .none kV doc pm an cdv ct) ⟨us, []⟩ = pure ((["self", "piece"] : List PySem.Str).zip us) := fun _ _ _ _ _ _ us hl => match us, hl with | [_, _], _ => rfl
  obtain ⟨i, h1, h2⟩ := ficM (n := 26) (pu := false) F sc26 ck26 (by kernel_rfl) (F.bindsN b)
  have e1 : encS 142469805509794913095634989219955 = ("Reader" : PySem.Str) := by decide +kernel
  have e2 : encS 161797866607422210156 = ("took" : PySem.Str) := by decide +kernel
  exact ⟨i, h1, by rw [h2]; unfold clA; rw [e1, e2]; rfl⟩
theorem fm27 (c : SaysX fa dfs (moreB gm prog) K) : ∃ i, FIc gm K prog 27 i ∧ i.f = He.ma K (clA K 142469805509794913095634989219955) (encS 161797849229980074086) := by
  obtain ⟨fd, F⟩ := c.1.def_ 40 (d := dm27) rfl
  have b : ∀ (kV doc pm : Value) (an : Option Addr) (cdv ct : Value) (us : List Value), us.length = 2 → bindArgs (PySem.W.fnOf "take" "Reader.take" (defArgs mt27) (defBody mt27) (defScope mt27) .none kV doc pm an cdv ct) ⟨us, []⟩ = pure ((["self", "pieces"] : List PySem.Str).zip us) := fun _ _ _ _ _ _ us hl => match us, hl with | [_, _], _ => rfl
  obtain ⟨i, h1, h2⟩ := ficM (n := 27) (pu := false) F sc27 ck27 (by kernel_rfl) (F.bindsN b)
  have e1 : encS 142469805509794913095634989219955 = ("Reader" : PySem.Str) := by decide +kernel
  have e2 : encS 161797849229980074086 = ("take" : PySem.Str) := by decide +kernel
  exact ⟨i, h1, by rw [h2]; unfold clA; rw [e1, e2]; rfl⟩
theorem fm28 (c : SaysX fa dfs (moreB gm prog) K) : ∃ i, FIc gm K prog 28 i ∧ i.f = He.ma K (clA K 142469805509794913095634989219955) (encS 168217346187951236431203628220519) := by
  obtain ⟨fd, F⟩ := c.1.def_ 41 (d := dm28) rfl
  have b : ∀ (kV doc pm : Value) (an : Option Addr) (cdv ct : Value) (us : List Value), us.length = 1 → bindArgs (PySem.W.fnOf "any_of" "Reader.any_of" (defArgs mt28) (defBody mt28) (defScope mt28) .none kV doc pm an cdv ct) ⟨us, []⟩ = pure ((["self"] : List PySem.Str).zip us) := fun _ _ _ _ _ _ us hl => match us, hl with | [_], _ => rfl
  obtain ⟨i, h1, h2⟩ := ficM (n := 28) (pu := false) F sc28 ck28 (by kernel_rfl) (F.bindsN b)
  have e1 : encS 142469805509794913095634989219955 = ("Reader" : PySem.Str) := by decide +kernel
  have e2 : encS 168217346187951236431203628220519 = ("any_of" : PySem.Str) := by decide +kernel
  exact ⟨i, h1, by rw [h2]; unfold clA; rw [e1, e2]; rfl⟩
theorem fm29 (c : SaysX fa dfs (moreB gm prog) K) : ∃ i, FIc gm K prog 29 i ∧ i.f = He.ma K (clA K 142469805509794913095634989219955) (encS 168217343106552235345325174292583) := by
  obtain ⟨fd, F⟩ := c.1.def_ 42 (d := dm29) rfl
  have b : ∀ (kV doc pm : Value) (an : Option Addr) (cdv ct : Value) (us : List Value), us.length = 1 → bindArgs (PySem.W.fnOf "all_of" "Reader.all_of" (defArgs mt29) (defBody mt29) (defScope mt29) .none kV doc pm an cdv ct) ⟨us, []⟩ = pure ((["self"] : List PySem.Str).zip us) := fun _ _ _ _ _ _ us hl => match us, hl with | [_], _ => rfl
  obtain ⟨i, h1, h2⟩ := ficM (n := 29) (pu := false) F sc29 ck29 (by kernel_rfl) (F.bindsN b)
  have e1 : encS 142469805509794913095634989219955 = ("Reader" : PySem.Str) := by decide +kernel
  have e2 : encS 168217343106552235345325174292583 = ("all_of" : PySem.Str) := by decide +kernel
  exact ⟨i, h1, by rw [h2]; unfold clA; rw [e1, e2]; rfl⟩
theorem fm30 (c : SaysX fa dfs (moreB gm prog) K) : ∃ i, FIc gm K prog 30 i ∧ i.f = He.ma K (clA K 142469805509794913095634989219955) (encS 205980377808624270902531944218735) := by
  obtain ⟨fd, F⟩ := c.1.def_ 43 (d := dm30) rfl
  have b : ∀ (kV doc pm : Value) (an : Option Addr) (cdv ct : Value) (us : List Value), us.length = 2 → bindArgs (PySem.W.fnOf "within" "Reader.within" (defArgs mt30) (defBody mt30) (defScope mt30) .none kV doc pm an cdv ct) ⟨us, []⟩ = pure ((["self", "work"] : List PySem.Str).zip us) := fun _ _ _ _ _ _ us hl => match us, hl with | [_, _], _ => rfl
  obtain ⟨i, h1, h2⟩ := ficM (n := 30) (pu := false) F sc30 ck30 (by kernel_rfl) (F.bindsN b)
  have e1 : encS 142469805509794913095634989219955 = ("Reader" : PySem.Str) := by decide +kernel
  have e2 : encS 205980377808624270902531944218735 = ("within" : PySem.Str) := by decide +kernel
  exact ⟨i, h1, by rw [h2]; unfold clA; rw [e1, e2]; rfl⟩
theorem fm31 (c : SaysX fa dfs (moreB gm prog) K) : ∃ i, FIc gm K prog 31 i ∧ i.f = He.ma K (clA K 142469805509794913095634989219955) (encS 150987820889243077916426342) := by
  obtain ⟨fd, F⟩ := c.1.def_ 44 (d := dm31) rfl
  have b : ∀ (kV doc pm : Value) (an : Option Addr) (cdv ct : Value) (us : List Value), us.length = 1 → bindArgs (PySem.W.fnOf "alone" "Reader.alone" (defArgs mt31) (defBody mt31) (defScope mt31) .none kV doc pm an cdv ct) ⟨us, []⟩ = pure ((["self"] : List PySem.Str).zip us) := fun _ _ _ _ _ _ us hl => match us, hl with | [_], _ => rfl
  obtain ⟨i, h1, h2⟩ := ficM (n := 31) (pu := false) F sc31 ck31 (by kernel_rfl) (F.bindsN b)
  have e1 : encS 142469805509794913095634989219955 = ("Reader" : PySem.Str) := by decide +kernel
  have e2 : encS 150987820889243077916426342 = ("alone" : PySem.Str) := by decide +kernel
  exact ⟨i, h1, by rw [h2]; unfold clA; rw [e1, e2]; rfl⟩
theorem fm32 (c : SaysX fa dfs (moreB gm prog) K) : ∃ i, FIc gm K prog 32 i ∧ i.f = He.ma K (clA K 142469805509794913095634989219955) (encS 136905891139557720166) := by
  obtain ⟨fd, F⟩ := c.1.def_ 45 (d := dm32) rfl
  have b : ∀ (kV doc pm : Value) (an : Option Addr) (cdv ct : Value) (us : List Value), us.length = 1 → bindArgs (PySem.W.fnOf "bare" "Reader.bare" (defArgs mt32) (defBody mt32) (defScope mt32) .none kV doc pm an cdv ct) ⟨us, []⟩ = pure ((["self"] : List PySem.Str).zip us) := fun _ _ _ _ _ _ us hl => match us, hl with | [_], _ => rfl
  obtain ⟨i, h1, h2⟩ := ficM (n := 32) (pu := false) F sc32 ck32 (by kernel_rfl) (F.bindsN b)
  have e1 : encS 142469805509794913095634989219955 = ("Reader" : PySem.Str) := by decide +kernel
  have e2 : encS 136905891139557720166 = ("bare" : PySem.Str) := by decide +kernel
  exact ⟨i, h1, by rw [h2]; unfold clA; rw [e1, e2]; rfl⟩
theorem fm33 (c : SaysX fa dfs (moreB gm prog) K) : ∃ i, FIc gm K prog 33 i ∧ i.f = He.ma K (clA K 142469805509794913095634989219955) (encS 208449076181370895616144087142805733492) := by
  obtain ⟨fd, F⟩ := c.1.def_ 46 (d := dm33) rfl
  have b : ∀ (kV doc pm : Value) (an : Option Addr) (cdv ct : Value) (us : List Value), us.length = 1 → bindArgs (PySem.W.fnOf "letters" "Reader.letters" (defArgs mt33) (defBody mt33) (defScope mt33) .none kV doc pm an cdv ct) ⟨us, []⟩ = pure ((["self"] : List PySem.Str).zip us) := fun _ _ _ _ _ _ us hl => match us, hl with | [_], _ => rfl
  obtain ⟨i, h1, h2⟩ := ficM (n := 33) (pu := false) F sc33 ck33 (by kernel_rfl) (F.bindsN b)
  have e1 : encS 142469805509794913095634989219955 = ("Reader" : PySem.Str) := by decide +kernel
  have e2 : encS 208449076181370895616144087142805733492 = ("letters" : PySem.Str) := by decide +kernel
  exact ⟨i, h1, by rw [h2]; unfold clA; rw [e1, e2]; rfl⟩
theorem fm34 (c : SaysX fa dfs (moreB gm prog) K) : ∃ i, FIc gm K prog 34 i ∧ i.f = He.ma K (clA K 142469805509794913095634989219955) (encS 187098851983795969899026387959923) := by
  obtain ⟨fd, F⟩ := c.1.def_ 47 (d := dm34) rfl
  have b : ∀ (kV doc pm : Value) (an : Option Addr) (cdv ct : Value) (us : List Value), us.length = 2 → bindArgs (PySem.W.fnOf "letter" "Reader.letter" (defArgs mt34) (defBody mt34) (defScope mt34) .none kV doc pm an cdv ct) ⟨us, []⟩ = pure ((["self", "least"] : List PySem.Str).zip us) := fun _ _ _ _ _ _ us hl => match us, hl with | [_, _], _ => rfl
  obtain ⟨i, h1, h2⟩ := ficM (n := 34) (pu := false) F sc34 ck34 (by kernel_rfl) (F.bindsN b)
  have e1 : encS 142469805509794913095634989219955 = ("Reader" : PySem.Str) := by decide +kernel
  have e2 : encS 187098851983795969899026387959923 = ("letter" : PySem.Str) := by decide +kernel
  exact ⟨i, h1, by rw [h2]; unfold clA; rw [e1, e2]; rfl⟩
theorem fm35 (c : SaysX fa dfs (moreB gm prog) K) : ∃ i, FIc gm K prog 35 i ∧ i.f = He.ma K (clA K 142469805509794913095634989219955) (encS 184883006616863335727824998) := by
  obtain ⟨fd, F⟩ := c.1.def_ 48 (d := dm35) rfl
  have b : ∀ (kV doc pm : Value) (an : Option Addr) (cdv ct : Value) (us : List Value), us.length = 2 → bindArgs (PySem.W.fnOf "whole" "Reader.whole" (defArgs mt35) (defBody mt35) (defScope mt35) .none kV doc pm an cdv ct) ⟨us, []⟩ = pure ((["self", "found"] : List PySem.Str).zip us) := fun _ _ _ _ _ _ us hl => match us, hl with | [_, _], _ => rfl
  obtain ⟨i, h1, h2⟩ := ficM (n := 35) (pu := false) F sc35 ck35 (by kernel_rfl) (F.bindsN b)
  have e1 : encS 142469805509794913095634989219955 = ("Reader" : PySem.Str) := by decide +kernel
  have e2 : encS 184883006616863335727824998 = ("whole" : PySem.Str) := by decide +kernel
  exact ⟨i, h1, by rw [h2]; unfold clA; rw [e1, e2]; rfl⟩
theorem mt_all (c : SaysX fa dfs (moreB gm prog) K) : ∀ e ∈ gm.cls, ∀ m ∈ e.2.2, ∃ i, FIc gm K prog m.2 i ∧ i.f = He.ma K (clA K e.1) (encS m.1) :=
  List.forall_mem_cons.mpr ⟨List.forall_mem_cons.mpr ⟨fm23 c, List.forall_mem_cons.mpr ⟨fm24 c, List.forall_mem_cons.mpr ⟨fm25 c, List.forall_mem_cons.mpr ⟨fm26 c, List.forall_mem_cons.mpr ⟨fm27 c, List.forall_mem_cons.mpr ⟨fm28 c, List.forall_mem_cons.mpr ⟨fm29 c, List.forall_mem_cons.mpr ⟨fm30 c, List.forall_mem_cons.mpr ⟨fm31 c, List.forall_mem_cons.mpr ⟨fm32 c, List.forall_mem_cons.mpr ⟨fm33 c, List.forall_mem_cons.mpr ⟨fm34 c, List.forall_mem_cons.mpr ⟨fm35 c, fun _ h => nomatch h⟩⟩⟩⟩⟩⟩⟩⟩⟩⟩⟩⟩⟩, fun _ h => nomatch h⟩
theorem fns_all (X : K.In h) (G : h.Ns mainGlobals mg) (c : SaysX fa dfs (moreB gm prog) K) : ∀ q ∈ gm.fns, ∃ i, FIok gm K mg prog q.1 q.2.1 i :=
  List.forall_mem_cons.mpr ⟨(fn1 X G c).imp fun _ h => h.1, List.forall_mem_cons.mpr ⟨(fn2 X G c).imp fun _ h => h.1, List.forall_mem_cons.mpr ⟨(fn3 X G c).imp fun _ h => h.1, List.forall_mem_cons.mpr ⟨(fn4 X G c).imp fun _ h => h.1, List.forall_mem_cons.mpr ⟨(fn5 X G c).imp fun _ h => h.1, List.forall_mem_cons.mpr ⟨(fn6 X G c).imp fun _ h => h.1, List.forall_mem_cons.mpr ⟨(fn7 X G c).imp fun _ h => h.1, List.forall_mem_cons.mpr ⟨(fn8 X G c).imp fun _ h => h.1, List.forall_mem_cons.mpr ⟨(fn9 X G c).imp fun _ h => h.1, List.forall_mem_cons.mpr ⟨(fn10 X G c).imp fun _ h => h.1, List.forall_mem_cons.mpr ⟨(fn11 X G c).imp fun _ h => h.1, List.forall_mem_cons.mpr ⟨(fn12 X G c).imp fun _ h => h.1, List.forall_mem_cons.mpr ⟨(fn13 X G c).imp fun _ h => h.1, List.forall_mem_cons.mpr ⟨(fn14 X G c).imp fun _ h => h.1, List.forall_mem_cons.mpr ⟨(fn15 X G c).imp fun _ h => h.1, List.forall_mem_cons.mpr ⟨(fn16 X G c).imp fun _ h => h.1, List.forall_mem_cons.mpr ⟨(fn17 X G c).imp fun _ h => h.1, List.forall_mem_cons.mpr ⟨(fn18 X G c).imp fun _ h => h.1, List.forall_mem_cons.mpr ⟨(fn19 X G c).imp fun _ h => h.1, List.forall_mem_cons.mpr ⟨(fn20 X G c).imp fun _ h => h.1, List.forall_mem_cons.mpr ⟨(fn21 X G c).imp fun _ h => h.1, List.forall_mem_cons.mpr ⟨(fn22 X G c).imp fun _ h => h.1, List.forall_mem_cons.mpr ⟨(fn36 X G c).imp fun _ h => h.1, List.forall_mem_cons.mpr ⟨(fn37 X G c).imp fun _ h => h.1, List.forall_mem_cons.mpr ⟨(fn38 X G c).imp fun _ h => h.1, List.forall_mem_cons.mpr ⟨(fn39 X G c).imp fun _ h => h.1, List.forall_mem_cons.mpr ⟨(fn40 X G c).imp fun _ h => h.1, List.forall_mem_cons.mpr ⟨(fn41 X G c).imp fun _ h => h.1, List.forall_mem_cons.mpr ⟨(fn42 X G c).imp fun _ h => h.1, List.forall_mem_cons.mpr ⟨(fn43 X G c).imp fun _ h => h.1, List.forall_mem_cons.mpr ⟨(fn44 X G c).imp fun _ h => h.1, List.forall_mem_cons.mpr ⟨(fn45 X G c).imp fun _ h => h.1, List.forall_mem_cons.mpr ⟨(fn46 X G c).imp fun _ h => h.1, List.forall_mem_cons.mpr ⟨(fn47 X G c).imp fun _ h => h.1, List.forall_mem_cons.mpr ⟨(fn48 X G c).imp fun _ h => h.1, fun _ h => nomatch h⟩⟩⟩⟩⟩⟩⟩⟩⟩⟩⟩⟩⟩⟩⟩⟩⟩⟩⟩⟩⟩⟩⟩⟩⟩⟩⟩⟩⟩⟩⟩⟩⟩⟩⟩
theorem exf0 (c : SaysX fa dfs (moreB gm prog) K) : ∀ f, gm.fld.lookup 0 = some f → excB K gm prog ("BadText", 0) = true → ∀ (P : Program) (w : World) (base : Heap), ExF P w K mg base (He.ga K "BadText") f := fun f hf hb P w base => by
  obtain ⟨fd, F⟩ := c.1.def_ 35 (d := de0) rfl
  have b : ∀ (kV doc pm : Value) (an : Option Addr) (cdv ct : Value) (us : List Value), us.length = 2 → bindArgs (PySem.W.fnOf "__init__" "BadText.__init__" (defArgs md0) (defBody md0) (defScope md0) .none kV doc pm an cdv ct) ⟨us, []⟩ = pure ((["self", "line"] : List PySem.Str).zip us) := fun _ _ _ _ _ _ us hl => match us, hl with | [_, _], _ => rfl
  have e := hf.symm.trans (show gm.fld.lookup 0 = some ("line" : PySem.Str) by decide +kernel)
  cases e
  exact exf_of (a := "self") (b := "line") hb hf F se0 (F.bindsN b) (by decide +kernel) (by decide +kernel) P w base
theorem exf_all (c : SaysX fa dfs (moreB gm prog) K) : ∀ p ∈ gm.exc, ∀ f, gm.fld.lookup p.2 = some f → excB K gm prog p = true → ∀ (P : Program) (w : World) (base : Heap), ExF P w K mg base (He.ga K p.1) f :=
  List.forall_mem_cons.mpr ⟨exf0 c, List.forall_mem_cons.mpr ⟨fun f hf => absurd (hf.symm.trans (show gm.fld.lookup 1 = none by decide +kernel)) (by simp), fun _ h => nomatch h⟩⟩
theorem facts {P : Program} {w : World} {f : Addr} (X : K.In h) (G : h.Ns mainGlobals mg) (hf : mg ("law" : PySem.Str) = some (.ref f)) (c : SaysX fa dfs (moreB gm prog) K) :
    ∃ fd : FuncData, (∀ (s : Shared) (u : Value), BindsTo s fd ⟨[u], []⟩ [("script", u)]) ∧ ∀ base : Heap, K.In base → base.Ns mainGlobals mg → FnW P w K mg base (L2.CX P w) (lvl prog levels) f fd ["script"] (spOf K (xrel (clOf K gm)) (callF prog levels) lawId 1) := by
  obtain ⟨i, h1, h2, h3, h4⟩ := fn48 X G c
  have e := hf.symm.trans (He.glo_ok X G (c.1.fact 34 (f := .glo "law") rfl))
  cases e
  refine ⟨i.fd, fun s u => ?_, fun base hb hn => ?_⟩
  · have := h4 s [u] rfl
    rw [h3] at this; exact this
  · have W := wl0_of hb hn (Bool.and_eq_true_iff.mp c.2).1 (fns_all hb hn c) (by decide) (fun c j h => beq_iff_eq.mp h) (exf_all c) rfl rfl rfl (mt_all c)
    have z := fns_ok (P := P) (w := w) (base := base) W levels lawId i h1.core
    rw [h2, h3] at z; exact z
end
end Lk06
set_option linter.all false
set_option maxRecDepth 100000
set_option maxHeartbeats 1000000
namespace Pv
/-! ### the draws of the laws, over the evaluator -/
def tBox (M C : Int) : T := (.cns (.asg (.tn 2) (.ife (.cmp .lt (.var 1) (.blt .len (.cns (.var 0) .nil))) (.sub (.var 0) (.var 1)) (.con (.int 0))))
  (.cns (.ret (.box (.lst (.cns (.bin .mul (.blt .abs (.cns (.var 2) .nil)) (.blt .int (.cns (.cmp .ge (.blt .abs (.cns (.var 2) .nil)) (.bin .pow (.con (.int 10)) (.con (.int 18)))) .nil))) (.cns (.bin .add (.bin .add (.bin .mod (.blt .int (.cns (.var 2) .nil)) (.con (.int 2305843009213693951))) (.bin .mul (.con (.int M)) (.var 1))) (.con (.int C))) (.cns (.con (.int 0)) .nil))))))
  .nil))
theorem kin_ints : ∀ cs : List Int, unGs (cs.map fun i => D.g (.int i)) = some (cs.map .int)
  | [] => rfl
  | c :: cs => by simp [unGs, kin_ints cs]
theorem nth_nat {α} (l : List α) (k : Nat) : nth l (k : Int) = l[k]? := by
  unfold nth
  rw [if_pos (by omega)]; simp
theorem b_add (i j : Int) : binG .add (.int i) (.int j) = some (.int (i + j)) := rfl
theorem b_mul {i j : Int} (h : (-18446744073709551616 < i ∧ i < 18446744073709551616) ∨ (-18446744073709551616 < j ∧ j < 18446744073709551616)) : binG .mul (.int i) (.int j) = some (.int (i * j)) := if_pos h
theorem b_mod {i j : Int} (h : 0 < j) : binG .mod (.int i) (.int j) = some (.int (i % j)) := if_pos h
theorem b_fdiv {i j : Int} (h : 0 < j ∧ j < 1073741824) : binG .fdiv (.int i) (.int j) = some (.int (i / j)) := if_pos h
theorem mul_b (x : Int) (b : Bool) : binG .mul (.int x) (.int (b2i b)) = some (.int (x * b2i b)) := by
  exact b_mul (.inr (by cases b <;> decide))
theorem box_run {E : Env} {h : Hp} {f : Nat} (M C : Int) (cs : List Int) (k : Nat) (hM : 0 ≤ M ∧ M < 100000) (hC : 0 ≤ C ∧ C < 4611686018427387904) (hk : k < 1000) : ∃ u0 u1, 0 ≤ u0 ∧ 0 ≤ u1 ∧ u1 < 9223372036854775808 ∧
    runFn E ⟨2, 3, false, denB (tBox M C)⟩ f [.g (.lst (cs.map .int)), .g (.int k)] h = .val (.ref h.length) (h ++ [.lst [.g (.int u0), .g (.int u1), .g (.int 0)]]) := by
  have e1 : binG .pow (.int 10) (.int 18) = some (.int 1000000000000000000) := rfl
  have mm : ∀ x : Int, binG .mod (.int x) (.int 2305843009213693951) = some (.int (x % 2305843009213693951)) := fun x => b_mod (by decide)
  have mk : binG .mul (.int M) (.int k) = some (.int (M * k)) := by
    exact b_mul (.inl ⟨by omega, by omega⟩)
  have mc : ∀ c : Int, 0 ≤ c % 2305843009213693951 ∧ c % 2305843009213693951 < 2305843009213693951 := fun c => ⟨Int.emod_nonneg _ (by decide), Int.emod_lt_of_pos _ (by decide)⟩
  have fin : ∀ c : Int, ∃ u0 u1, 0 ≤ u0 ∧ 0 ≤ u1 ∧ u1 < 9223372036854775808 ∧ denB (.cns (.ret (.box (.lst (.cns (.bin .mul (.blt .abs (.cns (.var 2) .nil)) (.blt .int (.cns (.cmp .ge (.blt .abs (.cns (.var 2) .nil)) (.bin .pow (.con (.int 10)) (.con (.int 18)))) .nil))) (.cns (.bin .add (.bin .add (.bin .mod (.blt .int (.cns (.var 2) .nil)) (.con (.int 2305843009213693951))) (.bin .mul (.con (.int M)) (.var 1))) (.con (.int C))) (.cns (.con (.int 0)) .nil)))))) .nil) E [some (.g (.lst (cs.map .int))), some (.g (.int k)), some (.g (.int c))] h
      = .ret (.ref h.length) (h ++ [.lst [.g (.int u0), .g (.int u1), .g (.int 0)]]) := fun c => by
    refine ⟨(if c < 0 then -c else c) * b2i (decide (1000000000000000000 ≤ (if c < 0 then -c else c))), c % 2305843009213693951 + M * k + C, ?_, ?_, ?_, ?_⟩
    · cases decide (1000000000000000000 ≤ (if c < 0 then -c else c)) <;> simp [b2i]
      split <;> omega
    · have := mc c; have := Int.mul_nonneg hM.1 (show (0:Int) ≤ k by omega); omega
    · have := mc c
      have h1 : M * (k : Int) ≤ 100000 * 1000 := Int.mul_le_mul (by omega) (by omega) (by omega) (by omega)
      omega
    · simp [denB, den, seqF, retF, boxF, lstF, cnsF, nilF, binF, bltF, cmpF, conF, varF, Out.onV, Out.onL, Out.onN, back, ov, ob, bltV, blt1, absV, intV, omap, binV, cmpV, iCmp, boxK, mkLst, unGs, unL, alloc, szOk, mul_b, mm, mk, b_add, e1]
  have body : ∀ c : Int, cs.getD k 0 = c → denB (tBox M C) E [some (.g (.lst (cs.map .int))), some (.g (.int k)), none] h = denB (.cns (.ret (.box (.lst (.cns (.bin .mul (.blt .abs (.cns (.var 2) .nil)) (.blt .int (.cns (.cmp .ge (.blt .abs (.cns (.var 2) .nil)) (.bin .pow (.con (.int 10)) (.con (.int 18)))) .nil))) (.cns (.bin .add (.bin .add (.bin .mod (.blt .int (.cns (.var 2) .nil)) (.con (.int 2305843009213693951))) (.bin .mul (.con (.int M)) (.var 1))) (.con (.int C))) (.cns (.con (.int 0)) .nil)))))) .nil) E [some (.g (.lst (cs.map .int))), some (.g (.int k)), some (.g (.int c))] h := fun c hc => by
    rw [tBox, denB]
    rw [seqF]
    have : den (.asg (.tn 2) (.ife (.cmp .lt (.var 1) (.blt .len (.cns (.var 0) .nil))) (.sub (.var 0) (.var 1)) (.con (.int 0)))) E [some (.g (.lst (cs.map .int))), some (.g (.int k)), none] h = .nxt [some (.g (.lst (cs.map .int))), some (.g (.int k)), some (.g (.int c))] h := by
      by_cases hl : k < cs.length
      · have h1 : nth (cs.map G.int) (k : Int) = some (.int c) := by
          rw [nth_nat, List.getElem?_map, List.getElem?_eq_getElem hl, ← hc]
          simp [hl]
        simp [den, denT, asgF, ifeF, cmpF, subF, tnT, bltF, cnsF, nilF, conF, varF, Out.onV, Out.onL, back, calm, ov, ob, bltV, blt1, lenV, omap, cmpV, iCmp, tru, truG, subV, ixD, subG, h1, hl]
      · have h1 : c = 0 := by rw [← hc]; simp [hl]
        simp [den, denT, asgF, ifeF, cmpF, subF, tnT, bltF, cnsF, nilF, conF, varF, Out.onV, Out.onL, back, calm, ov, ob, bltV, blt1, lenV, omap, cmpV, iCmp, tru, truG, hl, h1]
    rw [this]; rfl
  obtain ⟨u0, u1, p0, p1, p2, e⟩ := fin (cs.getD k 0)
  refine ⟨u0, u1, p0, p1, p2, ?_⟩
  have e2 : mkSlots [.g (.lst (cs.map .int)), .g (.int (k : Int))] 3 = [some (.g (.lst (cs.map .int))), some (.g (.int k)), none] := rfl
  show finish (denB (tBox M C) E (mkSlots [.g (.lst (cs.map .int)), .g (.int (k : Int))] 3) h) = _
  rw [e2, body _ rfl, e]
  rfl
/-- the urn -/
def Urn (n : Nat) (ds : List D) : Prop := ∃ u0 u1 u2 : Int, ds = [.g (.int u0), .g (.int u1), .g (.int u2)] ∧ 0 ≤ u0 ∧ 0 ≤ u1 ∧ u1 < 9223372036854775808 ∧ 0 ≤ u2 ∧ u2 ≤ n
def tTake : T := (.cns (.iff (.cmp .gt (.sub (.var 0) (.con (.int 0))) (.con (.int 0))) (.cns (.asg (.tn 5) (.bin .mod (.blt .int (.cns (.sub (.var 0) (.con (.int 0))) .nil)) (.var 1)))
  (.cns (.asg (.ts (.var 0) (.con (.int 0))) (.bin .fdiv (.sub (.var 0) (.con (.int 0))) (.var 1)))
  (.cns (.ret (.var 5))
  .nil))) .nil)
  (.cns (.asg (.ts (.var 0) (.con (.int 2))) (.bin .add (.sub (.var 0) (.con (.int 2))) (.con (.int 1))))
  (.cns (.asg (.tn 2) (.bin .mod (.blt .int (.cns (.bin .mul (.bin .add (.sub (.var 0) (.con (.int 1))) (.bin .mul (.con (.int 48271)) (.sub (.var 0) (.con (.int 2))))) (.bin .add (.con (.int 39373)) (.sub (.var 0) (.con (.int 2))))) .nil)) (.con (.int 2147483647))))
  (.cns (.asg (.tn 3) (.bin .add (.bin .mod (.blt .int (.cns (.var 2) .nil)) (.con (.int 40009))) (.con (.int 7))))
  (.cns (.asg (.tn 4) (.bin .mod (.blt .int (.cns (.bin .mul (.bin .add (.bin .add (.var 2) (.sub (.var 0) (.con (.int 2)))) (.bin .fdiv (.sub (.var 0) (.con (.int 1))) (.con (.int 1000003)))) (.var 3)) .nil)) (.con (.int 2147483629))))
  (.cns (.ret (.bin .mod (.blt .int (.cns (.bin .fdiv (.bin .mod (.blt .int (.cns (.bin .add (.bin .mul (.var 4) (.con (.int 48271))) (.var 2)) .nil)) (.con (.int 2147483587))) (.con (.int 64))) .nil)) (.var 1)))
  .nil))))))
theorem set_at {h : Hp} {a : Nat} {o o' : O} (e : h[a]? = some o) : (h.set a o')[a]? = some o' := by
  have := (List.getElem?_eq_some_iff.mp e).1
  simp [this]
theorem ev_sub {h : Hp} {a : Nat} {U : List D} (e : h[a]? = some (.lst U)) (i : Nat) {d : D} (hd : U[i]? = some d) : subV (.ref a) (.g (.int i)) h = some d := by
  simp [subV, ixD, kind, e, nth_nat, hd]
theorem ev_sto {h : Hp} {a : Nat} {U : List D} (e : h[a]? = some (.lst U)) (i : Nat) {d x : D} (hd : U[i]? = some d) : stoV (.ref a) (.g (.int i)) x h = some (h.set a (.lst (U.set i x))) := by
  have : posI U.length (i : Int) = i := by unfold posI; rw [if_pos (by omega)]; simp
  simp [stoV, isDic, stoL, e, nth_nat, hd, this]
theorem take_run {E : Env} {h : Hp} {f a n : Nat} {below : Int} (hb : 0 < below ∧ below < 1073741824) {U : List D} (hu : h[a]? = some (.lst U)) (hU : Urn n U) (hn : n < 1000000) :
    ∃ d U', 0 ≤ d ∧ d < below ∧ Urn (n + 1) U' ∧ runFn E ⟨2, 6, false, denB tTake⟩ f [.ref a, .g (.int below)] h = .val (.g (.int d)) (h.set a (.lst U')) := by
  obtain ⟨u0, u1, u2, rfl, p0, p1, p2, p3, p4⟩ := hU
  have s0 : subV (.ref a) (.g (.int 0)) h = some (.g (.int u0)) := ev_sub hu 0 rfl
  by_cases c : 0 < u0
  · have m1 : binG .mod (.int u0) (.int below) = some (.int (u0 % below)) := b_mod hb.1
    have m2 : binG .fdiv (.int u0) (.int below) = some (.int (u0 / below)) := b_fdiv hb
    have w0 : stoV (.ref a) (.g (.int 0)) (.g (.int (u0 / below))) h = some (h.set a (.lst [.g (.int (u0 / below)), .g (.int u1), .g (.int u2)])) := ev_sto hu 0 rfl
    refine ⟨u0 % below, [.g (.int (u0 / below)), .g (.int u1), .g (.int u2)], Int.emod_nonneg _ (by omega), Int.emod_lt_of_pos _ hb.1, ⟨_, _, _, rfl, Int.ediv_nonneg p0 (by omega), p1, p2, p3, by omega⟩, ?_⟩
    show finish (denB tTake E [some (.ref a), some (.g (.int below)), none, none, none, none] h) = _
    simp [tTake, denB, den, denT, seqF, iffF, asgF, tsT, tnT, retF, cmpF, subF, binF, bltF, cnsF, nilF, conF, varF, Out.onV, Out.onL, Out.onN, back, calm, ov, ob, bltV, blt1, intV, omap, binV, cmpV, iCmp, tru, truG, s0, c, m1, m2, w0, finish]
  · have h2 : (h.set a (.lst [.g (.int u0), .g (.int u1), .g (.int (u2 + 1))]))[a]? = some (.lst [.g (.int u0), .g (.int u1), .g (.int (u2 + 1))]) := set_at hu
    have s2 : subV (.ref a) (.g (.int 2)) h = some (.g (.int u2)) := ev_sub hu 2 rfl
    have t1 : subV (.ref a) (.g (.int 1)) (h.set a (.lst [.g (.int u0), .g (.int u1), .g (.int (u2 + 1))])) = some (.g (.int u1)) := ev_sub h2 1 rfl
    have t2 : subV (.ref a) (.g (.int 2)) (h.set a (.lst [.g (.int u0), .g (.int u1), .g (.int (u2 + 1))])) = some (.g (.int (u2 + 1))) := ev_sub h2 2 rfl
    have w2 : stoV (.ref a) (.g (.int 2)) (.g (.int (u2 + 1))) h = some (h.set a (.lst [.g (.int u0), .g (.int u1), .g (.int (u2 + 1))])) := ev_sto hu 2 rfl
    have m1 : binG .mul (.int 48271) (.int (u2 + 1)) = some (.int (48271 * (u2 + 1))) := b_mul (.inl ⟨by decide, by decide⟩)
    have m2 : binG .mul (.int (u1 + 48271 * (u2 + 1))) (.int (39373 + (u2 + 1))) = some (.int ((u1 + 48271 * (u2 + 1)) * (39373 + (u2 + 1)))) := b_mul (.inr ⟨by omega, by omega⟩)
    have md : ∀ (x j : Int), 0 < j → binG .mod (.int x) (.int j) = some (.int (x % j)) := fun x j hj => b_mod hj
    have q1 := Int.emod_nonneg ((u1 + 48271 * (u2 + 1)) * (39373 + (u2 + 1))) (show (2147483647 : Int) ≠ 0 by decide)
    have q2 := Int.emod_lt_of_pos ((u1 + 48271 * (u2 + 1)) * (39373 + (u2 + 1))) (show (0 : Int) < 2147483647 by decide)
    generalize ho : (u1 + 48271 * (u2 + 1)) * (39373 + (u2 + 1)) % 2147483647 = once at q1 q2
    have r1 := Int.emod_nonneg once (show (40009 : Int) ≠ 0 by decide)
    have r2 := Int.emod_lt_of_pos once (show (0 : Int) < 40009 by decide)
    have f1 : binG .fdiv (.int u1) (.int 1000003) = some (.int (u1 / 1000003)) := b_fdiv ⟨by decide, by decide⟩
    have m3 : binG .mul (.int (once + (u2 + 1) + u1 / 1000003)) (.int (once % 40009 + 7)) = some (.int ((once + (u2 + 1) + u1 / 1000003) * (once % 40009 + 7))) := b_mul (.inr ⟨by omega, by omega⟩)
    generalize ht : (once + (u2 + 1) + u1 / 1000003) * (once % 40009 + 7) % 2147483629 = twice
    have m4 : binG .mul (.int twice) (.int 48271) = some (.int (twice * 48271)) := b_mul (.inr ⟨by decide, by decide⟩)
    have f2 : ∀ x : Int, binG .fdiv (.int x) (.int 64) = some (.int (x / 64)) := fun x => b_fdiv ⟨by decide, by decide⟩
    refine ⟨(twice * 48271 + once) % 2147483587 / 64 % below, [.g (.int u0), .g (.int u1), .g (.int (u2 + 1))], Int.emod_nonneg _ (by omega), Int.emod_lt_of_pos _ hb.1, ⟨_, _, _, rfl, p0, p1, p2, by omega, by omega⟩, ?_⟩
    show finish (denB tTake E [some (.ref a), some (.g (.int below)), none, none, none, none] h) = _
    simp [tTake, denB, den, denT, seqF, iffF, asgF, tsT, tnT, retF, cmpF, subF, binF, bltF, cnsF, nilF, conF, varF, skpF, Out.onV, Out.onL, Out.onN, back, calm, ov, ob, bltV, blt1, intV, omap, binV, cmpV, iCmp, tru, truG, s0, s2, t1, t2, w2, c, b_add, m1, m2, m3, m4, md, ho, f1, ht, f2, hb.1, finish]
def tCellT : T := .tt (.cns (.tn 3) (.cns (.tn 4) .nil))
def tCellB : T := .cns (.asg (.tn 5) (.bin .mod (.blt .int (.cns (.var 3) .nil)) (.var 1)))
  (.cns (.asg (.ts (.var 2) (.var 5)) (.bin .add (.sub (.var 2) (.var 5)) (.bin .mul (.var 4) (.bin .add (.var 3) (.con (.int 2))))))
  .nil)
def tCells : T := (.cns (.asg (.tn 2) (.or (.box (.blt .list (.cns (.sli (.var 0) .nil (.var 1)) .nil))) (.box (.lst (.cns (.con (.int 0)) .nil)))))
  (.cns (.fre tCellT (.ite (.sli (.var 0) (.var 1) (.con (.int 63)))) tCellB)
  (.cns (.ret (.var 2))
  .nil)))
def di (i : Int) : D := .g (.int i)
theorem cells_loop {E : Env} {m : Nat} (hm : 0 < m ∧ m < 1000) {x0 : D} {a : Nat} : ∀ (r : List Int) (n fuel : Nat) (s3 s4 s5 : Option D) (h : Hp) (cs : List Int), r.length < fuel → n + r.length < 1000 → cs.length = m → h[a]? = some (.lst (cs.map di)) →
    ∃ (cs' : List Int) (t3 t4 t5 : Option D) (h' : Hp), cs'.length = m ∧ h'[a]? = some (.lst (cs'.map di)) ∧ forLoop (denT tCellT) (denB tCellB) E fuel (.enu n (.seq (r.map di))) [some x0, some (di m), some (.ref a), s3, s4, s5] h = .nxt [some x0, some (di m), some (.ref a), t3, t4, t5] h'
  | [], n, fuel + 1, s3, s4, s5, h, cs, _, _, hc, hh => ⟨cs, s3, s4, s5, h, hc, hh, rfl⟩
  | c :: r, n, fuel + 1, s3, s4, s5, h, cs, hf, hn, hc, hh => by
    have hf : r.length < fuel := by simpa using hf
    have hn : n + (r.length + 1) < 1000 := by simpa using hn
    have lt : n % m < cs.length := by rw [hc]; exact Nat.mod_lt _ hm.1
    have m1 : binG .mod (.int n) (.int m) = some (.int ((n % m : Nat) : Int)) := by
      rw [b_mod (by omega), Int.natCast_emod]
    generalize n % m = q at lt m1
    have g1 : (cs.map di)[q]? = some (di cs[q]) := by simp [lt]
    have s1 : subV (.ref a) (.g (.int (q : Int))) h = some (di cs[q]) := ev_sub hh _ g1
    have m2 : binG .mul (.int c) (.int ((n : Int) + 2)) = some (.int (c * ((n : Int) + 2))) := b_mul (.inr ⟨by omega, by omega⟩)
    have w1 : stoV (.ref a) (.g (.int (q : Int))) (di (cs[q] + c * ((n : Int) + 2))) h = some (h.set a (.lst ((cs.map di).set (q) (di (cs[q] + c * ((n : Int) + 2)))))) := ev_sto hh _ g1
    have step : denB tCellB E [some x0, some (di m), some (.ref a), some (di n), some (di c), s5] h = .nxt [some x0, some (di m), some (.ref a), some (di n), some (di c), some (di (q : Int))] (h.set a (.lst ((cs.map di).set (q) (di (cs[q] + c * ((n : Int) + 2)))))) := by
      unfold di at *
      simp [tCellB, denB, den, denT, seqF, asgF, tsT, tnT, subF, binF, bltF, cnsF, nilF, conF, varF, skpF, Out.onV, Out.onL, Out.onN, back, calm, ov, bltV, blt1, intV, omap, binV, b_add, m1, s1, m2, w1]
    obtain ⟨cs', t3, t4, t5, h', q1, q2, q3⟩ := cells_loop (E := E) hm (x0 := x0) r (n + 1) fuel (some (di n)) (some (di c)) (some (di (q : Int))) (h.set a (.lst ((cs.map di).set (q) (di (cs[q] + c * ((n : Int) + 2)))))) (cs.set (q) (cs[q] + c * ((n : Int) + 2))) hf (by omega) (by simp [hc]) (by rw [set_at hh]; simp)
    refine ⟨cs', t3, t4, t5, h', q1, q2, ?_⟩
    rw [← q3]
    have hx : nextI h (.enu n (.seq ((c :: r).map di))) = .yld (mkTup [.g (.int n), di c]) (.enu (n + 1) (.seq (r.map di))) := rfl
    have tg : denT tCellT (mkTup [.g (.int n), di c]) E [some x0, some (di m), some (.ref a), s3, s4, s5] h = .nxt [some x0, some (di m), some (.ref a), some (di n), some (di c), s5] h := rfl
    rw [forLoop, hx]
    dsimp only
    rw [tg]
    simp only [calm, Out.onN]
    rw [step]
theorem un_di : ∀ cs : List Int, unGs (cs.map di) = some (cs.map G.int)
  | [] => rfl
  | c :: cs => by
    show (match unGs (cs.map di) with | some t => some (G.int c :: t) | none => none) = _
    rw [un_di cs]; rfl
theorem map_di (cs : List Int) : (cs.map G.int).map D.g = cs.map di := by rw [List.map_map]; rfl
theorem cells_run {E : Env} {h : Hp} {f : Nat} (ns : List Int) (m : Nat) (hl : ns.length ≤ 63) (hm : 0 < m ∧ m < 900) (hf : 64 < E.fuel) : ∃ cs : List Int, 0 < cs.length ∧ cs.length ≤ m ∧
    runFn E ⟨2, 6, true, denB tCells⟩ f [.g (.lst (ns.map .int)), .g (.int m)] h = .val (.g (.lst (cs.map .int))) h := by
  have sl1 : sl2 (ns.map G.int) (.g .non) (.g (.int m)) = some ((ns.map G.int).take m) := by
    have z : ¬ ((m : Int) < 0) := by omega
    simp only [sl2, bnd, sIxD, cutL, if_neg z, List.drop_zero, Nat.sub_zero, Int.toNat_natCast]
    congr 1
    by_cases q : m ≤ (ns.map G.int).length
    · rw [Nat.min_eq_left q]
    · rw [Nat.min_eq_right (by omega), List.take_of_length_le (Nat.le_refl _), List.take_of_length_le (by omega)]
  obtain ⟨ds2, e2, l2⟩ : ∃ r : List Int, sl2 (ns.map G.int) (.g (.int m)) (.g (.int 63)) = some (r.map G.int) ∧ (r.length ≤ 63 ∧ (ns.length ≤ m → r = [])) := by
    have z : ¬ ((m : Int) < 0) := by omega
    refine ⟨(ns.drop (min m ns.length)).take (min 63 ns.length - min m ns.length), ?_, ?_, fun q => ?_⟩
    · simp only [sl2, bnd, sIxD, cutL, if_neg z, List.length_map, Int.toNat_natCast]
      simp
    · simp; omega
    · rw [Nat.min_eq_right q]; simp
  have k1 : ∀ (s2 : Nat) (h0 : Hp) (cs : List Int), cs ≠ [] → (ns.length ≤ m ∨ cs.length = m) → h0[s2]? = some (.lst (cs.map di)) →
      ∃ (cs' : List Int) (s' : St) (h' : Hp), cs'.length = cs.length ∧ h'[s2]? = some (.lst (cs'.map di)) ∧ den (.fre tCellT (.ite (.sli (.var 0) (.var 1) (.con (.int 63)))) tCellB) E [some (.g (.lst (ns.map .int))), some (di m), some (.ref s2), none, none, none] h0 = .nxt s' h' ∧ s'[2]? = some (some (.ref s2)) := fun s2 h0 cs hne hor hh => by
    have hi : den (.ite (.sli (.var 0) (.var 1) (.con (.int 63)))) E [some (.g (.lst (ns.map .int))), some (di m), some (.ref s2), none, none, none] h0 = .itr (.enu 0 (.seq (ds2.map di))) none h0 := by
      have md2 : (ds2.map G.int).map D.g = ds2.map di := map_di _
      simp only [den, iteF, sliF, partF, varF, conF, Out.onV, ov, sliV, di, List.getElem?_cons_zero, List.getElem?_cons_succ, e2, omap, enuV, isL, kind, itOf, oi, md2]
    have hd : ∀ o : Out, den (.ite (.sli (.var 0) (.var 1) (.con (.int 63)))) E [some (.g (.lst (ns.map .int))), some (di m), some (.ref s2), none, none, none] h0 = o → den (.fre tCellT (.ite (.sli (.var 0) (.var 1) (.con (.int 63)))) tCellB) E [some (.g (.lst (ns.map .int))), some (di m), some (.ref s2), none, none, none] h0 = (back [some (.g (.lst (ns.map .int))), some (di m), some (.ref s2), none, none, none] o).onI fun j u h => match u with | none => forLoop (denT tCellT) (denB tCellB) E E.fuel j [some (.g (.lst (ns.map .int))), some (di m), some (.ref s2), none, none, none] h | some _ => .bad 142 := fun o e => by
      rw [← e]; rw [den]; rfl
    rw [hd _ hi]
    show ∃ (cs' : List Int) (s' : St) (h' : Hp), _ ∧ _ ∧ forLoop (denT tCellT) (denB tCellB) E E.fuel (.enu 0 (.seq (ds2.map di))) _ h0 = _ ∧ _
    rcases hor with q | q
    · rw [l2.2 q]
      cases hE : E.fuel with
      | zero => omega
      | succ n => exact ⟨cs, _, h0, rfl, hh, rfl, rfl⟩
    · obtain ⟨cs', t3, t4, t5, h', q1, q2, q3⟩ := cells_loop (E := E) (m := m) ⟨hm.1, by omega⟩ (x0 := .g (.lst (ns.map .int))) (a := s2) ds2 0 E.fuel none none none h0 cs (by omega) (by omega) q hh
      exact ⟨cs', _, h', by rw [q1, q], q2, q3, rfl⟩
  have fin : ∀ (s2 : Nat) (h0 : Hp) (cs : List Int), cs ≠ [] → cs.length ≤ m → (ns.length ≤ m ∨ cs.length = m) → h0[s2]? = some (.lst (cs.map di)) →
      den (.asg (.tn 2) (.or (.box (.blt .list (.cns (.sli (.var 0) .nil (.var 1)) .nil))) (.box (.lst (.cns (.con (.int 0)) .nil))))) E [some (.g (.lst (ns.map .int))), some (di m), none, none, none, none] [] = .nxt [some (.g (.lst (ns.map .int))), some (di m), some (.ref s2), none, none, none] h0 →
      ∃ cs : List Int, 0 < cs.length ∧ cs.length ≤ m ∧ runFn E ⟨2, 6, true, denB tCells⟩ f [.g (.lst (ns.map .int)), .g (.int m)] h = .val (.g (.lst (cs.map .int))) h := fun s2 h0 cs hne hle hor hh e => by
    obtain ⟨cs', s', h', q1, q2, q3, q4⟩ := k1 s2 h0 cs hne hor hh
    refine ⟨cs', by rw [q1]; exact List.length_pos_iff.mpr hne, by rw [q1]; exact hle, ?_⟩
    show pureEnd f h false (finish (denB tCells E [some (.g (.lst (ns.map .int))), some (di m), none, none, none, none] [])) = _
    have : denB tCells E [some (.g (.lst (ns.map .int))), some (di m), none, none, none, none] [] = .ret (.ref s2) h' := by
      rw [tCells, denB, seqF, e]
      show denB _ E _ h0 = _
      rw [denB, seqF, q3]
      show denB _ E s' h' = _
      simp [denB, den, seqF, retF, varF, q4, back, Out.onV, Out.onN]
    rw [this]
    simp [finish, pureEnd, rd, q2, un_di]
  have hb : den (.box (.blt .list (.cns (.sli (.var 0) .nil (.var 1)) .nil))) E [some (.g (.lst (ns.map .int))), some (di m), none, none, none, none] [] = .val (.ref 0) [.lst ((ns.take m).map di)] := by
    have md : ((ns.map G.int).take m).map D.g = (ns.take m).map di := by rw [← List.map_take]; exact map_di _
    simp only [den, boxF, bltF, cnsF, nilF, sliF, partF, varF, conF, Out.onV, Out.onL, ov, sliV, di, List.getElem?_cons_zero, List.getElem?_cons_succ, sl1, omap, bltV, blt1, lisV, boxK, unL, alloc]
    rw [md]; rfl
  by_cases hn : ns = []
  · refine fin 1 [.lst [], .lst [di 0]] [0] (by simp) (show 1 ≤ m from hm.1) (.inl (by simp [hn])) rfl ?_
    show asgF (tnT 2) (orF (den (.box (.blt .list (.cns (.sli (.var 0) .nil (.var 1)) .nil)))) (den (.box (.lst (.cns (.con (.int 0)) .nil))))) E _ [] = _
    rw [asgF, orF, hb, hn, List.take_nil]
    rfl
  · have ne : ∃ x r, ns.take m = x :: r := by
      cases ns with
      | nil => exact absurd rfl hn
      | cons x r => cases m with
        | zero => omega
        | succ m => exact ⟨x, r.take m, rfl⟩
    obtain ⟨x, r, ne⟩ := ne
    refine fin 0 [.lst ((ns.take m).map di)] (ns.take m) (by rw [ne]; simp) (by simp; omega) ?_ rfl ?_
    · by_cases q : ns.length ≤ m
      · exact .inl q
      · exact .inr (by simp; omega)
    · show asgF (tnT 2) (orF (den (.box (.blt .list (.cns (.sli (.var 0) .nil (.var 1)) .nil)))) (den (.box (.lst (.cns (.con (.int 0)) .nil))))) E _ [] = _
      rw [asgF, orF, hb, ne]
      rfl
/-- the three functions of a law's draws, as a world calls them -/
structure Dr (E : Env) (tc tb tt : Nat) (M C : Int) : Prop where
  m : 0 ≤ M ∧ M < 100000
  c : 0 ≤ C ∧ C < 4611686018427387904
  cells : ∃ E0, 64 < E0.fuel ∧ E.call tc = fun ds h => runFn E0 ⟨2, 6, true, denB tCells⟩ tc ds h
  box : ∃ E0, E.call tb = fun ds h => runFn E0 ⟨2, 3, false, denB (tBox M C)⟩ tb ds h
  take : ∃ E0, E.call tt = fun ds h => runFn E0 ⟨2, 6, false, denB tTake⟩ tt ds h
section
variable {E : Env} {tc tb tt : Nat} {M C : Int}
theorem Dr.urn (W : Dr E tc tb tt M C) {ns : List Int} (hl : ns.length ≤ 63) {s : St} {h : Hp} (hs : s[0]? = some (some (.g (.lst (ns.map .int))))) {m k : Int} (hm : 0 < m ∧ m < 900) (hk : 0 ≤ k ∧ k < 1000) :
    ∃ U, Urn 0 U ∧ appF tb (cnsF (appF tc (cnsF (varF 0) (cnsF (conF (.int m)) nilF))) (cnsF (conF (.int k)) nilF)) E s h = .val (.ref h.length) (h ++ [.lst U]) := by
  obtain ⟨E1, f1, e1⟩ := W.cells
  obtain ⟨E2, e2⟩ := W.box
  obtain ⟨m, rfl⟩ := Int.eq_ofNat_of_zero_le (show 0 ≤ m by omega)
  obtain ⟨k, rfl⟩ := Int.eq_ofNat_of_zero_le (show 0 ≤ k by omega)
  obtain ⟨cs, _, _, r1⟩ := cells_run (E := E1) (h := h) (f := tc) ns m hl ⟨by omega, by omega⟩ f1
  obtain ⟨u0, u1, p0, p1, p2, r2⟩ := box_run (E := E2) (h := h) (f := tb) M C cs k W.m W.c (by omega)
  refine ⟨_, ⟨u0, u1, 0, rfl, p0, p1, p2, by decide, by decide⟩, ?_⟩
  simp only [appF, cnsF, varF, conF, nilF, Out.onV, Out.onL, hs, e1, e2, back]
  have r1' : runFn E1 ⟨2, 6, true, denB tCells⟩ tc [.g (.lst (ns.map .int)), .g (.int (Int.ofNat m))] h = .val (.g (.lst (cs.map .int))) h := r1
  have r2' : runFn E2 ⟨2, 3, false, denB (tBox M C)⟩ tb [.g (.lst (cs.map .int)), .g (.int (Int.ofNat k))] h = _ := r2
  first
    | (rw [r1']; dsimp only; rw [r2'])
    | (rw [r1]; dsimp only; rw [r2])
theorem Dr.tk (W : Dr E tc tb tt M C) {s : St} {h h2 : Hp} {fu : F} {a n : Nat} {U : List D} (hu : fu E s h = .val (.ref a) h2) (hU : h2[a]? = some (.lst U)) (un : Urn n U) (hn : n < 1000000) {b : Int} (hb : 0 < b ∧ b < 1073741824) :
    ∃ d U', 0 ≤ d ∧ d < b ∧ Urn (n + 1) U' ∧ appF tt (cnsF fu (cnsF (conF (.int b)) nilF)) E s h = .val (.g (.int d)) (h2.set a (.lst U')) := by
  obtain ⟨E3, e3⟩ := W.take
  obtain ⟨d, U', h1, h3, h4, h5⟩ := take_run (E := E3) (f := tt) hb hU un hn
  refine ⟨d, U', h1, h3, h4, ?_⟩
  simp only [appF, cnsF, conF, nilF, Out.onV, Out.onL, hu, e3, back, h5]
/-- .. below a number that is reckoned -/
theorem Dr.tkE (W : Dr E tc tb tt M C) {s : St} {h h2 : Hp} {fu fb : F} {a n : Nat} {U : List D} (hu : fu E s h = .val (.ref a) h2) {b : Int} (hv : fb E s h2 = .val (.g (.int b)) h2) (hU : h2[a]? = some (.lst U)) (un : Urn n U) (hn : n < 1000000) (hb : 0 < b ∧ b < 1073741824) :
    ∃ d U', 0 ≤ d ∧ d < b ∧ Urn (n + 1) U' ∧ appF tt (cnsF fu (cnsF fb nilF)) E s h = .val (.g (.int d)) (h2.set a (.lst U')) := by
  obtain ⟨E3, e3⟩ := W.take
  obtain ⟨d, U', h1, h3, h4, h5⟩ := take_run (E := E3) (f := tt) hb hU un hn
  refine ⟨d, U', h1, h3, h4, ?_⟩
  simp only [appF, cnsF, nilF, Out.onV, Out.onL, hu, hv, e3, back, h5]
end
/-- the law's own call -/
theorem callF_law {P : Prog} {r f ns : Nat} {b : F} (hr : Nat.beq (P.rank f) r = true) (hd : P.deep r = 1) (hf : P.fn f = some ⟨1, ns, true, b⟩) (x : G) :
    callF P (r + 1) f [.g x] [] = pureEnd f [] false (finish (b (envP P (fun j => match Nat.beq (P.rank j) r with | true => callS P r (callF P r) 0 j | false => callF P r j) (callF P r)) (mkSlots [.g x] ns) [])) := by
  rw [callF]
  simp only [hr, hd]
  rw [callS]
  simp only [hf]
  rfl
def okR : Out → Bool
  | .ret (.g (.bl b)) _ => b
  | _ => false
theorem okR_of {o : Out} (h : okR o = true) : ∃ h2, o = .ret (.g (.bl true)) h2 := by
  unfold okR at h
  split at h
  · subst h; exact ⟨_, rfl⟩
  · cases h
theorem law_end {P : Prog} {r f ns : Nat} {b : F} {E : Env} {x : G} (hr : Nat.beq (P.rank f) r = true) (hd : P.deep r = 1) (hf : P.fn f = some ⟨1, ns, true, b⟩) (hE : E = envP P (fun j => match Nat.beq (P.rank j) r with | true => callS P r (callF P r) 0 j | false => callF P r j) (callF P r))
    (h : okR (b E (mkSlots [.g x] ns) []) = true) : ∃ h2, callF P (r + 1) f [.g x] [] = .val (.g (.bl true)) h2 := by
  obtain ⟨h2, e⟩ := okR_of h
  subst hE
  rw [callF_law hr hd hf, e]
  exact ⟨[], rfl⟩
theorem seq_nxt {a b : F} {E : Env} {s s1 : St} {h h1 : Hp} (e : a E s h = .nxt s1 h1) : seqF a b E s h = b E s1 h1 := by unfold seqF; rw [e]; rfl
end Pv
set_option linter.all false
set_option maxRecDepth 100000
set_option maxHeartbeats 1000000
namespace Pv
/-! ### a pure function by its statements -/
theorem callF_any {P : Prog} {r f n : Nat} {fd : Fn} {ds : List D} {h : Hp} (hr : Nat.beq (P.rank f) r = true) (hd : P.deep r = n + 1) (hf : P.fn f = some fd) :
    callF P (r + 1) f ds h = runFn (envP P (fun j => match Nat.beq (P.rank j) r with | true => callS P r (callF P r) n j | false => callF P r j) (callF P r)) fd f ds h := by
  show (match Nat.beq (P.rank f) r with | true => callS P r (callF P r) (P.deep r) f ds h | false => callF P r f ds h) = _
  rw [hr, hd]
  show callS P r (callF P r) (n + 1) f ds h = _
  unfold callS
  rw [hf] <;> rfl
theorem run_pure {E : Env} {f np ns : Nat} {b : F} {ds : List D} {h h2 : Hp} {x : G} (hl : ds.length = np) (ha : argsG h ds = some (ds, false)) (e : b E (mkSlots ds ns) [] = .ret (.g x) h2) : runFn E ⟨np, ns, true, b⟩ f ds h = .val (.g x) h := by
  unfold runFn
  rw [if_pos (by simpa using hl), if_pos rfl, ha]
  show pureEnd f h false (finish (b E (mkSlots ds ns) [])) = _
  rw [e]
  rfl
theorem call_low {P : Prog} {r j n : Nat} {low : Nat → List D → Hp → Out} {ds : List D} {h : Hp} (hr : Nat.beq (P.rank j) r = false) :
    (envP P (fun j => match Nat.beq (P.rank j) r with | true => callS P r low n j | false => low j) low).call j ds h = low j ds h := by
  show (match Nat.beq (P.rank j) r with | true => callS P r low n j | false => low j) ds h = _
  rw [hr]
/-! ### a run put together of parts -/
section
variable {E : Env} {s : St} {h h1 h2 : Hp} {a b r x : F} {d e : D} {ds : List D}
theorem app_one {f i : Nat} (hs : s[i]? = some (some d)) (z : E.call f [d] h = .val e h1) : appF f (cnsF (varF i) nilF) E s h = .val e h1 := by
  have v : varF i E s h = .val d h := by unfold varF; rw [hs]
  have c : cnsF (varF i) nilF E s h = .vls [d] h := by unfold cnsF; rw [v]; rfl
  unfold appF
  rw [c]
  show back s (E.call f [d] h) = _
  rw [z]
  rfl
theorem ife_no {c : F} (z : c E s h = .val (.g (.bl false)) h1) : ifeF c a b E s h = b E s h1 := by unfold ifeF; rw [z]; rfl
theorem ret_of (z : x E s h = .val d h1) : retF x E s h = .ret d h1 := by unfold retF; rw [z]; rfl
theorem seq_ret (z : a E s h = .ret d h1) : seqF a b E s h = .ret d h1 := by unfold seqF; rw [z]; rfl
theorem cns_of (z : a E s h = .val d h1) (y : r E s h1 = .vls ds h2) : cnsF a r E s h = .vls (d :: ds) h2 := by
  unfold cnsF
  rw [z]
  show (r E s h1).onL _ = _
  rw [y]
  rfl
theorem lst_of (y : r E s h = .vls ds h1) (z : szOk ds.length = true) : lstF r E s h = .val (mkLst ds) h1 := by
  unfold lstF
  rw [y]
  show (if szOk ds.length then Out.val (mkLst ds) h1 else .bad 94) = _
  rw [if_pos z]
theorem bin_of {op : Op} {f : D} (z : a E s h = .val d h1) (y : b E s h1 = .val e h2) (w : binV op d e h2 = some f) : binF op a b E s h = .val f h2 := by
  unfold binF
  rw [z]
  show (b E s h1).onV _ = _
  rw [y]
  show ov h2 (binV op d e h2) 3 = _
  rw [w]
  rfl
theorem asg_of {i : Nat} (z : x E s h = .val d h1) : asgF (tnT i) x E s h = .nxt (s.set i (some d)) h1 := by
  unfold asgF
  rw [z]
  rfl
theorem var_of {i : Nat} (hs : s[i]? = some (some d)) : varF i E s h = .val d h := by unfold varF; rw [hs]
end
end Pv
set_option linter.all false
set_option maxRecDepth 100000
set_option maxHeartbeats 4000000
namespace Lk06
open Pv
/-- the world of the law's own text -/
def EL : Env := envP prog (fun j => match Nat.beq (prog.rank j) 10 with | true => callS prog 10 (callF prog 10) 0 j | false => callF prog 10 j) (callF prog 10)
def E0 : Env := envP prog (fun j => match Nat.beq (prog.rank j) 0 with | true => callS prog 0 (callF prog 0) 29 j | false => callF prog 0 j) (callF prog 0)
theorem dr : Dr EL 41 39 40 39373 91827361 := ⟨by decide, by decide, ⟨E0, by decide, by kernel_rfl⟩, ⟨E0, by kernel_rfl⟩, ⟨E0, by kernel_rfl⟩⟩
def slot0 (x : D) : St := [some x, some (.ref 0), none, none]
def slots (x : D) (b : Bool) (t : Int) : St := [some x, some (.ref 0), some (.g (.bl b)), some (.g (.int t))]
theorem rest_t0 (x : D) (U : List D) : okR (R48 EL (slots x true 0) [.lst U]) = true := by kernel_rfl
theorem rest_f0 (x : D) (U : List D) : okR (R48 EL (slots x false 0) [.lst U]) = true := by kernel_rfl
def E47 : Env := envP prog (fun j => match Nat.beq (prog.rank j) 9 with | true => callS prog 9 (callF prog 9) 0 j | false => callF prog 9 j) (callF prog 9)
def V47_0 : D := (.g (.lst [(.tup [(.int (0)), (.str 0), (.int (1))]), (.tup [(.int (0)), (.str 12255243), (.int (3))]), (.tup [(.int (0)), (.str 50), (.int (1))]), (.tup [(.int (0)), (.str 69144368990184931445), (.int (1))]), (.tup [(.int (0)), (.str 85825140215950838583452071821362), (.int (2))]), (.tup [(.int (0)), (.str 85825140215950838583452096331899), (.int (1))]), (.tup [(.int (0)), (.str 121), (.int (1))]), (.tup [(.int (0)), (.str 257802687641696072164351793993723687955791974), (.int (1))]), (.tup [(.int (0)), (.str 319996386215934962843938657287604970772411676057619071097), (.int (3))]), (.tup [(.int (0)), (.str 259933287844478502581950812095673446318538874), (.int (1))])]))
def V47_1 : D := (.g (.lst [(.tup [(.int (0)), (.str 0), (.int (1))]), (.tup [(.int (0)), (.str 12255243), (.int (3))]), (.tup [(.int (0)), (.str 50), (.int (1))]), (.tup [(.int (0)), (.str 69144368990184931445), (.int (1))]), (.tup [(.int (0)), (.str 85825140215950838583452071821362), (.int (2))]), (.tup [(.int (0)), (.str 85825140215950838583452096331899), (.int (1))]), (.tup [(.int (0)), (.str 121), (.int (1))]), (.tup [(.int (0)), (.str 257802687641696072164351793993723687955791974), (.int (1))]), (.tup [(.int (0)), (.str 319996386215934962843938657287604970772411676057619071097), (.int (3))]), (.tup [(.int (0)), (.str 259933287844478502581950812095673446318538874), (.int (1))]), (.tup [(.int (0)), (.str 207696767125651204647317968846970), (.int (1))]), (.tup [(.int (0)), (.str 108660696397387344109439912486271772842328185), (.int (1))]), (.tup [(.int (0)), (.str 106530096194634094216064971682508227524755577), (.int (1))]), (.tup [(.int (0)), (.str 118686458531521597370091188484679496057177504809081), (.int (2))]), (.tup [(.int (0)), (.str 95618839214194725293168955686550306937), (.int (1))]), (.tup [(.int (0)), (.str 90974645578332544191784457142393), (.int (1))]), (.tup [(.int (0)), (.str 84108638428490270047341309395065), (.int (1))]), (.tup [(.int (0)), (.str 93706472557272393663108175184717217913), (.int (1))])]))
def V47_2 : D := (.g (.lst [(.tup [(.int (0)), (.str 0), (.int (1))]), (.tup [(.int (0)), (.str 12255243), (.int (3))]), (.tup [(.int (0)), (.str 50), (.int (1))]), (.tup [(.int (0)), (.str 69144368990184931445), (.int (1))]), (.tup [(.int (0)), (.str 85825140215950838583452071821362), (.int (2))]), (.tup [(.int (0)), (.str 85825140215950838583452096331899), (.int (1))]), (.tup [(.int (0)), (.str 121), (.int (1))]), (.tup [(.int (0)), (.str 257802687641696072164351793993723687955791974), (.int (1))]), (.tup [(.int (0)), (.str 319996386215934962843938657287604970772411676057619071097), (.int (3))]), (.tup [(.int (0)), (.str 259933287844478502581950812095673446318538874), (.int (1))]), (.tup [(.int (0)), (.str 207696767125651204647317968846970), (.int (1))]), (.tup [(.int (0)), (.str 108660696397387344109439912486271772842328185), (.int (1))]), (.tup [(.int (0)), (.str 106530096194634094216064971682508227524755577), (.int (1))]), (.tup [(.int (0)), (.str 118686458531521597370091188484679496057177504809081), (.int (2))]), (.tup [(.int (0)), (.str 95618839214194725293168955686550306937), (.int (1))]), (.tup [(.int (0)), (.str 90974645578332544191784457142393), (.int (1))]), (.tup [(.int (0)), (.str 84108638428490270047341309395065), (.int (1))]), (.tup [(.int (0)), (.str 93706472557272393663108175184717217913), (.int (1))]), (.tup [(.int (0)), (.str 327048297080682706889442703539239169501142271049835589303074937), (.int (1))]), (.tup [(.int (0)), (.str 132229979202928915157010765474792731679990039377233707124), (.int (1))]), (.tup [(.int (0)), (.str 233309954293975850937214854308548706420), (.int (1))]), (.tup [(.int (0)), (.str 233309954293975850937214824518665568357), (.int (1))]), (.tup [(.int (0)), (.str 187412963996118373334971909535296782452), (.int (1))]), (.tup [(.int (0)), (.str 137778380669045), (.int (1))]), (.tup [(.int (0)), (.str 45678634), (.int (1))]), (.tup [(.int (0)), (.str 56698500415828131956), (.int (1))]), (.tup [(.int (0)), (.str 168712286997868445738), (.int (1))])]))
def V47_3 : D := (.g (.lst [(.tup [(.int (0)), (.str 0), (.int (1))]), (.tup [(.int (0)), (.str 12255243), (.int (3))]), (.tup [(.int (0)), (.str 50), (.int (1))]), (.tup [(.int (0)), (.str 69144368990184931445), (.int (1))]), (.tup [(.int (0)), (.str 85825140215950838583452071821362), (.int (2))]), (.tup [(.int (0)), (.str 85825140215950838583452096331899), (.int (1))]), (.tup [(.int (0)), (.str 121), (.int (1))]), (.tup [(.int (0)), (.str 257802687641696072164351793993723687955791974), (.int (1))]), (.tup [(.int (0)), (.str 319996386215934962843938657287604970772411676057619071097), (.int (3))]), (.tup [(.int (0)), (.str 259933287844478502581950812095673446318538874), (.int (1))]), (.tup [(.int (0)), (.str 207696767125651204647317968846970), (.int (1))]), (.tup [(.int (0)), (.str 108660696397387344109439912486271772842328185), (.int (1))]), (.tup [(.int (0)), (.str 106530096194634094216064971682508227524755577), (.int (1))]), (.tup [(.int (0)), (.str 118686458531521597370091188484679496057177504809081), (.int (2))]), (.tup [(.int (0)), (.str 95618839214194725293168955686550306937), (.int (1))]), (.tup [(.int (0)), (.str 90974645578332544191784457142393), (.int (1))]), (.tup [(.int (0)), (.str 84108638428490270047341309395065), (.int (1))]), (.tup [(.int (0)), (.str 93706472557272393663108175184717217913), (.int (1))]), (.tup [(.int (0)), (.str 327048297080682706889442703539239169501142271049835589303074937), (.int (1))]), (.tup [(.int (0)), (.str 132229979202928915157010765474792731679990039377233707124), (.int (1))]), (.tup [(.int (0)), (.str 233309954293975850937214854308548706420), (.int (1))]), (.tup [(.int (0)), (.str 233309954293975850937214824518665568357), (.int (1))]), (.tup [(.int (0)), (.str 187412963996118373334971909535296782452), (.int (1))]), (.tup [(.int (0)), (.str 137778380669045), (.int (1))]), (.tup [(.int (0)), (.str 45678634), (.int (1))]), (.tup [(.int (0)), (.str 56698500415828131956), (.int (1))]), (.tup [(.int (0)), (.str 168712286997868445738), (.int (1))]), (.tup [(.int (0)), (.str 78407594230057247031019753620422393898), (.int (2))]), (.tup [(.int (0)), (.str 258736479385834951124230252024905553688983796842612), (.int (1))]), (.tup [(.int (0)), (.str 321694670014352689989237112014432267341206596744337151941322369728633), (.int (1))]), (.tup [(.int (0)), (.str 247149837705592619287384758800179757557612660), (.int (1))]), (.tup [(.int (0)), (.str 306773635875438885103967649316115795050496470907844165748), (.int (1))]), (.tup [(.int (0)), (.str 199114379902915387230213685444729), (.int (1))]), (.tup [(.int (0)), (.str 242120433356781722119746883545151577231905882046475), (.int (3))]), (.tup [(.int (0)), (.str 244494152087489863597483349930185174744454639517812), (.int (1))])]))
def V47_4 : D := (.g (.lst [(.tup [(.int (0)), (.str 0), (.int (1))]), (.tup [(.int (0)), (.str 12255243), (.int (3))]), (.tup [(.int (0)), (.str 50), (.int (1))]), (.tup [(.int (0)), (.str 69144368990184931445), (.int (1))]), (.tup [(.int (0)), (.str 85825140215950838583452071821362), (.int (2))]), (.tup [(.int (0)), (.str 85825140215950838583452096331899), (.int (1))]), (.tup [(.int (0)), (.str 121), (.int (1))]), (.tup [(.int (0)), (.str 257802687641696072164351793993723687955791974), (.int (1))]), (.tup [(.int (0)), (.str 319996386215934962843938657287604970772411676057619071097), (.int (3))]), (.tup [(.int (0)), (.str 259933287844478502581950812095673446318538874), (.int (1))]), (.tup [(.int (0)), (.str 207696767125651204647317968846970), (.int (1))]), (.tup [(.int (0)), (.str 108660696397387344109439912486271772842328185), (.int (1))]), (.tup [(.int (0)), (.str 106530096194634094216064971682508227524755577), (.int (1))]), (.tup [(.int (0)), (.str 118686458531521597370091188484679496057177504809081), (.int (2))]), (.tup [(.int (0)), (.str 95618839214194725293168955686550306937), (.int (1))]), (.tup [(.int (0)), (.str 90974645578332544191784457142393), (.int (1))]), (.tup [(.int (0)), (.str 84108638428490270047341309395065), (.int (1))]), (.tup [(.int (0)), (.str 93706472557272393663108175184717217913), (.int (1))]), (.tup [(.int (0)), (.str 327048297080682706889442703539239169501142271049835589303074937), (.int (1))]), (.tup [(.int (0)), (.str 132229979202928915157010765474792731679990039377233707124), (.int (1))]), (.tup [(.int (0)), (.str 233309954293975850937214854308548706420), (.int (1))]), (.tup [(.int (0)), (.str 233309954293975850937214824518665568357), (.int (1))]), (.tup [(.int (0)), (.str 187412963996118373334971909535296782452), (.int (1))]), (.tup [(.int (0)), (.str 137778380669045), (.int (1))]), (.tup [(.int (0)), (.str 45678634), (.int (1))]), (.tup [(.int (0)), (.str 56698500415828131956), (.int (1))]), (.tup [(.int (0)), (.str 168712286997868445738), (.int (1))]), (.tup [(.int (0)), (.str 78407594230057247031019753620422393898), (.int (2))]), (.tup [(.int (0)), (.str 258736479385834951124230252024905553688983796842612), (.int (1))]), (.tup [(.int (0)), (.str 321694670014352689989237112014432267341206596744337151941322369728633), (.int (1))]), (.tup [(.int (0)), (.str 247149837705592619287384758800179757557612660), (.int (1))]), (.tup [(.int (0)), (.str 306773635875438885103967649316115795050496470907844165748), (.int (1))]), (.tup [(.int (0)), (.str 199114379902915387230213685444729), (.int (1))]), (.tup [(.int (0)), (.str 242120433356781722119746883545151577231905882046475), (.int (3))]), (.tup [(.int (0)), (.str 244494152087489863597483349930185174744454639517812), (.int (1))]), (.tup [(.int (0)), (.str 111712213008500), (.int (1))]), (.tup [(.int (0)), (.str 168712286997868445756), (.int (1))]), (.tup [(.int (0)), (.str 400476953577953095525603750482512696800626151133451874852936008204404), (.int (2))]), (.tup [(.int (0)), (.str 289594942198401623331252311247225266461147119616116), (.int (1))]), (.tup [(.int (0)), (.str 287221208553484413193098078116506567415276971819130), (.int (1))]), (.tup [(.int (0)), (.str 95618849513205450056580172351271927929), (.int (1))]), (.tup [(.int (0)), (.str 1179956640255506561221744251190875187282569653272752650934818592389603658355021858915124495575176268321421004365669627742033477696), (.int (4))])]))
def V47_5 : D := (.g (.lst [(.tup [(.int (0)), (.str 0), (.int (1))]), (.tup [(.int (0)), (.str 12255243), (.int (3))]), (.tup [(.int (0)), (.str 50), (.int (1))]), (.tup [(.int (0)), (.str 69144368990184931445), (.int (1))]), (.tup [(.int (0)), (.str 85825140215950838583452071821362), (.int (2))]), (.tup [(.int (0)), (.str 85825140215950838583452096331899), (.int (1))]), (.tup [(.int (0)), (.str 121), (.int (1))]), (.tup [(.int (0)), (.str 257802687641696072164351793993723687955791974), (.int (1))]), (.tup [(.int (0)), (.str 319996386215934962843938657287604970772411676057619071097), (.int (3))]), (.tup [(.int (0)), (.str 259933287844478502581950812095673446318538874), (.int (1))]), (.tup [(.int (0)), (.str 207696767125651204647317968846970), (.int (1))]), (.tup [(.int (0)), (.str 108660696397387344109439912486271772842328185), (.int (1))]), (.tup [(.int (0)), (.str 106530096194634094216064971682508227524755577), (.int (1))]), (.tup [(.int (0)), (.str 118686458531521597370091188484679496057177504809081), (.int (2))]), (.tup [(.int (0)), (.str 95618839214194725293168955686550306937), (.int (1))]), (.tup [(.int (0)), (.str 90974645578332544191784457142393), (.int (1))]), (.tup [(.int (0)), (.str 84108638428490270047341309395065), (.int (1))]), (.tup [(.int (0)), (.str 93706472557272393663108175184717217913), (.int (1))]), (.tup [(.int (0)), (.str 327048297080682706889442703539239169501142271049835589303074937), (.int (1))]), (.tup [(.int (0)), (.str 132229979202928915157010765474792731679990039377233707124), (.int (1))]), (.tup [(.int (0)), (.str 233309954293975850937214854308548706420), (.int (1))]), (.tup [(.int (0)), (.str 233309954293975850937214824518665568357), (.int (1))]), (.tup [(.int (0)), (.str 187412963996118373334971909535296782452), (.int (1))]), (.tup [(.int (0)), (.str 137778380669045), (.int (1))]), (.tup [(.int (0)), (.str 45678634), (.int (1))]), (.tup [(.int (0)), (.str 56698500415828131956), (.int (1))]), (.tup [(.int (0)), (.str 168712286997868445738), (.int (1))]), (.tup [(.int (0)), (.str 78407594230057247031019753620422393898), (.int (2))]), (.tup [(.int (0)), (.str 258736479385834951124230252024905553688983796842612), (.int (1))]), (.tup [(.int (0)), (.str 321694670014352689989237112014432267341206596744337151941322369728633), (.int (1))]), (.tup [(.int (0)), (.str 247149837705592619287384758800179757557612660), (.int (1))]), (.tup [(.int (0)), (.str 306773635875438885103967649316115795050496470907844165748), (.int (1))]), (.tup [(.int (0)), (.str 199114379902915387230213685444729), (.int (1))]), (.tup [(.int (0)), (.str 242120433356781722119746883545151577231905882046475), (.int (3))]), (.tup [(.int (0)), (.str 244494152087489863597483349930185174744454639517812), (.int (1))]), (.tup [(.int (0)), (.str 111712213008500), (.int (1))]), (.tup [(.int (0)), (.str 168712286997868445756), (.int (1))]), (.tup [(.int (0)), (.str 400476953577953095525603750482512696800626151133451874852936008204404), (.int (2))]), (.tup [(.int (0)), (.str 289594942198401623331252311247225266461147119616116), (.int (1))]), (.tup [(.int (0)), (.str 287221208553484413193098078116506567415276971819130), (.int (1))]), (.tup [(.int (0)), (.str 95618849513205450056580172351271927929), (.int (1))]), (.tup [(.int (0)), (.str 1179956640255506561221744251190875187282569653272752650934818592389603658355021858915124495575176268321421004365669627742033477696), (.int (4))]), (.tup [(.int (0)), (.str 289594942198401623331252428339799580928834526707751), (.int (2))]), (.tup [(.int (1)), (.str 0), (.int (1))]), (.tup [(.int (1)), (.str 85825140215950838583452096331897), (.int (1))]), (.tup [(.int (1)), (.str 319996438437934530820171051857930043549853694789619351674), (.int (1))]), (.tup [(.int (1)), (.str 306773635875438885103967649316112713669472910316923125876), (.int (1))]), (.tup [(.int (1)), (.str 157150596765217453102006394), (.int (1))]), (.tup [(.int (1)), (.str 167935401307080367825879155), (.int (1))]), (.tup [(.int (1)), (.str 118686432964506577186948947556930200899995219066931), (.int (1))]), (.tup [(.int (1)), (.str 62062314192947), (.int (1))])]))
def V47_6 : D := (.g (.lst [(.tup [(.int (0)), (.str 0), (.int (1))]), (.tup [(.int (0)), (.str 12255243), (.int (3))]), (.tup [(.int (0)), (.str 50), (.int (1))]), (.tup [(.int (0)), (.str 69144368990184931445), (.int (1))]), (.tup [(.int (0)), (.str 85825140215950838583452071821362), (.int (2))]), (.tup [(.int (0)), (.str 85825140215950838583452096331899), (.int (1))]), (.tup [(.int (0)), (.str 121), (.int (1))]), (.tup [(.int (0)), (.str 257802687641696072164351793993723687955791974), (.int (1))]), (.tup [(.int (0)), (.str 319996386215934962843938657287604970772411676057619071097), (.int (3))]), (.tup [(.int (0)), (.str 259933287844478502581950812095673446318538874), (.int (1))]), (.tup [(.int (0)), (.str 207696767125651204647317968846970), (.int (1))]), (.tup [(.int (0)), (.str 108660696397387344109439912486271772842328185), (.int (1))]), (.tup [(.int (0)), (.str 106530096194634094216064971682508227524755577), (.int (1))]), (.tup [(.int (0)), (.str 118686458531521597370091188484679496057177504809081), (.int (2))]), (.tup [(.int (0)), (.str 95618839214194725293168955686550306937), (.int (1))]), (.tup [(.int (0)), (.str 90974645578332544191784457142393), (.int (1))]), (.tup [(.int (0)), (.str 84108638428490270047341309395065), (.int (1))]), (.tup [(.int (0)), (.str 93706472557272393663108175184717217913), (.int (1))]), (.tup [(.int (0)), (.str 327048297080682706889442703539239169501142271049835589303074937), (.int (1))]), (.tup [(.int (0)), (.str 132229979202928915157010765474792731679990039377233707124), (.int (1))]), (.tup [(.int (0)), (.str 233309954293975850937214854308548706420), (.int (1))]), (.tup [(.int (0)), (.str 233309954293975850937214824518665568357), (.int (1))]), (.tup [(.int (0)), (.str 187412963996118373334971909535296782452), (.int (1))]), (.tup [(.int (0)), (.str 137778380669045), (.int (1))]), (.tup [(.int (0)), (.str 45678634), (.int (1))]), (.tup [(.int (0)), (.str 56698500415828131956), (.int (1))]), (.tup [(.int (0)), (.str 168712286997868445738), (.int (1))]), (.tup [(.int (0)), (.str 78407594230057247031019753620422393898), (.int (2))]), (.tup [(.int (0)), (.str 258736479385834951124230252024905553688983796842612), (.int (1))]), (.tup [(.int (0)), (.str 321694670014352689989237112014432267341206596744337151941322369728633), (.int (1))]), (.tup [(.int (0)), (.str 247149837705592619287384758800179757557612660), (.int (1))]), (.tup [(.int (0)), (.str 306773635875438885103967649316115795050496470907844165748), (.int (1))]), (.tup [(.int (0)), (.str 199114379902915387230213685444729), (.int (1))]), (.tup [(.int (0)), (.str 242120433356781722119746883545151577231905882046475), (.int (3))]), (.tup [(.int (0)), (.str 244494152087489863597483349930185174744454639517812), (.int (1))]), (.tup [(.int (0)), (.str 111712213008500), (.int (1))]), (.tup [(.int (0)), (.str 168712286997868445756), (.int (1))]), (.tup [(.int (0)), (.str 400476953577953095525603750482512696800626151133451874852936008204404), (.int (2))]), (.tup [(.int (0)), (.str 289594942198401623331252311247225266461147119616116), (.int (1))]), (.tup [(.int (0)), (.str 287221208553484413193098078116506567415276971819130), (.int (1))]), (.tup [(.int (0)), (.str 95618849513205450056580172351271927929), (.int (1))]), (.tup [(.int (0)), (.str 1179956640255506561221744251190875187282569653272752650934818592389603658355021858915124495575176268321421004365669627742033477696), (.int (4))]), (.tup [(.int (0)), (.str 289594942198401623331252428339799580928834526707751), (.int (2))]), (.tup [(.int (1)), (.str 0), (.int (1))]), (.tup [(.int (1)), (.str 85825140215950838583452096331897), (.int (1))]), (.tup [(.int (1)), (.str 319996438437934530820171051857930043549853694789619351674), (.int (1))]), (.tup [(.int (1)), (.str 306773635875438885103967649316112713669472910316923125876), (.int (1))]), (.tup [(.int (1)), (.str 157150596765217453102006394), (.int (1))]), (.tup [(.int (1)), (.str 167935401307080367825879155), (.int (1))]), (.tup [(.int (1)), (.str 118686432964506577186948947556930200899995219066931), (.int (1))]), (.tup [(.int (1)), (.str 62062314192947), (.int (1))]), (.tup [(.int (1)), (.str 64544818659379), (.int (1))]), (.tup [(.int (1)), (.str 263483963720405972908707529421490506769071532343398), (.int (1))]), (.tup [(.int (1)), (.str 196974847059298815545258088026241826866), (.int (1))]), (.tup [(.int (1)), (.str 212273843825251307941050281987424780405), (.int (3))]), (.tup [(.int (1)), (.str 55705645), (.int (1))]), (.tup [(.int (1)), (.str 98), (.int (1))]), (.tup [(.int (2)), (.str 50), (.int (1))]), (.tup [(.int (2)), (.str 158691281745463918695743605), (.int (1))]), (.tup [(.int (2)), (.str 152528496189256312053039115), (.int (2))])]))
def V47_7 : D := (.g (.lst [(.tup [(.int (0)), (.str 0), (.int (1))]), (.tup [(.int (0)), (.str 12255243), (.int (3))]), (.tup [(.int (0)), (.str 50), (.int (1))]), (.tup [(.int (0)), (.str 69144368990184931445), (.int (1))]), (.tup [(.int (0)), (.str 85825140215950838583452071821362), (.int (2))]), (.tup [(.int (0)), (.str 85825140215950838583452096331899), (.int (1))]), (.tup [(.int (0)), (.str 121), (.int (1))]), (.tup [(.int (0)), (.str 257802687641696072164351793993723687955791974), (.int (1))]), (.tup [(.int (0)), (.str 319996386215934962843938657287604970772411676057619071097), (.int (3))]), (.tup [(.int (0)), (.str 259933287844478502581950812095673446318538874), (.int (1))]), (.tup [(.int (0)), (.str 207696767125651204647317968846970), (.int (1))]), (.tup [(.int (0)), (.str 108660696397387344109439912486271772842328185), (.int (1))]), (.tup [(.int (0)), (.str 106530096194634094216064971682508227524755577), (.int (1))]), (.tup [(.int (0)), (.str 118686458531521597370091188484679496057177504809081), (.int (2))]), (.tup [(.int (0)), (.str 95618839214194725293168955686550306937), (.int (1))]), (.tup [(.int (0)), (.str 90974645578332544191784457142393), (.int (1))]), (.tup [(.int (0)), (.str 84108638428490270047341309395065), (.int (1))]), (.tup [(.int (0)), (.str 93706472557272393663108175184717217913), (.int (1))]), (.tup [(.int (0)), (.str 327048297080682706889442703539239169501142271049835589303074937), (.int (1))]), (.tup [(.int (0)), (.str 132229979202928915157010765474792731679990039377233707124), (.int (1))]), (.tup [(.int (0)), (.str 233309954293975850937214854308548706420), (.int (1))]), (.tup [(.int (0)), (.str 233309954293975850937214824518665568357), (.int (1))]), (.tup [(.int (0)), (.str 187412963996118373334971909535296782452), (.int (1))]), (.tup [(.int (0)), (.str 137778380669045), (.int (1))]), (.tup [(.int (0)), (.str 45678634), (.int (1))]), (.tup [(.int (0)), (.str 56698500415828131956), (.int (1))]), (.tup [(.int (0)), (.str 168712286997868445738), (.int (1))]), (.tup [(.int (0)), (.str 78407594230057247031019753620422393898), (.int (2))]), (.tup [(.int (0)), (.str 258736479385834951124230252024905553688983796842612), (.int (1))]), (.tup [(.int (0)), (.str 321694670014352689989237112014432267341206596744337151941322369728633), (.int (1))]), (.tup [(.int (0)), (.str 247149837705592619287384758800179757557612660), (.int (1))]), (.tup [(.int (0)), (.str 306773635875438885103967649316115795050496470907844165748), (.int (1))]), (.tup [(.int (0)), (.str 199114379902915387230213685444729), (.int (1))]), (.tup [(.int (0)), (.str 242120433356781722119746883545151577231905882046475), (.int (3))]), (.tup [(.int (0)), (.str 244494152087489863597483349930185174744454639517812), (.int (1))]), (.tup [(.int (0)), (.str 111712213008500), (.int (1))]), (.tup [(.int (0)), (.str 168712286997868445756), (.int (1))]), (.tup [(.int (0)), (.str 400476953577953095525603750482512696800626151133451874852936008204404), (.int (2))]), (.tup [(.int (0)), (.str 289594942198401623331252311247225266461147119616116), (.int (1))]), (.tup [(.int (0)), (.str 287221208553484413193098078116506567415276971819130), (.int (1))]), (.tup [(.int (0)), (.str 95618849513205450056580172351271927929), (.int (1))]), (.tup [(.int (0)), (.str 1179956640255506561221744251190875187282569653272752650934818592389603658355021858915124495575176268321421004365669627742033477696), (.int (4))]), (.tup [(.int (0)), (.str 289594942198401623331252428339799580928834526707751), (.int (2))]), (.tup [(.int (1)), (.str 0), (.int (1))]), (.tup [(.int (1)), (.str 85825140215950838583452096331897), (.int (1))]), (.tup [(.int (1)), (.str 319996438437934530820171051857930043549853694789619351674), (.int (1))]), (.tup [(.int (1)), (.str 306773635875438885103967649316112713669472910316923125876), (.int (1))]), (.tup [(.int (1)), (.str 157150596765217453102006394), (.int (1))]), (.tup [(.int (1)), (.str 167935401307080367825879155), (.int (1))]), (.tup [(.int (1)), (.str 118686432964506577186948947556930200899995219066931), (.int (1))]), (.tup [(.int (1)), (.str 62062314192947), (.int (1))]), (.tup [(.int (1)), (.str 64544818659379), (.int (1))]), (.tup [(.int (1)), (.str 263483963720405972908707529421490506769071532343398), (.int (1))]), (.tup [(.int (1)), (.str 196974847059298815545258088026241826866), (.int (1))]), (.tup [(.int (1)), (.str 212273843825251307941050281987424780405), (.int (3))]), (.tup [(.int (1)), (.str 55705645), (.int (1))]), (.tup [(.int (1)), (.str 98), (.int (1))]), (.tup [(.int (2)), (.str 50), (.int (1))]), (.tup [(.int (2)), (.str 158691281745463918695743605), (.int (1))]), (.tup [(.int (2)), (.str 152528496189256312053039115), (.int (2))]), (.tup [(.int (2)), (.str 338107677062058528811166288074112356974172603332315738535856014688306), (.int (1))]), (.tup [(.int (2)), (.str 338107677062058528811166288074112356890063915601863231648249560694892), (.int (1))]), (.tup [(.int (2)), (.str 338107677062058528811166288074070284634796427685337972642045681008761), (.int (2))]), (.tup [(.int (2)), (.str 324977244906477802181177601767772253784959676001582465938751244533812), (.int (1))]), (.tup [(.int (2)), (.str 208449069315363745753126660427066966066), (.int (1))]), (.tup [(.int (2)), (.str 0), (.int (1))])]))
def V47_8 : D := (.g (.lst [(.tup [(.int (3)), (.tup [(.str 187098851983795969899026387959923), (.tup [(.int (1))])])]), (.tup [(.int (3)), (.tup [(.str 187098851983795969899026387959923), (.str 121), (.tup [(.int (4))])])]), (.tup [(.int (3)), (.tup [(.str 187098851983795969899026387959923), (.str 121), (.tup [(.int (2)), (.int (1))])])]), (.tup [(.int (3)), (.tup [(.str 160414962669402849382), (.str 121), (.str 121)])]), (.tup [(.int (3)), (.tup [(.str 167935401307080367825879155), (.tup [(.str 151432070561908)])])]), (.tup [(.int (3)), .non]), (.tup [(.int (3)), (.str 151432070561908)])]))
def V47_9 : D := (.g (.lst [(.tup [(.int (3)), (.tup [(.str 187098851983795969899026387959923), (.tup [(.int (1))])])]), (.tup [(.int (3)), (.tup [(.str 187098851983795969899026387959923), (.str 121), (.tup [(.int (4))])])]), (.tup [(.int (3)), (.tup [(.str 187098851983795969899026387959923), (.str 121), (.tup [(.int (2)), (.int (1))])])]), (.tup [(.int (3)), (.tup [(.str 160414962669402849382), (.str 121), (.str 121)])]), (.tup [(.int (3)), (.tup [(.str 167935401307080367825879155), (.tup [(.str 151432070561908)])])]), (.tup [(.int (3)), .non]), (.tup [(.int (3)), (.str 151432070561908)]), (.tup [(.int (4)), (.tup [(.str 187098851983795969899026387959923), (.str 121), (.tup [(.int (1))])])]), (.tup [(.int (4)), (.tup [(.str 169933834109170924119864192991334), (.str 121), (.str 122)])]), (.tup [(.int (4)), (.tup [(.str 151432070561908), (.int (1))])]), (.tup [(.int (4)), (.tup [(.str 121642187423845), (.tup [(.str 151432070561908)])])]), (.tup [(.int (5)), (.tup [(.str 151432070561908)])]), (.tup [(.int (5)), (.tup [(.str 158691281745463918695743605), (.tup [(.str 187098851983795969899026387959923), (.tup [(.int (4))])])])]), (.tup [(.int (5)), (.tup [(.str 150734756745353363573), (.tup [(.str 151432070561908)])])])]))
def V47_10 : D := (.g (.lst [(.tup [(.int (3)), (.tup [(.str 187098851983795969899026387959923), (.tup [(.int (1))])])]), (.tup [(.int (3)), (.tup [(.str 187098851983795969899026387959923), (.str 121), (.tup [(.int (4))])])]), (.tup [(.int (3)), (.tup [(.str 187098851983795969899026387959923), (.str 121), (.tup [(.int (2)), (.int (1))])])]), (.tup [(.int (3)), (.tup [(.str 160414962669402849382), (.str 121), (.str 121)])]), (.tup [(.int (3)), (.tup [(.str 167935401307080367825879155), (.tup [(.str 151432070561908)])])]), (.tup [(.int (3)), .non]), (.tup [(.int (3)), (.str 151432070561908)]), (.tup [(.int (4)), (.tup [(.str 187098851983795969899026387959923), (.str 121), (.tup [(.int (1))])])]), (.tup [(.int (4)), (.tup [(.str 169933834109170924119864192991334), (.str 121), (.str 122)])]), (.tup [(.int (4)), (.tup [(.str 151432070561908), (.int (1))])]), (.tup [(.int (4)), (.tup [(.str 121642187423845), (.tup [(.str 151432070561908)])])]), (.tup [(.int (5)), (.tup [(.str 151432070561908)])]), (.tup [(.int (5)), (.tup [(.str 158691281745463918695743605), (.tup [(.str 187098851983795969899026387959923), (.tup [(.int (4))])])])]), (.tup [(.int (5)), (.tup [(.str 150734756745353363573), (.tup [(.str 151432070561908)])])]), (.tup [(.int (5)), (.tup [(.str 158691281745463918695743605)])])]))
def V47_11 : D := (.g (.str 9323230704177873496931489687997880360654757242171906573312464993430360329252794860053035096543214327716786353208818093977115261131723034445350982931852707199789399560293614565940361236103875526205627105269644793135478705625418642573952423623363924785639446678099728606478417013276062024100966881932376121090442528389258752847149619455366004329343997697416267674063407170411757072740431826465670926220595226045840112511738500171458471690879242894990367079553832150092356975387647321723345799969284575009130974285234106460073032049520523304302583672377126941136832748365737753211874085514478852055328055157089862147629771023358000260838832126753214982874625772646692445504327751911144467908881028330496544801029313627715231486873370582829104509377599366173278320416345581146102413629327825373796884014394436699215788790996975527216035524264736967870008186268353006146659301603356531513017809897078981349289475354432463917125408744152160659090717450733234097205804500186898840431914357619123358967981107776536791851131776141218828844293070493405955950446938343004832613452243953171488879210521406906414965146168537589155311528894216785065125305633907205614736262670514852314740021113331158605076664408036231977850932859399084087333438187774127870078677360200058111509223446398252459731693314640859494158405863598861771286266543270833486703873989496460871467656645116164541970592003031234930933632782782774010255406587639463116983318972581319445059928218645170179670058))
def V47_12 : D := (.g (.lst [(.tup [(.lst [(.str 128129309259225799499483723691507384437), (.bl true), (.int (1))]), .non]), (.tup [(.lst [(.str 128129309259225799499483723691507384437), (.bl true), (.int (3))]), .non]), (.tup [(.lst [(.str 128129309259225799499483723691507384437), (.bl true), (.int (1))]), .non]), (.tup [(.lst [(.str 128129309259225799499483723691507384437), (.bl true), (.int (1))]), .non]), (.tup [(.lst [(.str 128129309259225799499483723691507384437), (.bl true), (.int (2))]), .non]), (.tup [(.lst [(.str 128129309259225799499483723691507384437), (.bl true), (.int (1))]), .non]), (.tup [(.lst [(.str 128129309259225799499483723691507384437), (.bl true), (.int (1))]), .non]), (.tup [(.lst [(.str 128129309259225799499483723691507384437), (.bl true), (.int (1))]), .non]), (.tup [(.lst [(.str 128129309259225799499483723691507384437), (.bl true), (.int (3))]), .non]), (.tup [(.lst [(.str 128129309259225799499483723691507384437), (.bl true), (.int (1))]), .non]), (.tup [(.lst [(.str 128129309259225799499483723691507384437), (.bl true), (.int (1))]), .non]), (.tup [(.lst [(.str 128129309259225799499483723691507384437), (.bl true), (.int (1))]), .non]), (.tup [(.lst [(.str 128129309259225799499483723691507384437), (.bl true), (.int (1))]), .non]), (.tup [(.lst [(.str 128129309259225799499483723691507384437), (.bl true), (.int (2))]), .non]), (.tup [(.lst [(.str 128129309259225799499483723691507384437), (.bl true), (.int (1))]), .non]), (.tup [(.lst [(.str 128129309259225799499483723691507384437), (.bl true), (.int (1))]), .non]), (.tup [(.lst [(.str 128129309259225799499483723691507384437), (.bl true), (.int (1))]), .non]), (.tup [(.lst [(.str 128129309259225799499483723691507384437), (.bl true), (.int (1))]), .non]), (.tup [(.lst [(.str 128129309259225799499483723691507384437), (.bl true), (.int (1))]), .non]), (.tup [(.lst [(.str 128129309259225799499483723691507384437), (.bl true), (.int (1))]), .non]), (.tup [(.lst [(.str 128129309259225799499483723691507384437), (.bl true), (.int (1))]), .non]), (.tup [(.lst [(.str 128129309259225799499483723691507384437), (.bl true), (.int (1))]), .non]), (.tup [(.lst [(.str 128129309259225799499483723691507384437), (.bl true), (.int (1))]), .non]), (.tup [(.lst [(.str 128129309259225799499483723691507384437), (.bl true), (.int (1))]), .non]), (.tup [(.lst [(.str 128129309259225799499483723691507384437), (.bl true), (.int (1))]), .non]), (.tup [(.lst [(.str 128129309259225799499483723691507384437), (.bl true), (.int (1))]), .non]), (.tup [(.lst [(.str 128129309259225799499483723691507384437), (.bl true), (.int (1))]), .non]), (.tup [(.lst [(.str 128129309259225799499483723691507384437), (.bl true), (.int (2))]), .non]), (.tup [(.lst [(.str 128129309259225799499483723691507384437), (.bl true), (.int (1))]), .non]), (.tup [(.lst [(.str 128129309259225799499483723691507384437), (.bl true), (.int (1))]), .non]), (.tup [(.lst [(.str 128129309259225799499483723691507384437), (.bl true), (.int (1))]), .non]), (.tup [(.lst [(.str 128129309259225799499483723691507384437), (.bl true), (.int (1))]), .non]), (.tup [(.lst [(.str 128129309259225799499483723691507384437), (.bl true), (.int (1))]), .non]), (.tup [(.lst [(.str 128129309259225799499483723691507384437), (.bl true), (.int (3))]), .non]), (.tup [(.lst [(.str 128129309259225799499483723691507384437), (.bl true), (.int (1))]), .non]), (.tup [(.lst [(.str 128129309259225799499483723691507384437), (.bl true), (.int (1))]), .non]), (.tup [(.lst [(.str 128129309259225799499483723691507384437), (.bl true), (.int (1))]), .non]), (.tup [(.lst [(.str 128129309259225799499483723691507384437), (.bl true), (.int (2))]), .non]), (.tup [(.lst [(.str 128129309259225799499483723691507384437), (.bl true), (.int (1))]), .non]), (.tup [(.lst [(.str 128129309259225799499483723691507384437), (.bl true), (.int (1))]), .non]), (.tup [(.lst [(.str 128129309259225799499483723691507384437), (.bl true), (.int (1))]), .non]), (.tup [(.lst [(.str 128129309259225799499483723691507384437), (.bl true), (.int (4))]), .non]), (.tup [(.lst [(.str 128129309259225799499483723691507384437), (.bl true), (.int (2))]), .non]), (.tup [(.lst [(.str 128129309259225799499483723691507384437), (.bl true), (.int (1))]), .non]), (.tup [(.lst [(.str 128129309259225799499483723691507384437), (.bl true), (.int (1))]), .non]), (.tup [(.lst [(.str 128129309259225799499483723691507384437), (.bl true), (.int (1))]), .non]), (.tup [(.lst [(.str 128129309259225799499483723691507384437), (.bl true), (.int (1))]), .non]), (.tup [(.lst [(.str 128129309259225799499483723691507384437), (.bl true), (.int (1))]), .non]), (.tup [(.lst [(.str 128129309259225799499483723691507384437), (.bl true), (.int (1))]), .non]), (.tup [(.lst [(.str 128129309259225799499483723691507384437), (.bl true), (.int (1))]), .non]), (.tup [(.lst [(.str 128129309259225799499483723691507384437), (.bl true), (.int (1))]), .non]), (.tup [(.lst [(.str 128129309259225799499483723691507384437), (.bl true), (.int (1))]), .non]), (.tup [(.lst [(.str 128129309259225799499483723691507384437), (.bl true), (.int (1))]), .non]), (.tup [(.lst [(.str 128129309259225799499483723691507384437), (.bl true), (.int (1))]), .non]), (.tup [(.lst [(.str 128129309259225799499483723691507384437), (.bl true), (.int (3))]), .non]), (.tup [(.lst [(.str 128129309259225799499483723691507384437), (.bl true), (.int (1))]), .non]), (.tup [(.lst [(.str 128129309259225799499483723691507384437), (.bl true), (.int (1))]), .non]), (.tup [(.lst [(.str 128129309259225799499483723691507384437), (.bl true), (.int (1))]), .non]), (.tup [(.lst [(.str 128129309259225799499483723691507384437), (.bl true), (.int (1))]), .non]), (.tup [(.lst [(.str 128129309259225799499483723691507384437), (.bl true), (.int (2))]), .non]), (.tup [(.lst [(.str 128129309259225799499483723691507384437), (.bl true), (.int (1))]), .non]), (.tup [(.lst [(.str 128129309259225799499483723691507384437), (.bl true), (.int (1))]), .non]), (.tup [(.lst [(.str 128129309259225799499483723691507384437), (.bl true), (.int (2))]), .non]), (.tup [(.lst [(.str 128129309259225799499483723691507384437), (.bl true), (.int (1))]), .non]), (.tup [(.lst [(.str 128129309259225799499483723691507384437), (.bl true), (.int (1))]), .non]), (.tup [(.lst [(.str 128129309259225799499483723691507384437), (.bl true), (.int (1))]), .non]), (.tup [(.lst [(.str 132499537513641482333585525), (.bl true)]), .non]), (.tup [(.lst [(.str 132499537513641482333585525), (.bl true)]), .non]), (.tup [(.lst [(.str 132499537513641482333585525), (.bl true)]), .non]), (.tup [(.lst [(.str 132499537513641482333585525), (.bl true)]), .non]), (.tup [(.lst [(.str 132499537513641482333585525), (.bl true)]), .non]), (.tup [(.lst [(.str 132499537513641482333585525), (.bl true)]), .non]), (.tup [(.lst [(.str 132499537513641482333585525), (.bl true)]), .non]), (.tup [(.lst [(.str 132499537513641482333585525), (.bl true)]), .non]), (.tup [(.lst [(.str 132499537513641482333585525), (.bl true)]), .non]), (.tup [(.lst [(.str 132499537513641482333585525), (.bl true)]), .non]), (.tup [(.lst [(.str 132499537513641482333585525), (.bl true)]), .non]), (.tup [(.lst [(.str 132499537513641482333585525), (.bl true)]), .non]), (.tup [(.lst [(.str 132499537513641482333585525), (.bl true)]), .non]), (.tup [(.lst [(.str 132499537513641482333585525), (.bl true)]), .non]), (.tup [(.lst [(.str 132499537513641482333585525), (.bl true)]), .non])]))
def V47_13 : D := (.g (.lst [(.tup [(.lst [(.str 128129309259225799499483723691507384437), (.bl true), (.int (1))]), .non]), (.tup [(.lst [(.str 128129309259225799499483723691507384437), (.bl true), (.int (3))]), .non]), (.tup [(.lst [(.str 128129309259225799499483723691507384437), (.bl true), (.int (1))]), .non]), (.tup [(.lst [(.str 128129309259225799499483723691507384437), (.bl true), (.int (1))]), .non]), (.tup [(.lst [(.str 128129309259225799499483723691507384437), (.bl true), (.int (2))]), .non]), (.tup [(.lst [(.str 128129309259225799499483723691507384437), (.bl true), (.int (1))]), .non]), (.tup [(.lst [(.str 128129309259225799499483723691507384437), (.bl true), (.int (1))]), .non]), (.tup [(.lst [(.str 128129309259225799499483723691507384437), (.bl true), (.int (1))]), .non]), (.tup [(.lst [(.str 128129309259225799499483723691507384437), (.bl true), (.int (3))]), .non]), (.tup [(.lst [(.str 128129309259225799499483723691507384437), (.bl true), (.int (1))]), .non]), (.tup [(.lst [(.str 128129309259225799499483723691507384437), (.bl true), (.int (1))]), .non]), (.tup [(.lst [(.str 128129309259225799499483723691507384437), (.bl true), (.int (1))]), .non]), (.tup [(.lst [(.str 128129309259225799499483723691507384437), (.bl true), (.int (1))]), .non]), (.tup [(.lst [(.str 128129309259225799499483723691507384437), (.bl true), (.int (2))]), .non]), (.tup [(.lst [(.str 128129309259225799499483723691507384437), (.bl true), (.int (1))]), .non]), (.tup [(.lst [(.str 128129309259225799499483723691507384437), (.bl true), (.int (1))]), .non]), (.tup [(.lst [(.str 128129309259225799499483723691507384437), (.bl true), (.int (1))]), .non]), (.tup [(.lst [(.str 128129309259225799499483723691507384437), (.bl true), (.int (1))]), .non]), (.tup [(.lst [(.str 128129309259225799499483723691507384437), (.bl true), (.int (1))]), .non]), (.tup [(.lst [(.str 128129309259225799499483723691507384437), (.bl true), (.int (1))]), .non]), (.tup [(.lst [(.str 128129309259225799499483723691507384437), (.bl true), (.int (1))]), .non]), (.tup [(.lst [(.str 128129309259225799499483723691507384437), (.bl true), (.int (1))]), .non]), (.tup [(.lst [(.str 128129309259225799499483723691507384437), (.bl true), (.int (1))]), .non]), (.tup [(.lst [(.str 128129309259225799499483723691507384437), (.bl true), (.int (1))]), .non]), (.tup [(.lst [(.str 128129309259225799499483723691507384437), (.bl true), (.int (1))]), .non]), (.tup [(.lst [(.str 128129309259225799499483723691507384437), (.bl true), (.int (1))]), .non]), (.tup [(.lst [(.str 128129309259225799499483723691507384437), (.bl true), (.int (1))]), .non]), (.tup [(.lst [(.str 128129309259225799499483723691507384437), (.bl true), (.int (2))]), .non]), (.tup [(.lst [(.str 128129309259225799499483723691507384437), (.bl true), (.int (1))]), .non]), (.tup [(.lst [(.str 128129309259225799499483723691507384437), (.bl true), (.int (1))]), .non]), (.tup [(.lst [(.str 128129309259225799499483723691507384437), (.bl true), (.int (1))]), .non]), (.tup [(.lst [(.str 128129309259225799499483723691507384437), (.bl true), (.int (1))]), .non]), (.tup [(.lst [(.str 128129309259225799499483723691507384437), (.bl true), (.int (1))]), .non]), (.tup [(.lst [(.str 128129309259225799499483723691507384437), (.bl true), (.int (3))]), .non]), (.tup [(.lst [(.str 128129309259225799499483723691507384437), (.bl true), (.int (1))]), .non]), (.tup [(.lst [(.str 128129309259225799499483723691507384437), (.bl true), (.int (1))]), .non]), (.tup [(.lst [(.str 128129309259225799499483723691507384437), (.bl true), (.int (1))]), .non]), (.tup [(.lst [(.str 128129309259225799499483723691507384437), (.bl true), (.int (2))]), .non]), (.tup [(.lst [(.str 128129309259225799499483723691507384437), (.bl true), (.int (1))]), .non]), (.tup [(.lst [(.str 128129309259225799499483723691507384437), (.bl true), (.int (1))]), .non]), (.tup [(.lst [(.str 128129309259225799499483723691507384437), (.bl true), (.int (1))]), .non]), (.tup [(.lst [(.str 128129309259225799499483723691507384437), (.bl true), (.int (4))]), .non]), (.tup [(.lst [(.str 128129309259225799499483723691507384437), (.bl true), (.int (2))]), .non]), (.tup [(.lst [(.str 128129309259225799499483723691507384437), (.bl true), (.int (1))]), .non]), (.tup [(.lst [(.str 128129309259225799499483723691507384437), (.bl true), (.int (1))]), .non]), (.tup [(.lst [(.str 128129309259225799499483723691507384437), (.bl true), (.int (1))]), .non]), (.tup [(.lst [(.str 128129309259225799499483723691507384437), (.bl true), (.int (1))]), .non]), (.tup [(.lst [(.str 128129309259225799499483723691507384437), (.bl true), (.int (1))]), .non]), (.tup [(.lst [(.str 128129309259225799499483723691507384437), (.bl true), (.int (1))]), .non]), (.tup [(.lst [(.str 128129309259225799499483723691507384437), (.bl true), (.int (1))]), .non]), (.tup [(.lst [(.str 128129309259225799499483723691507384437), (.bl true), (.int (1))]), .non]), (.tup [(.lst [(.str 128129309259225799499483723691507384437), (.bl true), (.int (1))]), .non]), (.tup [(.lst [(.str 128129309259225799499483723691507384437), (.bl true), (.int (1))]), .non]), (.tup [(.lst [(.str 128129309259225799499483723691507384437), (.bl true), (.int (1))]), .non]), (.tup [(.lst [(.str 128129309259225799499483723691507384437), (.bl true), (.int (3))]), .non]), (.tup [(.lst [(.str 128129309259225799499483723691507384437), (.bl true), (.int (1))]), .non]), (.tup [(.lst [(.str 128129309259225799499483723691507384437), (.bl true), (.int (1))]), .non]), (.tup [(.lst [(.str 128129309259225799499483723691507384437), (.bl true), (.int (1))]), .non]), (.tup [(.lst [(.str 128129309259225799499483723691507384437), (.bl true), (.int (1))]), .non]), (.tup [(.lst [(.str 128129309259225799499483723691507384437), (.bl true), (.int (2))]), .non]), (.tup [(.lst [(.str 128129309259225799499483723691507384437), (.bl true), (.int (1))]), .non]), (.tup [(.lst [(.str 128129309259225799499483723691507384437), (.bl true), (.int (1))]), .non]), (.tup [(.lst [(.str 128129309259225799499483723691507384437), (.bl true), (.int (2))]), .non]), (.tup [(.lst [(.str 128129309259225799499483723691507384437), (.bl true), (.int (1))]), .non]), (.tup [(.lst [(.str 128129309259225799499483723691507384437), (.bl true), (.int (1))]), .non]), (.tup [(.lst [(.str 128129309259225799499483723691507384437), (.bl true), (.int (1))]), .non]), (.tup [(.lst [(.str 132499537513641482333585525), (.bl true)]), .non]), (.tup [(.lst [(.str 132499537513641482333585525), (.bl true)]), .non]), (.tup [(.lst [(.str 132499537513641482333585525), (.bl true)]), .non]), (.tup [(.lst [(.str 132499537513641482333585525), (.bl true)]), .non]), (.tup [(.lst [(.str 132499537513641482333585525), (.bl true)]), .non]), (.tup [(.lst [(.str 132499537513641482333585525), (.bl true)]), .non]), (.tup [(.lst [(.str 132499537513641482333585525), (.bl true)]), .non]), (.tup [(.lst [(.str 132499537513641482333585525), (.bl true)]), .non]), (.tup [(.lst [(.str 132499537513641482333585525), (.bl true)]), .non]), (.tup [(.lst [(.str 132499537513641482333585525), (.bl true)]), .non]), (.tup [(.lst [(.str 132499537513641482333585525), (.bl true)]), .non]), (.tup [(.lst [(.str 132499537513641482333585525), (.bl true)]), .non]), (.tup [(.lst [(.str 132499537513641482333585525), (.bl true)]), .non]), (.tup [(.lst [(.str 132499537513641482333585525), (.bl true)]), .non]), (.tup [(.lst [(.str 132499537513641482333585525), (.bl true)]), .non]), (.tup [(.str 0), (.tup [(.str 151432070561908)])]), (.tup [(.str 0), (.tup [(.str 151432070561908)])]), (.tup [(.lst [(.str 128129309259225799499483723691507384437), (.bl true), (.int (2))]), .non]), (.str 0), (.tup [(.lst [(.str 128129309259225799499483723691507384437), (.bl true), (.int (1))]), .non])]))
def V47_14 : D := (.g (.lst [(.tup [(.lst [(.str 128129309259225799499483723691507384437), (.bl true), (.int (1))]), .non]), (.tup [(.lst [(.str 128129309259225799499483723691507384437), (.bl true), (.int (3))]), .non]), (.tup [(.lst [(.str 128129309259225799499483723691507384437), (.bl true), (.int (1))]), .non]), (.tup [(.lst [(.str 128129309259225799499483723691507384437), (.bl true), (.int (1))]), .non]), (.tup [(.lst [(.str 128129309259225799499483723691507384437), (.bl true), (.int (2))]), .non]), (.tup [(.lst [(.str 128129309259225799499483723691507384437), (.bl true), (.int (1))]), .non]), (.tup [(.lst [(.str 128129309259225799499483723691507384437), (.bl true), (.int (1))]), .non]), (.tup [(.lst [(.str 128129309259225799499483723691507384437), (.bl true), (.int (1))]), .non]), (.tup [(.lst [(.str 128129309259225799499483723691507384437), (.bl true), (.int (3))]), .non]), (.tup [(.lst [(.str 128129309259225799499483723691507384437), (.bl true), (.int (1))]), .non]), (.tup [(.lst [(.str 128129309259225799499483723691507384437), (.bl true), (.int (1))]), .non]), (.tup [(.lst [(.str 128129309259225799499483723691507384437), (.bl true), (.int (1))]), .non]), (.tup [(.lst [(.str 128129309259225799499483723691507384437), (.bl true), (.int (1))]), .non]), (.tup [(.lst [(.str 128129309259225799499483723691507384437), (.bl true), (.int (2))]), .non]), (.tup [(.lst [(.str 128129309259225799499483723691507384437), (.bl true), (.int (1))]), .non]), (.tup [(.lst [(.str 128129309259225799499483723691507384437), (.bl true), (.int (1))]), .non]), (.tup [(.lst [(.str 128129309259225799499483723691507384437), (.bl true), (.int (1))]), .non]), (.tup [(.lst [(.str 128129309259225799499483723691507384437), (.bl true), (.int (1))]), .non]), (.tup [(.lst [(.str 128129309259225799499483723691507384437), (.bl true), (.int (1))]), .non]), (.tup [(.lst [(.str 128129309259225799499483723691507384437), (.bl true), (.int (1))]), .non]), (.tup [(.lst [(.str 128129309259225799499483723691507384437), (.bl true), (.int (1))]), .non]), (.tup [(.lst [(.str 128129309259225799499483723691507384437), (.bl true), (.int (1))]), .non]), (.tup [(.lst [(.str 128129309259225799499483723691507384437), (.bl true), (.int (1))]), .non]), (.tup [(.lst [(.str 128129309259225799499483723691507384437), (.bl true), (.int (1))]), .non]), (.tup [(.lst [(.str 128129309259225799499483723691507384437), (.bl true), (.int (1))]), .non]), (.tup [(.lst [(.str 128129309259225799499483723691507384437), (.bl true), (.int (1))]), .non]), (.tup [(.lst [(.str 128129309259225799499483723691507384437), (.bl true), (.int (1))]), .non]), (.tup [(.lst [(.str 128129309259225799499483723691507384437), (.bl true), (.int (2))]), .non]), (.tup [(.lst [(.str 128129309259225799499483723691507384437), (.bl true), (.int (1))]), .non]), (.tup [(.lst [(.str 128129309259225799499483723691507384437), (.bl true), (.int (1))]), .non]), (.tup [(.lst [(.str 128129309259225799499483723691507384437), (.bl true), (.int (1))]), .non]), (.tup [(.lst [(.str 128129309259225799499483723691507384437), (.bl true), (.int (1))]), .non]), (.tup [(.lst [(.str 128129309259225799499483723691507384437), (.bl true), (.int (1))]), .non]), (.tup [(.lst [(.str 128129309259225799499483723691507384437), (.bl true), (.int (3))]), .non]), (.tup [(.lst [(.str 128129309259225799499483723691507384437), (.bl true), (.int (1))]), .non]), (.tup [(.lst [(.str 128129309259225799499483723691507384437), (.bl true), (.int (1))]), .non]), (.tup [(.lst [(.str 128129309259225799499483723691507384437), (.bl true), (.int (1))]), .non]), (.tup [(.lst [(.str 128129309259225799499483723691507384437), (.bl true), (.int (2))]), .non]), (.tup [(.lst [(.str 128129309259225799499483723691507384437), (.bl true), (.int (1))]), .non]), (.tup [(.lst [(.str 128129309259225799499483723691507384437), (.bl true), (.int (1))]), .non]), (.tup [(.lst [(.str 128129309259225799499483723691507384437), (.bl true), (.int (1))]), .non]), (.tup [(.lst [(.str 128129309259225799499483723691507384437), (.bl true), (.int (4))]), .non]), (.tup [(.lst [(.str 128129309259225799499483723691507384437), (.bl true), (.int (2))]), .non]), (.tup [(.lst [(.str 128129309259225799499483723691507384437), (.bl true), (.int (1))]), .non]), (.tup [(.lst [(.str 128129309259225799499483723691507384437), (.bl true), (.int (1))]), .non]), (.tup [(.lst [(.str 128129309259225799499483723691507384437), (.bl true), (.int (1))]), .non]), (.tup [(.lst [(.str 128129309259225799499483723691507384437), (.bl true), (.int (1))]), .non]), (.tup [(.lst [(.str 128129309259225799499483723691507384437), (.bl true), (.int (1))]), .non]), (.tup [(.lst [(.str 128129309259225799499483723691507384437), (.bl true), (.int (1))]), .non]), (.tup [(.lst [(.str 128129309259225799499483723691507384437), (.bl true), (.int (1))]), .non]), (.tup [(.lst [(.str 128129309259225799499483723691507384437), (.bl true), (.int (1))]), .non]), (.tup [(.lst [(.str 128129309259225799499483723691507384437), (.bl true), (.int (1))]), .non]), (.tup [(.lst [(.str 128129309259225799499483723691507384437), (.bl true), (.int (1))]), .non]), (.tup [(.lst [(.str 128129309259225799499483723691507384437), (.bl true), (.int (1))]), .non]), (.tup [(.lst [(.str 128129309259225799499483723691507384437), (.bl true), (.int (3))]), .non]), (.tup [(.lst [(.str 128129309259225799499483723691507384437), (.bl true), (.int (1))]), .non]), (.tup [(.lst [(.str 128129309259225799499483723691507384437), (.bl true), (.int (1))]), .non]), (.tup [(.lst [(.str 128129309259225799499483723691507384437), (.bl true), (.int (1))]), .non]), (.tup [(.lst [(.str 128129309259225799499483723691507384437), (.bl true), (.int (1))]), .non]), (.tup [(.lst [(.str 128129309259225799499483723691507384437), (.bl true), (.int (2))]), .non]), (.tup [(.lst [(.str 128129309259225799499483723691507384437), (.bl true), (.int (1))]), .non]), (.tup [(.lst [(.str 128129309259225799499483723691507384437), (.bl true), (.int (1))]), .non]), (.tup [(.lst [(.str 128129309259225799499483723691507384437), (.bl true), (.int (2))]), .non]), (.tup [(.lst [(.str 128129309259225799499483723691507384437), (.bl true), (.int (1))]), .non]), (.tup [(.lst [(.str 128129309259225799499483723691507384437), (.bl true), (.int (1))]), .non]), (.tup [(.lst [(.str 128129309259225799499483723691507384437), (.bl true), (.int (1))]), .non]), (.tup [(.lst [(.str 132499537513641482333585525), (.bl true)]), .non]), (.tup [(.lst [(.str 132499537513641482333585525), (.bl true)]), .non]), (.tup [(.lst [(.str 132499537513641482333585525), (.bl true)]), .non]), (.tup [(.lst [(.str 132499537513641482333585525), (.bl true)]), .non]), (.tup [(.lst [(.str 132499537513641482333585525), (.bl true)]), .non]), (.tup [(.lst [(.str 132499537513641482333585525), (.bl true)]), .non]), (.tup [(.lst [(.str 132499537513641482333585525), (.bl true)]), .non]), (.tup [(.lst [(.str 132499537513641482333585525), (.bl true)]), .non]), (.tup [(.lst [(.str 132499537513641482333585525), (.bl true)]), .non]), (.tup [(.lst [(.str 132499537513641482333585525), (.bl true)]), .non]), (.tup [(.lst [(.str 132499537513641482333585525), (.bl true)]), .non]), (.tup [(.lst [(.str 132499537513641482333585525), (.bl true)]), .non]), (.tup [(.lst [(.str 132499537513641482333585525), (.bl true)]), .non]), (.tup [(.lst [(.str 132499537513641482333585525), (.bl true)]), .non]), (.tup [(.lst [(.str 132499537513641482333585525), (.bl true)]), .non]), (.tup [(.str 0), (.tup [(.str 151432070561908)])]), (.tup [(.str 0), (.tup [(.str 151432070561908)])]), (.tup [(.lst [(.str 128129309259225799499483723691507384437), (.bl true), (.int (2))]), .non]), (.str 0), (.tup [(.lst [(.str 128129309259225799499483723691507384437), (.bl true), (.int (1))]), .non]), (.tup [(.lst [(.str 128129309259225799499483723691507384437), (.bl true), (.int (2))]), .non])]))
theorem s47_0 (b : Bool) : S47_0 E47 (mkSlots [.g (.bl b)] 10) [] = .nxt [some (.g (.bl b)), some V47_0, none, none, none, none, none, none, none, none] [] := by kernel_rfl
theorem s47_1 (b : Bool) : S47_1 E47 [some (.g (.bl b)), some V47_0, none, none, none, none, none, none, none, none] [] = .nxt [some (.g (.bl b)), some V47_1, none, none, none, none, none, none, none, none] [] := by kernel_rfl
theorem s47_2 (b : Bool) : S47_2 E47 [some (.g (.bl b)), some V47_1, none, none, none, none, none, none, none, none] [] = .nxt [some (.g (.bl b)), some V47_2, none, none, none, none, none, none, none, none] [] := by kernel_rfl
theorem s47_3 (b : Bool) : S47_3 E47 [some (.g (.bl b)), some V47_2, none, none, none, none, none, none, none, none] [] = .nxt [some (.g (.bl b)), some V47_3, none, none, none, none, none, none, none, none] [] := by kernel_rfl
theorem s47_4 (b : Bool) : S47_4 E47 [some (.g (.bl b)), some V47_3, none, none, none, none, none, none, none, none] [] = .nxt [some (.g (.bl b)), some V47_4, none, none, none, none, none, none, none, none] [] := by kernel_rfl
theorem s47_5 (b : Bool) : S47_5 E47 [some (.g (.bl b)), some V47_4, none, none, none, none, none, none, none, none] [] = .nxt [some (.g (.bl b)), some V47_5, none, none, none, none, none, none, none, none] [] := by kernel_rfl
theorem s47_6 (b : Bool) : S47_6 E47 [some (.g (.bl b)), some V47_5, none, none, none, none, none, none, none, none] [] = .nxt [some (.g (.bl b)), some V47_6, none, none, none, none, none, none, none, none] [] := by kernel_rfl
theorem s47_7 (b : Bool) : S47_7 E47 [some (.g (.bl b)), some V47_6, none, none, none, none, none, none, none, none] [] = .nxt [some (.g (.bl b)), some V47_7, none, none, none, none, none, none, none, none] [] := by kernel_rfl
theorem s47_8 (b : Bool) : S47_8 E47 [some (.g (.bl b)), some V47_7, none, none, none, none, none, none, none, none] [] = .nxt [some (.g (.bl b)), some V47_7, some V47_8, none, none, none, none, none, none, none] [] := by kernel_rfl
theorem s47_9 (b : Bool) : S47_9 E47 [some (.g (.bl b)), some V47_7, some V47_8, none, none, none, none, none, none, none] [] = .nxt [some (.g (.bl b)), some V47_7, some V47_9, none, none, none, none, none, none, none] [] := by kernel_rfl
theorem s47_10 (b : Bool) : S47_10 E47 [some (.g (.bl b)), some V47_7, some V47_9, none, none, none, none, none, none, none] [] = .nxt [some (.g (.bl b)), some V47_7, some V47_10, none, none, none, none, none, none, none] [] := by kernel_rfl
theorem s47_11 (b : Bool) : S47_11 E47 [some (.g (.bl b)), some V47_7, some V47_10, none, none, none, none, none, none, none] [] = .nxt [some (.g (.bl b)), some V47_7, some V47_10, some V47_11, none, none, none, none, none, none] [] := by kernel_rfl
theorem s47_12 (b : Bool) : S47_12 E47 [some (.g (.bl b)), some V47_7, some V47_10, some V47_11, none, none, none, none, none, none] [] = .nxt [some (.g (.bl b)), some V47_7, some V47_10, some V47_11, some V47_12, none, none, none, none, none] [] := by cases b <;> kernel_rfl
abbrev W47 (b : Bool) : St := [some (.g (.bl b)), some V47_7, some V47_10, some V47_11, some V47_12, none, none, none, none, none]
theorem c47_0 (b : Bool) : (appF 44 (cnsF (conF (.int 0)) (cnsF (varF 3) nilF))) E47 (W47 b) [] = .val (.g (.tup [(.str 0), (.tup [(.str 151432070561908)])])) [] := by kernel_rfl
theorem c47_1 (b : Bool) : (appF 44 (cnsF (conF (.int 1)) (cnsF (varF 3) nilF))) E47 (W47 b) [] = .val (.g (.tup [(.str 0), (.tup [(.str 151432070561908)])])) [] := by kernel_rfl
theorem c47_2 (b : Bool) : (appF 44 (cnsF (conF (.int 0)) (cnsF (binF .add (binF .add (conF (.str 45678603)) (varF 3)) (conF (.str 42))) nilF))) E47 (W47 b) [] = .val (.g (.tup [(.lst [(.str 128129309259225799499483723691507384437), (.bl true), (.int (2))]), .non])) [] := by kernel_rfl
theorem c47_3 (b : Bool) : (subF (appF 44 (cnsF (conF (.int 1)) (cnsF (binF .add (binF .mul (conF (.str 153500547243951063073)) (conF (.int 120))) (conF (.str 50))) nilF))) (conF (.int 0))) E47 (W47 b) [] = .val (.g (.str 0)) [] := by kernel_rfl
theorem c47_4 (b : Bool) : (appF 44 (cnsF (conF (.int 1)) (cnsF (binF .add (binF .mul (conF (.str 153500547243951063073)) (conF (.int 121))) (conF (.str 50))) nilF))) E47 (W47 b) [] = .val (.g (.tup [(.lst [(.str 128129309259225799499483723691507384437), (.bl true), (.int (1))]), .non])) [] := by kernel_rfl
theorem z47 : binV .add V47_12 (mkLst [(.g (.tup [(.str 0), (.tup [(.str 151432070561908)])])), (.g (.tup [(.str 0), (.tup [(.str 151432070561908)])])), (.g (.tup [(.lst [(.str 128129309259225799499483723691507384437), (.bl true), (.int (2))]), .non])), (.g (.str 0)), (.g (.tup [(.lst [(.str 128129309259225799499483723691507384437), (.bl true), (.int (1))]), .non]))]) [] = some V47_13 := by kernel_rfl
theorem s47_13 (b : Bool) : S47_13 E47 [some (.g (.bl b)), some V47_7, some V47_10, some V47_11, some V47_12, none, none, none, none, none] [] = .nxt [some (.g (.bl b)), some V47_7, some V47_10, some V47_11, some V47_13, none, none, none, none, none] [] := asg_of (bin_of (var_of rfl) (lst_of (cns_of (c47_0 b) (cns_of (c47_1 b) (cns_of (c47_2 b) (cns_of (c47_3 b) (cns_of (c47_4 b) rfl))))) rfl) z47)
theorem s47_14 (b : Bool) : S47_14 E47 [some (.g (.bl b)), some V47_7, some V47_10, some V47_11, some V47_13, none, none, none, none, none] [] = .nxt [some (.g (.bl b)), some V47_7, some V47_10, some V47_11, some V47_14, none, none, none, none, none] [] := by kernel_rfl
theorem s47_15 (b : Bool) : S47_15 E47 [some (.g (.bl b)), some V47_7, some V47_10, some V47_11, some V47_14, none, none, none, none, none] [] = .nxt [some (.g (.bl b)), some V47_7, some V47_10, some V47_11, some V47_14, some V47_12, none, none, none, none] [] := by kernel_rfl
theorem s47_16 (b : Bool) : S47_16 E47 [some (.g (.bl b)), some V47_7, some V47_10, some V47_11, some V47_14, some V47_12, none, none, none, none] [] = .nxt [some (.g (.bl b)), some V47_7, some V47_10, some V47_11, some V47_14, some V47_14, none, none, none, none] [] := by kernel_rfl
theorem r47 (b : Bool) : R47 E47 [some (.g (.bl b)), some V47_7, some V47_10, some V47_11, some V47_14, some V47_14, none, none, none, none] [] = .ret (.g (.bl true)) [] := by kernel_rfl
theorem f47 (b : Bool) (h : Hp) : callF prog 10 47 [.g (.bl b)] h = .val (.g (.bl true)) h := by
  have e : B47 E47 (mkSlots [.g (.bl b)] 10) [] = .ret (.g (.bl true)) [] := by
    unfold B47
    rw [seq_nxt (s47_0 b), seq_nxt (s47_1 b), seq_nxt (s47_2 b), seq_nxt (s47_3 b), seq_nxt (s47_4 b), seq_nxt (s47_5 b), seq_nxt (s47_6 b), seq_nxt (s47_7 b), seq_nxt (s47_8 b), seq_nxt (s47_9 b), seq_nxt (s47_10 b), seq_nxt (s47_11 b), seq_nxt (s47_12 b), seq_nxt (s47_13 b), seq_nxt (s47_14 b), seq_nxt (s47_15 b), seq_nxt (s47_16 b)]
    exact r47 b
  exact (callF_any (n := 0) (fd := ⟨1, 10, true, B47⟩) (by kernel_rfl) (by kernel_rfl) (by kernel_rfl)).trans (run_pure (h2 := []) rfl rfl e)
theorem rest1 (x : D) (b : Bool) (U : List D) : okR (R48 EL (slots x b 1) [.lst U]) = true := by
  have e0 : EL.call 47 [.g (.bl b)] [.lst U] = .val (.g (.bl true)) [.lst U] := by
    unfold EL
    exact (call_low (by kernel_rfl)).trans (f47 b _)
  have e1 : appF 47 (cnsF (varF 2) nilF) EL (slots x b 1) [.lst U] = .val (.g (.bl true)) [.lst U] := app_one rfl e0
  have ec : cmpF .eq (varF 3) (conF (.int 0)) EL (slots x b 1) [.lst U] = .val (.g (.bl false)) [.lst U] := by kernel_rfl
  have e2 : R48 EL (slots x b 1) [.lst U] = .ret (.g (.bl true)) [.lst U] := by
    unfold R48
    exact seq_ret (ret_of ((ife_no ec).trans e1))
  rw [e2]
  rfl
theorem main (ns : List Int) (hl : ns.length ≤ 63) : ∃ h2, callF prog levels lawId [.g (.lst (ns.map .int))] [] = .val (.g (.bl true)) h2 := by
  obtain ⟨U, u1, e1⟩ := dr.urn hl (s := mkSlots [.g (.lst (ns.map .int))] 4) (h := []) rfl (m := 1) (k := 0) (by decide) (by decide)
  have s1 : S48_0 EL (mkSlots [.g (.lst (ns.map .int))] 4) [] = .nxt (slot0 (.g (.lst (ns.map .int)))) [.lst U] := by
    show (back _ (appF 39 _ EL _ [])).onV _ = _
    rw [e1]; rfl
  obtain ⟨d, U1, d0, d1, u2, e2⟩ := dr.tk (s := slot0 (.g (.lst (ns.map .int)))) (h := [.lst U]) (fu := varF 1) (h2 := [.lst U]) (a := 0) (n := 0) rfl rfl u1 (by decide) (b := 2) (by decide)
  obtain ⟨c, U2, c0, c1, u3, e3⟩ := dr.tk (s := slot0 (.g (.lst (ns.map .int)))) (h := [.lst U1]) (fu := varF 1) (h2 := [.lst U1]) (a := 0) (n := 1) rfl rfl u2 (by decide) (b := 2) (by decide)
  have eb : cmpF .eq (appF 40 (cnsF (varF 1) (cnsF (conF (.int 2)) nilF))) (conF (.int 0)) EL (slot0 (.g (.lst (ns.map .int)))) [.lst U] = .val (.g (.bl (d == 0))) [.lst U1] := by
    unfold cmpF
    rw [e2]; rfl
  have et : tupF (cnsF (cmpF .eq (appF 40 (cnsF (varF 1) (cnsF (conF (.int 2)) nilF))) (conF (.int 0))) (cnsF (appF 40 (cnsF (varF 1) (cnsF (conF (.int 2)) nilF))) nilF)) EL (slot0 (.g (.lst (ns.map .int)))) [.lst U] = .val (.g (.tup [.bl (d == 0), .int c])) [.lst U2] := by
    simp only [tupF, cnsF, nilF, eb, e3, Out.onV, Out.onL]
    rfl
  have s2 : S48_1 EL (slot0 (.g (.lst (ns.map .int)))) [.lst U] = .nxt (slots (.g (.lst (ns.map .int))) (d == 0) c) [.lst U2] := by
    unfold S48_1 asgF
    rw [et]; rfl
  refine law_end (r := 10) (b := B48) (ns := 4) (E := EL) (by kernel_rfl) (by kernel_rfl) (by kernel_rfl) rfl ?_
  unfold B48
  rw [seq_nxt s1, seq_nxt s2]
  have hc : c = 0 ∨ c = 1 := by omega
  rcases hc with rfl | rfl
  · cases d == 0
    · exact rest_f0 _ _
    · exact rest_t0 _ _
  · exact rest1 _ _ _
end Lk06
set_option Elab.async false
set_option linter.all false
set_option maxRecDepth 100000
set_option maxHeartbeats 4000000
namespace Lk06
open PySem PySem.Spec PyProof.Rows L2 Pv
abbrev R : PySem.W.OpenRow := PySem.W.OpenLaw.row PySem.Challenge.rw_twofingers_k06_texts_by_hand_and_refused
abbrev hk : PySem.W.Hook := hookX 4 fa dfs (moreB gm prog)
def ob (s : PySem.W.SharedT) : AlX := obsXG 4 fa dfs (moreB gm prog) (HandSHeadRun.getT s)
theorem ob_eq (s : PySem.W.SharedT) : ob s = hk.obs s.abs := obsXG_eq (HandSHeadRun.getT_eq s)
def nm0 : List PySem.Str := ["BadText", "Unfit", "is_number", "tuple_of", "is_tuple_of", "X", "Y", "FINGERS", "MOST_WIDE", "is_finger", "is_letter_set", "parts_of_saying", "is_saying", "sure_saying", "FRONT", "BACK", "LATER", "AHEAD", "parts_of_mood", "is_mood", "sure_mood", "is_end", "is_term", "sure_term", "ANY_OF", "ALL_OF", "ALONE", "NO_LETTER", "AT", "letters_written"]
def nm1 : List PySem.Str := ["bare_written", "written", "saying_text", "mood_text", "term_text", "SMALL", "FIGURES", "MARKS", "BLANKS", "PAIRED", "BINDING", "LEADING", "WORDS", "END", "MOST_DEEP", "run_end", "pieces_of", "Reader", "read_saying", "read_mood", "read_term", "_law_box", "_law_take", "_law_cells", "_law_soft", "_law_same", "_law_try", "_law_rows", "_law_told_right", "_law_refused_right"]
def names : List PySem.Str := nm0 ++ nm1
theorem run (w : World) : HandSHeadRun.RunEq R (PySem.W.view R.prog [67]) hk ob 4000 names w := by
  intro os
  kernel_rfl
end Lk06
open PySem PySem.W PySem.Calls PyProof.Rows
set_option maxRecDepth 100000 in
set_option maxHeartbeats 8000000 in
theorem PySem.Challenge.cw_twofingers_k06_texts_by_hand_and_refused_holds : PySem.Challenge.rw_twofingers_k06_texts_by_hand_and_refused.Holds := by
  w_on; o_law
  refine HandSHeadRun.head_any (r := OpenLaw.row PySem.Challenge.rw_twofingers_k06_texts_by_hand_and_refused) (q := view (OpenLaw.row PySem.Challenge.rw_twofingers_k06_texts_by_hand_and_refused).prog [67]) (H := Lk06.hk) (ob := Lk06.ob) (M := 4000) (loose := Lk06.names) (d := HandSHeadRun.topDef (OpenLaw.row PySem.Challenge.rw_twofingers_k06_texts_by_hand_and_refused).prog 67) (kwd := []) Lk06.ob_eq
    (by kernel_rfl) (fun s => by kernel_rfl) Lk06.run (by kernel_rfl) (by kernel_rfl) (by kernel_rfl) (by rfl) (by first | assumption | decide +kernel) (by decide +kernel) ⟨rfl, rfl, rfl, rfl, rfl, by decide +kernel⟩ ?hw ?hc
  case hw => w_witness2
  case hc =>
    refine Pv.walk_main (l := PySem.Challenge.rw_twofingers_k06_texts_by_hand_and_refused) (m := 63) (k := Pv.lvl Lk06.prog Lk06.levels) (x := "script") rfl (by decide) (by kernel_rfl) ⟨rfl, by decide +kernel, by decide +kernel⟩ ?F
    intro w mg fa h Y G hmg0
    obtain ⟨K, KX, c⟩ := Y
    have hmg : mg ("law" : PySem.Str) = some (.ref fa) := by
      have e : (HandSHeadRun.topDef (OpenLaw.row PySem.Challenge.rw_twofingers_k06_texts_by_hand_and_refused).prog 67).name = ("law" : PySem.Str) := by kernel_rfl
      rw [← e]
      exact hmg0
    obtain ⟨fd, hb, hF⟩ := Lk06.facts (P := (PySem.Challenge.rw_twofingers_k06_texts_by_hand_and_refused).prog) (w := w) KX G hmg c
    exact ⟨K, fd, _, KX, hb, fun H a ns hl hO hS => (Lk06.main ns hl).elim fun _ e => Pv.sp_law (Bool.and_eq_true_iff.mp c.2).2 hO hS e, hF⟩
