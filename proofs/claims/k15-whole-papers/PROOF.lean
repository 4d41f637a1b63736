import PyProof.Rows.All
import Wide.All
import OpenK.AllK
import Wide.FinOn
import HandS.ForMost
import HandS.Walk
import KE.GoesEnum
import HandS.Strs
import HandS.SetFor
import KE.GoesSet
import HandS.Conv
import HandS.Lambda
import HandS.SortKw
import KE.KLam
import KE.SortKeyHeap
import HandS.Nested
import HandS.Defaults
import HandS.Zip
import HandS.Deep
import HandS.IsInst
import HandS.TupAny
import HandS.SortRule
import HandS.Codes
import HandS.HeadHook4
import KE.KStateDown
import HandS.Head0
import HandS.Head1
import HandS.Head2
import HandS.HeadHook1
import HandS.HeadHook2
import HandS.HeadHook3
import HandS.HeadWalk
import HandS.HeadEnd
import PySem.Challenge.RW_faultdue_k15_whole_papers_are_right
set_option Elab.async false
set_option linter.all false
set_option maxRecDepth 100000
set_option maxHeartbeats 0
namespace K15R
open PySem PySem.Spec PyProof.Rows L2
/-! ### enumerate of a tuple -/
set_option maxHeartbeats 1000000 in
theorem meets_enumerate_newB0 {v : Value} {o : Obj} {H : Heap → Prop} (B : Begins v o H) :
    Meets (Builtin.«enumerate.__new__» ⟨[.type "enumerate", v], []⟩) (fun _ R s => H s.heap ∧
      R (.ok (.ret (.ref (s.heap.push o).objs.size))) { s with heap := (s.heap.push o).push { cls := .type "enumerate", data := .fields #[.none, .bool false, .ref s.heap.objs.size, rawInt 0, .none, .none] } }) :=
  .of_wp fun prog w A R s h => by
    obtain ⟨hp, g, d, tk, os⟩ := s; obtain ⟨h1, h⟩ := h
    have hsub := sub_enumerate
    have q1 : ∀ {A' : Around} {E : Value → Shared → Prop} {Q : Value → Shared → Prop}, Q (.ref hp.objs.size) ⟨hp.push o, g, d, tk, os⟩ → wpAny (model prog w) A' (pyIter v) Q E ⟨hp, g, d, tk, os⟩ :=
      fun q => B.iter prog w _ _ ⟨hp, g, d, tk, os⟩ _ h1 q
    wp_walk using q1
    refine wpAny_stack_any fun st => wpAny_pure ?_
    split
    · rename_i c _ _ _ _ _
      cases (c == Value.type "enumerate")
      · wp_walk using q1
        exact ⟨_, rfl, h⟩
      · wp_walk using q1
        exact ⟨_, rfl, h⟩
    · wp_walk using q1
      exact ⟨_, rfl, h⟩
section
variable {prog : Program} {w : World} {A : Around} {E : Value → Shared → Prop} {s : Shared}
/-- enumerate(v): its two new cells -/
theorem enum_begins0 {v : Value} {o : Obj} {H : Heap → Prop} {Q : Value → Shared → Prop} (B : Begins v o H) (h1 : H s.heap)
    (h : ∀ h', IsEnum h' (s.heap.objs.size + 1) s.heap.objs.size 0 .none → h'.get? s.heap.objs.size = some o → h'.objs.size = s.heap.objs.size + 2 →
      (∀ b o, s.heap.get? b = some o → h'.get? b = some o) → Q (.ref (s.heap.objs.size + 1)) { s with heap := h' }) :
    wpAny (model prog w) A (call (.type "enumerate") [v]) Q E s := by
  refine callType_new F.called_enumerate (by decide) (F.typeCall_enumerate_1 _) (F.newCall_enumerate_1 _) (fun obj => F.args_object_init_2 obj _) F.entry_enumerate_new
    (meets_enumerate_newB0 B) ⟨h1, ?_⟩
  have hz : (s.heap.push o).objs.size = s.heap.objs.size + 1 := Heap.size_push ..
  show _ ∧ _
  rw [hz]
  have he : IsEnum ((s.heap.push o).push { cls := .type "enumerate", data := .fields #[.none, .bool false, .ref s.heap.objs.size, rawInt 0, .none, .none] }) (s.heap.objs.size + 1) s.heap.objs.size 0 .none := by
    have := Heap.get?_push_size (s.heap.push o) (o := { cls := .type "enumerate", data := .fields #[.none, .bool false, .ref s.heap.objs.size, rawInt 0, .none, .none] }) rfl
    rw [hz] at this; exact this
  refine ⟨⟨_, he, rfl⟩, h _ he (Heap.get?_push_of_some _ (Heap.get?_push_size _ B.free)) (by rw [Heap.size_push, hz]) fun b o x => Heap.get?_push_of_some _ (Heap.get?_push_of_some _ x)⟩
end
/-- the tuple at a, each item in a new pair -/
def IteT (K : PySem.W.Frag) (a : Addr) : It :=
  ⟨fun i H => ∃ (xs : List V) (x : V), SqT K H a xs ∧ xs[i]? = some x, fun i H v H' => ∃ T x, v = .ref T ∧ H T = none ∧ H' = upd H T (.tup [.int (i : Nat), x]) ∧ ∀ xs, SqT K H a xs → xs[i]? = some x, fun i H => ∃ xs : List V, SqT K H a xs ∧ xs.length ≤ i⟩
theorem turn_enumT {P : Program} {w : World} {K : PySem.W.Frag} {elts : List Expr} {kk : Nat} {tpos : Pos} (a e it : Addr) (hai : a ≠ it) (hea : e ≠ a) :
    Turn P w K (.Tuple elts kk tpos) (IteT K a) [e, it] e (fun i h => (∃ old, IsEnum h e it ((i : Nat) : Int) old) ∧ h.IsTupleIter it a i ∧ e ≠ it) where
  mem := by simp
  obj := fun i h st b hb => by
    obtain ⟨⟨old, he⟩, ⟨o, ho, hc, hd⟩, _⟩ := st
    have e' : b = e ∨ b = it := by simpa using hb
    rcases e' with z | z
    · rw [z]; exact ⟨_, he, fun v q => nomatch q⟩
    · rw [z]; exact ⟨o, ho, fun v q => by rw [hd] at q; cases q⟩
  keep := fun i h h' st k => let ⟨⟨old, he⟩, hi, hne⟩ := st; ⟨⟨old, k e (by simp) _ he⟩, hi.at fun o q => k it (by simp) o q, hne⟩
  item := by
    intro X hP hw hK hc i pins s σ H E I hf st hg
    subst hP hw hK
    obtain ⟨⟨old, he⟩, hit, hne⟩ := st
    obtain ⟨xs, x, hq, hx⟩ := hg
    obtain ⟨its, rv, p, hz⟩ := I.tuple hq
    obtain ⟨u, hu, ru⟩ := rv.get hx
    have hel : e < s.heap.objs.size := Heap.lt_size he
    have hil : it < s.heap.objs.size := by obtain ⟨_, q, _⟩ := hit; exact Heap.lt_size q
    have hlt : i < its.toArray.size := by
      have := (List.getElem?_eq_some_iff.mp hu).1
      simpa using this
    refine wpAny_pyNext_enum_itemD (Draws.tuple (A := X.A.in1) (I.ok.hd hc) it a hai its.toArray) he ⟨hit, p⟩ hlt hne (by simp [hne, hea]) fun x' h' tk hPx ho hst hT hsz hk => ?_
    have ex : x' = u := by
      have h1 : its.toArray[i]? = some u := by simpa using hu
      rw [h1] at hPx
      exact (Option.some.inj hPx).symm
    subst ex
    refine ⟨_, rfl, wpAny_letOwnedTupleGo_enum (s := { s with heap := h', toks := tk + 1 }) ho fun h'' he' sb => ?_⟩
    have hT2 : h''.get? s.heap.objs.size = some { cls := .type "tuple", data := .seq #[.int i tk, x'] } := (sb.2 _ (Nat.ne_of_gt hel)).trans hT
    have new : ObjOk X.prog X.w (upd H s.heap.objs.size (.tup [.int (i : Nat), x])) h'' s.heap.objs.size (.tup [.int (i : Nat), x]) :=
      ⟨by show 2 ≤ sizeLine; decide, [.int i tk, x'], .cons ⟨_, rfl⟩ (.cons ru .nil), ⟨_, hT2, rfl, _, rfl⟩⟩
    have I1 : Inv X pins σ (upd H s.heap.objs.size (.tup [.int (i : Nat), x])) { s with heap := h'', toks := tk + 1 } :=
      I.turnedNew (ch := [e, it]) (fun b ob hb q => (sb.2 b (fun z => hb (by simp [z]))).trans (hk b ob (fun z => hb (by simp [z])) (fun z => hb (by simp [z])) q)) hf (Nat.le_refl _) new
    refine ⟨.ref s.heap.objs.size, _, I1, rfl, ⟨_, x, rfl, I.hok.fresh (Nat.le_refl _), rfl, fun ys hy => by rw [I.tuple_inj hy hq]; exact hx⟩, ⟨⟨x', ?_⟩, hst.1.at fun o q => (sb.2 it (Ne.symm hne)).trans q, hne⟩, fun b hb => ?_⟩
    · have e1 : ((i + 1 : Nat) : Int) = (i : Int) + 1 := by omega
      rw [e1]; exact he'
    · have hb' : b < s.heap.objs.size := by
        have e' : b = e ∨ b = it := by simpa using hb
        rcases e' with z | z
        · rw [z]; exact hel
        · rw [z]; exact hil
      rw [upd_ne (Nat.ne_of_lt hb')]
      exact (hf b hb).1
  done := by
    intro X hP hw hK hc i pins s σ H E I hf st hg
    subst hP hw hK
    obtain ⟨⟨old, he⟩, hit, hne⟩ := st
    obtain ⟨xs, hq, hx⟩ := hg
    obtain ⟨its, rv, p, hz⟩ := I.tuple hq
    obtain ⟨f0, f1, f2, f3, f4, f5⟩ := hf it (by simp)
    have hl := rv.length
    have hT : s.TypeIs (.ref e) "enumerate" := ⟨_, he, rfl⟩
    unfold pyNext
    refine wpAny_bind (wpAny_attempt (wpAny_callSpecial?_slot (name := Str.ofString "__next__") hT F.slot_enumerate_next
      (wpAny_call_entry F.slot_enumerate_next hT F.entry_enumerate_next ?_ (F.args_enumerate_next_1 _))))
    show wpAny _ _ (field (.ref e) 2 >>= _) _ _ _
    refine wpAny_bind (wpAny_field he rfl (x := .ref it) rfl ?_)
    refine wpAny_bind (PySem.wpAny_nextOf_tuple_end (I.ok.hd hc) hit p (by simp; omega) fun h' x he' hx' => ?_)
    obtain ⟨o, ho, hc⟩ := hx'
    refine wpAny_bind (wpAny_isInstance (T := "StopIteration") (b := true) ⟨o, ho, hc⟩ isSubtype_stop ?_)
    exact wpAny_pure ⟨rfl, I.turned (t' := s.toks) (fun b o hb q => he' b o hb q) f0 f1 f3 f4 f5⟩
  self := fun A i s Q E st h => let ⟨⟨_, he⟩, _⟩ := st; wpAny_pyIter_enum he h
def iEnumT (K : PySem.W.Frag) (ta : TA) : TI := fun σ H R => ta σ H fun vs H1 => ∃ a xs, vs = [.ref a] ∧ SqT K H1 a xs ∧ R (IteT K a) H1
theorem pi_enumT {X : Cx} {e : Expr} {ta : TA} {p pos tpos : Pos} {elts : List Expr} {kk : Nat} (hg : Gl X "enumerate") (hm : X.mg "enumerate" = none) (ha : PA X [e] ta) (hs : starEach [e] X.env = [(false, eval e X.env)] := by rfl) :
    PI X (.Tuple elts kk tpos) (.Call (.Name "enumerate" p) [e] [] pos) (iEnumT X.K ta) := by
  refine ⟨fun pins s σ H R I h => ?_⟩
  refine Call_ (ld_blt I hg hm boot_enumerate (PyProof.Rows.callWith_type1 (thn (ha.run pos pins s σ H _ I h) fun us s1 ⟨vs, H1, I1, r1, q1⟩ => ?_) hs rfl))
  obtain ⟨a, xs, ex, hq, q⟩ := q1
  subst ex
  cases r1 with
  | cons r rr =>
    cases rr
    cases r
    obtain ⟨its, rv, p', hz⟩ := I1.tuple hq
    have hal : a < s1.heap.objs.size := by obtain ⟨_, q, _⟩ := id p'; exact Heap.lt_size q
    refine enum_begins0 (begins_tuple a its.toArray) p' fun h' he hit hsz hk => wpAny_pyIter_enum he ?_
    have I2 : Inv X pins σ H1 { s1 with heap := h' } := I1.kept (t' := s1.toks) hk
    refine ⟨s1.heap.objs.size + 1, [s1.heap.objs.size + 1, s1.heap.objs.size], _, _, H1, rfl, I2, turn_enumT a (s1.heap.objs.size + 1) s1.heap.objs.size (Nat.ne_of_lt hal) (Nat.ne_of_gt (Nat.lt_succ_of_lt hal)), ⟨⟨.none, he⟩, ⟨_, hit, rfl, rfl⟩, Nat.succ_ne_self _⟩, fun b hb => ?_, q⟩
    have e' : b = s1.heap.objs.size + 1 ∨ b = s1.heap.objs.size := by simpa using hb
    have hle : s1.heap.objs.size ≤ b := by
      rcases e' with z | z
      · rw [z]; exact Nat.le_add_right _ _
      · rw [z]; exact Nat.le_refl _
    exact I1.fpOk hle (I1.hok.fresh hle)
theorem walk_enumT {K : PySem.W.Frag} {a : Addr} {xs : List V} : Walk (IteT K a) xs.length (fun H => SqT K H a xs) (YPair (fun i => some (.int (i : Nat))) (fun i => xs[i]?)) := by
  refine ⟨fun i _ hi q => ⟨xs, xs[i], q, by simp [hi]⟩, fun _ q => ⟨xs, q, Nat.le_refl _⟩, fun i H v H' _ q y => ?_⟩
  obtain ⟨T, x, h1, h2, h3, h4⟩ := y
  exact ⟨T, .int (i : Nat), x, h1, h2, h3, rfl, h4 xs q⟩
end K15R
namespace K15R
open PySem PySem.Spec PyProof.Rows L2
/-! ### set(l), l a list of ints -/
section
variable {P : Program} {w : World} {A : Around} {E : Value → Shared → Prop} {s : Shared}
set_option maxRecDepth 100000 in
set_option maxHeartbeats 3200000 in
theorem call_set_lstI {l : Addr} {items : Array Value} (ns : List Int) {Q : Value → Shared → Prop} (hh : A.handled = none) (hl : s.heap.IsList l items) (hit : IntsAre items.toList ns) (hb : ns.length + 1 < scanBound)
    (h : ∀ (h' : Heap) (tk c : Nat), SetR w h' s.heap.objs.size (fun j => decide (j ∈ ns)) c → c ≤ ns.length → (∀ b o, s.heap.get? b = some o → h'.get? b = some o) → Q (.ref s.heap.objs.size) { s with heap := h', toks := tk }) :
    wpAny (model P w) A (call (.type "set") [.ref l]) Q E s := by
  have hisz : items.size = ns.length := by
    have q := IntsAre.length hit
    rw [Array.length_toList] at q
    exact q
  obtain ⟨c, tl, hmro⟩ := F.called_set.mro
  have hmade := F.called_set.made
  have hsub := F.called_set.sub
  refine wpAny_call (codeAny_of_tree ?_)
  show wpAny _ _ (callAny (.type "set") _) _ _ _
  refine wpAny_pure ⟨Code.quiet_builtin _ (by decide +kernel), codeAny_builtin F.entry_type_call ?_⟩
  rw [Around.under_plain (weight_type_call_type "set" [.ref l] []) rfl]
  have h1 := F.called_set.notType
  have h2 := F.called_set.canCreate
  have hct := F.typeCall_set_1 (.ref l)
  repeat (any_goals (first | assumption | wp_step))

  refine codeAny_mono (code_set_led1 (.ref l) (E := E) (Q₁ := fun obj s₁ => obj = .ref s.heap.objs.size ∧ s₁ = { s with heap := s.heap.push { cls := .type "set", dict := none, data := .set #[] 0 (.fresh 0 0 (!w.params.followText "set-order")) } }) ⟨rfl, rfl⟩) fun r s₁ hr => ?_
  cases r with
  | error e => exact hr
  | ok fl =>
    cases fl with
    | ret obj =>
      obtain ⟨rfl, rfl⟩ := hr
      have hS : (s.heap.push { cls := .type "set", dict := none, data := .set #[] 0 (.fresh 0 0 (!w.params.followText "set-order")) }).get? s.heap.objs.size = some { cls := .type "set", dict := none, data := .set #[] 0 (.fresh 0 0 (!w.params.followText "set-order")) } := Heap.get?_push_size _ rfl
      have hT : Shared.TypeIs { s with heap := s.heap.push { cls := .type "set", dict := none, data := .set #[] 0 (.fresh 0 0 (!w.params.followText "set-order")) } } (.ref s.heap.objs.size) "set" := ⟨_, hS, rfl⟩
      have hli := F.called_set.init.lookup
      have hbi := F.called_set.init.bind (.ref s.heap.objs.size)
      repeat (any_goals (first | assumption | wp_step))

      refine codeAny_mono (codeAny_call_builtin (R := wants (fun r s₂ => r = .none ∧ ∃ h' tk c, s₂ = { s with heap := h', toks := tk } ∧ SetR w h' s.heap.objs.size (fun j => decide (j ∈ ns)) c ∧ c ≤ ns.length ∧
          (∀ b o, s.heap.get? b = some o → h'.get? b = some o)) E) F.called_set.init.plain F.entry_set_init (check_set_init_1 hT ?_)) fun r₂ s₂ hr₂ => ?_
      · obtain ⟨ol, hol, hcl, nl, hdl⟩ := hl
        obtain ⟨ocls, odict, odata, oslots⟩ := ol
        simp only at hcl hdl
        subst hcl; subst hdl
        have hol' : (s.heap.push { cls := .type "set", dict := none, data := .set #[] 0 (.fresh 0 0 (!w.params.followText "set-order")) }).get? l = some { cls := .type "list", dict := odict, data := .seq items nl, slots := oslots } := Heap.get?_push_of_some _ hol
        have hsls := F.sub_list_set
        have hslf := F.sub_list_frozenset
        have hne : (Value.type "list" == Value.type "dict") = false := by decide
        have hl1 : (s.heap.push { cls := .type "set", dict := none, data := .set #[] 0 (.fresh 0 0 (!w.params.followText "set-order")) }).IsList l items := ⟨_, hol', rfl, nl, rfl⟩
        unfold Builtin.«set.__init__» noKeywords Builtin.Frozenset.updateFrom
        generalize hPI : pyIter = PI
        wp_walk
        subst hPI

        refine wpAny_pyIter_list hl1 ?_
        refine wpAny_bind (wpAny_runValue ?_)
        have hlS : l < s.heap.objs.size := Heap.lt_size hol
        have hh3 : A.in1.in1.in1.handled = none := by simp [hh]
        have hz1 : (s.heap.push { cls := .type "set", dict := none, data := .set #[] 0 (.fresh 0 0 (!w.params.followText "set-order")) }).objs.size = s.heap.objs.size + 1 := Heap.size_push ..
        have hneI : l ≠ (s.heap.push { cls := .type "set", dict := none, data := .set #[] 0 (.fresh 0 0 (!w.params.followText "set-order")) }).objs.size := by
          rw [Heap.size_push]; exact Nat.ne_of_lt (Nat.lt_succ_of_lt hlS)
        have hSf : s.heap.objs.size ∉ [(s.heap.push { cls := .type "set", dict := none, data := .set #[] 0 (.fresh 0 0 (!w.params.followText "set-order")) }).objs.size, l] := by
          rw [Heap.size_push]; simp only [List.mem_cons, List.mem_singleton, List.not_mem_nil, or_false, not_or]
          exact ⟨Nat.ne_of_lt (Nat.lt_succ_self _), Nat.ne_of_gt hlS⟩
        have hval : ∀ (i : Nat) (v : Value), items[i]? = some v → ∃ k t, ns[i]? = some k ∧ v = .int k t := fun i v hv => by
          have hi : i < ns.length := by rw [← hisz]; exact (Array.getElem?_eq_some_iff.mp hv).1
          obtain ⟨t, e⟩ := PyProof.Rows.IntsAre.int_at hit i v (by rw [Array.getElem?_toList]; exact hv)
          refine ⟨ns[i], t, List.getElem?_eq_getElem hi, ?_⟩
          rw [e, List.getD_eq_getElem?_getD, List.getElem?_eq_getElem hi] <;> rfl
        refine set_update_ints ((Walks.list hh3 _ l hneI items).toS) s.heap.objs.size
          hSf ns hisz hb hval (items.size - 0) 0 _ (by omega) (Nat.zero_le _)
          ⟨⟨_, Heap.get?_push_size _ rfl, rfl, rfl⟩, (hl1.push _)⟩ ?hS0 ?hR
        case hS0 =>
          have hget : ((s.heap.push { cls := .type "set", dict := none, data := .set #[] 0 (.fresh 0 0 (!w.params.followText "set-order")) }).push { cls := .type "list_iterator", data := .fields #[.ref l, .int 0 0] }).get? s.heap.objs.size
              = some { cls := .type "set", dict := none, data := .set #[] 0 (.fresh 0 0 (!w.params.followText "set-order")) } := Heap.get?_push_of_some _ hS
          exact ⟨0, Nat.le_refl 0, setR_new_at hget⟩
        case hR =>
          intro s' c' hm hc' hS'
          obtain ⟨h', g2, d', tk', os'⟩ := s'
          have eg : g2 = s.gens := hm.gens
          have ed : d' = s.drawn := hm.drawn
          have eo : os' = s.os := hm.os
          subst eg; subst ed; subst eo
          show wpAny _ _ _ _ _ _
          refine wpAny_pure ?_
          show wpAny _ _ (ret Value.none) _ _ _
          rw [hisz] at hc'
          refine wpAny_pure ⟨rfl, h', tk', c', rfl, hS', hc', fun b o e => ?_⟩
          have hb0 : b < s.heap.objs.size := Heap.lt_size e
          have hb1 : b ≠ s.heap.objs.size := Nat.ne_of_lt hb0
          have hb2 : b ≠ (s.heap.push { cls := .type "set", dict := none, data := .set #[] 0 (.fresh 0 0 (!w.params.followText "set-order")) }).objs.size := by
            rw [Heap.size_push]; exact Nat.ne_of_lt (Nat.lt_succ_of_lt hb0)
          exact hm.heap b o (by simp only [List.mem_cons, List.mem_singleton, List.not_mem_nil, or_false, not_or]; exact ⟨hb1, hb2⟩) (Heap.get?_push_of_some _ (Heap.get?_push_of_some _ e))

      · cases r₂ with
        | error e => exact hr₂
        | ok fl₂ =>
          cases fl₂ with
          | ret r =>
            obtain ⟨rfl, h', tk, c', rfl, hS', hc', hk'⟩ := hr₂
            repeat (any_goals (first | assumption | wp_step))
            exact h _ _ _ hS' hc' hk'
          | _ => exact hr₂.elim
    | _ => exact hr.elim

end
def rSetL (K : PySem.W.Frag) (w : World) : List V → Hp → VK → Prop := fun xs H Q => ∃ (a : Addr) (ns : List Int), xs = [.ref a] ∧ SqL K H a (ns.map V.int) ∧ ns.length ≤ 4000 ∧
  ∀ p c, H p = none → c ≤ ns.length → Q (.ref p) (upd H p (SetO w p (fun j => decide (j ∈ ns)) c))
theorem cr_setL {X : Cx} (hc : X.calm = true) : CallR X (.type "set") (rSetL X.K X.w) := by
  intro pins s σ H xs us Q I r h
  obtain ⟨a, ns, rfl, hl, hlen, q⟩ := h
  obtain rfl := Vals.ref1 r
  obtain ⟨its, rv, pl, hz⟩ := I.list hl
  refine call_set_lstI ns (I.ok.hd hc) pl.isList (by simpa using rv.ints) (by unfold scanBound; omega) fun h' tk c hS hcl hk => ?_
  exact ⟨.ref _, upd H s.heap.objs.size (SetO X.w s.heap.objs.size (fun j => decide (j ∈ ns)) c), I.laid (t' := tk) hk (Nat.le_refl _) (setO_new hS), rfl, q _ c (I.hok.fresh (Nat.le_refl _)) hcl⟩
/-! ### {elt for target in iter if ..}, ints -/
def tSc (w : World) (wi : TI) (g : TG) (tt : TT) (tk : TE) (vs : List Nat) : TE := fun σ H Q => wi σ H fun J H1 => ∀ D, H1 D = none → ∃ W : Nat → Nat → Hp → Prop, (∃ m, W 0 m (upd H1 D (SetO w D (fun _ => false) 0))) ∧ ∀ i m H, W i m H →
  (J.stop i H ∧ Q (.ref D) H) ∨ (J.go i H ∧ ∃ Nx : Hp → Prop, (∀ H', Nx H' → ∃ m', m' < m ∧ W (i + 1) m' H') ∧ ∀ x H', J.yld i H x H' → g x (wipe σ vs) H' fun σ2 H2 => wipe σ2 vs = wipe σ vs ∧ tt σ2 H2 fun b H3 =>
    if b = true then tk σ2 H3 fun y H4 => ∃ (k : Int) (S : Int → Bool) (c : Nat), y = .int k ∧ H4 D = some (SetO w D S c) ∧ c + 1 < scanBound ∧ Nx (upd H4 D (SetO w D (fun j => S j || decide (j = k)) (if S k = true then c else c + 1))) else Nx H3)
section
variable {X : Cx}
theorem sc_core {pins : List (Addr × Obj)} {s : Shared} {σ : L2.St} {H : Hp} {Q : VK} {kx tg iter : Expr} {ifs : List Expr} {scope : Scope} {own : List (Str × Nat)} {pos pos' : Pos} {wi : TI} {g : TG} {tt : TT} {tk : TE} {use : Option (Value → Sem Unit)} {Qf : Value → Shared → Prop}
    (hc : X.calm = true) (hN : X.N.Nodup) (I : Inv X pins σ H s) (hi : PI X tg iter wi) (ok : BlkOk X.N X.env.scope scope own)
    (hg : ∀ (s : Shared) (H : Hp) (C : Addr) (cl : List (Str × Addr)) (fp : List Addr), PG (X.blk s H scope (compEnvC scope cl C X.env) fp) tg g) (ht : ∀ (s : Shared) (H : Hp) (C : Addr) (cl : List (Str × Addr)) (fp : List Addr), PTs (X.blk s H scope (compEnvC scope cl C X.env) fp) ifs tt)
    (hk : ∀ (s : Shared) (H : Hp) (C : Addr) (cl : List (Str × Addr)) (fp : List Addr), PE (X.blk s H scope (compEnvC scope cl C X.env) fp) kx tk) (hs : ∀ x, foldedSetIterable iter X.env x = pure x)
    (h : tSc X.w wi g tt tk (own.map (·.2)) σ H Q)
    (hRR : ∀ D C s' m H', Inv X pins σ H' s' → Q (.ref D) H' → s'.heap.Ns C m → FpOk X pins H' C → compPost (model X.prog X.w) X.A X.xe use Qf (.ref D) C (.ok .next) s') :
    wpAny (model X.prog X.w) X.A (comprehension (.SetComp kx [⟨tg, iter, ifs, 0⟩] scope pos) scope X.env pos' (newSet (.type "set")) false (eval iter X.env) use) Qf X.xe s := by
  have hfree : ∀ y ∈ scope.names, y.2 = .free → ∃ c, X.env.cells.lookup y.1 = some c := fun y hy e => by
    rcases ok.free y hy e with k | k
    · exact I.ok.has _ (.inl k)
    · exact I.ok.has _ (.inr k)
  refine wpAny_comprehension_free (use := use) rfl hs (closure_ok hfree) ok.kind (fun y hy e => by rw [ok.uniq y hy, e])
    (thn (hi.run pins s σ H _ I h) fun xv s1 hx => thn hx fun itv s2 h2 => ?_)
  obtain ⟨it, fp, tn, J, H2, e, I2, T, st2, f2, q⟩ := h2
  subst e
  refine wpAny_newSet_raw fun led hled => ?_
  subst hled
  refine newEnv_comp ?_
  generalize hD : s2.heap.objs.size = D
  have hDn : H2 D = none := I2.hok.fresh (Nat.le_of_eq hD)
  obtain ⟨W, ⟨m0, w0⟩, turn⟩ := q D hDn
  -- the new list
  generalize hs3 : ({ s2 with heap := s2.heap.push { cls := .type "set", dict := none, data := .set #[] 0 (.fresh 0 0 (!X.w.params.followText "set-order")) } } : Shared) = s3
  have I3 : Inv X pins σ (upd H2 D (SetO X.w D (fun _ => false) 0)) s3 := by
    rw [← hs3]
    refine I2.laid (t' := s2.toks) (fun b o e => Heap.get?_push_of_some _ e) (Nat.le_of_eq hD) ?_
    rw [← hD]
    exact setO_new (setR_fresh X.w)
  have h3 : s3.heap = s2.heap.push { cls := .type "set", dict := none, data := .set #[] 0 (.fresh 0 0 (!X.w.params.followText "set-order")) } := by rw [← hs3]
  have sz : ∀ b ∈ fp, b < s2.heap.objs.size := fun b hb => by
    obtain ⟨o, e, _⟩ := T.obj _ _ st2 b hb
    exact Heap.lt_size e
  have f3 : ∀ b ∈ fp, FpOk X pins (upd H2 D (SetO X.w D (fun _ => false) 0)) b ∧ b < s3.heap.objs.size := fun b hb => by
    have hlt := sz b hb
    refine ⟨⟨?_, (f2 b hb).2⟩, by rw [h3, Heap.size_push]; exact Nat.lt_succ_of_lt hlt⟩
    rw [upd_ne (by rw [← hD]; exact Nat.ne_of_lt hlt)]
    exact (f2 b hb).1
  have st3 : tn 0 s3.heap := T.keep _ _ _ st2 fun b _ o e => by rw [h3]; exact Heap.get?_push_of_some _ e
  have I4 := block_start I3 ok hN f3
  have pg := hg s3 (upd H2 D (SetO X.w D (fun _ => false) 0)) s3.heap.objs.size (cellsFrom (s3.heap.objs.size + 1) scope.names (cloFrom X.env.cells scope.names [])) fp
  have pt := ht s3 (upd H2 D (SetO X.w D (fun _ => false) 0)) s3.heap.objs.size (cellsFrom (s3.heap.objs.size + 1) scope.names (cloFrom X.env.cells scope.names [])) fp
  have pk := hk s3 (upd H2 D (SetO X.w D (fun _ => false) 0)) s3.heap.objs.size (cellsFrom (s3.heap.objs.size + 1) scope.names (cloFrom X.env.cells scope.names [])) fp
  show codeAny _ _ (.compStart (.SetComp kx [⟨tg, iter, ifs, 0⟩] scope pos) 0 (.ref it) (.ref D) (compEnvC scope (cellsFrom (s3.heap.objs.size + 1) scope.names (cloFrom X.env.cells scope.names [])) s3.heap.objs.size X.env)) (compPost (model X.prog X.w) X.A X.xe use Qf (.ref D) s3.heap.objs.size) { s3 with heap := pushCells (s3.heap.push { cls := .type "dict", data := .dict #[] }) scope.names }
  have nfp : ∀ b ∈ fp, (upd H2 D (SetO X.w D (fun _ => false) 0)) b = none := fun b hb => (f3 b hb).1.1
  generalize hce : compEnvC scope (cellsFrom (s3.heap.objs.size + 1) scope.names (cloFrom X.env.cells scope.names [])) s3.heap.objs.size X.env = ce at I4 pg pt pk ⊢
  have cL : ce.locals = s3.heap.objs.size := by subst hce; rfl
  generalize hH3 : upd H2 D (SetO X.w D (fun _ => false) 0) = H3 at I3 I4 pg pt pk w0 nfp f3
  generalize hs4 : ({ s3 with heap := pushCells (s3.heap.push { cls := .type "dict", data := .dict #[] }) scope.names } : Shared) = s4 at I4 ⊢
  have st4 : tn 0 s4.heap := T.keep _ _ _ st3 fun b _ o e => by rw [← hs4]; exact pushCells_keeps _ _ _ _ (Heap.get?_push_of_some _ e)
  have stat : ∀ {σ' : L2.St} {H' : Hp} {s' : Shared}, Inv (X.blk s3 H3 scope ce fp) [] σ' H' s' → (∀ b ∈ fp, H' b = none) → ∀ b ∈ fp, FpOk (X.blk s3 H3 scope ce fp) [] H' b := fun {σ' H' s'} I' hn b hb =>
    ⟨hn b hb, (I'.ok.exf b hb).1, I'.ok.exfs b hb, .inl hb, fun x c e => (I'.ok.exf b hb).2 x c e, fun p hp => absurd (show p ∈ ([] : List (Addr × Obj)) ++ [] from hp) (by simp)⟩
  have loop : codeAny (model X.prog X.w) X.A (.compLoop (.SetComp kx [⟨tg, iter, ifs, 0⟩] scope pos) 0 (.ref it) (.ref D) ce) (compPost (model X.prog X.w) X.A X.xe use Qf (.ref D) s3.heap.objs.size) s4 := by
    refine compLoop_set_any (fun n s' => ∃ i H', Inv (X.blk s3 H3 scope ce fp) [] (wipe σ (own.map (·.2))) H' s' ∧ tn i s'.heap ∧ (∀ b ∈ fp, H' b = none) ∧ W i n H') ?_ m0 ⟨0, H3, I4, st4, nfp, w0⟩
    rintro n s5 ⟨i, H5, I5, st5, n5, w5⟩
    rcases turn i n H5 w5 with ⟨stop, qq⟩ | ⟨go, Nx, hNx, step⟩
    · have td := T.done (X.blk s3 H3 scope ce fp) rfl rfl rfl hc i [] s5 _ H5 (fun _ _ => False) I5 (stat I5 n5) st5 stop
      refine thnF td fun r s6 ⟨hr, I6⟩ => ?_
      subst hr
      -- back in the def's context
      have I7 : Inv X pins σ H5 s6 := I3.call' (ch := fp) I6.os I6.base I6.hok I6.bare fun b hb => ⟨(f3 b hb).1.2.2.2.1, (f3 b hb).1.2.1, (f3 b hb).1.2.2.2.2.1, (f3 b hb).1.2.2.2.2.2⟩
      have nC : H5 s3.heap.objs.size = none := by
        have z : H5 ce.locals = none := I6.free
        rw [cL] at z
        exact z
      obtain ⟨m, hn, _⟩ := I6.loc
      have hn : s6.heap.Ns ce.locals m := hn
      rw [cL] at hn
      exact hRR D s3.heap.objs.size s6 m H5 I7 qq hn (I3.fpOk (Nat.le_refl _) nC)
    · have ti := T.item (X.blk s3 H3 scope ce fp) rfl rfl rfl hc i [] s5 _ H5 (fun _ _ => False) I5 (stat I5 n5) st5 go
      refine thnF ti fun r s6 ⟨u, hr, h6⟩ => ?_
      subst hr
      refine thnF h6 fun _ s7 ⟨x, H7, I7, r7, y7, st7, n7⟩ => ?_
      have I7' := I7.pinned (stat I7 n7) (T.obj _ _ st7)
      refine thnF (pg.run _ s7 _ H7 x u _ I7' r7 (step x H7 y7)) fun _ s8 ⟨σ8, H8, I8, hw8, q8⟩ => ?_
      refine thnF (pt.run _ s8 σ8 H8 _ I8 q8) fun b s9 ⟨H9, I9, q9⟩ => ?_
      -- the turn's end
      have fin : ∀ {s' : Shared} {H' : Hp}, Inv (X.blk s3 H3 scope ce fp) ([] ++ pinsAt fp s7.heap) σ8 H' s' → Nx H' → ∃ m, m < n ∧ ∃ i H', Inv (X.blk s3 H3 scope ce fp) [] (wipe σ (own.map (·.2))) H' s' ∧ tn i s'.heap ∧ (∀ b ∈ fp, H' b = none) ∧ W i m H' := fun {s' H'} I' nx => by
        obtain ⟨m', hm, w'⟩ := hNx H' nx
        have pin' : ∀ b ∈ fp, ∀ o, s7.heap.get? b = some o → s'.heap.get? b = some o ∧ H' b = none := fun b hb o e =>
          let z := I'.pin (b, o) (List.mem_append_right _ (List.mem_append_right _ (mem_pinsAt hb e)))
          ⟨z.1, z.2.1⟩
        have hl : (wipe σ (own.map (·.2))).length = σ8.length := by rw [← hw8, wipe_length]
        refine ⟨m', hm, i + 1, H', (I'.unpinned (pins := [])).weak hl (fun j v e => ?_), T.keep _ _ _ st7 fun b hb o e => (pin' b hb o e).1, fun b hb => ?_, w'⟩
        · rw [← hw8] at e
          exact (wipe_some e).1
        · obtain ⟨o, e, _⟩ := T.obj _ _ st7 b hb
          exact (pin' b hb o e).2
      cases b with
      | false =>
        simp only [Bool.false_eq_true, if_false] at q9 ⊢
        exact fin I9 q9
      | true =>
        simp only [if_true] at q9 ⊢
        refine thnF (pk.run _ s9 σ8 H9 _ I9 q9) fun z s10 ⟨yk, H10, I10, r10, k, S, c, ek, hD10, room, nx⟩ => ?_
        subst ek
        obtain ⟨tk', rfl⟩ := r10
        refine setR_add (setO_get (X := X.blk s3 H3 scope ce fp) I10 hD10) room fun h' sb new => ?_
        have hex : ∃ u, h'.get? D = some u := by
          have ⟨o, _, _, _, ho, _⟩ := new
          exact ⟨o, ho⟩
        exact fin (Inv.write (X := X.blk s3 H3 scope ce fp) I10 (e := D) (t' := s10.toks + 1) (by rw [hD10]; trivial) (.inl rfl) (fun b u hb hu => (sb.2 b hb).trans hu) hex (setO_new new)) nx
  exact codeAny_compStart_set loop (T.self X.A 0 _ _ _ st4 loop)
theorem pe_sc {kx tg iter : Expr} {ifs : List Expr} {scope : Scope} {own : List (Str × Nat)} {pos : Pos} {wi : TI} {g : TG} {tt : TT} {tk : TE} (hc : X.calm = true) (hN : X.N.Nodup) (hi : PI X tg iter wi) (ok : BlkOk X.N X.env.scope scope own)
    (hg : ∀ (s : Shared) (H : Hp) (C : Addr) (cl : List (Str × Addr)) (fp : List Addr), PG (X.blk s H scope (compEnvC scope cl C X.env) fp) tg g) (ht : ∀ (s : Shared) (H : Hp) (C : Addr) (cl : List (Str × Addr)) (fp : List Addr), PTs (X.blk s H scope (compEnvC scope cl C X.env) fp) ifs tt)
    (hk : ∀ (s : Shared) (H : Hp) (C : Addr) (cl : List (Str × Addr)) (fp : List Addr), PE (X.blk s H scope (compEnvC scope cl C X.env) fp) kx tk) (hs : ∀ x, foldedSetIterable iter X.env x = pure x := by intro _; rfl) :
    PE X (.SetComp kx [⟨tg, iter, ifs, 0⟩] scope pos) (tSc X.w wi g tt tk (own.map (·.2))) := by
  refine ⟨fun pins s σ H Q I h => ?_⟩
  rw [arm_eval_SetComp]
  refine sc_core hc hN I hi ok hg ht hk hs h fun D C s' m H' I' q hn f => ⟨m, hn, fun h'' sb => ?_⟩
  obtain ⟨f0, f1, f2, f3, f4, f5⟩ := f
  exact ⟨.ref D, H', I'.turned (t' := s'.toks) (fun b o hb e => (sb.2 b hb).trans e) f0 f1 f3 f4 f5, rfl, q⟩
end
/-- a set comprehension over J, told by the turn -/
theorem sc_it {w : World} {J : It} {n : Nat} {G : Hp → Prop} {Y : Nat → Hp → V → Hp → Prop} (wk : Walk J n G Y) {g : TG} {tt : TT} {tk : TE} {vs : List Nat} {σ : L2.St} {H1 : Hp} {D : Addr} {Qd : Hp → Prop} (Pv : Nat → Hp → Prop) (h0 : Pv 0 (upd H1 D (SetO w D (fun _ => false) 0))) (hG : ∀ i H, i ≤ n → Pv i H → G H)
    (hs : ∀ i x H H', i < n → Pv i H → Y i H x H' → g x (wipe σ vs) H' fun σ2 H2 => wipe σ2 vs = wipe σ vs ∧ tt σ2 H2 fun b H3 =>
      if b = true then tk σ2 H3 fun y H4 => ∃ (k : Int) (S : Int → Bool) (c : Nat), y = .int k ∧ H4 D = some (SetO w D S c) ∧ c + 1 < scanBound ∧ Pv (i + 1) (upd H4 D (SetO w D (fun j => S j || decide (j = k)) (if S k = true then c else c + 1))) else Pv (i + 1) H3) (hd : ∀ H, Pv n H → Qd H) :
    ∃ W : Nat → Nat → Hp → Prop, (∃ m, W 0 m (upd H1 D (SetO w D (fun _ => false) 0))) ∧ ∀ i m H, W i m H →
      (J.stop i H ∧ Qd H) ∨ (J.go i H ∧ ∃ Nx : Hp → Prop, (∀ H', Nx H' → ∃ m', m' < m ∧ W (i + 1) m' H') ∧ ∀ x H', J.yld i H x H' → g x (wipe σ vs) H' fun σ2 H2 => wipe σ2 vs = wipe σ vs ∧ tt σ2 H2 fun b H3 =>
        if b = true then tk σ2 H3 fun y H4 => ∃ (k : Int) (S : Int → Bool) (c : Nat), y = .int k ∧ H4 D = some (SetO w D S c) ∧ c + 1 < scanBound ∧ Nx (upd H4 D (SetO w D (fun j => S j || decide (j = k)) (if S k = true then c else c + 1))) else Nx H3) := by
  refine ⟨fun i m H => m = n - i ∧ i ≤ n ∧ Pv i H, ⟨n, by simp, Nat.zero_le _, h0⟩, ?_⟩
  rintro i m H ⟨rfl, hi, p⟩
  have q := hG i H hi p
  by_cases hlt : i < n
  · refine .inr ⟨wk.goes i H hlt q, Pv (i + 1), fun H' p' => ⟨n - (i + 1), by omega, rfl, hlt, p'⟩, fun x H' y => hs i x H H' hlt p (wk.yields i H x H' hlt q y)⟩
  · have e : i = n := by omega
    subst e
    exact .inl ⟨wk.stops H q, hd H p⟩
end K15R
namespace K15R
open PySem PySem.Spec PyProof.Rows L2
/-! ### sorted(range(n), key=lambda k: (-penalties[k], k)) -/
section
variable {prog : Program} {w : World} {A : Around} {s : Shared}
/-- one call of the lambda: it keeps all that stood, and gives the key -/
theorem lam_key {f c c' a : Addr} {q x y : Str} {params : Arguments} {scope : Scope} {cl : List (Str × Addr)} {pm ctv : Value} {px py py2 p1 p2 p3 : Pos} {kk : Nat} {its : List Value} {ps : List Int} {k : Nat} {p : Int} {t : Tok}
    (hroom : A.depth < recursionLimit) (ho : s.heap.get? f = some (PySem.W.kla_obj "<lambda>" q params (.Tuple [.UnaryOp .USub (.Subscript (.Name x px) (.Name y py) p1) p2, .Name y py2] kk p3) scope cl pm c' ctv))
    (hkind : scope.kind = .function) (hco : scope.isCoroutine = false) (hgen : scope.isGenerator = false) (hcd : s.heap.CodeRec (.ref c') q)
    (hbind : ∀ v, bindArgs (PySem.W.kla_fn "<lambda>" q params (.Tuple [.UnaryOp .USub (.Subscript (.Name x px) (.Name y py) p1) p2, .Name y py2] kk p3) scope cl pm (.ref c') ctv) ⟨[v], []⟩ = pure [(y, v)])
    (hy : scope.names.lookup y = some .local) (hx : scope.names.lookup x = some .free) (hcell : ∀ z ∈ scope.names, z.2 ≠ .cell) (hc : cl.lookup x = some c) (hv : s.heap.IsCell c (some (.ref a)))
    (ht : IsTup s.heap a its.toArray) (hi : IntsAre its ps) (hp : ps[k]? = some p) (hlen : ps.length ≤ 1000) (hlim : s.heap.NoLimit)
    (hdx : (x == ("__debug__" : Str)) = false) (hdy : (y == ("__debug__" : Str)) = false) (hcx : (x == ("__classdict__" : Str)) = false) :
    wpAny (model prog w) A (call (.ref f) [.int (k : Nat) t]) (PySem.W.KeyPure (.tuple [.int (-p), .int (k : Nat)]) s) (fun _ _ => False) s := by
  refine wpAny_call (PySem.W.kla_callFunE hroom ho rfl hco hgen rfl hcd ?_)
  rw [hbind]
  refine wpAny_pure (wpAny_newFunctionEnv hcell (fun z hz => ?_) (fun h₁ hns hsb => ⟨hlim.fresh _ hsb, ?_⟩) hkind)
  · rw [List.mem_singleton.mp hz]
    exact hy
  have kp : ∀ b o, s.heap.get? b = some o → h₁.get? b = some o := fun b o e => hsb.extBut b o (Nat.ne_of_lt (Heap.lt_size e)) (Heap.get?_push_of_some _ e)
  show codeAny _ _ (.expr _ (PySem.W.envX q scope s.heap.objs.size f (.ref c') cl)) _ _
  have hny : ([(y, Value.int (k : Nat) t)] : List (Str × Value)).reverse.lookup y = some (Value.int (k : Nat) t) := by simp [List.lookup]
  refine PySem.W.kla_codeExpr (wpAny_Tuple_spliced (args_cons (UnaryOp_ (Subscript_ (wpAny_Name (wpAny_loadName_free hkind hx hc (hv.keeps kp) (wpAny_Name (wpAny_loadName_local hkind hy hns hny ?_) hdy) hcx) hdx))) rfl))
  obtain ⟨hk, -⟩ := List.getElem?_eq_some_iff.mp hp
  have hl := hi.length
  obtain ⟨t2, e2⟩ := PyProof.Rows.IntsAre.int_at hi k its[k] (List.getElem?_eq_getElem (by omega))
  have e3 : ps.getD k 0 = p := by
    rw [List.getD_eq_getElem?_getD, hp] <;> rfl
  rw [e3] at e2
  have ht1 : IsTup h₁ a its.toArray := by
    obtain ⟨o, r1, r2⟩ := ht
    exact ⟨o, kp _ _ r1, r2⟩
  refine subscriptTail_builtinR (x := its[k]) ht1.typeIs slot_tuple_getitem.lookup (PyProof.Rows.getItem_tuple (j := k) ht1 (by omega) (by omega) ?_ ?_ ⟨rfl, ?_⟩) rfl
  · unfold seqIndex?
    rw [List.size_toArray]
    simp
    omega
  · simp
  rw [e2]
  refine PyProof.Rows.neg_int (args_cons (wpAny_Name (wpAny_loadName_local hkind hy hns hny (args_nil ⟨by show 2 ≤ sizeLine; decide, ?_⟩)) hdy) rfl)
  refine ⟨_, _, rfl, fun b o e => Heap.get?_push_of_some _ (kp b o e), ?_⟩
  exact .tuple (Heap.get?_push_size _ rfl) rfl rfl (.cons (.int _ _) (.cons (.int _ _) .nil))

/-- sorted(a range 0 .. n, key=f), f pure -/
theorem sorted_key_range {E : Value → Shared → Prop} {r : Addr} {f : Addr} {n : Nat} {t u v : Tok} {Q : Value → Shared → Prop} (k : Nat → PyData) (hh : A.handled = none) (hr : IsRange s.heap r 0 n 1 t u v) (hn : n ≤ 1000)
    (hal : PySem.W.AllAlike ((List.range n).map k)) (hk : PySem.W.Sortable ((List.range n).map k)) (hu : ∀ x, x ∈ List.range n → A.units + 2 + (k x).depth < cLine)
    (turn : ∀ (v : Value) (i : Nat), (∃ t, v = Value.int (i : Nat) t) → i ∈ List.range n → ∀ (h : Heap) (tk : Nat), (∀ b o, s.heap.get? b = some o → h.get? b = some o) →
      wpAny (model prog w) A.in1.in1 (call (.ref f) [v]) (PySem.W.KeyPure (k i) { s with heap := h, toks := tk }) (fun _ _ => False) { s with heap := h, toks := tk })
    (h : ∀ (out : List Value) (c : Nat) (h1 h' : Heap) (tk : Nat) (p : Addr), (∀ b o, s.heap.get? b = some o → h1.get? b = some o) → (∀ b o, h1.get? b = some o → h'.get? b = some o) → h1.objs.size ≤ p → h'.get? p = some (seqObj "list" (List.toArray out) c) → out.length = n →
      PySem.W.EachIs (fun v (i : Nat) => ∃ t, v = Value.int (i : Nat) t) out ((List.range n).mergeSort (PySem.W.dataLe false k)) → Q (.ref p) { s with heap := h', toks := tk }) :
    wpAny (model prog w) A (call (.builtin "sorted") [.ref r] [(Str.ofString "key", .ref f)]) Q E s := by
  refine call_function_entry_kw kind_sorted plain_sorted entry_sorted (ksk_s1 _ _) ?_
  unfold Builtin.«sorted»
  refine wpAny_bind (m := checkCount "sorted" 1 1 _) (wpAny_pure ?_)
  have hsz : Builtin.Range.rangeSize 0 (n : Int) 1 = n := by
    have q := rangeSize_nat 0 (n : Int)
    simpa using q
  refine wpAny_bind (collect_range (A := A.in1) (n := n) hh hr (small_one (by omega) (by omega) (by omega) (by omega)) hsz (by omega) fun h' tk acc kp hi => ?_)
  have hsl := sizeLine_eq
  have hal2 : acc.toList.length = n := by rw [Array.length_toList]; exact hi.1
  refine wpAny_bind (wpAny_newList ?_ (by rw [hal2]; omega))
  show wpAny _ _ _ _ _ { s with heap := h'.push (seqObj "list" acc.toList.toArray 0), toks := tk }
  have hget : (h'.push (seqObj "list" acc.toList.toArray 0)).get? h'.objs.size = some (seqObj "list" acc.toList.toArray 0) := Heap.get?_push_size _ rfl
  have each : PySem.W.EachIs (fun v (i : Nat) => ∃ t, v = Value.int (i : Nat) t) acc.toList (List.range n) := by
    refine PySem.W.EachIs.of_zip (by rw [hal2, List.length_range]) fun p hp => ?_
    obtain ⟨j, hj⟩ := List.mem_iff_getElem?.mp hp
    rw [List.getElem?_zip_eq_some] at hj
    obtain ⟨h1, h2⟩ := hj
    obtain ⟨tt, ht⟩ := hi.2 j p.1 (by rw [← Array.getElem?_toList]; exact h1)
    have h3 : j = p.2 := by
      rw [List.getElem?_eq_some_iff] at h2
      obtain ⟨q1, q2⟩ := h2
      rw [List.getElem_range] at q2
      exact q2
    refine ⟨tt, ?_⟩
    rw [ht, ← h3]
    congr 1
    omega
  have np : ∀ b o, h'.get? b = some o → b ≠ h'.objs.size := fun b o e => Nat.ne_of_lt (Heap.lt_size e)
  refine wpAny_bind (wpAny_holding (wpAny_call_entry_kw slot_list_sort ⟨_, hget, rfl⟩ entry_list_sort ?body (ksk_l1 _ _)))
  case body =>
    show wpAny (model prog w) A.in1.in1 (Builtin.«list.sort» ⟨[.ref h'.objs.size], [(Str.ofString "key", .ref f)]⟩) _ _ _
    rw [ksk_t1]
    refine PySem.W.keyH_tree (kz := (List.range n).map k) (s := { s with heap := h'.push (seqObj "list" acc.toList.toArray 0), toks := tk }) hget (by rw [List.length_map, List.length_range, hal2]) (by rw [hal2]; omega) hal hk (PySem.W.bound_map (A := A.in1.in1) hu)
      (PySem.W.keyH_turns (s := { s with heap := h'.push (seqObj "list" acc.toList.toArray 0), toks := tk }) each fun v x hR hx h tk2 kp2 => turn v x hR hx h tk2 fun b o e => kp2 b o (np b o (kp b o e)) (Heap.get?_push_of_some _ (kp b o e))) fun h2 tk2 out c kp2 hD ko => ?_
    refine ⟨_, rfl, wpAny_pure ⟨_, rfl, h out c h' h2 tk2 h'.objs.size kp (fun b o e => kp2 b o (np b o e) (Heap.get?_push_of_some _ e)) (Nat.le_refl _) hD ?_ (PySem.W.keyedOut_each k ko each)⟩⟩
    have := ko.length (by rw [List.length_map, List.length_range]; exact hal2.symm)
    rw [this, hal2]
end
/-- range(n) as a value -/
theorem cr_range1 {X : Cx} : CallR X (.type "range") (fun vs H Q => ∃ n, vs = [V.int n] ∧ ∀ p, H p = none → Q (.ref p) (upd H p (.rng 0 n))) := by
  intro pins s σ H vs us Q I r h
  obtain ⟨n, rfl, q⟩ := h
  obtain ⟨u1, rfl, ri⟩ := vals1 r
  obtain ⟨t, rfl⟩ := ri
  refine call_range_1 ⟨.ref s.heap.objs.size, upd H s.heap.objs.size (.rng 0 n), I.laid (t' := s.toks + 1 + 1) (fun b o e => Heap.get?_push_of_some _ e) (Nat.le_refl _) ?_, rfl, q _ (I.hok.fresh (Nat.le_refl _))⟩
  exact ⟨_, _, _, Heap.get?_push_size _ rfl⟩
def sortKey (ps : List Int) (i : Nat) : PyData := .tuple [.int (-(ps.getD i 0)), .int (i : Int)]
/-- the indices, greater penalties first, of equal ones the lower index first -/
def ordr (ps : List Int) : List Nat := (List.range ps.length).mergeSort (PySem.W.dataLe false (sortKey ps))
theorem vals_each : ∀ {out : List Value} {bs : List Nat}, PySem.W.EachIs (fun v (i : Nat) => ∃ t, v = Value.int (i : Nat) t) out bs → Vals (bs.map fun j => V.int (j : Nat)) out
  | _, _, .nil => .nil
  | _, _, .cons h t => .cons h (vals_each t)
open LamX in
def tSortLam (K : PySem.W.Frag) (T : List (Addr × Str)) (i : Nat) (te : TE) : TE := fun σ H Q => te σ H fun v H1 => ∃ (r a : Addr) (n : Nat) (ps : List Int), v = .ref r ∧ H1 r = some (.rng 0 n) ∧ n ≤ 1000 ∧ σ[i]? = some (some (.ref a)) ∧ SqT K H1 a (ps.map V.int) ∧ ps.length = n ∧ Tabs T H1 ∧
  ∀ H2 p, ExtN H1 H2 → Tabs T H2 → H2 p = none → Q (.ref p) (upd H2 p (.lst ((ordr ps).map fun j => V.int (j : Nat))))
open LamX in
theorem pe_sortLam {X : Cx} {T : List (Addr × Str)} {c P : Addr} {i : Nat} {x y : Str} {e : Expr} {te : TE} {params : Arguments} {scope : Scope} {p pos lpos kpos px py py2 p1 p2 p3 : Pos} {kk : Nat} (hc : X.calm = true) (hr : Room 1 X.A) (hg : Gl X "sorted") (hm : X.mg "sorted" = none)
    (TB : TabB X.base X.mg c P) (hcode : X.env.code = .ref c) (hmT : (P, X.env.qual ++ "<lambda>") ∈ T) (hu : ∀ p ∈ T, p.1 = P → p.2 = X.env.qual ++ "<lambda>")
    (hN : X.N[i]? = some x) (hcx : X.env.scope.names.lookup x = some .cell) (hdef : defaultsOf params X.env = ([], [])) (he : PE X e te)
    (hkind : scope.kind = .function) (hco : scope.isCoroutine = false) (hgen : scope.isGenerator = false) (hy : scope.names.lookup y = some .local) (hx : scope.names.lookup x = some .free) (hcell : ∀ z ∈ scope.names, z.2 ≠ .cell) (hfr : ∀ z ∈ scope.names, z.2 = .free → z.1 = x)
    (hbind : ∀ (q : Str) (cl : List (Str × Addr)) (pm cdv ctv v : Value), bindArgs (PySem.W.kla_fn "<lambda>" q params (.Tuple [.UnaryOp .USub (.Subscript (.Name x px) (.Name y py) p1) p2, .Name y py2] kk p3) scope cl pm cdv ctv) ⟨[v], []⟩ = pure [(y, v)])
    (hdx : (x == ("__debug__" : Str)) = false) (hdy : (y == ("__debug__" : Str)) = false) (hcdx : (x == ("__classdict__" : Str)) = false)
    (na : starEach [e] X.env = (false, eval e X.env) :: starEach [] X.env := by rfl) :
    PE X (.Call (.Name "sorted" p) [e] [⟨some (Str.ofString "key"), .Lambda params (.Tuple [.UnaryOp .USub (.Subscript (.Name x px) (.Name y py) p1) p2, .Name y py2] kk p3) scope lpos, kpos⟩] pos) (tSortLam X.K T i te) := by
  refine ⟨fun pins s σ H Q I h => ?_⟩
  refine wpAny_Call_Name_kw (ld_blt I hg hm boot_sorted ?_ (by decide) (by decide))
  refine PyProof.Rows.callWith_kw (args_cons (thn (he.run pins s σ H _ I h) fun v s1 ⟨xv, H1, I1, r1, q1⟩ => args_nil ?_) na) (by rw [na] <;> rfl) (by rw [na] <;> rfl) rfl rfl
  obtain ⟨r, a, n, ps, rfl, hrr, hn, ha, hps, hl, hT, q⟩ := q1
  cases r1
  have hfree : ∀ z ∈ scope.names, z.2 = .free → ∃ c, X.env.cells.lookup z.1 = some c := fun z hz e => I1.ok.has _ (.inl (by rw [hfr z hz e]; exact hcx))
  show wpAny _ _ (evalAll ((do let v ← eval (.Lambda params _ scope lpos) X.env; standAt pos; pure v) :: [])) _ _ s1
  refine wpAny_evalAll_cons (wpAny_bind (lam_make2 I1 TB hcode hmT hu hT hdef hfree fun f c' pm ctv H2 s2 I2 eN T2 hf nf nfr hcoo => wpAny_bind (wpAny_standAt (wpAny_pure (wpAny_evalAll_nil ?_)))))
  show wpAny _ _ (call (.builtin "sorted") [.ref r] [(Str.ofString "key", .ref f)]) _ _ s2
  obtain ⟨t, u, w, hrange⟩ := I2.hok r _ (eN r _ hrr fun ps z => by cases z)
  obtain ⟨c0, hc0⟩ := I1.ok.has x (.inl hcx)
  obtain ⟨its, rv, hit, hz⟩ := I1.tuple hps
  have hi : IntsAre its ps := rv.ints
  subst hl
  obtain ⟨its2, rv2, hit2, hz2⟩ : ∃ its : List Value, Vals (ps.map V.int) its ∧ IsTup s2.heap a its.toArray ∧ True := by
    rcases hps with hps | hps
    · rcases hps with hps | ⟨ob, hps⟩
      · obtain ⟨its, r, p, _⟩ := I2.tuple (SqT.of (eN a _ hps fun ps z => by cases z))
        exact ⟨its, r, p, trivial⟩
      · obtain ⟨its, r, p, _⟩ := I2.tuple (X := X) (xs := ps.map V.int) (.inl (.inr ⟨ob, eN a _ hps fun ps z => by cases z⟩))
        exact ⟨its, r, p, trivial⟩
    · obtain ⟨its, r, p, _⟩ := I2.tuple (X := X) (xs := ps.map V.int) (.inr hps)
      exact ⟨its, r, p, trivial⟩
  have hi2 : IntsAre its2 ps := rv2.ints
  obtain ⟨m, hns, hlk⟩ := I2.loc
  obtain ⟨u', ru', lk⟩ := hlk i x (.ref a) hN ha (.inr (.inl hcx))
  obtain rfl : u' = .ref a := ru'
  have hcellv : s2.heap.IsCell c0 (some (.ref a)) := by
    rcases lk with ⟨k, _⟩ | ⟨_, c1, e1, z⟩
    · have k : X.env.scope.names.lookup x = some .local := k
      rw [hcx] at k
      cases k
    · rw [hc0] at e1
      cases e1
      exact z
  have hclo : (cloFrom X.env.cells scope.names []).lookup x = some c0 := by
    obtain ⟨c1, e1⟩ := mem_lookup (cloFrom_has (cells := X.env.cells) (acc := []) (PySem.mem_of_lookup hx))
    rcases cloFrom_mem (PySem.mem_of_lookup e1) with hm | ⟨_, h2⟩
    · cases hm
    · rw [e1, h2, hc0] <;> rfl
  have hcr : s2.heap.CodeRec (.ref c') (X.env.qual ++ "<lambda>") := by
    obtain ⟨⟨oc, vs, t, h1, h2, h3⟩, _, _⟩ := I2.hok c' _ hcoo
    exact ⟨c', oc, vs, t, rfl, h1, h2, h3⟩
  have hun := hr.un
  have hdp := hr.dp
  refine sorted_key_range (sortKey ps) (I2.ok.hd hc) hrange hn (PySem.W.AllAlike.of fun _ _ => by simp [sortKey, PySem.W.alike, PySem.W.alikeAll]) (PySem.W.Sortable.tuples fun _ => ⟨_, _, rfl⟩) (fun j _ => ?_) (fun v j ⟨tk0, ev⟩ hj h tk kp => ?_) fun out cc h1 h' tk pp k1 k2 hle hob hlen hea => ?_
  · have hd : (sortKey ps j).depth = 1 := by simp [sortKey, PyData.depth, PyData.depthAll]
    omega
  · subst ev
    have hjl : j < ps.length := List.mem_range.mp hj
    have e5 : ps[j]? = some (ps.getD j 0) := by
      rw [List.getD_eq_getElem?_getD, List.getElem?_eq_getElem hjl] <;> rfl
    obtain ⟨c2, oc, vs, tt, e2, z1, z2, z3⟩ := hcr
    have hdp2 : X.A.in1.in1.depth < recursionLimit := by
      show X.A.depth < recursionLimit
      omega
    refine lam_key (s := { s2 with heap := h, toks := tk }) hdp2 (kp _ _ hf) hkind hco hgen ⟨c2, oc, vs, tt, e2, kp _ _ z1, z2, z3⟩ (fun v => hbind _ _ _ _ _ v) hy hx hcell hclo (hcellv.keeps kp) ?_ hi2 e5 (by omega) (I2.nolimit.keeps kp) hdx hdy hcdx
    obtain ⟨o, r1, r2⟩ := hit2
    exact ⟨o, kp _ _ r1, r2⟩
  · have Ia : Inv X pins σ H2 { s2 with heap := h1, toks := tk } := I2.kept k1
    have nn : H2 pp = Option.none := Ia.hok.fresh hle
    have hsl := sizeLine_eq
    have hvals := vals_each hea
    have hll : ((ordr ps).map fun j => V.int (j : Nat)).length ≤ sizeLine := by
      have := hvals.length
      show ((List.mergeSort _ _).map _).length ≤ _
      rw [this, hlen]
      omega
    have Ib : Inv X pins σ (upd H2 pp (.lst ((ordr ps).map fun j => V.int (j : Nat)))) { s2 with heap := h', toks := tk } := Ia.laid (t' := tk) k2 hle ⟨hll, out, cc, hvals, hob⟩
    exact ⟨.ref pp, _, Ib, rfl, q H2 pp eN T2 nn⟩
end K15R
namespace K15
open PySem PySem.Spec PyProof.Rows L2 K15R
/-! ### the text by names -/
def top (i : Nat) : Stmt := PySem.Challenge.pw_faultdue_k15_whole_papers_are_right.main.body.getD i (.Pass ⟨0, 0, 0, 0⟩)
abbrev s_is_integer : Stmt := top 1
abbrev s_above : Stmt := top 2
abbrev s_used : Stmt := top 3
abbrev s_is_within : Stmt := top 4
abbrev s_parts_most : Stmt := top 5
abbrev s_worst : Stmt := top 7
abbrev s_parts_open : Stmt := top 8
abbrev s_cut_at : Stmt := top 9
abbrev s_prices_of : Stmt := top 10
abbrev s_covers : Stmt := top 11
abbrev s_bound_of : Stmt := top 12
abbrev s_lengths_of : Stmt := top 14
abbrev s_work_of : Stmt := top 15
abbrev s_divisor : Stmt := top 16
abbrev s_rate_of : Stmt := top 17
abbrev s_latest_of : Stmt := top 18
abbrev s_longest : Stmt := top 19
abbrev s_horizon_of : Stmt := top 20
abbrev s_bodies : Stmt := top 22
abbrev s_jobs_in : Stmt := top 23
abbrev s_demand : Stmt := top 24
abbrev s_penalties : Stmt := top 25
abbrev s_analysis : Stmt := top 26
abbrev s_ends_of : Stmt := top 27
abbrev s_is_row : Stmt := top 30
abbrev s_is_held : Stmt := top 31
abbrev s_judge_sure : Stmt := top 32
abbrev s_judge_unsure : Stmt := top 33
abbrev s_judge : Stmt := top 34
abbrev s_looks : Stmt := top 36
abbrev s_is_crowded : Stmt := top 37
abbrev s_is_sure : Stmt := top 38
abbrev s_paper_of : Stmt := top 39
abbrev s_law_cell : Stmt := top 41
abbrev s_law_digits : Stmt := top 42
abbrev s_law_draw : Stmt := top 43
abbrev s_law_pick : Stmt := top 44
abbrev s_law_same : Stmt := top 45
abbrev s_law_path : Stmt := top 46
abbrev s_law_segments : Stmt := top 47
abbrev s_law_lengths : Stmt := top 48
abbrev s_law_work : Stmt := top 49
abbrev s_law_bodies : Stmt := top 50
abbrev s_law_in : Stmt := top 51
abbrev s_law_penalties : Stmt := top 52
abbrev s_law_demand : Stmt := top 53
abbrev s_law_recovery : Stmt := top 54
abbrev s_law_slack : Stmt := top 55
abbrev s_law_little : Stmt := top 56
abbrev s_law_horizon : Stmt := top 57
abbrev s_law_latest : Stmt := top 58
abbrev s_law_worst : Stmt := top 59
abbrev s_law_drawn : Stmt := top 60
abbrev s_law_is_crowded : Stmt := top 61
abbrev s_law : Stmt := top 62
abbrev FnP (K : PySem.W.Frag) (x : Str) (st : Stmt) (f : Addr) (fd : FuncData) : Prop := FunD K x x (defArgs st) (defBody st) (defScope st) [] [] f fd
def mkD (x : Str) (st : Stmt) : He.DefD := ⟨(x, none), x, x, defArgs st, defBody st, defScope st, [], []⟩
theorem hu65 {k : Nat} {A : Around} (hr : Room k A) : A.units + 65 < cLine := by have := hr.un; omega
theorem call_repr_bl {X : Cx} : CallR X (.builtin "repr") (fun xs H Q => ∃ b, xs = [.bl b] ∧ Q (.str (if b then "True" else "False")) H) := by
  intro pins s σ H xs us Q I r h
  obtain ⟨b, rfl, q⟩ := h
  obtain ⟨u, rfl, r1⟩ := vals1 r
  obtain rfl : u = Value.bool b := r1
  exact PySem.P.repr_of_bool ⟨.str _, H, I.tok _, ⟨_, rfl⟩, q⟩
theorem bt_len : bootBuiltins ("len" : Str) = some (.builtin "len") := by decide +kernel
theorem bt_range : bootBuiltins ("range" : Str) = some (.type "range") := by decide +kernel
theorem bt_sorted : bootBuiltins ("sorted" : Str) = some (.builtin "sorted") := by decide +kernel
theorem bt_min : bootBuiltins ("min" : Str) = some (.builtin "min") := by decide +kernel
theorem bt_max : bootBuiltins ("max" : Str) = some (.builtin "max") := by decide +kernel
theorem bt_sum : bootBuiltins ("sum" : Str) = some (.builtin "sum") := by decide +kernel
theorem bt_tuple : bootBuiltins ("tuple" : Str) = some (.type "tuple") := by decide +kernel
theorem bt_set : bootBuiltins ("set" : Str) = some (.type "set") := by decide +kernel
theorem bt_isinstance : bootBuiltins ("isinstance" : Str) = some (.builtin "isinstance") := by decide +kernel
theorem bt_int : bootBuiltins ("int" : Str) = some (.type "int") := by decide +kernel
theorem bt_all : bootBuiltins ("all" : Str) = some (.builtin "all") := by decide +kernel
theorem bt_repr : bootBuiltins ("repr" : Str) = some (.builtin "repr") := by decide +kernel
abbrev T1 (P : Addr) : List (Addr × Str) := [(P, "worst.<locals>.<lambda>")]
/-! ### rules with the written part told (within a comprehension) -/
abbrev rIx2 (K : PySem.W.Frag) : R2 := fun x y H Q => rIxL K x y H Q ∨ rIxT K x y H Q
theorem ix2 {X : Cx} {K : PySem.W.Frag} (h : X.K = K := by rfl) : IxR X (rIx2 K) := by subst h; exact IxR.or ix_list ix_tup
theorem in_seqK {X : Cx} {K : PySem.W.Frag} (h : X.K = K := by rfl) : OpR X (compareOp .In) (rIn K false) := by subst h; exact op_in_seq
abbrev rLenS (K : PySem.W.Frag) : List V → Hp → VK → Prop := fun xs H Q => ∃ p ys, xs = [.ref p] ∧ (SqL K H p ys ∨ SqT K H p ys) ∧ Q (.int ys.length) H
theorem len_seqK {X : Cx} {K : PySem.W.Frag} (h : X.K = K := by rfl) : CallR X (.builtin "len") (rLenS K) := by subst h; exact call_len_seq
theorem pg_tupK {X : Cx} {K : PySem.W.Frag} {es : List Expr} {k n : Nat} {t : TGs} {pos : Pos} (hc : X.calm = true) (h : PGs X es t) (hn : (assignEach es X.env).length = n := by rfl) (hst : (assignEach es X.env).findIdx? (·.1) = none := by rfl) (hK : X.K = K := by rfl) : PG X (.Tuple es k pos) (gTup K n t) := by
  subst hK
  exact pg_tup hc h hn hst
/-- what the module's names are -/
structure Bt (mg : Str → Option Value) : Prop where
  len_ : mg "len" = none
  range_ : mg "range" = none
  sorted_ : mg "sorted" = none
  min_ : mg "min" = none
  max_ : mg "max" = none
  sum_ : mg "sum" = none
  tuple_ : mg "tuple" = none
  set_ : mg "set" = none
  isinstance_ : mg "isinstance" = none
  int_ : mg "int" = none
  bool_ : mg "bool" = none
  enumerate_ : mg "enumerate" = none
  zip_ : mg "zip" = none
  all_ : mg "all" = none
  repr_ : mg "repr" = none
  mostEnd : ∃ u, mg "MOST_END" = some u ∧ RelV (.int 1000000000) u
end K15
/-! K15Ev1: plain values, what stands for them in the heap, evaluation as a plain function -/
set_option autoImplicit false
namespace K15
open PySem PySem.Spec PyProof.Rows L2 K15R
/-- values that never change -/
inductive PV where
  | i (n : Int) | b (x : Bool) | s (x : Str) | t (xs : List PV)
/-- what a slot holds: a plain value; a list read only, of the written part, or one's own; the box; a type; a range -/
inductive SV where
  | p (x : PV) | l (xs : List PV) | k (xs : List PV) | m (xs : List PV) | box | ty (n : String) | rg (n : Nat)
mutual
def Rep (H : Hp) : PV → V → Prop
  | .i n, v => v = .int n
  | .b x, v => v = .bl x
  | .s x, v => v = .str x
  | .t ps, v => ∃ a vs, v = .ref a ∧ H a = some (.tup vs) ∧ Reps H ps vs
def Reps (H : Hp) : List PV → List V → Prop
  | [], vs => vs = []
  | p :: ps, vs => ∃ w ws, vs = w :: ws ∧ Rep H p w ∧ Reps H ps ws
end
def TX (H H' : Hp) : Prop := ∀ a vs, H a = some (.tup vs) → H' a = some (.tup vs)
mutual
theorem Rep.mono {H H' : Hp} (e : TX H H') : ∀ (p : PV) (v : V), Rep H p v → Rep H' p v
  | .i n, v, h => h
  | .b x, v, h => h
  | .s x, v, h => h
  | .t ps, v, h => by
    obtain ⟨a, vs, e1, e2, e3⟩ := h
    exact ⟨a, vs, e1, e a vs e2, Reps.mono e ps vs e3⟩
theorem Reps.mono {H H' : Hp} (e : TX H H') : ∀ (ps : List PV) (vs : List V), Reps H ps vs → Reps H' ps vs
  | [], vs, h => h
  | p :: ps, vs, h => by
    obtain ⟨w, ws, e1, e2, e3⟩ := h
    exact ⟨w, ws, e1, Rep.mono e p w e2, Reps.mono e ps ws e3⟩
end
theorem Reps.length {H : Hp} : ∀ {ps : List PV} {vs : List V}, Reps H ps vs → vs.length = ps.length
  | [], vs, h => by rw [show vs = [] from h]; rfl
  | p :: ps, vs, h => by
    obtain ⟨w, ws, e1, e2, e3⟩ := h
    rw [e1, List.length_cons, List.length_cons, Reps.length e3]
theorem Reps.get {H : Hp} : ∀ {ps : List PV} {vs : List V} {j : Nat} {p : PV}, Reps H ps vs → ps[j]? = some p → ∃ v, vs[j]? = some v ∧ Rep H p v
  | [], vs, j, p, h, e => by simp at e
  | q :: ps, vs, 0, p, h, e => by
    obtain ⟨w, ws, e1, e2, e3⟩ := h
    simp at e
    subst e e1
    exact ⟨w, rfl, e2⟩
  | q :: ps, vs, j + 1, p, h, e => by
    obtain ⟨w, ws, e1, e2, e3⟩ := h
    subst e1
    exact Reps.get (j := j) (p := p) e3 (by simpa using e)
theorem Reps.append {H : Hp} : ∀ {ps qs : List PV} {vs ws : List V}, Reps H ps vs → Reps H qs ws → Reps H (ps ++ qs) (vs ++ ws)
  | [], qs, vs, ws, h, g => by rw [show vs = [] from h]; exact g
  | p :: ps, qs, vs, ws, h, g => by
    obtain ⟨w, us, e1, e2, e3⟩ := h
    subst e1
    exact ⟨w, us ++ ws, rfl, e2, Reps.append e3 g⟩
theorem Reps.one {H : Hp} {p : PV} {v : V} (h : Rep H p v) : Reps H [p] [v] := ⟨v, [], rfl, h, rfl⟩
theorem Reps.set {H : Hp} {q : PV} {w : V} (hq : Rep H q w) : ∀ {ps : List PV} {vs : List V} (j : Nat), Reps H ps vs → Reps H (ps.set j q) (vs.set j w)
  | [], vs, j, h => by rw [show vs = [] from h]; exact rfl
  | p :: ps, vs, 0, h => by
    obtain ⟨u, us, e1, e2, e3⟩ := h
    subst e1
    exact ⟨w, us, rfl, hq, e3⟩
  | p :: ps, vs, j + 1, h => by
    obtain ⟨u, us, e1, e2, e3⟩ := h
    subst e1
    exact ⟨u, us.set j w, rfl, e2, Reps.set hq j e3⟩
theorem Reps.take {H : Hp} : ∀ (n : Nat) {ps : List PV} {vs : List V}, Reps H ps vs → Reps H (ps.take n) (vs.take n)
  | 0, ps, vs, h => by simp [Reps]
  | n + 1, [], vs, h => by rw [show vs = [] from h]; exact rfl
  | n + 1, p :: ps, vs, h => by
    obtain ⟨u, us, e1, e2, e3⟩ := h
    subst e1
    exact ⟨u, us.take n, rfl, e2, Reps.take n e3⟩
theorem Reps.drop {H : Hp} : ∀ (n : Nat) {ps : List PV} {vs : List V}, Reps H ps vs → Reps H (ps.drop n) (vs.drop n)
  | 0, ps, vs, h => by simpa using h
  | n + 1, [], vs, h => by rw [show vs = [] from h]; exact rfl
  | n + 1, p :: ps, vs, h => by
    obtain ⟨u, us, e1, e2, e3⟩ := h
    subst e1
    exact Reps.drop n e3
theorem Reps.replicate {H : Hp} {ps : List PV} {vs : List V} (h : Reps H ps vs) : ∀ n : Nat, Reps H (List.replicate n ps).flatten (List.replicate n vs).flatten
  | 0 => rfl
  | n + 1 => by
    rw [List.replicate_succ, List.replicate_succ, List.flatten_cons, List.flatten_cons]
    exact h.append (Reps.replicate h n)
/-- ints of plain values -/
def intsP : List PV → Option (List Int)
  | [] => some []
  | .i n :: ps => (intsP ps).map (n :: ·)
  | _ :: _ => none
def boolsP : List PV → Option (List Bool)
  | [] => some []
  | .b n :: ps => (boolsP ps).map (n :: ·)
  | _ :: _ => none
theorem Reps.intsP {H : Hp} : ∀ {ps : List PV} {vs : List V} {ns : List Int}, Reps H ps vs → intsP ps = some ns → vs = ns.map V.int
  | [], vs, ns, h, e => by cases e; exact h
  | .i n :: ps, vs, ns, h, e => by
    obtain ⟨u, us, e1, e2, e3⟩ := h
    unfold K15.intsP at e
    obtain ⟨ms, e4, rfl⟩ := Option.map_eq_some_iff.mp e
    rw [e1, Reps.intsP e3 e4, show u = .int n from e2]; rfl
  | .b _ :: ps, vs, ns, h, e => by cases e
  | .s _ :: ps, vs, ns, h, e => by cases e
  | .t _ :: ps, vs, ns, h, e => by cases e
theorem Reps.boolsP {H : Hp} : ∀ {ps : List PV} {vs : List V} {ns : List Bool}, Reps H ps vs → boolsP ps = some ns → vs = ns.map V.bl
  | [], vs, ns, h, e => by cases e; exact h
  | .b n :: ps, vs, ns, h, e => by
    obtain ⟨u, us, e1, e2, e3⟩ := h
    unfold K15.boolsP at e
    obtain ⟨ms, e4, rfl⟩ := Option.map_eq_some_iff.mp e
    rw [e1, Reps.boolsP e3 e4, show u = .bl n from e2]; rfl
  | .i _ :: ps, vs, ns, h, e => by cases e
  | .s _ :: ps, vs, ns, h, e => by cases e
  | .t _ :: ps, vs, ns, h, e => by cases e
theorem reps_ints {H : Hp} : ∀ ns : List Int, Reps H (ns.map PV.i) (ns.map V.int)
  | [] => rfl
  | n :: ns => ⟨.int n, ns.map V.int, rfl, rfl, reps_ints ns⟩
@[simp] theorem intsP_map : ∀ ns : List Int, intsP (ns.map PV.i) = some ns
  | [] => rfl
  | n :: ns => by simp [intsP, intsP_map ns]
@[simp] theorem boolsP_map : ∀ ns : List Bool, boolsP (ns.map PV.b) = some ns
  | [] => rfl
  | n :: ns => by simp [boolsP, boolsP_map ns]

/-! ### heaps -/
/-- nothing but a table stands there -/
def Fr (H : Hp) (a : Addr) : Prop := ∀ o, H a = some o → ∃ ps, o = .tbl ps
abbrev BD := Option (Addr × Addr)
abbrev BS := List Int × Int
def NB (bd : BD) (a : Addr) : Prop := ∀ B D, bd = some (B, D) → a ≠ B
/-- what stood stands, but for the box's list -/
structure G (bd : BD) (H H' : Hp) : Prop where
  keep : ∀ a o, H a = some o → (∀ ps, o ≠ .tbl ps) → (∀ xs, o = .lst xs → NB bd a) → H' a = some o
  fr : ∀ a, Fr H' a → Fr H a
theorem G.refl {bd : BD} (H : Hp) : G bd H H := ⟨fun _ _ h _ _ => h, fun _ h => h⟩
theorem G.trans {bd : BD} {H H1 H2 : Hp} (a : G bd H H1) (b : G bd H1 H2) : G bd H H2 := ⟨fun c o h n m => b.keep c o (a.keep c o h n m) n m, fun c h => a.fr c (b.fr c h)⟩
theorem G.tx {bd : BD} {H H' : Hp} (g : G bd H H') : TX H H' := fun a vs h => g.keep a _ h (fun _ => by intro z; cases z) (fun _ z => by cases z)
theorem fr_none {H : Hp} {a : Addr} (h : H a = none) : Fr H a := fun o e => by rw [h] at e; cases e
theorem G.new {bd : BD} {H : Hp} {p : Addr} {o : HO} (h : H p = none) : G bd H (upd H p o) := ⟨fun a u e _ _ => by rw [upd_ne (ne_of_none e h)]; exact e, fun a f => by
  by_cases e : a = p
  · rw [e]; exact fr_none h
  · intro u hu; exact f u (by rw [upd_ne e]; exact hu)⟩
/-- an object of one's own changes -/
theorem G.mut {bd : BD} {H0 H : Hp} {p : Addr} {o : HO} (g : G bd H0 H) (h : Fr H0 p) : G bd H0 (upd H p o) := ⟨fun a u e n m => by
  by_cases e' : a = p
  · subst e'
    obtain ⟨ps, z⟩ := h u e
    exact absurd z (n ps)
  · rw [upd_ne e']; exact g.keep a u e n m, fun a f => by
  by_cases e : a = p
  · rw [e]; exact h
  · exact g.fr a fun u hu => f u (by rw [upd_ne e]; exact hu)⟩
theorem G.rd {bd : BD} {H H' : Hp} {a : Addr} {xs : List V} (g : G bd H H') (n : NB bd a) (h : Rd H a (.lst xs)) : Rd H' a (.lst xs) := by
  rcases h with h | ⟨o, h⟩
  · exact Or.inl (g.keep a _ h (fun _ z => by cases z) (fun _ _ => n))
  · exact Or.inr ⟨o, g.keep a _ h (fun _ z => by cases z) (fun _ z => by cases z)⟩
def BoxAt (bd : BD) (bs : BS) (H : Hp) : Prop := ∀ B D, bd = some (B, D) → H B = some (.lst [.ref D, .int bs.2]) ∧ H D = some (.lst (bs.1.map V.int)) ∧ B ≠ D
section
variable (Pt : Addr)
structure Wd (bd : BD) (bs : BS) (H : Hp) : Prop where
  tab : LamX.Tabs (T1 Pt) H
  box : BoxAt bd bs H
end
variable {Pt : Addr}
theorem Wd.new {bd : BD} {bs : BS} {H : Hp} {p : Addr} {o : HO} (h : H p = none) (wd : Wd Pt bd bs H) : Wd Pt bd bs (upd H p o) := ⟨wd.tab.ext fun b u e => by rw [upd_ne (ne_of_none e h)]; exact e, fun B D e => by
  obtain ⟨h1, h2, h3⟩ := wd.box B D e
  exact ⟨by rw [upd_ne (ne_of_none h1 h)]; exact h1, by rw [upd_ne (ne_of_none h2 h)]; exact h2, h3⟩⟩
/-- a list changes that is not the box's -/
theorem tabs_mut {H : Hp} {p : Addr} {xs : List V} {o : HO} (h : H p = some (.lst xs)) (t : LamX.Tabs (T1 Pt) H) : LamX.Tabs (T1 Pt) (upd H p o) := fun q hq => by
  obtain ⟨ps, h1, h2, h3⟩ := t q hq
  have e1 : q.1 ≠ p := fun e => by rw [e, h] at h1; cases h1
  refine ⟨ps, by rw [upd_ne e1]; exact h1, h2, fun pos cv hc => ?_⟩
  obtain ⟨c, e2, e3⟩ := h3 pos cv hc
  have e4 : c ≠ p := fun e => by rw [e, h] at e3; cases e3
  exact ⟨c, e2, by rw [upd_ne e4]; exact e3⟩
theorem Wd.mut {bd : BD} {bs : BS} {H : Hp} {p : Addr} {xs : List V} {o : HO} (h : H p = some (.lst xs)) (n1 : NB bd p) (n2 : ∀ B D, bd = some (B, D) → p ≠ D) (wd : Wd Pt bd bs H) : Wd Pt bd bs (upd H p o) := ⟨tabs_mut h wd.tab, fun B D e => by
  obtain ⟨h1, h2, h3⟩ := wd.box B D e
  exact ⟨by rw [upd_ne (n1 B D e).symm]; exact h1, by rw [upd_ne (n2 B D e).symm]; exact h2, h3⟩⟩

/-! ### slots -/
section
variable (K : PySem.W.Frag)
def KL (a : Addr) (xs : List V) : Prop := ∃ (o : Obj) (its : Array Value) (n : Nat), K.lookup a = some o ∧ o.cls = .type "list" ∧ o.dict = none ∧ o.data = .seq its n ∧ its.size ≤ sizeLine ∧ Vals xs its.toList
/-- the list at a is one's own: it came into being behind H0 -/
def RepS (bd : BD) (H0 H : Hp) : SV → V → Prop
  | .p x, v => Rep H x v
  | .l xs, v => ∃ a vs, v = .ref a ∧ H a = some (.lst vs) ∧ NB bd a ∧ Reps H xs vs
  | .k xs, v => ∃ a vs, v = .ref a ∧ ((∃ o, H a = some (.frz o (.lst vs))) ∨ KL K a vs) ∧ Reps H xs vs
  | .m xs, v => ∃ a vs, v = .ref a ∧ Fr H0 a ∧ H a = some (.lst vs) ∧ NB bd a ∧ Reps H xs vs
  | .box, v => ∃ B D, bd = some (B, D) ∧ v = .ref B
  | .ty n, v => v = .ty n
  | .rg n, v => ∃ a, v = .ref a ∧ H a = some (.rng 0 n)
end
variable {K : PySem.W.Frag}
theorem RepS.mono {bd : BD} {H0 H H' : Hp} (g : G bd H H') : ∀ {x : SV} {v : V}, RepS K bd H0 H x v → RepS K bd H0 H' x v
  | .p x, v, h => Rep.mono g.tx x v h
  | .l xs, v, ⟨a, vs, e, h, n, r⟩ => ⟨a, vs, e, g.keep a _ h (fun _ z => by cases z) (fun _ _ => n), n, Reps.mono g.tx _ _ r⟩
  | .k xs, v, ⟨a, vs, e, h, r⟩ => ⟨a, vs, e, h.imp (fun ⟨o, h⟩ => ⟨o, g.keep a _ h (fun _ z => by cases z) (fun _ z => by cases z)⟩) id, Reps.mono g.tx _ _ r⟩
  | .m xs, v, ⟨a, vs, e, f, h, n, r⟩ => ⟨a, vs, e, f, g.keep a _ h (fun _ z => by cases z) (fun _ _ => n), n, Reps.mono g.tx _ _ r⟩
  | .box, v, h => h
  | .ty n, v, h => h
  | .rg n, v, ⟨a, e, h⟩ => ⟨a, e, g.keep a _ h (fun _ z => by cases z) (fun _ z => by cases z)⟩
theorem RepS.base {bd : BD} {H0 H1 H : Hp} (f : ∀ a, Fr H1 a → Fr H0 a) : ∀ {x : SV} {v : V}, RepS K bd H1 H x v → RepS K bd H0 H x v
  | .p x, v, h => h
  | .l xs, v, h => h
  | .k xs, v, h => h
  | .m xs, v, ⟨a, vs, e, fr, h, n, r⟩ => ⟨a, vs, e, f a fr, h, n, r⟩
  | .box, v, h => h
  | .ty n, v, h => h
  | .rg n, v, h => h
/-- read only -/
def SV.arg : SV → SV
  | .m xs => .l xs
  | x => x
theorem RepS.arg {bd : BD} {H0 H1 H : Hp} : ∀ {x : SV} {v : V}, RepS K bd H0 H x v → RepS K bd H1 H x.arg v
  | .p x, v, h => h
  | .l xs, v, h => h
  | .k xs, v, h => h
  | .m xs, v, ⟨a, vs, e, fr, h, n, r⟩ => ⟨a, vs, e, h, n, r⟩
  | .box, v, h => h
  | .ty n, v, h => h
  | .rg n, v, h => h
/-- the items of a list -/
def SV.lst : SV → Option (List PV)
  | .l xs => some xs
  | .k xs => some xs
  | .m xs => some xs
  | _ => none
theorem RepS.lst {bd : BD} {H0 H : Hp} : ∀ {x : SV} {v : V} {xs : List PV}, RepS K bd H0 H x v → x.lst = some xs → ∃ a vs, v = .ref a ∧ SqL K H a vs ∧ Reps H xs vs
  | .l xs, v, _, ⟨a, vs, e, h, n, r⟩, rfl => ⟨a, vs, e, Or.inl (Or.inl h), r⟩
  | .k xs, v, _, ⟨a, vs, e, h, r⟩, rfl => ⟨a, vs, e, h.elim (fun ⟨o, h⟩ => Or.inl (Or.inr ⟨o, h⟩)) Or.inr, r⟩
  | .m xs, v, _, ⟨a, vs, e, fr, h, n, r⟩, rfl => ⟨a, vs, e, Or.inl (Or.inl h), r⟩
/-- the items of a list or tuple -/
def SV.seq : SV → Option (List PV)
  | .p (.t xs) => some xs
  | x => x.lst
theorem RepS.seq {bd : BD} {H0 H : Hp} {x : SV} {v : V} {xs : List PV} (h : RepS K bd H0 H x v) (e : x.seq = some xs) : ∃ a vs, v = .ref a ∧ (SqL K H a vs ∨ SqT K H a vs) ∧ Reps H xs vs := by
  match x, h, e with
  | .p (.t ys), h, e =>
    obtain rfl : ys = xs := by simpa [SV.seq] using e
    obtain ⟨a, vs, e1, e2, e3⟩ := h
    exact ⟨a, vs, e1, Or.inr (Or.inl (Or.inl e2)), e3⟩
  | .l ys, h, e => obtain ⟨a, vs, e1, e2, e3⟩ := RepS.lst h e; exact ⟨a, vs, e1, Or.inl e2, e3⟩
  | .k ys, h, e => obtain ⟨a, vs, e1, e2, e3⟩ := RepS.lst h e; exact ⟨a, vs, e1, Or.inl e2, e3⟩
  | .m ys, h, e => obtain ⟨a, vs, e1, e2, e3⟩ := RepS.lst h e; exact ⟨a, vs, e1, Or.inl e2, e3⟩
abbrev Sl := List (Option SV)
def SV.isL : SV → Bool
  | .l _ => true | .m _ => true | _ => false
section
variable (K : PySem.W.Frag)
structure Rl (bd : BD) (H0 : Hp) (S : Sl) (σ : L2.St) (H : Hp) : Prop where
  len : σ.length = S.length
  at_ : ∀ (i : Nat) (x : SV), S[i]? = some (some x) → ∃ v, σ[i]? = some (some v) ∧ RepS K bd H0 H x v
  dis : ∀ (i j : Nat) (xs : List PV) (y : SV) (a : Addr), i ≠ j → S[i]? = some (some (.m xs)) → S[j]? = some (some y) → y.isL = true → σ[i]? = some (some (.ref a)) → σ[j]? = some (some (.ref a)) → False
  g : G bd H0 H
  bx : ∀ B D, bd = some (B, D) → ¬ Fr H0 B ∧ ¬ Fr H0 D
end
theorem Rl.mono {bd : BD} {H0 : Hp} {S : Sl} {σ : L2.St} {H H' : Hp} (R : Rl K bd H0 S σ H) (g : G bd H H') : Rl K bd H0 S σ H' :=
  ⟨R.len, fun i x e => by obtain ⟨v, h1, h2⟩ := R.at_ i x e; exact ⟨v, h1, h2.mono g⟩, R.dis, R.g.trans g, R.bx⟩
theorem getset {α : Type} {l : List α} {i j : Nat} {a b : α} (h : (l.set i a)[j]? = some b) : (i = j ∧ a = b ∧ i < l.length) ∨ (i ≠ j ∧ l[j]? = some b) := by
  by_cases e : i = j
  · subst e
    have hl : i < l.length := by
      have := (List.getElem?_eq_some_iff.mp h).1
      rwa [List.length_set] at this
    rw [List.getElem?_set_self hl] at h
    exact Or.inl ⟨rfl, Option.some.inj h, hl⟩
  · rw [List.getElem?_set_ne e] at h
    exact Or.inr ⟨e, h⟩
/-- a plain value into a slot -/
theorem Rl.setP {bd : BD} {H0 : Hp} {S : Sl} {σ : L2.St} {H : Hp} (R : Rl K bd H0 S σ H) {i : Nat} {x : PV} {v : V} (h : Rep H x v) : Rl K bd H0 (S.set i (some (.p x))) (σ.set i (some v)) H := by
  refine ⟨by rw [List.length_set, List.length_set, R.len], fun j y e => ?_, fun j k xs y a hjk e1 e2 e3 e4 e5 => ?_, R.g, R.bx⟩
  · rcases getset e with ⟨rfl, e1, hl⟩ | ⟨hij, e⟩
    · cases e1
      exact ⟨v, List.getElem?_set_self (by rw [R.len]; exact hl), h⟩
    · obtain ⟨w, h1, h2⟩ := R.at_ j y e
      exact ⟨w, by rw [List.getElem?_set_ne hij]; exact h1, h2⟩
  · rcases getset e1 with ⟨rfl, e1', hl⟩ | ⟨hij, e1'⟩
    · cases e1'
    · rcases getset e2 with ⟨rfl, e2', hl⟩ | ⟨hik, e2'⟩
      · cases e2'; cases e3
      · rw [List.getElem?_set_ne hij] at e4
        rw [List.getElem?_set_ne hik] at e5
        exact R.dis j k xs y a hjk e1' e2' e3 e4 e5
theorem notFr_lst {H : Hp} {a : Addr} {vs : List V} (h : Rd H a (.lst vs)) : ¬ Fr H a := fun f => by
  rcases h with h | ⟨o, h⟩
  · obtain ⟨ps, z⟩ := f _ h; cases z
  · obtain ⟨ps, z⟩ := f _ h; cases z
theorem RepS.notFr {bd : BD} {H0 H : Hp} {x : SV} {a : Addr} (h : RepS K bd H0 H x (.ref a)) (e : x.isL = true) : ¬ Fr H a := by
  cases x with
  | l xs => obtain ⟨b, vs, e, h, _, _⟩ := h; cases e; exact notFr_lst (Or.inl h)
  | m xs => obtain ⟨b, vs, e, _, h, _, _⟩ := h; cases e; exact notFr_lst (Or.inl h)
  | _ => cases e
/-- a list of one's own, new behind H, into a slot -/
theorem Rl.setM {bd : BD} {H0 : Hp} {S : Sl} {σ : L2.St} {H H' : Hp} (R : Rl K bd H0 S σ H) (g : G bd H H') {i : Nat} {xs : List PV} {v : V} (h : RepS K bd H H' (.m xs) v) : Rl K bd H0 (S.set i (some (.m xs))) (σ.set i (some v)) H' := by
  have R' := R.mono g
  refine ⟨by rw [List.length_set, List.length_set, R.len], fun j y e => ?_, fun j k ys y a hjk e1 e2 e3 e4 e5 => ?_, R'.g, R.bx⟩
  · rcases getset e with ⟨rfl, e1, hl⟩ | ⟨hij, e⟩
    · cases e1
      exact ⟨v, List.getElem?_set_self (by rw [R.len]; exact hl), h.base R.g.fr⟩
    · obtain ⟨w, h1, h2⟩ := R'.at_ j y e
      exact ⟨w, by rw [List.getElem?_set_ne hij]; exact h1, h2⟩
  · obtain ⟨b, vs, hv, hf, hb, _, _⟩ := h
    subst hv
    have key : ∀ (k : Nat) (y : SV), S[k]? = some (some y) → y.isL = true → σ[k]? = some (some (.ref b)) → False := fun k y e1 e2 e3 => by
      obtain ⟨w, h1, h2⟩ := R.at_ k y e1
      rw [h1] at e3
      obtain rfl : w = .ref b := by simpa using e3
      exact h2.notFr e2 hf
    rcases getset e4 with ⟨rfl, e4', hl⟩ | ⟨hij, e4'⟩
    · rw [List.getElem?_set_ne hjk] at e2 e5
      obtain rfl : b = a := by simpa using e4'
      exact key k y e2 e3 e5
    · rw [List.getElem?_set_ne hij] at e1
      rcases getset e5 with ⟨rfl, e5', hl⟩ | ⟨hik, e5'⟩
      · obtain rfl : b = a := by simpa using e5'
        exact key j (.m ys) e1 rfl e4'
      · rw [List.getElem?_set_ne hik] at e2
        exact R.dis j k ys y a hjk e1 e2 e3 e4' e5'
/-- the own list in slot i changes -/
theorem Rl.mut {bd : BD} {H0 : Hp} {S : Sl} {σ : L2.St} {H : Hp} (R : Rl K bd H0 S σ H) {i : Nat} {xs ys : List PV} {vs : List V} {a : Addr} (hi : S[i]? = some (some (.m xs))) (hσ : σ[i]? = some (some (.ref a))) (r : Reps H ys vs) : Rl K bd H0 (S.set i (some (.m ys))) σ (upd H a (.lst vs)) := by
  obtain ⟨w, h1, b, us, hw, hf, hb, hn, hr⟩ := R.at_ i _ hi
  rw [hσ] at h1
  obtain rfl : V.ref a = w := by simpa using h1
  obtain rfl : a = b := by simpa using hw
  have tx : TX H (upd H a (.lst vs)) := fun c ws hc => by
    have : c ≠ a := fun e => by rw [e, hb] at hc; cases hc
    rw [upd_ne this]; exact hc
  refine ⟨by rw [List.length_set, R.len], fun j y e => ?_, fun j k zs y c hjk e1 e2 e3 e4 e5 => ?_, R.g.mut hf, R.bx⟩
  · rcases getset e with ⟨rfl, e1, hl⟩ | ⟨hij, e⟩
    · cases e1
      exact ⟨_, hσ, a, vs, rfl, hf, upd_same, hn, Reps.mono tx _ _ r⟩
    · obtain ⟨w, h1, h2⟩ := R.at_ j y e
      refine ⟨w, h1, ?_⟩
      cases y with
      | p x => exact Rep.mono tx x w h2
      | l zs =>
        obtain ⟨c, ws, e', h, n, q⟩ := h2
        have : c ≠ a := fun ec => by
          subst ec e'
          exact R.dis i j xs _ c hij hi e rfl hσ h1
        exact ⟨c, ws, e', by rw [upd_ne this]; exact h, n, Reps.mono tx _ _ q⟩
      | k zs =>
        obtain ⟨c, ws, e', h, q⟩ := h2
        refine ⟨c, ws, e', h.imp (fun ⟨o, h⟩ => ⟨o, ?_⟩) id, Reps.mono tx _ _ q⟩
        have : c ≠ a := fun ec => by rw [ec, hb] at h; cases h
        rw [upd_ne this]; exact h
      | m zs =>
        obtain ⟨c, ws, e', f, h, n, q⟩ := h2
        have : c ≠ a := fun ec => by
          subst ec e'
          exact R.dis i j xs _ c hij hi e rfl hσ h1
        exact ⟨c, ws, e', f, by rw [upd_ne this]; exact h, n, Reps.mono tx _ _ q⟩
      | box => exact h2
      | ty n => exact h2
      | rg n =>
        obtain ⟨c, e', h⟩ := h2
        have : c ≠ a := fun ec => by rw [ec, hb] at h; cases h
        exact ⟨c, e', by rw [upd_ne this]; exact h⟩
  · have sub : ∀ (k : Nat) (y : SV), (S.set i (some (.m ys)))[k]? = some (some y) → ∃ y', S[k]? = some (some y') ∧ (y.isL = true → y'.isL = true) ∧ ((∃ z, y = .m z) → ∃ z, y' = .m z) := fun k y e => by
      rcases getset e with ⟨rfl, e1, hl⟩ | ⟨hik, e⟩
      · exact ⟨_, hi, fun _ => rfl, fun _ => ⟨_, rfl⟩⟩
      · exact ⟨y, e, fun h => h, fun h => h⟩
    obtain ⟨y1, f1, _, f3⟩ := sub j _ e1
    obtain ⟨z, rfl⟩ := f3 ⟨_, rfl⟩
    obtain ⟨y2, g1, g2, _⟩ := sub k _ e2
    exact R.dis j k z y2 c hjk f1 g1 (g2 e3) e4 e5
/-- the list in slot i is from now on read only -/
theorem Rl.down {bd : BD} {H0 : Hp} {S : Sl} {σ : L2.St} {H : Hp} (R : Rl K bd H0 S σ H) {i : Nat} {xs : List PV} (hi : S[i]? = some (some (.m xs))) : Rl K bd H0 (S.set i (some (.l xs))) σ H := by
  have sub : ∀ (k : Nat) (y : SV), (S.set i (some (.l xs)))[k]? = some (some y) → ∃ y', S[k]? = some (some y') ∧ (y.isL = true → y'.isL = true) ∧ ((∃ z, y = .m z) → y' = y) := fun k y e => by
    rcases getset e with ⟨rfl, e1, hl⟩ | ⟨hik, e⟩
    · cases e1
      exact ⟨_, hi, fun _ => rfl, fun ⟨z, hz⟩ => by cases hz⟩
    · exact ⟨y, e, fun h => h, fun _ => rfl⟩
  refine ⟨by rw [List.length_set, R.len], fun j y e => ?_, fun j k zs y c hjk e1 e2 e3 e4 e5 => ?_, R.g, R.bx⟩
  · rcases getset e with ⟨rfl, e1, hl⟩ | ⟨hij, e⟩
    · cases e1
      obtain ⟨w, h1, a, vs, e1, f, h, n, q⟩ := R.at_ i _ hi
      exact ⟨w, h1, a, vs, e1, h, n, q⟩
    · exact R.at_ j y e
  · obtain ⟨y1, f1, _, f3⟩ := sub j _ e1
    have := f3 ⟨_, rfl⟩
    subst this
    obtain ⟨y2, g1, g2, _⟩ := sub k _ e2
    exact R.dis j k _ y2 c hjk f1 g1 (g2 e3) e4 e5
/-- the heap but for one's own lists -/
noncomputable def offO (S : Sl) (σ : L2.St) (H : Hp) : Hp := fun a => by
  classical
  exact if ∃ (i : Nat) (xs : List PV), S[i]? = some (some (.m xs)) ∧ σ[i]? = some (some (.ref a)) then none else H a
def Own (S : Sl) (σ : L2.St) (a : Addr) : Prop := ∃ (i : Nat) (xs : List PV), S[i]? = some (some (.m xs)) ∧ σ[i]? = some (some (.ref a))
theorem offO_own {S : Sl} {σ : L2.St} {H : Hp} {a : Addr} (h : Own S σ a) : offO S σ H a = none := by
  unfold offO; exact if_pos h
theorem offO_ne {S : Sl} {σ : L2.St} {H : Hp} {a : Addr} (h : ¬ Own S σ a) : offO S σ H a = H a := by
  unfold offO; exact if_neg h
theorem Rl.ownFr {bd : BD} {H0 : Hp} {S : Sl} {σ : L2.St} {H : Hp} (R : Rl K bd H0 S σ H) {a : Addr} (h : Own S σ a) : Fr H0 a ∧ NB bd a ∧ ∃ vs, H a = some (.lst vs) := by
  obtain ⟨i, xs, h1, h2⟩ := h
  obtain ⟨w, e, b, vs, rfl, hf, hb, hn, _⟩ := R.at_ i _ h1
  rw [e] at h2
  cases h2
  exact ⟨hf, hn, vs, hb⟩
theorem Rl.off {bd : BD} {H0 : Hp} {S : Sl} {σ : L2.St} {H : Hp} (R : Rl K bd H0 S σ H) : Rl K bd (offO S σ H) S σ H ∧ G bd H0 (offO S σ H) := by
  have g1 : G bd H0 (offO S σ H) := ⟨fun a o e n m => by
    have : ¬ Own S σ a := fun h => by
      obtain ⟨ps, z⟩ := (R.ownFr h).1 o e
      exact n ps z
    rw [offO_ne this]
    exact R.g.keep a o e n m, fun a f => by
    by_cases h : Own S σ a
    · exact (R.ownFr h).1
    · exact R.g.fr a fun o e => f o (by rw [offO_ne h]; exact e)⟩
  refine ⟨⟨R.len, fun i x e => ?_, R.dis, ⟨fun a o e n m => ?_, fun a f => ?_⟩, fun B D e => ⟨fun f => (R.bx B D e).1 (g1.fr _ f), fun f => (R.bx B D e).2 (g1.fr _ f)⟩⟩, g1⟩
  · obtain ⟨v, h1, h2⟩ := R.at_ i x e
    refine ⟨v, h1, ?_⟩
    match x, e, h2 with
    | .p x, e, h => exact h
    | .l zs, e, h => exact h
    | .k zs, e, h => exact h
    | .m zs, e, ⟨a, vs, e1, f, h, n, q⟩ =>
      subst e1
      exact ⟨a, vs, rfl, fr_none (offO_own ⟨i, zs, e, h1⟩), h, n, q⟩
    | .box, e, h => exact h
    | .ty n, e, h => exact h
    | .rg n, e, h => exact h
  · by_cases h : Own S σ a
    · rw [offO_own h] at e; cases e
    · rw [offO_ne h] at e; exact e
  · by_cases h : Own S σ a
    · exact fr_none (offO_own h)
    · intro o e; rw [offO_ne h] at e; exact f o e
theorem Rl.back {bd : BD} {H0 H1 H2 : Hp} {S S1 : Sl} {σ σ1 : L2.St} {H : Hp} (R0 : Rl K bd H0 S1 σ1 H2) (R : Rl K bd H1 S σ H) (g : G bd H0 H1) : Rl K bd H0 S σ H :=
  ⟨R.len, fun i x e => by obtain ⟨v, h1, h2⟩ := R.at_ i x e; exact ⟨v, h1, h2.base g.fr⟩, R.dis, g.trans R.g, R0.bx⟩
end K15
/-! K15Ev2: what an expression's reading evaluates to -/
set_option autoImplicit false
namespace K15
open PySem PySem.Spec PyProof.Rows L2 K15R
def bnd {α β : Type} (m : Option (α × BS)) (k : α → BS → Option β) : Option β := match m with
  | none => none
  | some r => k r.1 r.2
theorem bnd_some {α β : Type} {m : Option (α × BS)} {k : α → BS → Option β} {r : β} (h : bnd m k = some r) : ∃ a b, m = some (a, b) ∧ k a b = some r := by
  cases m with
  | none => cases h
  | some p => exact ⟨p.1, p.2, rfl, h⟩
@[simp] theorem bnd_mk {α β : Type} {a : α} {b : BS} {k : α → BS → Option β} : bnd (some (a, b)) k = k a b := rfl
@[simp] theorem bnd_none {α β : Type} {k : α → BS → Option β} : bnd none k = none := rfl
def ret {α : Type} (m : Option α) (b : BS) : Option (α × BS) := m.map fun x => (x, b)
theorem ret_some {α : Type} {m : Option α} {b : BS} {r : α × BS} (h : ret m b = some r) : m = some r.1 ∧ b = r.2 := by
  obtain ⟨x, h1, h2⟩ := Option.map_eq_some_iff.mp h
  subst h2
  exact ⟨h1, rfl⟩
@[simp] theorem ret_mk {α : Type} {a : α} {b : BS} : ret (some a) b = some (a, b) := rfl
abbrev Fe := Sl → BS → Option (SV × BS)
abbrev Fa := Sl → BS → Option (List SV × BS)
abbrev Ft := Sl → BS → Option (Bool × BS)
abbrev Fi := Sl → BS → Option (List PV × BS)
theorem szl {n : Nat} (h : n ≤ 100000) : n ≤ sizeLine := Nat.le_trans h (by decide)
section
variable (K : PySem.W.Frag) (Pt : Addr)
def RepA (bd : BD) (H0 H : Hp) : List SV → List V → Prop
  | [], vs => vs = []
  | x :: xs, vs => ∃ w ws, vs = w :: ws ∧ RepS K bd H0 H x w ∧ RepA bd H0 H xs ws
def EvE (te : TE) (f : Fe) : Prop := ∀ (bd : BD) (H0 : Hp) (S : Sl) (σ : L2.St) (H : Hp) (bs : BS) (r : SV) (bs' : BS) (Q : VK), Rl K bd H0 S σ H → Wd Pt bd bs H → f S bs = some (r, bs') →
  (∀ v H', G bd H H' → Wd Pt bd bs' H' → RepS K bd H H' r v → Q v H') → te σ H Q
def EvA (ta : TA) (f : Fa) : Prop := ∀ (bd : BD) (H0 : Hp) (S : Sl) (σ : L2.St) (H : Hp) (bs : BS) (r : List SV) (bs' : BS) (Q : List V → Hp → Prop), Rl K bd H0 S σ H → Wd Pt bd bs H → f S bs = some (r, bs') →
  (∀ v H', G bd H H' → Wd Pt bd bs' H' → RepA K bd H H' r v → Q v H') → ta σ H Q
def EvT (tt : TT) (f : Ft) : Prop := ∀ (bd : BD) (H0 : Hp) (S : Sl) (σ : L2.St) (H : Hp) (bs : BS) (r : Bool) (bs' : BS) (Q : Bool → Hp → Prop), Rl K bd H0 S σ H → Wd Pt bd bs H → f S bs = some (r, bs') →
  (∀ H', G bd H H' → Wd Pt bd bs' H' → Q r H') → tt σ H Q
def Op2 (r : R2) (g : SV → SV → Option SV) : Prop := ∀ (bd : BD) (bs : BS) (Ha Hb H : Hp) (x y z : SV) (v w : V) (Q : VK), Wd Pt bd bs H → RepS K bd Ha H x v → RepS K bd Hb H y w → g x y = some z →
  (∀ u H', G bd H H' → Wd Pt bd bs H' → RepS K bd H H' z u → Q u H') → r v w H Q
def CR (r : List V → Hp → VK → Prop) (g : List SV → Option SV) : Prop := ∀ (bd : BD) (bs : BS) (Ha H : Hp) (xs : List SV) (vs : List V) (z : SV) (Q : VK), Wd Pt bd bs H → RepA K bd Ha H xs vs → g xs = some z →
  (∀ u H', G bd H H' → Wd Pt bd bs H' → RepS K bd H H' z u → Q u H') → r vs H Q
end
variable {K : PySem.W.Frag} {Pt : Addr} {ta tb tc te : TE} {fa fb fc fe : Fe}
theorem RepA.mono {bd : BD} {H0 H H' : Hp} (g : G bd H H') : ∀ {xs : List SV} {vs : List V}, RepA K bd H0 H xs vs → RepA K bd H0 H' xs vs
  | [], vs, h => h
  | x :: xs, vs, ⟨w, ws, e, h, r⟩ => ⟨w, ws, e, h.mono g, RepA.mono g r⟩
theorem RepA.base {bd : BD} {H0 H1 H : Hp} (f : ∀ a, Fr H1 a → Fr H0 a) : ∀ {xs : List SV} {vs : List V}, RepA K bd H1 H xs vs → RepA K bd H0 H xs vs
  | [], vs, h => h
  | x :: xs, vs, ⟨w, ws, e, h, r⟩ => ⟨w, ws, e, h.base f, RepA.base f r⟩
theorem RepA.arg {bd : BD} {H0 H1 H : Hp} : ∀ {xs : List SV} {vs : List V}, RepA K bd H0 H xs vs → RepA K bd H1 H (xs.map SV.arg) vs
  | [], vs, h => h
  | x :: xs, vs, ⟨w, ws, e, h, r⟩ => ⟨w, ws, e, h.arg, RepA.arg r⟩
theorem RepA.length {bd : BD} {H0 H : Hp} : ∀ {xs : List SV} {vs : List V}, RepA K bd H0 H xs vs → vs.length = xs.length
  | [], vs, h => by rw [show vs = [] from h]; rfl
  | x :: xs, vs, ⟨w, ws, e, h, r⟩ => by rw [e, List.length_cons, List.length_cons, r.length]
theorem RepA.one {bd : BD} {H0 H : Hp} {x : SV} {vs : List V} (h : RepA K bd H0 H [x] vs) : ∃ v, vs = [v] ∧ RepS K bd H0 H x v := by
  obtain ⟨w, ws, e, h1, h2⟩ := h
  rw [show ws = [] from h2] at e
  exact ⟨w, e, h1⟩
theorem RepA.two {bd : BD} {H0 H : Hp} {x y : SV} {vs : List V} (h : RepA K bd H0 H [x, y] vs) : ∃ v w, vs = [v, w] ∧ RepS K bd H0 H x v ∧ RepS K bd H0 H y w := by
  obtain ⟨w, ws, e, h1, h2⟩ := h
  obtain ⟨u, rfl, h3⟩ := RepA.one h2
  exact ⟨w, u, e, h1, h3⟩
theorem RepA.three {bd : BD} {H0 H : Hp} {x y z : SV} {vs : List V} (h : RepA K bd H0 H [x, y, z] vs) : ∃ v w u, vs = [v, w, u] ∧ RepS K bd H0 H x v ∧ RepS K bd H0 H y w ∧ RepS K bd H0 H z u := by
  obtain ⟨w, ws, e, h1, h2⟩ := h
  obtain ⟨u, t, rfl, h3, h4⟩ := RepA.two h2
  exact ⟨w, u, t, e, h1, h3, h4⟩
def pvs : List SV → Option (List PV)
  | [] => some []
  | .p x :: xs => (pvs xs).map (x :: ·)
  | _ :: _ => none
theorem RepA.pvs {bd : BD} {H0 H : Hp} : ∀ {xs : List SV} {vs : List V} {ps : List PV}, RepA K bd H0 H xs vs → pvs xs = some ps → Reps H ps vs
  | [], vs, ps, h, e => by cases e; exact h
  | .p x :: xs, vs, ps, ⟨w, ws, e1, h, r⟩, e => by
    unfold K15.pvs at e
    obtain ⟨qs, e2, rfl⟩ := Option.map_eq_some_iff.mp e
    exact ⟨w, ws, e1, h, RepA.pvs r e2⟩
  | .l _ :: xs, vs, ps, h, e => by cases e
  | .k _ :: xs, vs, ps, h, e => by cases e
  | .m _ :: xs, vs, ps, h, e => by cases e
  | .box :: xs, vs, ps, h, e => by cases e
  | .ty _ :: xs, vs, ps, h, e => by cases e
  | .rg _ :: xs, vs, ps, h, e => by cases e

theorem rpI {bd : BD} {H0 H : Hp} {n : Int} : RepS K bd H0 H (.p (.i n)) (.int n) := by show V.int _ = V.int _; rfl
theorem rpB {bd : BD} {H0 H : Hp} {n : Bool} : RepS K bd H0 H (.p (.b n)) (.bl n) := by show V.bl _ = V.bl _; rfl
theorem rpS {bd : BD} {H0 H : Hp} {n : Str} : RepS K bd H0 H (.p (.s n)) (.str n) := by show V.str _ = V.str _; rfl
theorem rpS' {bd : BD} {H0 H : Hp} {n : Str} {v : V} (h : RepS K bd H0 H (.p (.s n)) v) : v = .str n := h
theorem rpI' {bd : BD} {H0 H : Hp} {n : Int} {v : V} (h : RepS K bd H0 H (.p (.i n)) v) : v = .int n := h
theorem rpB' {bd : BD} {H0 H : Hp} {n : Bool} {v : V} (h : RepS K bd H0 H (.p (.b n)) v) : v = .bl n := h
/-! ### expressions -/
def fVar (i : Nat) : Fe := fun S bs => match S[i]? with
  | some (some x) => some (x.arg, bs)
  | _ => none
theorem ev_var {i : Nat} : EvE K Pt (tVar i) (fVar i) := by
  intro bd H0 S σ H bs r bs' Q R wd hf q
  unfold fVar at hf
  split at hf
  · rename_i x e
    cases hf
    obtain ⟨v, h1, h2⟩ := R.at_ i x e
    exact ⟨v, h1, q v H (G.refl H) wd h2.arg⟩
  · cases hf
def fC (x : SV) : Fe := fun _ bs => some (x, bs)
theorem ev_c {v : V} {x : SV} (h : ∀ bd H0 H, RepS K bd H0 H x v) : EvE K Pt (tC v) (fC x) := by
  intro bd H0 S σ H bs r bs' Q R wd hf q
  cases hf
  exact q v H (G.refl H) wd (h _ _ _)
theorem ev_int {n : Int} : EvE K Pt (tC (.int n)) (fC (.p (.i n))) := ev_c fun _ _ _ => rfl
theorem ev_bl {n : Bool} : EvE K Pt (tC (.bl n)) (fC (.p (.b n))) := ev_c fun _ _ _ => rfl
theorem ev_str {n : Str} : EvE K Pt (tC (.str n)) (fC (.p (.s n))) := ev_c fun _ _ _ => rfl
theorem ev_ty {n : String} : EvE K Pt (tC (.ty n)) (fC (.ty n)) := ev_c fun _ _ _ => rfl
def fOp (g : SV → SV → Option SV) (fa fb : Fe) : Fe := fun S bs => bnd (fa S bs) fun x b1 => bnd (fb S b1) fun y b2 => ret (g x y) b2
theorem ev_op {r : R2} {g : SV → SV → Option SV} (o : Op2 K Pt r g) (ha : EvE K Pt ta fa) (hb : EvE K Pt tb fb) : EvE K Pt (tOp r ta tb) (fOp g fa fb) := by
  intro bd H0 S σ H bs z bs' Q R wd hf q
  obtain ⟨x, b1, e1, hf⟩ := bnd_some hf
  obtain ⟨y, b2, e2, hf⟩ := bnd_some hf
  obtain ⟨e3, rfl⟩ := ret_some hf
  exact ha bd H0 S σ H bs x _ _ R wd e1 fun v H1 g1 w1 r1 => hb bd H0 S σ H1 _ y _ _ (R.mono g1) w1 e2 fun w H2 g2 w2 r2 =>
    o bd _ H H1 H2 x y z v w Q w2 (r1.mono g2) r2 e3 fun u H3 g3 w3 r3 => q u H3 (g1.trans (g2.trans g3)) w3 (r3.base (g1.trans g2).fr)
def gI (f : Int → Int → PV) : SV → SV → Option SV
  | .p (.i a), .p (.i b) => some (.p (f a b))
  | _, _ => none
theorem gI_some {f : Int → Int → PV} {x y z : SV} (h : gI f x y = some z) : ∃ a b, x = .p (.i a) ∧ y = .p (.i b) ∧ z = .p (f a b) := by
  unfold gI at h
  split at h
  · cases h; exact ⟨_, _, rfl, rfl, rfl⟩
  · cases h
def gIc (c : Int → Int → Bool) (f : Int → Int → PV) : SV → SV → Option SV
  | .p (.i a), .p (.i b) => if c a b then some (.p (f a b)) else none
  | _, _ => none
theorem gIc_some {c : Int → Int → Bool} {f : Int → Int → PV} {x y z : SV} (h : gIc c f x y = some z) : ∃ a b, x = .p (.i a) ∧ y = .p (.i b) ∧ z = .p (f a b) ∧ c a b = true := by
  unfold gIc at h
  split at h
  · rename_i a b
    by_cases e : c a b = true
    · rw [if_pos e] at h; cases h; exact ⟨_, _, rfl, rfl, rfl, e⟩
    · rw [if_neg e] at h; cases h
  · cases h
theorem op_i0 {g : Int → Int → V} {f : Int → Int → PV} (h : ∀ i j H, Rep H (f i j) (g i j)) : Op2 K Pt (rI0 g) (gI f) := by
  intro bd bs Ha Hb H x y z v w Q wd rx ry hz q
  obtain ⟨a, b, rfl, rfl, rfl⟩ := gI_some hz
  exact ⟨a, b, rx, ry, q _ H (G.refl H) wd (h a b H)⟩
theorem op_ic {C : Int → Int → Prop} {g : Int → Int → V} {c : Int → Int → Bool} {f : Int → Int → PV} (hc : ∀ i j, c i j = true → C i j) (h : ∀ i j H, Rep H (f i j) (g i j)) : Op2 K Pt (rI C g) (gIc c f) := by
  intro bd bs Ha Hb H x y z v w Q wd rx ry hz q
  obtain ⟨a, b, rfl, rfl, rfl, e⟩ := gIc_some hz
  exact ⟨a, b, rx, ry, hc a b e, q _ H (G.refl H) wd (h a b H)⟩
abbrev gAdd := gI fun i j => .i (i + j)
abbrev gSub_ := gI fun i j => .i (i - j)
abbrev gLt := gI fun i j => .b (decide (i < j))
abbrev gLe := gI fun i j => .b (decide (i ≤ j))
abbrev gGt := gI fun i j => .b (decide (j < i))
abbrev gGe := gI fun i j => .b (decide (j ≤ i))
def cMul (i j : Int) : Bool := decide (-(2 ^ 64) < i ∧ i < 2 ^ 64) || decide (-(2 ^ 64) < j ∧ j < 2 ^ 64)
def cDiv (_ j : Int) : Bool := decide (0 < j ∧ j < 1073741824)
def cMod (_ j : Int) : Bool := decide (0 < j)
def cPow (i j : Int) : Bool := decide (0 ≤ j ∧ j ≤ 1000000 ∧ i.natAbs < 2 ^ 64)
abbrev gMul := gIc cMul fun i j => .i (i * j)
abbrev gDiv := gIc cDiv fun i j => .i (i / j)
abbrev gMod := gIc cMod fun i j => .i (i % j)
abbrev gPow := gIc cPow fun i j => .i (i ^ j.toNat)
theorem o_add : Op2 K Pt (rI0 fun i j => V.int (i + j)) gAdd := op_i0 fun _ _ _ => rfl
theorem o_sub : Op2 K Pt (rI0 fun i j => V.int (i - j)) gSub_ := op_i0 fun _ _ _ => rfl
theorem o_lt : Op2 K Pt (rI0 fun i j => V.bl (decide (i < j))) gLt := op_i0 fun _ _ _ => rfl
theorem o_le : Op2 K Pt (rI0 fun i j => V.bl (decide (i ≤ j))) gLe := op_i0 fun _ _ _ => rfl
theorem o_gt : Op2 K Pt (rI0 fun i j => V.bl (decide (j < i))) gGt := op_i0 fun _ _ _ => rfl
theorem o_ge : Op2 K Pt (rI0 fun i j => V.bl (decide (j ≤ i))) gGe := op_i0 fun _ _ _ => rfl
theorem o_mul : Op2 K Pt (rI CMul fun i j => V.int (i * j)) gMul := op_ic (fun i j h => by
  unfold cMul at h
  rcases Bool.or_eq_true_iff.mp h with h | h
  · exact Or.inl (of_decide_eq_true h)
  · exact Or.inr (of_decide_eq_true h)) fun _ _ _ => rfl
theorem o_div : Op2 K Pt (rI CDiv fun i j => V.int (i / j)) gDiv := op_ic (fun i j h => by have h' : 0 < j ∧ j < 1073741824 := of_decide_eq_true h; exact h') fun _ _ _ => rfl
theorem o_mod : Op2 K Pt (rI (fun x j => 0 < j) fun i j => V.int (i % j)) gMod := op_ic (fun i j h => of_decide_eq_true h) fun _ _ _ => rfl
theorem o_pow : Op2 K Pt (rI CPow fun i j => V.int (i ^ j.toNat)) gPow := op_ic (fun i j h => by have h' : 0 ≤ j ∧ j ≤ 1000000 ∧ i.natAbs < 2 ^ 64 := of_decide_eq_true h; exact h') fun _ _ _ => rfl
def gStr : SV → SV → Option SV
  | .p (.s a), .p (.s b) => if a.length + b.length ≤ 100000 then some (.p (.s (a ++ b))) else none
  | _, _ => none
theorem o_str : Op2 K Pt (fun x y H Q => ∃ i j, x = V.str i ∧ y = V.str j ∧ i.length + j.length ≤ sizeLine ∧ Q (V.str (i ++ j)) H) gStr := by
  intro bd bs Ha Hb H x y z v w Q wd rx ry hz q
  unfold gStr at hz
  split at hz
  · split at hz
    · rename_i a b hl
      cases hz
      exact ⟨a, b, rx, ry, szl hl, q _ H (G.refl H) wd rfl⟩
    · cases hz
  · cases hz
def gEqB (neg : Bool) : SV → SV → Option SV
  | .p (.i a), .p (.i b) => some (.p (.b (decide (a = b) ^^ neg)))
  | .p (.s a), .p (.s b) => some (.p (.b (decide (a = b) ^^ neg)))
  | _, _ => none
theorem o_eq : Op2 K Pt rEq (gEqB false) := by
  intro bd bs Ha Hb H x y z v w Q wd rx ry hz q
  unfold gEqB at hz
  split at hz
  · rename_i a b
    cases hz
    obtain rfl : v = .int a := rx
    obtain rfl : w = .int b := ry
    exact ⟨rfl, q _ H (G.refl H) wd (by show V.bl _ = V.bl _; simp)⟩
  · rename_i a b
    cases hz
    obtain rfl : v = .str a := rx
    obtain rfl : w = .str b := ry
    exact ⟨rfl, q _ H (G.refl H) wd (by show V.bl _ = V.bl _; simp)⟩
  · cases hz
theorem o_ne : Op2 K Pt rNe (gEqB true) := by
  intro bd bs Ha Hb H x y z v w Q wd rx ry hz q
  unfold gEqB at hz
  split at hz
  · rename_i a b
    cases hz
    obtain rfl : v = .int a := rx
    obtain rfl : w = .int b := ry
    exact ⟨rfl, q _ H (G.refl H) wd (by show V.bl _ = V.bl _; simp)⟩
  · rename_i a b
    cases hz
    obtain rfl : v = .str a := rx
    obtain rfl : w = .str b := ry
    exact ⟨rfl, q _ H (G.refl H) wd (by show V.bl _ = V.bl _; simp)⟩
  · cases hz
theorem atI_nat {α : Type} {xs : List α} {k : Int} {x : α} (h0 : 0 ≤ k) (h : xs[k.toNat]? = some x) : atI xs k = some x := by
  have hl := (List.getElem?_eq_some_iff.mp h).1
  unfold atI ixN
  rw [if_pos h0, if_pos (by omega)]
  exact h
def gIx : SV → SV → Option SV
  | x, .p (.i k) => match x.seq with
    | some xs => if 0 ≤ k then xs[k.toNat]?.map SV.p else none
    | none => none
  | _, _ => none
theorem o_ix : Op2 K Pt (rIx2 K) gIx := by
  intro bd bs Ha Hb H x y z v w Q wd rx ry hz q
  unfold gIx at hz
  split at hz
  · rename_i k
    split at hz
    · rename_i xs hs
      split at hz
      · rename_i hk
        obtain ⟨p, h1, rfl⟩ := Option.map_eq_some_iff.mp hz
        obtain ⟨a, vs, rfl, hq, hr⟩ := rx.seq hs
        obtain ⟨u, h2, h3⟩ := hr.get h1
        rcases hq with hq | hq
        · exact Or.inl ⟨a, vs, k, u, rfl, ry, hq, atI_nat hk h2, q u H (G.refl H) wd h3⟩
        · exact Or.inr ⟨a, vs, k, u, rfl, ry, hq, atI_nat hk h2, q u H (G.refl H) wd h3⟩
      · cases hz
    · cases hz
  · cases hz
def gIxS : SV → SV → Option SV
  | .p (.s z), .p (.i k) => if 0 ≤ k ∧ z.length ≤ 100000 then z.cps.toList[k.toNat]?.map fun c => .p (.s ⟨#[c]⟩) else none
  | _, _ => none
theorem o_ixS : Op2 K Pt rIxS gIxS := by
  intro bd bs Ha Hb H x y z v w Q wd rx ry hz q
  unfold gIxS at hz
  split at hz
  · rename_i s k
    split at hz
    · rename_i hk
      obtain ⟨c, h1, h2⟩ := Option.map_eq_some_iff.mp hz
      have h3 : SV.p (.s ⟨#[c]⟩) = z := h2
      subst h3
      have h4 : atI s.cps.toList k = some c := atI_nat hk.1 h1
      have h5 : s.length ≤ sizeLine := szl hk.2
      have h6 : RepS K bd H H (.p (.s ⟨#[c]⟩)) (V.str ⟨#[c]⟩) := by show V.str _ = V.str _; rfl
      exact ⟨s, k, c, rx, ry, h5, h4, q _ H (G.refl H) wd h6⟩
    · cases hz
  · cases hz
/-- a list of the heap itself -/
def SV.hl : SV → Option (List PV)
  | .l xs => some xs
  | .m xs => some xs
  | _ => none
theorem RepS.hl {bd : BD} {H0 H : Hp} {x : SV} {v : V} {xs : List PV} (r : RepS K bd H0 H x v) (e : x.hl = some xs) : ∃ a vs, v = .ref a ∧ H a = some (.lst vs) ∧ NB bd a ∧ Reps H xs vs := by
  cases x with
  | l ys =>
    have e' : ys = xs := Option.some.inj e
    subst e'
    exact r
  | m ys =>
    have e' : ys = xs := Option.some.inj e
    subst e'
    obtain ⟨a, vs, e1, _, h, n, q⟩ := r
    exact ⟨a, vs, e1, h, n, q⟩
  | p y => cases e
  | k y => cases e
  | box => cases e
  | ty y => cases e
  | rg y => cases e
theorem new_l {bd : BD} {bs : BS} {H : Hp} {p : Addr} {ps : List PV} {vs : List V} (hp : H p = none) (wd : Wd Pt bd bs H) (r : Reps H ps vs) : G bd H (upd H p (.lst vs)) ∧ Wd Pt bd bs (upd H p (.lst vs)) ∧ RepS K bd H (upd H p (.lst vs)) (.m ps) (.ref p) :=
  ⟨G.new hp, wd.new hp, p, vs, rfl, fr_none hp, upd_same, fun B D e => by
    obtain ⟨h1, _, _⟩ := wd.box B D e
    exact (ne_of_none h1 hp).symm, Reps.mono (G.new (bd := bd) hp).tx _ _ r⟩
theorem new_t {bd : BD} {bs : BS} {H : Hp} {p : Addr} {ps : List PV} {vs : List V} (hp : H p = none) (wd : Wd Pt bd bs H) (r : Reps H ps vs) : G bd H (upd H p (.tup vs)) ∧ Wd Pt bd bs (upd H p (.tup vs)) ∧ RepS K bd H (upd H p (.tup vs)) (.p (.t ps)) (.ref p) :=
  ⟨G.new hp, wd.new hp, p, vs, rfl, upd_same, Reps.mono (G.new (bd := bd) hp).tx _ _ r⟩
def gCat (x y : SV) : Option SV := match x.hl, y.hl with
  | some xs, some ys => if xs.length + ys.length ≤ 100000 then some (.m (xs ++ ys)) else none
  | _, _ => none
theorem o_cat : Op2 K Pt rCat gCat := by
  intro bd bs Ha Hb H x y z v w Q wd rx ry hz q
  unfold gCat at hz
  split at hz
  · rename_i xs ys h1 h2
    split at hz
    · rename_i hl
      cases hz
      obtain ⟨a, vs, rfl, ha, _, hr⟩ := rx.hl h1
      obtain ⟨b, ws, rfl, hb, _, hs⟩ := ry.hl h2
      refine ⟨a, b, vs, ws, rfl, rfl, ha, hb, szl (by rw [hr.length, hs.length]; exact hl), fun p hp => ?_⟩
      obtain ⟨g, w1, r⟩ := new_l (K := K) hp wd (hr.append hs)
      exact q _ _ g w1 r
    · cases hz
  · cases hz
def gCatA : SV → SV → Option SV
  | .p (.t xs), .p (.t ys) => if xs.length + ys.length ≤ 100000 then some (.p (.t (xs ++ ys))) else none
  | _, _ => none
theorem o_catA : Op2 K Pt (rCatA K) gCatA := by
  intro bd bs Ha Hb H x y z v w Q wd rx ry hz q
  unfold gCatA at hz
  split at hz
  · rename_i xs ys
    split at hz
    · rename_i hl
      cases hz
      obtain ⟨a, vs, rfl, ha, hr⟩ := rx
      obtain ⟨b, ws, rfl, hb, hs⟩ := ry
      refine ⟨a, b, vs, ws, rfl, rfl, Or.inl (Or.inl ha), Or.inl (Or.inl hb), szl (by rw [hr.length, hs.length]; exact hl), fun e => ?_, fun _ e => ?_, fun _ _ p hp => ?_⟩
      · subst e
        have : xs = [] := List.length_eq_zero_iff.mp (by rw [← hr.length]; rfl)
        subst this
        exact q _ H (G.refl H) wd ⟨b, ws, rfl, hb, hs⟩
      · subst e
        have : ys = [] := List.length_eq_zero_iff.mp (by rw [← hs.length]; rfl)
        subst this
        exact q _ H (G.refl H) wd ⟨a, vs, rfl, ha, by rw [List.append_nil]; exact hr⟩
      · obtain ⟨g, w1, r⟩ := new_t (K := K) hp wd (hr.append hs)
        exact q _ _ g w1 r
    · cases hz
  · cases hz
def gRep (x : SV) : SV → Option SV
  | .p (.i k) => match x.hl with
    | some xs => if 0 ≤ k ∧ k ≤ 100000 ∧ xs.length * k.toNat ≤ 100000 then some (.m (List.replicate k.toNat xs).flatten) else none
    | none => none
  | _ => none
theorem o_rep : Op2 K Pt rRep gRep := by
  intro bd bs Ha Hb H x y z v w Q wd rx ry hz q
  unfold gRep at hz
  split at hz
  · rename_i k
    split at hz
    · rename_i xs hs
      split at hz
      · rename_i hk
        cases hz
        obtain ⟨a, vs, rfl, ha, _, hr⟩ := rx.hl hs
        refine ⟨a, k, vs, rfl, ry, ha, by omega, by omega, szl (by rw [hr.length]; exact hk.2.2), fun p hp => ?_⟩
        obtain ⟨g, w1, r⟩ := new_l (K := K) hp wd (Reps.replicate hr k.toNat)
        exact q _ _ g w1 r
      · cases hz
    · cases hz
  · cases hz
theorem inV_int (k : Int) : ∀ ns : List Int, inV (.int k) (ns.map V.int) = decide (k ∈ ns) := by
  intro ns
  rw [Bool.eq_iff_iff]
  simp [inV, eqV]
theorem flat_ints : ∀ ns : List Int, (ns.map V.int).all flatV = true
  | [] => rfl
  | n :: ns => by simp [flatV]
def gIn : SV → SV → Option SV
  | .p (.i k), y => match y.seq.bind intsP with
    | some ns => some (.p (.b (decide (k ∈ ns))))
    | none => none
  | _, _ => none
theorem o_in : Op2 K Pt (rIn K false) gIn := by
  intro bd bs Ha Hb H x y z v w Q wd rx ry hz q
  unfold gIn at hz
  split at hz
  · rename_i k
    split at hz
    · rename_i ns hs
      cases hz
      obtain ⟨xs, h1, h2⟩ := Option.bind_eq_some_iff.mp hs
      obtain ⟨a, vs, rfl, hq, hr⟩ := ry.seq h1
      obtain rfl := hr.intsP h2
      obtain rfl : v = .int k := rx
      exact ⟨a, _, rfl, hq, rfl, flat_ints ns, q _ H (G.refl H) wd (by show V.bl _ = V.bl _; rw [inV_int]; rfl)⟩
    · cases hz
  · cases hz
mutual
def PV.data : PV → PyData
  | .i n => .int n
  | .b x => .bool x
  | .s x => .str x
  | .t ps => .tuple (dataL ps)
def dataL : List PV → List PyData
  | [] => []
  | p :: ps => p.data :: dataL ps
end
mutual
theorem Rep.dp {H : Hp} : ∀ (p : PV) (v : V), Rep H p v → Dp K H v p.data
  | .i n, v, h => by rw [show v = .int n from h]; exact .int n
  | .b x, v, h => by rw [show v = .bl x from h]; exact .bl x
  | .s x, v, h => by rw [show v = .str x from h]; exact .str x
  | .t ps, v, h => by
    obtain ⟨a, vs, e1, e2, e3⟩ := h
    rw [e1]
    exact .tup (Or.inl (Or.inl e2)) (Reps.dp ps vs e3)
theorem Reps.dp {H : Hp} : ∀ (ps : List PV) (vs : List V), Reps H ps vs → DpAll K H vs (dataL ps)
  | [], vs, h => by rw [show vs = [] from h]; exact .nil
  | p :: ps, vs, h => by
    obtain ⟨w, ws, e1, e2, e3⟩ := h
    rw [e1]
    exact .cons (Rep.dp p w e2) (Reps.dp ps ws e3)
end
def gNotIn : SV → SV → Option SV
  | .p x, y => match y.lst with
    | some ys => if SeqAt.shaped x.data && SeqAt.shaped (.list (dataL ys)) then some (.p (.b (!(dataL ys).any fun z => PyData.eqv z x.data))) else none
    | none => none
  | _, _ => none
theorem o_notin : Op2 K Pt (rNotInD K) gNotIn := by
  intro bd bs Ha Hb H x y z v w Q wd rx ry hz q
  unfold gNotIn at hz
  split at hz
  · rename_i x
    split at hz
    · rename_i ys hs
      split at hz
      · rename_i hc
        cases hz
        have hc := Bool.and_eq_true_iff.mp hc
        obtain ⟨a, vs, rfl, hq, hr⟩ := ry.lst hs
        exact ⟨x.data, dataL ys, Rep.dp x v rx, .lst hq (Reps.dp ys vs hr), hc.1, hc.2, q _ H (G.refl H) wd rfl⟩
      · cases hz
    · cases hz
  · cases hz
/-! unary, and, or, chains -/
def fNeg (fa : Fe) : Fe := fun S bs => bnd (fa S bs) fun x b1 => match x with
  | .p (.i n) => some (.p (.i (-n)), b1)
  | _ => none
theorem ev_neg (ha : EvE K Pt ta fa) : EvE K Pt (tUn (rU fun i => V.int (-i)) ta) (fNeg fa) := by
  intro bd H0 S σ H bs z bs' Q R wd hf q
  obtain ⟨x, b1, e1, hf⟩ := bnd_some hf
  split at hf
  · rename_i n
    cases hf
    exact ha bd H0 S σ H bs _ _ _ R wd e1 fun v H1 g1 w1 r1 => ⟨n, rpI' r1, q _ H1 g1 w1 rpI⟩
  · cases hf
def fNot (fa : Fe) : Fe := fun S bs => bnd (fa S bs) fun x b1 => match x with
  | .p (.b n) => some (.p (.b (!n)), b1)
  | _ => none
theorem ev_not (ha : EvE K Pt ta fa) : EvE K Pt (tNotV ta) (fNot fa) := by
  intro bd H0 S σ H bs z bs' Q R wd hf q
  obtain ⟨x, b1, e1, hf⟩ := bnd_some hf
  split at hf
  · rename_i n
    cases hf
    exact ha bd H0 S σ H bs _ _ _ R wd e1 fun v H1 g1 w1 r1 => ⟨n, rpB' r1, q _ H1 g1 w1 rpB⟩
  · cases hf
def fAnd (fa fb : Fe) : Fe := fun S bs => bnd (fa S bs) fun x b1 => match x with
  | .p (.b true) => fb S b1
  | .p (.b false) => some (.p (.b false), b1)
  | _ => none
theorem ev_and (ha : EvE K Pt ta fa) (hb : EvE K Pt tb fb) : EvE K Pt (tAndV ta tb) (fAnd fa fb) := by
  intro bd H0 S σ H bs z bs' Q R wd hf q
  obtain ⟨x, b1, e1, hf⟩ := bnd_some hf
  split at hf
  · exact ha bd H0 S σ H bs _ _ _ R wd e1 fun v H1 g1 w1 r1 => ⟨true, rpB' r1, hb bd H0 S σ H1 b1 z bs' Q (R.mono g1) w1 hf fun u H2 g2 w2 r2 => q u H2 (g1.trans g2) w2 (r2.base g1.fr)⟩
  · cases hf
    exact ha bd H0 S σ H bs _ _ _ R wd e1 fun v H1 g1 w1 r1 => ⟨false, rpB' r1, q _ H1 g1 w1 rpB⟩
  · cases hf
def fOr (fa fb : Fe) : Fe := fun S bs => bnd (fa S bs) fun x b1 => match x with
  | .p (.b false) => fb S b1
  | .p (.b true) => some (.p (.b true), b1)
  | _ => none
theorem ev_or (ha : EvE K Pt ta fa) (hb : EvE K Pt tb fb) : EvE K Pt (tOrV ta tb) (fOr fa fb) := by
  intro bd H0 S σ H bs z bs' Q R wd hf q
  obtain ⟨x, b1, e1, hf⟩ := bnd_some hf
  split at hf
  · exact ha bd H0 S σ H bs _ _ _ R wd e1 fun v H1 g1 w1 r1 => ⟨false, rpB' r1, hb bd H0 S σ H1 b1 z bs' Q (R.mono g1) w1 hf fun u H2 g2 w2 r2 => q u H2 (g1.trans g2) w2 (r2.base g1.fr)⟩
  · cases hf
    exact ha bd H0 S σ H bs _ _ _ R wd e1 fun v H1 g1 w1 r1 => ⟨true, rpB' r1, q _ H1 g1 w1 rpB⟩
  · cases hf
def fChain (g g' : SV → SV → Option SV) (fa fb fc : Fe) : Fe := fun S bs => bnd (fa S bs) fun x b1 => bnd (fb S b1) fun y b2 => match g x y with
  | some (.p (.b true)) => bnd (fc S b2) fun z b3 => ret (g' y z) b3
  | some (.p (.b false)) => some (.p (.b false), b2)
  | _ => none
theorem ev_chain {r r' : R2} {g g' : SV → SV → Option SV} (o : Op2 K Pt r g) (o' : Op2 K Pt r' g') (ha : EvE K Pt ta fa) (hb : EvE K Pt tb fb) (hc : EvE K Pt tc fc) : EvE K Pt (tChain r r' ta tb tc) (fChain g g' fa fb fc) := by
  intro bd H0 S σ H bs z bs' Q R wd hf q
  obtain ⟨x, b1, e1, hf⟩ := bnd_some hf
  obtain ⟨y, b2, e2, hf⟩ := bnd_some hf
  split at hf
  · rename_i e3
    obtain ⟨z', b3, e4, hf⟩ := bnd_some hf
    obtain ⟨e5, rfl⟩ := ret_some hf
    exact ha bd H0 S σ H bs x _ _ R wd e1 fun v H1 g1 w1 r1 => hb bd H0 S σ H1 _ y _ _ (R.mono g1) w1 e2 fun w H2 g2 w2 r2 =>
      o bd _ H H1 H2 x y _ v w _ w2 (r1.mono g2) r2 e3 fun u H3 g3 w3 r3 => ⟨true, rpB' r3, hc bd H0 S σ H3 b2 z' b3 _ (R.mono (g1.trans (g2.trans g3))) w3 e4 fun t H4 g4 w4 r4 =>
        o' bd b3 H1 H3 H4 y z' z w t Q w4 (r2.mono (g3.trans g4)) r4 e5 fun u H5 g5 w5 r5 => q u H5 (g1.trans (g2.trans (g3.trans (g4.trans g5)))) w5 (r5.base (g1.trans (g2.trans (g3.trans g4))).fr)⟩
  · rename_i e3
    cases hf
    exact ha bd H0 S σ H bs x _ _ R wd e1 fun v H1 g1 w1 r1 => hb bd H0 S σ H1 _ y _ _ (R.mono g1) w1 e2 fun w H2 g2 w2 r2 =>
      o bd _ H H1 H2 x y _ v w _ w2 (r1.mono g2) r2 e3 fun u H3 g3 w3 r3 => ⟨false, rpB' r3, q _ H3 (g1.trans (g2.trans g3)) w3 rpB⟩
  · cases hf
/-! ### argument lists -/
variable {tas : TA} {fas : Fa}
def fNil : Fa := fun _ bs => some ([], bs)
def fCons (fa : Fe) (fs : Fa) : Fa := fun S bs => bnd (fa S bs) fun x b1 => bnd (fs S b1) fun xs b2 => some (x :: xs, b2)
theorem ev_nil : EvA K Pt tNil fNil := by
  intro bd H0 S σ H bs z bs' Q R wd hf q
  cases hf
  exact q [] H (G.refl H) wd rfl
theorem ev_cons (ha : EvE K Pt ta fa) (hs : EvA K Pt tas fas) : EvA K Pt (tCons ta tas) (fCons fa fas) := by
  intro bd H0 S σ H bs z bs' Q R wd hf q
  obtain ⟨x, b1, e1, hf⟩ := bnd_some hf
  obtain ⟨xs, b2, e2, hf⟩ := bnd_some hf
  cases hf
  exact ha bd H0 S σ H bs x _ _ R wd e1 fun v H1 g1 w1 r1 => hs bd H0 S σ H1 _ xs _ _ (R.mono g1) w1 e2 fun vs H2 g2 w2 r2 => q (v :: vs) H2 (g1.trans g2) w2 ⟨v, vs, rfl, r1.mono g2, r2.base g1.fr⟩
def fTup (fs : Fa) : Fe := fun S bs => bnd (fs S bs) fun xs b1 => match pvs xs with
  | some ps => if ps.length ≤ 100000 then some (.p (.t ps), b1) else none
  | none => none
theorem ev_tup (hs : EvA K Pt tas fas) : EvE K Pt (tTup tas) (fTup fas) := by
  intro bd H0 S σ H bs z bs' Q R wd hf q
  obtain ⟨xs, b1, e1, hf⟩ := bnd_some hf
  split at hf
  · rename_i ps hp
    split at hf
    · rename_i hl
      cases hf
      exact hs bd H0 S σ H bs xs _ _ R wd e1 fun vs H1 g1 w1 r1 => ⟨szl (by rw [(r1.pvs hp).length]; exact hl), fun p hp' => by
        obtain ⟨g2, w2, r2⟩ := new_t (K := K) hp' w1 (r1.pvs hp)
        exact q _ _ (g1.trans g2) w2 (r2.base g1.fr)⟩
    · cases hf
  · cases hf
def fLst (fs : Fa) : Fe := fun S bs => bnd (fs S bs) fun xs b1 => match pvs xs with
  | some ps => if ps.length ≤ 100000 then some (.m ps, b1) else none
  | none => none
theorem ev_lst (hs : EvA K Pt tas fas) : EvE K Pt (tLst tas) (fLst fas) := by
  intro bd H0 S σ H bs z bs' Q R wd hf q
  obtain ⟨xs, b1, e1, hf⟩ := bnd_some hf
  split at hf
  · rename_i ps hp
    split at hf
    · rename_i hl
      cases hf
      exact hs bd H0 S σ H bs xs _ _ R wd e1 fun vs H1 g1 w1 r1 => ⟨szl (by rw [(r1.pvs hp).length]; exact hl), fun p hp' => by
        obtain ⟨g2, w2, r2⟩ := new_l (K := K) hp' w1 (r1.pvs hp)
        exact q _ _ (g1.trans g2) w2 (r2.base g1.fr)⟩
    · cases hf
  · cases hf
/-! ### calls of built-ins -/
def fCB (g : List SV → Option SV) (fs : Fa) : Fe := fun S bs => bnd (fs S bs) fun xs b1 => ret (g xs) b1
theorem ev_cb {r : List V → Hp → VK → Prop} {g : List SV → Option SV} (c : CR K Pt r g) (hs : EvA K Pt tas fas) : EvE K Pt (tCB r tas) (fCB g fas) := by
  intro bd H0 S σ H bs z bs' Q R wd hf q
  obtain ⟨xs, b1, e1, hf⟩ := bnd_some hf
  obtain ⟨e2, rfl⟩ := ret_some hf
  exact hs bd H0 S σ H bs xs _ _ R wd e1 fun vs H1 g1 w1 r1 => c bd b1 H H1 xs vs z Q w1 r1 e2 fun u H2 g2 w2 r2 => q u H2 (g1.trans g2) w2 (r2.base g1.fr)
def gLen : List SV → Option SV
  | [x] => x.seq.map fun xs => .p (.i xs.length)
  | _ => none
theorem c_len : CR K Pt (rLenS K) gLen := by
  intro bd bs Ha H xs vs z Q wd rx hz q
  unfold gLen at hz
  split at hz
  · rename_i x
    obtain ⟨ys, h1, rfl⟩ := Option.map_eq_some_iff.mp hz
    obtain ⟨v, rfl, r⟩ := rx.one
    obtain ⟨a, vs, rfl, hq, hr⟩ := r.seq h1
    exact ⟨a, vs, rfl, hq, q _ H (G.refl H) wd (by rw [hr.length]; rfl)⟩
  · cases hz
def gMin2 : List SV → Option SV
  | [.p (.i a), .p (.i b)] => some (.p (.i (if b < a then b else a)))
  | _ => none
theorem c_min2 : CR K Pt (fun xs H Q => ∃ i j, xs = [V.int i, V.int j] ∧ Q (V.int (if j < i then j else i)) H) gMin2 := by
  intro bd bs Ha H xs vs z Q wd rx hz q
  unfold gMin2 at hz
  split at hz
  · rename_i a b
    cases hz
    obtain ⟨v, w, rfl, r1, r2⟩ := rx.two
    obtain rfl : v = .int a := r1
    obtain rfl : w = .int b := r2
    exact ⟨a, b, rfl, q _ H (G.refl H) wd rfl⟩
  · cases hz
def gMax2 : List SV → Option SV
  | [.p (.i a), .p (.i b)] => some (.p (.i (if b > a then b else a)))
  | _ => none
theorem c_max2 : CR K Pt (fun xs H Q => ∃ i j, xs = [V.int i, V.int j] ∧ Q (V.int (if j > i then j else i)) H) gMax2 := by
  intro bd bs Ha H xs vs z Q wd rx hz q
  unfold gMax2 at hz
  split at hz
  · rename_i a b
    cases hz
    obtain ⟨v, w, rfl, r1, r2⟩ := rx.two
    obtain rfl : v = .int a := r1
    obtain rfl : w = .int b := r2
    exact ⟨a, b, rfl, q _ H (G.refl H) wd rfl⟩
  · cases hz
def onInts (k : List Int → Option SV) : List SV → Option SV
  | [x] => (x.lst.bind intsP).bind k
  | _ => none
theorem onInts_some {k : List Int → Option SV} {bd : BD} {Ha H : Hp} {xs : List SV} {vs : List V} {z : SV} (rx : RepA K bd Ha H xs vs) (h : onInts k xs = some z) : ∃ (a : Addr) (ns : List Int), vs = [.ref a] ∧ SqL K H a (ns.map V.int) ∧ k ns = some z := by
  unfold onInts at h
  split at h
  · rename_i x
    obtain ⟨ns, h1, h2⟩ := Option.bind_eq_some_iff.mp h
    obtain ⟨ys, h3, h4⟩ := Option.bind_eq_some_iff.mp h1
    obtain ⟨v, rfl, r⟩ := rx.one
    obtain ⟨a, vs, rfl, hq, hr⟩ := r.lst h3
    obtain rfl := hr.intsP h4
    exact ⟨a, ns, rfl, hq, h2⟩
  · cases h
def lmin : List Int → Int
  | [] => 0
  | [n] => n
  | n :: ns => if lmin ns < n then lmin ns else n
def lmax : List Int → Int
  | [] => 0
  | [n] => n
  | n :: ns => if n < lmax ns then lmax ns else n
theorem lmin_eq : ∀ {ns : List Int} {m : Int}, m ∈ ns → (∀ y, y ∈ ns → m ≤ y) → m = lmin ns := by
  have key : ∀ ns : List Int, ns ≠ [] → lmin ns ∈ ns ∧ ∀ y ∈ ns, lmin ns ≤ y := by
    intro ns
    induction ns with
    | nil => intro h; exact absurd rfl h
    | cons n ns ih =>
      intro _
      cases ns with
      | nil => simp [lmin]
      | cons k ks =>
        obtain ⟨h1, h2⟩ := ih (by simp)
        have e : lmin (n :: k :: ks) = if lmin (k :: ks) < n then lmin (k :: ks) else n := rfl
        rw [e]
        split
        · rename_i hlt
          refine ⟨List.mem_cons_of_mem _ h1, fun y hy => ?_⟩
          rcases List.mem_cons.mp hy with rfl | hy
          · omega
          · exact h2 y hy
        · rename_i hge
          refine ⟨List.mem_cons_self, fun y hy => ?_⟩
          rcases List.mem_cons.mp hy with rfl | hy
          · omega
          · have := h2 y hy; omega
  intro ns m h1 h2
  obtain ⟨h3, h4⟩ := key ns (fun e => by rw [e] at h1; cases h1)
  have := h2 _ h3
  have := h4 _ h1
  omega
theorem lmax_eq : ∀ {ns : List Int} {m : Int}, m ∈ ns → (∀ y, y ∈ ns → y ≤ m) → m = lmax ns := by
  have key : ∀ ns : List Int, ns ≠ [] → lmax ns ∈ ns ∧ ∀ y ∈ ns, y ≤ lmax ns := by
    intro ns
    induction ns with
    | nil => intro h; exact absurd rfl h
    | cons n ns ih =>
      intro _
      cases ns with
      | nil => simp [lmax]
      | cons k ks =>
        obtain ⟨h1, h2⟩ := ih (by simp)
        have e : lmax (n :: k :: ks) = if n < lmax (k :: ks) then lmax (k :: ks) else n := rfl
        rw [e]
        split
        · rename_i hlt
          refine ⟨List.mem_cons_of_mem _ h1, fun y hy => ?_⟩
          rcases List.mem_cons.mp hy with rfl | hy
          · omega
          · exact h2 y hy
        · rename_i hge
          refine ⟨List.mem_cons_self, fun y hy => ?_⟩
          rcases List.mem_cons.mp hy with rfl | hy
          · omega
          · have := h2 y hy; omega
  intro ns m h1 h2
  obtain ⟨h3, h4⟩ := key ns (fun e => by rw [e] at h1; cases h1)
  have := h2 _ h3
  have := h4 _ h1
  omega
abbrev gMinL := onInts fun ns => if 0 < ns.length then some (.p (.i (lmin ns))) else none
abbrev gMaxL := onInts fun ns => if 0 < ns.length then some (.p (.i (lmax ns))) else none
abbrev gSum := onInts fun ns => some (.p (.i ns.sum))
theorem c_min : CR K Pt (rMin K) gMinL := by
  intro bd bs Ha H xs vs z Q wd rx hz q
  obtain ⟨a, ns, rfl, h1, h2⟩ := onInts_some rx hz
  split at h2
  · rename_i hl
    cases h2
    exact ⟨a, ns, rfl, h1, hl, fun m hm hy => q _ H (G.refl H) wd (by show V.int _ = V.int _; rw [lmin_eq hm hy])⟩
  · cases h2
theorem c_max : CR K Pt (rMax K) gMaxL := by
  intro bd bs Ha H xs vs z Q wd rx hz q
  obtain ⟨a, ns, rfl, h1, h2⟩ := onInts_some rx hz
  split at h2
  · rename_i hl
    cases h2
    exact ⟨a, ns, rfl, h1, hl, fun m hm hy => q _ H (G.refl H) wd (by show V.int _ = V.int _; rw [lmax_eq hm hy])⟩
  · cases h2
theorem c_sum : CR K Pt (rSum K) gSum := by
  intro bd bs Ha H xs vs z Q wd rx hz q
  obtain ⟨a, ns, rfl, h1, h2⟩ := onInts_some rx hz
  cases h2
  exact ⟨a, ns, rfl, h1, q _ H (G.refl H) wd rfl⟩
def gAll : List SV → Option SV
  | [x] => (x.lst.bind boolsP).map fun ns => .p (.b (ns.all id))
  | _ => none
theorem c_all : CR K Pt (rAll K) gAll := by
  intro bd bs Ha H xs vs z Q wd rx hz q
  unfold gAll at hz
  split at hz
  · rename_i x
    obtain ⟨ns, h1, h2⟩ := Option.map_eq_some_iff.mp hz
    have hz' : SV.p (.b (ns.all id)) = z := h2
    subst hz'
    obtain ⟨ys, h3, h4⟩ := Option.bind_eq_some_iff.mp h1
    obtain ⟨v, rfl, r⟩ := rx.one
    obtain ⟨a, vs, rfl, hq, hr⟩ := r.lst h3
    obtain rfl := hr.boolsP h4
    exact ⟨a, ns, rfl, hq, q _ H (G.refl H) wd rpB⟩
  · cases hz
def PV.isInt : PV → Bool
  | .i _ => true | .b _ => true | _ => false
def PV.isBool : PV → Bool
  | .b _ => true | _ => false
def PV.isTup : PV → Bool
  | .t _ => true | _ => false
def gIsi : List SV → Option SV
  | [.p x, .ty n] => if n = "int" then some (.p (.b x.isInt)) else if n = "bool" then some (.p (.b x.isBool)) else if n = "tuple" then some (.p (.b x.isTup)) else none
  | _ => none
theorem kt_int_int : PySem.W.kitOne K (.type "int") (.type "int") = some true := kit_ty (by decide +kernel)
theorem kt_int_bool : PySem.W.kitOne K (.type "int") (.type "bool") = some false := kit_ty (by decide +kernel)
theorem kt_int_tuple : PySem.W.kitOne K (.type "int") (.type "tuple") = some false := kit_ty (by decide +kernel)
theorem kt_bool_int : PySem.W.kitOne K (.type "bool") (.type "int") = some true := kit_ty (by decide +kernel)
theorem kt_bool_bool : PySem.W.kitOne K (.type "bool") (.type "bool") = some true := kit_ty (by decide +kernel)
theorem kt_bool_tuple : PySem.W.kitOne K (.type "bool") (.type "tuple") = some false := kit_ty (by decide +kernel)
theorem kt_str_int : PySem.W.kitOne K (.type "str") (.type "int") = some false := kit_ty (by decide +kernel)
theorem kt_str_bool : PySem.W.kitOne K (.type "str") (.type "bool") = some false := kit_ty (by decide +kernel)
theorem kt_str_tuple : PySem.W.kitOne K (.type "str") (.type "tuple") = some false := kit_ty (by decide +kernel)
theorem kt_tuple_int : PySem.W.kitOne K (.type "tuple") (.type "int") = some false := kit_ty (by decide +kernel)
theorem kt_tuple_bool : PySem.W.kitOne K (.type "tuple") (.type "bool") = some false := kit_ty (by decide +kernel)
theorem kt_tuple_tuple : PySem.W.kitOne K (.type "tuple") (.type "tuple") = some true := kit_ty (by decide +kernel)
theorem kit_of {H : Hp} {x : PV} {v : V} (r : Rep H x v) : ∃ t : Value, TyX K H v t ∧ PySem.W.kitOne K t (.type "int") = some x.isInt ∧ PySem.W.kitOne K t (.type "bool") = some x.isBool ∧ PySem.W.kitOne K t (.type "tuple") = some x.isTup := by
  cases x with
  | i a => obtain rfl : v = .int a := r; exact ⟨_, .base (.int _), kt_int_int, kt_int_bool, kt_int_tuple⟩
  | b a => obtain rfl : v = .bl a := r; exact ⟨_, .base (.bl _), kt_bool_int, kt_bool_bool, kt_bool_tuple⟩
  | s a => obtain rfl : v = .str a := r; exact ⟨_, .base (.str _), kt_str_int, kt_str_bool, kt_str_tuple⟩
  | t a =>
    obtain ⟨c, us, rfl, h, _⟩ := r
    exact ⟨_, .base (.tup h), kt_tuple_int, kt_tuple_bool, kt_tuple_tuple⟩
theorem c_isi : CR K Pt (rIsi K) gIsi := by
  intro bd bs Ha H xs vs z Q wd rx hz q
  unfold gIsi at hz
  split at hz
  · rename_i x n
    obtain ⟨v, w, rfl, r1, r2⟩ := rx.two
    obtain rfl : w = .ty n := r2
    obtain ⟨t, h0, h1, h2, h3⟩ := kit_of (K := K) (show Rep H x v from r1)
    have fin : ∀ (b : Bool), PySem.W.kitOne K t (.type n) = some b → z = .p (.b b) → rIsi K [v, V.ty n] H Q := fun b e1 e2 => by
      subst e2
      exact ⟨v, .ty n, t, .type n, b, rfl, .ty n, h0, e1, q _ H (G.refl H) wd rpB⟩
    split at hz
    · rename_i e
      subst e
      exact fin _ h1 (Option.some.inj hz).symm
    · split at hz
      · rename_i e
        subst e
        exact fin _ h2 (Option.some.inj hz).symm
      · split at hz
        · rename_i e
          subst e
          exact fin _ h3 (Option.some.inj hz).symm
        · cases hz
  · cases hz
def gRepr : List SV → Option SV
  | [.p (.b x)] => some (.p (.s (if x then Str.ofString "True" else Str.ofString "False")))
  | _ => none
theorem c_repr : CR K Pt (fun xs H Q => ∃ b, xs = [V.bl b] ∧ Q (V.str (if b = true then Str.ofString "True" else Str.ofString "False")) H) gRepr := by
  intro bd bs Ha H xs vs z Q wd rx hz q
  unfold gRepr at hz
  split at hz
  · rename_i x
    cases hz
    obtain ⟨v, rfl, r⟩ := rx.one
    obtain rfl := rpB' r
    exact ⟨x, rfl, q _ H (G.refl H) wd rpS⟩
  · cases hz
def gTupOf : List SV → Option SV
  | [x] => x.lst.map fun xs => .p (.t xs)
  | _ => none
theorem c_tup : CR K Pt (fun xs H Q => ∃ p ys, xs = [V.ref p] ∧ ((SqL K H p ys ∧ ∀ (l : Addr), H l = none → Q (V.ref l) (upd H l (HO.tup ys))) ∨ SqT K H p ys ∧ Q (V.ref p) H)) gTupOf := by
  intro bd bs Ha H xs vs z Q wd rx hz q
  unfold gTupOf at hz
  split at hz
  · rename_i x
    obtain ⟨ys, h1, h2⟩ := Option.map_eq_some_iff.mp hz
    have hz' : SV.p (.t ys) = z := h2
    subst hz'
    obtain ⟨v, rfl, r⟩ := rx.one
    obtain ⟨a, us, rfl, hq, hr⟩ := r.lst h1
    refine ⟨a, us, rfl, Or.inl ⟨hq, fun l hl => ?_⟩⟩
    obtain ⟨g, w, r⟩ := new_t (K := K) hl wd hr
    exact q _ _ g w r
  · cases hz
def gInt1 : List SV → Option SV
  | [.p (.i n)] => some (.p (.i n))
  | [.p (.b x)] => some (.p (.i (if x then 1 else 0)))
  | _ => none
theorem c_int1 : CR K Pt (fun xs H Q => (∃ i, xs = [V.int i] ∧ Q (V.int i) H) ∨ ∃ k, xs = [V.bl k] ∧ Q (V.int (if k = true then 1 else 0)) H) gInt1 := by
  intro bd bs Ha H xs vs z Q wd rx hz q
  unfold gInt1 at hz
  split at hz
  · rename_i n
    cases hz
    obtain ⟨v, rfl, r⟩ := rx.one
    obtain rfl := rpI' r
    exact Or.inl ⟨n, rfl, q _ H (G.refl H) wd rpI⟩
  · rename_i n
    cases hz
    obtain ⟨v, rfl, r⟩ := rx.one
    obtain rfl := rpB' r
    exact Or.inr ⟨n, rfl, q _ H (G.refl H) wd rpI⟩
  · cases hz
def gRange1 : List SV → Option SV
  | [.p (.i n)] => if 0 ≤ n then some (.rg n.toNat) else none
  | _ => none
theorem c_range1 : CR K Pt (fun vs H Q => ∃ n, vs = [V.int n] ∧ ∀ (p : Addr), H p = none → Q (V.ref p) (upd H p (HO.rng 0 n))) gRange1 := by
  intro bd bs Ha H xs vs z Q wd rx hz q
  unfold gRange1 at hz
  split at hz
  · rename_i n
    split at hz
    · rename_i hn
      cases hz
      obtain ⟨v, rfl, r⟩ := rx.one
      obtain rfl := rpI' r
      exact ⟨n, rfl, fun p hp => q _ _ (G.new hp) (wd.new hp) ⟨p, rfl, by rw [upd_same, Int.toNat_of_nonneg hn]⟩⟩
    · cases hz
  · cases hz
/-! ### the call of a def -/
abbrev Fn := List SV → BS → Option (SV × BS)
section
variable (K Pt)
def spOf (D : Fn) : Sp := fun vs H Q _ => ∃ (bd : BD) (bs : BS) (as : List SV) (r : SV) (bs' : BS), D as bs = some (r, bs') ∧ as.length = vs.length ∧ RepA K bd H H as vs ∧ Wd Pt bd bs H ∧ (∀ B D, bd = some (B, D) → ¬ Fr H B ∧ ¬ Fr H D) ∧
  ∀ v H', G bd H H' → Wd Pt bd bs' H' → RepS K bd H H' r v → Q v H'
end
theorem Wd.notFr {bd : BD} {bs : BS} {H : Hp} (wd : Wd Pt bd bs H) : ∀ B D, bd = some (B, D) → ¬ Fr H B ∧ ¬ Fr H D := fun B D e => by
  obtain ⟨h1, h2, _⟩ := wd.box B D e
  exact ⟨notFr_lst (Or.inl h1), notFr_lst (Or.inl h2)⟩
def fCall (D : Fn) (fs : Fa) : Fe := fun S bs => bnd (fs S bs) fun xs b1 => D (xs.map SV.arg) b1
theorem ev_call {D : Fn} {E : XK} (hs : EvA K Pt tas fas) : EvE K Pt (tCall (spOf K Pt D) [] E tas) (fCall D fas) := by
  intro bd H0 S σ H bs z bs' Q R wd hf q
  obtain ⟨xs, b1, e1, hf⟩ := bnd_some hf
  exact hs bd H0 S σ H bs xs _ _ R wd e1 fun vs H1 g1 w1 r1 => ⟨bd, b1, xs.map SV.arg, z, bs', hf, by rw [List.append_nil, List.length_map, r1.length], by rw [List.append_nil]; exact r1.arg, w1, w1.notFr,
    fun v H2 g2 w2 r2 => q v H2 (g1.trans g2) w2 (r2.base g1.fr)⟩
/-! ### tests -/
variable {tt tu : TT} {ft fu : Ft}
def fTest (fa : Fe) : Ft := fun S bs => bnd (fa S bs) fun x b1 => match x with
  | .p (.b c) => some (c, b1)
  | _ => none
theorem ev_test (ha : EvE K Pt ta fa) : EvT K Pt (tTest ta) (fTest fa) := by
  intro bd H0 S σ H bs z bs' Q R wd hf q
  obtain ⟨x, b1, e1, hf⟩ := bnd_some hf
  split at hf
  · rename_i c
    cases hf
    exact ha bd H0 S σ H bs _ _ _ R wd e1 fun v H1 g1 w1 r1 => ⟨_, rpB' r1, q H1 g1 w1⟩
  · cases hf
theorem ev_B (ha : EvE K Pt ta fa) : EvT K Pt (tB ta) (fTest fa) := by
  intro bd H0 S σ H bs z bs' Q R wd hf q
  obtain ⟨x, b1, e1, hf⟩ := bnd_some hf
  split at hf
  · rename_i c
    cases hf
    exact ha bd H0 S σ H bs _ _ _ R wd e1 fun v H1 g1 w1 r1 => ⟨_, rpB' r1, q H1 g1 w1⟩
  · cases hf
def fTAnd (ft fu : Ft) : Ft := fun S bs => bnd (ft S bs) fun c b1 => if c then fu S b1 else some (false, b1)
theorem ev_tand (ht : EvT K Pt tt ft) (hu : EvT K Pt tu fu) : EvT K Pt (tAnd tt tu) (fTAnd ft fu) := by
  intro bd H0 S σ H bs z bs' Q R wd hf q
  obtain ⟨c, b1, e1, hf⟩ := bnd_some hf
  refine ht bd H0 S σ H bs c _ _ R wd e1 fun H1 g1 w1 => ?_
  cases c with
  | true => exact hu bd H0 S σ H1 b1 z bs' Q (R.mono g1) w1 hf fun H2 g2 w2 => q H2 (g1.trans g2) w2
  | false => cases hf; exact q H1 g1 w1
def fTOr (ft fu : Ft) : Ft := fun S bs => bnd (ft S bs) fun c b1 => if c then some (true, b1) else fu S b1
theorem ev_tor (ht : EvT K Pt tt ft) (hu : EvT K Pt tu fu) : EvT K Pt (tOr tt tu) (fTOr ft fu) := by
  intro bd H0 S σ H bs z bs' Q R wd hf q
  obtain ⟨c, b1, e1, hf⟩ := bnd_some hf
  refine ht bd H0 S σ H bs c _ _ R wd e1 fun H1 g1 w1 => ?_
  cases c with
  | false => exact hu bd H0 S σ H1 b1 z bs' Q (R.mono g1) w1 hf fun H2 g2 w2 => q H2 (g1.trans g2) w2
  | true => cases hf; exact q H1 g1 w1
def fTNot (ft : Ft) : Ft := fun S bs => bnd (ft S bs) fun c b1 => some (!c, b1)
theorem ev_tnot (ht : EvT K Pt tt ft) : EvT K Pt (tNot tt) (fTNot ft) := by
  intro bd H0 S σ H bs z bs' Q R wd hf q
  obtain ⟨c, b1, e1, hf⟩ := bnd_some hf
  cases hf
  exact ht bd H0 S σ H bs c _ _ R wd e1 fun H1 g1 w1 => q H1 g1 w1
def fYes : Ft := fun _ bs => some (true, bs)
theorem ev_yes : EvT K Pt tYes fYes := by
  intro bd H0 S σ H bs z bs' Q R wd hf q
  cases hf
  exact q H (G.refl H) wd
end K15
/-! K15Ev3: what is walked, comprehensions, statements -/
set_option autoImplicit false
namespace K15
open PySem PySem.Spec PyProof.Rows L2 K15R
section
variable (K : PySem.W.Frag) (Pt : Addr)
def WkOk (bd : BD) (xs : List PV) (J : It) (H1 : Hp) (A : Addr → Prop) : Prop := ∀ Hk : Hp, (∀ a o, H1 a = some o → (∀ ps, o ≠ .tbl ps) → ¬ A a → Hk a = some o) →
  ∃ Y, Walk J xs.length (fun H => G bd Hk H) Y ∧ ∀ i H x H', i < xs.length → G bd Hk H → Y i H x H' → (H' = H ∨ ∃ p o, H p = none ∧ H' = upd H p o) ∧ ∃ y, xs[i]? = some y ∧ Rep H' y x
def EvI (own : Bool) (wi : TI) (fi : Fi) : Prop := ∀ (bd : BD) (H0 : Hp) (S : Sl) (σ : L2.St) (H : Hp) (bs : BS) (xs : List PV) (bs' : BS) (R : It → Hp → Prop), Rl K bd H0 S σ H → Wd Pt bd bs H → fi S bs = some (xs, bs') →
  (∀ J H1, G bd H H1 → Wd Pt bd bs' H1 → WkOk bd xs J H1 (fun a => own = true ∧ Own S σ a) → R J H1) → wi σ H R
end
variable {K : PySem.W.Frag} {Pt : Addr} {ta tb tc te : TE} {fa fb fc fe : Fe} {tas : TA} {fas : Fa}
theorem Reps.get' {H : Hp} : ∀ {ps : List PV} {vs : List V} {j : Nat} {v : V}, Reps H ps vs → vs[j]? = some v → ∃ p, ps[j]? = some p ∧ Rep H p v := by
  intro ps vs j v h e
  have hl := (List.getElem?_eq_some_iff.mp e).1
  rw [h.length] at hl
  obtain ⟨w, h1, h2⟩ := h.get (List.getElem?_eq_getElem hl)
  rw [e] at h1
  cases h1
  exact ⟨_, List.getElem?_eq_getElem hl, h2⟩
theorem own_lst {bd : BD} {H0 : Hp} {S : Sl} {σ : L2.St} {H : Hp} (R : Rl K bd H0 S σ H) {H1 : Hp} (g : G bd H H1) {a : Addr} (h : Own S σ a) : ∃ vs, H1 a = some (.lst vs) := ((R.mono g).ownFr h).2.2
theorem keep_tx {bd : BD} {H0 : Hp} {S : Sl} {σ : L2.St} {H : Hp} (R : Rl K bd H0 S σ H) {H1 Hk : Hp} {own : Bool} (g : G bd H H1) (hk : ∀ a o, H1 a = some o → (∀ ps, o ≠ .tbl ps) → ¬ (own = true ∧ Own S σ a) → Hk a = some o) : TX H1 Hk := fun a vs h =>
  hk a _ h (fun _ z => by cases z) fun ho => by
    obtain ⟨ws, e⟩ := own_lst R g ho.2
    rw [h] at e
    cases e
def fItT (fe : Fe) : Fi := fun S bs => bnd (fe S bs) fun x b1 => match x with
  | .p (.t xs) => some (xs, b1)
  | _ => none
theorem ev_itT {own : Bool} (he : EvE K Pt te fe) : EvI K Pt own (iTup K te) (fItT fe) := by
  intro bd H0 S σ H bs xs bs' Rr R wd hf q
  obtain ⟨x, b1, e1, hf⟩ := bnd_some hf
  split at hf
  · rename_i ys
    cases hf
    refine he bd H0 S σ H bs _ _ _ R wd e1 fun v H1 g1 w1 r1 => ?_
    obtain ⟨a, vs, rfl, ha, hr⟩ := r1
    refine ⟨a, rfl, ⟨vs, Or.inl (Or.inl ha)⟩, q (Itt K a) H1 g1 w1 fun Hk hk => ⟨YAt vs, ?_, fun i H2 x H3 hi g y => ?_⟩⟩
    · rw [← hr.length]
      exact Walk.mono walk_tup (fun H2 g => Or.inl (Or.inl (g.tx _ _ (keep_tx R g1 hk _ _ ha)))) fun _ _ _ _ _ _ y => y
    · obtain ⟨rfl, hx⟩ := y
      obtain ⟨p, h1, h2⟩ := (Reps.mono g.tx _ _ (Reps.mono (keep_tx R g1 hk) _ _ hr)).get' hx
      exact ⟨Or.inl rfl, p, h1, h2⟩
  · cases hf
theorem wk_list {bd : BD} {H0 : Hp} {S : Sl} {σ : L2.St} {H : Hp} (R : Rl K bd H0 S σ H) {H1 : Hp} {own : Bool} (g1 : G bd H H1) {a : Addr} {vs : List V} {ys : List PV} (ha : H1 a = some (.lst vs)) (n : NB bd a) (hr : Reps H1 ys vs) (ho : own = true → ¬ Own S σ a) :
    WkOk bd ys (Itl K a) H1 (fun a => own = true ∧ Own S σ a) := fun Hk hk => by
  refine ⟨YAt vs, ?_, fun i H2 x H3 hi g y => ?_⟩
  · rw [← hr.length]
    exact Walk.mono walk_list (fun H2 g => Or.inl (Or.inl (g.keep _ _ (hk _ _ ha (fun _ z => by cases z) fun h => ho h.1 h.2) (fun _ z => by cases z) fun _ _ => n))) fun _ _ _ _ _ _ y => y
  · obtain ⟨rfl, hx⟩ := y
    obtain ⟨p, h1, h2⟩ := (Reps.mono g.tx _ _ (Reps.mono (keep_tx R g1 hk) _ _ hr)).get' hx
    exact ⟨Or.inl rfl, p, h1, h2⟩
/-- over a list that was just made -/
def fItM (fe : Fe) : Fi := fun S bs => bnd (fe S bs) fun x b1 => match x with
  | .m xs => some (xs, b1)
  | _ => none
theorem ev_itM {own : Bool} (he : EvE K Pt te fe) : EvI K Pt own (iList K te) (fItM fe) := by
  intro bd H0 S σ H bs xs bs' Rr R wd hf q
  obtain ⟨x, b1, e1, hf⟩ := bnd_some hf
  split at hf
  · rename_i ys
    cases hf
    refine he bd H0 S σ H bs _ _ _ R wd e1 fun v H1 g1 w1 r1 => ?_
    obtain ⟨a, vs, rfl, hfr, ha, n, hr⟩ := r1
    exact ⟨a, rfl, ⟨vs, Or.inl (Or.inl ha)⟩, q (Itl K a) H1 g1 w1 (wk_list R g1 ha n hr fun _ ho => by
      obtain ⟨ws, e⟩ := own_lst R (G.refl H) ho
      obtain ⟨ps, z⟩ := hfr _ e
      cases z)⟩
  · cases hf
/-- in a comprehension: over any list -/
def fItL (fe : Fe) : Fi := fun S bs => bnd (fe S bs) fun x b1 => match x.hl with
  | some xs => some (xs, b1)
  | none => none
theorem ev_itL (he : EvE K Pt te fe) : EvI K Pt false (iList K te) (fItL fe) := by
  intro bd H0 S σ H bs xs bs' Rr R wd hf q
  obtain ⟨x, b1, e1, hf⟩ := bnd_some hf
  split at hf
  · rename_i ys hs
    cases hf
    refine he bd H0 S σ H bs _ _ _ R wd e1 fun v H1 g1 w1 r1 => ?_
    obtain ⟨a, vs, rfl, ha, n, hr⟩ := r1.hl hs
    exact ⟨a, rfl, ⟨vs, Or.inl (Or.inl ha)⟩, q (Itl K a) H1 g1 w1 (wk_list R g1 ha n hr fun h => by cases h)⟩
  · cases hf
/-- for over a slot whose list is read only -/
def fItV (i : Nat) : Fi := fun S bs => match S[i]? with
  | some (some (.l xs)) => some (xs, bs)
  | _ => none
theorem ev_itV {own : Bool} {i : Nat} : EvI K Pt own (iList K (tVar i)) (fItV i) := by
  intro bd H0 S σ H bs xs bs' Rr R wd hf q
  unfold fItV at hf
  split at hf
  · rename_i ys e
    cases hf
    obtain ⟨v, h1, a, vs, rfl, ha, n, hr⟩ := R.at_ i _ e
    exact ⟨.ref a, h1, a, rfl, ⟨vs, Or.inl (Or.inl ha)⟩, q (Itl K a) H (G.refl H) wd (wk_list R (G.refl H) ha n hr fun _ ⟨j, zs, h2, h3⟩ => R.dis j i zs _ a (fun ej => by subst ej; rw [e] at h2; cases h2) h2 e rfl h3 h1)⟩
  · cases hf
def rngL (lo : Int) (n : Nat) : List PV := (List.range n).map fun j => .i (lo + (j : Nat))
theorem rngL_get {lo : Int} {n i : Nat} (h : i < n) : (rngL lo n)[i]? = some (.i (lo + (i : Nat))) := by simp [rngL, h]
def fRng1 (fs : Fa) : Fi := fun S bs => bnd (fs S bs) fun xs b1 => match xs with
  | [.p (.i n)] => if -(2 ^ 62) ≤ n ∧ n < 2 ^ 62 then some (rngL 0 n.toNat, b1) else none
  | _ => none
theorem wk_fn {bd : BD} {H1 : Hp} {A : Addr → Prop} {J : It} {n : Nat} {f : Nat → V} {xs : List PV} (w : Walk J n (fun _ => True) (YFn f)) (hl : xs.length = n) (h : ∀ i H, i < n → ∃ y, xs[i]? = some y ∧ Rep H y (f i)) : WkOk bd xs J H1 A := fun Hk hk => by
  subst hl
  refine ⟨YFn f, Walk.mono w (fun _ _ => True.intro) fun _ _ _ _ _ _ y => y, fun i H2 x H3 hi g y => ?_⟩
  obtain ⟨rfl, rfl⟩ := y
  exact ⟨Or.inl rfl, h i _ hi⟩
theorem ev_rng1 {own : Bool} (hs : EvA K Pt tas fas) : EvI K Pt own (iRng1 tas) (fRng1 fas) := by
  intro bd H0 S σ H bs xs bs' Rr R wd hf q
  obtain ⟨x, b1, e1, hf⟩ := bnd_some hf
  split at hf
  · rename_i n
    split at hf
    · rename_i hn
      cases hf
      refine hs bd H0 S σ H bs _ _ _ R wd e1 fun v H1 g1 w1 r1 => ?_
      obtain ⟨v, rfl, r⟩ := r1.one
      obtain rfl := rpI' r
      exact ⟨n, rfl, hn.1, hn.2, q _ H1 g1 w1 (wk_fn walk_range (by simp [rngL]) fun i H hi => ⟨_, rngL_get hi, rfl⟩)⟩
    · cases hf
  · cases hf
def fRng2 (fs : Fa) : Fi := fun S bs => bnd (fs S bs) fun xs b1 => match xs with
  | [.p (.i m), .p (.i n)] => if -(2 ^ 62) ≤ m ∧ m < 2 ^ 62 ∧ -(2 ^ 62) ≤ n ∧ n < 2 ^ 62 then some (rngL m (n - m).toNat, b1) else none
  | _ => none
theorem ev_rng2 {own : Bool} (hs : EvA K Pt tas fas) : EvI K Pt own (iRng2 tas) (fRng2 fas) := by
  intro bd H0 S σ H bs xs bs' Rr R wd hf q
  obtain ⟨x, b1, e1, hf⟩ := bnd_some hf
  split at hf
  · rename_i m n
    split at hf
    · rename_i hn
      cases hf
      refine hs bd H0 S σ H bs _ _ _ R wd e1 fun v H1 g1 w1 r1 => ?_
      obtain ⟨v, w, rfl, r, r'⟩ := r1.two
      obtain rfl := rpI' r
      obtain rfl := rpI' r'
      exact ⟨m, n, rfl, hn, q _ H1 g1 w1 (wk_fn walk_range (by simp [rngL]) fun i H hi => ⟨_, rngL_get hi, rfl⟩)⟩
    · cases hf
  · cases hf
def rngC (lo c : Int) (n : Nat) : List PV := (List.range n).map fun j => .i (lo + (j : Nat) * c)
theorem rngC_get {lo c : Int} {n i : Nat} (h : i < n) : (rngC lo c n)[i]? = some (.i (lo + (i : Nat) * c)) := by simp [rngC, h]
def cRg (i j c : Int) : Bool := decide (c ≠ 0 ∧ c.natAbs < 1073741824) && Builtin.Range.small i j c
theorem rangeSize_nn (m n c : Int) : 0 ≤ Builtin.Range.rangeSize m n c := by
  unfold Builtin.Range.rangeSize
  split
  · rename_i hc
    split
    · have : 0 ≤ (n - m - 1) / c := Int.ediv_nonneg (by omega) (by omega)
      omega
    · omega
  · rename_i hc
    split
    · have : 0 ≤ (m - n - 1) / (-c) := Int.ediv_nonneg (by omega) (by omega)
      omega
    · omega
def fRng3 (fs : Fa) : Fi := fun S bs => bnd (fs S bs) fun xs b1 => match xs with
  | [.p (.i m), .p (.i n), .p (.i c)] => if cRg m n c = true then some (rngC m c (Builtin.Range.rangeSize m n c).toNat, b1) else none
  | _ => none
theorem ev_rng3 {own : Bool} (hs : EvA K Pt tas fas) : EvI K Pt own (iRng3 tas) (fRng3 fas) := by
  intro bd H0 S σ H bs xs bs' Rr R wd hf q
  obtain ⟨x, b1, e1, hf⟩ := bnd_some hf
  split at hf
  · rename_i m n c
    split at hf
    · rename_i hn
      cases hf
      have h1 := Bool.and_eq_true_iff.mp hn
      have h2 : c ≠ 0 ∧ c.natAbs < 1073741824 := of_decide_eq_true h1.1
      refine hs bd H0 S σ H bs _ _ _ R wd e1 fun v H1 g1 w1 r1 => ?_
      obtain ⟨v, w, u, rfl, r, r', r''⟩ := r1.three
      obtain rfl := rpI' r
      obtain rfl := rpI' r'
      obtain rfl := rpI' r''
      refine ⟨m, n, c, (Builtin.Range.rangeSize m n c).toNat, rfl, ⟨h2.1, h2.2, h1.2, ?_⟩, q _ H1 g1 w1 (wk_fn walk_rangeC (by simp [rngC]) fun i H hi => ⟨_, rngC_get hi, rfl⟩)⟩
      exact (Int.toNat_of_nonneg (rangeSize_nn m n c)).symm
    · cases hf
  · cases hf
def enumL (k : Nat) : List PV → List PV
  | [] => []
  | x :: xs => .t [.i (k : Int), x] :: enumL (k + 1) xs
theorem enumL_len : ∀ (xs : List PV) (k : Nat), (enumL k xs).length = xs.length
  | [], k => rfl
  | x :: xs, k => by simp [enumL, enumL_len xs]
theorem enumL_get : ∀ (xs : List PV) (k i : Nat) (x : PV), xs[i]? = some x → (enumL k xs)[i]? = some (.t [.i ((k + i : Nat) : Int), x])
  | [], k, i, x, h => by simp at h
  | y :: xs, k, 0, x, h => by simp at h; subst h; rfl
  | y :: xs, k, i + 1, x, h => by
    have := enumL_get xs (k + 1) i x (by simpa using h)
    simp [enumL, this]
    omega
def fEnum (fs : Fa) : Fi := fun S bs => bnd (fs S bs) fun xs b1 => match xs with
  | [.p (.t ys)] => some (enumL 0 ys, b1)
  | _ => none
theorem rep_pair {H : Hp} {T : Addr} {x y : PV} {v w : V} (hT : H T = none) (h1 : Rep H x v) (h2 : Rep H y w) : Rep (upd H T (.tup [v, w])) (.t [x, y]) (.ref T) := by
  have e : TX H (upd H T (.tup [v, w])) := (G.new (bd := none) hT).tx
  exact ⟨T, [v, w], rfl, upd_same, v, [w], rfl, Rep.mono e _ _ h1, w, [], rfl, Rep.mono e _ _ h2, rfl⟩
theorem ev_enum {own : Bool} (hs : EvA K Pt tas fas) : EvI K Pt own (iEnumT K tas) (fEnum fas) := by
  intro bd H0 S σ H bs xs bs' Rr R wd hf q
  obtain ⟨x, b1, e1, hf⟩ := bnd_some hf
  split at hf
  · rename_i ys
    cases hf
    refine hs bd H0 S σ H bs _ _ _ R wd e1 fun v H1 g1 w1 r1 => ?_
    obtain ⟨v, rfl, a, vs, rfl, ha, hr⟩ := r1.one
    refine ⟨a, vs, rfl, Or.inl (Or.inl ha), q (IteT K a) H1 g1 w1 fun Hk hk => ⟨_, Walk.mono (by rw [enumL_len, ← hr.length]; exact walk_enumT) (fun H2 g => Or.inl (Or.inl (g.tx _ _ (keep_tx R g1 hk _ _ ha)))) fun _ _ _ _ _ _ y => y, fun i H2 x H3 hi g y => ?_⟩⟩
    obtain ⟨T, u, w, rfl, hT, rfl, h1, h2⟩ := y
    cases h1
    obtain ⟨p, h3, h4⟩ := (Reps.mono g.tx _ _ (Reps.mono (keep_tx R g1 hk) _ _ hr)).get' h2
    refine ⟨Or.inr ⟨T, _, hT, rfl⟩, _, enumL_get ys 0 i p h3, rep_pair hT ?_ h4⟩
    rw [Nat.zero_add]
    rfl
  · cases hf
def zipL (xs ys : List PV) : List PV := List.zipWith (fun x y => .t [x, y]) xs ys
theorem walk_zipT {a b : Addr} {xs ys : List V} {n : Nat} (hn : n = min xs.length ys.length) : Walk (RZ.ItzT K a b) n (fun H => SqT K H a xs ∧ SqT K H b ys) (YPair (fun i => xs[i]?) (fun i => ys[i]?)) := by
  subst hn
  refine ⟨fun i _ hi q => ?_, fun _ q => ⟨xs, ys, q.1, q.2, by omega⟩, fun i H v H' _ q y => ?_⟩
  · have h1 : i < xs.length := by omega
    have h2 : i < ys.length := by omega
    exact ⟨xs, ys, xs[i], ys[i], q.1, q.2, by simp [h1], by simp [h2]⟩
  · obtain ⟨T, x, z, h1, h2, h3, h4, h5⟩ := y
    exact ⟨T, x, z, h1, h2, h3, h4 xs q.1, h5 ys q.2⟩
def fZip (fs : Fa) : Fi := fun S bs => bnd (fs S bs) fun xs b1 => match xs with
  | [.p (.t ys), .p (.t zs)] => some (zipL ys zs, b1)
  | _ => none
theorem ev_zip {own : Bool} (hs : EvA K Pt tas fas) : EvI K Pt own (RZ.iZipA K tas) (fZip fas) := by
  intro bd H0 S σ H bs xs bs' Rr R wd hf q
  obtain ⟨x, b1, e1, hf⟩ := bnd_some hf
  split at hf
  · rename_i ys zs
    cases hf
    refine hs bd H0 S σ H bs _ _ _ R wd e1 fun v H1 g1 w1 r1 => ?_
    obtain ⟨v, w, rfl, ⟨a, vs, rfl, ha, hr⟩, ⟨b, ws, rfl, hb, hr'⟩⟩ := r1.two
    refine ⟨a, b, vs, ws, rfl, Or.inr ⟨Or.inl (Or.inl ha), Or.inl (Or.inl hb), q (RZ.ItzT K a b) H1 g1 w1 fun Hk hk => ⟨_, Walk.mono (walk_zipT (by rw [hr.length, hr'.length]; simp [zipL])) (fun H2 g => ⟨Or.inl (Or.inl (g.tx _ _ (keep_tx R g1 hk _ _ ha))), Or.inl (Or.inl (g.tx _ _ (keep_tx R g1 hk _ _ hb)))⟩) fun _ _ _ _ _ _ y => y, fun i H2 x H3 hi g y => ?_⟩⟩⟩
    obtain ⟨T, u, w, rfl, hT, rfl, h1, h2⟩ := y
    obtain ⟨p, h3, h4⟩ := (Reps.mono g.tx _ _ (Reps.mono (keep_tx R g1 hk) _ _ hr)).get' h1
    obtain ⟨p', h5, h6⟩ := (Reps.mono g.tx _ _ (Reps.mono (keep_tx R g1 hk) _ _ hr')).get' h2
    exact ⟨Or.inr ⟨T, _, hT, rfl⟩, .t [p, p'], by simp [zipL, List.getElem?_zipWith, h3, h5], rep_pair hT h4 h6⟩
  · cases hf
/-! ### targets -/
inductive Tg where
  | one (i : Nat) | many (is : List Nat)
def Tg.slots : Tg → List Nat
  | .one i => [i]
  | .many is => is
def Tg.parts : Tg → PV → Option (List PV)
  | .one _, x => some [x]
  | .many is, .t xs => if xs.length = is.length then some xs else none
  | .many _, _ => none
def setS {α : Type} (S : List (Option α)) : List Nat → List α → List (Option α)
  | i :: is, x :: xs => setS (S.set i (some x)) is xs
  | _, _ => S
def TgOk (g : TG) (tg : Tg) : Prop := ∀ (x : PV) (v : V) (H : Hp) (σ : L2.St) (Q : L2.St → Hp → Prop) (ps : List PV), Rep H x v → tg.parts x = some ps → (∀ vs, Reps H ps vs → Q (setS σ tg.slots vs) H) → g v σ H Q
theorem tg_one {i : Nat} : TgOk (gName i) (.one i) := by
  intro x v H σ Q ps h e q
  cases e
  exact q [v] (Reps.one h)
theorem many_some {is : List Nat} {x : PV} {ps : List PV} (e : (Tg.many is).parts x = some ps) : x = .t ps ∧ ps.length = is.length := by
  cases x with
  | t xs =>
    have e' : (if xs.length = is.length then some xs else none) = some ps := e
    by_cases h : xs.length = is.length
    · rw [if_pos h] at e'
      obtain rfl := Option.some.inj e'
      exact ⟨rfl, h⟩
    · rw [if_neg h] at e'
      cases e'
  | i n => cases e
  | b n => cases e
  | s n => cases e
theorem tg_two {i j : Nat} : TgOk (gTup K 2 (gCons (gName i) (gCons (gName j) gNil))) (.many [i, j]) := by
  intro x v H σ Q ps h e q
  obtain ⟨rfl, hl⟩ := many_some e
  obtain ⟨a, vs, rfl, ha, hr⟩ := h
  have h2 : vs.length = 2 := by rw [hr.length]; exact hl
  match vs, h2, hr, ha with
  | [v, w], _, hr, ha => exact ⟨a, [v, w], rfl, Or.inl (Or.inl ha), rfl, v, [w], rfl, w, [], rfl, rfl, q [v, w] hr⟩
theorem tg_three {i j k : Nat} : TgOk (gTup K 3 (gCons (gName i) (gCons (gName j) (gCons (gName k) gNil)))) (.many [i, j, k]) := by
  intro x v H σ Q ps h e q
  obtain ⟨rfl, hl⟩ := many_some e
  obtain ⟨a, vs, rfl, ha, hr⟩ := h
  have h2 : vs.length = 3 := by rw [hr.length]; exact hl
  match vs, h2, hr, ha with
  | [v, w, u], _, hr, ha => exact ⟨a, [v, w, u], rfl, Or.inl (Or.inl ha), rfl, v, [w, u], rfl, w, [u], rfl, u, [], rfl, rfl, q [v, w, u] hr⟩
theorem Rl.setAll {bd : BD} {H0 : Hp} {H : Hp} : ∀ (is : List Nat) {S : Sl} {σ : L2.St} (ps : List PV) {vs : List V}, Rl K bd H0 S σ H → Reps H ps vs → Rl K bd H0 (setS S is (ps.map SV.p)) (setS σ is vs) H
  | [], S, σ, ps, vs, R, h => by
    cases vs <;> exact R
  | i :: is, S, σ, [], vs, R, h => by
    rw [show vs = [] from h]; exact R
  | i :: is, S, σ, p :: ps, vs, R, h => by
    obtain ⟨w, ws, e, h1, h2⟩ := h
    rw [e]
    exact Rl.setAll is ps (R.setP h1) h2
/-! ### the block of a comprehension -/
def wpS (S : Sl) : List Nat → Sl
  | [] => S
  | v :: vs => (wpS S vs).set v none
theorem Rl.setN {bd : BD} {H0 : Hp} {S : Sl} {σ : L2.St} {H : Hp} (R : Rl K bd H0 S σ H) (i : Nat) : Rl K bd H0 (S.set i none) (σ.set i none) H := by
  refine ⟨by rw [List.length_set, List.length_set, R.len], fun j y e => ?_, fun j k xs y a hjk e1 e2 e3 e4 e5 => ?_, R.g, R.bx⟩
  · rcases getset e with ⟨_, e1, _⟩ | ⟨hij, e⟩
    · cases e1
    · obtain ⟨w, h1, h2⟩ := R.at_ j y e
      exact ⟨w, by rw [List.getElem?_set_ne hij]; exact h1, h2⟩
  · rcases getset e1 with ⟨_, e1', _⟩ | ⟨hij, e1'⟩
    · cases e1'
    · rcases getset e2 with ⟨_, e2', _⟩ | ⟨hik, e2'⟩
      · cases e2'
      · rw [List.getElem?_set_ne hij] at e4
        rw [List.getElem?_set_ne hik] at e5
        exact R.dis j k xs y a hjk e1' e2' e3 e4 e5
theorem Rl.wipe {bd : BD} {H0 : Hp} {S : Sl} {σ : L2.St} {H : Hp} (R : Rl K bd H0 S σ H) : ∀ vs : List Nat, Rl K bd H0 (wpS S vs) (L2.wipe σ vs) H
  | [] => R
  | v :: vs => Rl.setN (Rl.wipe R vs) v
theorem wipe_get (σ : L2.St) : ∀ (vs : List Nat) (j : Nat), (L2.wipe σ vs)[j]? = if j ∈ vs then σ[j]?.map (fun _ => none) else σ[j]?
  | [], j => by simp [L2.wipe]
  | v :: vs, j => by
    show ((L2.wipe σ vs).set v none)[j]? = _
    rw [List.getElem?_set]
    by_cases e : v = j
    · subst e
      rw [if_pos rfl, L2.wipe_length]
      by_cases hl : v < σ.length
      · simp [hl]
      · simp [hl]
    · rw [if_neg e, wipe_get σ vs j]
      have e' : ¬ j = v := fun z => e z.symm
      simp [e']
theorem setS_get {α : Type} : ∀ (is : List Nat) (S : List (Option α)) (xs : List α) (j : Nat), j ∉ is → (setS S is xs)[j]? = S[j]?
  | [], S, xs, j, h => by cases xs <;> rfl
  | i :: is, S, [], j, h => rfl
  | i :: is, S, x :: xs, j, h => by
    show (setS (S.set i (some x)) is xs)[j]? = _
    rw [setS_get is _ xs j (fun z => h (List.mem_cons_of_mem _ z)), List.getElem?_set_ne (fun e => h (by rw [e]; exact List.mem_cons_self))]
theorem setS_len {α : Type} : ∀ (is : List Nat) (S : List (Option α)) (xs : List α), (setS S is xs).length = S.length
  | [], S, xs => by cases xs <;> rfl
  | i :: is, S, [] => rfl
  | i :: is, S, x :: xs => by
    show (setS (S.set i (some x)) is xs).length = _
    rw [setS_len is _ xs, List.length_set]
theorem wipe_setS {σ : L2.St} {is vs : List Nat} (h : ∀ i ∈ is, i ∈ vs) (xs : List V) : L2.wipe (setS (L2.wipe σ vs) is xs) vs = L2.wipe σ vs := by
  apply List.ext_getElem?
  intro j
  rw [wipe_get, wipe_get]
  by_cases e : j ∈ vs
  · rw [if_pos e, if_pos e]
    by_cases hl : j < σ.length
    · have h1 : j < (setS (L2.wipe σ vs) is xs).length := by rw [setS_len, L2.wipe_length]; exact hl
      rw [List.getElem?_eq_getElem h1, List.getElem?_eq_getElem hl]; rfl
    · have h1 : (setS (L2.wipe σ vs) is xs).length ≤ j := by rw [setS_len, L2.wipe_length]; omega
      rw [List.getElem?_eq_none h1, List.getElem?_eq_none (by omega)]
  · rw [if_neg e, if_neg e, setS_get is _ xs j (fun z => e (h j z)), wipe_get, if_neg e]
def lcLoop (tg : Tg) (ft : Ft) (fe : Fe) (S : Sl) : List PV → BS → Option (List PV × BS)
  | [], bs => some ([], bs)
  | x :: xs, bs => match tg.parts x with
    | none => none
    | some ps => bnd (ft (setS S tg.slots (ps.map SV.p)) bs) fun c b1 => if c then bnd (fe (setS S tg.slots (ps.map SV.p)) b1) fun y b2 => match y with
        | .p y => bnd (lcLoop tg ft fe S xs b2) fun ys b3 => some (y :: ys, b3)
        | _ => none
      else lcLoop tg ft fe S xs b1
def fLc (fi : Fi) (tg : Tg) (ft : Ft) (fe : Fe) (vs : List Nat) : Fe := fun S bs => bnd (fi S bs) fun xs b1 => if xs.length ≤ 50000 then bnd (lcLoop tg ft fe (wpS S vs) xs b1) fun ys b2 => some (.m ys, b2) else none
theorem step_G {bd : BD} {bs : BS} {H H' : Hp} (wd : Wd Pt bd bs H) (h : H' = H ∨ ∃ p o, H p = none ∧ H' = upd H p o) : G bd H H' ∧ Wd Pt bd bs H' := by
  rcases h with rfl | ⟨p, o, h1, rfl⟩
  · exact ⟨G.refl _, wd⟩
  · exact ⟨G.new h1, wd.new h1⟩
theorem ev_lc {wi : TI} {fi : Fi} {g : TG} {tg : Tg} {tt : TT} {ft : Ft} {vs : List Nat} (hi : EvI K Pt false wi fi) (hg : TgOk g tg) (ht : EvT K Pt tt ft) (he : EvE K Pt te fe) (hv : ∀ i ∈ tg.slots, i ∈ vs) : EvE K Pt (tLc wi g tt te vs) (fLc fi tg ft fe vs) := by
  intro bd H0 S σ H bs z bs' Q R wd hf q
  obtain ⟨xs, b1, e1, hf⟩ := bnd_some hf
  split at hf
  · rename_i hlen
    obtain ⟨ys, b2, e2, hf⟩ := bnd_some hf
    cases hf
    refine hi bd H0 S σ H bs xs b1 _ R wd e1 fun J H1 g1 w1 wk D hD => ?_
    obtain ⟨Y, wlk, hy⟩ := wk H1 fun a o h _ _ => h
    have nD : NB bd D := fun B D' e => by
      obtain ⟨h1, _, _⟩ := w1.box B D' e
      exact (ne_of_none h1 hD).symm
    refine lc_it wlk (fun i H2 => ∃ acc accP bsi rest, H2 D = some (.lst acc) ∧ Reps H2 accP acc ∧ G bd H1 H2 ∧ Wd Pt bd bsi H2 ∧ lcLoop tg ft fe (wpS S vs) (xs.drop i) bsi = some (rest, bs') ∧ accP ++ rest = ys ∧ acc.length ≤ i) ?_ ?_ ?_ ?_
    · exact ⟨[], [], b1, ys, upd_same, rfl, G.new hD, w1.new hD, e2, rfl, Nat.zero_le _⟩
    · rintro i H2 _ ⟨acc, accP, bsi, rest, _, _, g2, _⟩
      exact g2
    · rintro i x H2 H3 hin ⟨acc, accP, bsi, rest, hacc, hrep, g2, w2, hloop, happ, hal⟩ hyy
      obtain ⟨hst, y, hxi, hry⟩ := hy i H2 x H3 hin g2 hyy
      obtain ⟨g3, w3⟩ := step_G w2 hst
      have hdrop : xs.drop i = y :: xs.drop (i + 1) := by
        have := List.getElem?_eq_some_iff.mp hxi
        obtain ⟨hl, hx⟩ := this
        rw [← hx]
        exact List.drop_eq_getElem_cons hl
      rw [hdrop] at hloop
      unfold lcLoop at hloop
      split at hloop
      · cases hloop
      · rename_i ps hps
        obtain ⟨c, b3, e3, hloop⟩ := bnd_some hloop
        refine hg y x H3 (L2.wipe σ vs) _ ps hry hps fun us hus => ⟨wipe_setS hv us, ?_⟩
        have R3 : Rl K bd H0 (setS (wpS S vs) tg.slots (ps.map SV.p)) (setS (L2.wipe σ vs) tg.slots us) H3 := Rl.setAll _ _ (Rl.wipe (R.mono (g1.trans (g2.trans g3))) vs) hus
        refine ht bd H0 _ _ H3 bsi c b3 _ R3 w3 e3 fun H4 g4 w4 => ?_
        have hD4 : H4 D = some (.lst acc) := (g3.trans g4).keep _ _ hacc (fun _ z => by cases z) fun _ _ => nD
        cases c with
        | true =>
          rw [if_pos rfl] at hloop
          rw [if_pos rfl]
          obtain ⟨yv, b4, e4, hloop⟩ := bnd_some hloop
          split at hloop
          · rename_i yp
            obtain ⟨ys', b5, e5, hloop⟩ := bnd_some hloop
            cases hloop
            refine he bd H0 _ _ H4 b3 _ b4 _ (R3.mono g4) w4 e4 fun v H5 g5 w5 r5 => ?_
            have hD5 : H5 D = some (.lst acc) := g5.keep _ _ hD4 (fun _ z => by cases z) fun _ _ => nD
            have g15 : G bd H1 H5 := g2.trans (g3.trans (g4.trans g5))
            have gm : G bd H1 (upd H5 D (.lst (acc ++ [v]))) := g15.mut (fr_none hD)
            have txm : TX H5 (upd H5 D (.lst (acc ++ [v]))) := fun c ws hc => by
              have : c ≠ D := fun e => by rw [e, hD5] at hc; cases hc
              rw [upd_ne this]; exact hc
            have hacc5 : Reps H5 accP acc := Reps.mono (g3.trans (g4.trans g5)).tx _ _ hrep
            have nD2 : ∀ B D', bd = some (B, D') → D ≠ D' := fun B D' e => by
              obtain ⟨_, h2, _⟩ := w1.box B D' e
              exact (ne_of_none h2 hD).symm
            exact ⟨acc, hD5, Nat.lt_of_lt_of_le (show acc.length < 100000 by omega) (by decide), acc ++ [v], accP ++ [yp], _, ys', upd_same, Reps.mono txm _ _ (hacc5.append (Reps.one r5)), gm, w5.mut hD5 nD nD2, e5, by rw [List.append_assoc]; exact happ, by rw [List.length_append, List.length_singleton]; omega⟩
          · cases hloop
        | false =>
          rw [if_neg (by decide)] at hloop
          rw [if_neg (by decide)]
          exact ⟨acc, accP, b3, rest, hD4, Reps.mono (g3.trans g4).tx _ _ hrep, g2.trans (g3.trans g4), w4, hloop, happ, by omega⟩
    · rintro H2 ⟨acc, accP, bsi, rest, hacc, hrep, g2, w2, hloop, happ, hal⟩
      rw [List.drop_length] at hloop
      cases hloop
      rw [List.append_nil] at happ
      subst happ
      exact q _ H2 (g1.trans g2) w2 ⟨D, acc, rfl, g1.fr _ (fr_none hD), hacc, nD, hrep⟩
  · cases hf
end K15
/-! K15Ev4: statements -/
set_option autoImplicit false
namespace K15
open PySem PySem.Spec PyProof.Rows L2 K15R
inductive Out where
  | nx (S : Sl) | ct (S : Sl) | rt (r : SV)
abbrev Fs := Sl → BS → Option (Out × BS)
section
variable (K : PySem.W.Frag) (Pt : Addr)
structure Fin (bd : BD) (H0 : Hp) (o : Out) (bs' : BS) (D : Ends) : Prop where
  nx : ∀ S', o = .nx S' → ∀ σ' H', Rl K bd H0 S' σ' H' → Wd Pt bd bs' H' → D.nx σ' H'
  ct : ∀ S', o = .ct S' → ∀ σ' H', Rl K bd H0 S' σ' H' → Wd Pt bd bs' H' → D.ct σ' H'
  rt : ∀ r, o = .rt r → ∀ v H', G bd H0 H' → Wd Pt bd bs' H' → RepS K bd H0 H' r v → D.rt v H'
def EvS (ts : TS) (F : Fs) : Prop := ∀ (bd : BD) (H0 : Hp) (S : Sl) (σ : L2.St) (H : Hp) (bs : BS) (o : Out) (bs' : BS) (D : Ends), Rl K bd H0 S σ H → Wd Pt bd bs H → F S bs = some (o, bs') → Fin K Pt bd H0 o bs' D → ts D σ H
end
variable {K : PySem.W.Frag} {Pt : Addr} {ta tb tc te : TE} {fa fb fc fe : Fe} {tas : TA} {fas : Fa} {t u : TS} {F1 F2 F : Fs} {tt : TT} {ft : Ft}
def fNext : Fs := fun S bs => some (.nx S, bs)
theorem ev_next : EvS K Pt tNext fNext := by
  intro bd H0 S σ H bs o bs' D R wd hf q
  cases hf
  exact q.nx S rfl σ H R wd
def fCont : Fs := fun S bs => some (.ct S, bs)
theorem ev_cont : EvS K Pt tCont fCont := by
  intro bd H0 S σ H bs o bs' D R wd hf q
  cases hf
  exact q.ct S rfl σ H R wd
def fSeq (F1 F2 : Fs) : Fs := fun S bs => bnd (F1 S bs) fun o b1 => match o with
  | .nx S' => F2 S' b1
  | o => some (o, b1)
theorem ev_seq (h1 : EvS K Pt t F1) (h2 : EvS K Pt u F2) : EvS K Pt (tSeq t u) (fSeq F1 F2) := by
  intro bd H0 S σ H bs o bs' D R wd hf q
  obtain ⟨o1, b1, e1, hf⟩ := bnd_some hf
  refine h1 bd H0 S σ H bs o1 b1 { D with nx := u D } R wd e1 ?_
  cases o1 with
  | nx S1 => exact ⟨fun S' e σ' H' R' w' => by cases e; exact h2 bd H0 S1 σ' H' b1 o bs' D R' w' hf q, fun _ e => (by cases e), fun _ e => (by cases e)⟩
  | ct S1 => cases hf; exact ⟨fun _ e => (by cases e), q.ct, q.rt⟩
  | rt r => cases hf; exact ⟨fun _ e => (by cases e), q.ct, q.rt⟩
def fRet (fe : Fe) : Fs := fun S bs => bnd (fe S bs) fun r b1 => some (.rt r, b1)
theorem ev_ret (he : EvE K Pt te fe) : EvS K Pt (tRet te) (fRet fe) := by
  intro bd H0 S σ H bs o bs' D R wd hf q
  obtain ⟨r, b1, e1, hf⟩ := bnd_some hf
  cases hf
  exact he bd H0 S σ H bs r _ _ R wd e1 fun v H1 g1 w1 r1 => q.rt r rfl v H1 (R.g.trans g1) w1 (r1.base R.g.fr)
/-- the slot itself is returned -/
def fRetV (i : Nat) : Fs := fun S bs => match S[i]? with
  | some (some x) => some (.rt x, bs)
  | _ => none
theorem ev_retV {i : Nat} : EvS K Pt (tRet (tVar i)) (fRetV i) := by
  intro bd H0 S σ H bs o bs' D R wd hf q
  unfold fRetV at hf
  split at hf
  · rename_i x e
    cases hf
    obtain ⟨v, h1, h2⟩ := R.at_ i x e
    exact ⟨v, h1, q.rt x rfl v H R.g wd h2⟩
  · cases hf
def fIf (ft : Ft) (F1 F2 : Fs) : Fs := fun S bs => bnd (ft S bs) fun c b1 => if c then F1 S b1 else F2 S b1
theorem ev_if (ht : EvT K Pt tt ft) (h1 : EvS K Pt t F1) (h2 : EvS K Pt u F2) : EvS K Pt (tIfS tt t u) (fIf ft F1 F2) := by
  intro bd H0 S σ H bs o bs' D R wd hf q
  obtain ⟨c, b1, e1, hf⟩ := bnd_some hf
  refine ht bd H0 S σ H bs c b1 _ R wd e1 fun H1 g1 w1 => ?_
  cases c with
  | true => exact h1 bd H0 S σ H1 b1 o bs' D (R.mono g1) w1 hf q
  | false => exact h2 bd H0 S σ H1 b1 o bs' D (R.mono g1) w1 hf q
def fAsg (i : Nat) (fe : Fe) : Fs := fun S bs => bnd (fe S bs) fun r b1 => match r with
  | .p x => some (.nx (S.set i (some (.p x))), b1)
  | .m xs => some (.nx (S.set i (some (.m xs))), b1)
  | _ => none
theorem ev_asg {i : Nat} (he : EvE K Pt te fe) : EvS K Pt (tAsg te (gName i)) (fAsg i fe) := by
  intro bd H0 S σ H bs o bs' D R wd hf q
  obtain ⟨r, b1, e1, hf⟩ := bnd_some hf
  split at hf
  · cases hf
    exact he bd H0 S σ H bs _ _ _ R wd e1 fun v H1 g1 w1 r1 => q.nx _ rfl _ H1 ((R.mono g1).setP r1) w1
  · cases hf
    exact he bd H0 S σ H bs _ _ _ R wd e1 fun v H1 g1 w1 r1 => q.nx _ rfl _ H1 (R.setM g1 r1) w1
  · cases hf
def fAsgT (tg : Tg) (fe : Fe) : Fs := fun S bs => bnd (fe S bs) fun r b1 => match r with
  | .p x => match tg.parts x with
    | some ps => some (.nx (setS S tg.slots (ps.map SV.p)), b1)
    | none => none
  | _ => none
theorem ev_asgT {g : TG} {tg : Tg} (hg : TgOk g tg) (he : EvE K Pt te fe) : EvS K Pt (tAsg te g) (fAsgT tg fe) := by
  intro bd H0 S σ H bs o bs' D R wd hf q
  obtain ⟨r, b1, e1, hf⟩ := bnd_some hf
  split at hf
  · rename_i x
    split at hf
    · rename_i ps hps
      cases hf
      exact he bd H0 S σ H bs _ _ _ R wd e1 fun v H1 g1 w1 r1 => hg x v H1 σ D.nx ps r1 hps fun vs hvs => q.nx _ rfl _ H1 (Rl.setAll _ _ (R.mono g1) hvs) w1
    · cases hf
  · cases hf
def fPar (i j : Nat) (fas : Fa) : Fs := fun S bs => bnd (fas S bs) fun xs b1 => match xs with
  | [.p x, .p y] => some (.nx ((S.set i (some (.p x))).set j (some (.p y))), b1)
  | _ => none
theorem ev_par {i j : Nat} (hs : EvA K Pt tas fas) : EvS K Pt (tPar i j tas) (fPar i j fas) := by
  intro bd H0 S σ H bs o bs' D R wd hf q
  obtain ⟨xs, b1, e1, hf⟩ := bnd_some hf
  split at hf
  · cases hf
    refine hs bd H0 S σ H bs _ _ _ R wd e1 fun v H1 g1 w1 r1 => ?_
    obtain ⟨v, w, rfl, h1, h2⟩ := r1.two
    exact ⟨v, w, rfl, q.nx _ rfl _ H1 (((R.mono g1).setP h1).setP h2) w1⟩
  · cases hf
def fSetIx (i : Nat) (fk fe : Fe) : Fs := fun S bs => bnd (fe S bs) fun r b1 => bnd (fk S b1) fun k b2 => match r, k, S[i]? with
  | .p x, .p (.i k), some (some (.m xs)) => if 0 ≤ k ∧ k.toNat < xs.length then some (.nx (S.set i (some (.m (xs.set k.toNat x)))), b2) else none
  | _, _, _ => none
theorem Rl.notD {bd : BD} {H0 : Hp} {S : Sl} {σ : L2.St} {H : Hp} (R : Rl K bd H0 S σ H) {i : Nat} {xs : List PV} {a : Addr} (h1 : S[i]? = some (some (.m xs))) (h2 : σ[i]? = some (some (.ref a))) : ∀ B D, bd = some (B, D) → a ≠ D := fun B D e z => by
  subst z
  exact (R.bx B a e).2 (R.ownFr ⟨i, xs, h1, h2⟩).1
theorem ixN_nat' {n : Nat} {k : Int} (h : 0 ≤ k ∧ k.toNat < n) : ixN n k = some k.toNat := by
  unfold ixN
  rw [if_pos h.1, if_pos (by omega)]
theorem ev_setIx {i : Nat} {tk : TE} {fk : Fe} (hk : EvE K Pt tk fk) (he : EvE K Pt te fe) : EvS K Pt (tAsg te (gSub (tVar i) tk L2.rSetL)) (fSetIx i fk fe) := by
  intro bd H0 S σ H bs o bs' D R wd hf q
  obtain ⟨r, b1, e1, hf⟩ := bnd_some hf
  obtain ⟨k, b2, e2, hf⟩ := bnd_some hf
  split at hf
  · rename_i x kk xs hS _
    split at hf
    · rename_i hc
      cases hf
      refine he bd H0 S σ H bs _ _ _ R wd e1 fun v H1 g1 w1 r1 => ?_
      obtain ⟨w, h1, a, vs, rfl, hfr, ha, n, hr⟩ := (R.mono g1).at_ i _ hS
      refine ⟨.ref a, h1, hk bd H0 S σ H1 _ _ _ _ (R.mono g1) w1 e2 fun kv H2 g2 w2 r2 => ?_⟩
      obtain rfl := rpI' r2
      have ha2 : H2 a = some (.lst vs) := g2.keep _ _ ha (fun _ z => by cases z) fun _ _ => n
      have R2 := R.mono (g1.trans g2)
      refine ⟨a, vs, kk, kk.toNat, rfl, rfl, ha2, ixN_nat' (by rw [hr.length]; exact hc), ?_⟩
      exact q.nx _ rfl σ _ (R2.mut hS h1 (Reps.set (Rep.mono g2.tx _ _ r1) _ (Reps.mono g2.tx _ _ hr))) (w2.mut ha2 n (R.notD hS h1))
    · cases hf
  · cases hf
def fApp (i : Nat) (fe : Fe) : Fs := fun S bs => bnd (fe S bs) fun r b1 => match r, S[i]? with
  | .p x, some (some (.m xs)) => if xs.length < 100000 then some (.nx (S.set i (some (.m (xs ++ [x])))), b1) else none
  | _, _ => none
theorem ev_app {i : Nat} (he : EvE K Pt te fe) : EvS K Pt (tDrop (tBM K "list" rAppend (tVar i) (tCons te tNil))) (fApp i fe) := by
  intro bd H0 S σ H bs o bs' D R wd hf q
  obtain ⟨r, b1, e1, hf⟩ := bnd_some hf
  split at hf
  · rename_i x xs hS
    split at hf
    · rename_i hc
      cases hf
      obtain ⟨w, h1, a, vs, rfl, hfr, ha, n, hr⟩ := R.at_ i _ hS
      refine ⟨.ref a, h1, Or.inl ⟨rfl, vs, Or.inl (Or.inl ha)⟩, he bd H0 S σ H bs _ _ _ R wd e1 fun v H1 g1 w1 r1 => ?_⟩
      have ha1 : H1 a = some (.lst vs) := g1.keep _ _ ha (fun _ z => by cases z) fun _ _ => n
      exact ⟨a, vs, v, rfl, rfl, ha1, Nat.lt_of_lt_of_le (show vs.length < 100000 by rw [hr.length]; exact hc) (by decide), q.nx _ rfl σ _ ((R.mono g1).mut hS h1 ((Reps.mono g1.tx _ _ hr).append (Reps.one r1))) (w1.mut ha1 n (R.notD hS h1))⟩
    · cases hf
  · cases hf
/-! ### loops -/
def forLoop (tg : Tg) (F : Fs) : List PV → Fs
  | [], S, bs => some (.nx S, bs)
  | x :: xs, S, bs => match tg.parts x with
    | none => none
    | some ps => bnd (F (setS S tg.slots (ps.map SV.p)) bs) fun o b1 => match o with
      | .nx S' => forLoop tg F xs S' b1
      | .ct S' => forLoop tg F xs S' b1
      | .rt r => some (.rt r, b1)
def fFor (fi : Fi) (tg : Tg) (F : Fs) : Fs := fun S bs => bnd (fi S bs) fun xs b1 => forLoop tg F xs S b1
theorem ev_for {wi : TI} {fi : Fi} {g : TG} {tg : Tg} (hi : EvI K Pt true wi fi) (hg : TgOk g tg) (hF : EvS K Pt t F) : EvS K Pt (tFor wi g t) (fFor fi tg F) := by
  intro bd H0 S σ H bs o bs' D R wd hf q
  obtain ⟨xs, b1, e1, hf⟩ := bnd_some hf
  refine hi bd H0 S σ H bs xs b1 _ R wd e1 fun J H1 g1 w1 wk => ?_
  have R1 := R.mono g1
  obtain ⟨Rk, gk⟩ := R1.off
  obtain ⟨Y, wlk, hy⟩ := wk (offO S σ H1) fun a o h _ ho => by rw [offO_ne (fun z => ho ⟨rfl, z⟩)]; exact h
  refine for_it wlk (fun i σ2 H2 => ∃ S2 b2, Rl K bd (offO S σ H1) S2 σ2 H2 ∧ Wd Pt bd b2 H2 ∧ forLoop tg F (xs.drop i) S2 b2 = some (o, bs')) ⟨S, b1, Rk, w1, hf⟩ ?_ ?_ ?_
  · rintro i σ2 H2 _ ⟨S2, b2, R2, _, _⟩
    exact R2.g
  · rintro i x σ2 H2 H3 hin ⟨S2, b2, R2, w2, hloop⟩ hyy
    obtain ⟨hst, y, hxi, hry⟩ := hy i H2 x H3 hin R2.g hyy
    obtain ⟨g3, w3⟩ := step_G w2 hst
    have hdrop : xs.drop i = y :: xs.drop (i + 1) := by
      obtain ⟨hl, hx⟩ := List.getElem?_eq_some_iff.mp hxi
      rw [← hx]
      exact List.drop_eq_getElem_cons hl
    rw [hdrop] at hloop
    unfold forLoop at hloop
    split at hloop
    · cases hloop
    · rename_i ps hps
      obtain ⟨o1, b3, e3, hloop⟩ := bnd_some hloop
      refine hg y x H3 σ2 _ ps hry hps fun us hus => ?_
      refine hF bd (offO S σ H1) _ _ H3 b2 o1 b3 _ (Rl.setAll _ _ (R2.mono g3) hus) w3 e3 ?_
      cases o1 with
      | nx S3 => exact ⟨fun S' e σ' H' R' w' => by cases e; exact ⟨S3, b3, R', w', hloop⟩, fun _ e => (by cases e), fun _ e => (by cases e)⟩
      | ct S3 => exact ⟨fun _ e => (by cases e), fun S' e σ' H' R' w' => by cases e; exact ⟨S3, b3, R', w', hloop⟩, fun _ e => (by cases e)⟩
      | rt r =>
        cases hloop
        exact ⟨fun _ e => (by cases e), fun _ e => (by cases e), fun r' e v H' g' w' r1 => by cases e; exact q.rt r rfl v H' (gk.trans g') w' (r1.base gk.fr)⟩
  · rintro σ2 H2 ⟨S2, b2, R2, w2, hloop⟩
    rw [List.drop_length] at hloop
    cases hloop
    exact q.nx S2 rfl σ2 H2 (Rl.back R R2 gk) w2
/-- for over the list in slot i: it is read only from then on -/
def fDown (i : Nat) (F : Fs) : Fs := fun S bs => match S[i]? with
  | some (some (.m xs)) => F (S.set i (some (.l xs))) bs
  | _ => F S bs
theorem ev_down {i : Nat} (h : EvS K Pt t F) : EvS K Pt t (fDown i F) := by
  intro bd H0 S σ H bs o bs' D R wd hf q
  unfold fDown at hf
  split at hf
  · rename_i xs e
    exact h bd H0 _ σ H bs o bs' D (R.down e) wd hf q
  · exact h bd H0 S σ H bs o bs' D R wd hf q
def whLoop (ft : Ft) (F : Fs) : Nat → Fs
  | 0, _, _ => none
  | n + 1, S, bs => bnd (ft S bs) fun c b1 => if c then bnd (F S b1) fun o b2 => match o with
      | .nx S' => whLoop ft F n S' b2
      | .ct S' => whLoop ft F n S' b2
      | .rt r => some (.rt r, b2)
    else some (.nx S, b1)
theorem ev_while {n : Nat} (ht : EvT K Pt tt ft) (hF : EvS K Pt t F) : EvS K Pt (tWhile tt t) (whLoop ft F n) := by
  intro bd H0 S σ H bs o bs' D R wd hf q
  refine ⟨fun m σ2 H2 => ∃ S2 b2, Rl K bd H0 S2 σ2 H2 ∧ Wd Pt bd b2 H2 ∧ whLoop ft F m S2 b2 = some (o, bs'), ⟨n, S, bs, R, wd, hf⟩, ?_⟩
  rintro m σ2 H2 ⟨S2, b2, R2, w2, hloop⟩
  cases m with
  | zero => cases hloop
  | succ m =>
    unfold whLoop at hloop
    obtain ⟨c, b3, e3, hloop⟩ := bnd_some hloop
    refine ht bd H0 S2 σ2 H2 b2 c b3 _ R2 w2 e3 fun H3 g3 w3 => ?_
    cases c with
    | true =>
      rw [if_pos rfl] at hloop
      rw [if_pos rfl]
      obtain ⟨o1, b4, e4, hloop⟩ := bnd_some hloop
      let N : L2.St → Hp → Prop := fun σ' H' => ∃ S2 b2, Rl K bd H0 S2 σ' H' ∧ Wd Pt bd b2 H' ∧ whLoop ft F m S2 b2 = some (o, bs')
      refine ⟨N, fun σ' H' h => ⟨m, Nat.lt_succ_self m, h⟩, hF bd H0 S2 σ2 H3 b3 o1 b4 { D with nx := N, ct := N, bk := D.nx } (R2.mono g3) w3 e4 ?_⟩
      cases o1 with
      | nx S3 => exact ⟨fun S' e σ' H' R' w' => by cases e; exact ⟨S3, b4, R', w', hloop⟩, fun _ e => (by cases e), fun _ e => (by cases e)⟩
      | ct S3 => exact ⟨fun _ e => (by cases e), fun S' e σ' H' R' w' => by cases e; exact ⟨S3, b4, R', w', hloop⟩, fun _ e => (by cases e)⟩
      | rt r =>
        cases hloop
        exact ⟨fun _ e => (by cases e), fun _ e => (by cases e), fun r' e v H' g' w' r1 => by cases e; exact q.rt r rfl v H' g' w' r1⟩
    | false =>
      rw [if_neg (by decide)] at hloop
      rw [if_neg (by decide)]
      cases hloop
      exact q.nx S2 rfl σ2 H3 (R2.mono g3) w3
end K15
/-! K15Ev5: a def by its body; sets, sorted, slices -/
set_option autoImplicit false
namespace K15
open PySem PySem.Spec PyProof.Rows L2 K15R
variable {K : PySem.W.Frag} {Pt : Addr} {ta tb tc te : TE} {fa fb fc fe : Fe} {tas : TA} {fas : Fa}
def stS (nn : Nat) (as : List SV) : Sl := as.map some ++ List.replicate (nn - as.length) none
def mkFn (np nn : Nat) (F : Fs) : Fn := fun as bs => if as.length = np then (match F (stS nn as) bs with
  | some (.rt r, b) => some (r, b)
  | _ => none) else none
theorem mkFn_some {np nn : Nat} {F : Fs} {as : List SV} {bs bs' : BS} {r : SV} (h : mkFn np nn F as bs = some (r, bs')) : as.length = np ∧ F (stS nn as) bs = some (.rt r, bs') := by
  unfold mkFn at h
  split at h
  · rename_i hl
    refine ⟨hl, ?_⟩
    split at h
    · rename_i r1 b1 e
      cases h
      exact e
    · cases h
  · cases h
theorem mkFn_eq {np nn : Nat} {F : Fs} {as : List SV} {bs bs' : BS} {r : SV} (hl : as.length = np) (h : F (stS nn as) bs = some (.rt r, bs')) : mkFn np nn F as bs = some (r, bs') := by
  unfold mkFn
  rw [if_pos hl, h]
theorem RepA.get {bd : BD} {H0 H : Hp} : ∀ {as : List SV} {vs : List V} {i : Nat} {x : SV}, RepA K bd H0 H as vs → as[i]? = some x → ∃ v, vs[i]? = some v ∧ RepS K bd H0 H x v := by
  intro as
  induction as with
  | nil => intro vs i x _ e; simp at e
  | cons y as ih =>
    intro vs i x h e
    obtain ⟨w, ws, rfl, h1, h2⟩ := h
    cases i with
    | zero => simp at e; subst e; exact ⟨w, rfl, h1⟩
    | succ i =>
      obtain ⟨v, h3, h4⟩ := ih h2 (by simpa using e)
      exact ⟨v, by simpa using h3, h4⟩
/-- at a def's entry nothing is one's own -/
theorem rl_start {bd : BD} {H : Hp} {as : List SV} {vs : List V} {N : List Str} (r : RepA K bd H H as vs) (bx : ∀ B D, bd = some (B, D) → ¬ Fr H B ∧ ¬ Fr H D) : Rl K bd H (stS N.length as) (L2.start N vs) H := by
  have hl := r.length
  have hS : ∀ (i : Nat) (x : SV), (stS N.length as)[i]? = some (some x) → as[i]? = some x := fun i x e => by
    unfold stS at e
    by_cases h : i < as.length
    · rw [List.getElem?_append_left (by simpa using h), List.getElem?_map] at e
      obtain ⟨y, h1, h2⟩ := Option.map_eq_some_iff.mp e
      cases h2
      exact h1
    · rw [List.getElem?_append_right (by simpa using h)] at e
      rw [List.getElem?_replicate] at e
      split at e
      · cases e
      · cases e
  have at_ : ∀ (i : Nat) (x : SV), (stS N.length as)[i]? = some (some x) → ∃ v, (L2.start N vs)[i]? = some (some v) ∧ RepS K bd H H x v := fun i x e => by
    obtain ⟨v, h1, h2⟩ := r.get (hS i x e)
    refine ⟨v, ?_, h2⟩
    unfold L2.start
    rw [List.getElem?_append_left (by rw [List.length_map]; exact (List.getElem?_eq_some_iff.mp h1).1), List.getElem?_map, h1]
    rfl
  refine ⟨?_, at_, fun i j xs y a hij e1 _ _ _ _ => ?_, G.refl H, bx⟩
  · unfold stS L2.start
    rw [List.length_append, List.length_append, List.length_map, List.length_map, List.length_replicate, List.length_replicate, hl]
  · obtain ⟨v, _, b, us, _, hf, hb, _, _⟩ := at_ i _ e1
    obtain ⟨ps, z⟩ := hf _ hb
    cases z
section
variable {P : Program} {w : World} {mg : Str → Option Value} {base : Heap}
theorem fnOk_of {x : Str} {st : Stmt} {f : Addr} {fd : FuncData} {N ps : List Str} {k : Nat} {D : Fn} (Fd : FnP K x st f fd) (S : FnScope N ps (defScope st)) (F : Fs)
    (hD : ∀ as bs r bs', D as bs = some (r, bs') → as.length = ps.length ∧ F (stS N.length as) bs = some (.rt r, bs'))
    (hbody : ∀ (A : Around) (outer : List Env) (s : Shared) (H : Hp) (E : XK), Room k (A.deeper (envOfC x (defScope st) s.heap.objs.size f fd.code)) →
      ∃ t, PSs (cxOf CX0 P w K mg base N x (defScope st) f fd.code A outer s H E).nox (defBody st) t ∧ EvS K Pt t F) :
    FnOk P w K mg base CX0 (k + 1) f fd ps (spOf K Pt D) := by
  obtain ⟨oc, od, dV, kV, doc, pm, an, cdv, ct, osl, rfl, lk, hcd, _, _⟩ := Fd.ex
  refine fn_of lk hcd S (fun vs H Q E h => ?_) fun A outer s H vs Q E hr h => ?_
  · obtain ⟨bd, bs, as, r, bs', h1, h2, _⟩ := h
    rw [← h2]
    exact (hD as bs r bs' h1).1
  · obtain ⟨t, h1, h2⟩ := hbody A outer s H E hr
    obtain ⟨bd, bs, as, r, bs', e1, e2, e3, e4, e5, q⟩ := h
    refine ⟨t, h1.nox, h2 bd H (stS N.length as) (L2.start N vs) H bs (.rt r) bs' _ (rl_start e3 e5) e4 (hD as bs r bs' e1).2 ⟨fun _ e => (by cases e), fun _ e => (by cases e), fun r' e v H' g w' rr => ?_⟩⟩
    cases e
    exact q v H' g w' rr
theorem cal_of {x : Str} {st : Stmt} {f : Addr} {fd : FuncData} {N ps : List Str} {k : Nat} (Fd : FnP K x st f fd) (hm : mg x = some (.ref f)) (b : Binds K fd ps []) (S : FnScope N ps (defScope st)) (F : Fs)
    (hbody : ∀ (A : Around) (outer : List Env) (s : Shared) (H : Hp) (E : XK), Room k (A.deeper (envOfC x (defScope st) s.heap.objs.size f fd.code)) →
      ∃ t, PSs (cxOf CX0 P w K mg base N x (defScope st) f fd.code A outer s H E).nox (defBody st) t ∧ EvS K Pt t F) :
    C8.Cal P w K mg base (k + 1) x (spOf K Pt (mkFn ps.length N.length F)) [] :=
  ⟨f, fd, ps, [], fnOk_of Fd S F (fun _ _ _ _ h => mkFn_some h) hbody, hm, Fd.kp, b, .nil⟩
theorem fnOk_of2 {x : Str} {st : Stmt} {f : Addr} {fd : FuncData} {N ps : List Str} {k : Nat} {D : Fn} (Fd : FnP K x st f fd) (S : FnScope N ps (defScope st)) (F F' : Fs)
    (hD : ∀ as bs r bs', D as bs = some (r, bs') → as.length = ps.length ∧ (F (stS N.length as) bs = some (.rt r, bs') ∨ F' (stS N.length as) bs = some (.rt r, bs')))
    (hbody : ∀ (A : Around) (outer : List Env) (s : Shared) (H : Hp) (E : XK), Room k (A.deeper (envOfC x (defScope st) s.heap.objs.size f fd.code)) →
      ∃ t, PSs (cxOf CX0 P w K mg base N x (defScope st) f fd.code A outer s H E).nox (defBody st) t ∧ EvS K Pt t F)
    (hbody' : ∀ (A : Around) (outer : List Env) (s : Shared) (H : Hp) (E : XK), Room k (A.deeper (envOfC x (defScope st) s.heap.objs.size f fd.code)) →
      ∃ t, PSs (cxOf CX0 P w K mg base N x (defScope st) f fd.code A outer s H E).nox (defBody st) t ∧ EvS K Pt t F') :
    FnOk P w K mg base CX0 (k + 1) f fd ps (spOf K Pt D) := by
  obtain ⟨oc, od, dV, kV, doc, pm, an, cdv, ct, osl, rfl, lk, hcd, _, _⟩ := Fd.ex
  refine fn_of lk hcd S (fun vs H Q E h => ?_) fun A outer s H vs Q E hr h => ?_
  · obtain ⟨bd, bs, as, r, bs', h1, h2, _⟩ := h
    rw [← h2]
    exact (hD as bs r bs' h1).1
  · obtain ⟨bd, bs, as, r, bs', e1, e2, e3, e4, e5, q⟩ := h
    rcases (hD as bs r bs' e1).2 with e6 | e6
    · obtain ⟨t, h1, h2⟩ := hbody A outer s H E hr
      refine ⟨t, h1.nox, h2 bd H (stS N.length as) (L2.start N vs) H bs (.rt r) bs' _ (rl_start e3 e5) e4 e6 ⟨fun _ e => (by cases e), fun _ e => (by cases e), fun r' e v H' g w' rr => ?_⟩⟩
      cases e
      exact q v H' g w' rr
    · obtain ⟨t, h1, h2⟩ := hbody' A outer s H E hr
      refine ⟨t, h1.nox, h2 bd H (stS N.length as) (L2.start N vs) H bs (.rt r) bs' _ (rl_start e3 e5) e4 e6 ⟨fun _ e => (by cases e), fun _ e => (by cases e), fun r' e v H' g w' rr => ?_⟩⟩
      cases e
      exact q v H' g w' rr
theorem cal_of2 {x : Str} {st : Stmt} {f : Addr} {fd : FuncData} {N ps : List Str} {k : Nat} {D : Fn} (Fd : FnP K x st f fd) (hm : mg x = some (.ref f)) (b : Binds K fd ps []) (S : FnScope N ps (defScope st)) (F F' : Fs)
    (hD : ∀ as bs r bs', D as bs = some (r, bs') → as.length = ps.length ∧ (F (stS N.length as) bs = some (.rt r, bs') ∨ F' (stS N.length as) bs = some (.rt r, bs')))
    (hbody : ∀ (A : Around) (outer : List Env) (s : Shared) (H : Hp) (E : XK), Room k (A.deeper (envOfC x (defScope st) s.heap.objs.size f fd.code)) →
      ∃ t, PSs (cxOf CX0 P w K mg base N x (defScope st) f fd.code A outer s H E).nox (defBody st) t ∧ EvS K Pt t F)
    (hbody' : ∀ (A : Around) (outer : List Env) (s : Shared) (H : Hp) (E : XK), Room k (A.deeper (envOfC x (defScope st) s.heap.objs.size f fd.code)) →
      ∃ t, PSs (cxOf CX0 P w K mg base N x (defScope st) f fd.code A outer s H E).nox (defBody st) t ∧ EvS K Pt t F') :
    C8.Cal P w K mg base (k + 1) x (spOf K Pt D) [] :=
  ⟨f, fd, ps, [], fnOk_of2 Fd S F F' hD hbody hbody', hm, Fd.kp, b, .nil⟩
end
/-! ### sorted(set(xs)), sorted({..}) -/
def uins (k : Int) : List Int → List Int
  | [] => [k]
  | x :: xs => if k < x then k :: x :: xs else if k = x then x :: xs else x :: uins k xs
def usort : List Int → List Int
  | [] => []
  | k :: ks => uins k (usort ks)
theorem uins_mem (k y : Int) : ∀ xs : List Int, y ∈ uins k xs ↔ y = k ∨ y ∈ xs
  | [] => by simp [uins]
  | x :: xs => by
    unfold uins
    split
    · simp
    · split
      · rename_i h; subst h; simp
      · rw [List.mem_cons, uins_mem k y xs, List.mem_cons]
        constructor
        · rintro (h | h | h) <;> simp [h]
        · rintro (h | h | h) <;> simp [h]
theorem usort_mem (y : Int) : ∀ xs : List Int, y ∈ usort xs ↔ y ∈ xs
  | [] => by simp [usort]
  | x :: xs => by unfold usort; rw [uins_mem, usort_mem y xs, List.mem_cons]
theorem uins_sorted (k : Int) : ∀ xs : List Int, xs.Pairwise (· < ·) → (uins k xs).Pairwise (· < ·)
  | [], _ => by simp [uins]
  | x :: xs, h => by
    unfold uins
    have h' := List.pairwise_cons.mp h
    split
    · rename_i hk
      refine List.pairwise_cons.mpr ⟨fun y hy => ?_, h⟩
      rcases List.mem_cons.mp hy with rfl | hy
      · exact hk
      · have := h'.1 y hy; omega
    · split
      · exact h
      · rename_i hk1 hk2
        refine List.pairwise_cons.mpr ⟨fun y hy => ?_, uins_sorted k xs h'.2⟩
        rcases (uins_mem k y xs).mp hy with rfl | hy
        · omega
        · exact h'.1 y hy
theorem usort_sorted : ∀ xs : List Int, (usort xs).Pairwise (· < ·)
  | [] => by simp [usort]
  | x :: xs => uins_sorted x _ (usort_sorted xs)
/-- strictly sorted lists with the same members are equal -/
theorem sorted_uniq : ∀ {xs ys : List Int}, xs.Pairwise (· < ·) → ys.Pairwise (· < ·) → (∀ y, y ∈ xs ↔ y ∈ ys) → xs = ys := by
  intro xs
  induction xs with
  | nil =>
    intro ys _ _ h
    cases ys with
    | nil => rfl
    | cons y ys => have := (h y).mpr List.mem_cons_self; cases this
  | cons x xs ih =>
    intro ys hx hy h
    cases ys with
    | nil => have := (h x).mp List.mem_cons_self; cases this
    | cons y ys =>
      have hx' := List.pairwise_cons.mp hx
      have hy' := List.pairwise_cons.mp hy
      have e : x = y := by
        have h1 := (h x).mp List.mem_cons_self
        have h2 := (h y).mpr List.mem_cons_self
        rcases List.mem_cons.mp h1 with h1 | h1
        · exact h1
        · rcases List.mem_cons.mp h2 with h2 | h2
          · exact h2.symm
          · have := hy'.1 x h1
            have := hx'.1 y h2
            omega
      subst e
      rw [ih hx'.2 hy'.2 fun z => ?_]
      constructor
      · intro hz
        rcases List.mem_cons.mp ((h z).mp (List.mem_cons_of_mem _ hz)) with e | h2
        · have := hx'.1 z hz; omega
        · exact h2
      · intro hz
        rcases List.mem_cons.mp ((h z).mpr (List.mem_cons_of_mem _ hz)) with e | h2
        · have := hy'.1 z hz; omega
        · exact h2
def fSortSet (fe : Fe) : Fe := fun S bs => bnd (fe S bs) fun x b1 => match x.lst.bind intsP with
  | some ns => if ns.length < 64 then some (.m ((usort ns).map PV.i), b1) else none
  | none => none
theorem ev_sortSet {w : World} (he : EvE K Pt te fe) : EvE K Pt (tCB (rSortedSet w) (tCons (tCB (K15R.rSetL K w) (tCons te tNil)) tNil)) (fSortSet fe) := by
  intro bd H0 S σ H bs z bs' Q R wd hf q
  obtain ⟨x, b1, e1, hf⟩ := bnd_some hf
  split at hf
  · rename_i ns hns
    split at hf
    · rename_i hl
      cases hf
      refine he bd H0 S σ H bs x _ _ R wd e1 fun v H1 g1 w1 r1 => ?_
      obtain ⟨ys, h3, h4⟩ := Option.bind_eq_some_iff.mp hns
      obtain ⟨a, vs, rfl, hq, hr⟩ := r1.lst h3
      obtain rfl := hr.intsP h4
      refine ⟨a, ns, rfl, hq, by omega, fun p c hp hc => ?_⟩
      have g2 : G bd H1 (upd H1 p (SetO w p (fun j => decide (j ∈ ns)) c)) := G.new hp
      refine ⟨p, _, c, rfl, upd_same, by omega, fun ms r hm hk hlen hr' => ?_⟩
      have e : ms = usort ns := sorted_uniq hm (usort_sorted ns) fun y => by rw [hk y, usort_mem]; exact decide_eq_true_iff
      subst e
      obtain ⟨g3, w3, r3⟩ := new_l (K := K) hr' (w1.new hp) (reps_ints (usort ns))
      exact q _ _ (g1.trans (g2.trans g3)) w3 (r3.base (g1.trans g2).fr)
    · cases hf
  · cases hf
/-! ### xs[:4] of a tuple -/
def fSl4 (fe : Fe) : Fe := fun S bs => bnd (fe S bs) fun x b1 => match x with
  | .p (.t xs) => some (.p (.t (xs.take 4)), b1)
  | _ => none
theorem ev_sl4 (he : EvE K Pt te fe) : EvE K Pt (L2.tSl (rSlA K) te tNoPart (tPart (tC (.int 4)))) (fSl4 fe) := by
  intro bd H0 S σ H bs z bs' Q R wd hf q
  obtain ⟨x, b1, e1, hf⟩ := bnd_some hf
  split at hf
  · rename_i ys
    cases hf
    refine he bd H0 S σ H bs _ _ _ R wd e1 fun v H1 g1 w1 r1 => ?_
    obtain ⟨a, vs, rfl, ha, hr⟩ := r1
    refine ⟨4, rfl, a, vs, rfl, Or.inl (Or.inl ha), fun h => ?_, fun _ p hp => ?_⟩
    · have h2 : HT.sIx vs.length vs.length (some 4) = vs.length := h.2
      have h3 : min 4 vs.length = vs.length := by
        have e : HT.sIx vs.length vs.length (some ((4 : Nat) : Int)) = min 4 vs.length := HT.sIx_nat _ _ _
        rw [← e]; exact h2
      have h4 : ys.take 4 = ys := List.take_of_length_le (by rw [← hr.length]; omega)
      exact q _ H1 g1 w1 ⟨a, vs, rfl, ha, by rw [h4]; exact hr⟩
    · have e : cutV vs none (some 4) = vs.take 4 := by
        unfold cutV
        have e1 : HT.sIx vs.length vs.length (some ((4 : Nat) : Int)) = min 4 vs.length := HT.sIx_nat _ _ _
        have e2 : HT.sIx vs.length 0 none = 0 := rfl
        rw [e2, show (some (4 : Int)) = some ((4 : Nat) : Int) from rfl, e1]
        simp
      rw [e]
      obtain ⟨g3, w3, r3⟩ := new_t (K := K) hp w1 (Reps.take 4 hr)
      exact q _ _ (g1.trans g3) w3 (r3.base g1.fr)
  · cases hf
/-! ### pairs of ints sorted -/
abbrev II := Int × Int
def pLt (a b : II) : Bool := decide (a.1 < b.1) || (decide (a.1 = b.1) && decide (a.2 < b.2))
def pins (k : II) : List II → List II
  | [] => [k]
  | x :: xs => if pLt x k then x :: pins k xs else k :: x :: xs
def psort : List II → List II
  | [] => []
  | k :: ks => pins k (psort ks)
theorem pLt_iff {a b : II} : pLt a b = true ↔ a.1 < b.1 ∨ (a.1 = b.1 ∧ a.2 < b.2) := by
  unfold pLt; simp
theorem pLt_nf {a b : II} : pLt a b = false ↔ b.1 < a.1 ∨ (a.1 = b.1 ∧ b.2 ≤ a.2) := by
  rw [Bool.eq_false_iff, Ne, pLt_iff]; omega
theorem pins_perm (k : II) : ∀ xs : List II, (pins k xs).Perm (k :: xs)
  | [] => List.Perm.refl _
  | x :: xs => by
    unfold pins
    split
    · exact (List.Perm.cons x (pins_perm k xs)).trans (List.Perm.swap k x xs)
    · exact List.Perm.refl _
theorem psort_perm : ∀ xs : List II, (psort xs).Perm xs
  | [] => List.Perm.refl _
  | x :: xs => (pins_perm x _).trans (List.Perm.cons x (psort_perm xs))
theorem pins_sorted (k : II) : ∀ xs : List II, xs.Pairwise (fun x y => pLt y x = false) → (pins k xs).Pairwise (fun x y => pLt y x = false)
  | [], _ => by simp [pins]
  | x :: xs, h => by
    have h' := List.pairwise_cons.mp h
    unfold pins
    split
    · rename_i hx
      refine List.pairwise_cons.mpr ⟨fun y hy => ?_, pins_sorted k xs h'.2⟩
      rcases List.mem_cons.mp ((pins_perm k xs).mem_iff.mp hy) with rfl | hy
      · rw [pLt_iff] at hx; rw [pLt_nf]; omega
      · exact h'.1 y hy
    · rename_i hx
      have hx := Bool.eq_false_iff.mpr hx
      refine List.pairwise_cons.mpr ⟨fun y hy => ?_, h⟩
      rcases List.mem_cons.mp hy with rfl | hy
      · exact hx
      · have h1 := h'.1 y hy
        rw [pLt_nf] at *; omega
theorem psort_sorted : ∀ xs : List II, (psort xs).Pairwise (fun x y => pLt y x = false)
  | [] => List.Pairwise.nil
  | x :: xs => pins_sorted x _ (psort_sorted xs)
theorem psort_uniq : ∀ {xs ys : List II}, xs.Perm ys → xs.Pairwise (fun x y => pLt y x = false) → ys.Pairwise (fun x y => pLt y x = false) → xs = ys := by
  intro xs
  induction xs with
  | nil => intro ys h _ _; exact (List.Perm.nil_eq h)
  | cons x xs ih =>
    intro ys h hx hy
    cases ys with
    | nil => exact absurd h.length_eq (by simp)
    | cons y ys =>
      have hx' := List.pairwise_cons.mp hx
      have hy' := List.pairwise_cons.mp hy
      have e : x = y := by
        have h1 : x ∈ y :: ys := h.mem_iff.mp List.mem_cons_self
        have h2 : y ∈ x :: xs := h.mem_iff.mpr List.mem_cons_self
        rcases List.mem_cons.mp h1 with h1 | h1
        · exact h1
        · rcases List.mem_cons.mp h2 with h2 | h2
          · exact h2.symm
          · have a := hy'.1 x h1
            have b := hx'.1 y h2
            rw [pLt_nf] at a b
            exact Prod.ext (by omega) (by omega)
      subst e
      rw [ih (List.Perm.cons_inv h) hx'.2 hy'.2]
/-- the order of sorted(range(n), key=lambda k: (-ps[k], k)) -/
def ordP (ps : List Int) : List Nat := (psort ((List.range ps.length).map fun k => (-(ps.getD k 0), (k : Int)))).map fun p => p.2.toNat
theorem ordr_eq (ps : List Int) : ordr ps = ordP ps := by
  have hperm : (ordr ps).Perm (List.range ps.length) := List.mergeSort_perm _ _
  have hle : (PySem.W.dataLe false (sortKey ps)) = fun p q => decide (-(ps.getD p 0) < -(ps.getD q 0) ∨ (-(ps.getD p 0) = -(ps.getD q 0) ∧ (p : Int) ≤ q)) := PySem.W.dataLe_ii (fun p : Nat => -(ps.getD p 0)) (fun p : Nat => (p : Int))
  have hs : (ordr ps).Pairwise (fun p q => (PySem.W.dataLe false (sortKey ps)) p q = true) := by
    refine List.pairwise_mergeSort ?_ ?_ _
    · intro a b c h1 h2
      rw [hle] at *
      simp only [decide_eq_true_eq] at *
      omega
    · intro a b
      rw [hle]
      simp only [Bool.or_eq_true, decide_eq_true_eq]
      omega
  have h2 : (ordr ps).map (fun k => ((-(ps.getD k 0), (k : Int)) : II)) = psort ((List.range ps.length).map fun k => (-(ps.getD k 0), (k : Int))) := by
    refine psort_uniq ((hperm.map _).trans (psort_perm _).symm) ?_ (psort_sorted _)
    rw [List.pairwise_map]
    refine List.Pairwise.imp ?_ hs
    intro x y h
    rw [hle] at h
    have h := of_decide_eq_true h
    rw [pLt_nf]
    show -(ps.getD x 0) < -(ps.getD y 0) ∨ _
    simp only
    omega
  unfold ordP
  rw [← h2, List.map_map]
  conv => lhs; rw [← List.map_id (ordr ps)]
  refine List.map_congr_left fun k _ => ?_
  simp
/-! ### sorted(range(n), key=lambda k: (-penalties[k], k)) -/
def fSortLam (i : Nat) (fe : Fe) : Fe := fun S bs => bnd (fe S bs) fun x b1 => match x, S[i]? with
  | .rg n, some (some (.p (.t ys))) => match intsP ys with
    | some ns => if n ≤ 1000 ∧ ns.length = n then some (.m ((ordP ns).map fun j => .i (j : Nat)), b1) else none
    | none => none
  | _, _ => none
theorem reps_nat {H : Hp} : ∀ ns : List Nat, Reps H (ns.map fun j => PV.i (j : Nat)) (ns.map fun j => V.int (j : Nat))
  | [] => rfl
  | n :: ns => ⟨.int n, ns.map fun j => V.int (j : Nat), rfl, rfl, reps_nat ns⟩
theorem ev_sortLam {i : Nat} (he : EvE K Pt te fe) : EvE K Pt (tSortLam K (T1 Pt) i te) (fSortLam i fe) := by
  intro bd H0 S σ H bs z bs' Q R wd hf q
  obtain ⟨x, b1, e1, hf⟩ := bnd_some hf
  split at hf
  · rename_i n ys hS
    split at hf
    · rename_i ns hns
      split at hf
      · rename_i hc
        cases hf
        refine he bd H0 S σ H bs _ _ _ R wd e1 fun v H1 g1 w1 r1 => ?_
        obtain ⟨r, rfl, hr⟩ := r1
        obtain ⟨u, h1, a, vs, rfl, ha, hrep⟩ := (R.mono g1).at_ i _ hS
        obtain rfl := hrep.intsP hns
        refine ⟨r, a, n, ns, rfl, hr, hc.1, h1, Or.inl (Or.inl ha), hc.2, w1.tab, fun H2 p hE hT hp => ?_⟩
        have g2 : G bd H1 H2 := ⟨fun b o e n' _ => hE b o e n', fun b f o e => by
          by_cases hn : ∃ ps, o = .tbl ps
          · exact hn
          · exact f o (hE b o e fun ps z => hn ⟨ps, z⟩)⟩
        have w2 : Wd Pt bd bs' H2 := ⟨hT, fun B D e => by
          obtain ⟨h2, h3, h4⟩ := w1.box B D e
          exact ⟨hE _ _ h2 (fun _ z => by cases z), hE _ _ h3 (fun _ z => by cases z), h4⟩⟩
        rw [ordr_eq]
        obtain ⟨g3, w3, r3⟩ := new_l (K := K) hp w2 (reps_nat (ordP ns))
        exact q _ _ (g1.trans (g2.trans g3)) w3 (r3.base (g1.trans g2).fr)
      · cases hf
    · cases hf
  · cases hf
end K15
/-! K15Ev6: the box, a set comprehension sorted, pairs sorted -/
set_option autoImplicit false
namespace K15
open PySem PySem.Spec PyProof.Rows L2 K15R
variable {K : PySem.W.Frag} {Pt : Addr} {ta tb tc te : TE} {fa fb fc fe : Fe} {tas : TA} {fas : Fa}
def fBoxPos (i : Nat) : Fe := fun S bs => match S[i]? with
  | some (some .box) => some (.p (.i bs.2), bs)
  | _ => none
theorem ev_boxPos {i : Nat} : EvE K Pt (tOp (rIx2 K) (tVar i) (tC (.int 1))) (fBoxPos i) := by
  intro bd H0 S σ H bs z bs' Q R wd hf q
  unfold fBoxPos at hf
  split at hf
  · rename_i e
    cases hf
    obtain ⟨v, h1, B, D, hb, rfl⟩ := R.at_ i _ e
    obtain ⟨h2, h3, h4⟩ := wd.box B D hb
    exact ⟨.ref B, h1, Or.inl ⟨B, _, 1, .int bs.2, rfl, rfl, Or.inl (Or.inl h2), rfl, q _ H (G.refl H) wd rpI⟩⟩
  · cases hf
def fBoxL (i : Nat) : Fe := fun S bs => match S[i]? with
  | some (some .box) => some (.l (bs.1.map PV.i), bs)
  | _ => none
theorem ev_boxL {i : Nat} : EvE K Pt (tOp (rIx2 K) (tVar i) (tC (.int 0))) (fBoxL i) := by
  intro bd H0 S σ H bs z bs' Q R wd hf q
  unfold fBoxL at hf
  split at hf
  · rename_i e
    cases hf
    obtain ⟨v, h1, B, D, hb, rfl⟩ := R.at_ i _ e
    obtain ⟨h2, h3, h4⟩ := wd.box B D hb
    refine ⟨.ref B, h1, Or.inl ⟨B, _, 0, .ref D, rfl, rfl, Or.inl (Or.inl h2), rfl, q _ H (G.refl H) wd ⟨D, _, rfl, h3, fun B' D' e' => ?_, reps_ints _⟩⟩⟩
    rw [hb] at e'
    cases e'
    exact h4.symm
  · cases hf
def fBoxSet (i : Nat) (fe : Fe) : Fs := fun S bs => bnd (fe S bs) fun r b1 => match r, S[i]? with
  | .p (.i n), some (some .box) => some (.nx S, (b1.1, n))
  | _, _ => none
theorem ev_boxSet {i : Nat} (he : EvE K Pt te fe) : EvS K Pt (tAsg te (gSub (tVar i) (tC (.int 1)) L2.rSetL)) (fBoxSet i fe) := by
  intro bd H0 S σ H bs o bs' D R wd hf q
  obtain ⟨r, b1, e1, hf⟩ := bnd_some hf
  split at hf
  · rename_i n hS
    cases hf
    refine he bd H0 S σ H bs _ _ _ R wd e1 fun v H1 g1 w1 r1 => ?_
    have R1 := R.mono g1
    obtain ⟨w, h1, B, D, hb, rfl⟩ := R1.at_ i _ hS
    obtain ⟨h2, h3, h4⟩ := w1.box B D hb
    obtain rfl := rpI' r1
    refine ⟨.ref B, h1, B, _, 1, 1, rfl, rfl, h2, rfl, ?_⟩
    have g2 : G bd H1 (upd H1 B (.lst [.ref D, .int n])) := ⟨fun a u e n1 n2 => by
      by_cases ea : a = B
      · subst ea
        rw [h2] at e
        cases e
        exact absurd rfl (n2 _ rfl a D hb)
      · rw [upd_ne ea]; exact e, fun a f => by
      by_cases ea : a = B
      · subst ea
        obtain ⟨ps, z⟩ := f _ upd_same
        cases z
      · exact fun u hu => f u (by rw [upd_ne ea]; exact hu)⟩
    refine q.nx S rfl σ _ (R1.mono g2) ⟨tabs_mut h2 w1.tab, fun B' D' e => ?_⟩
    rw [hb] at e
    cases e
    exact ⟨upd_same, by rw [upd_ne h4.symm]; exact h3, h4⟩
  · cases hf
/-! ### sorted({elt for .. if ..}) -/
def fScSort (fi : Fi) (tg : Tg) (ft : Ft) (fe : Fe) (vs : List Nat) : Fe := fun S bs => bnd (fi S bs) fun xs b1 => if xs.length ≤ 60 then bnd (lcLoop tg ft fe (wpS S vs) xs b1) fun ys b2 => match intsP ys with
  | some ns => some (.m ((usort ns).map PV.i), b2)
  | none => none
  else none
theorem intsP_app : ∀ {xs ys : List PV} {ns : List Int}, intsP (xs ++ ys) = some ns → ∃ ms ks, intsP xs = some ms ∧ intsP ys = some ks ∧ ns = ms ++ ks := by
  intro xs
  induction xs with
  | nil => intro ys ns h; exact ⟨[], ns, rfl, h, rfl⟩
  | cons x xs ih =>
    intro ys ns h
    cases x with
    | i n =>
      obtain ⟨r, h1, h2⟩ := Option.map_eq_some_iff.mp (show (intsP (xs ++ ys)).map (n :: ·) = some ns from h)
      obtain ⟨ms, ks, h3, h4, h5⟩ := ih h1
      have h2' : n :: r = ns := h2
      refine ⟨n :: ms, ks, ?_, h4, ?_⟩
      · show (intsP xs).map (n :: ·) = _
        rw [h3]; rfl
      · rw [← h2', h5]; rfl
    | b n => cases h
    | s n => cases h
    | t n => cases h
theorem codeNotSet {w : World} {D : Addr} {q : Str} {Sm : Int → Bool} {c : Nat} (e : SetO w D Sm c = LamX.CodeO D q) : False := by
  have z : (fun h => SetR w h D Sm c) = fun h => ∃ (oc : Obj) (vs : Array Value) (t : Tok), h.get? D = some oc ∧ oc.data = .fields vs ∧ vs[1]? = some (.str q t) := HO.ext.inj e
  let oc : Obj := { cls := .none, data := .fields #[.none, .str q default] }
  let h : Heap := { objs := Array.replicate (D + 1) oc }
  have hg : h.get? D = some oc := by
    unfold Heap.get?
    have : h.objs[D]? = some oc := by simp [h]
    rw [this]
  have z' := congrFun z h
  have : SetR w h D Sm c := by
    rw [show SetR w h D Sm c = _ from z']
    exact ⟨oc, _, default, hg, rfl, rfl⟩
  obtain ⟨o, es, ep, t, h1, _, h2, _⟩ := this
  rw [hg] at h1
  cases h1
  cases h2
theorem ev_scSort {w : World} {wi : TI} {fi : Fi} {g : TG} {tg : Tg} {tt : TT} {ft : Ft} {vs : List Nat} (hi : EvI K Pt false wi fi) (hg : TgOk g tg) (ht : EvT K Pt tt ft) (he : EvE K Pt te fe) (hv : ∀ i ∈ tg.slots, i ∈ vs) :
    EvE K Pt (tCB (rSortedSet w) (tCons (tSc w wi g tt te vs) tNil)) (fScSort fi tg ft fe vs) := by
  intro bd H0 S σ H bs z bs' Q R wd hf q
  obtain ⟨xs, b1, e1, hf⟩ := bnd_some hf
  split at hf
  · rename_i hlen
    obtain ⟨ys, b2, e2, hf⟩ := bnd_some hf
    split at hf
    · rename_i ns hns
      cases hf
      refine hi bd H0 S σ H bs xs b1 _ R wd e1 fun J H1 g1 w1 wk D hD => ?_
      obtain ⟨Y, wlk, hy⟩ := wk H1 fun a o h _ _ => h
      refine sc_it wlk (fun i H2 => ∃ (Sm : Int → Bool) (c : Nat) (ms : List Int) (bsi : BS) (rest : List PV), H2 D = some (SetO w D Sm c) ∧ (∀ j, Sm j = true ↔ j ∈ ms) ∧ G bd H1 H2 ∧ Wd Pt bd bsi H2 ∧ lcLoop tg ft fe (wpS S vs) (xs.drop i) bsi = some (rest, bs') ∧ ms.map PV.i ++ rest = ys ∧ c ≤ i) ?_ ?_ ?_ ?_
      · exact ⟨_, 0, [], b1, ys, upd_same, fun j => by simp, G.new hD, w1.new hD, e2, rfl, Nat.zero_le _⟩
      · rintro i H2 _ ⟨Sm, c, ms, bsi, rest, _, _, g2, _⟩
        exact g2
      · rintro i x H2 H3 hin ⟨Sm, c, ms, bsi, rest, hset, hmem, g2, w2, hloop, happ, hal⟩ hyy
        obtain ⟨hst, y, hxi, hry⟩ := hy i H2 x H3 hin g2 hyy
        obtain ⟨g3, w3⟩ := step_G w2 hst
        have hdrop : xs.drop i = y :: xs.drop (i + 1) := by
          obtain ⟨hl, hx⟩ := List.getElem?_eq_some_iff.mp hxi
          rw [← hx]
          exact List.drop_eq_getElem_cons hl
        rw [hdrop] at hloop
        unfold lcLoop at hloop
        split at hloop
        · cases hloop
        · rename_i ps hps
          obtain ⟨cc, b3, e3, hloop⟩ := bnd_some hloop
          refine hg y x H3 (L2.wipe σ vs) _ ps hry hps fun us hus => ⟨wipe_setS hv us, ?_⟩
          have R3 : Rl K bd H0 (setS (wpS S vs) tg.slots (ps.map SV.p)) (setS (L2.wipe σ vs) tg.slots us) H3 := Rl.setAll _ _ (Rl.wipe (R.mono (g1.trans (g2.trans g3))) vs) hus
          refine ht bd H0 _ _ H3 bsi cc b3 _ R3 w3 e3 fun H4 g4 w4 => ?_
          have hD4 : H4 D = some (SetO w D Sm c) := (g3.trans g4).keep _ _ hset (fun _ z => by cases z) fun _ z => by cases z
          cases cc with
          | true =>
            rw [if_pos rfl] at hloop
            rw [if_pos rfl]
            obtain ⟨yv, b4, e4, hloop⟩ := bnd_some hloop
            split at hloop
            · rename_i yp
              obtain ⟨ys', b5, e5, hloop⟩ := bnd_some hloop
              cases hloop
              refine he bd H0 _ _ H4 b3 _ b4 _ (R3.mono g4) w4 e4 fun v H5 g5 w5 r5 => ?_
              have hD5 : H5 D = some (SetO w D Sm c) := g5.keep _ _ hD4 (fun _ z => by cases z) fun _ z => by cases z
              have g15 : G bd H1 H5 := g2.trans (g3.trans (g4.trans g5))
              obtain ⟨k, rfl⟩ : ∃ k, yp = .i k := by
                rw [← happ] at hns
                obtain ⟨_, ks, _, h2, _⟩ := intsP_app hns
                cases yp with
                | i k => exact ⟨k, rfl⟩
                | b k => cases h2
                | s k => cases h2
                | t k => cases h2
              obtain rfl := rpI' r5
              have gm : G bd H1 (upd H5 D (SetO w D (fun j => Sm j || decide (j = k)) (if Sm k = true then c else c + 1))) := g15.mut (fr_none hD)
              have wm : Wd Pt bd b4 (upd H5 D (SetO w D (fun j => Sm j || decide (j = k)) (if Sm k = true then c else c + 1))) := by
                refine ⟨fun p hp => ?_, fun B D' e => ?_⟩
                · obtain ⟨tp, h1, h2, h3⟩ := w5.tab p hp
                  have n1 : p.1 ≠ D := fun e => by rw [e, hD5] at h1; cases h1
                  refine ⟨tp, by rw [upd_ne n1]; exact h1, h2, fun pos cv hc => ?_⟩
                  obtain ⟨c', e1, e2⟩ := h3 pos cv hc
                  obtain ⟨t1, t2, t3, t4⟩ := w1.tab p hp
                  refine ⟨c', e1, ?_⟩
                  by_cases hcD : c' = D
                  · exfalso
                    subst hcD
                    rw [hD5] at e2
                    exact codeNotSet (Option.some.inj e2)
                  · rw [upd_ne hcD]; exact e2
                · obtain ⟨h1, h2, h3⟩ := w1.box B D' e
                  obtain ⟨h4, h5, _⟩ := w5.box B D' e
                  exact ⟨by rw [upd_ne (ne_of_none h1 hD)]; exact h4, by rw [upd_ne (ne_of_none h2 hD)]; exact h5, h3⟩
              exact ⟨k, Sm, c, rfl, hD5, Nat.lt_of_lt_of_le (show c + 1 < 100 by omega) (by decide), _, _, ms ++ [k], _, ys', upd_same, fun j => by simp [hmem j], gm, wm, e5, by rw [List.map_append, List.append_assoc]; exact happ, by split <;> omega⟩
            · cases hloop
          | false =>
            rw [if_neg (by decide)] at hloop
            rw [if_neg (by decide)]
            exact ⟨Sm, c, ms, b3, rest, hD4, hmem, g2.trans (g3.trans g4), w4, hloop, happ, by omega⟩
      · rintro H2 ⟨Sm, c, ms, bsi, rest, hset, hmem, g2, w2, hloop, happ, hal⟩
        rw [List.drop_length] at hloop
        cases hloop
        rw [List.append_nil] at happ
        subst happ
        rw [intsP_map] at hns
        obtain rfl := Option.some.inj hns
        refine ⟨D, Sm, c, rfl, hset, by omega, fun ks r hm hk hlen' hr' => ?_⟩
        have e : ks = usort ms := sorted_uniq hm (usort_sorted ms) fun y => by rw [hk y, usort_mem, hmem]
        subst e
        obtain ⟨g3, w3, r3⟩ := new_l (K := K) hr' w2 (reps_ints (usort ms))
        exact q _ _ (g1.trans (g2.trans g3)) w3 (r3.base (g1.trans g2).fr)
    · cases hf
  · cases hf
end K15
/-! K15Ev7: sorted pairs of ints -/
set_option autoImplicit false
namespace K15
open PySem PySem.Spec PyProof.Rows L2 K15R
variable {K : PySem.W.Frag} {Pt : Addr}
def PV.pair : PV → Option II
  | .t [.i m, .i n] => some (m, n)
  | _ => none
def pairsP : List PV → Option (List II)
  | [] => some []
  | p :: ps => match p.pair, pairsP ps with
    | some k, some ks => some (k :: ks)
    | _, _ => none
def pv2 (k : II) : PV := .t [.i k.1, .i k.2]
theorem pair_some {p : PV} {k : II} (h : p.pair = some k) : p = pv2 k := by
  unfold PV.pair at h
  split at h
  · cases h; rfl
  · cases h
theorem pairsP_some : ∀ {ps : List PV} {ks : List II}, pairsP ps = some ks → ps = ks.map pv2 := by
  intro ps
  induction ps with
  | nil => intro ks h; cases h; rfl
  | cons p ps ih =>
    intro ks h
    unfold pairsP at h
    split at h
    · rename_i k ks' h1 h2
      cases h
      rw [pair_some h1, ih h2]; rfl
    · cases h
@[simp] theorem pairsP_map : ∀ ks : List II, pairsP (ks.map pv2) = some ks
  | [] => rfl
  | k :: ks => by
    show (match (pv2 k).pair, pairsP (ks.map pv2) with | some k, some ks => some (k :: ks) | _, _ => none) = _
    rw [pairsP_map ks]; rfl
noncomputable def keyOf2 (H : Hp) (x : V) : II := match x with
  | .ref t => match H t with
    | some (.tup [.int a, .int b]) => (a, b)
    | _ => (0, 0)
  | _ => (0, 0)
theorem rep_pv2 {H : Hp} {k : II} {v : V} (h : Rep H (pv2 k) v) : ∃ t, v = .ref t ∧ H t = some (.tup [.int k.1, .int k.2]) := by
  obtain ⟨a, vs, e, ha, w, ws, rfl, h1, w2, ws2, rfl, h2, h3⟩ := h
  obtain rfl : w = .int k.1 := h1
  obtain rfl : w2 = .int k.2 := h2
  obtain rfl : ws2 = [] := h3
  exact ⟨a, e, ha⟩
theorem key_pv2 {H : Hp} {k : II} {v : V} (h : Rep H (pv2 k) v) : keyOf2 H v = k := by
  obtain ⟨t, rfl, ht⟩ := rep_pv2 h
  unfold keyOf2
  simp only [ht]
theorem pv2_rep {H : Hp} {k : II} {t : Addr} (ht : H t = some (.tup [.int k.1, .int k.2])) : Rep H (pv2 k) (.ref t) := ⟨t, _, rfl, ht, _, _, rfl, rfl, _, [], rfl, rfl, rfl⟩
theorem reps_keys {H : Hp} : ∀ {ks : List II} {vs : List V}, Reps H (ks.map pv2) vs → vs.map (keyOf2 H) = ks ∧ ∀ x ∈ vs, Rep H (pv2 (keyOf2 H x)) x
  | [], vs, h => by rw [show vs = [] from h]; exact ⟨rfl, fun x hx => by cases hx⟩
  | k :: ks, vs, h => by
    obtain ⟨w, ws, rfl, h1, h2⟩ := h
    obtain ⟨e1, e2⟩ := reps_keys h2
    refine ⟨by rw [List.map_cons, e1, key_pv2 h1], fun x hx => ?_⟩
    rcases List.mem_cons.mp hx with rfl | hx
    · rw [key_pv2 h1]; exact h1
    · exact e2 x hx
theorem keys_reps {H : Hp} : ∀ {vs : List V}, (∀ x ∈ vs, Rep H (pv2 (keyOf2 H x)) x) → Reps H ((vs.map (keyOf2 H)).map pv2) vs
  | [], h => rfl
  | x :: vs, h => ⟨x, vs, rfl, h x List.mem_cons_self, keys_reps fun y hy => h y (List.mem_cons_of_mem _ hy)⟩
def gSortP : List SV → Option SV
  | [x] => match x.lst.bind pairsP with
    | some ks => some (.m ((psort ks).map pv2))
    | none => none
  | _ => none
theorem c_sortP : CR K Pt (rSortedPO K) gSortP := by
  intro bd bs Ha H xs vs z Q wd rx hz q
  unfold gSortP at hz
  split at hz
  · rename_i x
    split at hz
    · rename_i ks hks
      cases hz
      obtain ⟨ys, h1, h2⟩ := Option.bind_eq_some_iff.mp hks
      obtain ⟨v, rfl, r⟩ := rx.one
      obtain ⟨a, us, rfl, hq, hr⟩ := r.lst h1
      obtain rfl := pairsP_some h2
      obtain ⟨e1, e2⟩ := reps_keys hr
      refine ⟨a, us, keyOf2 H, rfl, hq, fun x hx => rep_pv2 (e2 x hx), fun ws p hs hst hp => ?_⟩
      have hmem : ∀ x ∈ ws, x ∈ us := fun x hx => hst.perm.mem_iff.mp hx
      have hk : ws.map (keyOf2 H) = psort ks := by
        refine psort_uniq (((hst.perm.map (keyOf2 H)).trans (by rw [e1])).trans (psort_perm ks).symm) ?_ (psort_sorted ks)
        rw [List.pairwise_map]
        refine List.Pairwise.imp ?_ hs
        intro x y h
        rw [pLt_nf]
        have h' : SrtO.lexB (keyOf2 H y) (keyOf2 H x) = false := h
        have h2 := Bool.eq_false_iff.mp h'
        rw [Ne, SrtO.lexB_iff] at h2
        omega
      have hrep : Reps H ((psort ks).map pv2) ws := by
        rw [← hk]
        exact keys_reps fun x hx => e2 x (hmem x hx)
      obtain ⟨g, w1, r1⟩ := new_l (K := K) hp wd hrep
      exact q _ _ g w1 r1
    · cases hz
  · cases hz
end K15
/-! K15Fn: what each def computes (printed by gen_fns.py) -/
set_option autoImplicit false
namespace K15
open PySem PySem.Spec PyProof.Rows L2 K15R
def F_is_integer : Fs :=
  (fRet (fAnd (fCB gIsi (fCons (fVar 0) (fCons (fC (.ty "int")) fNil))) (fAnd (fNot (fCB gIsi (fCons (fVar 0) (fCons (fC (.ty "bool")) fNil)))) (fChain gLe gLe (fVar 1) (fVar 0) (fVar 2)))))
def D_is_integer : Fn := mkFn 3 3 F_is_integer
def F_above : Fs :=
  (fSeq (fAsg 2 (fLst fNil))
  (fSeq (fAsg 1 (fOp gIx (fOp gIx (fVar 0) (fVar 1)) (fC (.p (.i 2)))))
  (fSeq (whLoop (fTest (fOp gGe (fVar 1) (fC (.p (.i 0)))))
    (fSeq (fApp 2 (fVar 1))
    (fAsg 1 (fOp gIx (fOp gIx (fVar 0) (fVar 1)) (fC (.p (.i 2)))))) 100000)
  (fRetV 2))))
def D_above : Fn := mkFn 2 3 F_above
def F_used : Fs :=
  (fSeq (fAsg 2 (fOp gRep (fLst (fCons (fC (.p (.i 0))) fNil)) (fCB gLen (fCons (fVar 0) fNil))))
  (fSeq (fFor (fEnum (fCons (fVar 1) fNil)) (.many [3, 4])
    (fFor (fItM (fOp gCat (fLst (fCons (fVar 3) fNil)) (fCall D_above (fCons (fVar 0) (fCons (fVar 3) fNil))))) (.one 5)
      (fSetIx 2 (fVar 5) (fOp gAdd (fOp gIx (fVar 2) (fVar 5)) (fVar 4)))))
  (fRet (fCB gTupOf (fCons (fVar 2) fNil)))))
def D_used : Fn := mkFn 2 6 F_used
def F_is_within : Fs :=
  (fSeq (fFor (fZip (fCons (fVar 0) (fCons (fCall D_used (fCons (fVar 0) (fCons (fVar 1) fNil))) fNil))) (.many [2, 3])
    (fIf (fTest (fOp gGt (fVar 3) (fOp gIx (fVar 2) (fC (.p (.i 1))))))
      (fRet (fC (.p (.b false))))
      fNext))
  (fRet (fC (.p (.b true)))))
def D_is_within : Fn := mkFn 2 4 F_is_within
def F_parts_most : Fs :=
  (fSeq (fAsg 2 (fOp gRep (fLst (fCons (fC (.p (.i 0))) fNil)) (fCB gLen (fCons (fVar 0) fNil))))
  (fSeq (fFor (fRng3 (fCons (fOp gSub_ (fCB gLen (fCons (fVar 0) fNil)) (fC (.p (.i 1)))) (fCons (fNeg (fC (.p (.i 1)))) (fCons (fNeg (fC (.p (.i 1)))) fNil)))) (.one 3)
    (fSeq (fSetIx 2 (fVar 3) (fCB gMin2 (fCons (fOp gIx (fOp gIx (fVar 0) (fVar 3)) (fC (.p (.i 1)))) (fCons (fOp gIx (fVar 2) (fVar 3)) fNil))))
    (fSeq (fIf (fTest (fOp gIn (fVar 3) (fVar 1)))
      (fSetIx 2 (fVar 3) (fOp gIx (fOp gIx (fVar 0) (fVar 3)) (fC (.p (.i 1)))))
      fNext)
    (fSeq (fAsg 4 (fOp gIx (fOp gIx (fVar 0) (fVar 3)) (fC (.p (.i 2)))))
    (fIf (fTest (fOp gGe (fVar 4) (fC (.p (.i 0)))))
      (fSetIx 2 (fVar 4) (fOp gAdd (fOp gIx (fVar 2) (fVar 4)) (fOp gIx (fVar 2) (fVar 3))))
      fNext)))))
  (fRetV 2)))
def D_parts_most : Fn := mkFn 2 5 F_parts_most
def F_worst : Fs :=
  (fSeq (fAsg 2 (fLc (fItT (fVar 0)) (.one 9) fYes (fOp gIx (fVar 9) (fC (.p (.i 1)))) [9]))
  (fSeq (fAsg 3 (fOp gRep (fLst (fCons (fC (.p (.i 0))) fNil)) (fCB gLen (fCons (fVar 0) fNil))))
  (fSeq (fAsg 4 (fC (.p (.i 0))))
  (fSeq (fFor (fItM (fSortLam 1 (fCB gRange1 (fCons (fCB gLen (fCons (fVar 0) fNil)) fNil)))) (.one 5)
    (fSeq (fAsg 6 (fOp gCat (fLst (fCons (fVar 5) fNil)) (fCall D_above (fCons (fVar 0) (fCons (fVar 5) fNil)))))
    (fSeq (fAsg 7 (fCB gMinL (fCons (fLc (fItL (fVar 6)) (.one 8) fYes (fOp gIx (fVar 2) (fVar 8)) [8]) fNil)))
    (fIf (fTest (fOp gGt (fOp gIx (fVar 1) (fVar 5)) (fC (.p (.i 0)))))
      (fSeq (fSetIx 3 (fVar 5) (fVar 7))
      (fSeq (fAsg 4 (fOp gAdd (fVar 4) (fOp gMul (fOp gIx (fVar 1) (fVar 5)) (fVar 7))))
      (fDown 6 (fFor (fItV 6) (.one 8)
        (fSetIx 2 (fVar 8) (fOp gSub_ (fOp gIx (fVar 2) (fVar 8)) (fVar 7)))))))
      fNext))))
  (fRet (fTup (fCons (fVar 4) (fCons (fCB gTupOf (fCons (fVar 3) fNil)) fNil))))))))
def D_worst : Fn := mkFn 2 10 F_worst
def F_parts_open : Fs :=
  (fSeq (fAsg 2 (fLc (fRng1 (fCons (fCB gLen (fCons (fVar 0) fNil)) fNil)) (.one 3) fYes (fOp gIn (fVar 3) (fVar 1)) [3]))
  (fSeq (fFor (fRng3 (fCons (fOp gSub_ (fCB gLen (fCons (fVar 0) fNil)) (fC (.p (.i 1)))) (fCons (fNeg (fC (.p (.i 1)))) (fCons (fNeg (fC (.p (.i 1)))) fNil)))) (.one 3)
    (fIf (fTAnd (fTest (fOp gIx (fVar 2) (fVar 3))) (fTest (fOp gGe (fOp gIx (fOp gIx (fVar 0) (fVar 3)) (fC (.p (.i 2)))) (fC (.p (.i 0))))))
      (fSetIx 2 (fOp gIx (fOp gIx (fVar 0) (fVar 3)) (fC (.p (.i 2)))) (fC (.p (.b true))))
      fNext))
  (fRetV 2)))
def D_parts_open : Fn := mkFn 2 4 F_parts_open
def F_cut_at : Fs :=
  (fSeq (fAsg 2 (fCall D_parts_most (fCons (fVar 0) (fCons (fVar 1) fNil))))
  (fSeq (fAsg 3 (fCall D_parts_open (fCons (fVar 0) (fCons (fVar 1) fNil))))
  (fSeq (fAsg 4 (fOp gRep (fLst (fCons (fC (.p (.b false))) fNil)) (fCB gLen (fCons (fVar 0) fNil))))
  (fSeq (fAsg 5 (fLst fNil))
  (fSeq (fFor (fEnum (fCons (fVar 0) fNil)) (.many [6, 7])
    (fSeq (fIf (fTOr (fTAnd (fTest (fOp gGe (fOp gIx (fVar 7) (fC (.p (.i 2)))) (fC (.p (.i 0))))) (fTest (fOp gIx (fVar 4) (fOp gIx (fVar 7) (fC (.p (.i 2))))))) (fTNot (fTest (fOp gIx (fVar 3) (fVar 6)))))
      (fSeq (fSetIx 4 (fVar 6) (fC (.p (.b true))))
      fCont)
      fNext)
    (fSeq (fAsg 8 (fCB gSum (fCons (fLc (fEnum (fCons (fVar 0) fNil)) (.many [9, 10]) (fTest (fOp (gEqB false) (fOp gIx (fVar 10) (fC (.p (.i 2)))) (fVar 6))) (fOp gIx (fVar 2) (fVar 9)) [9, 10]) fNil)))
    (fIf (fTOr (fTest (fOp gIn (fVar 6) (fVar 1))) (fTest (fOp gLe (fOp gIx (fVar 7) (fC (.p (.i 1)))) (fVar 8))))
      (fSeq (fApp 5 (fVar 6))
      (fSetIx 4 (fVar 6) (fC (.p (.b true)))))
      fNext))))
  (fRetV 5))))))
def D_cut_at : Fn := mkFn 2 11 F_cut_at
def F_prices_of : Fs :=
  (fSeq (fAsg 2 (fOp gRep (fLst (fCons (fC (.p (.i 0))) fNil)) (fCB gLen (fCons (fVar 0) fNil))))
  (fSeq (fAsg 3 (fC (.p (.i 0))))
  (fSeq (fFor (fItM (fScSort (fItT (fVar 1)) (.one 7) (fTest (fOp gGt (fVar 7) (fC (.p (.i 0))))) (fVar 7) [7])) (.one 4)
    (fSeq (fAsg 5 (fLc (fEnum (fCons (fVar 1) fNil)) (.many [6, 7]) (fTest (fOp gGe (fVar 7) (fVar 4))) (fVar 6) [6, 7]))
    (fSeq (fFor (fItM (fCall D_cut_at (fCons (fVar 0) (fCons (fVar 5) fNil)))) (.one 6)
      (fSetIx 2 (fVar 6) (fOp gSub_ (fOp gAdd (fOp gIx (fVar 2) (fVar 6)) (fVar 4)) (fVar 3))))
    (fAsg 3 (fVar 4)))))
  (fRet (fCB gTupOf (fCons (fVar 2) fNil))))))
def D_prices_of : Fn := mkFn 2 8 F_prices_of
def F_covers : Fs :=
  (fSeq (fFor (fEnum (fCons (fVar 1) fNil)) (.many [3, 4])
    (fIf (fTest (fOp gLt (fCB gSum (fCons (fLc (fItL (fOp gCat (fLst (fCons (fVar 3) fNil)) (fCall D_above (fCons (fVar 0) (fCons (fVar 3) fNil))))) (.one 5) fYes (fOp gIx (fVar 2) (fVar 5)) [5]) fNil)) (fVar 4)))
      (fRet (fC (.p (.b false))))
      fNext))
  (fRet (fC (.p (.b true)))))
def D_covers : Fn := mkFn 3 6 F_covers
def F_bound_of : Fs :=
  (fSeq (fIf (fTNot (fTest (fCall D_covers (fCons (fVar 0) (fCons (fVar 1) (fCons (fVar 2) fNil))))))
    (fRet (fNeg (fC (.p (.i 1)))))
    fNext)
  (fRet (fCB gSum (fCons (fLc (fZip (fCons (fVar 0) (fCons (fVar 2) fNil))) (.many [3, 4]) fYes (fOp gMul (fOp gIx (fVar 3) (fC (.p (.i 1)))) (fVar 4)) [3, 4]) fNil))))
def D_bound_of : Fn := mkFn 3 5 F_bound_of
def F_lengths_of : Fs :=
  (fRet (fCB gSum (fCons (fLc (fItT (fOp gIx (fVar 0) (fC (.p (.i 5))))) (.one 1) fYes (fOp gIx (fVar 1) (fC (.p (.i 0)))) [1]) fNil)))
def D_lengths_of : Fn := mkFn 1 2 F_lengths_of
def F_work_of : Fs :=
  (fSeq (fIf (fTest (fOp (gEqB false) (fOp gIx (fVar 0) (fC (.p (.i 0)))) (fC (.p (.s (Str.ofString "job"))))))
    (fRet (fOp gSub_ (fCall D_lengths_of (fCons (fVar 0) fNil)) (fOp gIx (fVar 0) (fC (.p (.i 4))))))
    fNext)
  (fRet (fCall D_lengths_of (fCons (fVar 0) fNil))))
def D_work_of : Fn := mkFn 1 1 F_work_of
def F_divisor : Fs :=
  (fSeq (whLoop (fTest (fOp gGt (fVar 1) (fC (.p (.i 0)))))
    (fPar 0 1 (fCons (fVar 1) (fCons (fOp gSub_ (fVar 0) (fOp gMul (fOp gDiv (fVar 0) (fVar 1)) (fVar 1))) fNil))) 100000)
  (fRetV 0))
def D_divisor : Fn := mkFn 2 2 F_divisor
def F_rate_of : Fs :=
  (fSeq (fAsg 1 (fC (.p (.i 0))))
  (fSeq (fAsg 2 (fC (.p (.i 1))))
  (fSeq (fFor (fItT (fOp gIx (fVar 0) (fC (.p (.i 3))))) (.one 3)
    (fSeq (fAsg 1 (fOp gAdd (fOp gMul (fVar 1) (fOp gIx (fVar 3) (fC (.p (.i 3))))) (fOp gMul (fCall D_work_of (fCons (fVar 3) fNil)) (fVar 2))))
    (fAsg 2 (fOp gMul (fVar 2) (fOp gIx (fVar 3) (fC (.p (.i 3))))))))
  (fSeq (fAsg 4 (fCall D_divisor (fCons (fVar 1) (fCons (fVar 2) fNil))))
  (fRet (fTup (fCons (fOp gDiv (fVar 1) (fVar 4)) (fCons (fOp gDiv (fVar 2) (fVar 4)) fNil))))))))
def D_rate_of : Fn := mkFn 1 5 F_rate_of
def F_latest_of : Fs :=
  (fRet (fCB gMaxL (fCons (fOp gCat (fLst (fCons (fC (.p (.i 0))) fNil)) (fLc (fItT (fOp gCatA (fOp gIx (fVar 0) (fC (.p (.i 2)))) (fOp gIx (fVar 0) (fC (.p (.i 3)))))) (.one 1) fYes (fOp gIx (fVar 1) (fC (.p (.i 2)))) [1])) fNil)))
def D_latest_of : Fn := mkFn 1 2 F_latest_of
def F_longestL : Fs :=
  (fSeq (fAsg 2 (fOp gRep (fLst (fCons (fC (.p (.i 0))) fNil)) (fCB gLen (fCons (fVar 1) fNil))))
  (fSeq (fDown 0 (fFor (fItV 0) (.one 3)
    (fFor (fItT (fOp gIx (fVar 3) (fC (.p (.i 5))))) (.many [4, 5])
      (fSetIx 2 (fVar 5) (fCB gMax2 (fCons (fOp gIx (fVar 2) (fVar 5)) (fCons (fVar 4) fNil)))))))
  (fRet (fCB gTupOf (fCons (fVar 2) fNil)))))
def F_longestT : Fs :=
  (fSeq (fAsg 2 (fOp gRep (fLst (fCons (fC (.p (.i 0))) fNil)) (fCB gLen (fCons (fVar 1) fNil))))
  (fSeq (fFor (fItT (fVar 0)) (.one 3)
    (fFor (fItT (fOp gIx (fVar 3) (fC (.p (.i 5))))) (.many [4, 5])
      (fSetIx 2 (fVar 5) (fCB gMax2 (fCons (fOp gIx (fVar 2) (fVar 5)) (fCons (fVar 4) fNil))))))
  (fRet (fCB gTupOf (fCons (fVar 2) fNil)))))
def D_longest : Fn := fun as bs => match as with
  | [.p _, _] => mkFn 2 6 F_longestT as bs
  | _ => mkFn 2 6 F_longestL as bs
def F_horizon_of : Fs :=
  (fSeq (fAsgT (.many [1, 2]) (fCall D_rate_of (fCons (fVar 0) fNil)))
  (fSeq (fAsg 3 (fOp gCatA (fOp gIx (fVar 0) (fC (.p (.i 2)))) (fOp gIx (fVar 0) (fC (.p (.i 3))))))
  (fSeq (fAsg 4 (fOp gAdd (fCB gSum (fCons (fLc (fItT (fVar 3)) (.one 5) fYes (fCall D_work_of (fCons (fVar 5) fNil)) [5]) fNil)) (fOp gIx (fCall D_worst (fCons (fOp gIx (fVar 0) (fC (.p (.i 1)))) (fCons (fCall D_longest (fCons (fVar 3) (fCons (fOp gIx (fVar 0) (fC (.p (.i 1)))) fNil))) fNil))) (fC (.p (.i 0))))))
  (fRet (fNeg (fOp gDiv (fOp gMul (fNeg (fVar 4)) (fVar 2)) (fOp gSub_ (fVar 2) (fVar 1))))))))
def D_horizon_of : Fn := mkFn 1 6 F_horizon_of
def F_bodies : Fs :=
  (fSeq (fAsg 3 (fCB gMax2 (fCons (fVar 1) (fCons (fOp gIx (fVar 0) (fC (.p (.i 2)))) fNil))))
  (fSeq (fIf (fTest (fOp gLt (fOp gSub_ (fVar 2) (fVar 3)) (fOp gIx (fVar 0) (fC (.p (.i 4))))))
    (fRet (fC (.p (.i 0))))
    fNext)
  (fRet (fOp gAdd (fC (.p (.i 1))) (fOp gDiv (fOp gSub_ (fOp gSub_ (fVar 2) (fVar 3)) (fOp gIx (fVar 0) (fC (.p (.i 4))))) (fOp gIx (fVar 0) (fC (.p (.i 3)))))))))
def D_bodies : Fn := mkFn 3 4 F_bodies
def F_jobs_in : Fs :=
  (fRet (fLc (fItT (fOp gIx (fVar 0) (fC (.p (.i 2))))) (.one 3) (fTAnd (fTest (fOp gGe (fOp gIx (fVar 3) (fC (.p (.i 2)))) (fVar 1))) (fTest (fOp gLe (fOp gIx (fVar 3) (fC (.p (.i 3)))) (fVar 2)))) (fVar 3) [3]))
def D_jobs_in : Fn := mkFn 3 4 F_jobs_in
def F_demand : Fs :=
  (fSeq (fAsg 3 (fCB gSum (fCons (fLc (fItL (fCall D_jobs_in (fCons (fVar 0) (fCons (fVar 1) (fCons (fVar 2) fNil))))) (.one 4) fYes (fCall D_work_of (fCons (fVar 4) fNil)) [4]) fNil)))
  (fRet (fOp gAdd (fVar 3) (fCB gSum (fCons (fLc (fItT (fOp gIx (fVar 0) (fC (.p (.i 3))))) (.one 5) fYes (fOp gMul (fCall D_bodies (fCons (fVar 5) (fCons (fVar 1) (fCons (fVar 2) fNil)))) (fCall D_work_of (fCons (fVar 5) fNil))) [5]) fNil)))))
def D_demand : Fn := mkFn 3 6 F_demand
def F_penalties : Fs :=
  (fSeq (fAsg 3 (fLc (fItT (fOp gIx (fVar 0) (fC (.p (.i 3))))) (.one 4) (fTest (fOp gGt (fCall D_bodies (fCons (fVar 4) (fCons (fVar 1) (fCons (fVar 2) fNil)))) (fC (.p (.i 0))))) (fVar 4) [4]))
  (fRet (fCall D_longest (fCons (fOp gCat (fCall D_jobs_in (fCons (fVar 0) (fCons (fVar 1) (fCons (fVar 2) fNil)))) (fVar 3)) (fCons (fOp gIx (fVar 0) (fC (.p (.i 1)))) fNil)))))
def D_penalties : Fn := mkFn 3 5 F_penalties
def F_analysis : Fs :=
  (fSeq (fAsg 3 (fCall D_demand (fCons (fVar 0) (fCons (fVar 1) (fCons (fVar 2) fNil)))))
  (fSeq (fAsg 4 (fCall D_penalties (fCons (fVar 0) (fCons (fVar 1) (fCons (fVar 2) fNil)))))
  (fSeq (fAsgT (.many [5, 6]) (fCall D_worst (fCons (fOp gIx (fVar 0) (fC (.p (.i 1)))) (fCons (fVar 4) fNil))))
  (fRet (fTup (fCons (fVar 3) (fCons (fVar 5) (fCons (fOp gSub_ (fOp gSub_ (fOp gSub_ (fVar 2) (fVar 1)) (fVar 3)) (fVar 5)) (fCons (fVar 6) (fCons (fCall D_prices_of (fCons (fOp gIx (fVar 0) (fC (.p (.i 1)))) (fCons (fVar 4) fNil))) fNil))))))))))
def D_analysis : Fn := mkFn 3 7 F_analysis
def F_ends_of : Fs :=
  (fSeq (fAsg 3 (fLc (fItT (fOp gIx (fVar 0) (fC (.p (.i 2))))) (.one 6) (fTAnd (fTest (fOp gGe (fOp gIx (fVar 6) (fC (.p (.i 2)))) (fVar 1))) (fTest (fOp gLe (fOp gIx (fVar 6) (fC (.p (.i 3)))) (fVar 2)))) (fOp gIx (fVar 6) (fC (.p (.i 3)))) [6]))
  (fSeq (fFor (fItT (fOp gIx (fVar 0) (fC (.p (.i 3))))) (.one 4)
    (fFor (fRng3 (fCons (fOp gAdd (fCB gMax2 (fCons (fVar 1) (fCons (fOp gIx (fVar 4) (fC (.p (.i 2)))) fNil))) (fOp gIx (fVar 4) (fC (.p (.i 4))))) (fCons (fOp gAdd (fVar 2) (fC (.p (.i 1)))) (fCons (fOp gIx (fVar 4) (fC (.p (.i 3)))) fNil)))) (.one 5)
      (fApp 3 (fVar 5))))
  (fRet (fSortSet (fVar 3)))))
def D_ends_of : Fn := mkFn 3 7 F_ends_of
def F_is_row : Fs :=
  (fSeq (fIf (fTOr (fTNot (fTest (fCB gIsi (fCons (fVar 0) (fCons (fC (.ty "tuple")) fNil))))) (fTest (fOp (gEqB true) (fCB gLen (fCons (fVar 0) fNil)) (fCB gLen (fCons (fVar 1) fNil)))))
    (fRet (fC (.p (.b false))))
    fNext)
  (fSeq (fFor (fItT (fVar 0)) (.one 2)
    (fIf (fTOr (fTNot (fTest (fCB gIsi (fCons (fVar 2) (fCons (fC (.ty "int")) fNil))))) (fTOr (fTest (fCB gIsi (fCons (fVar 2) (fCons (fC (.ty "bool")) fNil)))) (fTest (fOp gLt (fVar 2) (fC (.p (.i 0)))))))
      (fRet (fC (.p (.b false))))
      fNext))
  (fRet (fC (.p (.b true))))))
def D_is_row : Fn := mkFn 2 3 F_is_row
def F_is_held : Fs :=
  (fSeq (fAsg 4 (fCall D_demand (fCons (fVar 0) (fCons (fVar 1) (fCons (fVar 2) fNil)))))
  (fSeq (fAsg 5 (fCall D_penalties (fCons (fVar 0) (fCons (fVar 1) (fCons (fVar 2) fNil)))))
  (fSeq (fFor (fItT (fVar 3)) (.one 6)
    (fSeq (fAsg 7 (fCall D_bound_of (fCons (fOp gIx (fVar 0) (fC (.p (.i 1)))) (fCons (fVar 5) (fCons (fVar 6) fNil)))))
    (fIf (fTAnd (fTest (fOp gGe (fVar 7) (fC (.p (.i 0))))) (fTest (fOp gLe (fOp gAdd (fVar 4) (fVar 7)) (fOp gSub_ (fVar 2) (fVar 1)))))
      (fRet (fC (.p (.b true))))
      fNext)))
  (fRet (fC (.p (.b false)))))))
def D_is_held : Fn := mkFn 4 8 F_is_held
def F_judge_sure : Fs :=
  (fSeq (fIf (fTOr (fTNot (fTest (fCB gIsi (fCons (fVar 1) (fCons (fC (.ty "tuple")) fNil))))) (fTNot (fTest (fCB gAll (fCons (fLc (fItT (fVar 1)) (.one 5) fYes (fCall D_is_row (fCons (fVar 5) (fCons (fOp gIx (fVar 0) (fC (.p (.i 1)))) fNil))) [5]) fNil)))))
    (fRet (fC (.p (.b false))))
    fNext)
  (fSeq (fAsg 2 (fCall D_horizon_of (fCons (fVar 0) fNil)))
  (fSeq (fFor (fRng1 (fCons (fOp gAdd (fCall D_latest_of (fCons (fVar 0) fNil)) (fC (.p (.i 1)))) fNil)) (.one 3)
    (fFor (fItM (fCall D_ends_of (fCons (fVar 0) (fCons (fVar 3) (fCons (fOp gAdd (fVar 3) (fVar 2)) fNil))))) (.one 4)
      (fIf (fTNot (fTest (fCall D_is_held (fCons (fVar 0) (fCons (fVar 3) (fCons (fVar 4) (fCons (fVar 1) fNil)))))))
        (fRet (fC (.p (.b false))))
        fNext)))
  (fRet (fC (.p (.b true)))))))
def D_judge_sure : Fn := mkFn 2 6 F_judge_sure
def F_judge_unsure : Fs :=
  (fSeq (fIf (fTOr (fTNot (fTest (fCall D_is_integer (fCons (fVar 2) (fCons (fC (.p (.i 0))) (fCons (fC (.p (.i 1000000000))) fNil)))))) (fTNot (fTest (fCall D_is_integer (fCons (fVar 1) (fCons (fC (.p (.i 0))) (fCons (fVar 2) fNil)))))))
    (fRet (fC (.p (.b false))))
    fNext)
  (fSeq (fIf (fTOr (fTNot (fTest (fCall D_is_row (fCons (fVar 3) (fCons (fOp gIx (fVar 0) (fC (.p (.i 1)))) fNil))))) (fTNot (fTest (fCall D_is_within (fCons (fOp gIx (fVar 0) (fC (.p (.i 1)))) (fCons (fVar 3) fNil))))))
    (fRet (fC (.p (.b false))))
    fNext)
  (fSeq (fAsg 4 (fCB gSum (fCons (fLc (fZip (fCons (fCall D_penalties (fCons (fVar 0) (fCons (fVar 1) (fCons (fVar 2) fNil)))) (fCons (fVar 3) fNil))) (.many [5, 6]) fYes (fOp gMul (fVar 5) (fVar 6)) [5, 6]) fNil)))
  (fRet (fOp gGt (fOp gAdd (fCall D_demand (fCons (fVar 0) (fCons (fVar 1) (fCons (fVar 2) fNil)))) (fVar 4)) (fOp gSub_ (fVar 2) (fVar 1)))))))
def D_judge_unsure : Fn := mkFn 4 7 F_judge_unsure
def F_judge : Fs :=
  (fSeq (fIf (fTOr (fTNot (fTest (fCB gIsi (fCons (fVar 1) (fCons (fC (.ty "tuple")) fNil))))) (fTest (fOp (gEqB false) (fCB gLen (fCons (fVar 1) fNil)) (fC (.p (.i 0))))))
    (fRet (fC (.p (.b false))))
    fNext)
  (fSeq (fIf (fTAnd (fTest (fOp (gEqB false) (fOp gIx (fVar 1) (fC (.p (.i 0)))) (fC (.p (.s (Str.ofString "sure")))))) (fTest (fOp (gEqB false) (fCB gLen (fCons (fVar 1) fNil)) (fC (.p (.i 2))))))
    (fRet (fCall D_judge_sure (fCons (fVar 0) (fCons (fOp gIx (fVar 1) (fC (.p (.i 1)))) fNil))))
    fNext)
  (fSeq (fIf (fTAnd (fTest (fOp (gEqB false) (fOp gIx (fVar 1) (fC (.p (.i 0)))) (fC (.p (.s (Str.ofString "unsure")))))) (fTest (fOp (gEqB false) (fCB gLen (fCons (fVar 1) fNil)) (fC (.p (.i 4))))))
    (fRet (fCall D_judge_unsure (fCons (fVar 0) (fCons (fOp gIx (fVar 1) (fC (.p (.i 1)))) (fCons (fOp gIx (fVar 1) (fC (.p (.i 2)))) (fCons (fOp gIx (fVar 1) (fC (.p (.i 3)))) fNil))))))
    fNext)
  (fRet (fC (.p (.b false)))))))
def D_judge : Fn := mkFn 2 2 F_judge
def F_looks : Fs :=
  (fSeq (fAsg 1 (fCall D_horizon_of (fCons (fVar 0) fNil)))
  (fSeq (fAsg 2 (fLst fNil))
  (fSeq (fFor (fRng1 (fCons (fOp gAdd (fCall D_latest_of (fCons (fVar 0) fNil)) (fC (.p (.i 1)))) fNil)) (.one 3)
    (fFor (fItM (fCall D_ends_of (fCons (fVar 0) (fCons (fVar 3) (fCons (fOp gAdd (fVar 3) (fVar 1)) fNil))))) (.one 4)
      (fApp 2 (fTup (fCons (fVar 3) (fCons (fVar 4) (fCons (fCall D_analysis (fCons (fVar 0) (fCons (fVar 3) (fCons (fVar 4) fNil)))) fNil)))))))
  (fRetV 2))))
def D_looks : Fn := mkFn 1 5 F_looks
def F_is_crowded : Fs :=
  (fSeq (fAsg 3 (fCall D_demand (fCons (fVar 0) (fCons (fVar 1) (fCons (fVar 2) fNil)))))
  (fRet (fOp gGt (fOp gAdd (fVar 3) (fOp gIx (fCall D_worst (fCons (fOp gIx (fVar 0) (fC (.p (.i 1)))) (fCons (fCall D_penalties (fCons (fVar 0) (fCons (fVar 1) (fCons (fVar 2) fNil)))) fNil))) (fC (.p (.i 0))))) (fOp gSub_ (fVar 2) (fVar 1)))))
def D_is_crowded : Fn := mkFn 3 4 F_is_crowded
def F_is_sure : Fs :=
  (fSeq (fAsg 1 (fCall D_horizon_of (fCons (fVar 0) fNil)))
  (fSeq (fFor (fRng1 (fCons (fOp gAdd (fCall D_latest_of (fCons (fVar 0) fNil)) (fC (.p (.i 1)))) fNil)) (.one 2)
    (fFor (fItM (fCall D_ends_of (fCons (fVar 0) (fCons (fVar 2) (fCons (fOp gAdd (fVar 2) (fVar 1)) fNil))))) (.one 3)
      (fIf (fTest (fCall D_is_crowded (fCons (fVar 0) (fCons (fVar 2) (fCons (fVar 3) fNil)))))
        (fRet (fC (.p (.b false))))
        fNext)))
  (fRet (fC (.p (.b true))))))
def D_is_sure : Fn := mkFn 1 4 F_is_sure
def F_paper_of : Fs :=
  (fSeq (fAsg 1 (fLst fNil))
  (fSeq (fFor (fItM (fCall D_looks (fCons (fVar 0) fNil))) (.many [2, 3, 4])
    (fSeq (fIf (fTest (fOp gLt (fOp gIx (fVar 4) (fC (.p (.i 2)))) (fC (.p (.i 0)))))
      (fRet (fTup (fCons (fC (.p (.s (Str.ofString "unsure")))) (fCons (fVar 2) (fCons (fVar 3) (fCons (fOp gIx (fVar 4) (fC (.p (.i 3)))) fNil))))))
      fNext)
    (fIf (fTest (fOp gNotIn (fOp gIx (fVar 4) (fC (.p (.i 4)))) (fVar 1)))
      (fApp 1 (fOp gIx (fVar 4) (fC (.p (.i 4)))))
      fNext)))
  (fRet (fTup (fCons (fC (.p (.s (Str.ofString "sure")))) (fCons (fCB gTupOf (fCons (fVar 1) fNil)) fNil))))))
def D_paper_of : Fn := mkFn 1 5 F_paper_of
def F_law_cell : Fs :=
  (fSeq (fIf (fTest (fOp gLt (fVar 1) (fCB gLen (fCons (fVar 0) fNil))))
    (fRet (fOp gIx (fVar 0) (fVar 1)))
    fNext)
  (fRet (fC (.p (.i 0)))))
def D_law_cell : Fn := mkFn 2 2 F_law_cell
def F_law_digits : Fs :=
  (fSeq (fAsg 3 (fLst fNil))
  (fSeq (fFor (fRng2 (fCons (fVar 1) (fCons (fVar 2) fNil))) (.one 4)
    (fSeq (fAsg 5 (fCall D_law_cell (fCons (fVar 0) (fCons (fVar 4) fNil))))
    (fSeq (fIf (fTest (fOp gLt (fVar 5) (fC (.p (.i 0)))))
      (fAsg 5 (fOp gSub_ (fC (.p (.i 1))) (fOp gMul (fC (.p (.i 2))) (fVar 5))))
      fNext)
    (fIf (fTest (fOp gGe (fVar 5) (fOp gPow (fC (.p (.i 10))) (fC (.p (.i 18))))))
      (fFor (fRng1 (fCons (fC (.p (.i 60))) fNil)) (.one 6)
        (fIf (fTest (fOp gGt (fVar 5) (fC (.p (.i 0)))))
          (fSeq (fApp 3 (fOp gMod (fCB gInt1 (fCons (fVar 5) fNil)) (fC (.p (.i 1000)))))
          (fAsg 5 (fOp gDiv (fVar 5) (fC (.p (.i 1000))))))
          fNext))
      (fSeq (fAsg 7 (fOp gMod (fCB gInt1 (fCons (fOp gAdd (fOp gAdd (fOp gMul (fVar 5) (fC (.p (.i 48271)))) (fOp gMul (fVar 4) (fC (.p (.i 69621))))) (fC (.p (.i 11)))) fNil)) (fC (.p (.i 2147483647)))))
      (fFor (fRng1 (fCons (fC (.p (.i 12))) fNil)) (.one 6)
        (fSeq (fAsg 7 (fOp gMod (fCB gInt1 (fCons (fOp gAdd (fOp gAdd (fOp gMul (fVar 7) (fC (.p (.i 16807)))) (fOp gMul (fC (.p (.i 7))) (fVar 6))) (fC (.p (.i 1)))) fNil)) (fC (.p (.i 2147483647)))))
        (fApp 3 (fOp gMod (fCB gInt1 (fCons (fOp gDiv (fVar 7) (fC (.p (.i 997)))) fNil)) (fC (.p (.i 1000))))))))))))
  (fRetV 3)))
def D_law_digits : Fn := mkFn 3 8 F_law_digits
def F_law_draw : Fs :=
  (fSeq (fAsg 2 (fBoxPos 0))
  (fSeq (fBoxSet 0 (fOp gAdd (fVar 2) (fC (.p (.i 1)))))
  (fSeq (fIf (fTest (fOp gLt (fVar 2) (fCB gLen (fCons (fBoxL 0) fNil))))
    (fRet (fOp gMod (fCB gInt1 (fCons (fOp gIx (fBoxL 0) (fVar 2)) fNil)) (fVar 1)))
    fNext)
  (fRet (fC (.p (.i 0)))))))
def D_law_draw : Fn := mkFn 2 3 F_law_draw
def F_law_pick : Fs :=
  (fRet (fOp gIx (fVar 1) (fOp gMod (fCB gInt1 (fCons (fCall D_law_draw (fCons (fVar 0) (fCons (fC (.p (.i 900))) fNil))) fNil)) (fCB gLen (fCons (fVar 1) fNil)))))
def D_law_pick : Fn := mkFn 2 2 F_law_pick
def F_law_same : Fs :=
  (fRet (fOp (gEqB false) (fCB gRepr (fCons (fVar 0) fNil)) (fCB gRepr (fCons (fVar 1) fNil))))
def D_law_same : Fn := mkFn 2 2 F_law_same
def F_law_path : Fs :=
  (fSeq (fAsg 2 (fLst fNil))
  (fSeq (fFor (fRng1 (fCons (fCB gLen (fCons (fVar 0) fNil)) fNil)) (.one 3)
    (fIf (fTest (fOp gGe (fVar 1) (fC (.p (.i 0)))))
      (fSeq (fApp 2 (fVar 1))
      (fAsg 1 (fOp gIx (fOp gIx (fVar 0) (fVar 1)) (fC (.p (.i 2))))))
      fNext))
  (fRetV 2)))
def D_law_path : Fn := mkFn 2 4 F_law_path
def F_law_segments : Fs :=
  (fRet (fCB gTupOf (fCons (fLc (fRng1 (fCons (fOp gAdd (fC (.p (.i 1))) (fCall D_law_draw (fCons (fVar 0) (fCons (fC (.p (.i 3))) fNil)))) fNil)) (.one 3) fYes (fTup (fCons (fOp gAdd (fC (.p (.i 1))) (fCall D_law_draw (fCons (fVar 0) (fCons (fVar 2) fNil)))) (fCons (fCall D_law_draw (fCons (fVar 0) (fCons (fCB gLen (fCons (fVar 1) fNil)) fNil))) fNil))) [3]) fNil)))
def D_law_segments : Fn := mkFn 3 4 F_law_segments
def F_law_lengths : Fs :=
  (fRet (fCB gSum (fCons (fLc (fItT (fOp gIx (fVar 0) (fC (.p (.i 5))))) (.one 1) fYes (fOp gIx (fVar 1) (fC (.p (.i 0)))) [1]) fNil)))
def D_law_lengths : Fn := mkFn 1 2 F_law_lengths
def F_law_work : Fs :=
  (fRet (fOp gSub_ (fCall D_law_lengths (fCons (fVar 0) fNil)) (fOp gMul (fOp gIx (fVar 0) (fC (.p (.i 4)))) (fCB gInt1 (fCons (fOp (gEqB false) (fOp gIx (fVar 0) (fC (.p (.i 0)))) (fC (.p (.s (Str.ofString "job"))))) fNil)))))
def D_law_work : Fn := mkFn 1 1 F_law_work
def F_law_bodies : Fs :=
  (fSeq (fAsg 3 (fCB gMax2 (fCons (fVar 1) (fCons (fOp gIx (fVar 0) (fC (.p (.i 2)))) fNil))))
  (fSeq (fIf (fTest (fOp gLt (fOp gSub_ (fVar 2) (fVar 3)) (fOp gIx (fVar 0) (fC (.p (.i 4))))))
    (fRet (fC (.p (.i 0))))
    fNext)
  (fRet (fOp gAdd (fC (.p (.i 1))) (fOp gDiv (fOp gSub_ (fOp gSub_ (fVar 2) (fVar 3)) (fOp gIx (fVar 0) (fC (.p (.i 4))))) (fOp gIx (fVar 0) (fC (.p (.i 3)))))))))
def D_law_bodies : Fn := mkFn 3 4 F_law_bodies
def F_law_in : Fs :=
  (fSeq (fAsg 3 (fLc (fItT (fOp gIx (fVar 0) (fC (.p (.i 2))))) (.one 4) (fTAnd (fTest (fOp gGe (fOp gIx (fVar 4) (fC (.p (.i 2)))) (fVar 1))) (fTest (fOp gLe (fOp gIx (fVar 4) (fC (.p (.i 3)))) (fVar 2)))) (fTup (fCons (fVar 4) (fCons (fC (.p (.i 1))) fNil))) [4]))
  (fRet (fOp gCat (fVar 3) (fLc (fItT (fOp gIx (fVar 0) (fC (.p (.i 3))))) (.one 5) (fTest (fOp gGt (fCall D_law_bodies (fCons (fVar 5) (fCons (fVar 1) (fCons (fVar 2) fNil)))) (fC (.p (.i 0))))) (fTup (fCons (fVar 5) (fCons (fCall D_law_bodies (fCons (fVar 5) (fCons (fVar 1) (fCons (fVar 2) fNil)))) fNil))) [5]))))
def D_law_in : Fn := mkFn 3 6 F_law_in
def F_law_penalties : Fs :=
  (fSeq (fAsg 3 (fOp gRep (fLst (fCons (fC (.p (.i 0))) fNil)) (fCB gLen (fCons (fOp gIx (fVar 0) (fC (.p (.i 1)))) fNil))))
  (fSeq (fFor (fItM (fCall D_law_in (fCons (fVar 0) (fCons (fVar 1) (fCons (fVar 2) fNil))))) (.one 4)
    (fFor (fItT (fOp gIx (fOp gIx (fVar 4) (fC (.p (.i 0)))) (fC (.p (.i 5))))) (.one 5)
      (fSetIx 3 (fOp gIx (fVar 5) (fC (.p (.i 1)))) (fCB gMax2 (fCons (fOp gIx (fVar 3) (fOp gIx (fVar 5) (fC (.p (.i 1))))) (fCons (fOp gIx (fVar 5) (fC (.p (.i 0)))) fNil))))))
  (fRet (fCB gTupOf (fCons (fVar 3) fNil)))))
def D_law_penalties : Fn := mkFn 3 6 F_law_penalties
def F_law_demand : Fs :=
  (fRet (fCB gSum (fCons (fLc (fItL (fCall D_law_in (fCons (fVar 0) (fCons (fVar 1) (fCons (fVar 2) fNil))))) (.one 3) fYes (fOp gMul (fOp gIx (fVar 3) (fC (.p (.i 1)))) (fCall D_law_work (fCons (fOp gIx (fVar 3) (fC (.p (.i 0)))) fNil))) [3]) fNil)))
def D_law_demand : Fn := mkFn 3 4 F_law_demand
def F_law_recovery : Fs :=
  (fSeq (fAsg 2 (fLc (fItT (fVar 0)) (.one 8) fYes (fOp gIx (fVar 8) (fC (.p (.i 1)))) [8]))
  (fSeq (fAsg 3 (fC (.p (.i 0))))
  (fSeq (fFor (fItM (fCB gSortP (fCons (fLc (fRng1 (fCons (fCB gLen (fCons (fVar 0) fNil)) fNil)) (.one 5) fYes (fTup (fCons (fOp gSub_ (fC (.p (.i 0))) (fOp gIx (fVar 1) (fVar 5))) (fCons (fVar 5) fNil))) [5]) fNil))) (.one 4)
    (fSeq (fAsg 6 (fCall D_law_path (fCons (fVar 0) (fCons (fOp gIx (fVar 4) (fC (.p (.i 1)))) fNil))))
    (fSeq (fAsg 7 (fCB gMinL (fCons (fLc (fItL (fVar 6)) (.one 5) fYes (fOp gIx (fVar 2) (fVar 5)) [5]) fNil)))
    (fSeq (fAsg 3 (fOp gSub_ (fVar 3) (fOp gMul (fOp gIx (fVar 4) (fC (.p (.i 0)))) (fVar 7))))
    (fDown 6 (fFor (fItV 6) (.one 5)
      (fSetIx 2 (fVar 5) (fOp gSub_ (fOp gIx (fVar 2) (fVar 5)) (fVar 7)))))))))
  (fRetV 3))))
def D_law_recovery : Fn := mkFn 2 9 F_law_recovery
def F_law_slack : Fs :=
  (fRet (fOp gSub_ (fOp gSub_ (fOp gSub_ (fVar 2) (fVar 1)) (fCall D_law_demand (fCons (fVar 0) (fCons (fVar 1) (fCons (fVar 2) fNil))))) (fCall D_law_recovery (fCons (fOp gIx (fVar 0) (fC (.p (.i 1)))) (fCons (fCall D_law_penalties (fCons (fVar 0) (fCons (fVar 1) (fCons (fVar 2) fNil)))) fNil)))))
def D_law_slack : Fn := mkFn 3 3 F_law_slack
def F_law_little : Fs :=
  (fSeq (fAsg 1 (fTup fNil))
  (fSeq (fFor (fRng1 (fCons (fOp gAdd (fC (.p (.i 1))) (fCall D_law_draw (fCons (fVar 0) (fCons (fC (.p (.i 3))) fNil)))) fNil)) (.one 2)
    (fAsg 1 (fOp gCatA (fVar 1) (fTup (fCons (fTup (fCons (fOp gStr (fC (.p (.s (Str.ofString "b")))) (fOp gIxS (fC (.p (.s (Str.ofString "abc")))) (fVar 2))) (fCons (fCall D_law_draw (fCons (fVar 0) (fCons (fC (.p (.i 4))) fNil))) (fCons (fOp gSub_ (fCall D_law_draw (fCons (fVar 0) (fCons (fOp gAdd (fVar 2) (fC (.p (.i 1)))) fNil))) (fC (.p (.i 1)))) fNil)))) fNil)))))
  (fSeq (fAsg 3 (fTup fNil))
  (fSeq (fFor (fRng1 (fCons (fCall D_law_draw (fCons (fVar 0) (fCons (fC (.p (.i 4))) fNil))) fNil)) (.one 2)
    (fSeq (fAsg 4 (fCall D_law_segments (fCons (fVar 0) (fCons (fVar 1) (fCons (fC (.p (.i 4))) fNil)))))
    (fSeq (fAsg 5 (fCall D_law_draw (fCons (fVar 0) (fCons (fC (.p (.i 8))) fNil))))
    (fSeq (fAsg 6 (fTup (fCons (fC (.p (.s (Str.ofString "job")))) (fCons (fOp gStr (fC (.p (.s (Str.ofString "j")))) (fOp gIxS (fC (.p (.s (Str.ofString "abcd")))) (fVar 2))) (fCons (fVar 5) (fCons (fOp gAdd (fOp gAdd (fVar 5) (fC (.p (.i 2)))) (fCall D_law_draw (fCons (fVar 0) (fCons (fC (.p (.i 34))) fNil)))) (fCons (fC (.p (.i 0))) (fCons (fVar 4) fNil))))))))
    (fSeq (fIf (fTest (fOp (gEqB false) (fCall D_law_draw (fCons (fVar 0) (fCons (fC (.p (.i 4))) fNil))) (fC (.p (.i 0)))))
      (fAsg 6 (fOp gCatA (fSl4 (fVar 6)) (fTup (fCons (fCall D_law_draw (fCons (fVar 0) (fCons (fOp gAdd (fOp gIx (fOp gIx (fVar 4) (fC (.p (.i 0)))) (fC (.p (.i 0)))) (fC (.p (.i 1)))) fNil))) (fCons (fVar 4) fNil)))))
      fNext)
    (fAsg 3 (fOp gCatA (fVar 3) (fTup (fCons (fVar 6) fNil)))))))))
  (fSeq (fAsg 7 (fTup fNil))
  (fSeq (fFor (fRng1 (fCons (fCall D_law_pick (fCons (fVar 0) (fCons (fLst (fCons (fC (.p (.i 0))) (fCons (fC (.p (.i 1))) (fCons (fC (.p (.i 1))) (fCons (fC (.p (.i 2))) fNil))))) fNil))) fNil)) (.one 2)
    (fSeq (fAsg 4 (fCall D_law_segments (fCons (fVar 0) (fCons (fVar 1) (fCons (fC (.p (.i 3))) fNil)))))
    (fSeq (fAsg 8 (fOp gAdd (fOp gAdd (fOp gMul (fCall D_law_lengths (fCons (fTup (fCons (fC (.p (.i 0))) (fCons (fC (.p (.i 0))) (fCons (fC (.p (.i 0))) (fCons (fC (.p (.i 0))) (fCons (fC (.p (.i 0))) (fCons (fVar 4) fNil))))))) fNil)) (fOp gAdd (fC (.p (.i 3))) (fCall D_law_draw (fCons (fVar 0) (fCons (fC (.p (.i 3))) fNil))))) (fC (.p (.i 1)))) (fCall D_law_draw (fCons (fVar 0) (fCons (fC (.p (.i 9))) fNil)))))
    (fAsg 7 (fOp gCatA (fVar 7) (fTup (fCons (fTup (fCons (fC (.p (.s (Str.ofString "task")))) (fCons (fOp gStr (fC (.p (.s (Str.ofString "t")))) (fOp gIxS (fC (.p (.s (Str.ofString "abc")))) (fVar 2))) (fCons (fCall D_law_draw (fCons (fVar 0) (fCons (fC (.p (.i 8))) fNil))) (fCons (fVar 8) (fCons (fOp gAdd (fC (.p (.i 4))) (fCall D_law_draw (fCons (fVar 0) (fCons (fC (.p (.i 30))) fNil)))) (fCons (fVar 4) fNil))))))) fNil)))))))
  (fRet (fTup (fCons (fC (.p (.s (Str.ofString "system")))) (fCons (fVar 1) (fCons (fVar 3) (fCons (fVar 7) fNil))))))))))))
def D_law_little : Fn := mkFn 1 9 F_law_little
def F_law_horizon : Fs :=
  (fSeq (fAsg 1 (fOp gCatA (fOp gIx (fVar 0) (fC (.p (.i 2)))) (fOp gIx (fVar 0) (fC (.p (.i 3))))))
  (fSeq (fAsg 2 (fOp gRep (fLst (fCons (fC (.p (.i 0))) fNil)) (fCB gLen (fCons (fOp gIx (fVar 0) (fC (.p (.i 1)))) fNil))))
  (fSeq (fFor (fItT (fVar 1)) (.one 3)
    (fFor (fItT (fOp gIx (fVar 3) (fC (.p (.i 5))))) (.one 4)
      (fSetIx 2 (fOp gIx (fVar 4) (fC (.p (.i 1)))) (fCB gMax2 (fCons (fOp gIx (fVar 2) (fOp gIx (fVar 4) (fC (.p (.i 1))))) (fCons (fOp gIx (fVar 4) (fC (.p (.i 0)))) fNil))))))
  (fSeq (fAsg 5 (fOp gAdd (fCB gSum (fCons (fLc (fItT (fVar 1)) (.one 3) fYes (fCall D_law_work (fCons (fVar 3) fNil)) [3]) fNil)) (fCall D_law_recovery (fCons (fOp gIx (fVar 0) (fC (.p (.i 1)))) (fCons (fVar 2) fNil)))))
  (fSeq (fAsg 6 (fC (.p (.i 1))))
  (fSeq (fFor (fItT (fOp gIx (fVar 0) (fC (.p (.i 3))))) (.one 7)
    (fAsg 6 (fOp gMul (fVar 6) (fOp gIx (fVar 7) (fC (.p (.i 3)))))))
  (fSeq (fAsg 8 (fOp gSub_ (fVar 6) (fCB gSum (fCons (fLc (fItT (fOp gIx (fVar 0) (fC (.p (.i 3))))) (.one 7) fYes (fOp gMul (fCall D_law_work (fCons (fVar 7) fNil)) (fOp gDiv (fVar 6) (fOp gIx (fVar 7) (fC (.p (.i 3)))))) [7]) fNil))))
  (fRet (fOp gSub_ (fC (.p (.i 0))) (fOp gDiv (fOp gSub_ (fC (.p (.i 0))) (fOp gMul (fVar 5) (fVar 6))) (fVar 8)))))))))))
def D_law_horizon : Fn := mkFn 1 9 F_law_horizon
def F_law_latest : Fs :=
  (fRet (fCB gMaxL (fCons (fOp gCat (fLst (fCons (fC (.p (.i 0))) fNil)) (fLc (fItT (fOp gCatA (fOp gIx (fVar 0) (fC (.p (.i 2)))) (fOp gIx (fVar 0) (fC (.p (.i 3)))))) (.one 1) fYes (fOp gIx (fVar 1) (fC (.p (.i 2)))) [1])) fNil)))
def D_law_latest : Fn := mkFn 1 2 F_law_latest
def F_law_worst : Fs :=
  (fSeq (fAsg 2 (fLc (fItT (fVar 0)) (.one 8) fYes (fOp gIx (fVar 8) (fC (.p (.i 1)))) [8]))
  (fSeq (fAsg 3 (fOp gRep (fLst (fCons (fC (.p (.i 0))) fNil)) (fCB gLen (fCons (fVar 0) fNil))))
  (fSeq (fFor (fItM (fCB gSortP (fCons (fLc (fRng1 (fCons (fCB gLen (fCons (fVar 0) fNil)) fNil)) (.one 5) (fTest (fOp gGt (fOp gIx (fVar 1) (fVar 5)) (fC (.p (.i 0))))) (fTup (fCons (fOp gSub_ (fC (.p (.i 0))) (fOp gIx (fVar 1) (fVar 5))) (fCons (fVar 5) fNil))) [5]) fNil))) (.one 4)
    (fSeq (fAsg 6 (fCall D_law_path (fCons (fVar 0) (fCons (fOp gIx (fVar 4) (fC (.p (.i 1)))) fNil))))
    (fSeq (fAsg 7 (fCB gMinL (fCons (fLc (fItL (fVar 6)) (.one 5) fYes (fOp gIx (fVar 2) (fVar 5)) [5]) fNil)))
    (fSeq (fSetIx 3 (fOp gIx (fVar 4) (fC (.p (.i 1)))) (fVar 7))
    (fDown 6 (fFor (fItV 6) (.one 5)
      (fSetIx 2 (fVar 5) (fOp gSub_ (fOp gIx (fVar 2) (fVar 5)) (fVar 7)))))))))
  (fRet (fCB gTupOf (fCons (fVar 3) fNil))))))
def D_law_worst : Fn := mkFn 2 9 F_law_worst
def F_law_drawn : Fs :=
  (fSeq (fAsg 3 (fCB gLen (fCons (fOp gIx (fVar 1) (fC (.p (.i 1)))) fNil)))
  (fSeq (fAsg 4 (fCall D_law_draw (fCons (fVar 0) (fCons (fC (.p (.i 5))) fNil))))
  (fSeq (fIf (fTest (fOp gLt (fVar 4) (fC (.p (.i 2)))))
    (fSeq (fAsg 5 (fOp gAdd (fC (.p (.i 1))) (fCall D_law_draw (fCons (fVar 0) (fCons (fC (.p (.i 4))) fNil)))))
    (fSeq (fAsg 6 (fCB gTupOf (fCons (fLc (fRng1 (fCons (fVar 3) fNil)) (.one 9) fYes (fVar 5) [9]) fNil)))
    (fRet (fTup (fCons (fC (.p (.s (Str.ofString "sure")))) (fCons (fTup (fCons (fVar 6) (fCons (fCB gTupOf (fCons (fLc (fRng1 (fCons (fVar 3) fNil)) (.one 9) fYes (fCall D_law_draw (fCons (fVar 0) (fCons (fC (.p (.i 7))) fNil))) [9]) fNil)) fNil))) fNil))))))
    fNext)
  (fSeq (fIf (fTAnd (fTest (fOp (gEqB false) (fVar 4) (fC (.p (.i 2))))) (fTest (fOp (gEqB false) (fOp gIx (fVar 2) (fC (.p (.i 0)))) (fC (.p (.s (Str.ofString "sure")))))))
    (fRet (fTup (fCons (fC (.p (.s (Str.ofString "sure")))) (fCons (fCB gTupOf (fCons (fLc (fItT (fOp gIx (fVar 2) (fC (.p (.i 1))))) (.one 10) (fTest (fOp gGt (fCall D_law_draw (fCons (fVar 0) (fCons (fC (.p (.i 5))) fNil))) (fC (.p (.i 0))))) (fVar 10) [10]) fNil)) fNil))))
    fNext)
  (fSeq (fAsg 7 (fCall D_law_draw (fCons (fVar 0) (fCons (fC (.p (.i 9))) fNil))))
  (fSeq (fAsg 8 (fOp gAdd (fVar 7) (fCall D_law_draw (fCons (fVar 0) (fCons (fC (.p (.i 45))) fNil)))))
  (fSeq (fIf (fTAnd (fTest (fOp (gEqB false) (fOp gIx (fVar 2) (fC (.p (.i 0)))) (fC (.p (.s (Str.ofString "unsure")))))) (fTest (fOp (gEqB false) (fVar 4) (fC (.p (.i 3))))))
    (fSeq (fAsg 7 (fCB gMax2 (fCons (fC (.p (.i 0))) (fCons (fOp gSub_ (fOp gIx (fVar 2) (fC (.p (.i 1)))) (fCall D_law_draw (fCons (fVar 0) (fCons (fC (.p (.i 2))) fNil)))) fNil))))
    (fAsg 8 (fCB gMax2 (fCons (fVar 7) (fCons (fOp gSub_ (fOp gAdd (fOp gIx (fVar 2) (fC (.p (.i 2)))) (fCall D_law_draw (fCons (fVar 0) (fCons (fC (.p (.i 3))) fNil)))) (fC (.p (.i 1)))) fNil)))))
    fNext)
  (fRet (fTup (fCons (fC (.p (.s (Str.ofString "unsure")))) (fCons (fVar 7) (fCons (fVar 8) (fCons (fCall D_law_worst (fCons (fOp gIx (fVar 1) (fC (.p (.i 1)))) (fCons (fCall D_law_penalties (fCons (fVar 1) (fCons (fVar 7) (fCons (fVar 8) fNil)))) fNil))) fNil)))))))))))))
def D_law_drawn : Fn := mkFn 3 11 F_law_drawn
def F_law_is_crowded : Fs :=
  (fSeq (fAsg 2 (fCall D_law_horizon (fCons (fVar 0) fNil)))
  (fSeq (fFor (fRng3 (fCons (fC (.p (.i 0))) (fCons (fOp gAdd (fCall D_law_latest (fCons (fVar 0) fNil)) (fC (.p (.i 10)))) (fCons (fOp gAdd (fC (.p (.i 1))) (fCall D_law_draw (fCons (fVar 1) (fCons (fC (.p (.i 4))) fNil)))) fNil)))) (.one 3)
    (fFor (fRng2 (fCons (fVar 3) (fCons (fOp gAdd (fOp gAdd (fVar 3) (fVar 2)) (fC (.p (.i 20)))) fNil))) (.one 4)
      (fIf (fTest (fOp gLt (fCall D_law_slack (fCons (fVar 0) (fCons (fVar 3) (fCons (fVar 4) fNil)))) (fC (.p (.i 0)))))
        (fRet (fC (.p (.b true))))
        fNext)))
  (fRet (fC (.p (.b false))))))
def D_law_is_crowded : Fn := mkFn 2 5 F_law_is_crowded
theorem longest_some {as : List SV} {bs : BS} {r : SV} {bs' : BS} (h : D_longest as bs = some (r, bs')) : as.length = 2 ∧ (F_longestL (stS 6 as) bs = some (.rt r, bs') ∨ F_longestT (stS 6 as) bs = some (.rt r, bs')) := by
  unfold D_longest at h
  split at h
  · have h1 := mkFn_some h
    exact ⟨h1.1, Or.inr h1.2⟩
  · have h1 := mkFn_some h
    exact ⟨h1.1, Or.inl h1.2⟩
end K15
/-! K15Cal: each def computes it (printed by gen_fns.py) -/
set_option autoImplicit false
namespace K15
open PySem PySem.Spec PyProof.Rows L2 K15R
variable {P : Program} {w : World} {K : PySem.W.Frag} {mg : Str → Option Value} {base : Heap} {Pt : Addr}
abbrev N_is_integer : List Str := ["n", "least", "most"]
theorem sc_is_integer : FnScope N_is_integer ["n", "least", "most"] (defScope s_is_integer) := ⟨rfl, rfl, rfl, by decide +kernel, rfl, by decide +kernel, by decide +kernel⟩

theorem cal_is_integer {f : Addr} {fd : FuncData} {Ct : Addr} (B : Bt mg) (Fd : FnP K "is_integer" s_is_integer f fd) (hm : mg "is_integer" = some (.ref f)) : C8.Cal P w K mg base 1 "is_integer" (spOf K Pt D_is_integer) [] := by
  have sc := sc_is_integer
  have b : Binds K fd ["n", "least", "most"] [] := Fd.bindsN fun _ _ _ _ _ _ us hl => match us, hl with | [_, _, _], _ => rfl
  exact cal_of Fd hm b sc F_is_integer fun A outer s H E hr => ⟨_, (pss_one (ps_ret (pe_and (pe_callB call_isi (by rfl) B.isinstance_ bt_isinstance (pa_cons (pv 0) (pa_cons (pe_bltn (v := .ty "int") (by rfl) B.int_ (by decide +kernel) rfl) pa_nil))) (pe_and (pe_not (pe_callB call_isi (by rfl) B.isinstance_ bt_isinstance (pa_cons (pv 0) (pa_cons (pe_bltn (v := .ty "bool") (by rfl) B.bool_ (by decide +kernel) rfl) pa_nil)))) (pe_one (pe_chain op_le op_le (pv 1) (pv 0) (pv 2))))))),
    (ev_ret (ev_and (ev_cb c_isi (ev_cons ev_var (ev_cons ev_ty ev_nil))) (ev_and (ev_not (ev_cb c_isi (ev_cons ev_var (ev_cons ev_ty ev_nil)))) (ev_chain o_le o_le ev_var ev_var ev_var))))⟩
abbrev N_above : List Str := ["budgets", "k", "found"]
theorem sc_above : FnScope N_above ["budgets", "k"] (defScope s_above) := ⟨rfl, rfl, rfl, by decide +kernel, rfl, by decide +kernel, by decide +kernel⟩

theorem cal_above {f : Addr} {fd : FuncData} {Ct : Addr} (B : Bt mg) (Fd : FnP K "above" s_above f fd) (hm : mg "above" = some (.ref f)) : C8.Cal P w K mg base 1 "above" (spOf K Pt D_above) [] := by
  have sc := sc_above
  have b : Binds K fd ["budgets", "k"] [] := Fd.bindsN fun _ _ _ _ _ _ us hl => match us, hl with | [_, _], _ => rfl
  exact cal_of Fd hm b sc F_above fun A outer s H E hr => ⟨_, (pss_cons (ps_set (i := 2) sc.nd rfl (Or.inl rfl) (pe_lst pa_nil))
    (pss_cons (ps_set (i := 1) sc.nd rfl (Or.inl rfl) (pe_ix (ix2 (K := K)) (pe_ix (ix2 (K := K)) (pv 0) (pv 1) (fun _ _ => rfl)) pe_int (fun _ _ => rfl)))
    (pss_cons (ps_while PassesOwn.never (pt_cmpR op_ge (pv 1) pe_int (nomark _))
      (pss_cons (ps_expr (pe_bm PySem.F.plainAttrs_list PySem.F.slot_list_append PySem.F.type_list_append mt_append (pv 2) (pa_cons (pv 1) pa_nil)))
      (pss_one (ps_set (i := 1) sc.nd rfl (Or.inl rfl) (pe_ix (ix2 (K := K)) (pe_ix (ix2 (K := K)) (pv 0) (pv 1) (fun _ _ => rfl)) pe_int (fun _ _ => rfl))))))
    (pss_one (ps_ret (pv 2)))))),
    (ev_seq (ev_asg (ev_lst ev_nil))
    (ev_seq (ev_asg (ev_op o_ix (ev_op o_ix ev_var ev_var) ev_int))
    (ev_seq (ev_while (ev_test (ev_op o_ge ev_var ev_int))
      (ev_seq (ev_app ev_var)
      (ev_asg (ev_op o_ix (ev_op o_ix ev_var ev_var) ev_int))))
    ev_retV)))⟩
abbrev N_used : List Str := ["budgets", "faults", "units", "source", "count", "k"]
theorem sc_used : FnScope N_used ["budgets", "faults"] (defScope s_used) := ⟨rfl, rfl, rfl, by decide +kernel, rfl, by decide +kernel, by decide +kernel⟩

theorem cal_used {f : Addr} {fd : FuncData} {Ct : Addr} (B : Bt mg) (c_above : C8.Cal P w K mg base 1 "above" (spOf K Pt D_above) []) (Fd : FnP K "used" s_used f fd) (hm : mg "used" = some (.ref f)) : C8.Cal P w K mg base 2 "used" (spOf K Pt D_used) [] := by
  have sc := sc_used
  have b : Binds K fd ["budgets", "faults"] [] := Fd.bindsN fun _ _ _ _ _ _ us hl => match us, hl with | [_, _], _ => rfl
  exact cal_of Fd hm b sc F_used fun A outer s H E hr => ⟨_, (pss_cons (ps_set (i := 2) sc.nd rfl (Or.inl rfl) (pe_op op_rep (pe_lst (pa_cons pe_int pa_nil)) (pe_callB (len_seqK (K := K)) (by rfl) B.len_ bt_len (pa_cons (pv 0) pa_nil))))
    (pss_cons (ps_for PassesOwn.never rfl (pi_enumT (by rfl) B.enumerate_ (pa_cons (pv 1) pa_nil)) (pg_tupK (K := K) (n := 2) rfl (pgs_cons (pg_name (i := 3) sc.nd rfl (Or.inl rfl) (Or.inl rfl)) (pgs_cons (pg_name (i := 4) sc.nd rfl (Or.inl rfl) (Or.inl rfl)) pgs_nil)))
      (pss_one (ps_for PassesOwn.never rfl (pi_list (pe_op op_cat (pe_lst (pa_cons (pv 3) pa_nil)) (C8.pe_c c_above hr (by decide) (by rfl) (pa_cons (pv 0) (pa_cons (pv 3) pa_nil))))) (pg_name (i := 5) sc.nd rfl (Or.inl rfl) (Or.inl rfl))
        (pss_one (ps_asg (pe_op op_add (pe_ix (ix2 (K := K)) (pv 2) (pv 5) (fun _ _ => rfl)) (pv 4)) (pg_sub (pv 2) (pv 5) set_list))))))
    (pss_one (ps_ret (pe_callTy call_tuple_of (by rfl) B.tuple_ bt_tuple (pa_cons (pv 2) pa_nil)))))),
    (ev_seq (ev_asg (ev_op o_rep (ev_lst (ev_cons ev_int ev_nil)) (ev_cb c_len (ev_cons ev_var ev_nil))))
    (ev_seq (ev_for (ev_enum (ev_cons ev_var ev_nil)) tg_two
      (ev_for (ev_itM (ev_op o_cat (ev_lst (ev_cons ev_var ev_nil)) (ev_call (ev_cons ev_var (ev_cons ev_var ev_nil))))) tg_one
        (ev_setIx ev_var (ev_op o_add (ev_op o_ix ev_var ev_var) ev_var))))
    (ev_ret (ev_cb c_tup (ev_cons ev_var ev_nil)))))⟩
abbrev N_is_within : List Str := ["budgets", "faults", "budget", "units"]
theorem sc_is_within : FnScope N_is_within ["budgets", "faults"] (defScope s_is_within) := ⟨rfl, rfl, rfl, by decide +kernel, rfl, by decide +kernel, by decide +kernel⟩

theorem cal_is_within {f : Addr} {fd : FuncData} {Ct : Addr} (B : Bt mg) (c_used : C8.Cal P w K mg base 2 "used" (spOf K Pt D_used) []) (Fd : FnP K "is_within" s_is_within f fd) (hm : mg "is_within" = some (.ref f)) : C8.Cal P w K mg base 3 "is_within" (spOf K Pt D_is_within) [] := by
  have sc := sc_is_within
  have b : Binds K fd ["budgets", "faults"] [] := Fd.bindsN fun _ _ _ _ _ _ us hl => match us, hl with | [_, _], _ => rfl
  exact cal_of Fd hm b sc F_is_within fun A outer s H E hr => ⟨_, (pss_cons (ps_for PassesOwn.never rfl (RZ.pi_zipA (by rfl) B.zip_ (pa_cons (pv 0) (pa_cons (C8.pe_c c_used hr (by decide) (by rfl) (pa_cons (pv 0) (pa_cons (pv 1) pa_nil))) pa_nil))) (pg_tupK (K := K) (n := 2) rfl (pgs_cons (pg_name (i := 2) sc.nd rfl (Or.inl rfl) (Or.inl rfl)) (pgs_cons (pg_name (i := 3) sc.nd rfl (Or.inl rfl) (Or.inl rfl)) pgs_nil)))
      (pss_one (ps_if (pt_cmpR op_gt (pv 3) (pe_ix (ix2 (K := K)) (pv 2) pe_int (fun _ _ => rfl)) (nomark _))
        (pss_one (ps_ret pe_bl))
        pss_nil)))
    (pss_one (ps_ret pe_bl))),
    (ev_seq (ev_for (ev_zip (ev_cons ev_var (ev_cons (ev_call (ev_cons ev_var (ev_cons ev_var ev_nil))) ev_nil))) tg_two
      (ev_if (ev_test (ev_op o_gt ev_var (ev_op o_ix ev_var ev_int)))
        (ev_ret ev_bl)
        ev_next))
    (ev_ret ev_bl))⟩
abbrev N_parts_most : List Str := ["budgets", "sources", "most", "k", "parent"]
theorem sc_parts_most : FnScope N_parts_most ["budgets", "sources"] (defScope s_parts_most) := ⟨rfl, rfl, rfl, by decide +kernel, rfl, by decide +kernel, by decide +kernel⟩

theorem cal_parts_most {f : Addr} {fd : FuncData} {Ct : Addr} (B : Bt mg) (Fd : FnP K "parts_most" s_parts_most f fd) (hm : mg "parts_most" = some (.ref f)) : C8.Cal P w K mg base 1 "parts_most" (spOf K Pt D_parts_most) [] := by
  have sc := sc_parts_most
  have b : Binds K fd ["budgets", "sources"] [] := Fd.bindsN fun _ _ _ _ _ _ us hl => match us, hl with | [_, _], _ => rfl
  exact cal_of Fd hm b sc F_parts_most fun A outer s H E hr => ⟨_, (pss_cons (ps_set (i := 2) sc.nd rfl (Or.inl rfl) (pe_op op_rep (pe_lst (pa_cons pe_int pa_nil)) (pe_callB (len_seqK (K := K)) (by rfl) B.len_ bt_len (pa_cons (pv 0) pa_nil))))
    (pss_cons (ps_for PassesOwn.never rfl (pi_range3 (by rfl) B.range_ (pa_cons (pe_op op_sub (pe_callB (len_seqK (K := K)) (by rfl) B.len_ bt_len (pa_cons (pv 0) pa_nil)) pe_int) (pa_cons (pe_un un_neg pe_int) (pa_cons (pe_un un_neg pe_int) pa_nil)))) (pg_name (i := 3) sc.nd rfl (Or.inl rfl) (Or.inl rfl))
      (pss_cons (ps_asg (pe_callB (call_min2 rfl) (by rfl) B.min_ bt_min (pa_cons (pe_ix (ix2 (K := K)) (pe_ix (ix2 (K := K)) (pv 0) (pv 3) (fun _ _ => rfl)) pe_int (fun _ _ => rfl)) (pa_cons (pe_ix (ix2 (K := K)) (pv 2) (pv 3) (fun _ _ => rfl)) pa_nil))) (pg_sub (pv 2) (pv 3) set_list))
      (pss_cons (ps_if (pt_cmpR (in_seqK (K := K)) (pv 3) (pv 1) (by rfl))
        (pss_one (ps_asg (pe_ix (ix2 (K := K)) (pe_ix (ix2 (K := K)) (pv 0) (pv 3) (fun _ _ => rfl)) pe_int (fun _ _ => rfl)) (pg_sub (pv 2) (pv 3) set_list)))
        pss_nil)
      (pss_cons (ps_set (i := 4) sc.nd rfl (Or.inl rfl) (pe_ix (ix2 (K := K)) (pe_ix (ix2 (K := K)) (pv 0) (pv 3) (fun _ _ => rfl)) pe_int (fun _ _ => rfl)))
      (pss_one (ps_if (pt_cmpR op_ge (pv 4) pe_int (nomark _))
        (pss_one (ps_asg (pe_op op_add (pe_ix (ix2 (K := K)) (pv 2) (pv 4) (fun _ _ => rfl)) (pe_ix (ix2 (K := K)) (pv 2) (pv 3) (fun _ _ => rfl))) (pg_sub (pv 2) (pv 4) set_list)))
        pss_nil))))))
    (pss_one (ps_ret (pv 2))))),
    (ev_seq (ev_asg (ev_op o_rep (ev_lst (ev_cons ev_int ev_nil)) (ev_cb c_len (ev_cons ev_var ev_nil))))
    (ev_seq (ev_for (ev_rng3 (ev_cons (ev_op o_sub (ev_cb c_len (ev_cons ev_var ev_nil)) ev_int) (ev_cons (ev_neg ev_int) (ev_cons (ev_neg ev_int) ev_nil)))) tg_one
      (ev_seq (ev_setIx ev_var (ev_cb c_min2 (ev_cons (ev_op o_ix (ev_op o_ix ev_var ev_var) ev_int) (ev_cons (ev_op o_ix ev_var ev_var) ev_nil))))
      (ev_seq (ev_if (ev_test (ev_op o_in ev_var ev_var))
        (ev_setIx ev_var (ev_op o_ix (ev_op o_ix ev_var ev_var) ev_int))
        ev_next)
      (ev_seq (ev_asg (ev_op o_ix (ev_op o_ix ev_var ev_var) ev_int))
      (ev_if (ev_test (ev_op o_ge ev_var ev_int))
        (ev_setIx ev_var (ev_op o_add (ev_op o_ix ev_var ev_var) (ev_op o_ix ev_var ev_var)))
        ev_next)))))
    ev_retV))⟩
abbrev N_worst : List Str := ["budgets", "penalties", "left", "faults", "total", "source", "path", "count", "k", "budget"]
theorem sc_worst : FnScope N_worst ["budgets", "penalties"] (defScope s_worst) := ⟨rfl, rfl, rfl, by decide +kernel, rfl, by decide +kernel, by decide +kernel⟩

theorem cal_worst {f : Addr} {fd : FuncData} {Ct : Addr} (B : Bt mg) (c_above : C8.Cal P w K mg base 1 "above" (spOf K Pt D_above) []) (TB : LamX.TabB base mg Ct Pt) (hcode : fd.code = .ref Ct) (Fd : FnP K "worst" s_worst f fd) (hm : mg "worst" = some (.ref f)) : C8.Cal P w K mg base 2 "worst" (spOf K Pt D_worst) [] := by
  have sc := sc_worst
  have b : Binds K fd ["budgets", "penalties"] [] := Fd.bindsN fun _ _ _ _ _ _ us hl => match us, hl with | [_, _], _ => rfl
  exact cal_of Fd hm b sc F_worst fun A outer s H E hr => ⟨_, (pss_cons (ps_set (i := 2) sc.nd rfl (Or.inr rfl) (pe_lc (own := [("budget", 9)]) rfl sc.nd (pi_tup (pv 0)) (blkOk_by (own := [("budget", 9)]) (N := N_worst) (sc := defScope s_worst) (by decide +kernel)) (fun _ _ _ _ _ => (pg_name (i := 9) sc.nd rfl (Or.inl rfl) (Or.inr rfl))) (fun _ _ _ _ _ => pts_nil) (fun _ _ _ _ _ => (pe_ix (ix2 (K := K)) (pv 9) pe_int (fun _ _ => rfl)))))
    (pss_cons (ps_set (i := 3) sc.nd rfl (Or.inl rfl) (pe_op op_rep (pe_lst (pa_cons pe_int pa_nil)) (pe_callB (len_seqK (K := K)) (by rfl) B.len_ bt_len (pa_cons (pv 0) pa_nil))))
    (pss_cons (ps_set (i := 4) sc.nd rfl (Or.inl rfl) pe_int)
    (pss_cons (ps_for PassesOwn.never rfl (pi_list (pe_sortLam (T := T1 Pt) (c := Ct) (P := Pt) (i := 1) (x := "penalties") (y := "k") rfl (hr.mono (by decide)) (by rfl) B.sorted_ TB hcode (by first | exact List.mem_singleton.mpr rfl | simp [T1]) (by intro p hp _; rw [List.mem_singleton.mp hp]; rfl) rfl rfl rfl (pe_callTy cr_range1 (by rfl) B.range_ bt_range (pa_cons (pe_callB (len_seqK (K := K)) (by rfl) B.len_ bt_len (pa_cons (pv 0) pa_nil)) pa_nil)) rfl rfl rfl rfl rfl (by decide +kernel) (by decide +kernel) (fun _ _ _ _ _ _ => rfl) (by decide) (by decide) (by decide))) (pg_name (i := 5) sc.nd rfl (Or.inl rfl) (Or.inl rfl))
      (pss_cons (ps_set (i := 6) sc.nd rfl (Or.inl rfl) (pe_op op_cat (pe_lst (pa_cons (pv 5) pa_nil)) (C8.pe_c c_above hr (by decide) (by rfl) (pa_cons (pv 0) (pa_cons (pv 5) pa_nil)))))
      (pss_cons (ps_set (i := 7) sc.nd rfl (Or.inl rfl) (pe_callB (cr_min rfl) (by rfl) B.min_ bt_min (pa_cons (pe_lc (own := [("k", 8)]) rfl sc.nd (pi_list (pv 6)) (blkOk_by (own := [("k", 8)]) (N := N_worst) (sc := defScope s_worst) (by decide +kernel)) (fun _ _ _ _ _ => (pg_name (i := 8) sc.nd rfl (Or.inl rfl) (Or.inr rfl))) (fun _ _ _ _ _ => pts_nil) (fun _ _ _ _ _ => (pe_ix (ix2 (K := K)) (pv 2) (pv 8) (fun _ _ => rfl)))) pa_nil)))
      (pss_one (ps_if (pt_cmpR op_gt (pe_ix (ix2 (K := K)) (pv 1) (pv 5) (fun _ _ => rfl)) pe_int (nomark _))
        (pss_cons (ps_asg (pv 7) (pg_sub (pv 3) (pv 5) set_list))
        (pss_cons (ps_set (i := 4) sc.nd rfl (Or.inl rfl) (pe_op op_add (pv 4) (pe_op op_mul (pe_ix (ix2 (K := K)) (pv 1) (pv 5) (fun _ _ => rfl)) (pv 7))))
        (pss_one (ps_for PassesOwn.never rfl (pi_list (pv 6)) (pg_name (i := 8) sc.nd rfl (Or.inl rfl) (Or.inl rfl))
          (pss_one (ps_asg (pe_op op_sub (pe_ix (ix2 (K := K)) (pv 2) (pv 8) (fun _ _ => rfl)) (pv 7)) (pg_sub (pv 2) (pv 8) set_list)))))))
        pss_nil)))))
    (pss_one (ps_ret (pe_tup (pa_cons (pv 4) (pa_cons (pe_callTy call_tuple_of (by rfl) B.tuple_ bt_tuple (pa_cons (pv 3) pa_nil)) pa_nil))))))))),
    (ev_seq (ev_asg (ev_lc (ev_itT ev_var) tg_one ev_yes (ev_op o_ix ev_var ev_int) (by decide)))
    (ev_seq (ev_asg (ev_op o_rep (ev_lst (ev_cons ev_int ev_nil)) (ev_cb c_len (ev_cons ev_var ev_nil))))
    (ev_seq (ev_asg ev_int)
    (ev_seq (ev_for (ev_itM (ev_sortLam (ev_cb c_range1 (ev_cons (ev_cb c_len (ev_cons ev_var ev_nil)) ev_nil)))) tg_one
      (ev_seq (ev_asg (ev_op o_cat (ev_lst (ev_cons ev_var ev_nil)) (ev_call (ev_cons ev_var (ev_cons ev_var ev_nil)))))
      (ev_seq (ev_asg (ev_cb c_min (ev_cons (ev_lc (ev_itL ev_var) tg_one ev_yes (ev_op o_ix ev_var ev_var) (by decide)) ev_nil)))
      (ev_if (ev_test (ev_op o_gt (ev_op o_ix ev_var ev_var) ev_int))
        (ev_seq (ev_setIx ev_var ev_var)
        (ev_seq (ev_asg (ev_op o_add ev_var (ev_op o_mul (ev_op o_ix ev_var ev_var) ev_var)))
        (ev_down (ev_for ev_itV tg_one
          (ev_setIx ev_var (ev_op o_sub (ev_op o_ix ev_var ev_var) ev_var))))))
        ev_next))))
    (ev_ret (ev_tup (ev_cons ev_var (ev_cons (ev_cb c_tup (ev_cons ev_var ev_nil)) ev_nil))))))))⟩
abbrev N_parts_open : List Str := ["budgets", "sources", "found", "k"]
theorem sc_parts_open : FnScope N_parts_open ["budgets", "sources"] (defScope s_parts_open) := ⟨rfl, rfl, rfl, by decide +kernel, rfl, by decide +kernel, by decide +kernel⟩

theorem cal_parts_open {f : Addr} {fd : FuncData} {Ct : Addr} (B : Bt mg) (Fd : FnP K "parts_open" s_parts_open f fd) (hm : mg "parts_open" = some (.ref f)) : C8.Cal P w K mg base 1 "parts_open" (spOf K Pt D_parts_open) [] := by
  have sc := sc_parts_open
  have b : Binds K fd ["budgets", "sources"] [] := Fd.bindsN fun _ _ _ _ _ _ us hl => match us, hl with | [_, _], _ => rfl
  exact cal_of Fd hm b sc F_parts_open fun A outer s H E hr => ⟨_, (pss_cons (ps_setLc (i := 2) (own := [("k", 3)]) rfl sc.nd rfl rfl (sw_true rfl rfl rfl (by decide +kernel)) (pi_range1 (by rfl) B.range_ (pa_cons (pe_callB (len_seqK (K := K)) (by rfl) B.len_ bt_len (pa_cons (pv 0) pa_nil)) pa_nil)) (blkOk_by (own := [("k", 3)]) (N := N_parts_open) (sc := defScope s_parts_open) (by decide +kernel)) (fun _ _ _ _ _ => (pg_name (i := 3) sc.nd rfl (Or.inl rfl) (Or.inr rfl))) (fun _ _ _ _ _ => pts_nil) (fun _ _ _ _ _ => (pe_cmpR (in_seqK (K := K)) (pv 3) (pv 1) (by rfl))))
    (pss_cons (ps_for PassesOwn.never rfl (pi_range3 (by rfl) B.range_ (pa_cons (pe_op op_sub (pe_callB (len_seqK (K := K)) (by rfl) B.len_ bt_len (pa_cons (pv 0) pa_nil)) pe_int) (pa_cons (pe_un un_neg pe_int) (pa_cons (pe_un un_neg pe_int) pa_nil)))) (pg_name (i := 3) sc.nd rfl (Or.inl rfl) (Or.inl rfl))
      (pss_one (ps_if (PW.pt (pw_and (pt_val (pe_ix (ix2 (K := K)) (pv 2) (pv 3) (fun _ _ => rfl))) (pw_and1 (pt_cmpR op_ge (pe_ix (ix2 (K := K)) (pe_ix (ix2 (K := K)) (pv 0) (pv 3) (fun _ _ => rfl)) pe_int (fun _ _ => rfl)) pe_int (nomark _)))))
        (pss_one (ps_asg pe_bl (pg_sub (pv 2) (pe_ix (ix2 (K := K)) (pe_ix (ix2 (K := K)) (pv 0) (pv 3) (fun _ _ => rfl)) pe_int (fun _ _ => rfl)) set_list)))
        pss_nil)))
    (pss_one (ps_ret (pv 2))))),
    (ev_seq (ev_asg (ev_lc (ev_rng1 (ev_cons (ev_cb c_len (ev_cons ev_var ev_nil)) ev_nil)) tg_one ev_yes (ev_op o_in ev_var ev_var) (by decide)))
    (ev_seq (ev_for (ev_rng3 (ev_cons (ev_op o_sub (ev_cb c_len (ev_cons ev_var ev_nil)) ev_int) (ev_cons (ev_neg ev_int) (ev_cons (ev_neg ev_int) ev_nil)))) tg_one
      (ev_if (ev_tand (ev_B (ev_op o_ix ev_var ev_var)) (ev_test (ev_op o_ge (ev_op o_ix (ev_op o_ix ev_var ev_var) ev_int) ev_int)))
        (ev_setIx (ev_op o_ix (ev_op o_ix ev_var ev_var) ev_int) ev_bl)
        ev_next))
    ev_retV))⟩
abbrev N_cut_at : List Str := ["budgets", "sources", "most", "has_open", "passed", "cut", "k", "budget", "below", "j", "other"]
theorem sc_cut_at : FnScope N_cut_at ["budgets", "sources"] (defScope s_cut_at) := ⟨rfl, rfl, rfl, by decide +kernel, rfl, by decide +kernel, by decide +kernel⟩

theorem cal_cut_at {f : Addr} {fd : FuncData} {Ct : Addr} (B : Bt mg) (c_parts_most : C8.Cal P w K mg base 1 "parts_most" (spOf K Pt D_parts_most) []) (c_parts_open : C8.Cal P w K mg base 1 "parts_open" (spOf K Pt D_parts_open) []) (Fd : FnP K "cut_at" s_cut_at f fd) (hm : mg "cut_at" = some (.ref f)) : C8.Cal P w K mg base 2 "cut_at" (spOf K Pt D_cut_at) [] := by
  have sc := sc_cut_at
  have b : Binds K fd ["budgets", "sources"] [] := Fd.bindsN fun _ _ _ _ _ _ us hl => match us, hl with | [_, _], _ => rfl
  exact cal_of Fd hm b sc F_cut_at fun A outer s H E hr => ⟨_, (pss_cons (ps_set (i := 2) sc.nd rfl (Or.inr rfl) (C8.pe_c c_parts_most hr (by decide) (by rfl) (pa_cons (pv 0) (pa_cons (pv 1) pa_nil))))
    (pss_cons (ps_set (i := 3) sc.nd rfl (Or.inl rfl) (C8.pe_c c_parts_open hr (by decide) (by rfl) (pa_cons (pv 0) (pa_cons (pv 1) pa_nil))))
    (pss_cons (ps_set (i := 4) sc.nd rfl (Or.inl rfl) (pe_op op_rep (pe_lst (pa_cons pe_bl pa_nil)) (pe_callB (len_seqK (K := K)) (by rfl) B.len_ bt_len (pa_cons (pv 0) pa_nil))))
    (pss_cons (ps_set (i := 5) sc.nd rfl (Or.inl rfl) (pe_lst pa_nil))
    (pss_cons (ps_for PassesOwn.never rfl (pi_enumT (by rfl) B.enumerate_ (pa_cons (pv 0) pa_nil)) (pg_tupK (K := K) (n := 2) rfl (pgs_cons (pg_name (i := 6) sc.nd rfl (Or.inr rfl) (Or.inl rfl)) (pgs_cons (pg_name (i := 7) sc.nd rfl (Or.inl rfl) (Or.inl rfl)) pgs_nil)))
      (pss_cons (ps_if (PW.pt (pw_or (PW.pt (pw_and (pt_cmpR op_ge (pe_ix (ix2 (K := K)) (pv 7) pe_int (fun _ _ => rfl)) pe_int (nomark _)) (pw_and1 (pt_val (pe_ix (ix2 (K := K)) (pv 4) (pe_ix (ix2 (K := K)) (pv 7) pe_int (fun _ _ => rfl)) (fun _ _ => rfl)))))) (pw_or1 (pt_not (pt_val (pe_ix (ix2 (K := K)) (pv 3) (pv 6) (fun _ _ => rfl)))))))
        (pss_cons (ps_asg pe_bl (pg_sub (pv 4) (pv 6) set_list))
        (pss_one ps_continue))
        pss_nil)
      (pss_cons (ps_set (i := 8) sc.nd rfl (Or.inl rfl) (pe_callB (cr_sum rfl) (by rfl) B.sum_ bt_sum (pa_cons (pe_lc (own := [("j", 9), ("other", 10)]) rfl sc.nd (pi_enumT (by rfl) B.enumerate_ (pa_cons (pv 0) pa_nil)) (blkOk_by (own := [("j", 9), ("other", 10)]) (N := N_cut_at) (sc := defScope s_cut_at) (by decide +kernel)) (fun _ _ _ _ _ => (pg_tupK (K := K) (n := 2) rfl (pgs_cons (pg_name (i := 9) sc.nd rfl (Or.inl rfl) (Or.inr rfl)) (pgs_cons (pg_name (i := 10) sc.nd rfl (Or.inl rfl) (Or.inr rfl)) pgs_nil)))) (fun _ _ _ _ _ => (pts_one (pt_cmpR op_eq (pe_ix (ix2 (K := K)) (pv 10) pe_int (fun _ _ => rfl)) (pv 6) (nomark _)))) (fun _ _ _ _ _ => (pe_ix (ix2 (K := K)) (pv 2) (pv 9) (fun _ _ => rfl)))) pa_nil)))
      (pss_one (ps_if (PW.pt (pw_or (pt_cmpR (in_seqK (K := K)) (pv 6) (pv 1) (by rfl)) (pw_or1 (pt_cmpR op_le (pe_ix (ix2 (K := K)) (pv 7) pe_int (fun _ _ => rfl)) (pv 8) (nomark _)))))
        (pss_cons (ps_expr (pe_bm PySem.F.plainAttrs_list PySem.F.slot_list_append PySem.F.type_list_append mt_append (pv 5) (pa_cons (pv 6) pa_nil)))
        (pss_one (ps_asg pe_bl (pg_sub (pv 4) (pv 6) set_list))))
        pss_nil)))))
    (pss_one (ps_ret (pv 5)))))))),
    (ev_seq (ev_asg (ev_call (ev_cons ev_var (ev_cons ev_var ev_nil))))
    (ev_seq (ev_asg (ev_call (ev_cons ev_var (ev_cons ev_var ev_nil))))
    (ev_seq (ev_asg (ev_op o_rep (ev_lst (ev_cons ev_bl ev_nil)) (ev_cb c_len (ev_cons ev_var ev_nil))))
    (ev_seq (ev_asg (ev_lst ev_nil))
    (ev_seq (ev_for (ev_enum (ev_cons ev_var ev_nil)) tg_two
      (ev_seq (ev_if (ev_tor (ev_tand (ev_test (ev_op o_ge (ev_op o_ix ev_var ev_int) ev_int)) (ev_B (ev_op o_ix ev_var (ev_op o_ix ev_var ev_int)))) (ev_tnot (ev_B (ev_op o_ix ev_var ev_var))))
        (ev_seq (ev_setIx ev_var ev_bl)
        ev_cont)
        ev_next)
      (ev_seq (ev_asg (ev_cb c_sum (ev_cons (ev_lc (ev_enum (ev_cons ev_var ev_nil)) tg_two (ev_test (ev_op o_eq (ev_op o_ix ev_var ev_int) ev_var)) (ev_op o_ix ev_var ev_var) (by decide)) ev_nil)))
      (ev_if (ev_tor (ev_test (ev_op o_in ev_var ev_var)) (ev_test (ev_op o_le (ev_op o_ix ev_var ev_int) ev_var)))
        (ev_seq (ev_app ev_var)
        (ev_setIx ev_var ev_bl))
        ev_next))))
    ev_retV)))))⟩
abbrev N_prices_of : List Str := ["budgets", "penalties", "prices", "low", "level", "sources", "k", "penalty"]
theorem sc_prices_of : FnScope N_prices_of ["budgets", "penalties"] (defScope s_prices_of) := ⟨rfl, rfl, rfl, by decide +kernel, rfl, by decide +kernel, by decide +kernel⟩

theorem cal_prices_of {f : Addr} {fd : FuncData} {Ct : Addr} (B : Bt mg) (c_cut_at : C8.Cal P w K mg base 2 "cut_at" (spOf K Pt D_cut_at) []) (Fd : FnP K "prices_of" s_prices_of f fd) (hm : mg "prices_of" = some (.ref f)) : C8.Cal P w K mg base 3 "prices_of" (spOf K Pt D_prices_of) [] := by
  have sc := sc_prices_of
  have b : Binds K fd ["budgets", "penalties"] [] := Fd.bindsN fun _ _ _ _ _ _ us hl => match us, hl with | [_, _], _ => rfl
  exact cal_of Fd hm b sc F_prices_of fun A outer s H E hr => ⟨_, (pss_cons (ps_set (i := 2) sc.nd rfl (Or.inl rfl) (pe_op op_rep (pe_lst (pa_cons pe_int pa_nil)) (pe_callB (len_seqK (K := K)) (by rfl) B.len_ bt_len (pa_cons (pv 0) pa_nil))))
    (pss_cons (ps_set (i := 3) sc.nd rfl (Or.inl rfl) pe_int)
    (pss_cons (ps_for PassesOwn.never rfl (pi_list (pe_callB (cr_sortedSet rfl) (by rfl) B.sorted_ bt_sorted (pa_cons (pe_sc (own := [("penalty", 7)]) rfl sc.nd (pi_tup (pv 1)) (blkOk_by (own := [("penalty", 7)]) (N := N_prices_of) (sc := defScope s_prices_of) (by decide +kernel)) (fun _ _ _ _ _ => (pg_name (i := 7) sc.nd rfl (Or.inl rfl) (Or.inr rfl))) (fun _ _ _ _ _ => (pts_one (pt_cmpR op_gt (pv 7) pe_int (nomark _)))) (fun _ _ _ _ _ => (pv 7))) pa_nil))) (pg_name (i := 4) sc.nd rfl (Or.inr rfl) (Or.inl rfl))
      (pss_cons (ps_setLc (i := 5) (own := [("k", 6), ("penalty", 7)]) rfl sc.nd rfl rfl (sw_true rfl rfl rfl (by decide +kernel)) (pi_enumT (by rfl) B.enumerate_ (pa_cons (pv 1) pa_nil)) (blkOk_by (own := [("k", 6), ("penalty", 7)]) (N := N_prices_of) (sc := defScope s_prices_of) (by decide +kernel)) (fun _ _ _ _ _ => (pg_tupK (K := K) (n := 2) rfl (pgs_cons (pg_name (i := 6) sc.nd rfl (Or.inl rfl) (Or.inr rfl)) (pgs_cons (pg_name (i := 7) sc.nd rfl (Or.inl rfl) (Or.inr rfl)) pgs_nil)))) (fun _ _ _ _ _ => (pts_one (pt_cmpR op_ge (pv 7) (pv 4) (nomark _)))) (fun _ _ _ _ _ => (pv 6)))
      (pss_cons (ps_for PassesOwn.never rfl (pi_list (C8.pe_c c_cut_at hr (by decide) (by rfl) (pa_cons (pv 0) (pa_cons (pv 5) pa_nil)))) (pg_name (i := 6) sc.nd rfl (Or.inl rfl) (Or.inl rfl))
        (pss_one (ps_asg (pe_op op_sub (pe_op op_add (pe_ix (ix2 (K := K)) (pv 2) (pv 6) (fun _ _ => rfl)) (pv 4)) (pv 3)) (pg_sub (pv 2) (pv 6) set_list))))
      (pss_one (ps_set (i := 3) sc.nd rfl (Or.inl rfl) (pv 4))))))
    (pss_one (ps_ret (pe_callTy call_tuple_of (by rfl) B.tuple_ bt_tuple (pa_cons (pv 2) pa_nil))))))),
    (ev_seq (ev_asg (ev_op o_rep (ev_lst (ev_cons ev_int ev_nil)) (ev_cb c_len (ev_cons ev_var ev_nil))))
    (ev_seq (ev_asg ev_int)
    (ev_seq (ev_for (ev_itM (ev_scSort (ev_itT ev_var) tg_one (ev_test (ev_op o_gt ev_var ev_int)) ev_var (by decide))) tg_one
      (ev_seq (ev_asg (ev_lc (ev_enum (ev_cons ev_var ev_nil)) tg_two (ev_test (ev_op o_ge ev_var ev_var)) ev_var (by decide)))
      (ev_seq (ev_for (ev_itM (ev_call (ev_cons ev_var (ev_cons ev_var ev_nil)))) tg_one
        (ev_setIx ev_var (ev_op o_sub (ev_op o_add (ev_op o_ix ev_var ev_var) ev_var) ev_var)))
      (ev_asg ev_var))))
    (ev_ret (ev_cb c_tup (ev_cons ev_var ev_nil))))))⟩
abbrev N_covers : List Str := ["budgets", "penalties", "prices", "source", "penalty", "k"]
theorem sc_covers : FnScope N_covers ["budgets", "penalties", "prices"] (defScope s_covers) := ⟨rfl, rfl, rfl, by decide +kernel, rfl, by decide +kernel, by decide +kernel⟩

theorem cal_covers {f : Addr} {fd : FuncData} {Ct : Addr} (B : Bt mg) (c_above : C8.Cal P w K mg base 1 "above" (spOf K Pt D_above) []) (Fd : FnP K "covers" s_covers f fd) (hm : mg "covers" = some (.ref f)) : C8.Cal P w K mg base 2 "covers" (spOf K Pt D_covers) [] := by
  have sc := sc_covers
  have b : Binds K fd ["budgets", "penalties", "prices"] [] := Fd.bindsN fun _ _ _ _ _ _ us hl => match us, hl with | [_, _, _], _ => rfl
  exact cal_of Fd hm b sc F_covers fun A outer s H E hr => ⟨_, (pss_cons (ps_for PassesOwn.never rfl (pi_enumT (by rfl) B.enumerate_ (pa_cons (pv 1) pa_nil)) (pg_tupK (K := K) (n := 2) rfl (pgs_cons (pg_name (i := 3) sc.nd rfl (Or.inl rfl) (Or.inl rfl)) (pgs_cons (pg_name (i := 4) sc.nd rfl (Or.inl rfl) (Or.inl rfl)) pgs_nil)))
      (pss_one (ps_if (pt_cmpR op_lt (pe_callB (cr_sum rfl) (by rfl) B.sum_ bt_sum (pa_cons (pe_lc (own := [("k", 5)]) rfl sc.nd (pi_list (pe_op op_cat (pe_lst (pa_cons (pv 3) pa_nil)) (C8.pe_c c_above hr (by decide) (by rfl) (pa_cons (pv 0) (pa_cons (pv 3) pa_nil))))) (blkOk_by (own := [("k", 5)]) (N := N_covers) (sc := defScope s_covers) (by decide +kernel)) (fun _ _ _ _ _ => (pg_name (i := 5) sc.nd rfl (Or.inl rfl) (Or.inr rfl))) (fun _ _ _ _ _ => pts_nil) (fun _ _ _ _ _ => (pe_ix (ix2 (K := K)) (pv 2) (pv 5) (fun _ _ => rfl)))) pa_nil)) (pv 4) (nomark _))
        (pss_one (ps_ret pe_bl))
        pss_nil)))
    (pss_one (ps_ret pe_bl))),
    (ev_seq (ev_for (ev_enum (ev_cons ev_var ev_nil)) tg_two
      (ev_if (ev_test (ev_op o_lt (ev_cb c_sum (ev_cons (ev_lc (ev_itL (ev_op o_cat (ev_lst (ev_cons ev_var ev_nil)) (ev_call (ev_cons ev_var (ev_cons ev_var ev_nil))))) tg_one ev_yes (ev_op o_ix ev_var ev_var) (by decide)) ev_nil)) ev_var))
        (ev_ret ev_bl)
        ev_next))
    (ev_ret ev_bl))⟩
abbrev N_bound_of : List Str := ["budgets", "penalties", "prices", "budget", "price"]
theorem sc_bound_of : FnScope N_bound_of ["budgets", "penalties", "prices"] (defScope s_bound_of) := ⟨rfl, rfl, rfl, by decide +kernel, rfl, by decide +kernel, by decide +kernel⟩

theorem cal_bound_of {f : Addr} {fd : FuncData} {Ct : Addr} (B : Bt mg) (c_covers : C8.Cal P w K mg base 2 "covers" (spOf K Pt D_covers) []) (Fd : FnP K "bound_of" s_bound_of f fd) (hm : mg "bound_of" = some (.ref f)) : C8.Cal P w K mg base 3 "bound_of" (spOf K Pt D_bound_of) [] := by
  have sc := sc_bound_of
  have b : Binds K fd ["budgets", "penalties", "prices"] [] := Fd.bindsN fun _ _ _ _ _ _ us hl => match us, hl with | [_, _, _], _ => rfl
  exact cal_of Fd hm b sc F_bound_of fun A outer s H E hr => ⟨_, (pss_cons (ps_if (pt_not (pt_val (C8.pe_c c_covers hr (by decide) (by rfl) (pa_cons (pv 0) (pa_cons (pv 1) (pa_cons (pv 2) pa_nil))))))
      (pss_one (ps_ret (pe_un un_neg pe_int)))
      pss_nil)
    (pss_one (ps_ret (pe_callB (cr_sum rfl) (by rfl) B.sum_ bt_sum (pa_cons (pe_lc (own := [("budget", 3), ("price", 4)]) rfl sc.nd (RZ.pi_zipA (by rfl) B.zip_ (pa_cons (pv 0) (pa_cons (pv 2) pa_nil))) (blkOk_by (own := [("budget", 3), ("price", 4)]) (N := N_bound_of) (sc := defScope s_bound_of) (by decide +kernel)) (fun _ _ _ _ _ => (pg_tupK (K := K) (n := 2) rfl (pgs_cons (pg_name (i := 3) sc.nd rfl (Or.inl rfl) (Or.inr rfl)) (pgs_cons (pg_name (i := 4) sc.nd rfl (Or.inl rfl) (Or.inr rfl)) pgs_nil)))) (fun _ _ _ _ _ => pts_nil) (fun _ _ _ _ _ => (pe_op op_mul (pe_ix (ix2 (K := K)) (pv 3) pe_int (fun _ _ => rfl)) (pv 4)))) pa_nil))))),
    (ev_seq (ev_if (ev_tnot (ev_B (ev_call (ev_cons ev_var (ev_cons ev_var (ev_cons ev_var ev_nil))))))
      (ev_ret (ev_neg ev_int))
      ev_next)
    (ev_ret (ev_cb c_sum (ev_cons (ev_lc (ev_zip (ev_cons ev_var (ev_cons ev_var ev_nil))) tg_two ev_yes (ev_op o_mul (ev_op o_ix ev_var ev_int) ev_var) (by decide)) ev_nil))))⟩
abbrev N_lengths_of : List Str := ["item", "segment"]
theorem sc_lengths_of : FnScope N_lengths_of ["item"] (defScope s_lengths_of) := ⟨rfl, rfl, rfl, by decide +kernel, rfl, by decide +kernel, by decide +kernel⟩

theorem cal_lengths_of {f : Addr} {fd : FuncData} {Ct : Addr} (B : Bt mg) (Fd : FnP K "lengths_of" s_lengths_of f fd) (hm : mg "lengths_of" = some (.ref f)) : C8.Cal P w K mg base 1 "lengths_of" (spOf K Pt D_lengths_of) [] := by
  have sc := sc_lengths_of
  have b : Binds K fd ["item"] [] := Fd.bindsN fun _ _ _ _ _ _ us hl => match us, hl with | [_], _ => rfl
  exact cal_of Fd hm b sc F_lengths_of fun A outer s H E hr => ⟨_, (pss_one (ps_ret (pe_callB (cr_sum rfl) (by rfl) B.sum_ bt_sum (pa_cons (pe_lc (own := [("segment", 1)]) rfl sc.nd (pi_tup (pe_ix (ix2 (K := K)) (pv 0) pe_int (fun _ _ => rfl))) (blkOk_by (own := [("segment", 1)]) (N := N_lengths_of) (sc := defScope s_lengths_of) (by decide +kernel)) (fun _ _ _ _ _ => (pg_name (i := 1) sc.nd rfl (Or.inl rfl) (Or.inr rfl))) (fun _ _ _ _ _ => pts_nil) (fun _ _ _ _ _ => (pe_ix (ix2 (K := K)) (pv 1) pe_int (fun _ _ => rfl)))) pa_nil)))),
    (ev_ret (ev_cb c_sum (ev_cons (ev_lc (ev_itT (ev_op o_ix ev_var ev_int)) tg_one ev_yes (ev_op o_ix ev_var ev_int) (by decide)) ev_nil)))⟩
abbrev N_work_of : List Str := ["item"]
theorem sc_work_of : FnScope N_work_of ["item"] (defScope s_work_of) := ⟨rfl, rfl, rfl, by decide +kernel, rfl, by decide +kernel, by decide +kernel⟩

theorem cal_work_of {f : Addr} {fd : FuncData} {Ct : Addr} (B : Bt mg) (c_lengths_of : C8.Cal P w K mg base 1 "lengths_of" (spOf K Pt D_lengths_of) []) (Fd : FnP K "work_of" s_work_of f fd) (hm : mg "work_of" = some (.ref f)) : C8.Cal P w K mg base 2 "work_of" (spOf K Pt D_work_of) [] := by
  have sc := sc_work_of
  have b : Binds K fd ["item"] [] := Fd.bindsN fun _ _ _ _ _ _ us hl => match us, hl with | [_], _ => rfl
  exact cal_of Fd hm b sc F_work_of fun A outer s H E hr => ⟨_, (pss_cons (ps_if (pt_cmpR op_eq (pe_ix (ix2 (K := K)) (pv 0) pe_int (fun _ _ => rfl)) pe_str (nomark _))
      (pss_one (ps_ret (pe_op op_sub (C8.pe_c c_lengths_of hr (by decide) (by rfl) (pa_cons (pv 0) pa_nil)) (pe_ix (ix2 (K := K)) (pv 0) pe_int (fun _ _ => rfl)))))
      pss_nil)
    (pss_one (ps_ret (C8.pe_c c_lengths_of hr (by decide) (by rfl) (pa_cons (pv 0) pa_nil))))),
    (ev_seq (ev_if (ev_test (ev_op o_eq (ev_op o_ix ev_var ev_int) ev_str))
      (ev_ret (ev_op o_sub (ev_call (ev_cons ev_var ev_nil)) (ev_op o_ix ev_var ev_int)))
      ev_next)
    (ev_ret (ev_call (ev_cons ev_var ev_nil))))⟩
abbrev N_divisor : List Str := ["a", "b"]
theorem sc_divisor : FnScope N_divisor ["a", "b"] (defScope s_divisor) := ⟨rfl, rfl, rfl, by decide +kernel, rfl, by decide +kernel, by decide +kernel⟩

theorem cal_divisor {f : Addr} {fd : FuncData} {Ct : Addr} (B : Bt mg) (Fd : FnP K "divisor" s_divisor f fd) (hm : mg "divisor" = some (.ref f)) : C8.Cal P w K mg base 1 "divisor" (spOf K Pt D_divisor) [] := by
  have sc := sc_divisor
  have b : Binds K fd ["a", "b"] [] := Fd.bindsN fun _ _ _ _ _ _ us hl => match us, hl with | [_, _], _ => rfl
  exact cal_of Fd hm b sc F_divisor fun A outer s H E hr => ⟨_, (pss_cons (ps_while PassesOwn.never (pt_cmpR op_gt (pv 1) pe_int (nomark _))
      (pss_one (ps_par (by rfl) sc.nd (i := 0) (j := 1) rfl rfl (by decide) rfl rfl (pa_cons (pv 1) (pa_cons (pe_op op_sub (pv 0) (pe_op op_mul (pe_op op_fdiv (pv 0) (pv 1)) (pv 1))) pa_nil)) (by rfl))))
    (pss_one (ps_ret (pv 0)))),
    (ev_seq (ev_while (ev_test (ev_op o_gt ev_var ev_int))
      (ev_par (ev_cons ev_var (ev_cons (ev_op o_sub ev_var (ev_op o_mul (ev_op o_div ev_var ev_var) ev_var)) ev_nil))))
    ev_retV)⟩
abbrev N_rate_of : List Str := ["system", "top", "bottom", "task", "common"]
theorem sc_rate_of : FnScope N_rate_of ["system"] (defScope s_rate_of) := ⟨rfl, rfl, rfl, by decide +kernel, rfl, by decide +kernel, by decide +kernel⟩

theorem cal_rate_of {f : Addr} {fd : FuncData} {Ct : Addr} (B : Bt mg) (c_work_of : C8.Cal P w K mg base 2 "work_of" (spOf K Pt D_work_of) []) (c_divisor : C8.Cal P w K mg base 1 "divisor" (spOf K Pt D_divisor) []) (Fd : FnP K "rate_of" s_rate_of f fd) (hm : mg "rate_of" = some (.ref f)) : C8.Cal P w K mg base 3 "rate_of" (spOf K Pt D_rate_of) [] := by
  have sc := sc_rate_of
  have b : Binds K fd ["system"] [] := Fd.bindsN fun _ _ _ _ _ _ us hl => match us, hl with | [_], _ => rfl
  exact cal_of Fd hm b sc F_rate_of fun A outer s H E hr => ⟨_, (pss_cons (ps_set (i := 1) sc.nd rfl (Or.inl rfl) pe_int)
    (pss_cons (ps_set (i := 2) sc.nd rfl (Or.inl rfl) pe_int)
    (pss_cons (ps_for PassesOwn.never rfl (pi_tup (pe_ix (ix2 (K := K)) (pv 0) pe_int (fun _ _ => rfl))) (pg_name (i := 3) sc.nd rfl (Or.inl rfl) (Or.inl rfl))
      (pss_cons (ps_set (i := 1) sc.nd rfl (Or.inl rfl) (pe_op op_add (pe_op op_mul (pv 1) (pe_ix (ix2 (K := K)) (pv 3) pe_int (fun _ _ => rfl))) (pe_op op_mul (C8.pe_c c_work_of hr (by decide) (by rfl) (pa_cons (pv 3) pa_nil)) (pv 2))))
      (pss_one (ps_set (i := 2) sc.nd rfl (Or.inl rfl) (pe_op op_mul (pv 2) (pe_ix (ix2 (K := K)) (pv 3) pe_int (fun _ _ => rfl)))))))
    (pss_cons (ps_set (i := 4) sc.nd rfl (Or.inl rfl) (C8.pe_c c_divisor hr (by decide) (by rfl) (pa_cons (pv 1) (pa_cons (pv 2) pa_nil))))
    (pss_one (ps_ret (pe_tup (pa_cons (pe_op op_fdiv (pv 1) (pv 4)) (pa_cons (pe_op op_fdiv (pv 2) (pv 4)) pa_nil))))))))),
    (ev_seq (ev_asg ev_int)
    (ev_seq (ev_asg ev_int)
    (ev_seq (ev_for (ev_itT (ev_op o_ix ev_var ev_int)) tg_one
      (ev_seq (ev_asg (ev_op o_add (ev_op o_mul ev_var (ev_op o_ix ev_var ev_int)) (ev_op o_mul (ev_call (ev_cons ev_var ev_nil)) ev_var)))
      (ev_asg (ev_op o_mul ev_var (ev_op o_ix ev_var ev_int)))))
    (ev_seq (ev_asg (ev_call (ev_cons ev_var (ev_cons ev_var ev_nil))))
    (ev_ret (ev_tup (ev_cons (ev_op o_div ev_var ev_var) (ev_cons (ev_op o_div ev_var ev_var) ev_nil))))))))⟩
abbrev N_latest_of : List Str := ["system", "item"]
theorem sc_latest_of : FnScope N_latest_of ["system"] (defScope s_latest_of) := ⟨rfl, rfl, rfl, by decide +kernel, rfl, by decide +kernel, by decide +kernel⟩

theorem cal_latest_of {f : Addr} {fd : FuncData} {Ct : Addr} (B : Bt mg) (Fd : FnP K "latest_of" s_latest_of f fd) (hm : mg "latest_of" = some (.ref f)) : C8.Cal P w K mg base 1 "latest_of" (spOf K Pt D_latest_of) [] := by
  have sc := sc_latest_of
  have b : Binds K fd ["system"] [] := Fd.bindsN fun _ _ _ _ _ _ us hl => match us, hl with | [_], _ => rfl
  exact cal_of Fd hm b sc F_latest_of fun A outer s H E hr => ⟨_, (pss_one (ps_ret (pe_callB (cr_max rfl) (by rfl) B.max_ bt_max (pa_cons (pe_op op_cat (pe_lst (pa_cons pe_int pa_nil)) (pe_lc (own := [("item", 1)]) rfl sc.nd (pi_tup (pe_op op_catA (pe_ix (ix2 (K := K)) (pv 0) pe_int (fun _ _ => rfl)) (pe_ix (ix2 (K := K)) (pv 0) pe_int (fun _ _ => rfl)))) (blkOk_by (own := [("item", 1)]) (N := N_latest_of) (sc := defScope s_latest_of) (by decide +kernel)) (fun _ _ _ _ _ => (pg_name (i := 1) sc.nd rfl (Or.inl rfl) (Or.inr rfl))) (fun _ _ _ _ _ => pts_nil) (fun _ _ _ _ _ => (pe_ix (ix2 (K := K)) (pv 1) pe_int (fun _ _ => rfl))))) pa_nil)))),
    (ev_ret (ev_cb c_max (ev_cons (ev_op o_cat (ev_lst (ev_cons ev_int ev_nil)) (ev_lc (ev_itT (ev_op o_catA (ev_op o_ix ev_var ev_int) (ev_op o_ix ev_var ev_int))) tg_one ev_yes (ev_op o_ix ev_var ev_int) (by decide))) ev_nil)))⟩
abbrev N_longest : List Str := ["items", "budgets", "penalties", "item", "length", "source"]
theorem sc_longest : FnScope N_longest ["items", "budgets"] (defScope s_longest) := ⟨rfl, rfl, rfl, by decide +kernel, rfl, by decide +kernel, by decide +kernel⟩

theorem cal_longest {f : Addr} {fd : FuncData} {Ct : Addr} (B : Bt mg) (Fd : FnP K "longest" s_longest f fd) (hm : mg "longest" = some (.ref f)) : C8.Cal P w K mg base 1 "longest" (spOf K Pt D_longest) [] := by
  have sc := sc_longest
  have b : Binds K fd ["items", "budgets"] [] := Fd.bindsN fun _ _ _ _ _ _ us hl => match us, hl with | [_, _], _ => rfl
  exact cal_of2 Fd hm b sc F_longestL F_longestT (fun as bs r bs' h => longest_some h) (fun A outer s H E hr => ⟨_, (pss_cons (ps_set (i := 2) sc.nd rfl (Or.inl rfl) (pe_op op_rep (pe_lst (pa_cons pe_int pa_nil)) (pe_callB (len_seqK (K := K)) (by rfl) B.len_ bt_len (pa_cons (pv 1) pa_nil))))
    (pss_cons (ps_for PassesOwn.never rfl (pi_list (pv 0)) (pg_name (i := 3) sc.nd rfl (Or.inl rfl) (Or.inl rfl))
      (pss_one (ps_for PassesOwn.never rfl (pi_tup (pe_ix (ix2 (K := K)) (pv 3) pe_int (fun _ _ => rfl))) (pg_tupK (K := K) (n := 2) rfl (pgs_cons (pg_name (i := 4) sc.nd rfl (Or.inl rfl) (Or.inl rfl)) (pgs_cons (pg_name (i := 5) sc.nd rfl (Or.inl rfl) (Or.inl rfl)) pgs_nil)))
        (pss_one (ps_asg (pe_callB (call_max2 rfl) (by rfl) B.max_ bt_max (pa_cons (pe_ix (ix2 (K := K)) (pv 2) (pv 5) (fun _ _ => rfl)) (pa_cons (pv 4) pa_nil))) (pg_sub (pv 2) (pv 5) set_list))))))
    (pss_one (ps_ret (pe_callTy call_tuple_of (by rfl) B.tuple_ bt_tuple (pa_cons (pv 2) pa_nil)))))),
    (ev_seq (ev_asg (ev_op o_rep (ev_lst (ev_cons ev_int ev_nil)) (ev_cb c_len (ev_cons ev_var ev_nil))))
    (ev_seq (ev_down (ev_for ev_itV tg_one
      (ev_for (ev_itT (ev_op o_ix ev_var ev_int)) tg_two
        (ev_setIx ev_var (ev_cb c_max2 (ev_cons (ev_op o_ix ev_var ev_var) (ev_cons ev_var ev_nil)))))))
    (ev_ret (ev_cb c_tup (ev_cons ev_var ev_nil)))))⟩) (fun A outer s H E hr => ⟨_, (pss_cons (ps_set (i := 2) sc.nd rfl (Or.inl rfl) (pe_op op_rep (pe_lst (pa_cons pe_int pa_nil)) (pe_callB (len_seqK (K := K)) (by rfl) B.len_ bt_len (pa_cons (pv 1) pa_nil))))
    (pss_cons (ps_for PassesOwn.never rfl (pi_tup (pv 0)) (pg_name (i := 3) sc.nd rfl (Or.inl rfl) (Or.inl rfl))
      (pss_one (ps_for PassesOwn.never rfl (pi_tup (pe_ix (ix2 (K := K)) (pv 3) pe_int (fun _ _ => rfl))) (pg_tupK (K := K) (n := 2) rfl (pgs_cons (pg_name (i := 4) sc.nd rfl (Or.inl rfl) (Or.inl rfl)) (pgs_cons (pg_name (i := 5) sc.nd rfl (Or.inl rfl) (Or.inl rfl)) pgs_nil)))
        (pss_one (ps_asg (pe_callB (call_max2 rfl) (by rfl) B.max_ bt_max (pa_cons (pe_ix (ix2 (K := K)) (pv 2) (pv 5) (fun _ _ => rfl)) (pa_cons (pv 4) pa_nil))) (pg_sub (pv 2) (pv 5) set_list))))))
    (pss_one (ps_ret (pe_callTy call_tuple_of (by rfl) B.tuple_ bt_tuple (pa_cons (pv 2) pa_nil)))))),
    (ev_seq (ev_asg (ev_op o_rep (ev_lst (ev_cons ev_int ev_nil)) (ev_cb c_len (ev_cons ev_var ev_nil))))
    (ev_seq (ev_for (ev_itT ev_var) tg_one
      (ev_for (ev_itT (ev_op o_ix ev_var ev_int)) tg_two
        (ev_setIx ev_var (ev_cb c_max2 (ev_cons (ev_op o_ix ev_var ev_var) (ev_cons ev_var ev_nil))))))
    (ev_ret (ev_cb c_tup (ev_cons ev_var ev_nil)))))⟩)
abbrev N_horizon_of : List Str := ["system", "top", "bottom", "items", "total", "item"]
theorem sc_horizon_of : FnScope N_horizon_of ["system"] (defScope s_horizon_of) := ⟨rfl, rfl, rfl, by decide +kernel, rfl, by decide +kernel, by decide +kernel⟩

theorem cal_horizon_of {f : Addr} {fd : FuncData} {Ct : Addr} (B : Bt mg) (c_rate_of : C8.Cal P w K mg base 3 "rate_of" (spOf K Pt D_rate_of) []) (c_work_of : C8.Cal P w K mg base 2 "work_of" (spOf K Pt D_work_of) []) (c_worst : C8.Cal P w K mg base 2 "worst" (spOf K Pt D_worst) []) (c_longest : C8.Cal P w K mg base 1 "longest" (spOf K Pt D_longest) []) (Fd : FnP K "horizon_of" s_horizon_of f fd) (hm : mg "horizon_of" = some (.ref f)) : C8.Cal P w K mg base 4 "horizon_of" (spOf K Pt D_horizon_of) [] := by
  have sc := sc_horizon_of
  have b : Binds K fd ["system"] [] := Fd.bindsN fun _ _ _ _ _ _ us hl => match us, hl with | [_], _ => rfl
  exact cal_of Fd hm b sc F_horizon_of fun A outer s H E hr => ⟨_, (pss_cons (ps_asg (C8.pe_c c_rate_of hr (by decide) (by rfl) (pa_cons (pv 0) pa_nil)) (pg_tupK (K := K) (n := 2) rfl (pgs_cons (pg_name (i := 1) sc.nd rfl (Or.inl rfl) (Or.inl rfl)) (pgs_cons (pg_name (i := 2) sc.nd rfl (Or.inl rfl) (Or.inl rfl)) pgs_nil))))
    (pss_cons (ps_set (i := 3) sc.nd rfl (Or.inl rfl) (pe_op op_catA (pe_ix (ix2 (K := K)) (pv 0) pe_int (fun _ _ => rfl)) (pe_ix (ix2 (K := K)) (pv 0) pe_int (fun _ _ => rfl))))
    (pss_cons (ps_set (i := 4) sc.nd rfl (Or.inl rfl) (pe_op op_add (pe_callB (cr_sum rfl) (by rfl) B.sum_ bt_sum (pa_cons (pe_lc (own := [("item", 5)]) rfl sc.nd (pi_tup (pv 3)) (blkOk_by (own := [("item", 5)]) (N := N_horizon_of) (sc := defScope s_horizon_of) (by decide +kernel)) (fun _ _ _ _ _ => (pg_name (i := 5) sc.nd rfl (Or.inl rfl) (Or.inr rfl))) (fun _ _ _ _ _ => pts_nil) (fun _ _ _ _ _ => (C8.pe_c c_work_of hr (by decide) (by rfl) (pa_cons (pv 5) pa_nil)))) pa_nil)) (pe_ix (ix2 (K := K)) (C8.pe_c c_worst hr (by decide) (by rfl) (pa_cons (pe_ix (ix2 (K := K)) (pv 0) pe_int (fun _ _ => rfl)) (pa_cons (C8.pe_c c_longest hr (by decide) (by rfl) (pa_cons (pv 3) (pa_cons (pe_ix (ix2 (K := K)) (pv 0) pe_int (fun _ _ => rfl)) pa_nil))) pa_nil))) pe_int (fun _ _ => rfl))))
    (pss_one (ps_ret (pe_un un_neg (pe_op op_fdiv (pe_op op_mul (pe_un un_neg (pv 4)) (pv 2)) (pe_op op_sub (pv 2) (pv 1))))))))),
    (ev_seq (ev_asgT tg_two (ev_call (ev_cons ev_var ev_nil)))
    (ev_seq (ev_asg (ev_op o_catA (ev_op o_ix ev_var ev_int) (ev_op o_ix ev_var ev_int)))
    (ev_seq (ev_asg (ev_op o_add (ev_cb c_sum (ev_cons (ev_lc (ev_itT ev_var) tg_one ev_yes (ev_call (ev_cons ev_var ev_nil)) (by decide)) ev_nil)) (ev_op o_ix (ev_call (ev_cons (ev_op o_ix ev_var ev_int) (ev_cons (ev_call (ev_cons ev_var (ev_cons (ev_op o_ix ev_var ev_int) ev_nil))) ev_nil))) ev_int)))
    (ev_ret (ev_neg (ev_op o_div (ev_op o_mul (ev_neg ev_var) ev_var) (ev_op o_sub ev_var ev_var)))))))⟩
abbrev N_bodies : List Str := ["task", "s", "e", "start"]
theorem sc_bodies : FnScope N_bodies ["task", "s", "e"] (defScope s_bodies) := ⟨rfl, rfl, rfl, by decide +kernel, rfl, by decide +kernel, by decide +kernel⟩

theorem cal_bodies {f : Addr} {fd : FuncData} {Ct : Addr} (B : Bt mg) (Fd : FnP K "bodies" s_bodies f fd) (hm : mg "bodies" = some (.ref f)) : C8.Cal P w K mg base 1 "bodies" (spOf K Pt D_bodies) [] := by
  have sc := sc_bodies
  have b : Binds K fd ["task", "s", "e"] [] := Fd.bindsN fun _ _ _ _ _ _ us hl => match us, hl with | [_, _, _], _ => rfl
  exact cal_of Fd hm b sc F_bodies fun A outer s H E hr => ⟨_, (pss_cons (ps_set (i := 3) sc.nd rfl (Or.inl rfl) (pe_callB (call_max2 rfl) (by rfl) B.max_ bt_max (pa_cons (pv 1) (pa_cons (pe_ix (ix2 (K := K)) (pv 0) pe_int (fun _ _ => rfl)) pa_nil))))
    (pss_cons (ps_if (pt_cmpR op_lt (pe_op op_sub (pv 2) (pv 3)) (pe_ix (ix2 (K := K)) (pv 0) pe_int (fun _ _ => rfl)) (nomark _))
      (pss_one (ps_ret pe_int))
      pss_nil)
    (pss_one (ps_ret (pe_op op_add pe_int (pe_op op_fdiv (pe_op op_sub (pe_op op_sub (pv 2) (pv 3)) (pe_ix (ix2 (K := K)) (pv 0) pe_int (fun _ _ => rfl))) (pe_ix (ix2 (K := K)) (pv 0) pe_int (fun _ _ => rfl)))))))),
    (ev_seq (ev_asg (ev_cb c_max2 (ev_cons ev_var (ev_cons (ev_op o_ix ev_var ev_int) ev_nil))))
    (ev_seq (ev_if (ev_test (ev_op o_lt (ev_op o_sub ev_var ev_var) (ev_op o_ix ev_var ev_int)))
      (ev_ret ev_int)
      ev_next)
    (ev_ret (ev_op o_add ev_int (ev_op o_div (ev_op o_sub (ev_op o_sub ev_var ev_var) (ev_op o_ix ev_var ev_int)) (ev_op o_ix ev_var ev_int))))))⟩
abbrev N_jobs_in : List Str := ["system", "s", "e", "job"]
theorem sc_jobs_in : FnScope N_jobs_in ["system", "s", "e"] (defScope s_jobs_in) := ⟨rfl, rfl, rfl, by decide +kernel, rfl, by decide +kernel, by decide +kernel⟩

theorem cal_jobs_in {f : Addr} {fd : FuncData} {Ct : Addr} (B : Bt mg) (Fd : FnP K "jobs_in" s_jobs_in f fd) (hm : mg "jobs_in" = some (.ref f)) : C8.Cal P w K mg base 1 "jobs_in" (spOf K Pt D_jobs_in) [] := by
  have sc := sc_jobs_in
  have b : Binds K fd ["system", "s", "e"] [] := Fd.bindsN fun _ _ _ _ _ _ us hl => match us, hl with | [_, _, _], _ => rfl
  exact cal_of Fd hm b sc F_jobs_in fun A outer s H E hr => ⟨_, (pss_one (ps_ret (pe_lc (own := [("job", 3)]) rfl sc.nd (pi_tup (pe_ix (ix2 (K := K)) (pv 0) pe_int (fun _ _ => rfl))) (blkOk_by (own := [("job", 3)]) (N := N_jobs_in) (sc := defScope s_jobs_in) (by decide +kernel)) (fun _ _ _ _ _ => (pg_name (i := 3) sc.nd rfl (Or.inl rfl) (Or.inr rfl))) (fun _ _ _ _ _ => (pts_one (PW.pt (pw_and (pt_cmpR op_ge (pe_ix (ix2 (K := K)) (pv 3) pe_int (fun _ _ => rfl)) (pv 1) (nomark _)) (pw_and1 (pt_cmpR op_le (pe_ix (ix2 (K := K)) (pv 3) pe_int (fun _ _ => rfl)) (pv 2) (nomark _))))))) (fun _ _ _ _ _ => (pv 3))))),
    (ev_ret (ev_lc (ev_itT (ev_op o_ix ev_var ev_int)) tg_one (ev_tand (ev_test (ev_op o_ge (ev_op o_ix ev_var ev_int) ev_var)) (ev_test (ev_op o_le (ev_op o_ix ev_var ev_int) ev_var))) ev_var (by decide)))⟩
abbrev N_demand : List Str := ["system", "s", "e", "total", "job", "task"]
theorem sc_demand : FnScope N_demand ["system", "s", "e"] (defScope s_demand) := ⟨rfl, rfl, rfl, by decide +kernel, rfl, by decide +kernel, by decide +kernel⟩

theorem cal_demand {f : Addr} {fd : FuncData} {Ct : Addr} (B : Bt mg) (c_jobs_in : C8.Cal P w K mg base 1 "jobs_in" (spOf K Pt D_jobs_in) []) (c_work_of : C8.Cal P w K mg base 2 "work_of" (spOf K Pt D_work_of) []) (c_bodies : C8.Cal P w K mg base 1 "bodies" (spOf K Pt D_bodies) []) (Fd : FnP K "demand" s_demand f fd) (hm : mg "demand" = some (.ref f)) : C8.Cal P w K mg base 3 "demand" (spOf K Pt D_demand) [] := by
  have sc := sc_demand
  have b : Binds K fd ["system", "s", "e"] [] := Fd.bindsN fun _ _ _ _ _ _ us hl => match us, hl with | [_, _, _], _ => rfl
  exact cal_of Fd hm b sc F_demand fun A outer s H E hr => ⟨_, (pss_cons (ps_set (i := 3) sc.nd rfl (Or.inl rfl) (pe_callB (cr_sum rfl) (by rfl) B.sum_ bt_sum (pa_cons (pe_lc (own := [("job", 4)]) rfl sc.nd (pi_list (C8.pe_c c_jobs_in hr (by decide) (by rfl) (pa_cons (pv 0) (pa_cons (pv 1) (pa_cons (pv 2) pa_nil))))) (blkOk_by (own := [("job", 4)]) (N := N_demand) (sc := defScope s_demand) (by decide +kernel)) (fun _ _ _ _ _ => (pg_name (i := 4) sc.nd rfl (Or.inl rfl) (Or.inr rfl))) (fun _ _ _ _ _ => pts_nil) (fun _ _ _ _ _ => (C8.pe_c c_work_of hr (by decide) (by rfl) (pa_cons (pv 4) pa_nil)))) pa_nil)))
    (pss_one (ps_ret (pe_op op_add (pv 3) (pe_callB (cr_sum rfl) (by rfl) B.sum_ bt_sum (pa_cons (pe_lc (own := [("task", 5)]) rfl sc.nd (pi_tup (pe_ix (ix2 (K := K)) (pv 0) pe_int (fun _ _ => rfl))) (blkOk_by (own := [("task", 5)]) (N := N_demand) (sc := defScope s_demand) (by decide +kernel)) (fun _ _ _ _ _ => (pg_name (i := 5) sc.nd rfl (Or.inl rfl) (Or.inr rfl))) (fun _ _ _ _ _ => pts_nil) (fun _ _ _ _ _ => (pe_op op_mul (C8.pe_c c_bodies hr (by decide) (by rfl) (pa_cons (pv 5) (pa_cons (pv 1) (pa_cons (pv 2) pa_nil)))) (C8.pe_c c_work_of hr (by decide) (by rfl) (pa_cons (pv 5) pa_nil))))) pa_nil)))))),
    (ev_seq (ev_asg (ev_cb c_sum (ev_cons (ev_lc (ev_itL (ev_call (ev_cons ev_var (ev_cons ev_var (ev_cons ev_var ev_nil))))) tg_one ev_yes (ev_call (ev_cons ev_var ev_nil)) (by decide)) ev_nil)))
    (ev_ret (ev_op o_add ev_var (ev_cb c_sum (ev_cons (ev_lc (ev_itT (ev_op o_ix ev_var ev_int)) tg_one ev_yes (ev_op o_mul (ev_call (ev_cons ev_var (ev_cons ev_var (ev_cons ev_var ev_nil)))) (ev_call (ev_cons ev_var ev_nil))) (by decide)) ev_nil)))))⟩
abbrev N_penalties : List Str := ["system", "s", "e", "tasks", "task"]
theorem sc_penalties : FnScope N_penalties ["system", "s", "e"] (defScope s_penalties) := ⟨rfl, rfl, rfl, by decide +kernel, rfl, by decide +kernel, by decide +kernel⟩

theorem cal_penalties {f : Addr} {fd : FuncData} {Ct : Addr} (B : Bt mg) (c_bodies : C8.Cal P w K mg base 1 "bodies" (spOf K Pt D_bodies) []) (c_longest : C8.Cal P w K mg base 1 "longest" (spOf K Pt D_longest) []) (c_jobs_in : C8.Cal P w K mg base 1 "jobs_in" (spOf K Pt D_jobs_in) []) (Fd : FnP K "penalties" s_penalties f fd) (hm : mg "penalties" = some (.ref f)) : C8.Cal P w K mg base 2 "penalties" (spOf K Pt D_penalties) [] := by
  have sc := sc_penalties
  have b : Binds K fd ["system", "s", "e"] [] := Fd.bindsN fun _ _ _ _ _ _ us hl => match us, hl with | [_, _, _], _ => rfl
  exact cal_of Fd hm b sc F_penalties fun A outer s H E hr => ⟨_, (pss_cons (ps_setLc (i := 3) (own := [("task", 4)]) rfl sc.nd rfl rfl (sw_true rfl rfl rfl (by decide +kernel)) (pi_tup (pe_ix (ix2 (K := K)) (pv 0) pe_int (fun _ _ => rfl))) (blkOk_by (own := [("task", 4)]) (N := N_penalties) (sc := defScope s_penalties) (by decide +kernel)) (fun _ _ _ _ _ => (pg_name (i := 4) sc.nd rfl (Or.inl rfl) (Or.inr rfl))) (fun _ _ _ _ _ => (pts_one (pt_cmpR op_gt (C8.pe_c c_bodies hr (by decide) (by rfl) (pa_cons (pv 4) (pa_cons (pv 1) (pa_cons (pv 2) pa_nil)))) pe_int (nomark _)))) (fun _ _ _ _ _ => (pv 4)))
    (pss_one (ps_ret (C8.pe_c c_longest hr (by decide) (by rfl) (pa_cons (pe_op op_cat (C8.pe_c c_jobs_in hr (by decide) (by rfl) (pa_cons (pv 0) (pa_cons (pv 1) (pa_cons (pv 2) pa_nil)))) (pv 3)) (pa_cons (pe_ix (ix2 (K := K)) (pv 0) pe_int (fun _ _ => rfl)) pa_nil)))))),
    (ev_seq (ev_asg (ev_lc (ev_itT (ev_op o_ix ev_var ev_int)) tg_one (ev_test (ev_op o_gt (ev_call (ev_cons ev_var (ev_cons ev_var (ev_cons ev_var ev_nil)))) ev_int)) ev_var (by decide)))
    (ev_ret (ev_call (ev_cons (ev_op o_cat (ev_call (ev_cons ev_var (ev_cons ev_var (ev_cons ev_var ev_nil)))) ev_var) (ev_cons (ev_op o_ix ev_var ev_int) ev_nil)))))⟩
abbrev N_analysis : List Str := ["system", "s", "e", "need", "due", "recovery", "faults"]
theorem sc_analysis : FnScope N_analysis ["system", "s", "e"] (defScope s_analysis) := ⟨rfl, rfl, rfl, by decide +kernel, rfl, by decide +kernel, by decide +kernel⟩

theorem cal_analysis {f : Addr} {fd : FuncData} {Ct : Addr} (B : Bt mg) (c_demand : C8.Cal P w K mg base 3 "demand" (spOf K Pt D_demand) []) (c_penalties : C8.Cal P w K mg base 2 "penalties" (spOf K Pt D_penalties) []) (c_worst : C8.Cal P w K mg base 2 "worst" (spOf K Pt D_worst) []) (c_prices_of : C8.Cal P w K mg base 3 "prices_of" (spOf K Pt D_prices_of) []) (Fd : FnP K "analysis" s_analysis f fd) (hm : mg "analysis" = some (.ref f)) : C8.Cal P w K mg base 4 "analysis" (spOf K Pt D_analysis) [] := by
  have sc := sc_analysis
  have b : Binds K fd ["system", "s", "e"] [] := Fd.bindsN fun _ _ _ _ _ _ us hl => match us, hl with | [_, _, _], _ => rfl
  exact cal_of Fd hm b sc F_analysis fun A outer s H E hr => ⟨_, (pss_cons (ps_set (i := 3) sc.nd rfl (Or.inl rfl) (C8.pe_c c_demand hr (by decide) (by rfl) (pa_cons (pv 0) (pa_cons (pv 1) (pa_cons (pv 2) pa_nil)))))
    (pss_cons (ps_set (i := 4) sc.nd rfl (Or.inl rfl) (C8.pe_c c_penalties hr (by decide) (by rfl) (pa_cons (pv 0) (pa_cons (pv 1) (pa_cons (pv 2) pa_nil)))))
    (pss_cons (ps_asg (C8.pe_c c_worst hr (by decide) (by rfl) (pa_cons (pe_ix (ix2 (K := K)) (pv 0) pe_int (fun _ _ => rfl)) (pa_cons (pv 4) pa_nil))) (pg_tupK (K := K) (n := 2) rfl (pgs_cons (pg_name (i := 5) sc.nd rfl (Or.inl rfl) (Or.inl rfl)) (pgs_cons (pg_name (i := 6) sc.nd rfl (Or.inl rfl) (Or.inl rfl)) pgs_nil))))
    (pss_one (ps_ret (pe_tup (pa_cons (pv 3) (pa_cons (pv 5) (pa_cons (pe_op op_sub (pe_op op_sub (pe_op op_sub (pv 2) (pv 1)) (pv 3)) (pv 5)) (pa_cons (pv 6) (pa_cons (C8.pe_c c_prices_of hr (by decide) (by rfl) (pa_cons (pe_ix (ix2 (K := K)) (pv 0) pe_int (fun _ _ => rfl)) (pa_cons (pv 4) pa_nil))) pa_nil))))))))))),
    (ev_seq (ev_asg (ev_call (ev_cons ev_var (ev_cons ev_var (ev_cons ev_var ev_nil)))))
    (ev_seq (ev_asg (ev_call (ev_cons ev_var (ev_cons ev_var (ev_cons ev_var ev_nil)))))
    (ev_seq (ev_asgT tg_two (ev_call (ev_cons (ev_op o_ix ev_var ev_int) (ev_cons ev_var ev_nil))))
    (ev_ret (ev_tup (ev_cons ev_var (ev_cons ev_var (ev_cons (ev_op o_sub (ev_op o_sub (ev_op o_sub ev_var ev_var) ev_var) ev_var) (ev_cons ev_var (ev_cons (ev_call (ev_cons (ev_op o_ix ev_var ev_int) (ev_cons ev_var ev_nil))) ev_nil))))))))))⟩
abbrev N_ends_of : List Str := ["system", "s", "most", "ends", "task", "e", "job"]
theorem sc_ends_of : FnScope N_ends_of ["system", "s", "most"] (defScope s_ends_of) := ⟨rfl, rfl, rfl, by decide +kernel, rfl, by decide +kernel, by decide +kernel⟩

theorem cal_ends_of {f : Addr} {fd : FuncData} {Ct : Addr} (B : Bt mg) (Fd : FnP K "ends_of" s_ends_of f fd) (hm : mg "ends_of" = some (.ref f)) : C8.Cal P w K mg base 1 "ends_of" (spOf K Pt D_ends_of) [] := by
  have sc := sc_ends_of
  have b : Binds K fd ["system", "s", "most"] [] := Fd.bindsN fun _ _ _ _ _ _ us hl => match us, hl with | [_, _, _], _ => rfl
  exact cal_of Fd hm b sc F_ends_of fun A outer s H E hr => ⟨_, (pss_cons (ps_setLc (i := 3) (own := [("job", 6)]) rfl sc.nd rfl rfl (sw_true rfl rfl rfl (by decide +kernel)) (pi_tup (pe_ix (ix2 (K := K)) (pv 0) pe_int (fun _ _ => rfl))) (blkOk_by (own := [("job", 6)]) (N := N_ends_of) (sc := defScope s_ends_of) (by decide +kernel)) (fun _ _ _ _ _ => (pg_name (i := 6) sc.nd rfl (Or.inl rfl) (Or.inr rfl))) (fun _ _ _ _ _ => (pts_one (PW.pt (pw_and (pt_cmpR op_ge (pe_ix (ix2 (K := K)) (pv 6) pe_int (fun _ _ => rfl)) (pv 1) (nomark _)) (pw_and1 (pt_cmpR op_le (pe_ix (ix2 (K := K)) (pv 6) pe_int (fun _ _ => rfl)) (pv 2) (nomark _))))))) (fun _ _ _ _ _ => (pe_ix (ix2 (K := K)) (pv 6) pe_int (fun _ _ => rfl))))
    (pss_cons (ps_for PassesOwn.never rfl (pi_tup (pe_ix (ix2 (K := K)) (pv 0) pe_int (fun _ _ => rfl))) (pg_name (i := 4) sc.nd rfl (Or.inl rfl) (Or.inl rfl))
      (pss_one (ps_for PassesOwn.never rfl (pi_range3 (by rfl) B.range_ (pa_cons (pe_op op_add (pe_callB (call_max2 rfl) (by rfl) B.max_ bt_max (pa_cons (pv 1) (pa_cons (pe_ix (ix2 (K := K)) (pv 4) pe_int (fun _ _ => rfl)) pa_nil))) (pe_ix (ix2 (K := K)) (pv 4) pe_int (fun _ _ => rfl))) (pa_cons (pe_op op_add (pv 2) pe_int) (pa_cons (pe_ix (ix2 (K := K)) (pv 4) pe_int (fun _ _ => rfl)) pa_nil)))) (pg_name (i := 5) sc.nd rfl (Or.inl rfl) (Or.inl rfl))
        (pss_one (ps_expr (pe_bm PySem.F.plainAttrs_list PySem.F.slot_list_append PySem.F.type_list_append mt_append (pv 3) (pa_cons (pv 5) pa_nil)))))))
    (pss_one (ps_ret (pe_callB (cr_sortedSet rfl) (by rfl) B.sorted_ bt_sorted (pa_cons (pe_callTy (cr_setL rfl) (by rfl) B.set_ bt_set (pa_cons (pv 3) pa_nil)) pa_nil)))))),
    (ev_seq (ev_asg (ev_lc (ev_itT (ev_op o_ix ev_var ev_int)) tg_one (ev_tand (ev_test (ev_op o_ge (ev_op o_ix ev_var ev_int) ev_var)) (ev_test (ev_op o_le (ev_op o_ix ev_var ev_int) ev_var))) (ev_op o_ix ev_var ev_int) (by decide)))
    (ev_seq (ev_for (ev_itT (ev_op o_ix ev_var ev_int)) tg_one
      (ev_for (ev_rng3 (ev_cons (ev_op o_add (ev_cb c_max2 (ev_cons ev_var (ev_cons (ev_op o_ix ev_var ev_int) ev_nil))) (ev_op o_ix ev_var ev_int)) (ev_cons (ev_op o_add ev_var ev_int) (ev_cons (ev_op o_ix ev_var ev_int) ev_nil)))) tg_one
        (ev_app ev_var)))
    (ev_ret (ev_sortSet ev_var))))⟩
abbrev N_is_row : List Str := ["row", "budgets", "number"]
theorem sc_is_row : FnScope N_is_row ["row", "budgets"] (defScope s_is_row) := ⟨rfl, rfl, rfl, by decide +kernel, rfl, by decide +kernel, by decide +kernel⟩

theorem cal_is_row {f : Addr} {fd : FuncData} {Ct : Addr} (B : Bt mg) (Fd : FnP K "is_row" s_is_row f fd) (hm : mg "is_row" = some (.ref f)) : C8.Cal P w K mg base 1 "is_row" (spOf K Pt D_is_row) [] := by
  have sc := sc_is_row
  have b : Binds K fd ["row", "budgets"] [] := Fd.bindsN fun _ _ _ _ _ _ us hl => match us, hl with | [_, _], _ => rfl
  exact cal_of Fd hm b sc F_is_row fun A outer s H E hr => ⟨_, (pss_cons (ps_if (PW.pt (pw_or (pt_not (pt_val (pe_callB call_isi (by rfl) B.isinstance_ bt_isinstance (pa_cons (pv 0) (pa_cons (pe_bltn (v := .ty "tuple") (by rfl) B.tuple_ (by decide +kernel) rfl) pa_nil))))) (pw_or1 (pt_cmpR op_ne (pe_callB (len_seqK (K := K)) (by rfl) B.len_ bt_len (pa_cons (pv 0) pa_nil)) (pe_callB (len_seqK (K := K)) (by rfl) B.len_ bt_len (pa_cons (pv 1) pa_nil)) (nomark _)))))
      (pss_one (ps_ret pe_bl))
      pss_nil)
    (pss_cons (ps_for PassesOwn.never rfl (pi_tup (pv 0)) (pg_name (i := 2) sc.nd rfl (Or.inl rfl) (Or.inl rfl))
      (pss_one (ps_if (PW.pt (pw_or (pt_not (pt_val (pe_callB call_isi (by rfl) B.isinstance_ bt_isinstance (pa_cons (pv 2) (pa_cons (pe_bltn (v := .ty "int") (by rfl) B.int_ (by decide +kernel) rfl) pa_nil))))) (pw_or (pt_val (pe_callB call_isi (by rfl) B.isinstance_ bt_isinstance (pa_cons (pv 2) (pa_cons (pe_bltn (v := .ty "bool") (by rfl) B.bool_ (by decide +kernel) rfl) pa_nil)))) (pw_or1 (pt_cmpR op_lt (pv 2) pe_int (nomark _))))))
        (pss_one (ps_ret pe_bl))
        pss_nil)))
    (pss_one (ps_ret pe_bl)))),
    (ev_seq (ev_if (ev_tor (ev_tnot (ev_B (ev_cb c_isi (ev_cons ev_var (ev_cons ev_ty ev_nil))))) (ev_test (ev_op o_ne (ev_cb c_len (ev_cons ev_var ev_nil)) (ev_cb c_len (ev_cons ev_var ev_nil)))))
      (ev_ret ev_bl)
      ev_next)
    (ev_seq (ev_for (ev_itT ev_var) tg_one
      (ev_if (ev_tor (ev_tnot (ev_B (ev_cb c_isi (ev_cons ev_var (ev_cons ev_ty ev_nil))))) (ev_tor (ev_B (ev_cb c_isi (ev_cons ev_var (ev_cons ev_ty ev_nil)))) (ev_test (ev_op o_lt ev_var ev_int))))
        (ev_ret ev_bl)
        ev_next))
    (ev_ret ev_bl)))⟩
abbrev N_is_held : List Str := ["system", "s", "e", "rows", "need", "due", "row", "bound"]
theorem sc_is_held : FnScope N_is_held ["system", "s", "e", "rows"] (defScope s_is_held) := ⟨rfl, rfl, rfl, by decide +kernel, rfl, by decide +kernel, by decide +kernel⟩

theorem cal_is_held {f : Addr} {fd : FuncData} {Ct : Addr} (B : Bt mg) (c_demand : C8.Cal P w K mg base 3 "demand" (spOf K Pt D_demand) []) (c_penalties : C8.Cal P w K mg base 2 "penalties" (spOf K Pt D_penalties) []) (c_bound_of : C8.Cal P w K mg base 3 "bound_of" (spOf K Pt D_bound_of) []) (Fd : FnP K "is_held" s_is_held f fd) (hm : mg "is_held" = some (.ref f)) : C8.Cal P w K mg base 4 "is_held" (spOf K Pt D_is_held) [] := by
  have sc := sc_is_held
  have b : Binds K fd ["system", "s", "e", "rows"] [] := Fd.bindsN fun _ _ _ _ _ _ us hl => match us, hl with | [_, _, _, _], _ => rfl
  exact cal_of Fd hm b sc F_is_held fun A outer s H E hr => ⟨_, (pss_cons (ps_set (i := 4) sc.nd rfl (Or.inl rfl) (C8.pe_c c_demand hr (by decide) (by rfl) (pa_cons (pv 0) (pa_cons (pv 1) (pa_cons (pv 2) pa_nil)))))
    (pss_cons (ps_set (i := 5) sc.nd rfl (Or.inl rfl) (C8.pe_c c_penalties hr (by decide) (by rfl) (pa_cons (pv 0) (pa_cons (pv 1) (pa_cons (pv 2) pa_nil)))))
    (pss_cons (ps_for PassesOwn.never rfl (pi_tup (pv 3)) (pg_name (i := 6) sc.nd rfl (Or.inl rfl) (Or.inl rfl))
      (pss_cons (ps_set (i := 7) sc.nd rfl (Or.inl rfl) (C8.pe_c c_bound_of hr (by decide) (by rfl) (pa_cons (pe_ix (ix2 (K := K)) (pv 0) pe_int (fun _ _ => rfl)) (pa_cons (pv 5) (pa_cons (pv 6) pa_nil)))))
      (pss_one (ps_if (PW.pt (pw_and (pt_cmpR op_ge (pv 7) pe_int (nomark _)) (pw_and1 (pt_cmpR op_le (pe_op op_add (pv 4) (pv 7)) (pe_op op_sub (pv 2) (pv 1)) (nomark _)))))
        (pss_one (ps_ret pe_bl))
        pss_nil))))
    (pss_one (ps_ret pe_bl))))),
    (ev_seq (ev_asg (ev_call (ev_cons ev_var (ev_cons ev_var (ev_cons ev_var ev_nil)))))
    (ev_seq (ev_asg (ev_call (ev_cons ev_var (ev_cons ev_var (ev_cons ev_var ev_nil)))))
    (ev_seq (ev_for (ev_itT ev_var) tg_one
      (ev_seq (ev_asg (ev_call (ev_cons (ev_op o_ix ev_var ev_int) (ev_cons ev_var (ev_cons ev_var ev_nil)))))
      (ev_if (ev_tand (ev_test (ev_op o_ge ev_var ev_int)) (ev_test (ev_op o_le (ev_op o_add ev_var ev_var) (ev_op o_sub ev_var ev_var))))
        (ev_ret ev_bl)
        ev_next)))
    (ev_ret ev_bl))))⟩
abbrev N_judge_sure : List Str := ["system", "rows", "horizon", "s", "e", "row"]
theorem sc_judge_sure : FnScope N_judge_sure ["system", "rows"] (defScope s_judge_sure) := ⟨rfl, rfl, rfl, by decide +kernel, rfl, by decide +kernel, by decide +kernel⟩

theorem cal_judge_sure {f : Addr} {fd : FuncData} {Ct : Addr} (B : Bt mg) (c_is_row : C8.Cal P w K mg base 1 "is_row" (spOf K Pt D_is_row) []) (c_horizon_of : C8.Cal P w K mg base 4 "horizon_of" (spOf K Pt D_horizon_of) []) (c_latest_of : C8.Cal P w K mg base 1 "latest_of" (spOf K Pt D_latest_of) []) (c_ends_of : C8.Cal P w K mg base 1 "ends_of" (spOf K Pt D_ends_of) []) (c_is_held : C8.Cal P w K mg base 4 "is_held" (spOf K Pt D_is_held) []) (Fd : FnP K "judge_sure" s_judge_sure f fd) (hm : mg "judge_sure" = some (.ref f)) : C8.Cal P w K mg base 5 "judge_sure" (spOf K Pt D_judge_sure) [] := by
  have sc := sc_judge_sure
  have b : Binds K fd ["system", "rows"] [] := Fd.bindsN fun _ _ _ _ _ _ us hl => match us, hl with | [_, _], _ => rfl
  exact cal_of Fd hm b sc F_judge_sure fun A outer s H E hr => ⟨_, (pss_cons (ps_if (PW.pt (pw_or (pt_not (pt_val (pe_callB call_isi (by rfl) B.isinstance_ bt_isinstance (pa_cons (pv 1) (pa_cons (pe_bltn (v := .ty "tuple") (by rfl) B.tuple_ (by decide +kernel) rfl) pa_nil))))) (pw_or1 (pt_not (pt_val (pe_callB (cr_all rfl) (by rfl) B.all_ bt_all (pa_cons (pe_lc (own := [("row", 5)]) rfl sc.nd (pi_tup (pv 1)) (blkOk_by (own := [("row", 5)]) (N := N_judge_sure) (sc := defScope s_judge_sure) (by decide +kernel)) (fun _ _ _ _ _ => (pg_name (i := 5) sc.nd rfl (Or.inl rfl) (Or.inr rfl))) (fun _ _ _ _ _ => pts_nil) (fun _ _ _ _ _ => (C8.pe_c c_is_row hr (by decide) (by rfl) (pa_cons (pv 5) (pa_cons (pe_ix (ix2 (K := K)) (pv 0) pe_int (fun _ _ => rfl)) pa_nil))))) pa_nil)))))))
      (pss_one (ps_ret pe_bl))
      pss_nil)
    (pss_cons (ps_set (i := 2) sc.nd rfl (Or.inl rfl) (C8.pe_c c_horizon_of hr (by decide) (by rfl) (pa_cons (pv 0) pa_nil)))
    (pss_cons (ps_for PassesOwn.never rfl (pi_range1 (by rfl) B.range_ (pa_cons (pe_op op_add (C8.pe_c c_latest_of hr (by decide) (by rfl) (pa_cons (pv 0) pa_nil)) pe_int) pa_nil)) (pg_name (i := 3) sc.nd rfl (Or.inl rfl) (Or.inl rfl))
      (pss_one (ps_for PassesOwn.never rfl (pi_list (C8.pe_c c_ends_of hr (by decide) (by rfl) (pa_cons (pv 0) (pa_cons (pv 3) (pa_cons (pe_op op_add (pv 3) (pv 2)) pa_nil))))) (pg_name (i := 4) sc.nd rfl (Or.inl rfl) (Or.inl rfl))
        (pss_one (ps_if (pt_not (pt_val (C8.pe_c c_is_held hr (by decide) (by rfl) (pa_cons (pv 0) (pa_cons (pv 3) (pa_cons (pv 4) (pa_cons (pv 1) pa_nil)))))))
          (pss_one (ps_ret pe_bl))
          pss_nil)))))
    (pss_one (ps_ret pe_bl))))),
    (ev_seq (ev_if (ev_tor (ev_tnot (ev_B (ev_cb c_isi (ev_cons ev_var (ev_cons ev_ty ev_nil))))) (ev_tnot (ev_B (ev_cb c_all (ev_cons (ev_lc (ev_itT ev_var) tg_one ev_yes (ev_call (ev_cons ev_var (ev_cons (ev_op o_ix ev_var ev_int) ev_nil))) (by decide)) ev_nil)))))
      (ev_ret ev_bl)
      ev_next)
    (ev_seq (ev_asg (ev_call (ev_cons ev_var ev_nil)))
    (ev_seq (ev_for (ev_rng1 (ev_cons (ev_op o_add (ev_call (ev_cons ev_var ev_nil)) ev_int) ev_nil)) tg_one
      (ev_for (ev_itM (ev_call (ev_cons ev_var (ev_cons ev_var (ev_cons (ev_op o_add ev_var ev_var) ev_nil))))) tg_one
        (ev_if (ev_tnot (ev_B (ev_call (ev_cons ev_var (ev_cons ev_var (ev_cons ev_var (ev_cons ev_var ev_nil)))))))
          (ev_ret ev_bl)
          ev_next)))
    (ev_ret ev_bl))))⟩
abbrev N_judge_unsure : List Str := ["system", "s", "e", "faults", "recovery", "penalty", "count"]
theorem sc_judge_unsure : FnScope N_judge_unsure ["system", "s", "e", "faults"] (defScope s_judge_unsure) := ⟨rfl, rfl, rfl, by decide +kernel, rfl, by decide +kernel, by decide +kernel⟩

theorem cal_judge_unsure {f : Addr} {fd : FuncData} {Ct : Addr} (B : Bt mg) (c_is_integer : C8.Cal P w K mg base 1 "is_integer" (spOf K Pt D_is_integer) []) (c_is_within : C8.Cal P w K mg base 3 "is_within" (spOf K Pt D_is_within) []) (c_is_row : C8.Cal P w K mg base 1 "is_row" (spOf K Pt D_is_row) []) (c_penalties : C8.Cal P w K mg base 2 "penalties" (spOf K Pt D_penalties) []) (c_demand : C8.Cal P w K mg base 3 "demand" (spOf K Pt D_demand) []) (Fd : FnP K "judge_unsure" s_judge_unsure f fd) (hm : mg "judge_unsure" = some (.ref f)) : C8.Cal P w K mg base 4 "judge_unsure" (spOf K Pt D_judge_unsure) [] := by
  have sc := sc_judge_unsure
  have b : Binds K fd ["system", "s", "e", "faults"] [] := Fd.bindsN fun _ _ _ _ _ _ us hl => match us, hl with | [_, _, _, _], _ => rfl
  exact cal_of Fd hm b sc F_judge_unsure fun A outer s H E hr => ⟨_, (pss_cons (ps_if (PW.pt (pw_or (pt_not (pt_val (C8.pe_c c_is_integer hr (by decide) (by rfl) (pa_cons (pv 2) (pa_cons pe_int (pa_cons (C8.pe_gc (by rfl) B.mostEnd) pa_nil)))))) (pw_or1 (pt_not (pt_val (C8.pe_c c_is_integer hr (by decide) (by rfl) (pa_cons (pv 1) (pa_cons pe_int (pa_cons (pv 2) pa_nil)))))))))
      (pss_one (ps_ret pe_bl))
      pss_nil)
    (pss_cons (ps_if (PW.pt (pw_or (pt_not (pt_val (C8.pe_c c_is_row hr (by decide) (by rfl) (pa_cons (pv 3) (pa_cons (pe_ix (ix2 (K := K)) (pv 0) pe_int (fun _ _ => rfl)) pa_nil))))) (pw_or1 (pt_not (pt_val (C8.pe_c c_is_within hr (by decide) (by rfl) (pa_cons (pe_ix (ix2 (K := K)) (pv 0) pe_int (fun _ _ => rfl)) (pa_cons (pv 3) pa_nil))))))))
      (pss_one (ps_ret pe_bl))
      pss_nil)
    (pss_cons (ps_set (i := 4) sc.nd rfl (Or.inl rfl) (pe_callB (cr_sum rfl) (by rfl) B.sum_ bt_sum (pa_cons (pe_lc (own := [("penalty", 5), ("count", 6)]) rfl sc.nd (RZ.pi_zipA (by rfl) B.zip_ (pa_cons (C8.pe_c c_penalties hr (by decide) (by rfl) (pa_cons (pv 0) (pa_cons (pv 1) (pa_cons (pv 2) pa_nil)))) (pa_cons (pv 3) pa_nil))) (blkOk_by (own := [("penalty", 5), ("count", 6)]) (N := N_judge_unsure) (sc := defScope s_judge_unsure) (by decide +kernel)) (fun _ _ _ _ _ => (pg_tupK (K := K) (n := 2) rfl (pgs_cons (pg_name (i := 5) sc.nd rfl (Or.inl rfl) (Or.inr rfl)) (pgs_cons (pg_name (i := 6) sc.nd rfl (Or.inl rfl) (Or.inr rfl)) pgs_nil)))) (fun _ _ _ _ _ => pts_nil) (fun _ _ _ _ _ => (pe_op op_mul (pv 5) (pv 6)))) pa_nil)))
    (pss_one (ps_ret (pe_cmpR op_gt (pe_op op_add (C8.pe_c c_demand hr (by decide) (by rfl) (pa_cons (pv 0) (pa_cons (pv 1) (pa_cons (pv 2) pa_nil)))) (pv 4)) (pe_op op_sub (pv 2) (pv 1)) (nomark _))))))),
    (ev_seq (ev_if (ev_tor (ev_tnot (ev_B (ev_call (ev_cons ev_var (ev_cons ev_int (ev_cons ev_int ev_nil)))))) (ev_tnot (ev_B (ev_call (ev_cons ev_var (ev_cons ev_int (ev_cons ev_var ev_nil)))))))
      (ev_ret ev_bl)
      ev_next)
    (ev_seq (ev_if (ev_tor (ev_tnot (ev_B (ev_call (ev_cons ev_var (ev_cons (ev_op o_ix ev_var ev_int) ev_nil))))) (ev_tnot (ev_B (ev_call (ev_cons (ev_op o_ix ev_var ev_int) (ev_cons ev_var ev_nil))))))
      (ev_ret ev_bl)
      ev_next)
    (ev_seq (ev_asg (ev_cb c_sum (ev_cons (ev_lc (ev_zip (ev_cons (ev_call (ev_cons ev_var (ev_cons ev_var (ev_cons ev_var ev_nil)))) (ev_cons ev_var ev_nil))) tg_two ev_yes (ev_op o_mul ev_var ev_var) (by decide)) ev_nil)))
    (ev_ret (ev_op o_gt (ev_op o_add (ev_call (ev_cons ev_var (ev_cons ev_var (ev_cons ev_var ev_nil)))) ev_var) (ev_op o_sub ev_var ev_var))))))⟩
abbrev N_judge : List Str := ["system", "paper"]
theorem sc_judge : FnScope N_judge ["system", "paper"] (defScope s_judge) := ⟨rfl, rfl, rfl, by decide +kernel, rfl, by decide +kernel, by decide +kernel⟩

theorem cal_judge {f : Addr} {fd : FuncData} {Ct : Addr} (B : Bt mg) (c_judge_sure : C8.Cal P w K mg base 5 "judge_sure" (spOf K Pt D_judge_sure) []) (c_judge_unsure : C8.Cal P w K mg base 4 "judge_unsure" (spOf K Pt D_judge_unsure) []) (Fd : FnP K "judge" s_judge f fd) (hm : mg "judge" = some (.ref f)) : C8.Cal P w K mg base 6 "judge" (spOf K Pt D_judge) [] := by
  have sc := sc_judge
  have b : Binds K fd ["system", "paper"] [] := Fd.bindsN fun _ _ _ _ _ _ us hl => match us, hl with | [_, _], _ => rfl
  exact cal_of Fd hm b sc F_judge fun A outer s H E hr => ⟨_, (pss_cons (ps_if (PW.pt (pw_or (pt_not (pt_val (pe_callB call_isi (by rfl) B.isinstance_ bt_isinstance (pa_cons (pv 1) (pa_cons (pe_bltn (v := .ty "tuple") (by rfl) B.tuple_ (by decide +kernel) rfl) pa_nil))))) (pw_or1 (pt_cmpR op_eq (pe_callB (len_seqK (K := K)) (by rfl) B.len_ bt_len (pa_cons (pv 1) pa_nil)) pe_int (nomark _)))))
      (pss_one (ps_ret pe_bl))
      pss_nil)
    (pss_cons (ps_if (PW.pt (pw_and (pt_cmpR op_eq (pe_ix (ix2 (K := K)) (pv 1) pe_int (fun _ _ => rfl)) pe_str (nomark _)) (pw_and1 (pt_cmpR op_eq (pe_callB (len_seqK (K := K)) (by rfl) B.len_ bt_len (pa_cons (pv 1) pa_nil)) pe_int (nomark _)))))
      (pss_one (ps_ret (C8.pe_c c_judge_sure hr (by decide) (by rfl) (pa_cons (pv 0) (pa_cons (pe_ix (ix2 (K := K)) (pv 1) pe_int (fun _ _ => rfl)) pa_nil)))))
      pss_nil)
    (pss_cons (ps_if (PW.pt (pw_and (pt_cmpR op_eq (pe_ix (ix2 (K := K)) (pv 1) pe_int (fun _ _ => rfl)) pe_str (nomark _)) (pw_and1 (pt_cmpR op_eq (pe_callB (len_seqK (K := K)) (by rfl) B.len_ bt_len (pa_cons (pv 1) pa_nil)) pe_int (nomark _)))))
      (pss_one (ps_ret (C8.pe_c c_judge_unsure hr (by decide) (by rfl) (pa_cons (pv 0) (pa_cons (pe_ix (ix2 (K := K)) (pv 1) pe_int (fun _ _ => rfl)) (pa_cons (pe_ix (ix2 (K := K)) (pv 1) pe_int (fun _ _ => rfl)) (pa_cons (pe_ix (ix2 (K := K)) (pv 1) pe_int (fun _ _ => rfl)) pa_nil)))))))
      pss_nil)
    (pss_one (ps_ret pe_bl))))),
    (ev_seq (ev_if (ev_tor (ev_tnot (ev_B (ev_cb c_isi (ev_cons ev_var (ev_cons ev_ty ev_nil))))) (ev_test (ev_op o_eq (ev_cb c_len (ev_cons ev_var ev_nil)) ev_int)))
      (ev_ret ev_bl)
      ev_next)
    (ev_seq (ev_if (ev_tand (ev_test (ev_op o_eq (ev_op o_ix ev_var ev_int) ev_str)) (ev_test (ev_op o_eq (ev_cb c_len (ev_cons ev_var ev_nil)) ev_int)))
      (ev_ret (ev_call (ev_cons ev_var (ev_cons (ev_op o_ix ev_var ev_int) ev_nil))))
      ev_next)
    (ev_seq (ev_if (ev_tand (ev_test (ev_op o_eq (ev_op o_ix ev_var ev_int) ev_str)) (ev_test (ev_op o_eq (ev_cb c_len (ev_cons ev_var ev_nil)) ev_int)))
      (ev_ret (ev_call (ev_cons ev_var (ev_cons (ev_op o_ix ev_var ev_int) (ev_cons (ev_op o_ix ev_var ev_int) (ev_cons (ev_op o_ix ev_var ev_int) ev_nil))))))
      ev_next)
    (ev_ret ev_bl))))⟩
abbrev N_looks : List Str := ["system", "horizon", "found", "s", "e"]
theorem sc_looks : FnScope N_looks ["system"] (defScope s_looks) := ⟨rfl, rfl, rfl, by decide +kernel, rfl, by decide +kernel, by decide +kernel⟩

theorem cal_looks {f : Addr} {fd : FuncData} {Ct : Addr} (B : Bt mg) (c_horizon_of : C8.Cal P w K mg base 4 "horizon_of" (spOf K Pt D_horizon_of) []) (c_latest_of : C8.Cal P w K mg base 1 "latest_of" (spOf K Pt D_latest_of) []) (c_ends_of : C8.Cal P w K mg base 1 "ends_of" (spOf K Pt D_ends_of) []) (c_analysis : C8.Cal P w K mg base 4 "analysis" (spOf K Pt D_analysis) []) (Fd : FnP K "looks" s_looks f fd) (hm : mg "looks" = some (.ref f)) : C8.Cal P w K mg base 5 "looks" (spOf K Pt D_looks) [] := by
  have sc := sc_looks
  have b : Binds K fd ["system"] [] := Fd.bindsN fun _ _ _ _ _ _ us hl => match us, hl with | [_], _ => rfl
  exact cal_of Fd hm b sc F_looks fun A outer s H E hr => ⟨_, (pss_cons (ps_set (i := 1) sc.nd rfl (Or.inl rfl) (C8.pe_c c_horizon_of hr (by decide) (by rfl) (pa_cons (pv 0) pa_nil)))
    (pss_cons (ps_set (i := 2) sc.nd rfl (Or.inl rfl) (pe_lst pa_nil))
    (pss_cons (ps_for PassesOwn.never rfl (pi_range1 (by rfl) B.range_ (pa_cons (pe_op op_add (C8.pe_c c_latest_of hr (by decide) (by rfl) (pa_cons (pv 0) pa_nil)) pe_int) pa_nil)) (pg_name (i := 3) sc.nd rfl (Or.inl rfl) (Or.inl rfl))
      (pss_one (ps_for PassesOwn.never rfl (pi_list (C8.pe_c c_ends_of hr (by decide) (by rfl) (pa_cons (pv 0) (pa_cons (pv 3) (pa_cons (pe_op op_add (pv 3) (pv 1)) pa_nil))))) (pg_name (i := 4) sc.nd rfl (Or.inl rfl) (Or.inl rfl))
        (pss_one (ps_expr (pe_bm PySem.F.plainAttrs_list PySem.F.slot_list_append PySem.F.type_list_append mt_append (pv 2) (pa_cons (pe_tup (pa_cons (pv 3) (pa_cons (pv 4) (pa_cons (C8.pe_c c_analysis hr (by decide) (by rfl) (pa_cons (pv 0) (pa_cons (pv 3) (pa_cons (pv 4) pa_nil)))) pa_nil)))) pa_nil)))))))
    (pss_one (ps_ret (pv 2)))))),
    (ev_seq (ev_asg (ev_call (ev_cons ev_var ev_nil)))
    (ev_seq (ev_asg (ev_lst ev_nil))
    (ev_seq (ev_for (ev_rng1 (ev_cons (ev_op o_add (ev_call (ev_cons ev_var ev_nil)) ev_int) ev_nil)) tg_one
      (ev_for (ev_itM (ev_call (ev_cons ev_var (ev_cons ev_var (ev_cons (ev_op o_add ev_var ev_var) ev_nil))))) tg_one
        (ev_app (ev_tup (ev_cons ev_var (ev_cons ev_var (ev_cons (ev_call (ev_cons ev_var (ev_cons ev_var (ev_cons ev_var ev_nil)))) ev_nil)))))))
    ev_retV)))⟩
abbrev N_is_crowded : List Str := ["system", "s", "e", "need"]
theorem sc_is_crowded : FnScope N_is_crowded ["system", "s", "e"] (defScope s_is_crowded) := ⟨rfl, rfl, rfl, by decide +kernel, rfl, by decide +kernel, by decide +kernel⟩

theorem cal_is_crowded {f : Addr} {fd : FuncData} {Ct : Addr} (B : Bt mg) (c_demand : C8.Cal P w K mg base 3 "demand" (spOf K Pt D_demand) []) (c_worst : C8.Cal P w K mg base 2 "worst" (spOf K Pt D_worst) []) (c_penalties : C8.Cal P w K mg base 2 "penalties" (spOf K Pt D_penalties) []) (Fd : FnP K "is_crowded" s_is_crowded f fd) (hm : mg "is_crowded" = some (.ref f)) : C8.Cal P w K mg base 4 "is_crowded" (spOf K Pt D_is_crowded) [] := by
  have sc := sc_is_crowded
  have b : Binds K fd ["system", "s", "e"] [] := Fd.bindsN fun _ _ _ _ _ _ us hl => match us, hl with | [_, _, _], _ => rfl
  exact cal_of Fd hm b sc F_is_crowded fun A outer s H E hr => ⟨_, (pss_cons (ps_set (i := 3) sc.nd rfl (Or.inl rfl) (C8.pe_c c_demand hr (by decide) (by rfl) (pa_cons (pv 0) (pa_cons (pv 1) (pa_cons (pv 2) pa_nil)))))
    (pss_one (ps_ret (pe_cmpR op_gt (pe_op op_add (pv 3) (pe_ix (ix2 (K := K)) (C8.pe_c c_worst hr (by decide) (by rfl) (pa_cons (pe_ix (ix2 (K := K)) (pv 0) pe_int (fun _ _ => rfl)) (pa_cons (C8.pe_c c_penalties hr (by decide) (by rfl) (pa_cons (pv 0) (pa_cons (pv 1) (pa_cons (pv 2) pa_nil)))) pa_nil))) pe_int (fun _ _ => rfl))) (pe_op op_sub (pv 2) (pv 1)) (nomark _))))),
    (ev_seq (ev_asg (ev_call (ev_cons ev_var (ev_cons ev_var (ev_cons ev_var ev_nil)))))
    (ev_ret (ev_op o_gt (ev_op o_add ev_var (ev_op o_ix (ev_call (ev_cons (ev_op o_ix ev_var ev_int) (ev_cons (ev_call (ev_cons ev_var (ev_cons ev_var (ev_cons ev_var ev_nil)))) ev_nil))) ev_int)) (ev_op o_sub ev_var ev_var))))⟩
abbrev N_is_sure : List Str := ["system", "horizon", "s", "e"]
theorem sc_is_sure : FnScope N_is_sure ["system"] (defScope s_is_sure) := ⟨rfl, rfl, rfl, by decide +kernel, rfl, by decide +kernel, by decide +kernel⟩

theorem cal_is_sure {f : Addr} {fd : FuncData} {Ct : Addr} (B : Bt mg) (c_horizon_of : C8.Cal P w K mg base 4 "horizon_of" (spOf K Pt D_horizon_of) []) (c_latest_of : C8.Cal P w K mg base 1 "latest_of" (spOf K Pt D_latest_of) []) (c_ends_of : C8.Cal P w K mg base 1 "ends_of" (spOf K Pt D_ends_of) []) (c_is_crowded : C8.Cal P w K mg base 4 "is_crowded" (spOf K Pt D_is_crowded) []) (Fd : FnP K "is_sure" s_is_sure f fd) (hm : mg "is_sure" = some (.ref f)) : C8.Cal P w K mg base 5 "is_sure" (spOf K Pt D_is_sure) [] := by
  have sc := sc_is_sure
  have b : Binds K fd ["system"] [] := Fd.bindsN fun _ _ _ _ _ _ us hl => match us, hl with | [_], _ => rfl
  exact cal_of Fd hm b sc F_is_sure fun A outer s H E hr => ⟨_, (pss_cons (ps_set (i := 1) sc.nd rfl (Or.inl rfl) (C8.pe_c c_horizon_of hr (by decide) (by rfl) (pa_cons (pv 0) pa_nil)))
    (pss_cons (ps_for PassesOwn.never rfl (pi_range1 (by rfl) B.range_ (pa_cons (pe_op op_add (C8.pe_c c_latest_of hr (by decide) (by rfl) (pa_cons (pv 0) pa_nil)) pe_int) pa_nil)) (pg_name (i := 2) sc.nd rfl (Or.inl rfl) (Or.inl rfl))
      (pss_one (ps_for PassesOwn.never rfl (pi_list (C8.pe_c c_ends_of hr (by decide) (by rfl) (pa_cons (pv 0) (pa_cons (pv 2) (pa_cons (pe_op op_add (pv 2) (pv 1)) pa_nil))))) (pg_name (i := 3) sc.nd rfl (Or.inl rfl) (Or.inl rfl))
        (pss_one (ps_if (pt_val (C8.pe_c c_is_crowded hr (by decide) (by rfl) (pa_cons (pv 0) (pa_cons (pv 2) (pa_cons (pv 3) pa_nil)))))
          (pss_one (ps_ret pe_bl))
          pss_nil)))))
    (pss_one (ps_ret pe_bl)))),
    (ev_seq (ev_asg (ev_call (ev_cons ev_var ev_nil)))
    (ev_seq (ev_for (ev_rng1 (ev_cons (ev_op o_add (ev_call (ev_cons ev_var ev_nil)) ev_int) ev_nil)) tg_one
      (ev_for (ev_itM (ev_call (ev_cons ev_var (ev_cons ev_var (ev_cons (ev_op o_add ev_var ev_var) ev_nil))))) tg_one
        (ev_if (ev_B (ev_call (ev_cons ev_var (ev_cons ev_var (ev_cons ev_var ev_nil)))))
          (ev_ret ev_bl)
          ev_next)))
    (ev_ret ev_bl)))⟩
abbrev N_paper_of : List Str := ["system", "rows", "s", "e", "told"]
theorem sc_paper_of : FnScope N_paper_of ["system"] (defScope s_paper_of) := ⟨rfl, rfl, rfl, by decide +kernel, rfl, by decide +kernel, by decide +kernel⟩

theorem cal_paper_of {f : Addr} {fd : FuncData} {Ct : Addr} (B : Bt mg) (c_looks : C8.Cal P w K mg base 5 "looks" (spOf K Pt D_looks) []) (Fd : FnP K "paper_of" s_paper_of f fd) (hm : mg "paper_of" = some (.ref f)) : C8.Cal P w K mg base 6 "paper_of" (spOf K Pt D_paper_of) [] := by
  have sc := sc_paper_of
  have b : Binds K fd ["system"] [] := Fd.bindsN fun _ _ _ _ _ _ us hl => match us, hl with | [_], _ => rfl
  exact cal_of Fd hm b sc F_paper_of fun A outer s H E hr => ⟨_, (pss_cons (ps_set (i := 1) sc.nd rfl (Or.inl rfl) (pe_lst pa_nil))
    (pss_cons (ps_for PassesOwn.never rfl (pi_list (C8.pe_c c_looks hr (by decide) (by rfl) (pa_cons (pv 0) pa_nil))) (pg_tupK (K := K) (n := 3) rfl (pgs_cons (pg_name (i := 2) sc.nd rfl (Or.inl rfl) (Or.inl rfl)) (pgs_cons (pg_name (i := 3) sc.nd rfl (Or.inl rfl) (Or.inl rfl)) (pgs_cons (pg_name (i := 4) sc.nd rfl (Or.inl rfl) (Or.inl rfl)) pgs_nil))))
      (pss_cons (ps_if (pt_cmpR op_lt (pe_ix (ix2 (K := K)) (pv 4) pe_int (fun _ _ => rfl)) pe_int (nomark _))
        (pss_one (ps_ret (pe_tup (pa_cons pe_str (pa_cons (pv 2) (pa_cons (pv 3) (pa_cons (pe_ix (ix2 (K := K)) (pv 4) pe_int (fun _ _ => rfl)) pa_nil)))))))
        pss_nil)
      (pss_one (ps_if (pt_cmpR (op_notInD (hu65 hr)) (pe_ix (ix2 (K := K)) (pv 4) pe_int (fun _ _ => rfl)) (pv 1) (by rfl))
        (pss_one (ps_expr (pe_bm PySem.F.plainAttrs_list PySem.F.slot_list_append PySem.F.type_list_append mt_append (pv 1) (pa_cons (pe_ix (ix2 (K := K)) (pv 4) pe_int (fun _ _ => rfl)) pa_nil))))
        pss_nil))))
    (pss_one (ps_ret (pe_tup (pa_cons pe_str (pa_cons (pe_callTy call_tuple_of (by rfl) B.tuple_ bt_tuple (pa_cons (pv 1) pa_nil)) pa_nil))))))),
    (ev_seq (ev_asg (ev_lst ev_nil))
    (ev_seq (ev_for (ev_itM (ev_call (ev_cons ev_var ev_nil))) tg_three
      (ev_seq (ev_if (ev_test (ev_op o_lt (ev_op o_ix ev_var ev_int) ev_int))
        (ev_ret (ev_tup (ev_cons ev_str (ev_cons ev_var (ev_cons ev_var (ev_cons (ev_op o_ix ev_var ev_int) ev_nil))))))
        ev_next)
      (ev_if (ev_test (ev_op o_notin (ev_op o_ix ev_var ev_int) ev_var))
        (ev_app (ev_op o_ix ev_var ev_int))
        ev_next)))
    (ev_ret (ev_tup (ev_cons ev_str (ev_cons (ev_cb c_tup (ev_cons ev_var ev_nil)) ev_nil))))))⟩
abbrev N_law_cell : List Str := ["_law_script", "_law_k"]
theorem sc_law_cell : FnScope N_law_cell ["_law_script", "_law_k"] (defScope s_law_cell) := ⟨rfl, rfl, rfl, by decide +kernel, rfl, by decide +kernel, by decide +kernel⟩

theorem cal_law_cell {f : Addr} {fd : FuncData} {Ct : Addr} (B : Bt mg) (Fd : FnP K "_law_cell" s_law_cell f fd) (hm : mg "_law_cell" = some (.ref f)) : C8.Cal P w K mg base 1 "_law_cell" (spOf K Pt D_law_cell) [] := by
  have sc := sc_law_cell
  have b : Binds K fd ["_law_script", "_law_k"] [] := Fd.bindsN fun _ _ _ _ _ _ us hl => match us, hl with | [_, _], _ => rfl
  exact cal_of Fd hm b sc F_law_cell fun A outer s H E hr => ⟨_, (pss_cons (ps_if (pt_cmpR op_lt (pv 1) (pe_callB (len_seqK (K := K)) (by rfl) B.len_ bt_len (pa_cons (pv 0) pa_nil)) (nomark _))
      (pss_one (ps_ret (pe_ix (ix2 (K := K)) (pv 0) (pv 1) (fun _ _ => rfl))))
      pss_nil)
    (pss_one (ps_ret pe_int))),
    (ev_seq (ev_if (ev_test (ev_op o_lt ev_var (ev_cb c_len (ev_cons ev_var ev_nil))))
      (ev_ret (ev_op o_ix ev_var ev_var))
      ev_next)
    (ev_ret ev_int))⟩
abbrev N_law_digits : List Str := ["_law_script", "_law_first", "_law_last", "_law_digits_here", "_law_k", "_law_cell_here", "_law_turn", "_law_seed"]
theorem sc_law_digits : FnScope N_law_digits ["_law_script", "_law_first", "_law_last"] (defScope s_law_digits) := ⟨rfl, rfl, rfl, by decide +kernel, rfl, by decide +kernel, by decide +kernel⟩

theorem cal_law_digits {f : Addr} {fd : FuncData} {Ct : Addr} (B : Bt mg) (c_law_cell : C8.Cal P w K mg base 1 "_law_cell" (spOf K Pt D_law_cell) []) (Fd : FnP K "_law_digits" s_law_digits f fd) (hm : mg "_law_digits" = some (.ref f)) : C8.Cal P w K mg base 2 "_law_digits" (spOf K Pt D_law_digits) [] := by
  have sc := sc_law_digits
  have b : Binds K fd ["_law_script", "_law_first", "_law_last"] [] := Fd.bindsN fun _ _ _ _ _ _ us hl => match us, hl with | [_, _, _], _ => rfl
  exact cal_of Fd hm b sc F_law_digits fun A outer s H E hr => ⟨_, (pss_cons (ps_set (i := 3) sc.nd rfl (Or.inl rfl) (pe_lst pa_nil))
    (pss_cons (ps_for PassesOwn.never rfl (pi_range2 (by rfl) B.range_ (pa_cons (pv 1) (pa_cons (pv 2) pa_nil))) (pg_name (i := 4) sc.nd rfl (Or.inl rfl) (Or.inl rfl))
      (pss_cons (ps_set (i := 5) sc.nd rfl (Or.inl rfl) (C8.pe_c c_law_cell hr (by decide) (by rfl) (pa_cons (pv 0) (pa_cons (pv 4) pa_nil))))
      (pss_cons (ps_if (pt_cmpR op_lt (pv 5) pe_int (nomark _))
        (pss_one (ps_set (i := 5) sc.nd rfl (Or.inl rfl) (pe_op op_sub pe_int (pe_op op_mul pe_int (pv 5)))))
        pss_nil)
      (pss_one (ps_if (pt_cmpR op_ge (pv 5) (pe_op op_pow pe_int pe_int) (nomark _))
        (pss_one (ps_for PassesOwn.never rfl (pi_range1 (by rfl) B.range_ (pa_cons pe_int pa_nil)) (pg_name (i := 6) sc.nd rfl (Or.inl rfl) (Or.inl rfl))
          (pss_one (ps_if (pt_cmpR op_gt (pv 5) pe_int (nomark _))
            (pss_cons (ps_expr (pe_bm PySem.F.plainAttrs_list PySem.F.slot_list_append PySem.F.type_list_append mt_append (pv 3) (pa_cons (pe_op op_mod (pe_callTy call_int1 (by rfl) B.int_ bt_int (pa_cons (pv 5) pa_nil)) pe_int) pa_nil)))
            (pss_one (ps_set (i := 5) sc.nd rfl (Or.inl rfl) (pe_op op_fdiv (pv 5) pe_int))))
            pss_nil))))
        (pss_cons (ps_set (i := 7) sc.nd rfl (Or.inl rfl) (pe_op op_mod (pe_callTy call_int1 (by rfl) B.int_ bt_int (pa_cons (pe_op op_add (pe_op op_add (pe_op op_mul (pv 5) pe_int) (pe_op op_mul (pv 4) pe_int)) pe_int) pa_nil)) pe_int))
        (pss_one (ps_for PassesOwn.never rfl (pi_range1 (by rfl) B.range_ (pa_cons pe_int pa_nil)) (pg_name (i := 6) sc.nd rfl (Or.inl rfl) (Or.inl rfl))
          (pss_cons (ps_set (i := 7) sc.nd rfl (Or.inl rfl) (pe_op op_mod (pe_callTy call_int1 (by rfl) B.int_ bt_int (pa_cons (pe_op op_add (pe_op op_add (pe_op op_mul (pv 7) pe_int) (pe_op op_mul pe_int (pv 6))) pe_int) pa_nil)) pe_int))
          (pss_one (ps_expr (pe_bm PySem.F.plainAttrs_list PySem.F.slot_list_append PySem.F.type_list_append mt_append (pv 3) (pa_cons (pe_op op_mod (pe_callTy call_int1 (by rfl) B.int_ bt_int (pa_cons (pe_op op_fdiv (pv 7) pe_int) pa_nil)) pe_int) pa_nil)))))))))))))
    (pss_one (ps_ret (pv 3))))),
    (ev_seq (ev_asg (ev_lst ev_nil))
    (ev_seq (ev_for (ev_rng2 (ev_cons ev_var (ev_cons ev_var ev_nil))) tg_one
      (ev_seq (ev_asg (ev_call (ev_cons ev_var (ev_cons ev_var ev_nil))))
      (ev_seq (ev_if (ev_test (ev_op o_lt ev_var ev_int))
        (ev_asg (ev_op o_sub ev_int (ev_op o_mul ev_int ev_var)))
        ev_next)
      (ev_if (ev_test (ev_op o_ge ev_var (ev_op o_pow ev_int ev_int)))
        (ev_for (ev_rng1 (ev_cons ev_int ev_nil)) tg_one
          (ev_if (ev_test (ev_op o_gt ev_var ev_int))
            (ev_seq (ev_app (ev_op o_mod (ev_cb c_int1 (ev_cons ev_var ev_nil)) ev_int))
            (ev_asg (ev_op o_div ev_var ev_int)))
            ev_next))
        (ev_seq (ev_asg (ev_op o_mod (ev_cb c_int1 (ev_cons (ev_op o_add (ev_op o_add (ev_op o_mul ev_var ev_int) (ev_op o_mul ev_var ev_int)) ev_int) ev_nil)) ev_int))
        (ev_for (ev_rng1 (ev_cons ev_int ev_nil)) tg_one
          (ev_seq (ev_asg (ev_op o_mod (ev_cb c_int1 (ev_cons (ev_op o_add (ev_op o_add (ev_op o_mul ev_var ev_int) (ev_op o_mul ev_int ev_var)) ev_int) ev_nil)) ev_int))
          (ev_app (ev_op o_mod (ev_cb c_int1 (ev_cons (ev_op o_div ev_var ev_int) ev_nil)) ev_int)))))))))
    ev_retV))⟩
abbrev N_law_draw : List Str := ["_law_box", "_law_many", "_law_at"]
theorem sc_law_draw : FnScope N_law_draw ["_law_box", "_law_many"] (defScope s_law_draw) := ⟨rfl, rfl, rfl, by decide +kernel, rfl, by decide +kernel, by decide +kernel⟩

theorem cal_law_draw {f : Addr} {fd : FuncData} {Ct : Addr} (B : Bt mg) (Fd : FnP K "_law_draw" s_law_draw f fd) (hm : mg "_law_draw" = some (.ref f)) : C8.Cal P w K mg base 1 "_law_draw" (spOf K Pt D_law_draw) [] := by
  have sc := sc_law_draw
  have b : Binds K fd ["_law_box", "_law_many"] [] := Fd.bindsN fun _ _ _ _ _ _ us hl => match us, hl with | [_, _], _ => rfl
  exact cal_of Fd hm b sc F_law_draw fun A outer s H E hr => ⟨_, (pss_cons (ps_set (i := 2) sc.nd rfl (Or.inl rfl) (pe_ix (ix2 (K := K)) (pv 0) pe_int (fun _ _ => rfl)))
    (pss_cons (ps_asg (pe_op op_add (pv 2) pe_int) (pg_sub (pv 0) pe_int set_list))
    (pss_cons (ps_if (pt_cmpR op_lt (pv 2) (pe_callB (len_seqK (K := K)) (by rfl) B.len_ bt_len (pa_cons (pe_ix (ix2 (K := K)) (pv 0) pe_int (fun _ _ => rfl)) pa_nil)) (nomark _))
      (pss_one (ps_ret (pe_op op_mod (pe_callTy call_int1 (by rfl) B.int_ bt_int (pa_cons (pe_ix (ix2 (K := K)) (pe_ix (ix2 (K := K)) (pv 0) pe_int (fun _ _ => rfl)) (pv 2) (fun _ _ => rfl)) pa_nil)) (pv 1))))
      pss_nil)
    (pss_one (ps_ret pe_int))))),
    (ev_seq (ev_asg ev_boxPos)
    (ev_seq (ev_boxSet (ev_op o_add ev_var ev_int))
    (ev_seq (ev_if (ev_test (ev_op o_lt ev_var (ev_cb c_len (ev_cons ev_boxL ev_nil))))
      (ev_ret (ev_op o_mod (ev_cb c_int1 (ev_cons (ev_op o_ix ev_boxL ev_var) ev_nil)) ev_var))
      ev_next)
    (ev_ret ev_int))))⟩
abbrev N_law_pick : List Str := ["_law_box", "_law_things"]
theorem sc_law_pick : FnScope N_law_pick ["_law_box", "_law_things"] (defScope s_law_pick) := ⟨rfl, rfl, rfl, by decide +kernel, rfl, by decide +kernel, by decide +kernel⟩

theorem cal_law_pick {f : Addr} {fd : FuncData} {Ct : Addr} (B : Bt mg) (c_law_draw : C8.Cal P w K mg base 1 "_law_draw" (spOf K Pt D_law_draw) []) (Fd : FnP K "_law_pick" s_law_pick f fd) (hm : mg "_law_pick" = some (.ref f)) : C8.Cal P w K mg base 2 "_law_pick" (spOf K Pt D_law_pick) [] := by
  have sc := sc_law_pick
  have b : Binds K fd ["_law_box", "_law_things"] [] := Fd.bindsN fun _ _ _ _ _ _ us hl => match us, hl with | [_, _], _ => rfl
  exact cal_of Fd hm b sc F_law_pick fun A outer s H E hr => ⟨_, (pss_one (ps_ret (pe_ix (ix2 (K := K)) (pv 1) (pe_op op_mod (pe_callTy call_int1 (by rfl) B.int_ bt_int (pa_cons (C8.pe_c c_law_draw hr (by decide) (by rfl) (pa_cons (pv 0) (pa_cons pe_int pa_nil))) pa_nil)) (pe_callB (len_seqK (K := K)) (by rfl) B.len_ bt_len (pa_cons (pv 1) pa_nil))) (fun _ _ => rfl)))),
    (ev_ret (ev_op o_ix ev_var (ev_op o_mod (ev_cb c_int1 (ev_cons (ev_call (ev_cons ev_var (ev_cons ev_int ev_nil))) ev_nil)) (ev_cb c_len (ev_cons ev_var ev_nil)))))⟩
abbrev N_law_same : List Str := ["_law_actual", "_law_due"]
theorem sc_law_same : FnScope N_law_same ["_law_actual", "_law_due"] (defScope s_law_same) := ⟨rfl, rfl, rfl, by decide +kernel, rfl, by decide +kernel, by decide +kernel⟩

theorem cal_law_same {f : Addr} {fd : FuncData} {Ct : Addr} (B : Bt mg) (Fd : FnP K "_law_same" s_law_same f fd) (hm : mg "_law_same" = some (.ref f)) : C8.Cal P w K mg base 1 "_law_same" (spOf K Pt D_law_same) [] := by
  have sc := sc_law_same
  have b : Binds K fd ["_law_actual", "_law_due"] [] := Fd.bindsN fun _ _ _ _ _ _ us hl => match us, hl with | [_, _], _ => rfl
  exact cal_of Fd hm b sc F_law_same fun A outer s H E hr => ⟨_, (pss_one (ps_ret (pe_cmpR op_eq (pe_callB call_repr_bl (by rfl) B.repr_ bt_repr (pa_cons (pv 0) pa_nil)) (pe_callB call_repr_bl (by rfl) B.repr_ bt_repr (pa_cons (pv 1) pa_nil)) (nomark _)))),
    (ev_ret (ev_op o_eq (ev_cb c_repr (ev_cons ev_var ev_nil)) (ev_cb c_repr (ev_cons ev_var ev_nil))))⟩
abbrev N_law_path : List Str := ["_law_budgets", "_law_k", "_law_path_here", "_law_turn"]
theorem sc_law_path : FnScope N_law_path ["_law_budgets", "_law_k"] (defScope s_law_path) := ⟨rfl, rfl, rfl, by decide +kernel, rfl, by decide +kernel, by decide +kernel⟩

theorem cal_law_path {f : Addr} {fd : FuncData} {Ct : Addr} (B : Bt mg) (Fd : FnP K "_law_path" s_law_path f fd) (hm : mg "_law_path" = some (.ref f)) : C8.Cal P w K mg base 1 "_law_path" (spOf K Pt D_law_path) [] := by
  have sc := sc_law_path
  have b : Binds K fd ["_law_budgets", "_law_k"] [] := Fd.bindsN fun _ _ _ _ _ _ us hl => match us, hl with | [_, _], _ => rfl
  exact cal_of Fd hm b sc F_law_path fun A outer s H E hr => ⟨_, (pss_cons (ps_set (i := 2) sc.nd rfl (Or.inl rfl) (pe_lst pa_nil))
    (pss_cons (ps_for PassesOwn.never rfl (pi_range1 (by rfl) B.range_ (pa_cons (pe_callB (len_seqK (K := K)) (by rfl) B.len_ bt_len (pa_cons (pv 0) pa_nil)) pa_nil)) (pg_name (i := 3) sc.nd rfl (Or.inl rfl) (Or.inl rfl))
      (pss_one (ps_if (pt_cmpR op_ge (pv 1) pe_int (nomark _))
        (pss_cons (ps_expr (pe_bm PySem.F.plainAttrs_list PySem.F.slot_list_append PySem.F.type_list_append mt_append (pv 2) (pa_cons (pv 1) pa_nil)))
        (pss_one (ps_set (i := 1) sc.nd rfl (Or.inl rfl) (pe_ix (ix2 (K := K)) (pe_ix (ix2 (K := K)) (pv 0) (pv 1) (fun _ _ => rfl)) pe_int (fun _ _ => rfl)))))
        pss_nil)))
    (pss_one (ps_ret (pv 2))))),
    (ev_seq (ev_asg (ev_lst ev_nil))
    (ev_seq (ev_for (ev_rng1 (ev_cons (ev_cb c_len (ev_cons ev_var ev_nil)) ev_nil)) tg_one
      (ev_if (ev_test (ev_op o_ge ev_var ev_int))
        (ev_seq (ev_app ev_var)
        (ev_asg (ev_op o_ix (ev_op o_ix ev_var ev_var) ev_int)))
        ev_next))
    ev_retV))⟩
abbrev N_law_segments : List Str := ["_law_box", "_law_budgets", "_law_many", "_law_k"]
theorem sc_law_segments : FnScope N_law_segments ["_law_box", "_law_budgets", "_law_many"] (defScope s_law_segments) := ⟨rfl, rfl, rfl, by decide +kernel, rfl, by decide +kernel, by decide +kernel⟩

theorem cal_law_segments {f : Addr} {fd : FuncData} {Ct : Addr} (B : Bt mg) (c_law_draw : C8.Cal P w K mg base 1 "_law_draw" (spOf K Pt D_law_draw) []) (Fd : FnP K "_law_segments" s_law_segments f fd) (hm : mg "_law_segments" = some (.ref f)) : C8.Cal P w K mg base 2 "_law_segments" (spOf K Pt D_law_segments) [] := by
  have sc := sc_law_segments
  have b : Binds K fd ["_law_box", "_law_budgets", "_law_many"] [] := Fd.bindsN fun _ _ _ _ _ _ us hl => match us, hl with | [_, _, _], _ => rfl
  exact cal_of Fd hm b sc F_law_segments fun A outer s H E hr => ⟨_, (pss_one (ps_ret (pe_callTy call_tuple_of (by rfl) B.tuple_ bt_tuple (pa_cons (pe_lc (own := [("_law_k", 3)]) rfl sc.nd (pi_range1 (by rfl) B.range_ (pa_cons (pe_op op_add pe_int (C8.pe_c c_law_draw hr (by decide) (by rfl) (pa_cons (pv 0) (pa_cons pe_int pa_nil)))) pa_nil)) (blkOk_by (own := [("_law_k", 3)]) (N := N_law_segments) (sc := defScope s_law_segments) (by decide +kernel)) (fun _ _ _ _ _ => (pg_name (i := 3) sc.nd rfl (Or.inl rfl) (Or.inr rfl))) (fun _ _ _ _ _ => pts_nil) (fun _ _ _ _ _ => (pe_tup (pa_cons (pe_op op_add pe_int (C8.pe_c c_law_draw hr (by decide) (by rfl) (pa_cons (pv 0) (pa_cons (pv 2) pa_nil)))) (pa_cons (C8.pe_c c_law_draw hr (by decide) (by rfl) (pa_cons (pv 0) (pa_cons (pe_callB (len_seqK (K := K)) (by rfl) B.len_ bt_len (pa_cons (pv 1) pa_nil)) pa_nil))) pa_nil))))) pa_nil)))),
    (ev_ret (ev_cb c_tup (ev_cons (ev_lc (ev_rng1 (ev_cons (ev_op o_add ev_int (ev_call (ev_cons ev_var (ev_cons ev_int ev_nil)))) ev_nil)) tg_one ev_yes (ev_tup (ev_cons (ev_op o_add ev_int (ev_call (ev_cons ev_var (ev_cons ev_var ev_nil)))) (ev_cons (ev_call (ev_cons ev_var (ev_cons (ev_cb c_len (ev_cons ev_var ev_nil)) ev_nil))) ev_nil))) (by decide)) ev_nil)))⟩
abbrev N_law_lengths : List Str := ["_law_item", "_law_segment"]
theorem sc_law_lengths : FnScope N_law_lengths ["_law_item"] (defScope s_law_lengths) := ⟨rfl, rfl, rfl, by decide +kernel, rfl, by decide +kernel, by decide +kernel⟩

theorem cal_law_lengths {f : Addr} {fd : FuncData} {Ct : Addr} (B : Bt mg) (Fd : FnP K "_law_lengths" s_law_lengths f fd) (hm : mg "_law_lengths" = some (.ref f)) : C8.Cal P w K mg base 1 "_law_lengths" (spOf K Pt D_law_lengths) [] := by
  have sc := sc_law_lengths
  have b : Binds K fd ["_law_item"] [] := Fd.bindsN fun _ _ _ _ _ _ us hl => match us, hl with | [_], _ => rfl
  exact cal_of Fd hm b sc F_law_lengths fun A outer s H E hr => ⟨_, (pss_one (ps_ret (pe_callB (cr_sum rfl) (by rfl) B.sum_ bt_sum (pa_cons (pe_lc (own := [("_law_segment", 1)]) rfl sc.nd (pi_tup (pe_ix (ix2 (K := K)) (pv 0) pe_int (fun _ _ => rfl))) (blkOk_by (own := [("_law_segment", 1)]) (N := N_law_lengths) (sc := defScope s_law_lengths) (by decide +kernel)) (fun _ _ _ _ _ => (pg_name (i := 1) sc.nd rfl (Or.inl rfl) (Or.inr rfl))) (fun _ _ _ _ _ => pts_nil) (fun _ _ _ _ _ => (pe_ix (ix2 (K := K)) (pv 1) pe_int (fun _ _ => rfl)))) pa_nil)))),
    (ev_ret (ev_cb c_sum (ev_cons (ev_lc (ev_itT (ev_op o_ix ev_var ev_int)) tg_one ev_yes (ev_op o_ix ev_var ev_int) (by decide)) ev_nil)))⟩
abbrev N_law_work : List Str := ["_law_item"]
theorem sc_law_work : FnScope N_law_work ["_law_item"] (defScope s_law_work) := ⟨rfl, rfl, rfl, by decide +kernel, rfl, by decide +kernel, by decide +kernel⟩

theorem cal_law_work {f : Addr} {fd : FuncData} {Ct : Addr} (B : Bt mg) (c_law_lengths : C8.Cal P w K mg base 1 "_law_lengths" (spOf K Pt D_law_lengths) []) (Fd : FnP K "_law_work" s_law_work f fd) (hm : mg "_law_work" = some (.ref f)) : C8.Cal P w K mg base 2 "_law_work" (spOf K Pt D_law_work) [] := by
  have sc := sc_law_work
  have b : Binds K fd ["_law_item"] [] := Fd.bindsN fun _ _ _ _ _ _ us hl => match us, hl with | [_], _ => rfl
  exact cal_of Fd hm b sc F_law_work fun A outer s H E hr => ⟨_, (pss_one (ps_ret (pe_op op_sub (C8.pe_c c_law_lengths hr (by decide) (by rfl) (pa_cons (pv 0) pa_nil)) (pe_op op_mul (pe_ix (ix2 (K := K)) (pv 0) pe_int (fun _ _ => rfl)) (pe_callTy call_int1 (by rfl) B.int_ bt_int (pa_cons (pe_cmpR op_eq (pe_ix (ix2 (K := K)) (pv 0) pe_int (fun _ _ => rfl)) pe_str (nomark _)) pa_nil)))))),
    (ev_ret (ev_op o_sub (ev_call (ev_cons ev_var ev_nil)) (ev_op o_mul (ev_op o_ix ev_var ev_int) (ev_cb c_int1 (ev_cons (ev_op o_eq (ev_op o_ix ev_var ev_int) ev_str) ev_nil)))))⟩
abbrev N_law_bodies : List Str := ["_law_task", "_law_s", "_law_e", "_law_begin"]
theorem sc_law_bodies : FnScope N_law_bodies ["_law_task", "_law_s", "_law_e"] (defScope s_law_bodies) := ⟨rfl, rfl, rfl, by decide +kernel, rfl, by decide +kernel, by decide +kernel⟩

theorem cal_law_bodies {f : Addr} {fd : FuncData} {Ct : Addr} (B : Bt mg) (Fd : FnP K "_law_bodies" s_law_bodies f fd) (hm : mg "_law_bodies" = some (.ref f)) : C8.Cal P w K mg base 1 "_law_bodies" (spOf K Pt D_law_bodies) [] := by
  have sc := sc_law_bodies
  have b : Binds K fd ["_law_task", "_law_s", "_law_e"] [] := Fd.bindsN fun _ _ _ _ _ _ us hl => match us, hl with | [_, _, _], _ => rfl
  exact cal_of Fd hm b sc F_law_bodies fun A outer s H E hr => ⟨_, (pss_cons (ps_set (i := 3) sc.nd rfl (Or.inl rfl) (pe_callB (call_max2 rfl) (by rfl) B.max_ bt_max (pa_cons (pv 1) (pa_cons (pe_ix (ix2 (K := K)) (pv 0) pe_int (fun _ _ => rfl)) pa_nil))))
    (pss_cons (ps_if (pt_cmpR op_lt (pe_op op_sub (pv 2) (pv 3)) (pe_ix (ix2 (K := K)) (pv 0) pe_int (fun _ _ => rfl)) (nomark _))
      (pss_one (ps_ret pe_int))
      pss_nil)
    (pss_one (ps_ret (pe_op op_add pe_int (pe_op op_fdiv (pe_op op_sub (pe_op op_sub (pv 2) (pv 3)) (pe_ix (ix2 (K := K)) (pv 0) pe_int (fun _ _ => rfl))) (pe_ix (ix2 (K := K)) (pv 0) pe_int (fun _ _ => rfl)))))))),
    (ev_seq (ev_asg (ev_cb c_max2 (ev_cons ev_var (ev_cons (ev_op o_ix ev_var ev_int) ev_nil))))
    (ev_seq (ev_if (ev_test (ev_op o_lt (ev_op o_sub ev_var ev_var) (ev_op o_ix ev_var ev_int)))
      (ev_ret ev_int)
      ev_next)
    (ev_ret (ev_op o_add ev_int (ev_op o_div (ev_op o_sub (ev_op o_sub ev_var ev_var) (ev_op o_ix ev_var ev_int)) (ev_op o_ix ev_var ev_int))))))⟩
abbrev N_law_in : List Str := ["_law_system", "_law_s", "_law_e", "_law_found", "_law_job", "_law_task"]
theorem sc_law_in : FnScope N_law_in ["_law_system", "_law_s", "_law_e"] (defScope s_law_in) := ⟨rfl, rfl, rfl, by decide +kernel, rfl, by decide +kernel, by decide +kernel⟩

theorem cal_law_in {f : Addr} {fd : FuncData} {Ct : Addr} (B : Bt mg) (c_law_bodies : C8.Cal P w K mg base 1 "_law_bodies" (spOf K Pt D_law_bodies) []) (Fd : FnP K "_law_in" s_law_in f fd) (hm : mg "_law_in" = some (.ref f)) : C8.Cal P w K mg base 2 "_law_in" (spOf K Pt D_law_in) [] := by
  have sc := sc_law_in
  have b : Binds K fd ["_law_system", "_law_s", "_law_e"] [] := Fd.bindsN fun _ _ _ _ _ _ us hl => match us, hl with | [_, _, _], _ => rfl
  exact cal_of Fd hm b sc F_law_in fun A outer s H E hr => ⟨_, (pss_cons (ps_setLc (i := 3) (own := [("_law_job", 4)]) rfl sc.nd rfl rfl (sw_true rfl rfl rfl (by decide +kernel)) (pi_tup (pe_ix (ix2 (K := K)) (pv 0) pe_int (fun _ _ => rfl))) (blkOk_by (own := [("_law_job", 4)]) (N := N_law_in) (sc := defScope s_law_in) (by decide +kernel)) (fun _ _ _ _ _ => (pg_name (i := 4) sc.nd rfl (Or.inl rfl) (Or.inr rfl))) (fun _ _ _ _ _ => (pts_one (PW.pt (pw_and (pt_cmpR op_ge (pe_ix (ix2 (K := K)) (pv 4) pe_int (fun _ _ => rfl)) (pv 1) (nomark _)) (pw_and1 (pt_cmpR op_le (pe_ix (ix2 (K := K)) (pv 4) pe_int (fun _ _ => rfl)) (pv 2) (nomark _))))))) (fun _ _ _ _ _ => (pe_tup (pa_cons (pv 4) (pa_cons pe_int pa_nil)))))
    (pss_one (ps_ret (pe_op op_cat (pv 3) (pe_lc (own := [("_law_task", 5)]) rfl sc.nd (pi_tup (pe_ix (ix2 (K := K)) (pv 0) pe_int (fun _ _ => rfl))) (blkOk_by (own := [("_law_task", 5)]) (N := N_law_in) (sc := defScope s_law_in) (by decide +kernel)) (fun _ _ _ _ _ => (pg_name (i := 5) sc.nd rfl (Or.inl rfl) (Or.inr rfl))) (fun _ _ _ _ _ => (pts_one (pt_cmpR op_gt (C8.pe_c c_law_bodies hr (by decide) (by rfl) (pa_cons (pv 5) (pa_cons (pv 1) (pa_cons (pv 2) pa_nil)))) pe_int (nomark _)))) (fun _ _ _ _ _ => (pe_tup (pa_cons (pv 5) (pa_cons (C8.pe_c c_law_bodies hr (by decide) (by rfl) (pa_cons (pv 5) (pa_cons (pv 1) (pa_cons (pv 2) pa_nil)))) pa_nil))))))))),
    (ev_seq (ev_asg (ev_lc (ev_itT (ev_op o_ix ev_var ev_int)) tg_one (ev_tand (ev_test (ev_op o_ge (ev_op o_ix ev_var ev_int) ev_var)) (ev_test (ev_op o_le (ev_op o_ix ev_var ev_int) ev_var))) (ev_tup (ev_cons ev_var (ev_cons ev_int ev_nil))) (by decide)))
    (ev_ret (ev_op o_cat ev_var (ev_lc (ev_itT (ev_op o_ix ev_var ev_int)) tg_one (ev_test (ev_op o_gt (ev_call (ev_cons ev_var (ev_cons ev_var (ev_cons ev_var ev_nil)))) ev_int)) (ev_tup (ev_cons ev_var (ev_cons (ev_call (ev_cons ev_var (ev_cons ev_var (ev_cons ev_var ev_nil)))) ev_nil))) (by decide)))))⟩
abbrev N_law_penalties : List Str := ["_law_system", "_law_s", "_law_e", "_law_found", "_law_pair", "_law_segment"]
theorem sc_law_penalties : FnScope N_law_penalties ["_law_system", "_law_s", "_law_e"] (defScope s_law_penalties) := ⟨rfl, rfl, rfl, by decide +kernel, rfl, by decide +kernel, by decide +kernel⟩

theorem cal_law_penalties {f : Addr} {fd : FuncData} {Ct : Addr} (B : Bt mg) (c_law_in : C8.Cal P w K mg base 2 "_law_in" (spOf K Pt D_law_in) []) (Fd : FnP K "_law_penalties" s_law_penalties f fd) (hm : mg "_law_penalties" = some (.ref f)) : C8.Cal P w K mg base 3 "_law_penalties" (spOf K Pt D_law_penalties) [] := by
  have sc := sc_law_penalties
  have b : Binds K fd ["_law_system", "_law_s", "_law_e"] [] := Fd.bindsN fun _ _ _ _ _ _ us hl => match us, hl with | [_, _, _], _ => rfl
  exact cal_of Fd hm b sc F_law_penalties fun A outer s H E hr => ⟨_, (pss_cons (ps_set (i := 3) sc.nd rfl (Or.inl rfl) (pe_op op_rep (pe_lst (pa_cons pe_int pa_nil)) (pe_callB (len_seqK (K := K)) (by rfl) B.len_ bt_len (pa_cons (pe_ix (ix2 (K := K)) (pv 0) pe_int (fun _ _ => rfl)) pa_nil))))
    (pss_cons (ps_for PassesOwn.never rfl (pi_list (C8.pe_c c_law_in hr (by decide) (by rfl) (pa_cons (pv 0) (pa_cons (pv 1) (pa_cons (pv 2) pa_nil))))) (pg_name (i := 4) sc.nd rfl (Or.inl rfl) (Or.inl rfl))
      (pss_one (ps_for PassesOwn.never rfl (pi_tup (pe_ix (ix2 (K := K)) (pe_ix (ix2 (K := K)) (pv 4) pe_int (fun _ _ => rfl)) pe_int (fun _ _ => rfl))) (pg_name (i := 5) sc.nd rfl (Or.inl rfl) (Or.inl rfl))
        (pss_one (ps_asg (pe_callB (call_max2 rfl) (by rfl) B.max_ bt_max (pa_cons (pe_ix (ix2 (K := K)) (pv 3) (pe_ix (ix2 (K := K)) (pv 5) pe_int (fun _ _ => rfl)) (fun _ _ => rfl)) (pa_cons (pe_ix (ix2 (K := K)) (pv 5) pe_int (fun _ _ => rfl)) pa_nil))) (pg_sub (pv 3) (pe_ix (ix2 (K := K)) (pv 5) pe_int (fun _ _ => rfl)) set_list))))))
    (pss_one (ps_ret (pe_callTy call_tuple_of (by rfl) B.tuple_ bt_tuple (pa_cons (pv 3) pa_nil)))))),
    (ev_seq (ev_asg (ev_op o_rep (ev_lst (ev_cons ev_int ev_nil)) (ev_cb c_len (ev_cons (ev_op o_ix ev_var ev_int) ev_nil))))
    (ev_seq (ev_for (ev_itM (ev_call (ev_cons ev_var (ev_cons ev_var (ev_cons ev_var ev_nil))))) tg_one
      (ev_for (ev_itT (ev_op o_ix (ev_op o_ix ev_var ev_int) ev_int)) tg_one
        (ev_setIx (ev_op o_ix ev_var ev_int) (ev_cb c_max2 (ev_cons (ev_op o_ix ev_var (ev_op o_ix ev_var ev_int)) (ev_cons (ev_op o_ix ev_var ev_int) ev_nil))))))
    (ev_ret (ev_cb c_tup (ev_cons ev_var ev_nil)))))⟩
abbrev N_law_demand : List Str := ["_law_system", "_law_s", "_law_e", "_law_pair"]
theorem sc_law_demand : FnScope N_law_demand ["_law_system", "_law_s", "_law_e"] (defScope s_law_demand) := ⟨rfl, rfl, rfl, by decide +kernel, rfl, by decide +kernel, by decide +kernel⟩

theorem cal_law_demand {f : Addr} {fd : FuncData} {Ct : Addr} (B : Bt mg) (c_law_in : C8.Cal P w K mg base 2 "_law_in" (spOf K Pt D_law_in) []) (c_law_work : C8.Cal P w K mg base 2 "_law_work" (spOf K Pt D_law_work) []) (Fd : FnP K "_law_demand" s_law_demand f fd) (hm : mg "_law_demand" = some (.ref f)) : C8.Cal P w K mg base 3 "_law_demand" (spOf K Pt D_law_demand) [] := by
  have sc := sc_law_demand
  have b : Binds K fd ["_law_system", "_law_s", "_law_e"] [] := Fd.bindsN fun _ _ _ _ _ _ us hl => match us, hl with | [_, _, _], _ => rfl
  exact cal_of Fd hm b sc F_law_demand fun A outer s H E hr => ⟨_, (pss_one (ps_ret (pe_callB (cr_sum rfl) (by rfl) B.sum_ bt_sum (pa_cons (pe_lc (own := [("_law_pair", 3)]) rfl sc.nd (pi_list (C8.pe_c c_law_in hr (by decide) (by rfl) (pa_cons (pv 0) (pa_cons (pv 1) (pa_cons (pv 2) pa_nil))))) (blkOk_by (own := [("_law_pair", 3)]) (N := N_law_demand) (sc := defScope s_law_demand) (by decide +kernel)) (fun _ _ _ _ _ => (pg_name (i := 3) sc.nd rfl (Or.inl rfl) (Or.inr rfl))) (fun _ _ _ _ _ => pts_nil) (fun _ _ _ _ _ => (pe_op op_mul (pe_ix (ix2 (K := K)) (pv 3) pe_int (fun _ _ => rfl)) (C8.pe_c c_law_work hr (by decide) (by rfl) (pa_cons (pe_ix (ix2 (K := K)) (pv 3) pe_int (fun _ _ => rfl)) pa_nil))))) pa_nil)))),
    (ev_ret (ev_cb c_sum (ev_cons (ev_lc (ev_itL (ev_call (ev_cons ev_var (ev_cons ev_var (ev_cons ev_var ev_nil))))) tg_one ev_yes (ev_op o_mul (ev_op o_ix ev_var ev_int) (ev_call (ev_cons (ev_op o_ix ev_var ev_int) ev_nil))) (by decide)) ev_nil)))⟩
abbrev N_law_recovery : List Str := ["_law_budgets", "_law_penalties_here", "_law_left", "_law_total", "_law_height", "_law_k", "_law_path_here", "_law_count", "_law_budget"]
theorem sc_law_recovery : FnScope N_law_recovery ["_law_budgets", "_law_penalties_here"] (defScope s_law_recovery) := ⟨rfl, rfl, rfl, by decide +kernel, rfl, by decide +kernel, by decide +kernel⟩

theorem cal_law_recovery {f : Addr} {fd : FuncData} {Ct : Addr} (B : Bt mg) (c_law_path : C8.Cal P w K mg base 1 "_law_path" (spOf K Pt D_law_path) []) (Fd : FnP K "_law_recovery" s_law_recovery f fd) (hm : mg "_law_recovery" = some (.ref f)) : C8.Cal P w K mg base 2 "_law_recovery" (spOf K Pt D_law_recovery) [] := by
  have sc := sc_law_recovery
  have b : Binds K fd ["_law_budgets", "_law_penalties_here"] [] := Fd.bindsN fun _ _ _ _ _ _ us hl => match us, hl with | [_, _], _ => rfl
  exact cal_of Fd hm b sc F_law_recovery fun A outer s H E hr => ⟨_, (pss_cons (ps_set (i := 2) sc.nd rfl (Or.inr rfl) (pe_lc (own := [("_law_budget", 8)]) rfl sc.nd (pi_tup (pv 0)) (blkOk_by (own := [("_law_budget", 8)]) (N := N_law_recovery) (sc := defScope s_law_recovery) (by decide +kernel)) (fun _ _ _ _ _ => (pg_name (i := 8) sc.nd rfl (Or.inl rfl) (Or.inr rfl))) (fun _ _ _ _ _ => pts_nil) (fun _ _ _ _ _ => (pe_ix (ix2 (K := K)) (pv 8) pe_int (fun _ _ => rfl)))))
    (pss_cons (ps_set (i := 3) sc.nd rfl (Or.inl rfl) pe_int)
    (pss_cons (ps_for PassesOwn.never rfl (pi_list (pe_callB cr_sortedPO (by rfl) B.sorted_ bt_sorted (pa_cons (pe_lc (own := [("_law_k", 5)]) rfl sc.nd (pi_range1 (by rfl) B.range_ (pa_cons (pe_callB (len_seqK (K := K)) (by rfl) B.len_ bt_len (pa_cons (pv 0) pa_nil)) pa_nil)) (blkOk_by (own := [("_law_k", 5)]) (N := N_law_recovery) (sc := defScope s_law_recovery) (by decide +kernel)) (fun _ _ _ _ _ => (pg_name (i := 5) sc.nd rfl (Or.inl rfl) (Or.inr rfl))) (fun _ _ _ _ _ => pts_nil) (fun _ _ _ _ _ => (pe_tup (pa_cons (pe_op op_sub pe_int (pe_ix (ix2 (K := K)) (pv 1) (pv 5) (fun _ _ => rfl))) (pa_cons (pv 5) pa_nil))))) pa_nil))) (pg_name (i := 4) sc.nd rfl (Or.inl rfl) (Or.inl rfl))
      (pss_cons (ps_set (i := 6) sc.nd rfl (Or.inl rfl) (C8.pe_c c_law_path hr (by decide) (by rfl) (pa_cons (pv 0) (pa_cons (pe_ix (ix2 (K := K)) (pv 4) pe_int (fun _ _ => rfl)) pa_nil))))
      (pss_cons (ps_set (i := 7) sc.nd rfl (Or.inl rfl) (pe_callB (cr_min rfl) (by rfl) B.min_ bt_min (pa_cons (pe_lc (own := [("_law_k", 5)]) rfl sc.nd (pi_list (pv 6)) (blkOk_by (own := [("_law_k", 5)]) (N := N_law_recovery) (sc := defScope s_law_recovery) (by decide +kernel)) (fun _ _ _ _ _ => (pg_name (i := 5) sc.nd rfl (Or.inl rfl) (Or.inr rfl))) (fun _ _ _ _ _ => pts_nil) (fun _ _ _ _ _ => (pe_ix (ix2 (K := K)) (pv 2) (pv 5) (fun _ _ => rfl)))) pa_nil)))
      (pss_cons (ps_set (i := 3) sc.nd rfl (Or.inl rfl) (pe_op op_sub (pv 3) (pe_op op_mul (pe_ix (ix2 (K := K)) (pv 4) pe_int (fun _ _ => rfl)) (pv 7))))
      (pss_one (ps_for PassesOwn.never rfl (pi_list (pv 6)) (pg_name (i := 5) sc.nd rfl (Or.inl rfl) (Or.inl rfl))
        (pss_one (ps_asg (pe_op op_sub (pe_ix (ix2 (K := K)) (pv 2) (pv 5) (fun _ _ => rfl)) (pv 7)) (pg_sub (pv 2) (pv 5) set_list)))))))))
    (pss_one (ps_ret (pv 3)))))),
    (ev_seq (ev_asg (ev_lc (ev_itT ev_var) tg_one ev_yes (ev_op o_ix ev_var ev_int) (by decide)))
    (ev_seq (ev_asg ev_int)
    (ev_seq (ev_for (ev_itM (ev_cb c_sortP (ev_cons (ev_lc (ev_rng1 (ev_cons (ev_cb c_len (ev_cons ev_var ev_nil)) ev_nil)) tg_one ev_yes (ev_tup (ev_cons (ev_op o_sub ev_int (ev_op o_ix ev_var ev_var)) (ev_cons ev_var ev_nil))) (by decide)) ev_nil))) tg_one
      (ev_seq (ev_asg (ev_call (ev_cons ev_var (ev_cons (ev_op o_ix ev_var ev_int) ev_nil))))
      (ev_seq (ev_asg (ev_cb c_min (ev_cons (ev_lc (ev_itL ev_var) tg_one ev_yes (ev_op o_ix ev_var ev_var) (by decide)) ev_nil)))
      (ev_seq (ev_asg (ev_op o_sub ev_var (ev_op o_mul (ev_op o_ix ev_var ev_int) ev_var)))
      (ev_down (ev_for ev_itV tg_one
        (ev_setIx ev_var (ev_op o_sub (ev_op o_ix ev_var ev_var) ev_var))))))))
    ev_retV)))⟩
abbrev N_law_slack : List Str := ["_law_system", "_law_s", "_law_e"]
theorem sc_law_slack : FnScope N_law_slack ["_law_system", "_law_s", "_law_e"] (defScope s_law_slack) := ⟨rfl, rfl, rfl, by decide +kernel, rfl, by decide +kernel, by decide +kernel⟩

theorem cal_law_slack {f : Addr} {fd : FuncData} {Ct : Addr} (B : Bt mg) (c_law_demand : C8.Cal P w K mg base 3 "_law_demand" (spOf K Pt D_law_demand) []) (c_law_recovery : C8.Cal P w K mg base 2 "_law_recovery" (spOf K Pt D_law_recovery) []) (c_law_penalties : C8.Cal P w K mg base 3 "_law_penalties" (spOf K Pt D_law_penalties) []) (Fd : FnP K "_law_slack" s_law_slack f fd) (hm : mg "_law_slack" = some (.ref f)) : C8.Cal P w K mg base 4 "_law_slack" (spOf K Pt D_law_slack) [] := by
  have sc := sc_law_slack
  have b : Binds K fd ["_law_system", "_law_s", "_law_e"] [] := Fd.bindsN fun _ _ _ _ _ _ us hl => match us, hl with | [_, _, _], _ => rfl
  exact cal_of Fd hm b sc F_law_slack fun A outer s H E hr => ⟨_, (pss_one (ps_ret (pe_op op_sub (pe_op op_sub (pe_op op_sub (pv 2) (pv 1)) (C8.pe_c c_law_demand hr (by decide) (by rfl) (pa_cons (pv 0) (pa_cons (pv 1) (pa_cons (pv 2) pa_nil))))) (C8.pe_c c_law_recovery hr (by decide) (by rfl) (pa_cons (pe_ix (ix2 (K := K)) (pv 0) pe_int (fun _ _ => rfl)) (pa_cons (C8.pe_c c_law_penalties hr (by decide) (by rfl) (pa_cons (pv 0) (pa_cons (pv 1) (pa_cons (pv 2) pa_nil)))) pa_nil)))))),
    (ev_ret (ev_op o_sub (ev_op o_sub (ev_op o_sub ev_var ev_var) (ev_call (ev_cons ev_var (ev_cons ev_var (ev_cons ev_var ev_nil))))) (ev_call (ev_cons (ev_op o_ix ev_var ev_int) (ev_cons (ev_call (ev_cons ev_var (ev_cons ev_var (ev_cons ev_var ev_nil)))) ev_nil)))))⟩
abbrev N_law_little : List Str := ["_law_box", "_law_budgets", "_law_k", "_law_jobs", "_law_segments_here", "_law_release", "_law_job", "_law_tasks", "_law_gap"]
theorem sc_law_little : FnScope N_law_little ["_law_box"] (defScope s_law_little) := ⟨rfl, rfl, rfl, by decide +kernel, rfl, by decide +kernel, by decide +kernel⟩

theorem cal_law_little {f : Addr} {fd : FuncData} {Ct : Addr} (B : Bt mg) (c_law_draw : C8.Cal P w K mg base 1 "_law_draw" (spOf K Pt D_law_draw) []) (c_law_segments : C8.Cal P w K mg base 2 "_law_segments" (spOf K Pt D_law_segments) []) (c_law_pick : C8.Cal P w K mg base 2 "_law_pick" (spOf K Pt D_law_pick) []) (c_law_lengths : C8.Cal P w K mg base 1 "_law_lengths" (spOf K Pt D_law_lengths) []) (Fd : FnP K "_law_little" s_law_little f fd) (hm : mg "_law_little" = some (.ref f)) : C8.Cal P w K mg base 3 "_law_little" (spOf K Pt D_law_little) [] := by
  have sc := sc_law_little
  have b : Binds K fd ["_law_box"] [] := Fd.bindsN fun _ _ _ _ _ _ us hl => match us, hl with | [_], _ => rfl
  exact cal_of Fd hm b sc F_law_little fun A outer s H E hr => ⟨_, (pss_cons (ps_set (i := 1) sc.nd rfl (Or.inl rfl) (pe_tup pa_nil))
    (pss_cons (ps_for PassesOwn.never rfl (pi_range1 (by rfl) B.range_ (pa_cons (pe_op op_add pe_int (C8.pe_c c_law_draw hr (by decide) (by rfl) (pa_cons (pv 0) (pa_cons pe_int pa_nil)))) pa_nil)) (pg_name (i := 2) sc.nd rfl (Or.inl rfl) (Or.inl rfl))
      (pss_one (ps_set (i := 1) sc.nd rfl (Or.inl rfl) (pe_op op_catA (pv 1) (pe_tup (pa_cons (pe_tup (pa_cons (pe_op op_add_str pe_str (pe_ix ix_str pe_str (pv 2) (fun _ _ => rfl))) (pa_cons (C8.pe_c c_law_draw hr (by decide) (by rfl) (pa_cons (pv 0) (pa_cons pe_int pa_nil))) (pa_cons (pe_op op_sub (C8.pe_c c_law_draw hr (by decide) (by rfl) (pa_cons (pv 0) (pa_cons (pe_op op_add (pv 2) pe_int) pa_nil))) pe_int) pa_nil)))) pa_nil))))))
    (pss_cons (ps_set (i := 3) sc.nd rfl (Or.inl rfl) (pe_tup pa_nil))
    (pss_cons (ps_for PassesOwn.never rfl (pi_range1 (by rfl) B.range_ (pa_cons (C8.pe_c c_law_draw hr (by decide) (by rfl) (pa_cons (pv 0) (pa_cons pe_int pa_nil))) pa_nil)) (pg_name (i := 2) sc.nd rfl (Or.inl rfl) (Or.inl rfl))
      (pss_cons (ps_set (i := 4) sc.nd rfl (Or.inl rfl) (C8.pe_c c_law_segments hr (by decide) (by rfl) (pa_cons (pv 0) (pa_cons (pv 1) (pa_cons pe_int pa_nil)))))
      (pss_cons (ps_set (i := 5) sc.nd rfl (Or.inl rfl) (C8.pe_c c_law_draw hr (by decide) (by rfl) (pa_cons (pv 0) (pa_cons pe_int pa_nil))))
      (pss_cons (ps_set (i := 6) sc.nd rfl (Or.inl rfl) (pe_tup (pa_cons pe_str (pa_cons (pe_op op_add_str pe_str (pe_ix ix_str pe_str (pv 2) (fun _ _ => rfl))) (pa_cons (pv 5) (pa_cons (pe_op op_add (pe_op op_add (pv 5) pe_int) (C8.pe_c c_law_draw hr (by decide) (by rfl) (pa_cons (pv 0) (pa_cons pe_int pa_nil)))) (pa_cons pe_int (pa_cons (pv 4) pa_nil))))))))
      (pss_cons (ps_if (pt_cmpR op_eq (C8.pe_c c_law_draw hr (by decide) (by rfl) (pa_cons (pv 0) (pa_cons pe_int pa_nil))) pe_int (nomark _))
        (pss_one (ps_set (i := 6) sc.nd rfl (Or.inl rfl) (pe_op op_catA (pe_slice sl_tupA (pv 6) po_none (po_some pe_int)) (pe_tup (pa_cons (C8.pe_c c_law_draw hr (by decide) (by rfl) (pa_cons (pv 0) (pa_cons (pe_op op_add (pe_ix (ix2 (K := K)) (pe_ix (ix2 (K := K)) (pv 4) pe_int (fun _ _ => rfl)) pe_int (fun _ _ => rfl)) pe_int) pa_nil))) (pa_cons (pv 4) pa_nil))))))
        pss_nil)
      (pss_one (ps_set (i := 3) sc.nd rfl (Or.inl rfl) (pe_op op_catA (pv 3) (pe_tup (pa_cons (pv 6) pa_nil))))))))))
    (pss_cons (ps_set (i := 7) sc.nd rfl (Or.inl rfl) (pe_tup pa_nil))
    (pss_cons (ps_for PassesOwn.never rfl (pi_range1 (by rfl) B.range_ (pa_cons (C8.pe_c c_law_pick hr (by decide) (by rfl) (pa_cons (pv 0) (pa_cons (pe_lst (pa_cons pe_int (pa_cons pe_int (pa_cons pe_int (pa_cons pe_int pa_nil))))) pa_nil))) pa_nil)) (pg_name (i := 2) sc.nd rfl (Or.inl rfl) (Or.inl rfl))
      (pss_cons (ps_set (i := 4) sc.nd rfl (Or.inl rfl) (C8.pe_c c_law_segments hr (by decide) (by rfl) (pa_cons (pv 0) (pa_cons (pv 1) (pa_cons pe_int pa_nil)))))
      (pss_cons (ps_set (i := 8) sc.nd rfl (Or.inl rfl) (pe_op op_add (pe_op op_add (pe_op op_mul (C8.pe_c c_law_lengths hr (by decide) (by rfl) (pa_cons (pe_tup (pa_cons pe_int (pa_cons pe_int (pa_cons pe_int (pa_cons pe_int (pa_cons pe_int (pa_cons (pv 4) pa_nil))))))) pa_nil)) (pe_op op_add pe_int (C8.pe_c c_law_draw hr (by decide) (by rfl) (pa_cons (pv 0) (pa_cons pe_int pa_nil))))) pe_int) (C8.pe_c c_law_draw hr (by decide) (by rfl) (pa_cons (pv 0) (pa_cons pe_int pa_nil)))))
      (pss_one (ps_set (i := 7) sc.nd rfl (Or.inl rfl) (pe_op op_catA (pv 7) (pe_tup (pa_cons (pe_tup (pa_cons pe_str (pa_cons (pe_op op_add_str pe_str (pe_ix ix_str pe_str (pv 2) (fun _ _ => rfl))) (pa_cons (C8.pe_c c_law_draw hr (by decide) (by rfl) (pa_cons (pv 0) (pa_cons pe_int pa_nil))) (pa_cons (pv 8) (pa_cons (pe_op op_add pe_int (C8.pe_c c_law_draw hr (by decide) (by rfl) (pa_cons (pv 0) (pa_cons pe_int pa_nil)))) (pa_cons (pv 4) pa_nil))))))) pa_nil))))))))
    (pss_one (ps_ret (pe_tup (pa_cons pe_str (pa_cons (pv 1) (pa_cons (pv 3) (pa_cons (pv 7) pa_nil))))))))))))),
    (ev_seq (ev_asg (ev_tup ev_nil))
    (ev_seq (ev_for (ev_rng1 (ev_cons (ev_op o_add ev_int (ev_call (ev_cons ev_var (ev_cons ev_int ev_nil)))) ev_nil)) tg_one
      (ev_asg (ev_op o_catA ev_var (ev_tup (ev_cons (ev_tup (ev_cons (ev_op o_str ev_str (ev_op o_ixS ev_str ev_var)) (ev_cons (ev_call (ev_cons ev_var (ev_cons ev_int ev_nil))) (ev_cons (ev_op o_sub (ev_call (ev_cons ev_var (ev_cons (ev_op o_add ev_var ev_int) ev_nil))) ev_int) ev_nil)))) ev_nil)))))
    (ev_seq (ev_asg (ev_tup ev_nil))
    (ev_seq (ev_for (ev_rng1 (ev_cons (ev_call (ev_cons ev_var (ev_cons ev_int ev_nil))) ev_nil)) tg_one
      (ev_seq (ev_asg (ev_call (ev_cons ev_var (ev_cons ev_var (ev_cons ev_int ev_nil)))))
      (ev_seq (ev_asg (ev_call (ev_cons ev_var (ev_cons ev_int ev_nil))))
      (ev_seq (ev_asg (ev_tup (ev_cons ev_str (ev_cons (ev_op o_str ev_str (ev_op o_ixS ev_str ev_var)) (ev_cons ev_var (ev_cons (ev_op o_add (ev_op o_add ev_var ev_int) (ev_call (ev_cons ev_var (ev_cons ev_int ev_nil)))) (ev_cons ev_int (ev_cons ev_var ev_nil))))))))
      (ev_seq (ev_if (ev_test (ev_op o_eq (ev_call (ev_cons ev_var (ev_cons ev_int ev_nil))) ev_int))
        (ev_asg (ev_op o_catA (ev_sl4 ev_var) (ev_tup (ev_cons (ev_call (ev_cons ev_var (ev_cons (ev_op o_add (ev_op o_ix (ev_op o_ix ev_var ev_int) ev_int) ev_int) ev_nil))) (ev_cons ev_var ev_nil)))))
        ev_next)
      (ev_asg (ev_op o_catA ev_var (ev_tup (ev_cons ev_var ev_nil)))))))))
    (ev_seq (ev_asg (ev_tup ev_nil))
    (ev_seq (ev_for (ev_rng1 (ev_cons (ev_call (ev_cons ev_var (ev_cons (ev_lst (ev_cons ev_int (ev_cons ev_int (ev_cons ev_int (ev_cons ev_int ev_nil))))) ev_nil))) ev_nil)) tg_one
      (ev_seq (ev_asg (ev_call (ev_cons ev_var (ev_cons ev_var (ev_cons ev_int ev_nil)))))
      (ev_seq (ev_asg (ev_op o_add (ev_op o_add (ev_op o_mul (ev_call (ev_cons (ev_tup (ev_cons ev_int (ev_cons ev_int (ev_cons ev_int (ev_cons ev_int (ev_cons ev_int (ev_cons ev_var ev_nil))))))) ev_nil)) (ev_op o_add ev_int (ev_call (ev_cons ev_var (ev_cons ev_int ev_nil))))) ev_int) (ev_call (ev_cons ev_var (ev_cons ev_int ev_nil)))))
      (ev_asg (ev_op o_catA ev_var (ev_tup (ev_cons (ev_tup (ev_cons ev_str (ev_cons (ev_op o_str ev_str (ev_op o_ixS ev_str ev_var)) (ev_cons (ev_call (ev_cons ev_var (ev_cons ev_int ev_nil))) (ev_cons ev_var (ev_cons (ev_op o_add ev_int (ev_call (ev_cons ev_var (ev_cons ev_int ev_nil)))) (ev_cons ev_var ev_nil))))))) ev_nil)))))))
    (ev_ret (ev_tup (ev_cons ev_str (ev_cons ev_var (ev_cons ev_var (ev_cons ev_var ev_nil))))))))))))⟩
abbrev N_law_horizon : List Str := ["_law_system", "_law_items", "_law_greatest", "_law_item", "_law_segment", "_law_whole", "_law_product", "_law_task", "_law_left"]
theorem sc_law_horizon : FnScope N_law_horizon ["_law_system"] (defScope s_law_horizon) := ⟨rfl, rfl, rfl, by decide +kernel, rfl, by decide +kernel, by decide +kernel⟩

theorem cal_law_horizon {f : Addr} {fd : FuncData} {Ct : Addr} (B : Bt mg) (c_law_work : C8.Cal P w K mg base 2 "_law_work" (spOf K Pt D_law_work) []) (c_law_recovery : C8.Cal P w K mg base 2 "_law_recovery" (spOf K Pt D_law_recovery) []) (Fd : FnP K "_law_horizon" s_law_horizon f fd) (hm : mg "_law_horizon" = some (.ref f)) : C8.Cal P w K mg base 3 "_law_horizon" (spOf K Pt D_law_horizon) [] := by
  have sc := sc_law_horizon
  have b : Binds K fd ["_law_system"] [] := Fd.bindsN fun _ _ _ _ _ _ us hl => match us, hl with | [_], _ => rfl
  exact cal_of Fd hm b sc F_law_horizon fun A outer s H E hr => ⟨_, (pss_cons (ps_set (i := 1) sc.nd rfl (Or.inl rfl) (pe_op op_catA (pe_ix (ix2 (K := K)) (pv 0) pe_int (fun _ _ => rfl)) (pe_ix (ix2 (K := K)) (pv 0) pe_int (fun _ _ => rfl))))
    (pss_cons (ps_set (i := 2) sc.nd rfl (Or.inl rfl) (pe_op op_rep (pe_lst (pa_cons pe_int pa_nil)) (pe_callB (len_seqK (K := K)) (by rfl) B.len_ bt_len (pa_cons (pe_ix (ix2 (K := K)) (pv 0) pe_int (fun _ _ => rfl)) pa_nil))))
    (pss_cons (ps_for PassesOwn.never rfl (pi_tup (pv 1)) (pg_name (i := 3) sc.nd rfl (Or.inl rfl) (Or.inl rfl))
      (pss_one (ps_for PassesOwn.never rfl (pi_tup (pe_ix (ix2 (K := K)) (pv 3) pe_int (fun _ _ => rfl))) (pg_name (i := 4) sc.nd rfl (Or.inl rfl) (Or.inl rfl))
        (pss_one (ps_asg (pe_callB (call_max2 rfl) (by rfl) B.max_ bt_max (pa_cons (pe_ix (ix2 (K := K)) (pv 2) (pe_ix (ix2 (K := K)) (pv 4) pe_int (fun _ _ => rfl)) (fun _ _ => rfl)) (pa_cons (pe_ix (ix2 (K := K)) (pv 4) pe_int (fun _ _ => rfl)) pa_nil))) (pg_sub (pv 2) (pe_ix (ix2 (K := K)) (pv 4) pe_int (fun _ _ => rfl)) set_list))))))
    (pss_cons (ps_set (i := 5) sc.nd rfl (Or.inl rfl) (pe_op op_add (pe_callB (cr_sum rfl) (by rfl) B.sum_ bt_sum (pa_cons (pe_lc (own := [("_law_item", 3)]) rfl sc.nd (pi_tup (pv 1)) (blkOk_by (own := [("_law_item", 3)]) (N := N_law_horizon) (sc := defScope s_law_horizon) (by decide +kernel)) (fun _ _ _ _ _ => (pg_name (i := 3) sc.nd rfl (Or.inl rfl) (Or.inr rfl))) (fun _ _ _ _ _ => pts_nil) (fun _ _ _ _ _ => (C8.pe_c c_law_work hr (by decide) (by rfl) (pa_cons (pv 3) pa_nil)))) pa_nil)) (C8.pe_c c_law_recovery hr (by decide) (by rfl) (pa_cons (pe_ix (ix2 (K := K)) (pv 0) pe_int (fun _ _ => rfl)) (pa_cons (pv 2) pa_nil)))))
    (pss_cons (ps_set (i := 6) sc.nd rfl (Or.inr rfl) pe_int)
    (pss_cons (ps_for PassesOwn.never rfl (pi_tup (pe_ix (ix2 (K := K)) (pv 0) pe_int (fun _ _ => rfl))) (pg_name (i := 7) sc.nd rfl (Or.inl rfl) (Or.inl rfl))
      (pss_one (ps_set (i := 6) sc.nd rfl (Or.inr rfl) (pe_op op_mul (pv 6) (pe_ix (ix2 (K := K)) (pv 7) pe_int (fun _ _ => rfl))))))
    (pss_cons (ps_set (i := 8) sc.nd rfl (Or.inl rfl) (pe_op op_sub (pv 6) (pe_callB (cr_sum rfl) (by rfl) B.sum_ bt_sum (pa_cons (pe_lc (own := [("_law_task", 7)]) rfl sc.nd (pi_tup (pe_ix (ix2 (K := K)) (pv 0) pe_int (fun _ _ => rfl))) (blkOk_by (own := [("_law_task", 7)]) (N := N_law_horizon) (sc := defScope s_law_horizon) (by decide +kernel)) (fun _ _ _ _ _ => (pg_name (i := 7) sc.nd rfl (Or.inl rfl) (Or.inr rfl))) (fun _ _ _ _ _ => pts_nil) (fun _ _ _ _ _ => (pe_op op_mul (C8.pe_c c_law_work hr (by decide) (by rfl) (pa_cons (pv 7) pa_nil)) (pe_op op_fdiv (pv 6) (pe_ix (ix2 (K := K)) (pv 7) pe_int (fun _ _ => rfl)))))) pa_nil))))
    (pss_one (ps_ret (pe_op op_sub pe_int (pe_op op_fdiv (pe_op op_sub pe_int (pe_op op_mul (pv 5) (pv 6))) (pv 8)))))))))))),
    (ev_seq (ev_asg (ev_op o_catA (ev_op o_ix ev_var ev_int) (ev_op o_ix ev_var ev_int)))
    (ev_seq (ev_asg (ev_op o_rep (ev_lst (ev_cons ev_int ev_nil)) (ev_cb c_len (ev_cons (ev_op o_ix ev_var ev_int) ev_nil))))
    (ev_seq (ev_for (ev_itT ev_var) tg_one
      (ev_for (ev_itT (ev_op o_ix ev_var ev_int)) tg_one
        (ev_setIx (ev_op o_ix ev_var ev_int) (ev_cb c_max2 (ev_cons (ev_op o_ix ev_var (ev_op o_ix ev_var ev_int)) (ev_cons (ev_op o_ix ev_var ev_int) ev_nil))))))
    (ev_seq (ev_asg (ev_op o_add (ev_cb c_sum (ev_cons (ev_lc (ev_itT ev_var) tg_one ev_yes (ev_call (ev_cons ev_var ev_nil)) (by decide)) ev_nil)) (ev_call (ev_cons (ev_op o_ix ev_var ev_int) (ev_cons ev_var ev_nil)))))
    (ev_seq (ev_asg ev_int)
    (ev_seq (ev_for (ev_itT (ev_op o_ix ev_var ev_int)) tg_one
      (ev_asg (ev_op o_mul ev_var (ev_op o_ix ev_var ev_int))))
    (ev_seq (ev_asg (ev_op o_sub ev_var (ev_cb c_sum (ev_cons (ev_lc (ev_itT (ev_op o_ix ev_var ev_int)) tg_one ev_yes (ev_op o_mul (ev_call (ev_cons ev_var ev_nil)) (ev_op o_div ev_var (ev_op o_ix ev_var ev_int))) (by decide)) ev_nil))))
    (ev_ret (ev_op o_sub ev_int (ev_op o_div (ev_op o_sub ev_int (ev_op o_mul ev_var ev_var)) ev_var))))))))))⟩
abbrev N_law_latest : List Str := ["_law_system", "_law_item"]
theorem sc_law_latest : FnScope N_law_latest ["_law_system"] (defScope s_law_latest) := ⟨rfl, rfl, rfl, by decide +kernel, rfl, by decide +kernel, by decide +kernel⟩

theorem cal_law_latest {f : Addr} {fd : FuncData} {Ct : Addr} (B : Bt mg) (Fd : FnP K "_law_latest" s_law_latest f fd) (hm : mg "_law_latest" = some (.ref f)) : C8.Cal P w K mg base 1 "_law_latest" (spOf K Pt D_law_latest) [] := by
  have sc := sc_law_latest
  have b : Binds K fd ["_law_system"] [] := Fd.bindsN fun _ _ _ _ _ _ us hl => match us, hl with | [_], _ => rfl
  exact cal_of Fd hm b sc F_law_latest fun A outer s H E hr => ⟨_, (pss_one (ps_ret (pe_callB (cr_max rfl) (by rfl) B.max_ bt_max (pa_cons (pe_op op_cat (pe_lst (pa_cons pe_int pa_nil)) (pe_lc (own := [("_law_item", 1)]) rfl sc.nd (pi_tup (pe_op op_catA (pe_ix (ix2 (K := K)) (pv 0) pe_int (fun _ _ => rfl)) (pe_ix (ix2 (K := K)) (pv 0) pe_int (fun _ _ => rfl)))) (blkOk_by (own := [("_law_item", 1)]) (N := N_law_latest) (sc := defScope s_law_latest) (by decide +kernel)) (fun _ _ _ _ _ => (pg_name (i := 1) sc.nd rfl (Or.inl rfl) (Or.inr rfl))) (fun _ _ _ _ _ => pts_nil) (fun _ _ _ _ _ => (pe_ix (ix2 (K := K)) (pv 1) pe_int (fun _ _ => rfl))))) pa_nil)))),
    (ev_ret (ev_cb c_max (ev_cons (ev_op o_cat (ev_lst (ev_cons ev_int ev_nil)) (ev_lc (ev_itT (ev_op o_catA (ev_op o_ix ev_var ev_int) (ev_op o_ix ev_var ev_int))) tg_one ev_yes (ev_op o_ix ev_var ev_int) (by decide))) ev_nil)))⟩
abbrev N_law_worst : List Str := ["_law_budgets", "_law_penalties_here", "_law_left", "_law_faults", "_law_height", "_law_k", "_law_path_here", "_law_count", "_law_budget"]
theorem sc_law_worst : FnScope N_law_worst ["_law_budgets", "_law_penalties_here"] (defScope s_law_worst) := ⟨rfl, rfl, rfl, by decide +kernel, rfl, by decide +kernel, by decide +kernel⟩

theorem cal_law_worst {f : Addr} {fd : FuncData} {Ct : Addr} (B : Bt mg) (c_law_path : C8.Cal P w K mg base 1 "_law_path" (spOf K Pt D_law_path) []) (Fd : FnP K "_law_worst" s_law_worst f fd) (hm : mg "_law_worst" = some (.ref f)) : C8.Cal P w K mg base 2 "_law_worst" (spOf K Pt D_law_worst) [] := by
  have sc := sc_law_worst
  have b : Binds K fd ["_law_budgets", "_law_penalties_here"] [] := Fd.bindsN fun _ _ _ _ _ _ us hl => match us, hl with | [_, _], _ => rfl
  exact cal_of Fd hm b sc F_law_worst fun A outer s H E hr => ⟨_, (pss_cons (ps_set (i := 2) sc.nd rfl (Or.inr rfl) (pe_lc (own := [("_law_budget", 8)]) rfl sc.nd (pi_tup (pv 0)) (blkOk_by (own := [("_law_budget", 8)]) (N := N_law_worst) (sc := defScope s_law_worst) (by decide +kernel)) (fun _ _ _ _ _ => (pg_name (i := 8) sc.nd rfl (Or.inl rfl) (Or.inr rfl))) (fun _ _ _ _ _ => pts_nil) (fun _ _ _ _ _ => (pe_ix (ix2 (K := K)) (pv 8) pe_int (fun _ _ => rfl)))))
    (pss_cons (ps_set (i := 3) sc.nd rfl (Or.inl rfl) (pe_op op_rep (pe_lst (pa_cons pe_int pa_nil)) (pe_callB (len_seqK (K := K)) (by rfl) B.len_ bt_len (pa_cons (pv 0) pa_nil))))
    (pss_cons (ps_for PassesOwn.never rfl (pi_list (pe_callB cr_sortedPO (by rfl) B.sorted_ bt_sorted (pa_cons (pe_lc (own := [("_law_k", 5)]) rfl sc.nd (pi_range1 (by rfl) B.range_ (pa_cons (pe_callB (len_seqK (K := K)) (by rfl) B.len_ bt_len (pa_cons (pv 0) pa_nil)) pa_nil)) (blkOk_by (own := [("_law_k", 5)]) (N := N_law_worst) (sc := defScope s_law_worst) (by decide +kernel)) (fun _ _ _ _ _ => (pg_name (i := 5) sc.nd rfl (Or.inl rfl) (Or.inr rfl))) (fun _ _ _ _ _ => (pts_one (pt_cmpR op_gt (pe_ix (ix2 (K := K)) (pv 1) (pv 5) (fun _ _ => rfl)) pe_int (nomark _)))) (fun _ _ _ _ _ => (pe_tup (pa_cons (pe_op op_sub pe_int (pe_ix (ix2 (K := K)) (pv 1) (pv 5) (fun _ _ => rfl))) (pa_cons (pv 5) pa_nil))))) pa_nil))) (pg_name (i := 4) sc.nd rfl (Or.inl rfl) (Or.inl rfl))
      (pss_cons (ps_set (i := 6) sc.nd rfl (Or.inl rfl) (C8.pe_c c_law_path hr (by decide) (by rfl) (pa_cons (pv 0) (pa_cons (pe_ix (ix2 (K := K)) (pv 4) pe_int (fun _ _ => rfl)) pa_nil))))
      (pss_cons (ps_set (i := 7) sc.nd rfl (Or.inl rfl) (pe_callB (cr_min rfl) (by rfl) B.min_ bt_min (pa_cons (pe_lc (own := [("_law_k", 5)]) rfl sc.nd (pi_list (pv 6)) (blkOk_by (own := [("_law_k", 5)]) (N := N_law_worst) (sc := defScope s_law_worst) (by decide +kernel)) (fun _ _ _ _ _ => (pg_name (i := 5) sc.nd rfl (Or.inl rfl) (Or.inr rfl))) (fun _ _ _ _ _ => pts_nil) (fun _ _ _ _ _ => (pe_ix (ix2 (K := K)) (pv 2) (pv 5) (fun _ _ => rfl)))) pa_nil)))
      (pss_cons (ps_asg (pv 7) (pg_sub (pv 3) (pe_ix (ix2 (K := K)) (pv 4) pe_int (fun _ _ => rfl)) set_list))
      (pss_one (ps_for PassesOwn.never rfl (pi_list (pv 6)) (pg_name (i := 5) sc.nd rfl (Or.inl rfl) (Or.inl rfl))
        (pss_one (ps_asg (pe_op op_sub (pe_ix (ix2 (K := K)) (pv 2) (pv 5) (fun _ _ => rfl)) (pv 7)) (pg_sub (pv 2) (pv 5) set_list)))))))))
    (pss_one (ps_ret (pe_callTy call_tuple_of (by rfl) B.tuple_ bt_tuple (pa_cons (pv 3) pa_nil))))))),
    (ev_seq (ev_asg (ev_lc (ev_itT ev_var) tg_one ev_yes (ev_op o_ix ev_var ev_int) (by decide)))
    (ev_seq (ev_asg (ev_op o_rep (ev_lst (ev_cons ev_int ev_nil)) (ev_cb c_len (ev_cons ev_var ev_nil))))
    (ev_seq (ev_for (ev_itM (ev_cb c_sortP (ev_cons (ev_lc (ev_rng1 (ev_cons (ev_cb c_len (ev_cons ev_var ev_nil)) ev_nil)) tg_one (ev_test (ev_op o_gt (ev_op o_ix ev_var ev_var) ev_int)) (ev_tup (ev_cons (ev_op o_sub ev_int (ev_op o_ix ev_var ev_var)) (ev_cons ev_var ev_nil))) (by decide)) ev_nil))) tg_one
      (ev_seq (ev_asg (ev_call (ev_cons ev_var (ev_cons (ev_op o_ix ev_var ev_int) ev_nil))))
      (ev_seq (ev_asg (ev_cb c_min (ev_cons (ev_lc (ev_itL ev_var) tg_one ev_yes (ev_op o_ix ev_var ev_var) (by decide)) ev_nil)))
      (ev_seq (ev_setIx (ev_op o_ix ev_var ev_int) ev_var)
      (ev_down (ev_for ev_itV tg_one
        (ev_setIx ev_var (ev_op o_sub (ev_op o_ix ev_var ev_var) ev_var))))))))
    (ev_ret (ev_cb c_tup (ev_cons ev_var ev_nil))))))⟩
abbrev N_law_drawn : List Str := ["_law_box", "_law_system", "_law_paper", "_law_many", "_law_kind", "_law_price", "_law_high", "_law_s", "_law_e", "_law_k", "_law_row"]
theorem sc_law_drawn : FnScope N_law_drawn ["_law_box", "_law_system", "_law_paper"] (defScope s_law_drawn) := ⟨rfl, rfl, rfl, by decide +kernel, rfl, by decide +kernel, by decide +kernel⟩

theorem cal_law_drawn {f : Addr} {fd : FuncData} {Ct : Addr} (B : Bt mg) (c_law_draw : C8.Cal P w K mg base 1 "_law_draw" (spOf K Pt D_law_draw) []) (c_law_worst : C8.Cal P w K mg base 2 "_law_worst" (spOf K Pt D_law_worst) []) (c_law_penalties : C8.Cal P w K mg base 3 "_law_penalties" (spOf K Pt D_law_penalties) []) (Fd : FnP K "_law_drawn" s_law_drawn f fd) (hm : mg "_law_drawn" = some (.ref f)) : C8.Cal P w K mg base 4 "_law_drawn" (spOf K Pt D_law_drawn) [] := by
  have sc := sc_law_drawn
  have b : Binds K fd ["_law_box", "_law_system", "_law_paper"] [] := Fd.bindsN fun _ _ _ _ _ _ us hl => match us, hl with | [_, _, _], _ => rfl
  exact cal_of Fd hm b sc F_law_drawn fun A outer s H E hr => ⟨_, (pss_cons (ps_set (i := 3) sc.nd rfl (Or.inl rfl) (pe_callB (len_seqK (K := K)) (by rfl) B.len_ bt_len (pa_cons (pe_ix (ix2 (K := K)) (pv 1) pe_int (fun _ _ => rfl)) pa_nil)))
    (pss_cons (ps_set (i := 4) sc.nd rfl (Or.inl rfl) (C8.pe_c c_law_draw hr (by decide) (by rfl) (pa_cons (pv 0) (pa_cons pe_int pa_nil))))
    (pss_cons (ps_if (pt_cmpR op_lt (pv 4) pe_int (nomark _))
      (pss_cons (ps_set (i := 5) sc.nd rfl (Or.inr rfl) (pe_op op_add pe_int (C8.pe_c c_law_draw hr (by decide) (by rfl) (pa_cons (pv 0) (pa_cons pe_int pa_nil)))))
      (pss_cons (ps_set (i := 6) sc.nd rfl (Or.inl rfl) (pe_callTy call_tuple_of (by rfl) B.tuple_ bt_tuple (pa_cons (pe_lc (own := [("_law_k", 9)]) rfl sc.nd (pi_range1 (by rfl) B.range_ (pa_cons (pv 3) pa_nil)) (blkOk_by (own := [("_law_k", 9)]) (N := N_law_drawn) (sc := defScope s_law_drawn) (by decide +kernel)) (fun _ _ _ _ _ => (pg_name (i := 9) sc.nd rfl (Or.inl rfl) (Or.inr rfl))) (fun _ _ _ _ _ => pts_nil) (fun _ _ _ _ _ => (pv 5))) pa_nil)))
      (pss_one (ps_ret (pe_tup (pa_cons pe_str (pa_cons (pe_tup (pa_cons (pv 6) (pa_cons (pe_callTy call_tuple_of (by rfl) B.tuple_ bt_tuple (pa_cons (pe_lc (own := [("_law_k", 9)]) rfl sc.nd (pi_range1 (by rfl) B.range_ (pa_cons (pv 3) pa_nil)) (blkOk_by (own := [("_law_k", 9)]) (N := N_law_drawn) (sc := defScope s_law_drawn) (by decide +kernel)) (fun _ _ _ _ _ => (pg_name (i := 9) sc.nd rfl (Or.inl rfl) (Or.inr rfl))) (fun _ _ _ _ _ => pts_nil) (fun _ _ _ _ _ => (C8.pe_c c_law_draw hr (by decide) (by rfl) (pa_cons (pv 0) (pa_cons pe_int pa_nil))))) pa_nil)) pa_nil))) pa_nil)))))))
      pss_nil)
    (pss_cons (ps_if (PW.pt (pw_and (pt_cmpR op_eq (pv 4) pe_int (nomark _)) (pw_and1 (pt_cmpR op_eq (pe_ix (ix2 (K := K)) (pv 2) pe_int (fun _ _ => rfl)) pe_str (nomark _)))))
      (pss_one (ps_ret (pe_tup (pa_cons pe_str (pa_cons (pe_callTy call_tuple_of (by rfl) B.tuple_ bt_tuple (pa_cons (pe_lc (own := [("_law_row", 10)]) rfl sc.nd (pi_tup (pe_ix (ix2 (K := K)) (pv 2) pe_int (fun _ _ => rfl))) (blkOk_by (own := [("_law_row", 10)]) (N := N_law_drawn) (sc := defScope s_law_drawn) (by decide +kernel)) (fun _ _ _ _ _ => (pg_name (i := 10) sc.nd rfl (Or.inl rfl) (Or.inr rfl))) (fun _ _ _ _ _ => (pts_one (pt_cmpR op_gt (C8.pe_c c_law_draw hr (by decide) (by rfl) (pa_cons (pv 0) (pa_cons pe_int pa_nil))) pe_int (nomark _)))) (fun _ _ _ _ _ => (pv 10))) pa_nil)) pa_nil)))))
      pss_nil)
    (pss_cons (ps_set (i := 7) sc.nd rfl (Or.inl rfl) (C8.pe_c c_law_draw hr (by decide) (by rfl) (pa_cons (pv 0) (pa_cons pe_int pa_nil))))
    (pss_cons (ps_set (i := 8) sc.nd rfl (Or.inl rfl) (pe_op op_add (pv 7) (C8.pe_c c_law_draw hr (by decide) (by rfl) (pa_cons (pv 0) (pa_cons pe_int pa_nil)))))
    (pss_cons (ps_if (PW.pt (pw_and (pt_cmpR op_eq (pe_ix (ix2 (K := K)) (pv 2) pe_int (fun _ _ => rfl)) pe_str (nomark _)) (pw_and1 (pt_cmpR op_eq (pv 4) pe_int (nomark _)))))
      (pss_cons (ps_set (i := 7) sc.nd rfl (Or.inl rfl) (pe_callB (call_max2 rfl) (by rfl) B.max_ bt_max (pa_cons pe_int (pa_cons (pe_op op_sub (pe_ix (ix2 (K := K)) (pv 2) pe_int (fun _ _ => rfl)) (C8.pe_c c_law_draw hr (by decide) (by rfl) (pa_cons (pv 0) (pa_cons pe_int pa_nil)))) pa_nil))))
      (pss_one (ps_set (i := 8) sc.nd rfl (Or.inl rfl) (pe_callB (call_max2 rfl) (by rfl) B.max_ bt_max (pa_cons (pv 7) (pa_cons (pe_op op_sub (pe_op op_add (pe_ix (ix2 (K := K)) (pv 2) pe_int (fun _ _ => rfl)) (C8.pe_c c_law_draw hr (by decide) (by rfl) (pa_cons (pv 0) (pa_cons pe_int pa_nil)))) pe_int) pa_nil))))))
      pss_nil)
    (pss_one (ps_ret (pe_tup (pa_cons pe_str (pa_cons (pv 7) (pa_cons (pv 8) (pa_cons (C8.pe_c c_law_worst hr (by decide) (by rfl) (pa_cons (pe_ix (ix2 (K := K)) (pv 1) pe_int (fun _ _ => rfl)) (pa_cons (C8.pe_c c_law_penalties hr (by decide) (by rfl) (pa_cons (pv 1) (pa_cons (pv 7) (pa_cons (pv 8) pa_nil)))) pa_nil))) pa_nil)))))))))))))),
    (ev_seq (ev_asg (ev_cb c_len (ev_cons (ev_op o_ix ev_var ev_int) ev_nil)))
    (ev_seq (ev_asg (ev_call (ev_cons ev_var (ev_cons ev_int ev_nil))))
    (ev_seq (ev_if (ev_test (ev_op o_lt ev_var ev_int))
      (ev_seq (ev_asg (ev_op o_add ev_int (ev_call (ev_cons ev_var (ev_cons ev_int ev_nil)))))
      (ev_seq (ev_asg (ev_cb c_tup (ev_cons (ev_lc (ev_rng1 (ev_cons ev_var ev_nil)) tg_one ev_yes ev_var (by decide)) ev_nil)))
      (ev_ret (ev_tup (ev_cons ev_str (ev_cons (ev_tup (ev_cons ev_var (ev_cons (ev_cb c_tup (ev_cons (ev_lc (ev_rng1 (ev_cons ev_var ev_nil)) tg_one ev_yes (ev_call (ev_cons ev_var (ev_cons ev_int ev_nil))) (by decide)) ev_nil)) ev_nil))) ev_nil))))))
      ev_next)
    (ev_seq (ev_if (ev_tand (ev_test (ev_op o_eq ev_var ev_int)) (ev_test (ev_op o_eq (ev_op o_ix ev_var ev_int) ev_str)))
      (ev_ret (ev_tup (ev_cons ev_str (ev_cons (ev_cb c_tup (ev_cons (ev_lc (ev_itT (ev_op o_ix ev_var ev_int)) tg_one (ev_test (ev_op o_gt (ev_call (ev_cons ev_var (ev_cons ev_int ev_nil))) ev_int)) ev_var (by decide)) ev_nil)) ev_nil))))
      ev_next)
    (ev_seq (ev_asg (ev_call (ev_cons ev_var (ev_cons ev_int ev_nil))))
    (ev_seq (ev_asg (ev_op o_add ev_var (ev_call (ev_cons ev_var (ev_cons ev_int ev_nil)))))
    (ev_seq (ev_if (ev_tand (ev_test (ev_op o_eq (ev_op o_ix ev_var ev_int) ev_str)) (ev_test (ev_op o_eq ev_var ev_int)))
      (ev_seq (ev_asg (ev_cb c_max2 (ev_cons ev_int (ev_cons (ev_op o_sub (ev_op o_ix ev_var ev_int) (ev_call (ev_cons ev_var (ev_cons ev_int ev_nil)))) ev_nil))))
      (ev_asg (ev_cb c_max2 (ev_cons ev_var (ev_cons (ev_op o_sub (ev_op o_add (ev_op o_ix ev_var ev_int) (ev_call (ev_cons ev_var (ev_cons ev_int ev_nil)))) ev_int) ev_nil)))))
      ev_next)
    (ev_ret (ev_tup (ev_cons ev_str (ev_cons ev_var (ev_cons ev_var (ev_cons (ev_call (ev_cons (ev_op o_ix ev_var ev_int) (ev_cons (ev_call (ev_cons ev_var (ev_cons ev_var (ev_cons ev_var ev_nil)))) ev_nil))) ev_nil)))))))))))))⟩
abbrev N_law_is_crowded : List Str := ["_law_system", "_law_box", "_law_horizon_here", "_law_s", "_law_e"]
theorem sc_law_is_crowded : FnScope N_law_is_crowded ["_law_system", "_law_box"] (defScope s_law_is_crowded) := ⟨rfl, rfl, rfl, by decide +kernel, rfl, by decide +kernel, by decide +kernel⟩

theorem cal_law_is_crowded {f : Addr} {fd : FuncData} {Ct : Addr} (B : Bt mg) (c_law_horizon : C8.Cal P w K mg base 3 "_law_horizon" (spOf K Pt D_law_horizon) []) (c_law_draw : C8.Cal P w K mg base 1 "_law_draw" (spOf K Pt D_law_draw) []) (c_law_latest : C8.Cal P w K mg base 1 "_law_latest" (spOf K Pt D_law_latest) []) (c_law_slack : C8.Cal P w K mg base 4 "_law_slack" (spOf K Pt D_law_slack) []) (Fd : FnP K "_law_is_crowded" s_law_is_crowded f fd) (hm : mg "_law_is_crowded" = some (.ref f)) : C8.Cal P w K mg base 5 "_law_is_crowded" (spOf K Pt D_law_is_crowded) [] := by
  have sc := sc_law_is_crowded
  have b : Binds K fd ["_law_system", "_law_box"] [] := Fd.bindsN fun _ _ _ _ _ _ us hl => match us, hl with | [_, _], _ => rfl
  exact cal_of Fd hm b sc F_law_is_crowded fun A outer s H E hr => ⟨_, (pss_cons (ps_set (i := 2) sc.nd rfl (Or.inl rfl) (C8.pe_c c_law_horizon hr (by decide) (by rfl) (pa_cons (pv 0) pa_nil)))
    (pss_cons (ps_for PassesOwn.never rfl (pi_range3 (by rfl) B.range_ (pa_cons pe_int (pa_cons (pe_op op_add (C8.pe_c c_law_latest hr (by decide) (by rfl) (pa_cons (pv 0) pa_nil)) pe_int) (pa_cons (pe_op op_add pe_int (C8.pe_c c_law_draw hr (by decide) (by rfl) (pa_cons (pv 1) (pa_cons pe_int pa_nil)))) pa_nil)))) (pg_name (i := 3) sc.nd rfl (Or.inl rfl) (Or.inl rfl))
      (pss_one (ps_for PassesOwn.never rfl (pi_range2 (by rfl) B.range_ (pa_cons (pv 3) (pa_cons (pe_op op_add (pe_op op_add (pv 3) (pv 2)) pe_int) pa_nil))) (pg_name (i := 4) sc.nd rfl (Or.inl rfl) (Or.inl rfl))
        (pss_one (ps_if (pt_cmpR op_lt (C8.pe_c c_law_slack hr (by decide) (by rfl) (pa_cons (pv 0) (pa_cons (pv 3) (pa_cons (pv 4) pa_nil)))) pe_int (nomark _))
          (pss_one (ps_ret pe_bl))
          pss_nil)))))
    (pss_one (ps_ret pe_bl)))),
    (ev_seq (ev_asg (ev_call (ev_cons ev_var ev_nil)))
    (ev_seq (ev_for (ev_rng3 (ev_cons ev_int (ev_cons (ev_op o_add (ev_call (ev_cons ev_var ev_nil)) ev_int) (ev_cons (ev_op o_add ev_int (ev_call (ev_cons ev_var (ev_cons ev_int ev_nil)))) ev_nil)))) tg_one
      (ev_for (ev_rng2 (ev_cons ev_var (ev_cons (ev_op o_add (ev_op o_add ev_var ev_var) ev_int) ev_nil))) tg_one
        (ev_if (ev_test (ev_op o_lt (ev_call (ev_cons ev_var (ev_cons ev_var (ev_cons ev_var ev_nil)))) ev_int))
          (ev_ret ev_bl)
          ev_next)))
    (ev_ret ev_bl)))⟩
end K15
/-! K15Law: the law's own def -/
set_option autoImplicit false
namespace K15
open PySem PySem.Spec PyProof.Rows L2 K15R
abbrev N_law : List Str := ["_law_script", "_law_box", "_law_system", "_law_paper", "_law_papers", "_law_held", "_law_k", "_law_other"]
theorem sc_law : FnScope N_law ["_law_script"] (defScope s_law) := ⟨rfl, rfl, rfl, by decide +kernel, rfl, by decide +kernel, by decide +kernel⟩

def F_lawA : Fa := (fCons (fVar 0) (fCons (fC (.p (.i 0))) (fCons (fC (.p (.i 63))) fNil)))
def F_lawR : Fs :=
  (fSeq (fAsg 2 (fCall D_law_little (fCons (fVar 1) fNil)))
    (fSeq (fIf (fTest (fOp gGt (fCall D_law_horizon (fCons (fVar 2) fNil)) (fC (.p (.i 90)))))
      (fRet (fC (.p (.b true))))
      fNext)
    (fSeq (fAsg 3 (fCall D_paper_of (fCons (fVar 2) fNil)))
    (fSeq (fAsg 4 (fOp gCat (fLst (fCons (fVar 3) fNil)) (fLc (fRng1 (fCons (fC (.p (.i 4))) fNil)) (.one 6) fYes (fCall D_law_drawn (fCons (fVar 1) (fCons (fVar 2) (fCons (fVar 3) fNil)))) [6])))
    (fSeq (fAsg 5 (fLc (fItL (fVar 4)) (.one 7) (fTest (fCall D_judge (fCons (fVar 2) (fCons (fVar 7) fNil)))) (fVar 7) [7]))
    (fSeq (fIf (fTOr (fTest (fOp gNotIn (fVar 3) (fVar 5))) (fTest (fOp gGt (fCB gLen (fCons (fLc (fItL (fVar 5)) (.one 7) (fTest (fOp (gEqB true) (fOp gIx (fVar 7) (fC (.p (.i 0)))) (fOp gIx (fVar 3) (fC (.p (.i 0)))))) (fVar 7) [7]) fNil)) (fC (.p (.i 0))))))
      (fRet (fC (.p (.b false))))
      fNext)
    (fSeq (fIf (fTNot (fTest (fCall D_law_same (fCons (fCall D_is_sure (fCons (fVar 2) fNil)) (fCons (fOp (gEqB false) (fOp gIx (fVar 3) (fC (.p (.i 0)))) (fC (.p (.s (Str.ofString "sure"))))) fNil)))))
      (fRet (fC (.p (.b false))))
      fNext)
    (fSeq (fIf (fTest (fOp (gEqB false) (fOp gIx (fVar 3) (fC (.p (.i 0)))) (fC (.p (.s (Str.ofString "sure"))))))
      (fRet (fNot (fCall D_law_is_crowded (fCons (fVar 2) (fCons (fVar 1) fNil)))))
      fNext)
    (fRet (fOp (gEqB false) (fCB gLen (fCons (fLc (fItL (fVar 5)) (.one 7) (fTest (fOp gGe (fCall D_law_slack (fCons (fVar 2) (fCons (fOp gIx (fVar 7) (fC (.p (.i 1)))) (fCons (fOp gIx (fVar 7) (fC (.p (.i 2)))) fNil)))) (fC (.p (.i 0))))) (fVar 7) [7]) fNil)) (fC (.p (.i 0)))))))))))))

def noM (S : Sl) : Prop := ∀ (i : Nat) (xs : List PV), S[i]? ≠ some (some (.m xs))
variable {P : Program} {w : World} {K : PySem.W.Frag} {mg : Str → Option Value} {base : Heap} {Pt : Addr}
/-- what the law computes from the script -/
def lawF (scr : SV) : Option (Out × BS) := bnd (F_lawA (stS N_law.length [scr]) ([], 0)) fun xs b1 => bnd (D_law_digits (xs.map SV.arg) b1) fun ds _ => match ds.hl.bind intsP with
  | some ds => F_lawR ((stS N_law.length [scr]).set 1 (some .box)) (ds, 0)
  | none => none
def lawOk (ns : List Int) : Prop := ∀ scr : SV, (scr = .l (ns.map PV.i) ∨ scr = .k (ns.map PV.i)) → ∃ b, lawF scr = some (.rt (.p (.b true)), b)
section
variable (K Pt)
def spLaw : Sp := fun vs H Q _ => ∃ (a : Addr) (ns : List Int), vs = [.ref a] ∧ SqL K H a (ns.map V.int) ∧ LamX.Tabs (T1 Pt) H ∧ lawOk ns ∧ ∀ H', Q (.bl true) H'
end
theorem law_start {i : Nat} {vs : List V} {H : Hp} {Q : VK} {E E' : XK} {ta : TA} {u : TS} (h : spLaw K Pt vs H Q E') (ha : EvA K Pt ta F_lawA) (hu : EvS K Pt u F_lawR) (hi : i = 1 := by rfl) :
    tSeq (tAsg (tLst (tCons (tCall (spOf K Pt D_law_digits) [] E ta) (tCons (tC (.int 0)) tNil))) (gName i)) u { nx := fun _ H' => Q .non H', rt := Q } (L2.start N_law vs) H := by
  subst hi
  obtain ⟨a, ns, rfl, hS, hT, hok, q⟩ := h
  obtain ⟨scr, hscr, hrep⟩ : ∃ scr : SV, (scr = .l (ns.map PV.i) ∨ scr = .k (ns.map PV.i)) ∧ RepS K none H H scr (.ref a) := by
    rcases hS with (h | ⟨o, h⟩) | h
    · exact ⟨_, Or.inl rfl, a, _, rfl, h, fun B D e => (by cases e), reps_ints ns⟩
    · exact ⟨_, Or.inr rfl, a, _, rfl, Or.inl ⟨o, h⟩, reps_ints ns⟩
    · exact ⟨_, Or.inr rfl, a, _, rfl, Or.inr h, reps_ints ns⟩
  obtain ⟨b, hf⟩ := hok scr hscr
  obtain ⟨xs, b1, e1, hf⟩ := bnd_some hf
  obtain ⟨dv, b2, e2, hf⟩ := bnd_some hf
  split at hf
  · rename_i ds hds
    have R0 : Rl K none H (stS N_law.length [scr]) (L2.start N_law [.ref a]) H := rl_start ⟨.ref a, [], rfl, hrep, rfl⟩ fun B D e => by cases e
    have W0 : Wd Pt none ([], 0) H := ⟨hT, fun B D e => by cases e⟩
    have c1 : EvE K Pt (tCall (spOf K Pt D_law_digits) [] E ta) (fCall D_law_digits F_lawA) := ev_call ha
    have e3 : fCall D_law_digits F_lawA (stS N_law.length [scr]) ([], 0) = some (dv, b2) := by
      unfold fCall
      rw [e1]
      exact e2
    refine c1 none H _ _ H _ _ _ _ R0 W0 e3 fun v H1 g1 w1 r1 => ?_
    obtain ⟨ys, h1, h2⟩ := Option.bind_eq_some_iff.mp hds
    obtain ⟨D, us, rfl, hD, _, hr⟩ := r1.hl h1
    obtain rfl := hr.intsP h2
    refine ⟨(szl (n := 2) (by omega) : 2 ≤ sizeLine), fun B hB => ?_⟩
    have hBD : B ≠ D := fun e => by rw [e, hD] at hB; cases hB
    have hB' : upd H1 B (.lst [.ref D, .int 0]) B = some (.lst [.ref D, .int 0]) := upd_same
    have hD' : upd H1 B (.lst [.ref D, .int 0]) D = some (.lst (ds.map V.int)) := by rw [upd_ne hBD.symm]; exact hD
    have g2 : G none H1 (upd H1 B (.lst [.ref D, .int 0])) := G.new hB
    have R2 := R0.mono (g1.trans g2)
    have w2 := w1.new (o := .lst [.ref D, .int 0]) hB
    have bs0 : Wd Pt (some (B, D)) (ds, 0) (upd H1 B (.lst [.ref D, .int 0])) := ⟨w2.tab, fun B' D' e => by
      cases e
      exact ⟨hB', hD', hBD⟩⟩
    have RB : Rl K (some (B, D)) (upd H1 B (.lst [.ref D, .int 0])) ((stS N_law.length [scr]).set 1 (some .box)) ((L2.start N_law [.ref a]).set 1 (some (.ref B))) (upd H1 B (.lst [.ref D, .int 0])) := by
      refine ⟨by rw [List.length_set, List.length_set, R2.len], fun j x e => ?_, fun j k zs y c hjk e4 _ _ _ _ => ?_, G.refl _, fun B' D' e => ?_⟩
      · rcases getset e with ⟨rfl, ex, hl⟩ | ⟨hj, e⟩
        · cases ex
          exact ⟨.ref B, List.getElem?_set_self (by rw [R2.len]; exact hl), B, D, rfl, rfl⟩
        · obtain ⟨w', h3, h4⟩ := R2.at_ j x e
          refine ⟨w', by rw [List.getElem?_set_ne hj]; exact h3, ?_⟩
          obtain ⟨w0, h5, h6⟩ := (R0.mono g1).at_ j x e
          have : x = scr := by
            have e' : ([scr].map some ++ List.replicate (N_law.length - 1) none : Sl)[j]? = some (some x) := e
            cases j with
            | zero => simpa using e'.symm
            | succ j =>
              rw [List.getElem?_append_right (by simp)] at e'
              rw [List.getElem?_replicate] at e'
              split at e' <;> cases e'
          subst this
          rw [h3] at h5
          cases h5
          rcases hscr with rfl | rfl
          · obtain ⟨c, ws, e5, e6, _, e8⟩ := h4
            obtain ⟨c', ws', e5', e6', _, _⟩ := h6
            refine ⟨c, ws, e5, e6, fun B' D' e => ?_, e8⟩
            cases e
            intro ez
            rw [e5] at e5'
            cases e5'
            rw [ez, hB] at e6'
            cases e6'
          · exact h4
      · rcases getset e4 with ⟨_, ex, _⟩ | ⟨hj, e4⟩
        · cases ex
        · have e' : ([scr].map some ++ List.replicate (N_law.length - 1) none : Sl)[j]? = some (some (.m zs)) := e4
          cases j with
          | zero =>
            have : scr = .m zs := by simpa using e'
            rcases hscr with rfl | rfl <;> cases this
          | succ j =>
            rw [List.getElem?_append_right (by simp)] at e'
            rw [List.getElem?_replicate] at e'
            split at e' <;> cases e'
      · cases e
        exact ⟨notFr_lst (Or.inl hB'), notFr_lst (Or.inl hD')⟩
    refine hu (some (B, D)) _ _ _ _ (ds, 0) _ _ _ RB bs0 hf ⟨fun _ e => (by cases e), fun _ e => (by cases e), fun r e v H' g w' rr => ?_⟩
    cases e
    obtain rfl := rpB' rr
    exact q H'
  · cases hf
theorem ok_law {f : Addr} {fd : FuncData} (B : Bt mg) (c_law_digits : C8.Cal P w K mg base 2 "_law_digits" (spOf K Pt D_law_digits) []) (c_law_little : C8.Cal P w K mg base 3 "_law_little" (spOf K Pt D_law_little) []) (c_law_horizon : C8.Cal P w K mg base 3 "_law_horizon" (spOf K Pt D_law_horizon) []) (c_paper_of : C8.Cal P w K mg base 6 "paper_of" (spOf K Pt D_paper_of) []) (c_law_drawn : C8.Cal P w K mg base 4 "_law_drawn" (spOf K Pt D_law_drawn) []) (c_judge : C8.Cal P w K mg base 6 "judge" (spOf K Pt D_judge) []) (c_law_same : C8.Cal P w K mg base 1 "_law_same" (spOf K Pt D_law_same) []) (c_is_sure : C8.Cal P w K mg base 5 "is_sure" (spOf K Pt D_is_sure) []) (c_law_is_crowded : C8.Cal P w K mg base 5 "_law_is_crowded" (spOf K Pt D_law_is_crowded) []) (c_law_slack : C8.Cal P w K mg base 4 "_law_slack" (spOf K Pt D_law_slack) []) (Fd : FnP K "law" s_law f fd) : FnOk P w K mg base CX0 7 f fd ["_law_script"] (spLaw K Pt) := by
  have sc := sc_law
  refine Fd.ok sc (fun vs H Q E h => ?_) (fun cdv A outer s H vs Q E hr h => ?_)
  · obtain ⟨a, ns, rfl, _⟩ := h
    rfl
  · refine ⟨_, PSs.nox ((pss_cons (ps_set (i := 1) sc.nd rfl (Or.inr rfl) (pe_lst (pa_cons (C8.pe_c c_law_digits hr (by decide) (by rfl) (pa_cons (pv 0) (pa_cons pe_int (pa_cons pe_int pa_nil)))) (pa_cons pe_int pa_nil))))
    (pss_cons (ps_set (i := 2) sc.nd rfl (Or.inr rfl) (C8.pe_c c_law_little hr (by decide) (by rfl) (pa_cons (pv 1) pa_nil)))
    (pss_cons (ps_if (pt_cmpR op_gt (C8.pe_c c_law_horizon hr (by decide) (by rfl) (pa_cons (pv 2) pa_nil)) pe_int (nomark _))
      (pss_one (ps_ret pe_bl))
      pss_nil)
    (pss_cons (ps_set (i := 3) sc.nd rfl (Or.inr rfl) (C8.pe_c c_paper_of hr (by decide) (by rfl) (pa_cons (pv 2) pa_nil)))
    (pss_cons (ps_set (i := 4) sc.nd rfl (Or.inl rfl) (pe_op op_cat (pe_lst (pa_cons (pv 3) pa_nil)) (pe_lc (own := [("_law_k", 6)]) rfl sc.nd (pi_range1 (by rfl) B.range_ (pa_cons pe_int pa_nil)) (blkOk_by (own := [("_law_k", 6)]) (N := N_law) (sc := defScope s_law) (by decide +kernel)) (fun _ _ _ _ _ => (pg_name (i := 6) sc.nd rfl (Or.inl rfl) (Or.inr rfl))) (fun _ _ _ _ _ => pts_nil) (fun _ _ _ _ _ => (C8.pe_c c_law_drawn hr (by decide) (by rfl) (pa_cons (pv 1) (pa_cons (pv 2) (pa_cons (pv 3) pa_nil))))))))
    (pss_cons (ps_setLc (i := 5) (own := [("_law_other", 7)]) rfl sc.nd rfl rfl (sw_true rfl rfl rfl (by decide +kernel)) (pi_list (pv 4)) (blkOk_by (own := [("_law_other", 7)]) (N := N_law) (sc := defScope s_law) (by decide +kernel)) (fun _ _ _ _ _ => (pg_name (i := 7) sc.nd rfl (Or.inl rfl) (Or.inr rfl))) (fun _ _ _ _ _ => (pts_one (pt_val (C8.pe_c c_judge hr (by decide) (by rfl) (pa_cons (pv 2) (pa_cons (pv 7) pa_nil)))))) (fun _ _ _ _ _ => (pv 7)))
    (pss_cons (ps_if (PW.pt (pw_or (pt_cmpR (op_notInD (hu65 hr)) (pv 3) (pv 5) (by rfl)) (pw_or1 (pt_cmpR op_gt (pe_callB (len_seqK (K := K)) (by rfl) B.len_ bt_len (pa_cons (pe_lc (own := [("_law_other", 7)]) rfl sc.nd (pi_list (pv 5)) (blkOk_by (own := [("_law_other", 7)]) (N := N_law) (sc := defScope s_law) (by decide +kernel)) (fun _ _ _ _ _ => (pg_name (i := 7) sc.nd rfl (Or.inl rfl) (Or.inr rfl))) (fun _ _ _ _ _ => (pts_one (pt_cmpR op_ne (pe_ix (ix2 (K := K)) (pv 7) pe_int (fun _ _ => rfl)) (pe_ix (ix2 (K := K)) (pv 3) pe_int (fun _ _ => rfl)) (nomark _)))) (fun _ _ _ _ _ => (pv 7))) pa_nil)) pe_int (nomark _)))))
      (pss_one (ps_ret pe_bl))
      pss_nil)
    (pss_cons (ps_if (pt_not (pt_val (C8.pe_c c_law_same hr (by decide) (by rfl) (pa_cons (C8.pe_c c_is_sure hr (by decide) (by rfl) (pa_cons (pv 2) pa_nil)) (pa_cons (pe_cmpR op_eq (pe_ix (ix2 (K := K)) (pv 3) pe_int (fun _ _ => rfl)) pe_str (nomark _)) pa_nil)))))
      (pss_one (ps_ret pe_bl))
      pss_nil)
    (pss_cons (ps_if (pt_cmpR op_eq (pe_ix (ix2 (K := K)) (pv 3) pe_int (fun _ _ => rfl)) pe_str (nomark _))
      (pss_one (ps_ret (pe_not (C8.pe_c c_law_is_crowded hr (by decide) (by rfl) (pa_cons (pv 2) (pa_cons (pv 1) pa_nil))))))
      pss_nil)
    (pss_one (ps_ret (pe_cmpR op_eq (pe_callB (len_seqK (K := K)) (by rfl) B.len_ bt_len (pa_cons (pe_lc (own := [("_law_other", 7)]) rfl sc.nd (pi_list (pv 5)) (blkOk_by (own := [("_law_other", 7)]) (N := N_law) (sc := defScope s_law) (by decide +kernel)) (fun _ _ _ _ _ => (pg_name (i := 7) sc.nd rfl (Or.inl rfl) (Or.inr rfl))) (fun _ _ _ _ _ => (pts_one (pt_cmpR op_ge (C8.pe_c c_law_slack hr (by decide) (by rfl) (pa_cons (pv 2) (pa_cons (pe_ix (ix2 (K := K)) (pv 7) pe_int (fun _ _ => rfl)) (pa_cons (pe_ix (ix2 (K := K)) (pv 7) pe_int (fun _ _ => rfl)) pa_nil)))) pe_int (nomark _)))) (fun _ _ _ _ _ => (pv 7))) pa_nil)) pe_int (nomark _)))))))))))))), ?_⟩
    exact law_start (i := 1) h (ev_cons ev_var (ev_cons ev_int (ev_cons ev_int ev_nil)))
      ((ev_seq (ev_asg (ev_call (ev_cons ev_var ev_nil)))
    (ev_seq (ev_if (ev_test (ev_op o_gt (ev_call (ev_cons ev_var ev_nil)) ev_int))
      (ev_ret ev_bl)
      ev_next)
    (ev_seq (ev_asg (ev_call (ev_cons ev_var ev_nil)))
    (ev_seq (ev_asg (ev_op o_cat (ev_lst (ev_cons ev_var ev_nil)) (ev_lc (ev_rng1 (ev_cons ev_int ev_nil)) tg_one ev_yes (ev_call (ev_cons ev_var (ev_cons ev_var (ev_cons ev_var ev_nil)))) (by decide))))
    (ev_seq (ev_asg (ev_lc (ev_itL ev_var) tg_one (ev_B (ev_call (ev_cons ev_var (ev_cons ev_var ev_nil)))) ev_var (by decide)))
    (ev_seq (ev_if (ev_tor (ev_test (ev_op o_notin ev_var ev_var)) (ev_test (ev_op o_gt (ev_cb c_len (ev_cons (ev_lc (ev_itL ev_var) tg_one (ev_test (ev_op o_ne (ev_op o_ix ev_var ev_int) (ev_op o_ix ev_var ev_int))) ev_var (by decide)) ev_nil)) ev_int)))
      (ev_ret ev_bl)
      ev_next)
    (ev_seq (ev_if (ev_tnot (ev_B (ev_call (ev_cons (ev_call (ev_cons ev_var ev_nil)) (ev_cons (ev_op o_eq (ev_op o_ix ev_var ev_int) ev_str) ev_nil)))))
      (ev_ret ev_bl)
      ev_next)
    (ev_seq (ev_if (ev_test (ev_op o_eq (ev_op o_ix ev_var ev_int) ev_str))
      (ev_ret (ev_not (ev_call (ev_cons ev_var (ev_cons ev_var ev_nil)))))
      ev_next)
    (ev_ret (ev_op o_eq (ev_cb c_len (ev_cons (ev_lc (ev_itL ev_var) tg_one (ev_test (ev_op o_ge (ev_call (ev_cons ev_var (ev_cons (ev_op o_ix ev_var ev_int) (ev_cons (ev_op o_ix ev_var ev_int) ev_nil)))) ev_int)) ev_var (by decide)) ev_nil)) ev_int)))))))))))

end K15
/-! K15Fold: loops as folds -/
set_option autoImplicit false
namespace K15
open PySem PySem.Spec PyProof.Rows L2 K15R
def forK (tg : Tg) (F : Fs) (xs : List PV) : Out → BS → Option (Out × BS)
  | .nx S', b1 => forLoop tg F xs S' b1
  | .ct S', b1 => forLoop tg F xs S' b1
  | .rt r, b1 => some (.rt r, b1)
theorem forLoop_cons {tg : Tg} {F : Fs} {x : PV} {xs : List PV} {S : Sl} {b b' : BS} {ps : List PV} {o : Out} (h1 : tg.parts x = some ps) (h2 : F (setS S tg.slots (ps.map SV.p)) b = some (o, b')) : forLoop tg F (x :: xs) S b = forK tg F xs o b' := by
  conv => lhs; unfold forLoop
  rw [h1]
  simp only
  rw [h2]
  cases o <;> rfl
/-- a loop whose body goes on, or returns -/
def foldR {α β : Type} (f : α → β → α ⊕ SV) : α → List β → α ⊕ SV
  | a, [] => .inl a
  | a, y :: ys => match f a y with
    | .inl a' => foldR f a' ys
    | .inr r => .inr r
theorem for_foldR {α β : Type} {tg : Tg} {F : Fs} (Iv : α → Sl → BS → Prop) (Rv : SV → BS → Prop) (f : α → β → α ⊕ SV) (enc : β → PV) : ∀ (ys : List β) (a : α) (S : Sl) (b : BS),
    (∀ a y S b, y ∈ ys → Iv a S b → ∃ ps o b', tg.parts (enc y) = some ps ∧ F (setS S tg.slots (ps.map SV.p)) b = some (o, b') ∧ (match f a y with
      | .inl a' => ∃ S', (o = .nx S' ∨ o = .ct S') ∧ Iv a' S' b'
      | .inr r => o = .rt r ∧ Rv r b')) → Iv a S b →
    match foldR f a ys with
    | .inl a' => ∃ S' b', forLoop tg F (ys.map enc) S b = some (.nx S', b') ∧ Iv a' S' b'
    | .inr r => ∃ b', forLoop tg F (ys.map enc) S b = some (.rt r, b') ∧ Rv r b' := by
  intro ys
  induction ys with
  | nil => intro a S b _ h; exact ⟨S, b, rfl, h⟩
  | cons y ys ih =>
    intro a S b hs h
    obtain ⟨ps, o, b', h1, h2, h3⟩ := hs a y S b List.mem_cons_self h
    rw [List.map_cons, forLoop_cons h1 h2]
    unfold foldR
    split at h3
    · rename_i a' ha
      obtain ⟨S', ho, h4⟩ := h3
      try rw [ha]
      have := ih a' S' b' (fun a y S b hy => hs a y S b (List.mem_cons_of_mem _ hy)) h4
      rcases ho with rfl | rfl <;> exact this
    · rename_i r hr
      obtain ⟨rfl, h4⟩ := h3
      try rw [hr]
      exact ⟨b', rfl, h4⟩
/-- a loop that never returns -/
theorem for_fold {α β : Type} {tg : Tg} {F : Fs} (Iv : α → Sl → BS → Prop) (f : α → β → α) (enc : β → PV) : ∀ (ys : List β) (a : α) (S : Sl) (b : BS),
    (∀ a y S b, y ∈ ys → Iv a S b → ∃ ps S' b', tg.parts (enc y) = some ps ∧ (F (setS S tg.slots (ps.map SV.p)) b = some (.nx S', b') ∨ F (setS S tg.slots (ps.map SV.p)) b = some (.ct S', b')) ∧ Iv (f a y) S' b') → Iv a S b →
    ∃ S' b', forLoop tg F (ys.map enc) S b = some (.nx S', b') ∧ Iv (ys.foldl f a) S' b' := by
  intro ys
  induction ys with
  | nil => intro a S b _ h; exact ⟨S, b, rfl, h⟩
  | cons y ys ih =>
    intro a S b hs h
    obtain ⟨ps, S', b', h1, h2, h3⟩ := hs a y S b List.mem_cons_self h
    have e : forLoop tg F ((y :: ys).map enc) S b = forLoop tg F (ys.map enc) S' b' := by
      rw [List.map_cons]
      rcases h2 with h2 | h2 <;> rw [forLoop_cons h1 h2] <;> rfl
    rw [e, List.foldl_cons]
    exact ih (f a y) S' b' (fun a y S b hy => hs a y S b (List.mem_cons_of_mem _ hy)) h3
/-- a comprehension that leaves the box -/
theorem lc_map {β : Type} {tg : Tg} {ft : Ft} {fe : Fe} {S : Sl} (enc : β → PV) (p : β → Bool) (g : β → PV) (b : BS) : ∀ ys : List β,
    (∀ y, y ∈ ys → ∃ ps, tg.parts (enc y) = some ps ∧ ft (setS S tg.slots (ps.map SV.p)) b = some (p y, b) ∧ (p y = true → fe (setS S tg.slots (ps.map SV.p)) b = some (.p (g y), b))) →
    lcLoop tg ft fe S (ys.map enc) b = some ((ys.filter p).map g, b) := by
  intro ys
  induction ys with
  | nil => intro _; rfl
  | cons y ys ih =>
    intro hs
    obtain ⟨ps, h1, h2, h3⟩ := hs y List.mem_cons_self
    have ih' := ih fun y hy => hs y (List.mem_cons_of_mem _ hy)
    show lcLoop tg ft fe S (enc y :: ys.map enc) b = _
    unfold lcLoop
    rw [h1]
    simp only
    rw [h2]
    simp only [bnd_mk]
    cases hp : p y with
    | true =>
      rw [if_pos rfl, h3 hp]
      simp only [bnd_mk]
      rw [ih']
      simp [hp]
    | false =>
      rw [if_neg (by decide), ih']
      simp [hp]
theorem lc_all {β : Type} {tg : Tg} {fe : Fe} {S : Sl} (enc : β → PV) (g : β → PV) (b : BS) (ys : List β)
    (hs : ∀ y, y ∈ ys → ∃ ps, tg.parts (enc y) = some ps ∧ fe (setS S tg.slots (ps.map SV.p)) b = some (.p (g y), b)) :
    lcLoop tg fYes fe S (ys.map enc) b = some (ys.map g, b) := by
  have := lc_map (tg := tg) (ft := fYes) (fe := fe) (S := S) enc (fun _ => true) g b ys fun y hy => by
    obtain ⟨ps, h1, h2⟩ := hs y hy
    exact ⟨ps, h1, rfl, fun _ => h2⟩
  rw [this, List.filter_eq_self.mpr (fun _ _ => rfl)]
theorem wh_step {ft : Ft} {F : Fs} {n : Nat} {S S' : Sl} {b b1 b2 : BS} (h1 : ft S b = some (true, b1)) (h2 : F S b1 = some (.nx S', b2)) : whLoop ft F (n + 1) S b = whLoop ft F n S' b2 := by
  conv => lhs; unfold whLoop
  rw [h1]
  simp only [bnd_mk, ↓reduceIte]
  rw [h2]
  rfl
theorem wh_stop {ft : Ft} {F : Fs} {n : Nat} {S : Sl} {b b1 : BS} (h1 : ft S b = some (false, b1)) : whLoop ft F (n + 1) S b = some (.nx S, b1) := by
  conv => lhs; unfold whLoop
  rw [h1]
  rfl
end K15
/-! K15P0: the evaluators opened by simp; budgets, above -/
set_option autoImplicit false
namespace K15
open PySem PySem.Spec PyProof.Rows L2 K15R
section
variable (S : Sl) (b : BS) (fa fb fc fe : Fe) (fs : Fa) (ft fu : Ft) (F1 F2 F : Fs) (fi : Fi)
@[simp] theorem z_var (i : Nat) : fVar i S b = (match S[i]? with | some (some x) => some (x.arg, b) | _ => none) := rfl
@[simp] theorem z_c (x : SV) : fC x S b = some (x, b) := rfl
@[simp] theorem z_op (g : SV → SV → Option SV) : fOp g fa fb S b = bnd (fa S b) fun x b1 => bnd (fb S b1) fun y b2 => ret (g x y) b2 := rfl
@[simp] theorem z_nil : fNil S b = some ([], b) := rfl
@[simp] theorem z_cons : fCons fa fs S b = bnd (fa S b) fun x b1 => bnd (fs S b1) fun xs b2 => some (x :: xs, b2) := rfl
@[simp] theorem z_tup : fTup fs S b = bnd (fs S b) fun xs b1 => match pvs xs with
  | some ps => if ps.length ≤ 100000 then some (.p (.t ps), b1) else none
  | none => none := rfl
@[simp] theorem z_lst : fLst fs S b = bnd (fs S b) fun xs b1 => match pvs xs with
  | some ps => if ps.length ≤ 100000 then some (.m ps, b1) else none
  | none => none := rfl
@[simp] theorem z_cb (g : List SV → Option SV) : fCB g fs S b = bnd (fs S b) fun xs b1 => ret (g xs) b1 := rfl
@[simp] theorem z_call (D : Fn) : fCall D fs S b = bnd (fs S b) fun xs b1 => D (xs.map SV.arg) b1 := rfl
@[simp] theorem z_test : fTest fa S b = bnd (fa S b) fun x b1 => match x with
  | .p (.b c) => some (c, b1)
  | _ => none := rfl
@[simp] theorem z_tand : fTAnd ft fu S b = bnd (ft S b) fun c b1 => if c then fu S b1 else some (false, b1) := rfl
@[simp] theorem z_tor : fTOr ft fu S b = bnd (ft S b) fun c b1 => if c then some (true, b1) else fu S b1 := rfl
@[simp] theorem z_tnot : fTNot ft S b = bnd (ft S b) fun c b1 => some (!c, b1) := rfl
@[simp] theorem z_yes : fYes S b = some (true, b) := rfl
@[simp] theorem z_neg : fNeg fa S b = bnd (fa S b) fun x b1 => match x with
  | .p (.i n) => some (.p (.i (-n)), b1)
  | _ => none := rfl
@[simp] theorem z_not : fNot fa S b = bnd (fa S b) fun x b1 => match x with
  | .p (.b n) => some (.p (.b (!n)), b1)
  | _ => none := rfl
@[simp] theorem z_and : fAnd fa fb S b = bnd (fa S b) fun x b1 => match x with
  | .p (.b true) => fb S b1
  | .p (.b false) => some (.p (.b false), b1)
  | _ => none := rfl
@[simp] theorem z_or : fOr fa fb S b = bnd (fa S b) fun x b1 => match x with
  | .p (.b false) => fb S b1
  | .p (.b true) => some (.p (.b true), b1)
  | _ => none := rfl
@[simp] theorem z_chain (g g' : SV → SV → Option SV) : fChain g g' fa fb fc S b = bnd (fa S b) fun x b1 => bnd (fb S b1) fun y b2 => match g x y with
  | some (.p (.b true)) => bnd (fc S b2) fun z b3 => ret (g' y z) b3
  | some (.p (.b false)) => some (.p (.b false), b2)
  | _ => none := rfl
@[simp] theorem z_itT : fItT fe S b = bnd (fe S b) fun x b1 => match x with
  | .p (.t xs) => some (xs, b1)
  | _ => none := rfl
@[simp] theorem z_itM : fItM fe S b = bnd (fe S b) fun x b1 => match x with
  | .m xs => some (xs, b1)
  | _ => none := rfl
@[simp] theorem z_itL : fItL fe S b = bnd (fe S b) fun x b1 => match x.hl with
  | some xs => some (xs, b1)
  | none => none := rfl
@[simp] theorem z_itV (i : Nat) : fItV i S b = (match S[i]? with
  | some (some (.l xs)) => some (xs, b)
  | _ => none) := rfl
@[simp] theorem z_rng1 : fRng1 fs S b = bnd (fs S b) fun xs b1 => match xs with
  | [.p (.i n)] => if -(2 ^ 62) ≤ n ∧ n < 2 ^ 62 then some (rngL 0 n.toNat, b1) else none
  | _ => none := rfl
@[simp] theorem z_rng2 : fRng2 fs S b = bnd (fs S b) fun xs b1 => match xs with
  | [.p (.i m), .p (.i n)] => if -(2 ^ 62) ≤ m ∧ m < 2 ^ 62 ∧ -(2 ^ 62) ≤ n ∧ n < 2 ^ 62 then some (rngL m (n - m).toNat, b1) else none
  | _ => none := rfl
@[simp] theorem z_rng3 : fRng3 fs S b = bnd (fs S b) fun xs b1 => match xs with
  | [.p (.i m), .p (.i n), .p (.i c)] => if cRg m n c = true then some (rngC m c (Builtin.Range.rangeSize m n c).toNat, b1) else none
  | _ => none := rfl
@[simp] theorem z_enum : fEnum fs S b = bnd (fs S b) fun xs b1 => match xs with
  | [.p (.t ys)] => some (enumL 0 ys, b1)
  | _ => none := rfl
@[simp] theorem z_zip : fZip fs S b = bnd (fs S b) fun xs b1 => match xs with
  | [.p (.t ys), .p (.t zs)] => some (zipL ys zs, b1)
  | _ => none := rfl
@[simp] theorem z_lc (tg : Tg) (vs : List Nat) : fLc fi tg ft fe vs S b = bnd (fi S b) fun xs b1 => if xs.length ≤ 50000 then bnd (lcLoop tg ft fe (wpS S vs) xs b1) fun ys b2 => some (.m ys, b2) else none := rfl
@[simp] theorem z_scs (tg : Tg) (vs : List Nat) : fScSort fi tg ft fe vs S b = bnd (fi S b) fun xs b1 => if xs.length ≤ 60 then bnd (lcLoop tg ft fe (wpS S vs) xs b1) fun ys b2 => match intsP ys with
  | some ns => some (.m ((usort ns).map PV.i), b2)
  | none => none
  else none := rfl
@[simp] theorem z_sset : fSortSet fe S b = bnd (fe S b) fun x b1 => match x.lst.bind intsP with
  | some ns => if ns.length < 64 then some (.m ((usort ns).map PV.i), b1) else none
  | none => none := rfl
@[simp] theorem z_slam (i : Nat) : fSortLam i fe S b = bnd (fe S b) fun x b1 => match x, S[i]? with
  | .rg n, some (some (.p (.t ys))) => match intsP ys with
    | some ns => if n ≤ 1000 ∧ ns.length = n then some (.m ((ordP ns).map fun j => .i (j : Nat)), b1) else none
    | none => none
  | _, _ => none := rfl
@[simp] theorem z_sl4 : fSl4 fe S b = bnd (fe S b) fun x b1 => match x with
  | .p (.t xs) => some (.p (.t (xs.take 4)), b1)
  | _ => none := rfl
@[simp] theorem z_bpos (i : Nat) : fBoxPos i S b = (match S[i]? with
  | some (some .box) => some (.p (.i b.2), b)
  | _ => none) := rfl
@[simp] theorem z_bl (i : Nat) : fBoxL i S b = (match S[i]? with
  | some (some .box) => some (.l (b.1.map PV.i), b)
  | _ => none) := rfl
@[simp] theorem z_bset (i : Nat) : fBoxSet i fe S b = bnd (fe S b) fun r b1 => match r, S[i]? with
  | .p (.i n), some (some .box) => some (.nx S, (b1.1, n))
  | _, _ => none := rfl
@[simp] theorem z_seq : fSeq F1 F2 S b = bnd (F1 S b) fun o b1 => match o with
  | .nx S' => F2 S' b1
  | o => some (o, b1) := rfl
@[simp] theorem z_next : fNext S b = some (.nx S, b) := rfl
@[simp] theorem z_cont : fCont S b = some (.ct S, b) := rfl
@[simp] theorem z_ret : fRet fe S b = bnd (fe S b) fun r b1 => some (.rt r, b1) := rfl
@[simp] theorem z_retV (i : Nat) : fRetV i S b = (match S[i]? with
  | some (some x) => some (.rt x, b)
  | _ => none) := rfl
@[simp] theorem z_if : fIf ft F1 F2 S b = bnd (ft S b) fun c b1 => if c then F1 S b1 else F2 S b1 := rfl
@[simp] theorem z_asg (i : Nat) : fAsg i fe S b = bnd (fe S b) fun r b1 => match r with
  | .p x => some (.nx (S.set i (some (.p x))), b1)
  | .m xs => some (.nx (S.set i (some (.m xs))), b1)
  | _ => none := rfl
@[simp] theorem z_asgT (tg : Tg) : fAsgT tg fe S b = bnd (fe S b) fun r b1 => match r with
  | .p x => match tg.parts x with
    | some ps => some (.nx (setS S tg.slots (ps.map SV.p)), b1)
    | none => none
  | _ => none := rfl
@[simp] theorem z_par (i j : Nat) : fPar i j fs S b = bnd (fs S b) fun xs b1 => match xs with
  | [.p x, .p y] => some (.nx ((S.set i (some (.p x))).set j (some (.p y))), b1)
  | _ => none := rfl
@[simp] theorem z_setIx (i : Nat) (fk : Fe) : fSetIx i fk fe S b = bnd (fe S b) fun r b1 => bnd (fk S b1) fun k b2 => match r, k, S[i]? with
  | .p x, .p (.i k), some (some (.m xs)) => if 0 ≤ k ∧ k.toNat < xs.length then some (.nx (S.set i (some (.m (xs.set k.toNat x)))), b2) else none
  | _, _, _ => none := rfl
@[simp] theorem z_app (i : Nat) : fApp i fe S b = bnd (fe S b) fun r b1 => match r, S[i]? with
  | .p x, some (some (.m xs)) => if xs.length < 100000 then some (.nx (S.set i (some (.m (xs ++ [x])))), b1) else none
  | _, _ => none := rfl
@[simp] theorem z_for (tg : Tg) : fFor fi tg F S b = bnd (fi S b) fun xs b1 => forLoop tg F xs S b1 := rfl
@[simp] theorem z_down (i : Nat) : fDown i F S b = (match S[i]? with
  | some (some (.m xs)) => F (S.set i (some (.l xs))) b
  | _ => F S b) := rfl
end
@[simp] theorem y_I (f : Int → Int → PV) (m n : Int) : gI f (.p (.i m)) (.p (.i n)) = some (.p (f m n)) := rfl
@[simp] theorem y_Ic (c : Int → Int → Bool) (f : Int → Int → PV) (m n : Int) : gIc c f (.p (.i m)) (.p (.i n)) = if c m n then some (.p (f m n)) else none := rfl
@[simp] theorem y_eqi (neg : Bool) (m n : Int) : gEqB neg (.p (.i m)) (.p (.i n)) = some (.p (.b (decide (m = n) ^^ neg))) := rfl
@[simp] theorem y_eqs (neg : Bool) (m n : Str) : gEqB neg (.p (.s m)) (.p (.s n)) = some (.p (.b (decide (m = n) ^^ neg))) := rfl
@[simp] theorem y_argp (x : PV) : SV.arg (.p x) = .p x := rfl
@[simp] theorem y_argl (x : List PV) : SV.arg (.l x) = .l x := rfl
@[simp] theorem y_argk (x : List PV) : SV.arg (.k x) = .k x := rfl
@[simp] theorem y_argm (x : List PV) : SV.arg (.m x) = .l x := rfl
@[simp] theorem y_argb : SV.arg .box = .box := rfl
@[simp] theorem y_argt (n : String) : SV.arg (.ty n) = .ty n := rfl
@[simp] theorem y_ll (x : List PV) : SV.lst (.l x) = some x := rfl
@[simp] theorem y_lk (x : List PV) : SV.lst (.k x) = some x := rfl
@[simp] theorem y_lm (x : List PV) : SV.lst (.m x) = some x := rfl
@[simp] theorem y_hl (x : List PV) : SV.hl (.l x) = some x := rfl
@[simp] theorem y_hm (x : List PV) : SV.hl (.m x) = some x := rfl
@[simp] theorem y_st (x : List PV) : SV.seq (.p (.t x)) = some x := rfl
@[simp] theorem y_sl (x : List PV) : SV.seq (.l x) = some x := rfl
@[simp] theorem y_sk (x : List PV) : SV.seq (.k x) = some x := rfl
@[simp] theorem y_sm (x : List PV) : SV.seq (.m x) = some x := rfl
@[simp] theorem y_pvs0 : pvs [] = some [] := rfl
@[simp] theorem y_pvs1 (x : PV) (xs : List SV) : pvs (.p x :: xs) = (pvs xs).map (x :: ·) := rfl
@[simp] theorem y_len (x : SV) : gLen [x] = x.seq.map fun xs => .p (.i xs.length) := rfl
@[simp] theorem y_ix (x : SV) (k : Int) : gIx x (.p (.i k)) = (match x.seq with
    | some xs => if 0 ≤ k then xs[k.toNat]?.map SV.p else none
    | none => none) := by
  unfold gIx; rfl
@[simp] theorem y_cat (x y : SV) : gCat x y = (match x.hl, y.hl with
  | some xs, some ys => if xs.length + ys.length ≤ 100000 then some (.m (xs ++ ys)) else none
  | _, _ => none) := rfl
@[simp] theorem y_catA (xs ys : List PV) : gCatA (.p (.t xs)) (.p (.t ys)) = if xs.length + ys.length ≤ 100000 then some (.p (.t (xs ++ ys))) else none := rfl
@[simp] theorem y_rep (x : SV) (k : Int) : gRep x (.p (.i k)) = (match x.hl with
    | some xs => if 0 ≤ k ∧ k ≤ 100000 ∧ xs.length * k.toNat ≤ 100000 then some (.m (List.replicate k.toNat xs).flatten) else none
    | none => none) := rfl
@[simp] theorem y_onInts (k : List Int → Option SV) (x : SV) : onInts k [x] = (x.lst.bind intsP).bind k := rfl
@[simp] theorem y_tupof (x : SV) : gTupOf [x] = x.lst.map fun xs => .p (.t xs) := rfl
@[simp] theorem y_one (i : Nat) (x : PV) : (Tg.one i).parts x = some [x] := rfl
@[simp] theorem y_many (is : List Nat) (xs : List PV) : (Tg.many is).parts (.t xs) = if xs.length = is.length then some xs else none := rfl
@[simp] theorem y_sone (i : Nat) : (Tg.one i).slots = [i] := rfl
@[simp] theorem y_smany (is : List Nat) : (Tg.many is).slots = is := rfl
@[simp] theorem y_setS {α : Type} (S : List (Option α)) (i : Nat) (is : List Nat) (x : α) (xs : List α) : setS S (i :: is) (x :: xs) = setS (S.set i (some x)) is xs := rfl
@[simp] theorem y_setS0 {α : Type} (S : List (Option α)) (xs : List α) : setS S [] xs = S := by cases xs <;> rfl
@[simp] theorem y_wpS0 (S : Sl) : wpS S [] = S := rfl
@[simp] theorem y_wpS1 (S : Sl) (v : Nat) (vs : List Nat) : wpS S (v :: vs) = (wpS S vs).set v none := rfl
@[simp] theorem y_min2 (m n : Int) : gMin2 [.p (.i m), .p (.i n)] = some (.p (.i (if n < m then n else m))) := rfl
@[simp] theorem y_max2 (m n : Int) : gMax2 [.p (.i m), .p (.i n)] = some (.p (.i (if n > m then n else m))) := rfl
@[simp] theorem y_int1 (m : Int) : gInt1 [.p (.i m)] = some (.p (.i m)) := rfl
@[simp] theorem y_int1b (m : Bool) : gInt1 [.p (.b m)] = some (.p (.i (if m then 1 else 0))) := rfl
@[simp] theorem y_repr (m : Bool) : gRepr [.p (.b m)] = some (.p (.s (if m then Str.ofString "True" else Str.ofString "False"))) := rfl
@[simp] theorem y_rg1 (n : Int) : gRange1 [.p (.i n)] = if 0 ≤ n then some (.rg n.toNat) else none := rfl
/-! ### budgets -/
structure Bud where
  nm : Str
  cap : Int
  par : Int
def encB (x : Bud) : PV := .t [.s x.nm, .i x.cap, .i x.par]
def encBs (bs : List Bud) : PV := .t (bs.map encB)
def nI (j : Nat) : PV := .i (j : Int)
/-- budgets as the law draws them -/
structure VB (bs : List Bud) : Prop where
  len : 1 ≤ bs.length ∧ bs.length ≤ 3
  cap : ∀ (k : Nat) (x : Bud), bs[k]? = some x → 0 ≤ x.cap ∧ x.cap ≤ 3
  par : ∀ (k : Nat) (x : Bud), bs[k]? = some x → -1 ≤ x.par ∧ x.par < k
def parN (bs : List Bud) (k : Nat) : Int := ((bs[k]?).map Bud.par).getD (-1)
def capN (bs : List Bud) (k : Nat) : Int := ((bs[k]?).map Bud.cap).getD 0
def aboveN (bs : List Bud) : Nat → Nat → List Nat
  | 0, _ => []
  | f + 1, k => if 0 ≤ parN bs k then (parN bs k).toNat :: aboveN bs f (parN bs k).toNat else []
def pathN (bs : List Bud) (k : Nat) : List Nat := k :: aboveN bs k k
theorem wh_above {bs : List Bud} (vb : VB bs) (b : BS) : ∀ (f k n : Nat) (acc : List PV), k ≤ f → k < bs.length → f < n → acc.length + f < 1000 →
    ∃ z, whLoop (fTest (fOp gGe (fVar 1) (fC (.p (.i 0))))) (fSeq (fApp 2 (fVar 1)) (fAsg 1 (fOp gIx (fOp gIx (fVar 0) (fVar 1)) (fC (.p (.i 2)))))) n [some (.p (encBs bs)), some (.p (.i (parN bs k))), some (.m acc)] b =
      some (.nx [some (.p (encBs bs)), z, some (.m (acc ++ (aboveN bs f k).map nI))], b) := by
  intro f
  induction f with
  | zero =>
    intro k n acc hk hl hn _
    obtain ⟨n, rfl⟩ : ∃ m, n = m + 1 := ⟨n - 1, by omega⟩
    obtain ⟨x, hx⟩ : ∃ x, bs[k]? = some x := ⟨_, List.getElem?_eq_getElem hl⟩
    have hp := vb.par k x hx
    have e : parN bs k = x.par := by simp [parN, hx]
    refine ⟨some (.p (.i (parN bs k))), (wh_stop (b1 := b) ?_).trans ?_⟩
    · simp [e]; omega
    · simp [aboveN]
  | succ f ih =>
    intro k n acc hk hl hn ha
    obtain ⟨n, rfl⟩ : ∃ m, n = m + 1 := ⟨n - 1, by omega⟩
    obtain ⟨x, hx⟩ : ∃ x, bs[k]? = some x := ⟨_, List.getElem?_eq_getElem hl⟩
    have hp := vb.par k x hx
    have e : parN bs k = x.par := by simp [parN, hx]
    by_cases h0 : 0 ≤ parN bs k
    · have hl' : (parN bs k).toNat < bs.length := by omega
      obtain ⟨y, hy⟩ : ∃ y, bs[(parN bs k).toNat]? = some y := ⟨_, List.getElem?_eq_getElem hl'⟩
      have e' : parN bs (parN bs k).toNat = y.par := by
        show ((bs[(parN bs k).toNat]?).map Bud.par).getD (-1) = _
        rw [hy]; rfl
      obtain ⟨z, hz⟩ := ih (parN bs k).toNat n (acc ++ [.i (parN bs k)]) (by omega) hl' (by omega) (by simp; omega)
      refine ⟨z, (wh_step (b1 := b) (b2 := b) ?_ ?_).trans (hz.trans ?_)⟩
      · simp [h0]
      · have hlt : acc.length < 100000 := by omega
        simp [hlt, encBs, h0, hy, encB, e']
      · have e2 : aboveN bs (f + 1) k = (parN bs k).toNat :: aboveN bs f (parN bs k).toNat := by simp [aboveN, h0]
        have e3 : nI (parN bs k).toNat = .i (parN bs k) := by show PV.i _ = _; rw [Int.toNat_of_nonneg h0]
        rw [e2, List.map_cons, e3, List.append_assoc]; rfl
    · refine ⟨some (.p (.i (parN bs k))), (wh_stop (b1 := b) ?_).trans ?_⟩
      · simp [h0]
      · simp [aboveN, h0]
theorem eq_above {bs : List Bud} (vb : VB bs) {k : Nat} (hk : k < bs.length) (b : BS) : D_above [.p (encBs bs), .p (.i k)] b = some (.m ((aboveN bs k k).map nI), b) := by
  obtain ⟨x, hx⟩ : ∃ x, bs[k]? = some x := ⟨_, List.getElem?_eq_getElem hk⟩
  have e : parN bs k = x.par := by simp [parN, hx]
  obtain ⟨z, hz⟩ := wh_above vb b k k 100000 [] (Nat.le_refl k) hk (by have := vb.len; omega) (by have := vb.len; simp; omega)
  refine mkFn_eq rfl ?_
  rw [e] at hz
  simp [F_above, stS, encBs, hx, encB] at hz ⊢
  rw [hz]
  simp
end K15
/-! K15P1: worst -/
set_option autoImplicit false
namespace K15
open PySem PySem.Spec PyProof.Rows L2 K15R
def getI (ns : List Int) (k : Nat) : Int := (ns[k]?).getD 0
theorem getI_get {ns : List Int} {k : Nat} (h : k < ns.length) : ns[k]? = some (getI ns k) := by
  unfold getI; rw [List.getElem?_eq_getElem h]; rfl
theorem getI_eq {ns : List Int} {k : Nat} (h : k < ns.length) : getI ns k = ns[k] := by
  unfold getI; rw [List.getElem?_eq_getElem h]; rfl
@[simp] theorem intsP_map' {β : Type} (f : β → Int) : ∀ ys : List β, intsP (ys.map fun y => PV.i (f y)) = some (ys.map f)
  | [] => rfl
  | y :: ys => by simp [intsP, intsP_map' f ys]
@[simp] theorem intsP_nI : ∀ ys : List Nat, intsP (ys.map nI) = some (ys.map fun (j : Nat) => (j : Int)) := intsP_map' fun (j : Nat) => (j : Int)
theorem above_lt {bs : List Bud} (vb : VB bs) : ∀ (f k : Nat), k < bs.length → ∀ j ∈ aboveN bs f k, j < bs.length ∧ j < k := by
  intro f
  induction f with
  | zero => intro k hk j hj; cases hj
  | succ f ih =>
    intro k hk j hj
    obtain ⟨x, hx⟩ : ∃ x, bs[k]? = some x := ⟨_, List.getElem?_eq_getElem hk⟩
    have hp := vb.par k x hx
    have e : parN bs k = x.par := by simp [parN, hx]
    unfold aboveN at hj
    split at hj
    · rename_i h0
      rcases List.mem_cons.mp hj with rfl | hj
      · omega
      · have := ih (parN bs k).toNat (by omega) j hj
        omega
    · cases hj
theorem path_lt {bs : List Bud} (vb : VB bs) {k : Nat} (hk : k < bs.length) : ∀ j ∈ pathN bs k, j < bs.length := fun j hj => by
  rcases List.mem_cons.mp hj with rfl | hj
  · exact hk
  · exact (above_lt vb k k hk j hj).1
theorem above_len (bs : List Bud) : ∀ (f k : Nat), (aboveN bs f k).length ≤ f := by
  intro f
  induction f with
  | zero => intro k; simp [aboveN]
  | succ f ih =>
    intro k
    unfold aboveN
    split
    · have := ih (parN bs k).toNat
      simp; exact this
    · simp
def iT (ns : List Int) : PV := .t (ns.map PV.i)
structure Pn (bs : List Bud) (ps : List Int) : Prop where
  len : ps.length = bs.length
  nn : ∀ (k : Nat) (x : Int), ps[k]? = some x → 0 ≤ x ∧ x < 1000000
structure WS where
  left : List Int
  faults : List Int
  total : Int
def mnP (left : List Int) (p : List Nat) : Int := lmin (p.map (getI left))
def subP (c : Int) (left : List Int) (p : List Nat) : List Int := p.foldl (fun l j => l.set j (getI l j - c)) left
def wStep (bs : List Bud) (ps : List Int) (w : WS) (s : Nat) : WS :=
  if 0 < getI ps s then ⟨subP (mnP w.left (pathN bs s)) w.left (pathN bs s), w.faults.set s (mnP w.left (pathN bs s)), w.total + getI ps s * mnP w.left (pathN bs s)⟩ else w
def wStart (bs : List Bud) : WS := ⟨bs.map Bud.cap, List.replicate bs.length 0, 0⟩
def wAll (bs : List Bud) (ps : List Int) : WS := (ordP ps).foldl (wStep bs ps) (wStart bs)
theorem ordP_lt {ps : List Int} : ∀ j ∈ ordP ps, j < ps.length := fun j hj => by
  rw [← ordr_eq] at hj
  have : j ∈ List.range ps.length := (List.mergeSort_perm _ _).mem_iff.mp hj
  simpa using this
theorem sub_len (c : Int) : ∀ (p : List Nat) (l : List Int), (subP c l p).length = l.length
  | [], l => rfl
  | j :: p, l => by
    show (subP c (l.set j (getI l j - c)) p).length = _
    rw [sub_len c p, List.length_set]
theorem eq_path {bs : List Bud} (vb : VB bs) {s : Nat} (hs : s < bs.length) : [PV.i (s : Int)] ++ (aboveN bs s s).map nI = (pathN bs s).map nI := rfl
theorem rep0 (n : Nat) : (List.replicate n [PV.i 0]).flatten = (List.replicate n (0 : Int)).map PV.i := by
  induction n with
  | zero => rfl
  | succ n ih => rw [List.replicate_succ, List.flatten_cons, ih, List.replicate_succ]; rfl
theorem seq_nx {F1 F2 : Fs} {S S' : Sl} {b b' : BS} (h : F1 S b = some (.nx S', b')) : fSeq F1 F2 S b = F2 S' b' := by
  show bnd (F1 S b) _ = _
  rw [h]; rfl
theorem seq_rt {F1 F2 : Fs} {S : Sl} {b b' : BS} {r : SV} (h : F1 S b = some (.rt r, b')) : fSeq F1 F2 S b = some (.rt r, b') := by
  show bnd (F1 S b) _ = _
  rw [h]; rfl
theorem seq_ct {F1 F2 : Fs} {S S' : Sl} {b b' : BS} (h : F1 S b = some (.ct S', b')) : fSeq F1 F2 S b = some (.ct S', b') := by
  show bnd (F1 S b) _ = _
  rw [h]; rfl
theorem for_eq {fi : Fi} {tg : Tg} {F : Fs} {S : Sl} {b b1 : BS} {xs : List PV} {r : Option (Out × BS)} (h : fi S b = some (xs, b1)) (h2 : forLoop tg F xs S b1 = r) : fFor fi tg F S b = r := by
  show bnd (fi S b) _ = _
  rw [h]; exact h2
theorem lc_eq {fi : Fi} {tg : Tg} {ft : Ft} {fe : Fe} {vs : List Nat} {S : Sl} {b b1 b2 : BS} {xs ys : List PV} (h : fi S b = some (xs, b1)) (hl : xs.length ≤ 50000) (h2 : lcLoop tg ft fe (wpS S vs) xs b1 = some (ys, b2)) : fLc fi tg ft fe vs S b = some (.m ys, b2) := by
  show bnd (fi S b) _ = _
  rw [h]
  show (if xs.length ≤ 50000 then _ else _) = _
  rw [if_pos hl, h2]; rfl
theorem asg_m {i : Nat} {fe : Fe} {S : Sl} {b b' : BS} {ys : List PV} (h : fe S b = some (.m ys, b')) : fAsg i fe S b = some (.nx (S.set i (some (.m ys))), b') := by
  show bnd (fe S b) _ = _
  rw [h]; rfl
theorem asg_p {i : Nat} {fe : Fe} {S : Sl} {b b' : BS} {x : PV} (h : fe S b = some (.p x, b')) : fAsg i fe S b = some (.nx (S.set i (some (.p x))), b') := by
  show bnd (fe S b) _ = _
  rw [h]; rfl
theorem ordP_len (ps : List Int) : (ordP ps).length = ps.length := by
  rw [← ordr_eq]
  show (List.mergeSort (List.range ps.length) _).length = _
  rw [(List.mergeSort_perm _ _).length_eq, List.length_range]
theorem foldl_sub (c : Int) : ∀ (p : List Nat) (l : List Int), p.foldl (fun l j => l.set j (getI l j - c)) l = subP c l p := fun _ _ => rfl
theorem cap_list (bs : List Bud) : (bs.map Bud.cap).map PV.i = bs.map fun x => PV.i x.cap := by rw [List.map_map]; rfl
theorem lmin_mem : ∀ {ns : List Int}, ns ≠ [] → lmin ns ∈ ns := by
  intro ns
  induction ns with
  | nil => intro h; exact absurd rfl h
  | cons n ns ih =>
    intro _
    cases ns with
    | nil => simp [lmin]
    | cons k ks =>
      have h1 := ih (by simp)
      have e : lmin (n :: k :: ks) = if lmin (k :: ks) < n then lmin (k :: ks) else n := rfl
      rw [e]
      split
      · exact List.mem_cons_of_mem _ h1
      · exact List.mem_cons_self
theorem cMul_l {i j : Int} (h1 : -(2 ^ 64) < i) (h2 : i < 2 ^ 64) : cMul i j = true := by
  unfold cMul
  rw [decide_eq_true (show -(2 ^ 64) < i ∧ i < 2 ^ 64 from ⟨h1, h2⟩)]; rfl
def F_worstB : Fs := (fSeq (fAsg 6 (fOp gCat (fLst (fCons (fVar 5) fNil)) (fCall D_above (fCons (fVar 0) (fCons (fVar 5) fNil)))))
    (fSeq (fAsg 7 (fCB gMinL (fCons (fLc (fItL (fVar 6)) (.one 8) fYes (fOp gIx (fVar 2) (fVar 8)) [8]) fNil)))
    (fIf (fTest (fOp gGt (fOp gIx (fVar 1) (fVar 5)) (fC (.p (.i 0)))))
      (fSeq (fSetIx 3 (fVar 5) (fVar 7))
      (fSeq (fAsg 4 (fOp gAdd (fVar 4) (fOp gMul (fOp gIx (fVar 1) (fVar 5)) (fVar 7))))
      (fDown 6 (fFor (fItV 6) (.one 8)
        (fSetIx 2 (fVar 8) (fOp gSub_ (fOp gIx (fVar 2) (fVar 8)) (fVar 7)))))))
      fNext)))
theorem eq_worst {bs : List Bud} (vb : VB bs) {ps : List Int} (pn : Pn bs ps) (b : BS) : D_worst [.p (encBs bs), .p (iT ps)] b = some (.p (.t [.i (wAll bs ps).total, iT (wAll bs ps).faults]), b) := by
  have hn := vb.len
  refine mkFn_eq rfl ?_
  refine (seq_nx (S' := [some (.p (encBs bs)), some (.p (iT ps)), some (.m ((wStart bs).left.map PV.i)), none, none, none, none, none, none, none]) (b' := b) ?_).trans ?_
  · refine (asg_m (lc_eq (xs := bs.map encB) (b1 := b) rfl (by rw [List.length_map]; omega) (lc_all encB (fun x => PV.i x.cap) b bs fun y _ => ⟨[encB y], rfl, by simp [encB, stS]⟩))).trans ?_
    rw [← cap_list]; rfl
  refine (seq_nx (S' := [some (.p (encBs bs)), some (.p (iT ps)), some (.m ((wStart bs).left.map PV.i)), some (.m ((wStart bs).faults.map PV.i)), none, none, none, none, none, none]) (b' := b) ?_).trans ?_
  · have hc : bs.length ≤ 100000 := by omega
    refine (asg_m (ys := (wStart bs).faults.map PV.i) (b' := b) ?_).trans rfl
    have hc' : (bs.length : Int) ≤ 100000 := by omega
    simp [encBs, hc, hc', wStart]
  refine (seq_nx (S' := [some (.p (encBs bs)), some (.p (iT ps)), some (.m ((wStart bs).left.map PV.i)), some (.m ((wStart bs).faults.map PV.i)), some (.p (.i 0)), none, none, none, none, none]) (b' := b) rfl).trans ?_
  let Iv : WS → Sl → BS → Prop := fun w S b' => b' = b ∧ w.left.length = bs.length ∧ w.faults.length = bs.length ∧ ∃ z5 z6 z7 z8 z9, S = [some (.p (encBs bs)), some (.p (iT ps)), some (.m (w.left.map PV.i)), some (.m (w.faults.map PV.i)), some (.p (.i w.total)), z5, z6, z7, z8, z9]
  have step : ∀ (w : WS) (s : Nat) (S : Sl) (b' : BS), s ∈ ordP ps → Iv w S b' → ∃ qs S' b'', (Tg.one 5).parts (nI s) = some qs ∧ (F_worstB (setS S (Tg.one 5).slots (qs.map SV.p)) b' = some (.nx S', b'') ∨ F_worstB (setS S (Tg.one 5).slots (qs.map SV.p)) b' = some (.ct S', b'')) ∧ Iv (wStep bs ps w s) S' b'' := by
    rintro w s S b' hs ⟨rfl, h2, h3, z5, z6, z7, z8, z9, rfl⟩
    have hsl : s < ps.length := ordP_lt s hs
    have hsb : s < bs.length := by rw [← pn.len]; exact hsl
    have hps := getI_get hsl
    have hpn := pn.nn s _ hps
    have hpl := path_lt vb hsb
    have hal : (pathN bs s).length ≤ 100 := by
      have := above_len bs s s
      show (aboveN bs s s).length + 1 ≤ 100
      omega
    have e6 : fAsg 6 (fOp gCat (fLst (fCons (fVar 5) fNil)) (fCall D_above (fCons (fVar 0) (fCons (fVar 5) fNil)))) [some (.p (encBs bs)), some (.p (iT ps)), some (.m (w.left.map PV.i)), some (.m (w.faults.map PV.i)), some (.p (.i w.total)), some (.p (nI s)), z6, z7, z8, z9] b' =
        some (.nx [some (.p (encBs bs)), some (.p (iT ps)), some (.m (w.left.map PV.i)), some (.m (w.faults.map PV.i)), some (.p (.i w.total)), some (.p (nI s)), some (.m ((pathN bs s).map nI)), z7, z8, z9], b') := by
      have hl2 : (aboveN bs s s).length ≤ 99999 := by have : (pathN bs s).length = (aboveN bs s s).length + 1 := rfl; omega
      have hl3 : 1 + (aboveN bs s s).length ≤ 100000 := by omega
      simp [nI, eq_above vb hsb, hl3, pathN]
    have e7 : fAsg 7 (fCB gMinL (fCons (fLc (fItL (fVar 6)) (.one 8) fYes (fOp gIx (fVar 2) (fVar 8)) [8]) fNil)) [some (.p (encBs bs)), some (.p (iT ps)), some (.m (w.left.map PV.i)), some (.m (w.faults.map PV.i)), some (.p (.i w.total)), some (.p (nI s)), some (.m ((pathN bs s).map nI)), z7, z8, z9] b' =
        some (.nx [some (.p (encBs bs)), some (.p (iT ps)), some (.m (w.left.map PV.i)), some (.m (w.faults.map PV.i)), some (.p (.i w.total)), some (.p (nI s)), some (.m ((pathN bs s).map nI)), some (.p (.i (mnP w.left (pathN bs s)))), z8, z9], b') := by
      refine (asg_p (x := .i (mnP w.left (pathN bs s))) (b' := b') ?_).trans rfl
      have hlc := lc_eq (vs := [8]) (tg := .one 8) (ft := fYes) (fi := fItL (fVar 6)) (fe := fOp gIx (fVar 2) (fVar 8)) (S := [some (.p (encBs bs)), some (.p (iT ps)), some (.m (w.left.map PV.i)), some (.m (w.faults.map PV.i)), some (.p (.i w.total)), some (.p (nI s)), some (.m ((pathN bs s).map nI)), z7, z8, z9]) (b := b') (b1 := b') (xs := (pathN bs s).map nI) rfl (by rw [List.length_map]; omega) (lc_all nI (fun j => PV.i (getI w.left j)) b' (pathN bs s) fun j hj => ⟨[nI j], rfl, by
          have := getI_get (show j < w.left.length by rw [h2]; exact hpl j hj)
          simp [nI, this]⟩)
      show bnd (bnd (fLc _ _ _ _ _ _ _) _) _ = _
      rw [hlc]
      have hpos : 0 < (pathN bs s).length := Nat.succ_pos _
      simp [mnP, hpos]
    have hfin : ∀ F : Fs, F_worstB = fSeq (fAsg 6 (fOp gCat (fLst (fCons (fVar 5) fNil)) (fCall D_above (fCons (fVar 0) (fCons (fVar 5) fNil))))) (fSeq (fAsg 7 (fCB gMinL (fCons (fLc (fItL (fVar 6)) (.one 8) fYes (fOp gIx (fVar 2) (fVar 8)) [8]) fNil))) F) → F_worstB [some (.p (encBs bs)), some (.p (iT ps)), some (.m (w.left.map PV.i)), some (.m (w.faults.map PV.i)), some (.p (.i w.total)), some (.p (nI s)), z6, z7, z8, z9] b' =
        F [some (.p (encBs bs)), some (.p (iT ps)), some (.m (w.left.map PV.i)), some (.m (w.faults.map PV.i)), some (.p (.i w.total)), some (.p (nI s)), some (.m ((pathN bs s).map nI)), some (.p (.i (mnP w.left (pathN bs s)))), z8, z9] b' := fun F hF => by
      rw [hF, seq_nx e6, seq_nx e7]
    have hgo := hfin _ rfl
    by_cases hp : 0 < getI ps s
    · let Iv2 : List Int → Sl → BS → Prop := fun l S b'' => b'' = b' ∧ l.length = bs.length ∧ ∃ z8, S = [some (.p (encBs bs)), some (.p (iT ps)), some (.m (l.map PV.i)), some (.m ((w.faults.set s (mnP w.left (pathN bs s))).map PV.i)), some (.p (.i (w.total + getI ps s * mnP w.left (pathN bs s)))), some (.p (nI s)), some (.l ((pathN bs s).map nI)), some (.p (.i (mnP w.left (pathN bs s)))), z8, z9]
      have step2 : ∀ (l : List Int) (j : Nat) (S : Sl) (b'' : BS), j ∈ pathN bs s → Iv2 l S b'' → ∃ qs S' b3, (Tg.one 8).parts (nI j) = some qs ∧ ((fSetIx 2 (fVar 8) (fOp gSub_ (fOp gIx (fVar 2) (fVar 8)) (fVar 7))) (setS S (Tg.one 8).slots (qs.map SV.p)) b'' = some (.nx S', b3) ∨ (fSetIx 2 (fVar 8) (fOp gSub_ (fOp gIx (fVar 2) (fVar 8)) (fVar 7))) (setS S (Tg.one 8).slots (qs.map SV.p)) b'' = some (.ct S', b3)) ∧ Iv2 (l.set j (getI l j - mnP w.left (pathN bs s))) S' b3 := by
        rintro l j S b'' hj ⟨e1, e2, z, e3⟩
        subst e1 e3
        have hjl : j < l.length := by rw [e2]; exact hpl j hj
        have hg := getI_get hjl
        refine ⟨[nI j], _, b'', rfl, Or.inl ?_, rfl, by rw [List.length_set]; exact e2, some (.p (nI j)), rfl⟩
        rw [getI_eq hjl]
        simp [nI, hjl, List.map_set]
      obtain ⟨S2, b2, k1, k2, k3, z8', k4⟩ := for_fold (tg := .one 8) Iv2 (fun l j => l.set j (getI l j - mnP w.left (pathN bs s))) nI (pathN bs s) w.left [some (.p (encBs bs)), some (.p (iT ps)), some (.m (w.left.map PV.i)), some (.m ((w.faults.set s (mnP w.left (pathN bs s))).map PV.i)), some (.p (.i (w.total + getI ps s * mnP w.left (pathN bs s)))), some (.p (nI s)), some (.l ((pathN bs s).map nI)), some (.p (.i (mnP w.left (pathN bs s)))), z8, z9] b' step2 ⟨rfl, h2, z8, rfl⟩
      refine ⟨[nI s], S2, b2, rfl, Or.inl (hgo.trans ?_), ?_⟩
      · have hif : (fTest (fOp gGt (fOp gIx (fVar 1) (fVar 5)) (fC (.p (.i 0))))) [some (.p (encBs bs)), some (.p (iT ps)), some (.m (w.left.map PV.i)), some (.m (w.faults.map PV.i)), some (.p (.i w.total)), some (.p (nI s)), some (.m ((pathN bs s).map nI)), some (.p (.i (mnP w.left (pathN bs s)))), z8, z9] b' = some (true, b') := by
          simp [nI, iT, hps, hp]
        show bnd (fTest _ _ _) _ = _
        rw [hif]
        show fSeq _ _ _ _ = _
        have hfl : s < w.faults.length := by rw [h3]; exact hsb
        have hmul : cMul (getI ps s) (mnP w.left (pathN bs s)) = true := by
          exact cMul_l (by omega) (by omega)
        refine (seq_nx (S' := [some (.p (encBs bs)), some (.p (iT ps)), some (.m (w.left.map PV.i)), some (.m ((w.faults.set s (mnP w.left (pathN bs s))).map PV.i)), some (.p (.i w.total)), some (.p (nI s)), some (.m ((pathN bs s).map nI)), some (.p (.i (mnP w.left (pathN bs s)))), z8, z9]) (b' := b') (by simp [nI, hfl, List.map_set])).trans ?_
        refine (seq_nx (S' := [some (.p (encBs bs)), some (.p (iT ps)), some (.m (w.left.map PV.i)), some (.m ((w.faults.set s (mnP w.left (pathN bs s))).map PV.i)), some (.p (.i (w.total + getI ps s * mnP w.left (pathN bs s)))), some (.p (nI s)), some (.m ((pathN bs s).map nI)), some (.p (.i (mnP w.left (pathN bs s)))), z8, z9]) (b' := b') (by simp [nI, iT, hps, hmul])).trans ?_
        exact k1
      · subst k2 k4
        refine ⟨rfl, ?_, ?_, some (.p (nI s)), some (.l ((pathN bs s).map nI)), some (.p (.i (mnP w.left (pathN bs s)))), z8', z9, ?_⟩
        · simp [wStep, hp, sub_len, h2]
        · simp [wStep, hp, h3]
        · simp only [wStep, if_pos hp, subP]
    · refine ⟨[nI s], [some (.p (encBs bs)), some (.p (iT ps)), some (.m (w.left.map PV.i)), some (.m (w.faults.map PV.i)), some (.p (.i w.total)), some (.p (nI s)), some (.m ((pathN bs s).map nI)), some (.p (.i (mnP w.left (pathN bs s)))), z8, z9], b', rfl, Or.inl (hgo.trans ?_), ?_⟩
      · simp [nI, iT, hps, hp]
      · simp only [wStep, if_neg hp]
        exact ⟨rfl, h2, h3, _, _, _, _, _, rfl⟩
  obtain ⟨S', b', h1, hb', h2, h3, z5, z6, z7, z8, z9, hS'⟩ := for_fold (tg := .one 5) (F := F_worstB) Iv (wStep bs ps) nI (ordP ps) (wStart bs) [some (.p (encBs bs)), some (.p (iT ps)), some (.m ((wStart bs).left.map PV.i)), some (.m ((wStart bs).faults.map PV.i)), some (.p (.i (wStart bs).total)), none, none, none, none, none] b step ⟨rfl, by simp [wStart], by simp [wStart], none, none, none, none, none, rfl⟩
  · refine (seq_nx (for_eq (xs := (ordP ps).map nI) (b1 := b) ?_ h1)).trans ?_
    · have hx : bs.length ≤ 1000 := by omega
      simp [encBs, iT, hx, pn.len]
      intros; rfl
    · subst hb' hS'
      simp [iT, wAll]
end K15
/-! K15P2: items: lengths, work, bodies, jobs_in -/
set_option autoImplicit false
namespace K15
open PySem PySem.Spec PyProof.Rows L2 K15R
structure Item where
  job : Bool
  nm : Str
  r : Int
  a : Int
  d : Int
  segs : List II
def kdS (j : Bool) : Str := if j then Str.ofString "job" else Str.ofString "task"
def encI (x : Item) : PV := .t [.s (kdS x.job), .s x.nm, .i x.r, .i x.a, .i x.d, .t (x.segs.map pv2)]
structure Sys where
  buds : List Bud
  jobs : List Item
  tasks : List Item
def encSy (s : Sys) : PV := .t [.s (Str.ofString "system"), encBs s.buds, .t (s.jobs.map encI), .t (s.tasks.map encI)]
def lensI (x : Item) : Int := (x.segs.map Prod.fst).sum
def workI (x : Item) : Int := if x.job then lensI x - x.d else lensI x
def bodI (x : Item) (s e : Int) : Int := if e - (if x.r > s then x.r else s) < x.d then 0 else 1 + (e - (if x.r > s then x.r else s) - x.d) / x.a
/-- items as the law draws them -/
structure VI (n : Nat) (x : Item) : Prop where
  segs : x.segs.length ≤ 3
  src : ∀ g ∈ x.segs, 0 ≤ g.2 ∧ g.2.toNat < n ∧ 1 ≤ g.1 ∧ g.1 ≤ 4
  gap : x.job = false → 0 < x.a ∧ x.a < 100000
structure VS (s : Sys) : Prop where
  vb : VB s.buds
  jl : s.jobs.length ≤ 3
  tl : s.tasks.length ≤ 2
  job : ∀ x ∈ s.jobs, VI s.buds.length x ∧ x.job = true
  tsk : ∀ x ∈ s.tasks, VI s.buds.length x ∧ x.job = false
theorem job_ne : (Str.ofString "task" = Str.ofString "job") = False := by
  have : ¬ (Str.ofString "task" = Str.ofString "job") := by decide +kernel
  simp [this]
theorem eq_lengths {x : Item} (h : x.segs.length ≤ 3) (b : BS) : D_lengths_of [.p (encI x)] b = some (.p (.i (lensI x)), b) := by
  refine mkFn_eq rfl ?_
  have hl := lc_eq (vs := [1]) (tg := .one 1) (ft := fYes) (fi := fItT (fOp gIx (fVar 0) (fC (.p (.i 5))))) (fe := fOp gIx (fVar 1) (fC (.p (.i 0)))) (S := stS 2 [.p (encI x)]) (b := b) (b1 := b) (xs := x.segs.map pv2) (by simp [stS, encI]) (by simp; omega) (lc_all pv2 (fun s => PV.i s.1) b x.segs fun s _ => ⟨[pv2 s], rfl, by simp [stS, pv2]⟩)
  unfold F_lengths_of
  rw [z_ret, z_cb, z_cons, hl]
  simp [lensI]
theorem eq_work {x : Item} (h : x.segs.length ≤ 3) (b : BS) : D_work_of [.p (encI x)] b = some (.p (.i (workI x)), b) := by
  refine mkFn_eq rfl ?_
  have hl := eq_lengths h b
  cases hj : x.job with
  | true =>
    have e : encI x = .t [.s (Str.ofString "job"), .s x.nm, .i x.r, .i x.a, .i x.d, .t (x.segs.map pv2)] := by simp [encI, kdS, hj]
    rw [e] at hl ⊢
    simp [F_work_of, stS, hl, workI, hj]
  | false =>
    have e : encI x = .t [.s (Str.ofString "task"), .s x.nm, .i x.r, .i x.a, .i x.d, .t (x.segs.map pv2)] := by simp [encI, kdS, hj]
    rw [e] at hl ⊢
    simp [F_work_of, stS, hl, workI, hj, job_ne]
theorem eq_bodies {x : Item} (h : 0 < x.a ∧ x.a < 100000) (s e : Int) (b : BS) : D_bodies [.p (encI x), .p (.i s), .p (.i e)] b = some (.p (.i (bodI x s e)), b) := by
  refine mkFn_eq rfl ?_
  have hd : ∀ i, cDiv i x.a = true := fun i => by unfold cDiv; exact decide_eq_true ⟨h.1, by omega⟩
  unfold bodI
  by_cases hc : e - (if x.r > s then x.r else s) < x.d
  · rw [if_pos hc]
    simp [F_bodies, stS, encI, hc]
  · rw [if_neg hc]
    simp [F_bodies, stS, encI, hc, hd]
theorem eq_lbodies {x : Item} (h : 0 < x.a ∧ x.a < 100000) (s e : Int) (b : BS) : D_law_bodies [.p (encI x), .p (.i s), .p (.i e)] b = some (.p (.i (bodI x s e)), b) := by
  refine mkFn_eq rfl ?_
  have hd : ∀ i, cDiv i x.a = true := fun i => by unfold cDiv; exact decide_eq_true ⟨h.1, by omega⟩
  unfold bodI
  by_cases hc : e - (if x.r > s then x.r else s) < x.d
  · rw [if_pos hc]
    simp [F_law_bodies, stS, encI, hc]
  · rw [if_neg hc]
    simp [F_law_bodies, stS, encI, hc, hd]
theorem eq_llengths {x : Item} (h : x.segs.length ≤ 3) (b : BS) : D_law_lengths [.p (encI x)] b = some (.p (.i (lensI x)), b) := by
  refine mkFn_eq rfl ?_
  have hl := lc_eq (vs := [1]) (tg := .one 1) (ft := fYes) (fi := fItT (fOp gIx (fVar 0) (fC (.p (.i 5))))) (fe := fOp gIx (fVar 1) (fC (.p (.i 0)))) (S := stS 2 [.p (encI x)]) (b := b) (b1 := b) (xs := x.segs.map pv2) (by simp [stS, encI]) (by simp; omega) (lc_all pv2 (fun s => PV.i s.1) b x.segs fun s _ => ⟨[pv2 s], rfl, by simp [stS, pv2]⟩)
  unfold F_law_lengths
  rw [z_ret, z_cb, z_cons, hl]
  simp [lensI]
theorem eq_lwork {x : Item} (h : x.segs.length ≤ 3) (b : BS) : D_law_work [.p (encI x)] b = some (.p (.i (workI x)), b) := by
  refine mkFn_eq rfl ?_
  have hl := eq_llengths h b
  have hm1 : ∀ i, cMul i 1 = true := fun i => by unfold cMul; simp
  have hm0 : ∀ i, cMul i 0 = true := fun i => by unfold cMul; simp
  cases hj : x.job with
  | true =>
    have e : encI x = .t [.s (Str.ofString "job"), .s x.nm, .i x.r, .i x.a, .i x.d, .t (x.segs.map pv2)] := by simp [encI, kdS, hj]
    rw [e] at hl ⊢
    simp [F_law_work, stS, hl, workI, hj, hm1]
  | false =>
    have e : encI x = .t [.s (Str.ofString "task"), .s x.nm, .i x.r, .i x.a, .i x.d, .t (x.segs.map pv2)] := by simp [encI, kdS, hj]
    rw [e] at hl ⊢
    simp [F_law_work, stS, hl, workI, hj, job_ne, hm0]
def inJ (s e : Int) (x : Item) : Bool := decide (s ≤ x.r) && decide (x.a ≤ e)
theorem eq_jobs {y : Sys} (v : VS y) (s e : Int) (b : BS) : D_jobs_in [.p (encSy y), .p (.i s), .p (.i e)] b = some (.m ((y.jobs.filter (inJ s e)).map encI), b) := by
  refine mkFn_eq rfl ?_
  have hjl := v.jl
  have hl := lc_eq (vs := [3]) (tg := .one 3) (ft := (fTAnd (fTest (fOp gGe (fOp gIx (fVar 3) (fC (.p (.i 2)))) (fVar 1))) (fTest (fOp gLe (fOp gIx (fVar 3) (fC (.p (.i 3)))) (fVar 2))))) (fi := fItT (fOp gIx (fVar 0) (fC (.p (.i 2))))) (fe := fVar 3) (S := stS 4 [.p (encSy y), .p (.i s), .p (.i e)]) (b := b) (b1 := b) (xs := y.jobs.map encI) (by simp [stS, encSy]) (by simp; omega)
    (lc_map encI (inJ s e) encI b y.jobs fun x _ => ⟨[encI x], rfl, by
      by_cases h : s ≤ x.r <;> simp [stS, encI, inJ, h], fun _ => by simp [stS]⟩)
  unfold F_jobs_in
  rw [z_ret, hl]
  rfl
end K15
/-! K15P3: longest, demand, penalties, latest_of -/
set_option autoImplicit false
namespace K15
open PySem PySem.Spec PyProof.Rows L2 K15R
def setMax (l : List Int) (g : II) : List Int := l.set g.2.toNat (if g.1 > getI l g.2.toNat then g.1 else getI l g.2.toNat)
def longI (n : Nat) (xs : List Item) : List Int := xs.foldl (fun l x => x.segs.foldl setMax l) (List.replicate n 0)
theorem setMax_len (l : List Int) (g : II) : (setMax l g).length = l.length := by simp [setMax]
def F_lgI : Fs := fSetIx 2 (fVar 5) (fCB gMax2 (fCons (fOp gIx (fVar 2) (fVar 5)) (fCons (fVar 4) fNil)))
def F_lgB : Fs := fFor (fItT (fOp gIx (fVar 3) (fC (.p (.i 5))))) (.many [4, 5]) F_lgI
theorem lg_body {n : Nat} {x : Item} (v : VI n x) {l : List Int} (hl : l.length = n) {z0 z1 z4 z5 : Option SV} (b : BS) : ∃ z4' z5', F_lgB [z0, z1, some (.m (l.map PV.i)), some (.p (encI x)), z4, z5] b =
    some (.nx [z0, z1, some (.m ((x.segs.foldl setMax l).map PV.i)), some (.p (encI x)), z4', z5'], b) ∧ (x.segs.foldl setMax l).length = n := by
  let Iv : List Int → Sl → BS → Prop := fun l S b' => b' = b ∧ l.length = n ∧ ∃ z4 z5, S = [z0, z1, some (.m (l.map PV.i)), some (.p (encI x)), z4, z5]
  have step : ∀ (l : List Int) (g : II) (S : Sl) (b' : BS), g ∈ x.segs → Iv l S b' → ∃ qs S' b'', (Tg.many [4, 5]).parts (pv2 g) = some qs ∧ (F_lgI (setS S (Tg.many [4, 5]).slots (qs.map SV.p)) b' = some (.nx S', b'') ∨ F_lgI (setS S (Tg.many [4, 5]).slots (qs.map SV.p)) b' = some (.ct S', b'')) ∧ Iv (setMax l g) S' b'' := by
    rintro l g S b' hg ⟨e1, e2, z4, z5, e3⟩
    subst e1 e3
    have hs := v.src g hg
    have hk : g.2.toNat < l.length := by rw [e2]; exact hs.2.1
    refine ⟨[.i g.1, .i g.2], [z0, z1, some (.m ((setMax l g).map PV.i)), some (.p (encI x)), some (.p (.i g.1)), some (.p (.i g.2))], b', rfl, Or.inl ?_, rfl, by rw [setMax_len]; exact e2, _, _, rfl⟩
    unfold setMax
    rw [getI_eq hk]
    simp [F_lgI, hs.1, hk, List.map_set]
  obtain ⟨S', b', h1, h2, h3, z4', z5', h4⟩ := for_fold (tg := .many [4, 5]) (F := F_lgI) Iv setMax pv2 x.segs l [z0, z1, some (.m (l.map PV.i)), some (.p (encI x)), z4, z5] b step ⟨rfl, hl, z4, z5, rfl⟩
  subst h2 h4
  exact ⟨z4', z5', for_eq (b1 := b') (by simp [encI]) h1, h3⟩
theorem lg_all {n : Nat} {z0 z1 : Option SV} (b : BS) {xs : List Item} (v : ∀ x ∈ xs, VI n x) : ∃ z3' z4' z5', forLoop (.one 3) F_lgB (xs.map encI) [z0, z1, some (.m ((List.replicate n (0 : Int)).map PV.i)), none, none, none] b =
    some (.nx [z0, z1, some (.m ((longI n xs).map PV.i)), z3', z4', z5'], b) ∧ (longI n xs).length = n := by
  let Iv : List Int → Sl → BS → Prop := fun l S b' => b' = b ∧ l.length = n ∧ ∃ z3 z4 z5, S = [z0, z1, some (.m (l.map PV.i)), z3, z4, z5]
  have step : ∀ (l : List Int) (x : Item) (S : Sl) (b' : BS), x ∈ xs → Iv l S b' → ∃ qs S' b'', (Tg.one 3).parts (encI x) = some qs ∧ (F_lgB (setS S (Tg.one 3).slots (qs.map SV.p)) b' = some (.nx S', b'') ∨ F_lgB (setS S (Tg.one 3).slots (qs.map SV.p)) b' = some (.ct S', b'')) ∧ Iv (x.segs.foldl setMax l) S' b'' := by
    rintro l x S b' hx ⟨e1, e2, z3, z4, z5, e3⟩
    subst e1 e3
    obtain ⟨z4', z5', h1, h2⟩ := lg_body (v x hx) e2 (z0 := z0) (z1 := z1) (z4 := z4) (z5 := z5) b'
    exact ⟨[encI x], _, b', rfl, Or.inl h1, rfl, h2, _, _, _, rfl⟩
  obtain ⟨S', b', h1, h2, h3, z3', z4', z5', h4⟩ := for_fold (tg := .one 3) (F := F_lgB) Iv (fun l x => x.segs.foldl setMax l) encI xs (List.replicate n 0) [z0, z1, some (.m ((List.replicate n (0 : Int)).map PV.i)), none, none, none] b step ⟨rfl, by simp, none, none, none, rfl⟩
  subst h2 h4
  exact ⟨z3', z4', z5', h1, h3⟩
theorem eq_longT {bs : List Bud} (vb : VB bs) {xs : List Item} (v : ∀ x ∈ xs, VI bs.length x) (b : BS) : D_longest [.p (.t (xs.map encI)), .p (encBs bs)] b = some (.p (iT (longI bs.length xs)), b) := by
  have hn := vb.len
  refine mkFn_eq (np := 2) (nn := 6) (F := F_longestT) rfl ?_
  refine (seq_nx (S' := [some (.p (.t (xs.map encI))), some (.p (encBs bs)), some (.m ((List.replicate bs.length (0 : Int)).map PV.i)), none, none, none]) (b' := b) ?_).trans ?_
  · have hc : bs.length ≤ 100000 := by omega
    have hc' : (bs.length : Int) ≤ 100000 := by omega
    refine (asg_m (ys := (List.replicate bs.length (0 : Int)).map PV.i) (b' := b) ?_).trans rfl
    simp [encBs, hc, hc', stS]
  obtain ⟨z3, z4, z5, h1, h2⟩ := lg_all (z0 := some (.p (.t (xs.map encI)))) (z1 := some (.p (encBs bs))) b v
  refine (seq_nx (for_eq (b1 := b) (xs := xs.map encI) (by simp) h1)).trans ?_
  simp [iT]
theorem eq_longL {bs : List Bud} (vb : VB bs) {xs : List Item} (v : ∀ x ∈ xs, VI bs.length x) (b : BS) : D_longest [.l (xs.map encI), .p (encBs bs)] b = some (.p (iT (longI bs.length xs)), b) := by
  have hn := vb.len
  refine mkFn_eq (np := 2) (nn := 6) (F := F_longestL) rfl ?_
  refine (seq_nx (S' := [some (.l (xs.map encI)), some (.p (encBs bs)), some (.m ((List.replicate bs.length (0 : Int)).map PV.i)), none, none, none]) (b' := b) ?_).trans ?_
  · have hc : bs.length ≤ 100000 := by omega
    have hc' : (bs.length : Int) ≤ 100000 := by omega
    refine (asg_m (ys := (List.replicate bs.length (0 : Int)).map PV.i) (b' := b) ?_).trans rfl
    simp [encBs, hc, hc', stS]
  obtain ⟨z3, z4, z5, h1, h2⟩ := lg_all (z0 := some (.l (xs.map encI))) (z1 := some (.p (encBs bs))) b v
  refine (seq_nx (S' := [some (.l (xs.map encI)), some (.p (encBs bs)), some (.m ((longI bs.length xs).map PV.i)), z3, z4, z5]) (b' := b) ?_).trans ?_
  · rw [z_down]
    exact for_eq (b1 := b) (xs := xs.map encI) (by simp) h1
  simp [iT]
end K15
/-! K15P4: demand, penalties, latest_of -/
set_option autoImplicit false
namespace K15
open PySem PySem.Spec PyProof.Rows L2 K15R
theorem op_eq {g : SV → SV → Option SV} {fa fb : Fe} {S : Sl} {b b1 b2 : BS} {x y z : SV} (ha : fa S b = some (x, b1)) (hb : fb S b1 = some (y, b2)) (hg : g x y = some z) : fOp g fa fb S b = some (z, b2) := by
  rw [z_op, ha, bnd_mk, hb, bnd_mk, hg]; rfl
theorem ret_eq {fe : Fe} {S : Sl} {b b1 : BS} {x : SV} (h : fe S b = some (x, b1)) : fRet fe S b = some (.rt x, b1) := by
  rw [z_ret, h]; rfl
theorem cb1_eq {g : List SV → Option SV} {fa : Fe} {S : Sl} {b b1 : BS} {x z : SV} (ha : fa S b = some (x, b1)) (hg : g [x] = some z) : fCB g (fCons fa fNil) S b = some (z, b1) := by
  rw [z_cb, z_cons, ha, bnd_mk, z_nil, bnd_mk, bnd_mk, hg]; rfl
theorem call1_eq {D : Fn} {fa : Fe} {S : Sl} {b b1 b2 : BS} {x z : SV} (ha : fa S b = some (x, b1)) (hg : D [x.arg] b1 = some (z, b2)) : fCall D (fCons fa fNil) S b = some (z, b2) := by
  rw [z_call, z_cons, ha, bnd_mk, z_nil, bnd_mk, bnd_mk]; exact hg
theorem call2_eq {D : Fn} {fa fb : Fe} {S : Sl} {b b1 b2 b3 : BS} {x y z : SV} (ha : fa S b = some (x, b1)) (hb : fb S b1 = some (y, b2)) (hg : D [x.arg, y.arg] b2 = some (z, b3)) : fCall D (fCons fa (fCons fb fNil)) S b = some (z, b3) := by
  rw [z_call, z_cons, ha, bnd_mk, z_cons, hb, bnd_mk, z_nil, bnd_mk, bnd_mk, bnd_mk]; exact hg
theorem sum_bd : ∀ (gs : List II), (∀ g ∈ gs, 1 ≤ g.1 ∧ g.1 ≤ 4) → (gs.length : Int) ≤ (gs.map Prod.fst).sum ∧ (gs.map Prod.fst).sum ≤ 4 * (gs.length : Int)
  | [], _ => by simp
  | g :: gs, h => by
    have h1 := h g List.mem_cons_self
    have h2 := sum_bd gs fun x hx => h x (List.mem_cons_of_mem _ hx)
    simp only [List.map_cons, List.sum_cons, List.length_cons]
    omega
theorem lens_bd {n : Nat} {x : Item} (v : VI n x) : 0 ≤ lensI x ∧ lensI x ≤ 12 := by
  have h := sum_bd x.segs fun g hg => ⟨(v.src g hg).2.2.1, (v.src g hg).2.2.2⟩
  have := v.segs
  unfold lensI
  omega
def demI (y : Sys) (s e : Int) : Int := ((y.jobs.filter (inJ s e)).map workI).sum + (y.tasks.map fun x => bodI x s e * workI x).sum
def actI (y : Sys) (s e : Int) : List Item := y.jobs.filter (inJ s e) ++ y.tasks.filter fun x => decide (0 < bodI x s e)
def penI (y : Sys) (s e : Int) : List Int := longI y.buds.length (actI y s e)
theorem cMul_r {i j : Int} (h1 : -(2 ^ 64) < j) (h2 : j < 2 ^ 64) : cMul i j = true := by
  unfold cMul
  rw [decide_eq_true (show -(2 ^ 64) < j ∧ j < 2 ^ 64 from ⟨h1, h2⟩), Bool.or_true]
theorem filt_len {α : Type} (p : α → Bool) (xs : List α) : (xs.filter p).length ≤ xs.length := List.length_filter_le p xs
theorem eq_demand {y : Sys} (v : VS y) (s e : Int) (b : BS) : D_demand [.p (encSy y), .p (.i s), .p (.i e)] b = some (.p (.i (demI y s e)), b) := by
  refine mkFn_eq rfl ?_
  have hjl := v.jl
  have htl := v.tl
  have hfl := filt_len (inJ s e) y.jobs
  have hj := eq_jobs v s e b
  have l1 := lc_eq (vs := [4]) (tg := .one 4) (ft := fYes) (fi := fItL (fCall D_jobs_in (fCons (fVar 0) (fCons (fVar 1) (fCons (fVar 2) fNil))))) (fe := fCall D_work_of (fCons (fVar 4) fNil)) (S := stS 6 [.p (encSy y), .p (.i s), .p (.i e)]) (b := b) (b1 := b) (xs := (y.jobs.filter (inJ s e)).map encI) (by simp [stS, hj]) (by rw [List.length_map]; omega)
    (lc_all encI (fun x => PV.i (workI x)) b _ fun x hx => ⟨[encI x], rfl, by
      have hv := (v.job x ((List.mem_filter.mp hx).1)).1
      simp [stS, eq_work hv.segs]⟩)
  refine (seq_nx (S' := [some (.p (encSy y)), some (.p (.i s)), some (.p (.i e)), some (.p (.i ((y.jobs.filter (inJ s e)).map workI).sum)), none, none]) (b' := b) ?_).trans ?_
  · refine (asg_p (x := .i ((y.jobs.filter (inJ s e)).map workI).sum) (b' := b) ?_).trans rfl
    rw [z_cb, z_cons, l1]
    simp
  · have l2 := lc_eq (vs := [5]) (tg := .one 5) (ft := fYes) (fi := fItT (fOp gIx (fVar 0) (fC (.p (.i 3))))) (fe := fOp gMul (fCall D_bodies (fCons (fVar 5) (fCons (fVar 1) (fCons (fVar 2) fNil)))) (fCall D_work_of (fCons (fVar 5) fNil))) (S := [some (.p (encSy y)), some (.p (.i s)), some (.p (.i e)), some (.p (.i ((y.jobs.filter (inJ s e)).map workI).sum)), none, none]) (b := b) (b1 := b) (xs := y.tasks.map encI) (by simp [encSy]) (by rw [List.length_map]; omega)
      (lc_all encI (fun x => PV.i (bodI x s e * workI x)) b _ fun x hx => ⟨[encI x], rfl, by
        have hv := (v.tsk x hx).1
        have hjb := (v.tsk x hx).2
        have hl := lens_bd hv
        have hm : cMul (bodI x s e) (workI x) = true := by
          unfold workI
          rw [hjb]
          exact cMul_r (by simp; omega) (by simp; omega)
        simp [eq_bodies (hv.gap hjb), eq_work hv.segs, hm]⟩)
    exact ret_eq (op_eq (b1 := b) (x := .p (.i ((y.jobs.filter (inJ s e)).map workI).sum)) rfl (cb1_eq l2 (z := .p (.i (y.tasks.map fun x => bodI x s e * workI x).sum)) (by simp)) rfl)
theorem eq_pens {y : Sys} (v : VS y) (s e : Int) (b : BS) : D_penalties [.p (encSy y), .p (.i s), .p (.i e)] b = some (.p (iT (penI y s e)), b) := by
  refine mkFn_eq rfl ?_
  have hjl := v.jl
  have htl := v.tl
  have hfl := filt_len (inJ s e) y.jobs
  have hft := filt_len (fun x => decide (0 < bodI x s e)) y.tasks
  have hj := eq_jobs v s e b
  have l1 := lc_eq (vs := [4]) (tg := .one 4) (ft := (fTest (fOp gGt (fCall D_bodies (fCons (fVar 4) (fCons (fVar 1) (fCons (fVar 2) fNil)))) (fC (.p (.i 0)))))) (fi := fItT (fOp gIx (fVar 0) (fC (.p (.i 3))))) (fe := fVar 4) (S := stS 5 [.p (encSy y), .p (.i s), .p (.i e)]) (b := b) (b1 := b) (xs := y.tasks.map encI) (by simp [stS, encSy]) (by rw [List.length_map]; omega)
    (lc_map encI (fun x => decide (0 < bodI x s e)) encI b _ fun x hx => ⟨[encI x], rfl, by
      have hv := (v.tsk x hx).1
      have hjb := (v.tsk x hx).2
      simp [stS, eq_bodies (hv.gap hjb)], fun _ => by simp [stS]⟩)
  refine (seq_nx (S' := [some (.p (encSy y)), some (.p (.i s)), some (.p (.i e)), some (.m ((y.tasks.filter fun x => decide (0 < bodI x s e)).map encI)), none]) (b' := b) ((asg_m l1).trans rfl)).trans ?_
  have hlen : (y.jobs.filter (inJ s e)).length + (y.tasks.filter fun x => decide (0 < bodI x s e)).length ≤ 100000 := by omega
  have hva : ∀ x ∈ actI y s e, VI y.buds.length x := fun x hx => by
    rcases List.mem_append.mp hx with h | h
    · exact (v.job x ((List.mem_filter.mp h).1)).1
    · exact (v.tsk x ((List.mem_filter.mp h).1)).1
  have hlg := eq_longL v.vb hva b
  have hcat : (y.jobs.filter (inJ s e)).map encI ++ (y.tasks.filter fun x => decide (0 < bodI x s e)).map encI = (actI y s e).map encI := by rw [actI, List.map_append]
  have e1 : fOp gCat (fCall D_jobs_in (fCons (fVar 0) (fCons (fVar 1) (fCons (fVar 2) fNil)))) (fVar 3) [some (.p (encSy y)), some (.p (.i s)), some (.p (.i e)), some (.m ((y.tasks.filter fun x => decide (0 < bodI x s e)).map encI)), none] b = some (.m ((actI y s e).map encI), b) := by
    rw [← hcat]
    simp [hj, hlen]
  exact ret_eq (call2_eq e1 (y := .p (encBs y.buds)) (b2 := b) (by simp [encSy]) hlg)
end K15
/-! K15P5: covers, bound_of -/
set_option autoImplicit false
namespace K15
open PySem PySem.Spec PyProof.Rows L2 K15R
/-- a loop that returns r at the first turn that is not ok -/
def allF {β : Type} (ok : β → Bool) (r : SV) : Unit → β → Unit ⊕ SV := fun _ y => if ok y then .inl () else .inr r
theorem foldR_all {β : Type} (ok : β → Bool) (r : SV) : ∀ ys : List β, foldR (allF ok r) () ys = if ys.all ok then .inl () else .inr r
  | [] => rfl
  | y :: ys => by
    unfold foldR
    by_cases h : ok y = true
    · have e : allF ok r () y = .inl () := by unfold allF; rw [if_pos h]
      rw [e]
      simp only
      rw [foldR_all ok r ys]
      simp [h]
    · have e : allF ok r () y = .inr r := by unfold allF; rw [if_neg h]
      rw [e]
      simp [h]
theorem for_all {β : Type} {tg : Tg} {F : Fs} (Iv : Sl → Prop) (ok : β → Bool) (r : SV) (enc : β → PV) (ys : List β) (S : Sl) (b : BS)
    (hs : ∀ y S, y ∈ ys → Iv S → ∃ ps, tg.parts (enc y) = some ps ∧ (ok y = true → ∃ S', (F (setS S tg.slots (ps.map SV.p)) b = some (.nx S', b) ∨ F (setS S tg.slots (ps.map SV.p)) b = some (.ct S', b)) ∧ Iv S') ∧ (ok y = false → F (setS S tg.slots (ps.map SV.p)) b = some (.rt r, b))) (h0 : Iv S) :
    (ys.all ok = true → ∃ S', forLoop tg F (ys.map enc) S b = some (.nx S', b) ∧ Iv S') ∧ (ys.all ok = false → forLoop tg F (ys.map enc) S b = some (.rt r, b)) := by
  have := for_foldR (tg := tg) (F := F) (fun (_ : Unit) S b' => b' = b ∧ Iv S) (fun r' b' => b' = b ∧ r' = r) (allF ok r) enc ys () S b ?_ ⟨rfl, h0⟩
  · rw [foldR_all] at this
    by_cases h : ys.all ok = true
    · rw [if_pos h] at this
      obtain ⟨S', b', h1, h2, h3⟩ := this
      subst h2
      exact ⟨fun _ => ⟨S', h1, h3⟩, fun h' => by rw [h] at h'; cases h'⟩
    · rw [if_neg h] at this
      obtain ⟨b', h1, h2, _⟩ := this
      subst h2
      exact ⟨fun h' => absurd h' h, fun _ => h1⟩
  · rintro ⟨⟩ y S b' hy ⟨rfl, hI⟩
    obtain ⟨ps, h1, h2, h3⟩ := hs y S hy hI
    cases hk : ok y with
    | true =>
      obtain ⟨S', h4, h5⟩ := h2 hk
      have e : allF ok r () y = .inl () := by unfold allF; rw [if_pos hk]
      rcases h4 with h4 | h4
      · exact ⟨ps, .nx S', b', h1, h4, by rw [e]; exact ⟨S', Or.inl rfl, rfl, h5⟩⟩
      · exact ⟨ps, .ct S', b', h1, h4, by rw [e]; exact ⟨S', Or.inr rfl, rfl, h5⟩⟩
    | false =>
      have e : allF ok r () y = .inr r := by unfold allF; rw [if_neg (by rw [hk]; decide)]
      exact ⟨ps, .rt r, b', h1, h3 hk, by rw [e]; exact ⟨rfl, rfl, rfl⟩⟩
def enP (ps : List Int) (k : Nat) : PV := .t [.i (k : Int), .i (getI ps k)]
theorem enum_range (ps : List Int) : enumL 0 (ps.map PV.i) = (List.range ps.length).map (enP ps) := by
  apply List.ext_getElem?
  intro i
  by_cases h : i < ps.length
  · have h1 : (ps.map PV.i)[i]? = some (.i (getI ps i)) := by rw [List.getElem?_map, getI_get h]; rfl
    rw [enumL_get _ 0 i _ h1]
    simp [enP, h]
  · rw [List.getElem?_eq_none (by rw [enumL_len]; simp; omega), List.getElem?_eq_none (by simp; omega)]
def pthS (bs : List Bud) (rs : List Int) (k : Nat) : Int := ((pathN bs k).map (getI rs)).sum
def covI (bs : List Bud) (ps rs : List Int) : Bool := (List.range ps.length).all fun k => decide (getI ps k ≤ pthS bs rs k)
theorem eq_covers {bs : List Bud} (vb : VB bs) {ps rs : List Int} (hp : ps.length = bs.length) (hr : rs.length = bs.length) (b : BS) : D_covers [.p (encBs bs), .p (iT ps), .p (iT rs)] b = some (.p (.b (covI bs ps rs)), b) := by
  have hn := vb.len
  refine mkFn_eq rfl ?_
  have key := for_all (tg := .many [3, 4]) (F := (fIf (fTest (fOp gLt (fCB gSum (fCons (fLc (fItL (fOp gCat (fLst (fCons (fVar 3) fNil)) (fCall D_above (fCons (fVar 0) (fCons (fVar 3) fNil))))) (.one 5) fYes (fOp gIx (fVar 2) (fVar 5)) [5]) fNil)) (fVar 4)))
      (fRet (fC (.p (.b false))))
      fNext)) (fun S => ∃ z3 z4 z5, S = [some (.p (encBs bs)), some (.p (iT ps)), some (.p (iT rs)), z3, z4, z5]) (fun k => decide (getI ps k ≤ pthS bs rs k)) (.p (.b false)) (enP ps) (List.range ps.length) (stS 6 [.p (encBs bs), .p (iT ps), .p (iT rs)]) b ?_ ⟨none, none, none, rfl⟩
  · have e1 : fEnum (fCons (fVar 1) fNil) (stS 6 [.p (encBs bs), .p (iT ps), .p (iT rs)]) b = some ((List.range ps.length).map (enP ps), b) := by
      rw [← enum_range]; rfl
    cases hc : covI bs ps rs with
    | true =>
      obtain ⟨S', h1, z3, z4, z5, rfl⟩ := key.1 hc
      exact (seq_nx (for_eq e1 h1)).trans rfl
    | false =>
      exact (seq_rt (for_eq e1 (key.2 hc)))
  · rintro k S hk ⟨z3, z4, z5, rfl⟩
    have hkn : k < bs.length := by have := List.mem_range.mp hk; omega
    have hpl := path_lt vb hkn
    have hal := above_len bs k k
    have hal2 : (pathN bs k).length ≤ 100 := by
      show (aboveN bs k k).length + 1 ≤ 100
      omega
    have ecat : fOp gCat (fLst (fCons (fVar 3) fNil)) (fCall D_above (fCons (fVar 0) (fCons (fVar 3) fNil))) [some (.p (encBs bs)), some (.p (iT ps)), some (.p (iT rs)), some (.p (.i (k : Int))), some (.p (.i (getI ps k))), z5] b = some (.m ((pathN bs k).map nI), b) := by
      have hl3 : 1 + (aboveN bs k k).length ≤ 100000 := by omega
      have hl4 : (aboveN bs k k).length + 1 ≤ 100000 := by omega
      simp [nI, eq_above vb hkn, hl3, hl4, pathN]
    have hlc := lc_eq (vs := [5]) (tg := .one 5) (ft := fYes) (fi := fItL (fOp gCat (fLst (fCons (fVar 3) fNil)) (fCall D_above (fCons (fVar 0) (fCons (fVar 3) fNil))))) (fe := fOp gIx (fVar 2) (fVar 5)) (S := [some (.p (encBs bs)), some (.p (iT ps)), some (.p (iT rs)), some (.p (.i (k : Int))), some (.p (.i (getI ps k))), z5]) (b := b) (b1 := b) (xs := (pathN bs k).map nI) (by rw [z_itL, ecat]; rfl) (by rw [List.length_map]; omega)
      (lc_all nI (fun j => PV.i (getI rs j)) b (pathN bs k) fun j hj => ⟨[nI j], rfl, by
        have := getI_get (show j < rs.length by rw [hr]; exact hpl j hj)
        simp [nI, iT, this]⟩)
    have hsum : fCB gSum (fCons (fLc (fItL (fOp gCat (fLst (fCons (fVar 3) fNil)) (fCall D_above (fCons (fVar 0) (fCons (fVar 3) fNil))))) (.one 5) fYes (fOp gIx (fVar 2) (fVar 5)) [5]) fNil) [some (.p (encBs bs)), some (.p (iT ps)), some (.p (iT rs)), some (.p (.i (k : Int))), some (.p (.i (getI ps k))), z5] b = some (.p (.i (pthS bs rs k)), b) := cb1_eq hlc (by simp [pthS])
    have htest : fTest (fOp gLt (fCB gSum (fCons (fLc (fItL (fOp gCat (fLst (fCons (fVar 3) fNil)) (fCall D_above (fCons (fVar 0) (fCons (fVar 3) fNil))))) (.one 5) fYes (fOp gIx (fVar 2) (fVar 5)) [5]) fNil)) (fVar 4)) [some (.p (encBs bs)), some (.p (iT ps)), some (.p (iT rs)), some (.p (.i (k : Int))), some (.p (.i (getI ps k))), z5] b = some (decide (pthS bs rs k < getI ps k), b) := by
      rw [z_test, op_eq hsum (y := .p (.i (getI ps k))) (b2 := b) rfl rfl]; rfl
    refine ⟨[.i (k : Int), .i (getI ps k)], rfl, fun ho => ⟨[some (.p (encBs bs)), some (.p (iT ps)), some (.p (iT rs)), some (.p (.i (k : Int))), some (.p (.i (getI ps k))), z5], Or.inl ?_, _, _, _, rfl⟩, fun ho => ?_⟩
    · have : decide (pthS bs rs k < getI ps k) = false := by
        have := of_decide_eq_true ho
        exact decide_eq_false (by omega)
      show fIf _ _ _ _ b = _
      rw [z_if]
      show bnd (fTest _ _ b) _ = _
      rw [show (setS _ _ _ : Sl) = [some (.p (encBs bs)), some (.p (iT ps)), some (.p (iT rs)), some (.p (.i (k : Int))), some (.p (.i (getI ps k))), z5] from rfl, htest, this]
      rfl
    · have : decide (pthS bs rs k < getI ps k) = true := by
        have := of_decide_eq_false ho
        exact decide_eq_true (by omega)
      show fIf _ _ _ _ b = _
      rw [z_if]
      show bnd (fTest _ _ b) _ = _
      rw [show (setS _ _ _ : Sl) = [some (.p (encBs bs)), some (.p (iT ps)), some (.p (iT rs)), some (.p (.i (k : Int))), some (.p (.i (getI ps k))), z5] from rfl, htest, this]
      rfl
def bndI (bs : List Bud) (rs : List Int) : Int := ((bs.zip rs).map fun q => q.1.cap * q.2).sum
theorem zip_enc (bs : List Bud) (rs : List Int) : zipL (bs.map encB) (rs.map PV.i) = (bs.zip rs).map fun q => .t [encB q.1, .i q.2] := by
  unfold zipL
  rw [List.zipWith_map, List.zip, List.map_zipWith]
theorem eq_bound {bs : List Bud} (vb : VB bs) {ps rs : List Int} (hp : ps.length = bs.length) (hr : rs.length = bs.length) (b : BS) : D_bound_of [.p (encBs bs), .p (iT ps), .p (iT rs)] b = some (.p (.i (if covI bs ps rs then bndI bs rs else -1)), b) := by
  have hn := vb.len
  refine mkFn_eq rfl ?_
  have hc := eq_covers vb hp hr b
  cases h : covI bs ps rs with
  | false =>
    rw [h] at hc
    refine (seq_rt (b' := b) (r := .p (.i (-1))) ?_).trans rfl
    simp [stS, hc]
  | true =>
    rw [h] at hc
    refine (seq_nx (S' := stS 5 [.p (encBs bs), .p (iT ps), .p (iT rs)]) (b' := b) ?_).trans ?_
    · simp [stS, hc]
    · have l1 := lc_eq (vs := [3, 4]) (tg := .many [3, 4]) (ft := fYes) (fi := fZip (fCons (fVar 0) (fCons (fVar 2) fNil))) (fe := fOp gMul (fOp gIx (fVar 3) (fC (.p (.i 1)))) (fVar 4)) (S := stS 5 [.p (encBs bs), .p (iT ps), .p (iT rs)]) (b := b) (b1 := b) (xs := (bs.zip rs).map fun q => .t [encB q.1, .i q.2]) (by rw [← zip_enc]; rfl) (by rw [List.length_map, List.length_zip]; omega)
        (lc_all (fun q : Bud × Int => PV.t [encB q.1, .i q.2]) (fun q => PV.i (q.1.cap * q.2)) b _ fun q hq => ⟨[encB q.1, .i q.2], rfl, by
          have hm : q.1 ∈ bs := (List.of_mem_zip hq).1
          obtain ⟨k, hk⟩ := List.getElem?_of_mem hm
          have := vb.cap k q.1 hk
          have hmul : cMul q.1.cap q.2 = true := cMul_l (by omega) (by omega)
          simp [stS, encB, hmul]⟩)
      exact ret_eq (cb1_eq l1 (by simp [bndI]))
end K15
/-! K15P6: parts_most, parts_open -/
set_option autoImplicit false
namespace K15
open PySem PySem.Spec PyProof.Rows L2 K15R
def dn (n : Nat) : List Nat := (List.range n).reverse
theorem rng_down (n : Nat) : rngC ((n : Int) - 1) (-1) n = (dn n).map nI := by
  apply List.ext_getElem?
  intro i
  by_cases h : i < n
  · rw [rngC_get h, List.getElem?_map, dn, List.getElem?_reverse (by simpa using h)]
    simp only [List.length_range]
    rw [List.getElem?_range (by omega)]
    simp only [Option.map_some, nI]
    congr 2
    omega
  · rw [List.getElem?_eq_none (by simp [rngC]; omega), List.getElem?_eq_none (by simp [dn]; omega)]
theorem rs_down {n : Nat} (h : 1 ≤ n) : (Builtin.Range.rangeSize ((n : Int) - 1) (-1) (-1)).toNat = n := by
  unfold Builtin.Range.rangeSize
  rw [if_neg (by omega), if_pos (by omega)]
  have : ((n : Int) - 1 - -1 - 1) / (- -1) = (n : Int) - 1 := by
    rw [show (- -1 : Int) = 1 from rfl, Int.ediv_one]; omega
  rw [this]
  omega
theorem cRg_down {n : Nat} (h : n ≤ 1000) : cRg ((n : Int) - 1) (-1) (-1) = true := by
  unfold cRg
  rw [PySem.W.small_down (by omega) (by omega) (by omega) (by omega)]
  decide
def capI (bs : List Bud) (k : Nat) : Int := capN bs k
def mStep (bs : List Bud) (src : List Nat) (l : List Int) (k : Nat) : List Int :=
  let l1 := l.set k (if getI l k < capN bs k then getI l k else capN bs k)
  let l2 := if k ∈ src then l1.set k (capN bs k) else l1
  if 0 ≤ parN bs k then l2.set (parN bs k).toNat (getI l2 (parN bs k).toNat + getI l2 k) else l2
def mostI (bs : List Bud) (src : List Nat) : List Int := (dn bs.length).foldl (mStep bs src) (List.replicate bs.length 0)
theorem mStep_len (bs : List Bud) (src : List Nat) (l : List Int) (k : Nat) : (mStep bs src l k).length = l.length := by
  unfold mStep
  simp only
  split <;> split <;> simp
def F_pmB : Fs := (fSeq (fSetIx 2 (fVar 3) (fCB gMin2 (fCons (fOp gIx (fOp gIx (fVar 0) (fVar 3)) (fC (.p (.i 1)))) (fCons (fOp gIx (fVar 2) (fVar 3)) fNil))))
    (fSeq (fIf (fTest (fOp gIn (fVar 3) (fVar 1)))
      (fSetIx 2 (fVar 3) (fOp gIx (fOp gIx (fVar 0) (fVar 3)) (fC (.p (.i 1)))))
      fNext)
    (fSeq (fAsg 4 (fOp gIx (fOp gIx (fVar 0) (fVar 3)) (fC (.p (.i 2)))))
    (fIf (fTest (fOp gGe (fVar 4) (fC (.p (.i 0)))))
      (fSetIx 2 (fVar 4) (fOp gAdd (fOp gIx (fVar 2) (fVar 4)) (fOp gIx (fVar 2) (fVar 3))))
      fNext))))
@[simp] theorem y_in (k : Int) (y : SV) : gIn (.p (.i k)) y = (match y.seq.bind intsP with
    | some ns => some (.p (.b (decide (k ∈ ns))))
    | none => none) := rfl
theorem mem_cast (k : Nat) (src : List Nat) : ((k : Int) ∈ src.map fun (j : Nat) => (j : Int)) ↔ k ∈ src := by
  rw [List.mem_map]
  constructor
  · rintro ⟨j, h1, h2⟩
    have : j = k := by omega
    rw [← this]; exact h1
  · intro h; exact ⟨k, h, rfl⟩
theorem gIn_nat (k : Nat) (src : List Nat) : gIn (.p (nI k)) (.l (src.map nI)) = some (.p (.b (decide (k ∈ src)))) := by
  show gIn (.p (.i (k : Int))) (.l (src.map nI)) = _
  rw [y_in]
  simp only [y_sl, Option.bind_some, intsP_nI]
  rw [decide_eq_decide.mpr (mem_cast k src)]
theorem test_in {i j : Nat} {S : Sl} {b : BS} {k : Nat} {src : List Nat} (h1 : S[i]? = some (some (.p (nI k)))) (h2 : S[j]? = some (some (.l (src.map nI)))) : fTest (fOp gIn (fVar i) (fVar j)) S b = some (decide (k ∈ src), b) := by
  rw [z_test, op_eq (x := .p (nI k)) (y := .l (src.map nI)) (b1 := b) (b2 := b) (by rw [z_var, h1]; rfl) (by rw [z_var, h2]; rfl) (gIn_nat k src)]
  rfl
theorem pm_body {bs : List Bud} (vb : VB bs) (src : List Nat) {l : List Int} (hl : l.length = bs.length) {k : Nat} (hk : k < bs.length) (z4 : Option SV) (b : BS) : F_pmB [some (.p (encBs bs)), some (.l (src.map nI)), some (.m (l.map PV.i)), some (.p (nI k)), z4] b =
    some (.nx [some (.p (encBs bs)), some (.l (src.map nI)), some (.m ((mStep bs src l k).map PV.i)), some (.p (nI k)), some (.p (.i (parN bs k)))], b) := by
  obtain ⟨x, hx⟩ : ∃ x, bs[k]? = some x := ⟨_, List.getElem?_eq_getElem hk⟩
  have hp := vb.par k x hx
  have ep : parN bs k = x.par := by simp [parN, hx]
  have ec : capN bs k = x.cap := by simp [capN, hx]
  have hkl : k < l.length := by omega
  have e0 : (bs.map encB)[k]? = some (encB x) := by rw [List.getElem?_map, hx]; rfl
  refine (seq_nx (S' := [some (.p (encBs bs)), some (.l (src.map nI)), some (.m ((l.set k (if getI l k < capN bs k then getI l k else capN bs k)).map PV.i)), some (.p (nI k)), z4]) (b' := b) ?_).trans ?_
  · rw [getI_eq hkl, ec]
    simp [nI, encBs, hx, encB, hkl, List.map_set]
  generalize hl1 : l.set k (if getI l k < capN bs k then getI l k else capN bs k) = l1
  have hl1n : l1.length = bs.length := by rw [← hl1, List.length_set]; exact hl
  have hk1 : k < l1.length := by omega
  refine (seq_nx (S' := [some (.p (encBs bs)), some (.l (src.map nI)), some (.m ((if k ∈ src then l1.set k (capN bs k) else l1).map PV.i)), some (.p (nI k)), z4]) (b' := b) ?_).trans ?_
  · rw [z_if, test_in (k := k) (src := src) rfl rfl, bnd_mk]
    by_cases hm : k ∈ src
    · rw [if_pos hm, if_pos (decide_eq_true hm), ec]
      simp [nI, encBs, hx, encB, hk1, List.map_set]
    · rw [if_neg hm, if_neg (by rw [decide_eq_false hm]; decide)]
      rfl
  generalize hl2 : (if k ∈ src then l1.set k (capN bs k) else l1) = l2
  have hl2n : l2.length = bs.length := by rw [← hl2]; split <;> simp [hl1n]
  have hk2 : k < l2.length := by omega
  refine (seq_nx (S' := [some (.p (encBs bs)), some (.l (src.map nI)), some (.m (l2.map PV.i)), some (.p (nI k)), some (.p (.i (parN bs k)))]) (b' := b) ?_).trans ?_
  · rw [ep]; simp [nI, encBs, hx, encB]
  have hstep : mStep bs src l k = if 0 ≤ parN bs k then l2.set (parN bs k).toNat (getI l2 (parN bs k).toNat + getI l2 k) else l2 := by
    unfold mStep
    simp only
    rw [hl1, hl2]
  rw [hstep]
  by_cases h0 : 0 ≤ parN bs k
  · have hpl : (parN bs k).toNat < l2.length := by omega
    rw [if_pos h0, getI_eq hpl, getI_eq hk2]
    simp [nI, h0, hpl, hk2, List.map_set]
  · rw [if_neg h0]
    simp [h0]
theorem eq_most {bs : List Bud} (vb : VB bs) (src : List Nat) (b : BS) : D_parts_most [.p (encBs bs), .l (src.map nI)] b = some (.m ((mostI bs src).map PV.i), b) := by
  have hn := vb.len
  refine mkFn_eq rfl ?_
  refine (seq_nx (S' := [some (.p (encBs bs)), some (.l (src.map nI)), some (.m ((List.replicate bs.length (0 : Int)).map PV.i)), none, none]) (b' := b) ?_).trans ?_
  · have hc : bs.length ≤ 100000 := by omega
    have hc' : (bs.length : Int) ≤ 100000 := by omega
    refine (asg_m (ys := (List.replicate bs.length (0 : Int)).map PV.i) (b' := b) ?_).trans rfl
    simp [encBs, hc, hc', stS]
  let Iv : List Int → Sl → BS → Prop := fun l S b' => b' = b ∧ l.length = bs.length ∧ ∃ z3 z4, S = [some (.p (encBs bs)), some (.l (src.map nI)), some (.m (l.map PV.i)), z3, z4]
  have step : ∀ (l : List Int) (k : Nat) (S : Sl) (b' : BS), k ∈ dn bs.length → Iv l S b' → ∃ qs S' b'', (Tg.one 3).parts (nI k) = some qs ∧ (F_pmB (setS S (Tg.one 3).slots (qs.map SV.p)) b' = some (.nx S', b'') ∨ F_pmB (setS S (Tg.one 3).slots (qs.map SV.p)) b' = some (.ct S', b'')) ∧ Iv (mStep bs src l k) S' b'' := by
    rintro l k S b' hk ⟨e1, e2, z3, z4, e3⟩
    subst e1 e3
    have hkn : k < bs.length := by simpa [dn] using hk
    exact ⟨[nI k], _, b', rfl, Or.inl (pm_body vb src e2 hkn z4 b'), rfl, by rw [mStep_len]; exact e2, _, _, rfl⟩
  obtain ⟨S', b', h1, h2, h3, z3, z4, h4⟩ := for_fold (tg := .one 3) (F := F_pmB) Iv (mStep bs src) nI (dn bs.length) (List.replicate bs.length 0) [some (.p (encBs bs)), some (.l (src.map nI)), some (.m ((List.replicate bs.length (0 : Int)).map PV.i)), none, none] b step ⟨rfl, by simp, none, none, rfl⟩
  subst h2 h4
  refine (seq_nx (for_eq (b1 := b') (xs := (dn bs.length).map nI) ?_ h1)).trans ?_
  · rw [← rng_down]
    simp [encBs, cRg_down (show bs.length ≤ 1000 by omega), rs_down hn.1]
  · simp [mostI]
end K15
/-! K15P7: parts_open -/
set_option autoImplicit false
namespace K15
open PySem PySem.Spec PyProof.Rows L2 K15R
def getB (l : List Bool) (k : Nat) : Bool := (l[k]?).getD false
theorem getB_eq {l : List Bool} {k : Nat} (h : k < l.length) : getB l k = l[k] := by
  unfold getB; rw [List.getElem?_eq_getElem h]; rfl
def oStep (bs : List Bud) (l : List Bool) (k : Nat) : List Bool := if getB l k && decide (0 ≤ parN bs k) then l.set (parN bs k).toNat true else l
def openI (bs : List Bud) (src : List Nat) : List Bool := (dn bs.length).foldl (oStep bs) ((List.range bs.length).map fun k => decide (k ∈ src))
theorem oStep_len (bs : List Bud) (l : List Bool) (k : Nat) : (oStep bs l k).length = l.length := by
  unfold oStep; split <;> simp
def F_poB : Fs := (fIf (fTAnd (fTest (fOp gIx (fVar 2) (fVar 3))) (fTest (fOp gGe (fOp gIx (fOp gIx (fVar 0) (fVar 3)) (fC (.p (.i 2)))) (fC (.p (.i 0))))))
      (fSetIx 2 (fOp gIx (fOp gIx (fVar 0) (fVar 3)) (fC (.p (.i 2)))) (fC (.p (.b true))))
      fNext)
theorem po_body {bs : List Bud} (vb : VB bs) (z1 : Option SV) {l : List Bool} (hl : l.length = bs.length) {k : Nat} (hk : k < bs.length) (b : BS) : F_poB [some (.p (encBs bs)), z1, some (.m (l.map PV.b)), some (.p (nI k))] b =
    some (.nx [some (.p (encBs bs)), z1, some (.m ((oStep bs l k).map PV.b)), some (.p (nI k))], b) := by
  obtain ⟨x, hx⟩ : ∃ x, bs[k]? = some x := ⟨_, List.getElem?_eq_getElem hk⟩
  have hp := vb.par k x hx
  have ep : parN bs k = x.par := by simp [parN, hx]
  have hkl : k < l.length := by omega
  have t1 : fTest (fOp gIx (fVar 2) (fVar 3)) [some (.p (encBs bs)), z1, some (.m (l.map PV.b)), some (.p (nI k))] b = some (getB l k, b) := by
    rw [getB_eq hkl]
    simp [nI, hkl]
  have t2 : fTest (fOp gGe (fOp gIx (fOp gIx (fVar 0) (fVar 3)) (fC (.p (.i 2)))) (fC (.p (.i 0)))) [some (.p (encBs bs)), z1, some (.m (l.map PV.b)), some (.p (nI k))] b = some (decide (0 ≤ parN bs k), b) := by
    rw [ep]
    simp [nI, encBs, hx, encB]
  show fIf _ _ _ _ b = _
  rw [z_if, z_tand, t1, bnd_mk]
  unfold oStep
  cases hg : getB l k with
  | false => rfl
  | true =>
    rw [if_pos rfl, t2, bnd_mk, Bool.true_and]
    by_cases h0 : 0 ≤ parN bs k
    · rw [if_pos (decide_eq_true h0), if_pos (decide_eq_true h0)]
      have hpl : (parN bs k).toNat < l.length := by omega
      rw [ep] at h0 hpl ⊢
      simp [nI, encBs, hx, encB, h0, hpl, List.map_set]
    · rw [if_neg (by rw [decide_eq_false h0]; decide), if_neg (by rw [decide_eq_false h0]; decide)]
      rfl
theorem rng_up (n : Nat) : rngL 0 n = (List.range n).map nI := by
  unfold rngL
  refine List.map_congr_left fun j _ => ?_
  show PV.i _ = PV.i _
  rw [Int.zero_add]
theorem eq_open {bs : List Bud} (vb : VB bs) (src : List Nat) (b : BS) : D_parts_open [.p (encBs bs), .l (src.map nI)] b = some (.m ((openI bs src).map PV.b), b) := by
  have hn := vb.len
  refine mkFn_eq rfl ?_
  refine (seq_nx (S' := [some (.p (encBs bs)), some (.l (src.map nI)), some (.m (((List.range bs.length).map fun k => decide (k ∈ src)).map PV.b)), none]) (b' := b) ?_).trans ?_
  · have l1 := lc_eq (vs := [3]) (tg := .one 3) (ft := fYes) (fi := fRng1 (fCons (fCB gLen (fCons (fVar 0) fNil)) fNil)) (fe := fOp gIn (fVar 3) (fVar 1)) (S := stS 4 [.p (encBs bs), .l (src.map nI)]) (b := b) (b1 := b) (xs := (List.range bs.length).map nI) (by
      have h1 : -(2 ^ 62) ≤ (bs.length : Int) ∧ (bs.length : Int) < 2 ^ 62 := by omega
      rw [← rng_up]
      rw [z_rng1, z_cons, cb1_eq (x := .p (encBs bs)) (b1 := b) (z := .p (.i (bs.length : Int))) rfl (by simp [encBs]), bnd_mk, z_nil, bnd_mk, bnd_mk]
      show (if -(2 ^ 62) ≤ (bs.length : Int) ∧ (bs.length : Int) < 2 ^ 62 then some (rngL 0 (bs.length : Int).toNat, b) else none) = _
      rw [if_pos h1, Int.toNat_natCast]) (by simp; omega)
      (lc_all nI (fun k => PV.b (decide (k ∈ src))) b _ fun k hk => ⟨[nI k], rfl, op_eq (x := .p (nI k)) (y := .l (src.map nI)) (b1 := b) (b2 := b) rfl rfl (gIn_nat k src)⟩)
    refine (asg_m l1).trans ?_
    rw [List.map_map]
    rfl
  let Iv : List Bool → Sl → BS → Prop := fun l S b' => b' = b ∧ l.length = bs.length ∧ ∃ z3, S = [some (.p (encBs bs)), some (.l (src.map nI)), some (.m (l.map PV.b)), z3]
  have step : ∀ (l : List Bool) (k : Nat) (S : Sl) (b' : BS), k ∈ dn bs.length → Iv l S b' → ∃ qs S' b'', (Tg.one 3).parts (nI k) = some qs ∧ (F_poB (setS S (Tg.one 3).slots (qs.map SV.p)) b' = some (.nx S', b'') ∨ F_poB (setS S (Tg.one 3).slots (qs.map SV.p)) b' = some (.ct S', b'')) ∧ Iv (oStep bs l k) S' b'' := by
    rintro l k S b' hk ⟨e1, e2, z3, e3⟩
    subst e1 e3
    have hkn : k < bs.length := by simpa [dn] using hk
    exact ⟨[nI k], _, b', rfl, Or.inl (po_body vb _ e2 hkn b'), rfl, by rw [oStep_len]; exact e2, _, rfl⟩
  obtain ⟨S', b', h1, h2, h3, z3, h4⟩ := for_fold (tg := .one 3) (F := F_poB) Iv (oStep bs) nI (dn bs.length) ((List.range bs.length).map fun k => decide (k ∈ src)) [some (.p (encBs bs)), some (.l (src.map nI)), some (.m (((List.range bs.length).map fun k => decide (k ∈ src)).map PV.b)), none] b step ⟨rfl, by simp, none, rfl⟩
  subst h2 h4
  refine (seq_nx (for_eq (b1 := b') (xs := (dn bs.length).map nI) ?_ h1)).trans ?_
  · rw [← rng_down]
    simp [encBs, cRg_down (show bs.length ≤ 1000 by omega), rs_down hn.1]
  · simp [openI]
end K15
/-! K15P8: cut_at -/
set_option autoImplicit false
namespace K15
open PySem PySem.Spec PyProof.Rows L2 K15R
def encO (o : Option Bud) : PV := match o with
  | some x => encB x
  | none => .i 0
def enB (bs : List Bud) (k : Nat) : PV := .t [nI k, encO bs[k]?]
theorem enum_buds (bs : List Bud) : enumL 0 (bs.map encB) = (List.range bs.length).map (enB bs) := by
  apply List.ext_getElem?
  intro i
  by_cases h : i < bs.length
  · have h1 : (bs.map encB)[i]? = some (encB bs[i]) := by rw [List.getElem?_map, List.getElem?_eq_getElem h]; rfl
    rw [enumL_get _ 0 i _ h1]
    simp [enB, h, nI, encO]
  · rw [List.getElem?_eq_none (by rw [enumL_len]; simp; omega), List.getElem?_eq_none (by simp; omega)]
def belowI (bs : List Bud) (most : List Int) (k : Nat) : Int := (((List.range bs.length).filter fun j => decide (parN bs j = (k : Int))).map (getI most)).sum
def stopB (bs : List Bud) (op pas : List Bool) (k : Nat) : Bool := (decide (0 ≤ parN bs k) && getB pas (parN bs k).toNat) || !getB op k
def cStep (bs : List Bud) (src : List Nat) (most : List Int) (op : List Bool) (st : List Bool × List Nat) (k : Nat) : List Bool × List Nat :=
  if stopB bs op st.1 k then (st.1.set k true, st.2)
  else if decide (k ∈ src) || decide (capN bs k ≤ belowI bs most k) then (st.1.set k true, st.2 ++ [k]) else st
def cutI (bs : List Bud) (src : List Nat) : List Nat := ((List.range bs.length).foldl (cStep bs src (mostI bs src) (openI bs src)) (List.replicate bs.length false, [])).2
theorem cStep_len (bs : List Bud) (src : List Nat) (most : List Int) (op : List Bool) (st : List Bool × List Nat) (k : Nat) : (cStep bs src most op st k).1.length = st.1.length ∧ (cStep bs src most op st k).2.length ≤ st.2.length + 1 := by
  unfold cStep
  split
  · simp
  · split <;> simp
theorem fold_len (bs : List Bud) (src : List Nat) (n : Nat) : ∀ (ks : List Nat) (l : List Int), l.length = n → (ks.foldl (mStep bs src) l).length = n
  | [], l, h => h
  | k :: ks, l, h => fold_len bs src n ks _ (by rw [mStep_len]; exact h)
theorem most_len (bs : List Bud) (src : List Nat) : (mostI bs src).length = bs.length := fold_len bs src _ _ _ (by simp)
theorem fold_len2 (bs : List Bud) (n : Nat) : ∀ (ks : List Nat) (l : List Bool), l.length = n → (ks.foldl (oStep bs) l).length = n
  | [], l, h => h
  | k :: ks, l, h => fold_len2 bs n ks _ (by rw [oStep_len]; exact h)
theorem open_len (bs : List Bud) (src : List Nat) : (openI bs src).length = bs.length := fold_len2 bs _ _ _ (by simp)
def F_cutS : Fs := (fIf (fTOr (fTAnd (fTest (fOp gGe (fOp gIx (fVar 7) (fC (.p (.i 2)))) (fC (.p (.i 0))))) (fTest (fOp gIx (fVar 4) (fOp gIx (fVar 7) (fC (.p (.i 2))))))) (fTNot (fTest (fOp gIx (fVar 3) (fVar 6)))))
      (fSeq (fSetIx 4 (fVar 6) (fC (.p (.b true))))
      fCont)
      fNext)
def F_cutE : Fs := (fIf (fTOr (fTest (fOp gIn (fVar 6) (fVar 1))) (fTest (fOp gLe (fOp gIx (fVar 7) (fC (.p (.i 1)))) (fVar 8))))
      (fSeq (fApp 5 (fVar 6))
      (fSetIx 4 (fVar 6) (fC (.p (.b true)))))
      fNext)
def F_cutL : Fe := (fLc (fEnum (fCons (fVar 0) fNil)) (.many [9, 10]) (fTest (fOp (gEqB false) (fOp gIx (fVar 10) (fC (.p (.i 2)))) (fVar 6))) (fOp gIx (fVar 2) (fVar 9)) [9, 10])
def F_cutB : Fs := (fSeq F_cutS (fSeq (fAsg 8 (fCB gSum (fCons F_cutL fNil))) F_cutE))
/-- cut_at's slots -/
def cS (bs : List Bud) (src : List Nat) (most : List Int) (op pas : List Bool) (cut : List Nat) (k : Option SV) (x z8 z9 z10 : Option SV) : Sl :=
  [some (.p (encBs bs)), some (.l (src.map nI)), some (.m (most.map PV.i)), some (.m (op.map PV.b)), some (.m (pas.map PV.b)), some (.m (cut.map nI)), k, x, z8, z9, z10]
theorem cut_body {bs : List Bud} (vb : VB bs) (src : List Nat) {most : List Int} {op pas : List Bool} {cut : List Nat} (hm : most.length = bs.length) (ho : op.length = bs.length) (hp : pas.length = bs.length) (hc : cut.length ≤ 100) {k : Nat} (hk : k < bs.length) (z8 z9 z10 : Option SV) (b : BS) :
    ∃ z8', F_cutB (cS bs src most op pas cut (some (.p (nI k))) (some (.p (encO bs[k]?))) z8 z9 z10) b = some (.nx (cS bs src most op (cStep bs src most op (pas, cut) k).1 (cStep bs src most op (pas, cut) k).2 (some (.p (nI k))) (some (.p (encO bs[k]?))) z8' z9 z10), b) ∨
      F_cutB (cS bs src most op pas cut (some (.p (nI k))) (some (.p (encO bs[k]?))) z8 z9 z10) b = some (.ct (cS bs src most op (cStep bs src most op (pas, cut) k).1 (cStep bs src most op (pas, cut) k).2 (some (.p (nI k))) (some (.p (encO bs[k]?))) z8' z9 z10), b) := by
  obtain ⟨x, hx⟩ : ∃ x, bs[k]? = some x := ⟨_, List.getElem?_eq_getElem hk⟩
  have hpx := vb.par k x hx
  have ep : parN bs k = x.par := by simp [parN, hx]
  have ec : capN bs k = x.cap := by simp [capN, hx]
  have hko : k < op.length := by omega
  have hkp : k < pas.length := by omega
  rw [show encO bs[k]? = encB x by rw [hx]; rfl]
  have tS : (fTOr (fTAnd (fTest (fOp gGe (fOp gIx (fVar 7) (fC (.p (.i 2)))) (fC (.p (.i 0))))) (fTest (fOp gIx (fVar 4) (fOp gIx (fVar 7) (fC (.p (.i 2))))))) (fTNot (fTest (fOp gIx (fVar 3) (fVar 6))))) (cS bs src most op pas cut (some (.p (nI k))) (some (.p (encB x))) z8 z9 z10) b = some (stopB bs op pas k, b) := by
    unfold stopB
    rw [getB_eq hko, ep]
    by_cases h0 : 0 ≤ x.par
    · have hpl : x.par.toNat < pas.length := by omega
      rw [getB_eq hpl]
      cases hv : pas[x.par.toNat] <;> simp [cS, encB, nI, h0, hpl, hko, hv]
    · simp [cS, encB, nI, h0, hko]
  have hgo : ∀ c, stopB bs op pas k = c → F_cutS (cS bs src most op pas cut (some (.p (nI k))) (some (.p (encB x))) z8 z9 z10) b = if c then some (.ct (cS bs src most op (pas.set k true) cut (some (.p (nI k))) (some (.p (encB x))) z8 z9 z10), b) else some (.nx (cS bs src most op pas cut (some (.p (nI k))) (some (.p (encB x))) z8 z9 z10), b) := fun c hcc => by
    show fIf _ _ _ _ b = _
    rw [z_if, tS, bnd_mk, hcc]
    cases c with
    | false => rfl
    | true =>
      rw [if_pos rfl, if_pos rfl]
      simp [cS, nI, hkp, List.map_set]
  cases hst : stopB bs op pas k with
  | true =>
    refine ⟨z8, Or.inr ((seq_ct (hgo true hst)).trans ?_)⟩
    simp [cStep, hst]
  | false =>
    have l1 := lc_eq (vs := [9, 10]) (tg := .many [9, 10]) (ft := (fTest (fOp (gEqB false) (fOp gIx (fVar 10) (fC (.p (.i 2)))) (fVar 6)))) (fi := fEnum (fCons (fVar 0) fNil)) (fe := fOp gIx (fVar 2) (fVar 9)) (S := cS bs src most op pas cut (some (.p (nI k))) (some (.p (encB x))) z8 z9 z10) (b := b) (b1 := b) (xs := (List.range bs.length).map (enB bs)) (by rw [← enum_buds]; rfl) (by have := vb.len; simp; omega)
      (lc_map (enB bs) (fun j => decide (parN bs j = (k : Int))) (fun j => PV.i (getI most j)) b _ fun j hj => by
        have hjn : j < bs.length := List.mem_range.mp hj
        obtain ⟨y, hy⟩ : ∃ y, bs[j]? = some y := ⟨_, List.getElem?_eq_getElem hjn⟩
        have ej : parN bs j = y.par := by simp [parN, hy]
        have hjm : j < most.length := by omega
        refine ⟨[nI j, encO bs[j]?], rfl, ?_, fun _ => ?_⟩
        · rw [show encO bs[j]? = encB y by rw [hy]; rfl, ej]
          simp [cS, encB, nI]
        · rw [getI_eq hjm]
          simp [cS, nI, hjm])
    have e8 : fAsg 8 (fCB gSum (fCons F_cutL fNil)) (cS bs src most op pas cut (some (.p (nI k))) (some (.p (encB x))) z8 z9 z10) b = some (.nx (cS bs src most op pas cut (some (.p (nI k))) (some (.p (encB x))) (some (.p (.i (belowI bs most k)))) z9 z10), b) :=
      (asg_p (cb1_eq l1 (z := .p (.i (belowI bs most k))) (by simp [belowI]))).trans rfl
    have tE : (fTOr (fTest (fOp gIn (fVar 6) (fVar 1))) (fTest (fOp gLe (fOp gIx (fVar 7) (fC (.p (.i 1)))) (fVar 8)))) (cS bs src most op pas cut (some (.p (nI k))) (some (.p (encB x))) (some (.p (.i (belowI bs most k)))) z9 z10) b = some (decide (k ∈ src) || decide (capN bs k ≤ belowI bs most k), b) := by
      rw [z_tor, test_in (k := k) (src := src) rfl rfl, bnd_mk, ec]
      by_cases hmm : k ∈ src
      · rw [if_pos (decide_eq_true hmm), decide_eq_true hmm]; rfl
      · rw [if_neg (by rw [decide_eq_false hmm]; decide), decide_eq_false hmm]
        simp [cS, encB]
    refine ⟨some (.p (.i (belowI bs most k))), Or.inl ((seq_nx (hgo false hst)).trans ((seq_nx e8).trans ?_))⟩
    show fIf _ _ _ _ b = _
    rw [z_if, tE, bnd_mk]
    have hcs : cStep bs src most op (pas, cut) k = if decide (k ∈ src) || decide (capN bs k ≤ belowI bs most k) then (pas.set k true, cut ++ [k]) else (pas, cut) := by
      unfold cStep
      rw [hst]; rfl
    rw [hcs]
    cases hE : (decide (k ∈ src) || decide (capN bs k ≤ belowI bs most k)) with
    | false => rfl
    | true =>
      rw [if_pos rfl, if_pos rfl]
      have hcl : cut.length < 100000 := by omega
      simp [cS, nI, hkp, hcl, List.map_set]
end K15
/-! K15P9: cut_at's end -/
set_option autoImplicit false
namespace K15
open PySem PySem.Spec PyProof.Rows L2 K15R
theorem eq_cut {bs : List Bud} (vb : VB bs) (src : List Nat) (b : BS) : D_cut_at [.p (encBs bs), .l (src.map nI)] b = some (.m ((cutI bs src).map nI), b) := by
  have hn := vb.len
  have hml := most_len bs src
  have hol := open_len bs src
  refine mkFn_eq rfl ?_
  refine (seq_nx (S' := [some (.p (encBs bs)), some (.l (src.map nI)), some (.m ((mostI bs src).map PV.i)), none, none, none, none, none, none, none, none]) (b' := b) ((asg_m (call2_eq (x := .p (encBs bs)) (y := .l (src.map nI)) (b1 := b) (b2 := b) rfl rfl (eq_most vb src b))).trans rfl)).trans ?_
  refine (seq_nx (S' := [some (.p (encBs bs)), some (.l (src.map nI)), some (.m ((mostI bs src).map PV.i)), some (.m ((openI bs src).map PV.b)), none, none, none, none, none, none, none]) (b' := b) ((asg_m (call2_eq (x := .p (encBs bs)) (y := .l (src.map nI)) (b1 := b) (b2 := b) rfl rfl (eq_open vb src b))).trans rfl)).trans ?_
  refine (seq_nx (S' := [some (.p (encBs bs)), some (.l (src.map nI)), some (.m ((mostI bs src).map PV.i)), some (.m ((openI bs src).map PV.b)), some (.m ((List.replicate bs.length false).map PV.b)), none, none, none, none, none, none]) (b' := b) ?_).trans ?_
  · have hc : bs.length ≤ 100000 := by omega
    have hc' : (bs.length : Int) ≤ 100000 := by omega
    refine (asg_m (ys := (List.replicate bs.length false).map PV.b) (b' := b) ?_).trans rfl
    simp [encBs, hc, hc']
  refine (seq_nx (S' := cS bs src (mostI bs src) (openI bs src) (List.replicate bs.length false) [] none none none none none) (b' := b) ?_).trans ?_
  · simp [cS]
  let Iv : List Bool × List Nat → Sl → BS → Prop := fun st S b' => b' = b ∧ st.1.length = bs.length ∧ st.2.length ≤ 50 ∧ ∃ z6 z7 z8 z9 z10, S = cS bs src (mostI bs src) (openI bs src) st.1 st.2 z6 z7 z8 z9 z10
  have key : ∀ (ks : List Nat) (st : List Bool × List Nat) (S : Sl), (∀ k ∈ ks, k < bs.length) → st.1.length = bs.length → st.2.length + ks.length ≤ 50 → (∃ z6 z7 z8 z9 z10, S = cS bs src (mostI bs src) (openI bs src) st.1 st.2 z6 z7 z8 z9 z10) →
      ∃ z6 z7 z8 z9 z10, forLoop (.many [6, 7]) F_cutB (ks.map (enB bs)) S b = some (.nx (cS bs src (mostI bs src) (openI bs src) (ks.foldl (cStep bs src (mostI bs src) (openI bs src)) st).1 (ks.foldl (cStep bs src (mostI bs src) (openI bs src)) st).2 z6 z7 z8 z9 z10), b) := by
    intro ks
    induction ks with
    | nil => rintro st S _ _ _ ⟨z6, z7, z8, z9, z10, rfl⟩; exact ⟨z6, z7, z8, z9, z10, rfl⟩
    | cons k ks ih =>
      rintro st S hk h1 h2 ⟨z6, z7, z8, z9, z10, rfl⟩
      have hkn := hk k List.mem_cons_self
      simp only [List.length_cons] at h2
      have hsl := cStep_len bs src (mostI bs src) (openI bs src) st k
      obtain ⟨z8', hb⟩ := cut_body vb src hml hol h1 (cut := st.2) (by omega) hkn z8 z9 z10 b
      have hpt : (Tg.many [6, 7]).parts (enB bs k) = some [nI k, encO bs[k]?] := rfl
      have hS : setS (cS bs src (mostI bs src) (openI bs src) st.1 st.2 z6 z7 z8 z9 z10) (Tg.many [6, 7]).slots ([nI k, encO bs[k]?].map SV.p) = cS bs src (mostI bs src) (openI bs src) st.1 st.2 (some (.p (nI k))) (some (.p (encO bs[k]?))) z8 z9 z10 := rfl
      obtain ⟨y6, y7, y8, y9, y10, hi⟩ := ih (cStep bs src (mostI bs src) (openI bs src) st k) _ (fun j hj => hk j (List.mem_cons_of_mem _ hj)) (by rw [hsl.1]; exact h1) (by omega) ⟨some (.p (nI k)), some (.p (encO bs[k]?)), z8', z9, z10, rfl⟩
      refine ⟨y6, y7, y8, y9, y10, ?_⟩
      rw [List.map_cons, List.foldl_cons]
      rcases hb with hb | hb
      · rw [forLoop_cons hpt (by rw [hS]; exact hb)]
        exact hi
      · rw [forLoop_cons hpt (by rw [hS]; exact hb)]
        exact hi
  obtain ⟨z6, z7, z8, z9, z10, h1⟩ := key (List.range bs.length) (List.replicate bs.length false, []) _ (fun k hk => List.mem_range.mp hk) (by simp) (by simp; omega) ⟨none, none, none, none, none, rfl⟩
  refine (seq_nx (for_eq (b1 := b) (xs := (List.range bs.length).map (enB bs)) ?_ h1)).trans ?_
  · rw [← enum_buds]; rfl
  · simp [cS, cutI]
end K15
/-! K15P10: prices_of -/
set_option autoImplicit false
namespace K15
open PySem PySem.Spec PyProof.Rows L2 K15R
def srcI (ps : List Int) (lv : Int) : List Nat := (List.range ps.length).filter fun k => decide (lv ≤ getI ps k)
def addC (lv low : Int) (rs : List Int) (k : Nat) : List Int := rs.set k (getI rs k + lv - low)
def prStep (bs : List Bud) (ps : List Int) (st : List Int × Int) (lv : Int) : List Int × Int := ((cutI bs (srcI ps lv)).foldl (addC lv st.2) st.1, lv)
def lvI (ps : List Int) : List Int := usort (ps.filter fun p => decide (0 < p))
def prI (bs : List Bud) (ps : List Int) : List Int := ((lvI ps).foldl (prStep bs ps) (List.replicate bs.length 0, 0)).1
theorem addC_len (lv low : Int) (rs : List Int) (k : Nat) : (addC lv low rs k).length = rs.length := by simp [addC]
theorem addF_len (lv low : Int) : ∀ (ks : List Nat) (rs : List Int), (ks.foldl (addC lv low) rs).length = rs.length
  | [], rs => rfl
  | k :: ks, rs => by rw [List.foldl_cons, addF_len lv low ks, addC_len]
theorem cut_fold (bs : List Bud) (src : List Nat) (most : List Int) (op : List Bool) : ∀ (ks : List Nat) (st : List Bool × List Nat), (∀ j ∈ (ks.foldl (cStep bs src most op) st).2, j ∈ st.2 ∨ j ∈ ks) ∧ (ks.foldl (cStep bs src most op) st).2.length ≤ st.2.length + ks.length
  | [], st => ⟨fun j h => Or.inl h, Nat.le_refl _⟩
  | k :: ks, st => by
    have h := cut_fold bs src most op ks (cStep bs src most op st k)
    have hl := (cStep_len bs src most op st k).2
    rw [List.foldl_cons]
    refine ⟨fun j hj => ?_, by have := h.2; simp only [List.length_cons]; omega⟩
    rcases h.1 j hj with h1 | h1
    · have : j ∈ st.2 ∨ j = k := by
        unfold cStep at h1
        split at h1
        · exact Or.inl h1
        · split at h1
          · simpa using h1
          · exact Or.inl h1
      rcases this with h2 | rfl
      · exact Or.inl h2
      · exact Or.inr List.mem_cons_self
    · exact Or.inr (List.mem_cons_of_mem _ h1)
theorem cut_lt {bs : List Bud} {src : List Nat} : (∀ j ∈ cutI bs src, j < bs.length) ∧ (cutI bs src).length ≤ bs.length := by
  have h := cut_fold bs src (mostI bs src) (openI bs src) (List.range bs.length) (List.replicate bs.length false, [])
  refine ⟨fun j hj => ?_, by have h2 := h.2; simp at h2; exact h2⟩
  rcases h.1 j hj with h1 | h1
  · cases h1
  · exact List.mem_range.mp h1
def F_prI : Fs := fSetIx 2 (fVar 6) (fOp gSub_ (fOp gAdd (fOp gIx (fVar 2) (fVar 6)) (fVar 4)) (fVar 3))
def F_prB : Fs := (fSeq (fAsg 5 (fLc (fEnum (fCons (fVar 1) fNil)) (.many [6, 7]) (fTest (fOp gGe (fVar 7) (fVar 4))) (fVar 6) [6, 7]))
    (fSeq (fFor (fItM (fCall D_cut_at (fCons (fVar 0) (fCons (fVar 5) fNil)))) (.one 6) F_prI)
    (fAsg 3 (fVar 4))))
theorem pr_in {n : Nat} {z0 z1 z5 z7 : Option SV} (lv low : Int) (b : BS) {ks : List Nat} (hk : ∀ j ∈ ks, j < n) {rs : List Int} (hr : rs.length = n) (z6 : Option SV) :
    ∃ z6', forLoop (.one 6) F_prI (ks.map nI) [z0, z1, some (.m (rs.map PV.i)), some (.p (.i low)), some (.p (.i lv)), z5, z6, z7] b = some (.nx [z0, z1, some (.m ((ks.foldl (addC lv low) rs).map PV.i)), some (.p (.i low)), some (.p (.i lv)), z5, z6', z7], b) := by
  let Iv : List Int → Sl → BS → Prop := fun rs S b' => b' = b ∧ rs.length = n ∧ ∃ z6, S = [z0, z1, some (.m (rs.map PV.i)), some (.p (.i low)), some (.p (.i lv)), z5, z6, z7]
  have step : ∀ (rs : List Int) (k : Nat) (S : Sl) (b' : BS), k ∈ ks → Iv rs S b' → ∃ qs S' b'', (Tg.one 6).parts (nI k) = some qs ∧ (F_prI (setS S (Tg.one 6).slots (qs.map SV.p)) b' = some (.nx S', b'') ∨ F_prI (setS S (Tg.one 6).slots (qs.map SV.p)) b' = some (.ct S', b'')) ∧ Iv (addC lv low rs k) S' b'' := by
    rintro rs k S b' hkk ⟨e1, e2, z6, e3⟩
    subst e1 e3
    have hkl : k < rs.length := by rw [e2]; exact hk k hkk
    refine ⟨[nI k], [z0, z1, some (.m ((addC lv low rs k).map PV.i)), some (.p (.i low)), some (.p (.i lv)), z5, some (.p (nI k)), z7], b', rfl, Or.inl ?_, rfl, by rw [addC_len]; exact e2, _, rfl⟩
    unfold addC
    rw [getI_eq hkl]
    simp [F_prI, nI, hkl, List.map_set]
  obtain ⟨S', b', h1, h2, h3, z6', h4⟩ := for_fold (tg := .one 6) (F := F_prI) Iv (addC lv low) nI ks rs [z0, z1, some (.m (rs.map PV.i)), some (.p (.i low)), some (.p (.i lv)), z5, z6, z7] b step ⟨rfl, hr, z6, rfl⟩
  subst h2 h4
  exact ⟨z6', h1⟩
theorem pr_body {bs : List Bud} (vb : VB bs) {ps : List Int} (hp : ps.length = bs.length) {rs : List Int} (hr : rs.length = bs.length) (low lv : Int) (z5 z6 z7 : Option SV) (b : BS) :
    ∃ z5' z6', F_prB [some (.p (encBs bs)), some (.p (iT ps)), some (.m (rs.map PV.i)), some (.p (.i low)), some (.p (.i lv)), z5, z6, z7] b = some (.nx [some (.p (encBs bs)), some (.p (iT ps)), some (.m ((prStep bs ps (rs, low) lv).1.map PV.i)), some (.p (.i lv)), some (.p (.i lv)), z5', z6', z7], b) := by
  have hn := vb.len
  have l1 := lc_eq (vs := [6, 7]) (tg := .many [6, 7]) (ft := (fTest (fOp gGe (fVar 7) (fVar 4)))) (fi := fEnum (fCons (fVar 1) fNil)) (fe := fVar 6) (S := [some (.p (encBs bs)), some (.p (iT ps)), some (.m (rs.map PV.i)), some (.p (.i low)), some (.p (.i lv)), z5, z6, z7]) (b := b) (b1 := b) (xs := (List.range ps.length).map (enP ps)) (by rw [← enum_range]; rfl) (by simp; omega)
    (lc_map (enP ps) (fun k => decide (lv ≤ getI ps k)) nI b _ fun k _ => ⟨[.i (k : Int), .i (getI ps k)], rfl, by simp, fun _ => by simp [nI]⟩)
  obtain ⟨z6', h1⟩ := pr_in (n := bs.length) (z0 := some (.p (encBs bs))) (z1 := some (.p (iT ps))) (z5 := some (.m ((srcI ps lv).map nI))) (z7 := z7) lv low b (ks := cutI bs (srcI ps lv)) cut_lt.1 hr z6
  refine ⟨some (.m ((srcI ps lv).map nI)), z6', ?_⟩
  refine (seq_nx (S' := [some (.p (encBs bs)), some (.p (iT ps)), some (.m (rs.map PV.i)), some (.p (.i low)), some (.p (.i lv)), some (.m ((srcI ps lv).map nI)), z6, z7]) (b' := b) ((asg_m l1).trans rfl)).trans ?_
  refine (seq_nx (for_eq (b1 := b) (xs := (cutI bs (srcI ps lv)).map nI) ?_ h1)).trans ?_
  · rw [z_itM, call2_eq (x := .p (encBs bs)) (y := .l ((srcI ps lv).map nI)) (b1 := b) (b2 := b) rfl rfl (eq_cut vb (srcI ps lv) b)]; rfl
  · rfl
theorem fold_map_i (f : Int → Int) (xs : List Int) : True := True.intro
theorem eq_prices {bs : List Bud} (vb : VB bs) {ps : List Int} (hp : ps.length = bs.length) (b : BS) : D_prices_of [.p (encBs bs), .p (iT ps)] b = some (.p (iT (prI bs ps)), b) := by
  have hn := vb.len
  refine mkFn_eq rfl ?_
  refine (seq_nx (S' := [some (.p (encBs bs)), some (.p (iT ps)), some (.m ((List.replicate bs.length (0 : Int)).map PV.i)), none, none, none, none, none]) (b' := b) ?_).trans ?_
  · have hc : bs.length ≤ 100000 := by omega
    have hc' : (bs.length : Int) ≤ 100000 := by omega
    refine (asg_m (ys := (List.replicate bs.length (0 : Int)).map PV.i) (b' := b) ?_).trans rfl
    simp [encBs, hc, hc', stS]
  refine (seq_nx (S' := [some (.p (encBs bs)), some (.p (iT ps)), some (.m ((List.replicate bs.length (0 : Int)).map PV.i)), some (.p (.i 0)), none, none, none, none]) (b' := b) rfl).trans ?_
  let Iv : List Int × Int → Sl → BS → Prop := fun st S b' => b' = b ∧ st.1.length = bs.length ∧ ∃ z4 z5 z6 z7, S = [some (.p (encBs bs)), some (.p (iT ps)), some (.m (st.1.map PV.i)), some (.p (.i st.2)), z4, z5, z6, z7]
  have step : ∀ (st : List Int × Int) (lv : Int) (S : Sl) (b' : BS), lv ∈ lvI ps → Iv st S b' → ∃ qs S' b'', (Tg.one 4).parts (PV.i lv) = some qs ∧ (F_prB (setS S (Tg.one 4).slots (qs.map SV.p)) b' = some (.nx S', b'') ∨ F_prB (setS S (Tg.one 4).slots (qs.map SV.p)) b' = some (.ct S', b'')) ∧ Iv (prStep bs ps st lv) S' b'' := by
    rintro ⟨rs, low⟩ lv S b' _ ⟨e1, e2, z4, z5, z6, z7, e3⟩
    subst e1 e3
    obtain ⟨z5', z6', h⟩ := pr_body vb hp e2 low lv z5 z6 z7 b'
    exact ⟨[.i lv], _, b', rfl, Or.inl h, rfl, by show ((cutI bs (srcI ps lv)).foldl (addC lv low) rs).length = _; rw [addF_len]; exact e2, _, _, _, _, rfl⟩
  obtain ⟨S', b', h1, h2, h3, z4, z5, z6, z7, h4⟩ := for_fold (tg := .one 4) (F := F_prB) Iv (prStep bs ps) PV.i (lvI ps) (List.replicate bs.length 0, 0) [some (.p (encBs bs)), some (.p (iT ps)), some (.m ((List.replicate bs.length (0 : Int)).map PV.i)), some (.p (.i 0)), none, none, none, none] b step ⟨rfl, by simp, none, none, none, none, rfl⟩
  subst h2 h4
  refine (seq_nx (for_eq (b1 := b') (xs := (lvI ps).map PV.i) ?_ h1)).trans ?_
  · have e2 := lc_map (tg := .one 7) (ft := fTest (fOp gGt (fVar 7) (fC (.p (.i 0))))) (fe := fVar 7) (S := wpS [some (.p (encBs bs)), some (.p (iT ps)), some (.m ((List.replicate bs.length (0 : Int)).map PV.i)), some (.p (.i 0)), none, none, none, none] [7]) PV.i (fun p => decide (0 < p)) PV.i b' ps fun p _ => ⟨[.i p], rfl, by simp, fun _ => by simp⟩
    have hps : (ps.map PV.i).length ≤ 60 := by rw [List.length_map]; omega
    rw [z_itM, z_scs]
    show bnd (bnd (some (ps.map PV.i, b')) _) _ = _
    rw [bnd_mk, if_pos hps, e2, bnd_mk, intsP_map]
    rfl
  · simp [prI, iT]
end K15
/-! K15Fin: the finite check of cuts against greedy counts -/
set_option autoImplicit false
namespace K15
open PySem PySem.Spec PyProof.Rows L2 K15R
/-- the sum of the greedy counts along o -/
def grT (bs : List Bud) : List Int → List Nat → Int
  | _, [] => 0
  | left, s :: o => mnP left (pathN bs s) + grT bs (subP (mnP left (pathN bs s)) left (pathN bs s)) o
def capS (bs : List Bud) (ks : List Nat) : Int := (ks.map (capN bs)).sum
def okF (bs : List Bud) (o : List Nat) : Bool :=
  let src := (List.range bs.length).filter fun k => decide (k ∈ o)
  let cut := cutI bs src
  decide (grT bs (bs.map Bud.cap) o = capS bs cut) && o.all fun i => (pathN bs i).any fun j => decide (j ∈ cut)
def bud0 (c p : Nat) : Bud := ⟨⟨#[]⟩, (c : Int), (p : Int) - 1⟩
def ords3 : List (List Nat) := [[0], [1], [2], [0, 1], [0, 2], [1, 0], [1, 2], [2, 0], [2, 1], [0, 1, 2], [0, 2, 1], [1, 0, 2], [1, 2, 0], [2, 0, 1], [2, 1, 0]]
def ords2 : List (List Nat) := [[0], [1], [0, 1], [1, 0]]
def chk3 : Bool := (List.range 4).all fun c0 => (List.range 4).all fun c1 => (List.range 4).all fun c2 => (List.range 2).all fun p1 => (List.range 3).all fun p2 => ords3.all fun o => okF [bud0 c0 0, bud0 c1 p1, bud0 c2 p2] o
def chk2 : Bool := (List.range 4).all fun c0 => (List.range 4).all fun c1 => (List.range 2).all fun p1 => ords2.all fun o => okF [bud0 c0 0, bud0 c1 p1] o
def chk1 : Bool := (List.range 4).all fun c0 => okF [bud0 c0 0] [0]
theorem chk3_ok : chk3 = true := by decide +kernel
theorem chk2_ok : chk2 = true := by decide +kernel
theorem chk1_ok : chk1 = true := by decide +kernel
end K15
/-! K15P11: penalties are 0..4; analysis -/
set_option autoImplicit false
namespace K15
open PySem PySem.Spec PyProof.Rows L2 K15R
def B4 (l : List Int) : Prop := ∀ x ∈ l, 0 ≤ x ∧ x ≤ 4
theorem getI_mem {l : List Int} {k : Nat} (h : k < l.length) : getI l k ∈ l := by
  rw [getI_eq h]; exact List.getElem_mem h
theorem setMax_b4 {l : List Int} (h : B4 l) {g : II} (hg : 1 ≤ g.1 ∧ g.1 ≤ 4) : B4 (setMax l g) := by
  intro x hx
  unfold setMax at hx
  by_cases hk : g.2.toNat < l.length
  · rcases List.mem_or_eq_of_mem_set hx with h1 | h1
    · exact h x h1
    · have := h _ (getI_mem hk)
      rw [h1]
      split <;> omega
  · rw [List.set_eq_of_length_le (by omega)] at hx
    exact h x hx
theorem segs_b4 : ∀ (gs : List II) (l : List Int), B4 l → (∀ g ∈ gs, 1 ≤ g.1 ∧ g.1 ≤ 4) → B4 (gs.foldl setMax l)
  | [], l, h, _ => h
  | g :: gs, l, h, hg => segs_b4 gs _ (setMax_b4 h (hg g List.mem_cons_self)) fun x hx => hg x (List.mem_cons_of_mem _ hx)
theorem items_b4 {n : Nat} : ∀ (xs : List Item) (l : List Int), B4 l → (∀ x ∈ xs, VI n x) → B4 (xs.foldl (fun l x => x.segs.foldl setMax l) l)
  | [], l, h, _ => h
  | x :: xs, l, h, hv => items_b4 xs _ (segs_b4 x.segs l h fun g hg => ⟨((hv x List.mem_cons_self).src g hg).2.2.1, ((hv x List.mem_cons_self).src g hg).2.2.2⟩) fun y hy => hv y (List.mem_cons_of_mem _ hy)
theorem long_b4 {n : Nat} {xs : List Item} (v : ∀ x ∈ xs, VI n x) : B4 (longI n xs) := items_b4 xs _ (fun x hx => by rw [(List.mem_replicate.mp hx).2]; omega) v
theorem segs_len : ∀ (gs : List II) (l : List Int), (gs.foldl setMax l).length = l.length
  | [], l => rfl
  | g :: gs, l => by rw [List.foldl_cons, segs_len gs, setMax_len]
theorem items_len : ∀ (xs : List Item) (l : List Int), (xs.foldl (fun l x => x.segs.foldl setMax l) l).length = l.length
  | [], l => rfl
  | x :: xs, l => by rw [List.foldl_cons, items_len xs, segs_len]
theorem long_len (n : Nat) (xs : List Item) : (longI n xs).length = n := by unfold longI; rw [items_len, List.length_replicate]
theorem act_vi {y : Sys} (v : VS y) (s e : Int) : ∀ x ∈ actI y s e, VI y.buds.length x := fun x hx => by
  rcases List.mem_append.mp hx with h | h
  · exact (v.job x (List.mem_filter.mp h).1).1
  · exact (v.tsk x (List.mem_filter.mp h).1).1
theorem pn_of {bs : List Bud} {ps : List Int} (h1 : ps.length = bs.length) (h2 : B4 ps) : Pn bs ps := ⟨h1, fun k x hx => by
  have := h2 x (List.mem_of_getElem? hx); omega⟩
theorem pen_pn {y : Sys} (v : VS y) (s e : Int) : Pn y.buds (penI y s e) := pn_of (long_len _ _) (long_b4 (act_vi v s e))
def recI (y : Sys) (s e : Int) : Int := (wAll y.buds (penI y s e)).total
def toldI (y : Sys) (s e : Int) : PV := .t [.i (demI y s e), .i (recI y s e), .i (e - s - demI y s e - recI y s e), iT (wAll y.buds (penI y s e)).faults, iT (prI y.buds (penI y s e))]
theorem eq_analysis {y : Sys} (v : VS y) (s e : Int) (b : BS) : D_analysis [.p (encSy y), .p (.i s), .p (.i e)] b = some (.p (toldI y s e), b) := by
  refine mkFn_eq rfl ?_
  have hd := eq_demand v s e b
  have hp := eq_pens v s e b
  have hw := eq_worst v.vb (pen_pn v s e) b
  have hr := eq_prices v.vb (pen_pn v s e).len b
  have e0 : encSy y = .t [.s (Str.ofString "system"), encBs y.buds, .t (y.jobs.map encI), .t (y.tasks.map encI)] := rfl
  rw [e0] at hd hp ⊢
  simp [F_analysis, stS, hd, hp, hw, hr, toldI, recI]
end K15
/-! K15P12: is_row -/
set_option autoImplicit false
namespace K15
open PySem PySem.Spec PyProof.Rows L2 K15R
@[simp] theorem y_isi (x : PV) (n : String) : gIsi [.p x, .ty n] = if n = "int" then some (.p (.b x.isInt)) else if n = "bool" then some (.p (.b x.isBool)) else if n = "tuple" then some (.p (.b x.isTup)) else none := rfl
theorem s_ib : ("bool" = "int") = False := by simp
theorem s_ti : ("tuple" = "int") = False := by simp
theorem s_tb : ("tuple" = "bool") = False := by simp
structure Rw (n : Nat) (rs : List Int) : Prop where
  len : rs.length = n
  nn : ∀ x ∈ rs, 0 ≤ x
theorem eq_isrow {bs : List Bud} {rs : List Int} (h : Rw bs.length rs) (b : BS) : D_is_row [.p (iT rs), .p (encBs bs)] b = some (.p (.b true), b) := by
  refine mkFn_eq rfl ?_
  have hl := h.len
  refine (seq_nx (S' := stS 3 [.p (iT rs), .p (encBs bs)]) (b' := b) ?_).trans ?_
  · simp [stS, iT, encBs, PV.isTup, hl]
  · obtain ⟨S', h1, z, rfl⟩ := (for_all (tg := .one 2) (F := (fIf (fTOr (fTNot (fTest (fCB gIsi (fCons (fVar 2) (fCons (fC (.ty "int")) fNil))))) (fTOr (fTest (fCB gIsi (fCons (fVar 2) (fCons (fC (.ty "bool")) fNil)))) (fTest (fOp gLt (fVar 2) (fC (.p (.i 0)))))))
      (fRet (fC (.p (.b false))))
      fNext)) (fun S => ∃ z, S = [some (.p (iT rs)), some (.p (encBs bs)), z]) (fun _ => true) (.p (.b false)) PV.i rs (stS 3 [.p (iT rs), .p (encBs bs)]) b (by
      rintro x S hx ⟨z, rfl⟩
      have h0 := h.nn x hx
      have h0' : ¬ x < 0 := by omega
      exact ⟨[.i x], rfl, fun _ => ⟨[some (.p (iT rs)), some (.p (encBs bs)), some (.p (.i x))], Or.inl (by simp [PV.isInt, PV.isBool, h0, h0']), _, rfl⟩, fun hh => by cases hh⟩) ⟨none, rfl⟩).1 (by simp)
    exact (seq_nx (for_eq (b1 := b) (xs := rs.map PV.i) rfl h1)).trans rfl
end K15
/-! K15P13: is_held -/
set_option autoImplicit false
namespace K15
open PySem PySem.Spec PyProof.Rows L2 K15R
def bdI (bs : List Bud) (ps rs : List Int) : Int := if covI bs ps rs then bndI bs rs else -1
def hB (y : Sys) (s e : Int) (rs : List Int) : Bool := decide (0 ≤ bdI y.buds (penI y s e) rs) && decide (demI y s e + bdI y.buds (penI y s e) rs ≤ e - s)
def heldI (y : Sys) (s e : Int) (rows : List (List Int)) : Bool := rows.any (hB y s e)
def rowsP (rows : List (List Int)) : PV := .t (rows.map iT)
def F_hlB : Fs := (fSeq (fAsg 7 (fCall D_bound_of (fCons (fOp gIx (fVar 0) (fC (.p (.i 1)))) (fCons (fVar 5) (fCons (fVar 6) fNil)))))
    (fIf (fTAnd (fTest (fOp gGe (fVar 7) (fC (.p (.i 0))))) (fTest (fOp gLe (fOp gAdd (fVar 4) (fVar 7)) (fOp gSub_ (fVar 2) (fVar 1)))))
      (fRet (fC (.p (.b true))))
      fNext))
theorem eq_held {y : Sys} (v : VS y) (s e : Int) {rows : List (List Int)} (hr : ∀ r ∈ rows, Rw y.buds.length r) (b : BS) : D_is_held [.p (encSy y), .p (.i s), .p (.i e), .p (rowsP rows)] b = some (.p (.b (heldI y s e rows)), b) := by
  refine mkFn_eq rfl ?_
  have hd := eq_demand v s e b
  have hp := eq_pens v s e b
  refine (seq_nx (S' := [some (.p (encSy y)), some (.p (.i s)), some (.p (.i e)), some (.p (rowsP rows)), some (.p (.i (demI y s e))), none, none, none]) (b' := b) (by simp [stS, hd])).trans ?_
  refine (seq_nx (S' := [some (.p (encSy y)), some (.p (.i s)), some (.p (.i e)), some (.p (rowsP rows)), some (.p (.i (demI y s e))), some (.p (iT (penI y s e))), none, none]) (b' := b) (by simp [hp])).trans ?_
  have key := for_all (tg := .one 6) (F := F_hlB) (fun S => ∃ z6 z7, S = [some (.p (encSy y)), some (.p (.i s)), some (.p (.i e)), some (.p (rowsP rows)), some (.p (.i (demI y s e))), some (.p (iT (penI y s e))), z6, z7]) (fun r => !hB y s e r) (.p (.b true)) iT rows [some (.p (encSy y)), some (.p (.i s)), some (.p (.i e)), some (.p (rowsP rows)), some (.p (.i (demI y s e))), some (.p (iT (penI y s e))), none, none] b (by
    rintro r S hx ⟨z6, z7, rfl⟩
    have hb := eq_bound v.vb (ps := penI y s e) (rs := r) (pen_pn v s e).len (hr r hx).len b
    have e7 : fAsg 7 (fCall D_bound_of (fCons (fOp gIx (fVar 0) (fC (.p (.i 1)))) (fCons (fVar 5) (fCons (fVar 6) fNil)))) [some (.p (encSy y)), some (.p (.i s)), some (.p (.i e)), some (.p (rowsP rows)), some (.p (.i (demI y s e))), some (.p (iT (penI y s e))), some (.p (iT r)), z7] b = some (.nx [some (.p (encSy y)), some (.p (.i s)), some (.p (.i e)), some (.p (rowsP rows)), some (.p (.i (demI y s e))), some (.p (iT (penI y s e))), some (.p (iT r)), some (.p (.i (bdI y.buds (penI y s e) r)))], b) := by
      simp [encSy, hb, bdI]
    have tE : (fTAnd (fTest (fOp gGe (fVar 7) (fC (.p (.i 0))))) (fTest (fOp gLe (fOp gAdd (fVar 4) (fVar 7)) (fOp gSub_ (fVar 2) (fVar 1))))) [some (.p (encSy y)), some (.p (.i s)), some (.p (.i e)), some (.p (rowsP rows)), some (.p (.i (demI y s e))), some (.p (iT (penI y s e))), some (.p (iT r)), some (.p (.i (bdI y.buds (penI y s e) r)))] b = some (hB y s e r, b) := by
      unfold hB
      by_cases h0 : 0 ≤ bdI y.buds (penI y s e) r <;> simp [h0]
    have hall : ∀ c, hB y s e r = c → F_hlB [some (.p (encSy y)), some (.p (.i s)), some (.p (.i e)), some (.p (rowsP rows)), some (.p (.i (demI y s e))), some (.p (iT (penI y s e))), some (.p (iT r)), z7] b = if c then some (.rt (.p (.b true)), b) else some (.nx [some (.p (encSy y)), some (.p (.i s)), some (.p (.i e)), some (.p (rowsP rows)), some (.p (.i (demI y s e))), some (.p (iT (penI y s e))), some (.p (iT r)), some (.p (.i (bdI y.buds (penI y s e) r)))], b) := fun c hc => by
      refine (seq_nx e7).trans ?_
      rw [z_if, tE, bnd_mk, hc]
      cases c <;> rfl
    refine ⟨[iT r], rfl, fun ho => ?_, fun ho => ?_⟩
    · have : hB y s e r = false := by simpa using ho
      exact ⟨_, Or.inl (hall false this), _, _, rfl⟩
    · have : hB y s e r = true := by simpa using ho
      exact hall true this) ⟨none, none, rfl⟩
  have hne : (rows.all fun r => !hB y s e r) = !heldI y s e rows := by
    unfold heldI
    rw [List.not_any_eq_all_not]
  cases hh : heldI y s e rows with
  | true =>
    exact seq_rt (for_eq (b1 := b) (xs := rows.map iT) rfl (key.2 (by rw [hne, hh]; rfl)))
  | false =>
    obtain ⟨S', h1, z6, z7, rfl⟩ := key.1 (by rw [hne, hh]; rfl)
    exact (seq_nx (for_eq (b1 := b) (xs := rows.map iT) rfl h1)).trans rfl
end K15
/-! K15P14: latest_of, law_latest -/
set_option autoImplicit false
namespace K15
open PySem PySem.Spec PyProof.Rows L2 K15R
def latI (y : Sys) : Int := lmax (0 :: (y.jobs ++ y.tasks).map Item.r)
theorem eq_latest {y : Sys} (v : VS y) (b : BS) : D_latest_of [.p (encSy y)] b = some (.p (.i (latI y)), b) := by
  refine mkFn_eq rfl ?_
  have hjl := v.jl
  have htl := v.tl
  have hlen : y.jobs.length + y.tasks.length ≤ 100000 := by omega
  have hlen1 : 1 + (y.jobs.length + y.tasks.length) ≤ 100000 := by omega
  have l1 := lc_eq (vs := [1]) (tg := .one 1) (ft := fYes) (fi := fItT (fOp gCatA (fOp gIx (fVar 0) (fC (.p (.i 2)))) (fOp gIx (fVar 0) (fC (.p (.i 3)))))) (fe := fOp gIx (fVar 1) (fC (.p (.i 2)))) (S := stS 2 [.p (encSy y)]) (b := b) (b1 := b) (xs := (y.jobs ++ y.tasks).map encI) (by simp [stS, encSy, hlen]) (by simp; omega)
    (lc_all encI (fun x => PV.i x.r) b _ fun x _ => ⟨[encI x], rfl, by simp [stS, encI]⟩)
  have e1 : fOp gCat (fLst (fCons (fC (.p (.i 0))) fNil)) (fLc (fItT (fOp gCatA (fOp gIx (fVar 0) (fC (.p (.i 2)))) (fOp gIx (fVar 0) (fC (.p (.i 3)))))) (.one 1) fYes (fOp gIx (fVar 1) (fC (.p (.i 2)))) [1]) (stS 2 [.p (encSy y)]) b = some (.m ((0 :: (y.jobs ++ y.tasks).map Item.r).map PV.i), b) := by
    refine op_eq (x := .m [.i 0]) (b1 := b) (by simp) l1 ?_
    rw [List.map_cons, List.map_map]
    simp [hlen1]
    rfl
  exact ret_eq (cb1_eq e1 (by
    show onInts _ [_] = _
    rw [y_onInts, y_lm, Option.bind_some, intsP_map, Option.bind_some]
    rfl))
end K15
/-! K15P15: range with a step upwards -/
set_option autoImplicit false
namespace K15
open PySem PySem.Spec PyProof.Rows L2 K15R
theorem cRg_up {a b c : Int} (ha : -(2 ^ 40) ≤ a) (ha' : a < 2 ^ 40) (hb : -(2 ^ 40) ≤ b) (hb' : b < 2 ^ 40) (hc : 0 < c) (hc' : c < 100000) : cRg a b c = true := by
  have hq : ∀ x : Int, 0 ≤ x → 0 ≤ x / c ∧ x / c ≤ x := fun x hx => ⟨Int.ediv_nonneg hx (by omega), Int.ediv_le_self _ hx⟩
  unfold cRg
  rw [decide_eq_true (show c ≠ 0 ∧ c.natAbs < 1073741824 by omega), Bool.true_and]
  unfold Builtin.Range.small Builtin.Range.rangeSize
  by_cases h : a < b
  · have h1 := hq (b - a - 1) (by omega)
    simp only [Builtin.Range.rangeFitsLong, Bool.and_eq_true, Bool.or_eq_true, decide_eq_true_eq, beq_iff_eq, show c > 0 from hc, if_true, h]
    omega
  · simp only [Builtin.Range.rangeFitsLong, Bool.and_eq_true, Bool.or_eq_true, decide_eq_true_eq, beq_iff_eq, show c > 0 from hc, if_true, h, if_false]
    omega
end K15
/-! K15P16: ends_of -/
set_option autoImplicit false
namespace K15
open PySem PySem.Spec PyProof.Rows L2 K15R
def loI (x : Item) (s : Int) : Int := (if x.r > s then x.r else s) + x.d
def tEnds (x : Item) (s m : Int) : List Int := (List.range (Builtin.Range.rangeSize (loI x s) (m + 1) x.a).toNat).map fun j => loI x s + (j : Nat) * x.a
def endsR (y : Sys) (s m : Int) : List Int := y.tasks.foldl (fun l x => l ++ tEnds x s m) ((y.jobs.filter (inJ s m)).map Item.a)
def endsI (y : Sys) (s m : Int) : List Int := usort (endsR y s m)
theorem app_all {z0 z1 z2 z4 z6 : Option SV} (b : BS) : ∀ (es : List Int) (l : List Int) (z5 : Option SV), l.length + es.length < 100000 → ∃ z5', forLoop (.one 5) (fApp 3 (fVar 5)) (es.map PV.i) [z0, z1, z2, some (.m (l.map PV.i)), z4, z5, z6] b = some (.nx [z0, z1, z2, some (.m ((l ++ es).map PV.i)), z4, z5', z6], b)
  | [], l, z5, h => ⟨z5, by rw [List.append_nil]; rfl⟩
  | e :: es, l, z5, h => by
    simp only [List.length_cons] at h
    obtain ⟨z5', h1⟩ := app_all b es (l ++ [e]) (some (.p (.i e))) (by simp; omega)
    refine ⟨z5', ?_⟩
    have hl : l.length < 100000 := by omega
    rw [List.map_cons, forLoop_cons (ps := [.i e]) (o := .nx [z0, z1, z2, some (.m ((l ++ [e]).map PV.i)), z4, some (.p (.i e)), z6]) (b' := b) rfl (by simp [hl])]
    show forLoop _ _ _ _ _ = _
    rw [h1, List.append_assoc]; rfl
theorem ends_mono (s m : Int) : ∀ (xs : List Item) (l : List Int), l.length ≤ (xs.foldl (fun l x => l ++ tEnds x s m) l).length
  | [], l => Nat.le_refl _
  | x :: xs, l => by
    have h := ends_mono s m xs (l ++ tEnds x s m)
    rw [List.foldl_cons]
    simp only [List.length_append] at h
    omega
def F_enB : Fs := (fFor (fRng3 (fCons (fOp gAdd (fCB gMax2 (fCons (fVar 1) (fCons (fOp gIx (fVar 4) (fC (.p (.i 2)))) fNil))) (fOp gIx (fVar 4) (fC (.p (.i 4))))) (fCons (fOp gAdd (fVar 2) (fC (.p (.i 1)))) (fCons (fOp gIx (fVar 4) (fC (.p (.i 3)))) fNil)))) (.one 5)
      (fApp 3 (fVar 5)))
/-- numbers that a range takes -/
structure EB (x : Item) (s m : Int) : Prop where
  lo : -(2 ^ 40) ≤ loI x s ∧ loI x s < 2 ^ 40
  hi : -(2 ^ 40) ≤ m + 1 ∧ m + 1 < 2 ^ 40
  gap : 0 < x.a ∧ x.a < 100000
theorem en_body {x : Item} {s m : Int} (h : EB x s m) {l : List Int} (hl : l.length + (tEnds x s m).length < 100000) (z0 z5 z6 : Option SV) (b : BS) : ∃ z5', F_enB [z0, some (.p (.i s)), some (.p (.i m)), some (.m (l.map PV.i)), some (.p (encI x)), z5, z6] b =
    some (.nx [z0, some (.p (.i s)), some (.p (.i m)), some (.m ((l ++ tEnds x s m).map PV.i)), some (.p (encI x)), z5', z6], b) := by
  obtain ⟨z5', h1⟩ := app_all (z0 := z0) (z1 := some (.p (.i s))) (z2 := some (.p (.i m))) (z4 := some (.p (encI x))) (z6 := z6) b (tEnds x s m) l z5 hl
  have hc := cRg_up h.lo.1 h.lo.2 h.hi.1 h.hi.2 h.gap.1 h.gap.2
  have er : rngC (loI x s) x.a (Builtin.Range.rangeSize (loI x s) (m + 1) x.a).toNat = (tEnds x s m).map PV.i := by
    unfold rngC tEnds
    rw [List.map_map]; rfl
  refine ⟨z5', for_eq (b1 := b) ?_ h1⟩
  rw [← er]
  unfold loI at hc
  simp [encI, loI, hc]
theorem en_all {s m : Int} {z0 z6 : Option SV} (b : BS) : ∀ (xs : List Item) (l : List Int) (z4 z5 : Option SV), (∀ x ∈ xs, EB x s m) → (xs.foldl (fun l x => l ++ tEnds x s m) l).length < 64 →
    ∃ z4' z5', forLoop (.one 4) F_enB (xs.map encI) [z0, some (.p (.i s)), some (.p (.i m)), some (.m (l.map PV.i)), z4, z5, z6] b = some (.nx [z0, some (.p (.i s)), some (.p (.i m)), some (.m ((xs.foldl (fun l x => l ++ tEnds x s m) l).map PV.i)), z4', z5', z6], b)
  | [], l, z4, z5, _, _ => ⟨z4, z5, rfl⟩
  | x :: xs, l, z4, z5, hx, hl => by
    have h2 := ends_mono s m xs (l ++ tEnds x s m)
    rw [List.foldl_cons] at hl
    simp only [List.length_append] at h2
    obtain ⟨z5', h1⟩ := en_body (hx x List.mem_cons_self) (l := l) (by omega) z0 z5 z6 b
    obtain ⟨z4'', z5'', h3⟩ := en_all b xs (l ++ tEnds x s m) (some (.p (encI x))) z5' (fun y hy => hx y (List.mem_cons_of_mem _ hy)) hl
    refine ⟨z4'', z5'', ?_⟩
    rw [List.map_cons, forLoop_cons (ps := [encI x]) rfl h1, List.foldl_cons]
    exact h3
theorem eq_ends {y : Sys} (v : VS y) {s m : Int} (hb : ∀ x ∈ y.tasks, EB x s m) (hl : (endsR y s m).length < 64) (b : BS) : D_ends_of [.p (encSy y), .p (.i s), .p (.i m)] b = some (.m ((endsI y s m).map PV.i), b) := by
  refine mkFn_eq rfl ?_
  have hjl := v.jl
  have l1 := lc_eq (vs := [6]) (tg := .one 6) (ft := (fTAnd (fTest (fOp gGe (fOp gIx (fVar 6) (fC (.p (.i 2)))) (fVar 1))) (fTest (fOp gLe (fOp gIx (fVar 6) (fC (.p (.i 3)))) (fVar 2))))) (fi := fItT (fOp gIx (fVar 0) (fC (.p (.i 2))))) (fe := fOp gIx (fVar 6) (fC (.p (.i 3)))) (S := stS 7 [.p (encSy y), .p (.i s), .p (.i m)]) (b := b) (b1 := b) (xs := y.jobs.map encI) (by simp [stS, encSy]) (by simp; omega)
    (lc_map encI (inJ s m) (fun x => PV.i x.a) b y.jobs fun x _ => ⟨[encI x], rfl, by
      by_cases h : s ≤ x.r <;> simp [stS, encI, inJ, h], fun _ => by simp [stS, encI]⟩)
  refine (seq_nx (S' := [some (.p (encSy y)), some (.p (.i s)), some (.p (.i m)), some (.m (((y.jobs.filter (inJ s m)).map Item.a).map PV.i)), none, none, none]) (b' := b) ((asg_m l1).trans (by rw [List.map_map]; rfl))).trans ?_
  obtain ⟨z4, z5, h1⟩ := en_all (z0 := some (.p (encSy y))) (z6 := none) b y.tasks ((y.jobs.filter (inJ s m)).map Item.a) none none hb hl
  refine (seq_nx (for_eq (b1 := b) (xs := y.tasks.map encI) (by simp [encSy]) h1)).trans ?_
  refine ret_eq ?_
  rw [z_sset]
  show bnd (some (SV.l ((endsR y s m).map PV.i), b)) _ = _
  rw [bnd_mk, y_ll, Option.bind_some, intsP_map]
  show (if (endsR y s m).length < 64 then _ else _) = _
  rw [if_pos hl]
  rfl
end K15
/-! K15P17: divisor -/
set_option autoImplicit false
namespace K15
open PySem PySem.Spec PyProof.Rows L2 K15R
theorem wh_div (bb : BS) : ∀ (f n : Nat) (a b : Int), 0 ≤ a → 0 ≤ b → b < f → f ≤ n → b < 1000000 →
    ∃ z, whLoop (fTest (fOp gGt (fVar 1) (fC (.p (.i 0))))) (fPar 0 1 (fCons (fVar 1) (fCons (fOp gSub_ (fVar 0) (fOp gMul (fOp gDiv (fVar 0) (fVar 1)) (fVar 1))) fNil))) n [some (.p (.i a)), some (.p (.i b))] bb = some (.nx [some (.p (.i (Int.gcd a b : Int))), z], bb) := by
  intro f
  induction f with
  | zero => intro n a b _ h1 h2 _ _; omega
  | succ f ih =>
    intro n a b ha hb hf hn hl
    obtain ⟨n, rfl⟩ : ∃ m, n = m + 1 := ⟨n - 1, by omega⟩
    by_cases h0 : 0 < b
    · have hr := Int.emod_nonneg a (show b ≠ 0 by omega)
      have hr2 := Int.emod_lt_of_pos a h0
      obtain ⟨z, hz⟩ := ih n b (a % b) hb hr (by omega) (by omega) (by omega)
      refine ⟨z, (wh_step (b1 := bb) (b2 := bb) (S' := [some (.p (.i b)), some (.p (.i (a % b)))]) ?_ ?_).trans (hz.trans ?_)⟩
      · simp [h0]
      · have hd : cDiv a b = true := by unfold cDiv; exact decide_eq_true ⟨h0, by omega⟩
        have hm : cMul (a / b) b = true := cMul_r (by omega) (by omega)
        have e : a - a / b * b = a % b := by rw [Int.emod_def, Int.mul_comm]
        simp [hd, hm, e]
      · have e : (Int.gcd b (a % b) : Int) = Int.gcd a b := by
          obtain ⟨x, rfl⟩ := Int.eq_ofNat_of_zero_le ha
          obtain ⟨y, rfl⟩ := Int.eq_ofNat_of_zero_le hb
          rw [← Int.natCast_emod]
          show ((Nat.gcd y (x % y) : Nat) : Int) = (Nat.gcd x y : Nat)
          rw [Nat.gcd_comm y, ← Nat.gcd_rec, Nat.gcd_comm]
        rw [e]
    · have hb0 : b = 0 := by omega
      subst hb0
      refine ⟨some (.p (.i 0)), (wh_stop (b1 := bb) (by simp)).trans ?_⟩
      have : (Int.gcd a 0 : Int) = a := by rw [Int.gcd_zero_right]; omega
      rw [this]
end K15
/-! K15P18: rate_of, horizon_of -/
set_option autoImplicit false
namespace K15
open PySem PySem.Spec PyProof.Rows L2 K15R
/-- jobs and tasks as the law draws them, their numbers -/
structure VJ (x : Item) : Prop where
  r : 0 ≤ x.r ∧ x.r ≤ 7
  a : x.r + 2 ≤ x.a ∧ x.a ≤ x.r + 35
  d : 0 ≤ x.d ∧ x.d ≤ lensI x
structure VT (x : Item) : Prop where
  r : 0 ≤ x.r ∧ x.r ≤ 7
  a : 3 * lensI x + 1 ≤ x.a ∧ x.a ≤ 60
  d : 4 ≤ x.d ∧ x.d ≤ 33
  w : 1 ≤ lensI x
structure VN (y : Sys) : Prop where
  vs : VS y
  vj : ∀ x ∈ y.jobs, VJ x
  vt : ∀ x ∈ y.tasks, VT x
theorem eq_div {a b : Int} (ha : 0 ≤ a) (hb : 0 ≤ b) (hl : b < 1000000) (bb : BS) (hl2 : b < 90000) : D_divisor [.p (.i a), .p (.i b)] bb = some (.p (.i (Int.gcd a b : Int)), bb) := by
  refine mkFn_eq rfl ?_
  obtain ⟨z, hz⟩ := wh_div bb 90000 100000 a b ha hb (by omega) (by omega) hl
  exact (seq_nx hz).trans rfl
def topI (y : Sys) : Int := (y.tasks.foldl (fun (st : Int × Int) x => (st.1 * x.a + workI x * st.2, st.2 * x.a)) (0, 1)).1
def botI (y : Sys) : Int := (y.tasks.foldl (fun (st : Int × Int) x => (st.1 * x.a + workI x * st.2, st.2 * x.a)) (0, 1)).2
end K15
/-! K15P19: evaluation as a predicate -/
set_option autoImplicit false
namespace K15
open PySem PySem.Spec PyProof.Rows L2 K15R
def Ok {α : Type} (x : Option (α × BS)) (Q : α → BS → Prop) : Prop := ∃ a b, x = some (a, b) ∧ Q a b
@[simp] theorem ok_some {α : Type} {a : α} {b : BS} {Q : α → BS → Prop} : Ok (some (a, b)) Q ↔ Q a b := ⟨fun ⟨_, _, e, h⟩ => by cases e; exact h, fun h => ⟨a, b, rfl, h⟩⟩
@[simp] theorem ok_none {α : Type} {Q : α → BS → Prop} : ¬ Ok none Q := fun ⟨_, _, e, _⟩ => by cases e
theorem ok_bnd {α β : Type} {x : Option (α × BS)} {f : α → BS → Option (β × BS)} {Q : β → BS → Prop} : Ok (bnd x f) Q ↔ Ok x fun a b => Ok (f a b) Q := by
  constructor
  · rintro ⟨a, b, e, h⟩
    obtain ⟨a1, b1, e1, e2⟩ := bnd_some e
    exact ⟨a1, b1, e1, a, b, e2, h⟩
  · rintro ⟨a, b, e, a1, b1, e1, h⟩
    exact ⟨a1, b1, by rw [e]; exact e1, h⟩
theorem Ok.mono {α : Type} {x : Option (α × BS)} {Q Q' : α → BS → Prop} (h : Ok x Q) (hq : ∀ a b, Q a b → Q' a b) : Ok x Q' := by
  obtain ⟨a, b, e, h⟩ := h
  exact ⟨a, b, e, hq a b h⟩
theorem Ok.of {α : Type} {x : Option (α × BS)} {a : α} {b : BS} {Q : α → BS → Prop} (e : x = some (a, b)) (h : Q a b) : Ok x Q := ⟨a, b, e, h⟩
theorem Ok.eq {α : Type} {x : Option (α × BS)} {a : α} {b : BS} (h : Ok x fun a' b' => a' = a ∧ b' = b) : x = some (a, b) := by
  obtain ⟨_, _, e, rfl, rfl⟩ := h
  exact e
def Post (N C : Sl → BS → Prop) (R : SV → BS → Prop) : Out → BS → Prop
  | .nx S, b => N S b
  | .ct S, b => C S b
  | .rt r, b => R r b
abbrev Wp (x : Option (Out × BS)) (N C : Sl → BS → Prop) (R : SV → BS → Prop) : Prop := Ok x (Post N C R)
section
variable {N C : Sl → BS → Prop} {R : SV → BS → Prop}
@[simp] theorem post_nx {S : Sl} {b : BS} : Post N C R (.nx S) b ↔ N S b := Iff.rfl
@[simp] theorem post_ct {S : Sl} {b : BS} : Post N C R (.ct S) b ↔ C S b := Iff.rfl
@[simp] theorem post_rt {r : SV} {b : BS} : Post N C R (.rt r) b ↔ R r b := Iff.rfl
theorem Wp.mono {x : Option (Out × BS)} {N' C' : Sl → BS → Prop} {R' : SV → BS → Prop} (h : Wp x N C R) (hn : ∀ S b, N S b → N' S b) (hc : ∀ S b, C S b → C' S b) (hr : ∀ r b, R r b → R' r b) : Wp x N' C' R' :=
  Ok.mono h fun o b => by
    cases o with
    | nx S => exact hn S b
    | ct S => exact hc S b
    | rt r => exact hr r b
theorem wp_seq {F1 F2 : Fs} {S : Sl} {b : BS} (h : Wp (F1 S b) (fun S' b' => Wp (F2 S' b') N C R) C R) : Wp (fSeq F1 F2 S b) N C R := by
  obtain ⟨o, b', e, h⟩ := h
  show Ok (bnd (F1 S b) _) _
  rw [e]
  cases o with
  | nx S' => exact h
  | ct S' => exact ⟨_, _, rfl, h⟩
  | rt r => exact ⟨_, _, rfl, h⟩
theorem wp_if {ft : Ft} {F1 F2 : Fs} {S : Sl} {b b1 : BS} {c : Bool} (e : ft S b = some (c, b1)) (h1 : c = true → Wp (F1 S b1) N C R) (h2 : c = false → Wp (F2 S b1) N C R) : Wp (fIf ft F1 F2 S b) N C R := by
  show Ok (bnd (ft S b) _) _
  rw [e]
  cases c with
  | true => exact h1 rfl
  | false => exact h2 rfl
theorem wp_ifO {ft : Ft} {F1 F2 : Fs} {S : Sl} {b : BS} (e : Ok (ft S b) fun c b1 => (c = true → Wp (F1 S b1) N C R) ∧ (c = false → Wp (F2 S b1) N C R)) : Wp (fIf ft F1 F2 S b) N C R := by
  obtain ⟨c, b1, e, h1, h2⟩ := e
  exact wp_if e h1 h2
theorem wp_next {S : Sl} {b : BS} (h : N S b) : Wp (fNext S b) N C R := ⟨_, _, rfl, h⟩
theorem wp_ret {fe : Fe} {S : Sl} {b : BS} (h : Ok (fe S b) R) : Wp (fRet fe S b) N C R := by
  obtain ⟨r, b', e, h⟩ := h
  exact ⟨_, _, ret_eq e, h⟩
theorem wp_retV {i : Nat} {S : Sl} {b : BS} {x : SV} (e : S[i]? = some (some x)) (h : R x b) : Wp (fRetV i S b) N C R := by
  refine ⟨.rt x, b, ?_, h⟩
  rw [z_retV, e]
theorem wp_asgp {i : Nat} {fe : Fe} {S : Sl} {b : BS} (h : Ok (fe S b) fun r b' => ∃ x, r = .p x ∧ N (S.set i (some (.p x))) b') : Wp (fAsg i fe S b) N C R := by
  obtain ⟨r, b', e, x, rfl, h⟩ := h
  exact ⟨_, _, asg_p e, h⟩
theorem wp_asgm {i : Nat} {fe : Fe} {S : Sl} {b : BS} (h : Ok (fe S b) fun r b' => ∃ x, r = .m x ∧ N (S.set i (some (.m x))) b') : Wp (fAsg i fe S b) N C R := by
  obtain ⟨r, b', e, x, rfl, h⟩ := h
  exact ⟨_, _, asg_m e, h⟩
/-- a loop by an invariant over what is done -/
theorem wp_loop {β : Type} {tg : Tg} {F : Fs} (enc : β → PV) (I : List β → Sl → BS → Prop) (ys : List β) {S : Sl} {b : BS}
    (hs : ∀ (d : List β) (y : β) (e : List β) (S : Sl) (b : BS), ys = d ++ y :: e → I d S b → ∃ ps, tg.parts (enc y) = some ps ∧ Wp (F (setS S tg.slots (ps.map SV.p)) b) (I (d ++ [y])) (I (d ++ [y])) R)
    (h0 : I [] S b) (hN : ∀ S b, I ys S b → N S b) : Wp (forLoop tg F (ys.map enc) S b) N C R := by
  have gen : ∀ (e d : List β) (S : Sl) (b : BS), ys = d ++ e → I d S b → Wp (forLoop tg F (e.map enc) S b) N C R := by
    intro e
    induction e with
    | nil =>
      intro d S b hd hI
      rw [List.append_nil] at hd
      subst hd
      exact ⟨_, _, rfl, hN S b hI⟩
    | cons y e ih =>
      intro d S b hd hI
      obtain ⟨ps, h1, o, b', h2, h3⟩ := hs d y e S b hd hI
      rw [List.map_cons, forLoop_cons h1 h2]
      cases o with
      | nx S' => exact ih (d ++ [y]) S' b' (by rw [hd]; simp) h3
      | ct S' => exact ih (d ++ [y]) S' b' (by rw [hd]; simp) h3
      | rt r => exact ⟨_, _, rfl, h3⟩
  exact gen ys [] S b rfl h0
theorem wp_for {β : Type} {fi : Fi} {tg : Tg} {F : Fs} (enc : β → PV) (I : List β → Sl → BS → Prop) (ys : List β) {S : Sl} {b b1 : BS} (e : fi S b = some (ys.map enc, b1))
    (h0 : I [] S b1)
    (hs : ∀ (d : List β) (y : β) (e : List β) (S : Sl) (b : BS), ys = d ++ y :: e → I d S b → ∃ ps, tg.parts (enc y) = some ps ∧ Wp (F (setS S tg.slots (ps.map SV.p)) b) (I (d ++ [y])) (I (d ++ [y])) R)
    (hN : ∀ S b, I ys S b → N S b) : Wp (fFor fi tg F S b) N C R := by
  show Ok (bnd (fi S b) _) _
  rw [e]
  exact wp_loop enc I ys hs h0 hN
end
theorem ok_fn {np nn : Nat} {F : Fs} {as : List SV} {b : BS} {Q : SV → BS → Prop} (hl : as.length = np) (h : Wp (F (stS nn as) b) (fun _ _ => False) (fun _ _ => False) Q) : Ok (mkFn np nn F as b) Q := by
  obtain ⟨o, b', e, h⟩ := h
  cases o with
  | nx S => exact h.elim
  | ct S => exact h.elim
  | rt r => exact ⟨r, b', mkFn_eq hl e, h⟩
theorem ok_lc {β : Type} {fi : Fi} {tg : Tg} {ft : Ft} {fe : Fe} {vs : List Nat} {S : Sl} {b b1 b2 : BS} {Q : SV → BS → Prop} (enc : β → PV) (ys : List β) {rs : List PV} (h : fi S b = some (ys.map enc, b1)) (hl : ys.length ≤ 50000) (h2 : lcLoop tg ft fe (wpS S vs) (ys.map enc) b1 = some (rs, b2)) (hQ : Q (.m rs) b2) : Ok (fLc fi tg ft fe vs S b) Q :=
  ⟨_, _, lc_eq h (by rw [List.length_map]; exact hl) h2, hQ⟩
end K15
/-! K15P20: rate_of, horizon_of -/
set_option autoImplicit false
namespace K15
open PySem PySem.Spec PyProof.Rows L2 K15R
theorem workT {x : Item} (h : x.job = false) : workI x = lensI x := by unfold workI; rw [h]; rfl
theorem lin2 {w1 a1 w2 a2 : Int} (h1 : 3 * w1 + 1 ≤ a1) (h2 : 3 * w2 + 1 ≤ a2) (p1 : 1 ≤ w1) (p2 : 1 ≤ w2) (u1 : a1 ≤ 60) (u2 : a2 ≤ 60) : 0 ≤ w1 * a2 + w2 * a1 ∧ w1 * a2 + w2 * a1 < a1 * a2 ∧ a1 * a2 ≤ 3600 := by
  have e1 : 0 ≤ w1 * a2 := Int.mul_nonneg (by omega) (by omega)
  have e2 : 0 ≤ w2 * a1 := Int.mul_nonneg (by omega) (by omega)
  have e3 : (3 * w1) * a2 ≤ a1 * a2 := Int.mul_le_mul_of_nonneg_right (by omega) (by omega)
  have e4 : (3 * w2) * a1 ≤ a2 * a1 := Int.mul_le_mul_of_nonneg_right (by omega) (by omega)
  have e5 : a1 * a2 ≤ 60 * 60 := Int.mul_le_mul u1 u2 (by omega) (by omega)
  have e6 : 0 < a1 * a2 := Int.mul_pos (by omega) (by omega)
  rw [Int.mul_assoc] at e3 e4
  rw [Int.mul_comm a2 a1] at e4
  omega
theorem tk_cases {y : Sys} (v : VN y) : (y.tasks = [] ∧ topI y = 0 ∧ botI y = 1) ∨ (∃ x, y.tasks = [x] ∧ topI y = workI x ∧ botI y = x.a) ∨ (∃ x z, y.tasks = [x, z] ∧ topI y = workI x * z.a + workI z * x.a ∧ botI y = x.a * z.a) := by
  have hl := v.vs.tl
  unfold topI botI
  match ht : y.tasks, hl with
  | [], _ => exact Or.inl ⟨rfl, rfl, rfl⟩
  | [x], _ => exact Or.inr (Or.inl ⟨x, rfl, by simp, by simp⟩)
  | [x, z], _ => exact Or.inr (Or.inr ⟨x, z, rfl, by simp, by simp⟩)
  | _ :: _ :: _ :: _, hl => simp at hl
theorem rate_bd {y : Sys} (v : VN y) : 0 ≤ topI y ∧ topI y < botI y ∧ botI y ≤ 3600 := by
  have hw : ∀ x ∈ y.tasks, workI x = lensI x := fun x hx => workT (v.vs.tsk x hx).2
  rcases tk_cases v with ⟨ht, h1, h2⟩ | ⟨x, ht, h1, h2⟩ | ⟨x, z, ht, h1, h2⟩
  · rw [h1, h2]; omega
  · have hx := v.vt x (by rw [ht]; simp)
    rw [h1, h2, hw x (by rw [ht]; simp)]
    have := hx.a; have := hx.w
    omega
  · have hx := v.vt x (by rw [ht]; simp)
    have hz := v.vt z (by rw [ht]; simp)
    rw [h1, h2, hw x (by rw [ht]; simp), hw z (by rw [ht]; simp)]
    exact lin2 hx.a.1 hz.a.1 hx.w hz.w hx.a.2 hz.a.2
def gcdI (y : Sys) : Int := (Int.gcd (topI y) (botI y) : Int)
theorem gcd_bd {y : Sys} (v : VN y) : 0 < gcdI y ∧ gcdI y ≤ 3600 ∧ topI y = gcdI y * (topI y / gcdI y) ∧ botI y = gcdI y * (botI y / gcdI y) ∧ 0 ≤ topI y / gcdI y ∧ topI y / gcdI y < botI y / gcdI y ∧ botI y / gcdI y ≤ 3600 := by
  have h := rate_bd v
  have d1 : gcdI y ∣ topI y := Int.gcd_dvd_left ..
  have d2 : gcdI y ∣ botI y := Int.gcd_dvd_right ..
  have p : 0 < gcdI y := by
    unfold gcdI
    have : 0 < Int.gcd (topI y) (botI y) := Int.gcd_pos_of_ne_zero_right _ (by omega)
    omega
  have le : gcdI y ≤ botI y := Int.le_of_dvd (by omega) d2
  have e1 := (Int.mul_ediv_cancel' d1).symm
  have e2 := (Int.mul_ediv_cancel' d2).symm
  refine ⟨p, by omega, e1, e2, Int.ediv_nonneg h.1 (by omega), ?_, ?_⟩
  · refine Int.lt_of_mul_lt_mul_left (a := gcdI y) ?_ (by omega)
    rw [← e1, ← e2]; exact h.2.1
  · have := Int.ediv_le_self (gcdI y) (show 0 ≤ botI y by omega)
    omega
def F_rtB : Fs := (fSeq (fAsg 1 (fOp gAdd (fOp gMul (fVar 1) (fOp gIx (fVar 3) (fC (.p (.i 3))))) (fOp gMul (fCall D_work_of (fCons (fVar 3) fNil)) (fVar 2))))
    (fAsg 2 (fOp gMul (fVar 2) (fOp gIx (fVar 3) (fC (.p (.i 3)))))))
theorem eq_rate {y : Sys} (v : VN y) (b : BS) : D_rate_of [.p (encSy y)] b = some (.p (.t [.i (topI y / gcdI y), .i (botI y / gcdI y)]), b) := by
  refine mkFn_eq rfl ?_
  refine (seq_nx (S' := [some (.p (encSy y)), some (.p (.i 0)), none, none, none]) (b' := b) rfl).trans ?_
  refine (seq_nx (S' := [some (.p (encSy y)), some (.p (.i 0)), some (.p (.i 1)), none, none]) (b' := b) rfl).trans ?_
  let Iv : Int × Int → Sl → BS → Prop := fun st S b' => b' = b ∧ ∃ z3, S = [some (.p (encSy y)), some (.p (.i st.1)), some (.p (.i st.2)), z3, none]
  have step : ∀ (st : Int × Int) (x : Item) (S : Sl) (b' : BS), x ∈ y.tasks → Iv st S b' → ∃ qs S' b'', (Tg.one 3).parts (encI x) = some qs ∧ (F_rtB (setS S (Tg.one 3).slots (qs.map SV.p)) b' = some (.nx S', b'') ∨ F_rtB (setS S (Tg.one 3).slots (qs.map SV.p)) b' = some (.ct S', b'')) ∧ Iv (st.1 * x.a + workI x * st.2, st.2 * x.a) S' b'' := by
    rintro ⟨p, q⟩ x S b' hx ⟨rfl, z3, rfl⟩
    have hv := v.vs.tsk x hx
    have ht := v.vt x hx
    have hlb := lens_bd hv.1
    have hw : workI x = lensI x := workT hv.2
    have hew := eq_work hv.1.segs b'
    have m1 : ∀ i, cMul i x.a = true := fun i => cMul_r (by have := ht.a; have := ht.w; omega) (by have := ht.a; omega)
    have m2 : ∀ i, cMul (workI x) i = true := fun i => cMul_l (by omega) (by omega)
    refine ⟨[encI x], [some (.p (encSy y)), some (.p (.i (p * x.a + workI x * q))), some (.p (.i (q * x.a))), some (.p (encI x)), none], b', rfl, Or.inl ?_, rfl, _, rfl⟩
    have hix : ∀ (z0 z1 z2 z4 : Option SV), fOp gIx (fVar 3) (fC (.p (.i 3))) [z0, z1, z2, some (.p (encI x)), z4] b' = some (.p (.i x.a), b') := fun _ _ _ _ => by simp [encI]
    unfold F_rtB
    refine (seq_nx (S' := [some (.p (encSy y)), some (.p (.i (p * x.a + workI x * q))), some (.p (.i q)), some (.p (encI x)), none]) (b' := b') ?_).trans ?_
    · have e : encI x = .t [.s (kdS x.job), .s x.nm, .i x.r, .i x.a, .i x.d, .t (x.segs.map pv2)] := rfl
      rw [e] at hew ⊢
      simp [hew, m1, m2]
    · rw [show (encI x) = .t [.s (kdS x.job), .s x.nm, .i x.r, .i x.a, .i x.d, .t (x.segs.map pv2)] from rfl]
      simp [m1]
  obtain ⟨S', b', h1, rfl, z3, hS⟩ := for_fold (tg := .one 3) (F := F_rtB) Iv (fun st x => (st.1 * x.a + workI x * st.2, st.2 * x.a)) encI y.tasks (0, 1) [some (.p (encSy y)), some (.p (.i 0)), some (.p (.i 1)), none, none] b step ⟨rfl, none, rfl⟩
  refine (seq_nx (for_eq (b1 := b') (xs := y.tasks.map encI) (by simp [encSy]) h1)).trans ?_
  rw [hS]
  show fSeq _ _ [some (.p (encSy y)), some (.p (.i (topI y))), some (.p (.i (botI y))), z3, none] b' = _
  have hr := rate_bd v
  have hg := gcd_bd v
  have he := eq_div (a := topI y) (b := botI y) hr.1 (by omega) (by omega) b' (by omega)
  have hd : ∀ i, cDiv i (gcdI y) = true := fun i => by unfold cDiv; exact decide_eq_true ⟨hg.1, by omega⟩
  have he' : D_divisor [.p (.i (topI y)), .p (.i (botI y))] b' = some (.p (.i (gcdI y)), b') := he
  simp [he', hd]
def totI (y : Sys) : Int := ((y.jobs ++ y.tasks).map workI).sum + (wAll y.buds (longI y.buds.length (y.jobs ++ y.tasks))).total
def horI (y : Sys) : Int := -((-(totI y) * botI y) / (botI y - topI y))
theorem its_vi {y : Sys} (v : VS y) : ∀ x ∈ y.jobs ++ y.tasks, VI y.buds.length x := fun x hx => by
  rcases List.mem_append.mp hx with h | h
  · exact (v.job x h).1
  · exact (v.tsk x h).1
theorem hor_gcd {y : Sys} (v : VN y) : -((-(totI y) * (botI y / gcdI y)) / (botI y / gcdI y - topI y / gcdI y)) = horI y := by
  obtain ⟨p, _, e1, e2, _, hlt, _⟩ := gcd_bd v
  unfold horI
  congr 1
  generalize botI y / gcdI y = B at *
  generalize topI y / gcdI y = T at *
  rw [e1, e2]
  rw [show -(totI y) * (gcdI y * B) = gcdI y * (-(totI y) * B) from by rw [Int.mul_left_comm], ← Int.mul_sub, Int.mul_ediv_mul_of_pos _ _ p]
theorem eq_horizon {y : Sys} (v : VN y) (b : BS) : D_horizon_of [.p (encSy y)] b = some (.p (.i (horI y)), b) := by
  refine mkFn_eq rfl ?_
  have hr := eq_rate v b
  obtain ⟨hg1, hg2, _, _, hg5, hg6, hg7⟩ := gcd_bd v
  have hj := v.vs.jl
  have ht := v.vs.tl
  refine (seq_nx (S' := [some (.p (encSy y)), some (.p (.i (topI y / gcdI y))), some (.p (.i (botI y / gcdI y))), none, none, none]) (b' := b) (by simp [stS, hr])).trans ?_
  have hc : y.jobs.length + y.tasks.length ≤ 100000 := by omega
  refine (seq_nx (S' := [some (.p (encSy y)), some (.p (.i (topI y / gcdI y))), some (.p (.i (botI y / gcdI y))), some (.p (.t ((y.jobs ++ y.tasks).map encI))), none, none]) (b' := b) (by simp [encSy, hc])).trans ?_
  have hlg := eq_longT v.vs.vb (its_vi v.vs) b
  have hw := eq_worst v.vs.vb (pn_of (long_len y.buds.length (y.jobs ++ y.tasks)) (long_b4 (its_vi v.vs))) b
  have l1 := lc_eq (vs := [5]) (tg := .one 5) (ft := fYes) (fi := fItT (fVar 3)) (fe := fCall D_work_of (fCons (fVar 5) fNil)) (S := [some (.p (encSy y)), some (.p (.i (topI y / gcdI y))), some (.p (.i (botI y / gcdI y))), some (.p (.t ((y.jobs ++ y.tasks).map encI))), none, none]) (b := b) (b1 := b) (xs := (y.jobs ++ y.tasks).map encI) rfl (by simp; omega)
    (lc_all encI (fun x => PV.i (workI x)) b _ fun x hx => ⟨[encI x], rfl, by
      simp [eq_work (its_vi v.vs x hx).segs]⟩)
  refine (seq_nx (S' := [some (.p (encSy y)), some (.p (.i (topI y / gcdI y))), some (.p (.i (botI y / gcdI y))), some (.p (.t ((y.jobs ++ y.tasks).map encI))), some (.p (.i (totI y))), none]) (b' := b) ?_).trans ?_
  · refine (asg_p (x := .i (totI y)) (b' := b) ?_).trans rfl
    refine op_eq (cb1_eq l1 (z := .p (.i ((y.jobs ++ y.tasks).map workI).sum)) ?_) (y := .p (.i (wAll y.buds (longI y.buds.length (y.jobs ++ y.tasks))).total)) (b2 := b) ?_ ?_
    · simp only [y_onInts, y_lm, Option.bind_some, intsP_map']
    · refine op_eq (b1 := b) (x := .p (.t [.i (wAll y.buds (longI y.buds.length (y.jobs ++ y.tasks))).total, iT (wAll y.buds (longI y.buds.length (y.jobs ++ y.tasks))).faults])) (y := .p (.i 0)) (b2 := b) ?_ rfl rfl
      refine call2_eq (b1 := b) (b2 := b) (x := .p (encBs y.buds)) (y := .p (iT (longI y.buds.length (y.jobs ++ y.tasks)))) ?_ ?_ hw
      · simp [encSy]
      · refine call2_eq (b1 := b) (b2 := b) (x := .p (.t ((y.jobs ++ y.tasks).map encI))) (y := .p (encBs y.buds)) rfl ?_ hlg
        simp [encSy]
    · rfl
  · have m1 : ∀ i, cMul i (botI y / gcdI y) = true := fun i => cMul_r (by omega) (by omega)
    have d1 : ∀ i, cDiv i (botI y / gcdI y - topI y / gcdI y) = true := fun i => by unfold cDiv; exact decide_eq_true ⟨by omega, by omega⟩
    rw [← hor_gcd v]
    simp [m1, d1]
end K15
/-! K15M1: sums; the greedy assignment; weak duality -/
set_option autoImplicit false
namespace K15
open PySem PySem.Spec PyProof.Rows L2 K15R
def sumN : Nat → (Nat → Int) → Int
  | 0, _ => 0
  | n + 1, f => sumN n f + f n
theorem sumN_congr {f g : Nat → Int} : ∀ {n : Nat}, (∀ k, k < n → f k = g k) → sumN n f = sumN n g
  | 0, _ => rfl
  | n + 1, h => by
    show sumN n f + f n = sumN n g + g n
    rw [sumN_congr (n := n) fun k hk => h k (by omega), h n (by omega)]
theorem sumN_le {f g : Nat → Int} : ∀ {n : Nat}, (∀ k, k < n → f k ≤ g k) → sumN n f ≤ sumN n g
  | 0, _ => Int.le_refl _
  | n + 1, h => by
    show sumN n f + f n ≤ sumN n g + g n
    have := sumN_le (n := n) fun k hk => h k (by omega)
    have := h n (by omega)
    omega
theorem sumN_zero : ∀ n : Nat, sumN n (fun _ => 0) = 0
  | 0 => rfl
  | n + 1 => by show sumN n _ + 0 = 0; rw [sumN_zero n]; rfl
theorem sumN_nn {f : Nat → Int} {n : Nat} (h : ∀ k, k < n → 0 ≤ f k) : 0 ≤ sumN n f := by
  have := sumN_le (f := fun _ => 0) (g := f) h
  rw [sumN_zero] at this
  exact this
theorem sumN_add (f g : Nat → Int) : ∀ n : Nat, sumN n (fun k => f k + g k) = sumN n f + sumN n g
  | 0 => rfl
  | n + 1 => by
    show sumN n _ + (f n + g n) = sumN n f + f n + (sumN n g + g n)
    rw [sumN_add f g n]; omega
theorem sumN_mul (c : Int) (f : Nat → Int) : ∀ n : Nat, sumN n (fun k => c * f k) = c * sumN n f
  | 0 => by simp [sumN]
  | n + 1 => by
    show sumN n _ + c * f n = c * (sumN n f + f n)
    rw [sumN_mul c f n, Int.mul_add]
theorem sumN_swap (f : Nat → Nat → Int) : ∀ m n : Nat, sumN m (fun k => sumN n (f k)) = sumN n (fun j => sumN m (fun k => f k j))
  | 0, n => by show (0 : Int) = sumN n (fun _ => 0); rw [sumN_zero]
  | m + 1, n => by
    show sumN m _ + sumN n (f m) = sumN n (fun j => sumN m (fun k => f k j) + f m j)
    rw [sumN_swap f m n, sumN_add]
/-- one index -/
theorem sumN_one (a : Nat) (c : Int) : ∀ {n : Nat}, a < n → sumN n (fun k => if k = a then c else 0) = c
  | 0, h => by omega
  | n + 1, h => by
    show sumN n _ + (if n = a then c else 0) = c
    by_cases e : n = a
    · rw [if_pos e, sumN_congr (g := fun _ => 0) fun k hk => if_neg (by omega), sumN_zero]; omega
    · rw [if_neg e, sumN_one a c (n := n) (by omega)]; omega
theorem sumN_front (f : Nat → Int) : ∀ n : Nat, sumN (n + 1) f = f 0 + sumN n (fun k => f (k + 1))
  | 0 => by show (0 : Int) + f 0 = f 0 + 0; omega
  | n + 1 => by
    show sumN (n + 1) f + f (n + 1) = f 0 + (sumN n (fun k => f (k + 1)) + f (n + 1))
    rw [sumN_front f n]; omega
/-- a list without doubles -/
theorem sumN_list (g : Nat → Int) {n : Nat} : ∀ {l : List Nat}, l.Nodup → (∀ j ∈ l, j < n) → (l.map g).sum = sumN n (fun j => if j ∈ l then g j else 0)
  | [], _, _ => by simp [sumN_zero]
  | a :: l, hn, hl => by
    have hn' := List.nodup_cons.mp hn
    have ih := sumN_list g (n := n) hn'.2 (fun j hj => hl j (List.mem_cons_of_mem _ hj))
    rw [List.map_cons, List.sum_cons, ih]
    have : sumN n (fun j => if j ∈ a :: l then g j else 0) = sumN n (fun j => (if j = a then g a else 0) + (if j ∈ l then g j else 0)) := sumN_congr fun k _ => by
      by_cases e : k = a
      · subst e
        simp [hn'.1]
      · simp [e]
    rw [this, sumN_add, sumN_one a (g a) (hl a List.mem_cons_self)]
/-! ### lists of ints by index -/
theorem getI_set {l : List Int} {i : Nat} {x : Int} {j : Nat} (h : i < l.length) : getI (l.set i x) j = if j = i then x else getI l j := by
  unfold getI
  rw [List.getElem?_set]
  by_cases e : i = j
  · subst e
    simp [h]
  · rw [if_neg e, if_neg (fun z => e z.symm)]
theorem lmin_le : ∀ {ns : List Int} {x : Int}, x ∈ ns → lmin ns ≤ x
  | [n], x, h => by
    rw [List.mem_singleton.mp h]; exact Int.le_refl _
  | n :: k :: ks, x, h => by
    have e : lmin (n :: k :: ks) = if lmin (k :: ks) < n then lmin (k :: ks) else n := rfl
    rw [e]
    rcases List.mem_cons.mp h with rfl | h
    · split <;> omega
    · have := lmin_le h
      split <;> omega
theorem above_sorted {bs : List Bud} (vb : VB bs) : ∀ (f k : Nat), k < bs.length → (aboveN bs f k).Nodup
  | 0, k, _ => by simp [aboveN]
  | f + 1, k, hk => by
    unfold aboveN
    split
    · rename_i h0
      obtain ⟨x, hx⟩ : ∃ x, bs[k]? = some x := ⟨_, List.getElem?_eq_getElem hk⟩
      have hp := vb.par k x hx
      have e : parN bs k = x.par := by simp [parN, hx]
      refine List.nodup_cons.mpr ⟨fun h => ?_, above_sorted vb f _ (by omega)⟩
      have := above_lt vb f _ (by omega) _ h
      omega
    · simp
theorem path_nodup {bs : List Bud} (vb : VB bs) {k : Nat} (hk : k < bs.length) : (pathN bs k).Nodup :=
  List.nodup_cons.mpr ⟨fun h => by have := above_lt vb k k hk k h; omega, above_sorted vb k k hk⟩
theorem sub_get (c : Int) : ∀ {p : List Nat} {l : List Int}, p.Nodup → (∀ j ∈ p, j < l.length) → ∀ j, getI (subP c l p) j = getI l j - (if j ∈ p then c else 0)
  | [], l, _, _, j => by simp [subP]
  | a :: p, l, hn, hl, j => by
    have hn' := List.nodup_cons.mp hn
    show getI (subP c (l.set a (getI l a - c)) p) j = _
    rw [sub_get c hn'.2 (by simpa using fun j hj => hl j (List.mem_cons_of_mem _ hj)), getI_set (hl a List.mem_cons_self)]
    by_cases e : j = a
    · subst e
      simp [hn'.1]
    · simp [e]
theorem mnP_le {left : List Int} {p : List Nat} {j : Nat} (h : j ∈ p) : mnP left p ≤ getI left j := lmin_le (List.mem_map.mpr ⟨j, h, rfl⟩)
theorem mnP_nn {left : List Int} {p : List Nat} (hp : p ≠ []) (h : ∀ j ∈ p, 0 ≤ getI left j) : 0 ≤ mnP left p := by
  have hm : mnP left p ∈ p.map (getI left) := lmin_mem (by simpa using hp)
  obtain ⟨j, hj, e⟩ := List.mem_map.mp hm
  rw [← e]; exact h j hj
def onP (bs : List Bud) (k j : Nat) (c : Int) : Int := if j ∈ pathN bs k then c else 0
/-- the greedy state behind the sources that are done -/
structure WI (bs : List Bud) (ps : List Int) (w : WS) (d : List Nat) : Prop where
  ll : w.left.length = bs.length
  fl : w.faults.length = bs.length
  lnn : ∀ j, j < bs.length → 0 ≤ getI w.left j
  fnn : ∀ k, k < bs.length → 0 ≤ getI w.faults k
  use : ∀ j, j < bs.length → getI w.left j + sumN bs.length (fun k => onP bs k j (getI w.faults k)) = capN bs j
  zero : ∀ k, k ∉ d → getI w.faults k = 0
  pos : ∀ k, k < bs.length → getI ps k ≤ 0 → getI w.faults k = 0
  tot : w.total = sumN bs.length (fun k => getI ps k * getI w.faults k)
theorem getI_map {bs : List Bud} {j : Nat} : getI (bs.map Bud.cap) j = capN bs j := by
  unfold getI capN; rw [List.getElem?_map]
theorem getI_rep (n j : Nat) : getI (List.replicate n 0) j = 0 := by
  unfold getI
  rw [List.getElem?_replicate]
  split <;> rfl
theorem capN_bd {bs : List Bud} (vb : VB bs) (j : Nat) : 0 ≤ capN bs j ∧ capN bs j ≤ 3 := by
  unfold capN
  cases h : bs[j]? with
  | none => simp
  | some x => exact vb.cap j x h
theorem wi_start {bs : List Bud} (vb : VB bs) (ps : List Int) : WI bs ps (wStart bs) [] := by
  have hz : ∀ k, getI (wStart bs).faults k = 0 := getI_rep _
  refine ⟨by simp [wStart], by simp [wStart], fun j hj => ?_, fun k hk => by rw [hz]; omega, fun j hj => ?_, fun k _ => hz k, fun k _ _ => hz k, ?_⟩
  · show 0 ≤ getI (bs.map Bud.cap) j
    rw [getI_map]; exact (capN_bd vb j).1
  · show getI (bs.map Bud.cap) j + _ = _
    rw [getI_map, sumN_congr (g := fun _ => 0) (fun k _ => by rw [hz]; unfold onP; split <;> rfl), sumN_zero]; omega
  · show (0 : Int) = _
    rw [sumN_congr (g := fun _ => 0) (fun k _ => by rw [hz]; omega), sumN_zero]
theorem wi_step {bs : List Bud} (vb : VB bs) {ps : List Int} {w : WS} {d : List Nat} (h : WI bs ps w d) {s : Nat} (hs : s < bs.length) (hd : s ∉ d) : WI bs ps (wStep bs ps w s) (d ++ [s]) := by
  unfold wStep
  split
  · rename_i hp
    have hpl := path_lt vb hs
    have hpn := path_nodup vb hs
    have hpl' : ∀ j ∈ pathN bs s, j < w.left.length := fun j hj => by rw [h.ll]; exact hpl j hj
    have hc : 0 ≤ mnP w.left (pathN bs s) := mnP_nn (by unfold pathN; simp) fun j hj => h.lnn j (hpl j hj)
    have hsf : s < w.faults.length := by rw [h.fl]; exact hs
    have h0 := h.zero s hd
    have hle : ∀ j, j ∈ pathN bs s → mnP w.left (pathN bs s) ≤ getI w.left j := fun j hj => mnP_le hj
    generalize mnP w.left (pathN bs s) = c at *
    refine ⟨by rw [sub_len]; exact h.ll, by rw [List.length_set]; exact h.fl, fun j hj => ?_, fun k hk => ?_, fun j hj => ?_, fun k hk => ?_, fun k hk hp2 => ?_, ?_⟩
    · show 0 ≤ getI (subP c w.left (pathN bs s)) j
      rw [sub_get c hpn hpl']
      have := h.lnn j hj
      split
      · rename_i hm; have := hle j hm; omega
      · omega
    · show 0 ≤ getI (w.faults.set s c) k
      rw [getI_set hsf]
      split
      · exact hc
      · exact h.fnn k hk
    · show getI (subP c w.left (pathN bs s)) j + sumN _ (fun k => onP bs k j (getI (w.faults.set s c) k)) = _
      rw [sub_get c hpn hpl']
      have e : sumN bs.length (fun k => onP bs k j (getI (w.faults.set s c) k)) = sumN bs.length (fun k => onP bs k j (getI w.faults k) + (if k = s then (if j ∈ pathN bs s then c else 0) else 0)) := sumN_congr fun k hk => by
        rw [getI_set hsf]
        by_cases e : k = s
        · subst e
          rw [if_pos rfl, if_pos rfl, h0]
          unfold onP
          split <;> omega
        · rw [if_neg e, if_neg e]; omega
      rw [e, sumN_add, sumN_one s _ hs]
      have := h.use j hj
      omega
    · show getI (w.faults.set s c) k = 0
      rw [getI_set hsf]
      have hk' : k ∉ d ∧ k ≠ s := by simpa [not_or] using hk
      rw [if_neg hk'.2]
      exact h.zero k hk'.1
    · show getI (w.faults.set s c) k = 0
      rw [getI_set hsf]
      have hks : k ≠ s := fun e => by subst e; omega
      rw [if_neg hks]
      exact h.pos k hk hp2
    · show w.total + getI ps s * c = sumN _ (fun k => getI ps k * getI (w.faults.set s c) k)
      have e : sumN bs.length (fun k => getI ps k * getI (w.faults.set s c) k) = sumN bs.length (fun k => getI ps k * getI w.faults k + (if k = s then getI ps s * c else 0)) := sumN_congr fun k hk => by
        rw [getI_set hsf]
        by_cases e : k = s
        · subst e
          rw [if_pos rfl, if_pos rfl, h0]; omega
        · rw [if_neg e, if_neg e]; omega
      rw [e, sumN_add, sumN_one s _ hs, h.tot]
  · exact ⟨h.ll, h.fl, h.lnn, h.fnn, h.use, fun k hk => h.zero k (fun z => hk (List.mem_append_left _ z)), h.pos, h.tot⟩
theorem wi_all {bs : List Bud} (vb : VB bs) {ps : List Int} : ∀ (o d : List Nat) {w : WS}, WI bs ps w d → (d ++ o).Nodup → (∀ s ∈ o, s < bs.length) → WI bs ps (o.foldl (wStep bs ps) w) (d ++ o)
  | [], d, w, h, _, _ => by rw [List.append_nil]; exact h
  | s :: o, d, w, h, hn, hl => by
    have hn' := List.nodup_append.mp hn
    have hsd : s ∉ d := fun z => hn'.2.2 s z s List.mem_cons_self rfl
    have := wi_all vb o (d ++ [s]) (wi_step vb h (hl s List.mem_cons_self) hsd) (by rw [List.append_assoc]; exact hn) (fun k hk => hl k (List.mem_cons_of_mem _ hk))
    rw [List.append_assoc] at this
    exact this
theorem ordP_perm (ps : List Int) : (ordP ps).Perm (List.range ps.length) := by
  rw [← ordr_eq]
  exact List.mergeSort_perm _ _
theorem ordP_nodup (ps : List Int) : (ordP ps).Nodup := (ordP_perm ps).nodup_iff.mpr List.nodup_range
theorem wi_fin {bs : List Bud} (vb : VB bs) {ps : List Int} (hl : ps.length = bs.length) : WI bs ps (wAll bs ps) (ordP ps) := by
  have := wi_all vb (ordP ps) [] (wi_start vb ps) (by simpa using ordP_nodup ps) (fun s hs => by rw [← hl]; exact ordP_lt s hs)
  rw [List.nil_append] at this
  exact this
theorem pth_sum {bs : List Bud} (vb : VB bs) (rs : List Int) {k : Nat} (hk : k < bs.length) : pthS bs rs k = sumN bs.length (fun j => onP bs k j (getI rs j)) :=
  sumN_list (getI rs) (path_nodup vb hk) (path_lt vb hk)
theorem bnd_sum : ∀ (bs : List Bud) (rs : List Int), rs.length = bs.length → bndI bs rs = sumN bs.length (fun k => capN bs k * getI rs k)
  | [], [], _ => rfl
  | x :: bs, r :: rs, h => by
    have ih := bnd_sum bs rs (by simpa using h)
    rw [List.length_cons, sumN_front]
    show x.cap * r + bndI bs rs = capN (x :: bs) 0 * getI (r :: rs) 0 + sumN bs.length (fun k => capN (x :: bs) (k + 1) * getI (r :: rs) (k + 1))
    rw [ih]; rfl
/-- weak duality -/
theorem weak {bs : List Bud} (vb : VB bs) {ps rs : List Int} (hl : ps.length = bs.length) (hr : Rw bs.length rs) (hc : covI bs ps rs = true) : (wAll bs ps).total ≤ bndI bs rs := by
  have W := wi_fin vb hl
  have hcov : ∀ k, k < bs.length → getI ps k ≤ pthS bs rs k := fun k hk => by
    have := List.all_eq_true.mp hc k (List.mem_range.mpr (by rw [hl]; exact hk))
    exact of_decide_eq_true this
  have hnn : ∀ j, 0 ≤ getI rs j := fun j => by
    by_cases h : j < rs.length
    · exact hr.nn _ (getI_mem h)
    · unfold getI; rw [List.getElem?_eq_none (by omega)]; exact Int.le_refl _
  rw [W.tot, bnd_sum bs rs hr.len]
  have h1 : sumN bs.length (fun k => getI ps k * getI (wAll bs ps).faults k) ≤ sumN bs.length (fun k => sumN bs.length (fun j => onP bs k j (getI rs j) * getI (wAll bs ps).faults k)) := sumN_le fun k hk => by
    have e : sumN bs.length (fun j => onP bs k j (getI rs j) * getI (wAll bs ps).faults k) = pthS bs rs k * getI (wAll bs ps).faults k := by
      rw [pth_sum vb rs hk, Int.mul_comm, ← sumN_mul]
      exact sumN_congr fun j _ => Int.mul_comm _ _
    rw [e]
    exact Int.mul_le_mul_of_nonneg_right (hcov k hk) (W.fnn k hk)
  refine Int.le_trans h1 ?_
  rw [sumN_swap]
  refine sumN_le fun j hj => ?_
  have e : sumN bs.length (fun k => onP bs k j (getI rs j) * getI (wAll bs ps).faults k) = getI rs j * sumN bs.length (fun k => onP bs k j (getI (wAll bs ps).faults k)) := by
    rw [← sumN_mul]
    refine sumN_congr fun k _ => ?_
    unfold onP
    split
    · rfl
    · omega
  rw [e, Int.mul_comm (capN bs j)]
  have := W.use j hj
  have := W.lnn j hj
  exact Int.mul_le_mul_of_nonneg_left (by omega) (hnn j)
theorem within {bs : List Bud} (vb : VB bs) {ps : List Int} (hl : ps.length = bs.length) {j : Nat} (hj : j < bs.length) : sumN bs.length (fun k => onP bs k j (getI (wAll bs ps).faults k)) ≤ capN bs j := by
  have W := wi_fin vb hl
  have := W.use j hj
  have := W.lnn j hj
  omega
end K15
/-! K15M2: the finite facts for any budgets -/
set_option autoImplicit false
namespace K15
open PySem PySem.Spec PyProof.Rows L2 K15R
def bare (x : Bud) : Bud := ⟨⟨#[]⟩, x.cap, x.par⟩
def strip (bs : List Bud) : List Bud := bs.map bare
section
variable (bs : List Bud)
theorem strip_len : (strip bs).length = bs.length := List.length_map _
theorem strip_par : parN (strip bs) = parN bs := by
  funext k
  unfold parN strip
  rw [List.getElem?_map]
  cases bs[k]? <;> rfl
theorem strip_cap : capN (strip bs) = capN bs := by
  funext k
  unfold capN strip
  rw [List.getElem?_map]
  cases bs[k]? <;> rfl
theorem strip_above : ∀ f k, aboveN (strip bs) f k = aboveN bs f k
  | 0, k => rfl
  | f + 1, k => by
    unfold aboveN
    rw [strip_par]
    split
    · rw [strip_above f]
    · rfl
theorem strip_path : pathN (strip bs) = pathN bs := by
  funext k
  unfold pathN
  rw [strip_above]
theorem strip_most (src : List Nat) : mostI (strip bs) src = mostI bs src := by
  have e : mStep (strip bs) src = mStep bs src := by
    funext l k
    unfold mStep
    rw [strip_cap, strip_par]
  unfold mostI
  rw [e, strip_len]
theorem strip_open (src : List Nat) : openI (strip bs) src = openI bs src := by
  have e : oStep (strip bs) = oStep bs := by
    funext l k
    unfold oStep
    rw [strip_par]
  unfold openI
  rw [e, strip_len]
theorem strip_cut (src : List Nat) : cutI (strip bs) src = cutI bs src := by
  have e : cStep (strip bs) src = cStep bs src := by
    funext most op st k
    unfold cStep stopB belowI
    rw [strip_cap, strip_par, strip_len]
  unfold cutI
  rw [e, strip_most, strip_open, strip_len]
theorem strip_gr : ∀ (o : List Nat) (left : List Int), grT (strip bs) left o = grT bs left o
  | [], left => rfl
  | s :: o, left => by
    show mnP left (pathN (strip bs) s) + grT (strip bs) (subP (mnP left (pathN (strip bs) s)) left (pathN (strip bs) s)) o = _
    rw [strip_path, strip_gr o]; rfl
theorem strip_okF (o : List Nat) : okF (strip bs) o = okF bs o := by
  have e : (strip bs).map Bud.cap = bs.map Bud.cap := by
    unfold strip
    rw [List.map_map]; rfl
  have e2 : capS (strip bs) = capS bs := by
    funext ks
    unfold capS
    rw [strip_cap]
  rw [Bool.eq_iff_iff]
  simp only [okF, e2, strip_len, strip_gr, strip_cut, strip_path, e, Bool.and_eq_true, decide_eq_true_eq, List.all_eq_true, List.any_eq_true]
end
theorem ords3_mem {o : List Nat} (hn : o.Nodup) (hl : ∀ s ∈ o, s < 3) (h3 : o.length ≤ 3) (h0 : o ≠ []) : o ∈ ords3 := by
  match o, hn, hl, h3, h0 with
  | [], _, _, _, h0 => exact absurd rfl h0
  | [a], _, hl, _, _ =>
    have h : ∀ a, a < 3 → [a] ∈ ords3 := by decide
    exact h a (hl a (by simp))
  | [a, b], hn, hl, _, _ =>
    have h : ∀ a, a < 3 → ∀ b, b < 3 → a ≠ b → [a, b] ∈ ords3 := by decide
    refine h a (hl a (by simp)) b (hl b (by simp)) ?_
    simpa using hn
  | [a, b, c], hn, hl, _, _ =>
    have h0 : ((List.range 3).all fun a => (List.range 3).all fun b => (List.range 3).all fun c => decide (a = b) || decide (a = c) || decide (b = c) || decide ([a, b, c] ∈ ords3)) = true := by decide
    have h : ∀ a, a < 3 → ∀ b, b < 3 → ∀ c, c < 3 → a ≠ b → a ≠ c → b ≠ c → [a, b, c] ∈ ords3 := fun a ha b hb c hc h1 h2 h3 => by
      simp only [List.all_eq_true, List.mem_range] at h0
      simpa [h1, h2, h3] using h0 a ha b hb c hc
    have hn' : (a ≠ b ∧ a ≠ c) ∧ b ≠ c := by simpa [not_or] using hn
    exact h a (hl a (by simp)) b (hl b (by simp)) c (hl c (by simp)) hn'.1.1 hn'.1.2 hn'.2
  | _ :: _ :: _ :: _ :: _, _, _, h3, _ => simp at h3
theorem ords2_mem {o : List Nat} (hn : o.Nodup) (hl : ∀ s ∈ o, s < 2) (h3 : o.length ≤ 2) (h0 : o ≠ []) : o ∈ ords2 := by
  match o, hn, hl, h3, h0 with
  | [], _, _, _, h0 => exact absurd rfl h0
  | [a], _, hl, _, _ =>
    have h : ∀ a, a < 2 → [a] ∈ ords2 := by decide
    exact h a (hl a (by simp))
  | [a, b], hn, hl, _, _ =>
    have h : ∀ a, a < 2 → ∀ b, b < 2 → a ≠ b → [a, b] ∈ ords2 := by decide
    refine h a (hl a (by simp)) b (hl b (by simp)) ?_
    simpa using hn
  | _ :: _ :: _ :: _, _, _, h3, _ => simp at h3
theorem bare_eq {x : Bud} (hc : 0 ≤ x.cap) (hp : -1 ≤ x.par) : bare x = bud0 x.cap.toNat (x.par + 1).toNat := by
  unfold bare bud0
  rw [Int.toNat_of_nonneg hc, Int.toNat_of_nonneg (show 0 ≤ x.par + 1 by omega), Int.add_sub_cancel]
theorem okF_all {bs : List Bud} (vb : VB bs) {o : List Nat} (hn : o.Nodup) (hl : ∀ s ∈ o, s < bs.length) (h3 : o.length ≤ bs.length) (h0 : o ≠ []) : okF bs o = true := by
  rw [← strip_okF]
  have hlen := vb.len
  match bs, vb, hl, h3, hlen with
  | [], _, _, _, hlen => simp at hlen
  | [x], vb, hl, h3, _ =>
    have c0 := vb.cap 0 x rfl
    have p0 := vb.par 0 x rfl
    have e : strip [x] = [bud0 x.cap.toNat 0] := by
      show [bare x] = _
      rw [bare_eq c0.1 p0.1, show (x.par + 1).toNat = 0 by omega]
    rw [e]
    have h := chk1_ok
    simp only [chk1, List.all_eq_true, List.mem_range] at h
    have ho : o = [0] := by
      match o, hl, h3, h0 with
      | [], _, _, h0 => exact absurd rfl h0
      | [a], hl, _, _ =>
        have := hl a (by simp)
        simp at this
        rw [this]
      | _ :: _ :: _, _, h3, _ => simp at h3
    rw [ho]
    exact h _ (by omega)
  | [x, y], vb, hl, h3, _ =>
    have c0 := vb.cap 0 x rfl
    have p0 := vb.par 0 x rfl
    have c1 := vb.cap 1 y rfl
    have p1 := vb.par 1 y rfl
    have e : strip [x, y] = [bud0 x.cap.toNat 0, bud0 y.cap.toNat (y.par + 1).toNat] := by
      show [bare x, bare y] = _
      rw [bare_eq c0.1 p0.1, bare_eq c1.1 p1.1, show (x.par + 1).toNat = 0 by omega]
    rw [e]
    have h := chk2_ok
    simp only [chk2, List.all_eq_true, List.mem_range] at h
    exact h _ (by omega) _ (by omega) _ (by omega) o (ords2_mem hn hl h3 h0)
  | [x, y, z], vb, hl, h3, _ =>
    have c0 := vb.cap 0 x rfl
    have p0 := vb.par 0 x rfl
    have c1 := vb.cap 1 y rfl
    have p1 := vb.par 1 y rfl
    have c2 := vb.cap 2 z rfl
    have p2 := vb.par 2 z rfl
    have e : strip [x, y, z] = [bud0 x.cap.toNat 0, bud0 y.cap.toNat (y.par + 1).toNat, bud0 z.cap.toNat (z.par + 1).toNat] := by
      show [bare x, bare y, bare z] = _
      rw [bare_eq c0.1 p0.1, bare_eq c1.1 p1.1, bare_eq c2.1 p2.1, show (x.par + 1).toNat = 0 by omega]
    rw [e]
    have h := chk3_ok
    simp only [chk3, List.all_eq_true, List.mem_range] at h
    exact h _ (by omega) _ (by omega) _ (by omega) _ (by omega) _ (by omega) o (ords3_mem hn hl h3 h0)
  | _ :: _ :: _ :: _ :: _, _, _, _, hlen => simp at hlen
/-! ### the order, and the levels -/
theorem ordP_sorted (ps : List Int) : (ordP ps).Pairwise fun a b => getI ps b ≤ getI ps a := by
  unfold ordP
  rw [List.pairwise_map]
  have hm : ∀ q ∈ psort ((List.range ps.length).map fun k => (-(ps.getD k 0), (k : Int))), q.1 = -(getI ps q.2.toNat) := fun q hq => by
    have := (psort_perm _).mem_iff.mp hq
    obtain ⟨k, _, rfl⟩ := List.mem_map.mp this
    unfold getI
    rw [List.getD_eq_getElem?_getD]; rfl
  refine List.Pairwise.imp_of_mem ?_ (psort_sorted _)
  intro x y hx hy h
  rw [pLt_nf] at h
  have h1 := hm x hx
  have h2 := hm y hy
  omega
theorem split_by {g : Nat → Bool} : ∀ {l : List Nat}, (l.Pairwise fun a b => g b = true → g a = true) → l = l.filter g ++ l.filter (fun k => !g k)
  | [], _ => rfl
  | a :: l, h => by
    obtain ⟨h1, h2⟩ := List.pairwise_cons.mp h
    have ih := split_by h2
    cases ha : g a with
    | true =>
      simp only [List.filter_cons, ha, if_true, Bool.not_true, Bool.false_eq_true, if_false, List.cons_append]
      rw [← ih]
    | false =>
      have : l.filter g = [] := List.filter_eq_nil_iff.mpr fun b hb hgb => by
        rw [h1 b hb hgb] at ha; cases ha
      simp only [List.filter_cons, ha, this, Bool.false_eq_true, if_false, Bool.not_false, if_true, List.nil_append]
      rw [this, List.nil_append] at ih
      rw [← ih]
theorem getI_set_ne {l : List Int} {i j : Nat} {x : Int} (h : j ≠ i) : getI (l.set i x) j = getI l j := by
  unfold getI
  rw [List.getElem?_set_ne (fun e => h e.symm)]
theorem fa_keep (bs : List Bud) (ps : List Int) {k : Nat} : ∀ (o : List Nat) (w : WS), k ∉ o → getI (o.foldl (wStep bs ps) w).faults k = getI w.faults k
  | [], w, _ => rfl
  | s :: o, w, h => by
    rw [List.foldl_cons, fa_keep bs ps o _ (fun z => h (List.mem_cons_of_mem _ z))]
    unfold wStep
    split
    · exact getI_set_ne (fun z => h (by rw [z]; exact List.mem_cons_self))
    · rfl
theorem gr_sum (bs : List Bud) (ps : List Int) : ∀ (o : List Nat) (w : WS), (∀ s ∈ o, 0 < getI ps s) → o.Nodup → (∀ s ∈ o, s < w.faults.length) → (o.map (getI (o.foldl (wStep bs ps) w).faults)).sum = grT bs w.left o
  | [], w, _, _, _ => rfl
  | s :: o, w, hp, hn, hl => by
    have hn' := List.nodup_cons.mp hn
    have e : wStep bs ps w s = ⟨subP (mnP w.left (pathN bs s)) w.left (pathN bs s), w.faults.set s (mnP w.left (pathN bs s)), w.total + getI ps s * mnP w.left (pathN bs s)⟩ := by
      unfold wStep; rw [if_pos (hp s List.mem_cons_self)]
    rw [List.foldl_cons, List.map_cons, List.sum_cons, fa_keep bs ps o _ hn'.1, gr_sum bs ps o _ (fun k hk => hp k (List.mem_cons_of_mem _ hk)) hn'.2 (fun k hk => by
      rw [e]
      show k < (w.faults.set s _).length
      rw [List.length_set]
      exact hl k (List.mem_cons_of_mem _ hk)), e]
    show getI (w.faults.set s _) s + grT bs (subP _ w.left _) o = _
    rw [getI_set (hl s List.mem_cons_self), if_pos rfl]; rfl
def atL (ps : List Int) (t : Int) (k : Nat) : Bool := decide (t ≤ getI ps k)
theorem lev_gr {bs : List Bud} (vb : VB bs) {ps : List Int} (hl : ps.length = bs.length) {t : Int} (ht : 0 < t) : sumN bs.length (fun k => if t ≤ getI ps k then getI (wAll bs ps).faults k else 0) = grT bs (bs.map Bud.cap) ((ordP ps).filter (atL ps t)) := by
  have hs : (ordP ps).Pairwise fun a b => atL ps t b = true → atL ps t a = true := (ordP_sorted ps).imp fun {a b} h hb => by
    unfold atL at *
    have := of_decide_eq_true hb
    exact decide_eq_true (by omega)
  have hsp := split_by hs
  have hlt : ∀ s ∈ ordP ps, s < bs.length := fun s hs => by rw [← hl]; exact ordP_lt s hs
  have hmem : ∀ k, k ∈ (ordP ps).filter (atL ps t) ↔ k ∈ ordP ps ∧ t ≤ getI ps k := fun k => by rw [List.mem_filter]; unfold atL; simp
  have hnd : ((ordP ps).filter (atL ps t)).Nodup := (ordP_nodup ps).filter _
  have hg := gr_sum bs ps ((ordP ps).filter (atL ps t)) (wStart bs) (fun s hs => by have := ((hmem s).mp hs).2; omega) hnd (fun s hs => by
    show s < (List.replicate bs.length (0 : Int)).length
    rw [List.length_replicate]
    exact hlt s ((hmem s).mp hs).1)
  rw [show (wStart bs).left = bs.map Bud.cap from rfl] at hg
  rw [← hg]
  have hfin : ∀ k ∈ (ordP ps).filter (atL ps t), getI (((ordP ps).filter (atL ps t)).foldl (wStep bs ps) (wStart bs)).faults k = getI (wAll bs ps).faults k := fun k hk => by
    unfold wAll
    conv => rhs; rw [hsp, List.foldl_append]
    rw [fa_keep bs ps ((ordP ps).filter fun k => !atL ps t k)]
    intro z
    have h1 := (List.mem_filter.mp z).2
    have h2 := (List.mem_filter.mp hk).2
    rw [h2] at h1
    cases h1
  rw [List.map_congr_left hfin, sumN_list _ hnd fun j hj => hlt j ((hmem j).mp hj).1]
  refine sumN_congr fun k hk => ?_
  have : k ∈ ordP ps := (ordP_perm ps).mem_iff.mpr (List.mem_range.mpr (by rw [hl]; exact hk))
  by_cases h : t ≤ getI ps k
  · rw [if_pos h, if_pos ((hmem k).mpr ⟨this, h⟩)]
  · rw [if_neg h, if_neg fun z => h ((hmem k).mp z).2]
theorem lev_ok {bs : List Bud} (vb : VB bs) {ps : List Int} (hl : ps.length = bs.length) {t : Int} (ht : 0 < t) {k : Nat} (hk : k < bs.length) (hp : t ≤ getI ps k) :
    sumN bs.length (fun k => if t ≤ getI ps k then getI (wAll bs ps).faults k else 0) = capS bs (cutI bs (srcI ps t)) ∧ ∀ i, i < bs.length → t ≤ getI ps i → ∃ j, j ∈ pathN bs i ∧ j ∈ cutI bs (srcI ps t) := by
  have hmem : ∀ i, i ∈ (ordP ps).filter (atL ps t) ↔ i < bs.length ∧ t ≤ getI ps i := fun i => by
    rw [List.mem_filter, (ordP_perm ps).mem_iff, List.mem_range, hl]; unfold atL; simp
  have hsrc : (List.range bs.length).filter (fun i => decide (i ∈ (ordP ps).filter (atL ps t))) = srcI ps t := by
    unfold srcI
    rw [hl]
    refine List.filter_congr fun i hi => ?_
    have hi' := List.mem_range.mp hi
    by_cases h : t ≤ getI ps i
    · rw [decide_eq_true h, decide_eq_true ((hmem i).mpr ⟨hi', h⟩)]
    · rw [decide_eq_false h, decide_eq_false fun z => h ((hmem i).mp z).2]
  have hok := okF_all vb (o := (ordP ps).filter (atL ps t)) ((ordP_nodup ps).filter _) (fun s hs => ((hmem s).mp hs).1) (by
    have h1 := filt_len (atL ps t) (ordP ps)
    have h2 := ordP_len ps
    omega) (fun z => by
      have := (hmem k).mpr ⟨hk, hp⟩
      rw [z] at this; cases this)
  unfold okF at hok
  simp only [hsrc, Bool.and_eq_true, decide_eq_true_eq, List.all_eq_true, List.any_eq_true] at hok
  refine ⟨by rw [lev_gr vb hl ht]; exact hok.1, fun i hi hti => ?_⟩
  exact hok.2 i ((hmem i).mpr ⟨hi, hti⟩)
end K15
/-! K15M3: strong duality by levels -/
set_option autoImplicit false
namespace K15
open PySem PySem.Spec PyProof.Rows L2 K15R
theorem addC_get {lv low : Int} {rs : List Int} {k : Nat} (hk : k < rs.length) (j : Nat) : getI (addC lv low rs k) j = getI rs j + (if j = k then lv - low else 0) := by
  unfold addC
  rw [getI_set hk]
  split
  · rename_i e; subst e; omega
  · omega
structure RN (n : Nat) (rs : List Int) : Prop where
  len : rs.length = n
  nn : ∀ j, 0 ≤ getI rs j
theorem RN.rw {n : Nat} {rs : List Int} (h : RN n rs) : Rw n rs := ⟨h.len, fun x hx => by
  obtain ⟨k, hk⟩ := List.getElem?_of_mem hx
  have := h.nn k
  unfold getI at this
  rw [hk] at this
  exact this⟩
theorem add_all {bs : List Bud} (vb : VB bs) {lv low : Int} (hd : low ≤ lv) : ∀ (ks : List Nat) (rs : List Int), (∀ j ∈ ks, j < bs.length) → RN bs.length rs →
    RN bs.length (ks.foldl (addC lv low) rs) ∧ bndI bs (ks.foldl (addC lv low) rs) = bndI bs rs + (lv - low) * capS bs ks ∧
    (∀ k, k < bs.length → pthS bs rs k ≤ pthS bs (ks.foldl (addC lv low) rs) k) ∧ (∀ k, k < bs.length → (∃ j, j ∈ pathN bs k ∧ j ∈ ks) → pthS bs rs k + (lv - low) ≤ pthS bs (ks.foldl (addC lv low) rs) k)
  | [], rs, _, h => ⟨h, by simp [capS], fun k _ => Int.le_refl _, fun k _ ⟨j, _, hj⟩ => by cases hj⟩
  | a :: ks, rs, hl, h => by
    have ha : a < rs.length := by rw [h.len]; exact hl a List.mem_cons_self
    have h' : RN bs.length (addC lv low rs a) := ⟨by rw [addC_len]; exact h.len, fun j => by
      rw [addC_get ha]
      have := h.nn j
      split <;> omega⟩
    have hb : bndI bs (addC lv low rs a) = bndI bs rs + (lv - low) * capN bs a := by
      rw [bnd_sum bs _ h'.len, bnd_sum bs rs h.len]
      have e : sumN bs.length (fun k => capN bs k * getI (addC lv low rs a) k) = sumN bs.length (fun k => capN bs k * getI rs k + (if k = a then (lv - low) * capN bs a else 0)) := sumN_congr fun k _ => by
        rw [addC_get ha, Int.mul_add]
        by_cases e : k = a
        · subst e
          rw [if_pos rfl, if_pos rfl, Int.mul_comm (capN bs k) (lv - low)]
        · rw [if_neg e, if_neg e]; omega
      rw [e, sumN_add, sumN_one a _ (hl a List.mem_cons_self)]
    have hp : ∀ k, k < bs.length → pthS bs (addC lv low rs a) k = pthS bs rs k + onP bs k a (lv - low) := fun k hk => by
      rw [pth_sum vb _ hk, pth_sum vb _ hk]
      have e : sumN bs.length (fun j => onP bs k j (getI (addC lv low rs a) j)) = sumN bs.length (fun j => onP bs k j (getI rs j) + (if j = a then onP bs k a (lv - low) else 0)) := sumN_congr fun j _ => by
        rw [addC_get ha]
        by_cases e : j = a
        · subst e
          rw [if_pos rfl, if_pos rfl]
          unfold onP
          split <;> omega
        · rw [if_neg e, if_neg e, Int.add_zero, Int.add_zero]
      rw [e, sumN_add, sumN_one a _ (hl a List.mem_cons_self)]
    obtain ⟨i1, i2, i3, i4⟩ := add_all vb hd ks (addC lv low rs a) (fun j hj => hl j (List.mem_cons_of_mem _ hj)) h'
    rw [List.foldl_cons]
    have hon : ∀ k, 0 ≤ onP bs k a (lv - low) := fun k => by unfold onP; split <;> omega
    refine ⟨i1, ?_, fun k hk => ?_, fun k hk hj => ?_⟩
    · rw [i2, hb]
      show _ = bndI bs rs + (lv - low) * (capN bs a + capS bs ks)
      rw [Int.mul_add]; omega
    · have := i3 k hk
      have := hp k hk
      have := hon k
      omega
    · have := i3 k hk
      have e := hp k hk
      obtain ⟨j, h1, h2⟩ := hj
      rcases List.mem_cons.mp h2 with rfl | h2
      · have : onP bs k j (lv - low) = lv - low := by unfold onP; rw [if_pos h1]
        omega
      · have := i4 k hk ⟨j, h1, h2⟩
        have := hon k
        omega
def up (low p : Int) : Int := if low < p then p - low else 0
theorem lev_main {bs : List Bud} (vb : VB bs) {ps : List Int} (hl : ps.length = bs.length) : ∀ (Ls : List Int) (low : Int) (rs : List Int), 0 ≤ low → Ls.Pairwise (· < ·) → (∀ l ∈ Ls, low < l ∧ ∃ k, k < bs.length ∧ l ≤ getI ps k) →
    (∀ k, k < bs.length → low < getI ps k → getI ps k ∈ Ls) → RN bs.length rs →
    RN bs.length (Ls.foldl (prStep bs ps) (rs, low)).1 ∧ bndI bs (Ls.foldl (prStep bs ps) (rs, low)).1 = bndI bs rs + sumN bs.length (fun k => up low (getI ps k) * getI (wAll bs ps).faults k) ∧
    ∀ k, k < bs.length → pthS bs rs k + up low (getI ps k) ≤ pthS bs (Ls.foldl (prStep bs ps) (rs, low)).1 k
  | [], low, rs, _, _, _, hm, h => by
    have hz : ∀ k, k < bs.length → up low (getI ps k) = 0 := fun k hk => by
      unfold up
      split
      · rename_i hlt; have := hm k hk hlt; cases this
      · rfl
    refine ⟨h, ?_, fun k hk => by rw [hz k hk]; exact Int.le_of_eq (Int.add_zero _)⟩
    rw [sumN_congr (g := fun _ => 0) (fun k hk => by rw [hz k hk, Int.zero_mul]), sumN_zero]
    exact (Int.add_zero _).symm
  | lv :: Ls, low, rs, h0, hs, hL, hm, h => by
    obtain ⟨hs1, hs2⟩ := List.pairwise_cons.mp hs
    obtain ⟨hlv, k0, hk0, hk0p⟩ := hL lv List.mem_cons_self
    have hlt : 0 < lv := by omega
    obtain ⟨o1, o2⟩ := lev_ok vb hl hlt hk0 hk0p
    obtain ⟨a1, a2, a3, a4⟩ := add_all vb (lv := lv) (low := low) (by omega) (cutI bs (srcI ps lv)) rs cut_lt.1 h
    have hgt : ∀ k, k < bs.length → low < getI ps k → lv ≤ getI ps k := fun k hk hp => by
      rcases List.mem_cons.mp (hm k hk hp) with e | e
      · omega
      · have := hs1 _ e; omega
    obtain ⟨i1, i2, i3⟩ := lev_main vb hl Ls lv ((cutI bs (srcI ps lv)).foldl (addC lv low) rs) (by omega) hs2 (fun l hl' => ⟨hs1 l hl', (hL l (List.mem_cons_of_mem _ hl')).2⟩) (fun k hk hp => by
      rcases List.mem_cons.mp (hm k hk (by omega)) with e | e
      · omega
      · exact e) a1
    rw [List.foldl_cons]
    show RN bs.length (Ls.foldl (prStep bs ps) ((cutI bs (srcI ps lv)).foldl (addC lv low) rs, lv)).1 ∧ _ ∧ _
    refine ⟨i1, ?_, fun k hk => ?_⟩
    · show bndI bs (Ls.foldl (prStep bs ps) ((cutI bs (srcI ps lv)).foldl (addC lv low) rs, lv)).1 = _
      rw [i2, a2, ← o1, ← sumN_mul, Int.add_assoc, ← sumN_add]
      congr 1
      refine sumN_congr fun k hk => ?_
      unfold up
      by_cases hp : low < getI ps k
      · have h1 := hgt k hk hp
        rw [if_pos h1, if_pos hp]
        rw [← Int.add_mul]
        congr 1
        split <;> omega
      · rw [if_neg (by omega), if_neg (by omega), if_neg hp]; omega
    · show _ ≤ pthS bs (Ls.foldl (prStep bs ps) ((cutI bs (srcI ps lv)).foldl (addC lv low) rs, lv)).1 k
      have h3 := i3 k hk
      unfold up at h3 ⊢
      by_cases hp : low < getI ps k
      · have h1 := hgt k hk hp
        have := a4 k hk (o2 k hk h1)
        rw [if_pos hp]
        split at h3 <;> omega
      · rw [if_neg hp]
        rw [if_neg (by omega)] at h3
        have := a3 k hk
        omega
theorem B4.get {ps : List Int} (h : B4 ps) (k : Nat) : 0 ≤ getI ps k := by
  by_cases hk : k < ps.length
  · exact (h _ (getI_mem hk)).1
  · unfold getI; rw [List.getElem?_eq_none (by omega)]; exact Int.le_refl _
/-- strong duality -/
theorem strong {bs : List Bud} (vb : VB bs) {ps : List Int} (hl : ps.length = bs.length) (h4 : B4 ps) : Rw bs.length (prI bs ps) ∧ covI bs ps (prI bs ps) = true ∧ bndI bs (prI bs ps) = (wAll bs ps).total := by
  have hr0 : RN bs.length (List.replicate bs.length 0) := ⟨List.length_replicate, fun j => by rw [getI_rep]; exact Int.le_refl _⟩
  have hmem : ∀ l, l ∈ lvI ps ↔ l ∈ ps ∧ 0 < l := fun l => by
    unfold lvI
    rw [usort_mem, List.mem_filter]; simp
  obtain ⟨i1, i2, i3⟩ := lev_main vb hl (lvI ps) 0 (List.replicate bs.length 0) (Int.le_refl _) (usort_sorted _) (fun l hl' => by
    obtain ⟨h1, h2⟩ := (hmem l).mp hl'
    obtain ⟨k, hk⟩ := List.getElem?_of_mem h1
    obtain ⟨hk1, hk2⟩ := List.getElem?_eq_some_iff.mp hk
    exact ⟨h2, k, by rw [← hl]; exact hk1, by rw [getI_eq hk1, hk2]; exact Int.le_refl _⟩) (fun k hk hp => (hmem _).mpr ⟨getI_mem (by rw [hl]; exact hk), hp⟩) hr0
  have hb0 : bndI bs (List.replicate bs.length 0) = 0 := by
    rw [bnd_sum bs _ hr0.len, sumN_congr (g := fun _ => 0) (fun k _ => by rw [getI_rep]; omega), sumN_zero]
  have hup : ∀ k, up 0 (getI ps k) = getI ps k := fun k => by
    have := h4.get k
    unfold up
    split <;> omega
  refine ⟨i1.rw, ?_, ?_⟩
  · unfold covI
    rw [List.all_eq_true]
    intro k hk
    have hk' : k < bs.length := by rw [← hl]; exact List.mem_range.mp hk
    have h1 := i3 k hk'
    rw [hup, pth_sum vb _ hk', sumN_congr (g := fun _ => 0) (fun j _ => by rw [getI_rep]; unfold onP; split <;> rfl), sumN_zero, Int.zero_add] at h1
    exact decide_eq_true h1
  · show bndI bs ((lvI ps).foldl (prStep bs ps) (List.replicate bs.length 0, 0)).1 = _
    rw [i2, hb0, Int.zero_add, (wi_fin vb hl).tot]
    exact sumN_congr fun k _ => by rw [hup]
/-- greater penalties, greater recovery -/
theorem mono_rec {bs : List Bud} (vb : VB bs) {ps qs : List Int} (hp : ps.length = bs.length) (hq : qs.length = bs.length) (h4 : B4 qs) (hle : ∀ k, k < bs.length → getI ps k ≤ getI qs k) : (wAll bs ps).total ≤ (wAll bs qs).total := by
  obtain ⟨s1, s2, s3⟩ := strong vb hq h4
  rw [← s3]
  refine weak vb hp s1 ?_
  unfold covI at s2 ⊢
  rw [List.all_eq_true] at s2 ⊢
  intro k hk
  have hk' : k < bs.length := by rw [← hp]; exact List.mem_range.mp hk
  have h1 := of_decide_eq_true (s2 k (List.mem_range.mpr (by rw [hq]; exact hk')))
  have := hle k hk'
  exact decide_eq_true (by omega)
end K15
/-! K15M4: penalties by their bounds; ends; latest -/
set_option autoImplicit false
namespace K15
open PySem PySem.Spec PyProof.Rows L2 K15R
theorem setMax_le {l : List Int} {g : II} {k : Nat} {m : Int} (hk : k < l.length) : getI (setMax l g) k ≤ m ↔ getI l k ≤ m ∧ (g.2.toNat = k → g.1 ≤ m) := by
  unfold setMax
  by_cases e : g.2.toNat = k
  · subst e
    rw [getI_set hk, if_pos rfl]
    split <;> constructor
    · intro h; exact ⟨by omega, fun _ => h⟩
    · intro h; exact h.2 rfl
    · intro h; exact ⟨h, fun _ => by omega⟩
    · intro h; exact h.1
  · rw [getI_set_ne (fun z => e z.symm)]
    exact ⟨fun h => ⟨h, fun z => absurd z e⟩, fun h => h.1⟩
theorem segs_le {k : Nat} {m : Int} : ∀ (gs : List II) {l : List Int}, k < l.length → (getI (gs.foldl setMax l) k ≤ m ↔ getI l k ≤ m ∧ ∀ g ∈ gs, g.2.toNat = k → g.1 ≤ m)
  | [], l, hk => by simp
  | g :: gs, l, hk => by
    rw [List.foldl_cons, segs_le gs (by rw [setMax_len]; exact hk), setMax_le hk]
    constructor
    · rintro ⟨⟨h1, h2⟩, h3⟩
      refine ⟨h1, fun g' hg' => ?_⟩
      rcases List.mem_cons.mp hg' with rfl | hg'
      · exact h2
      · exact h3 g' hg'
    · rintro ⟨h1, h2⟩
      exact ⟨⟨h1, h2 g List.mem_cons_self⟩, fun g' hg' => h2 g' (List.mem_cons_of_mem _ hg')⟩
theorem items_le {k : Nat} {m : Int} : ∀ (xs : List Item) {l : List Int}, k < l.length → (getI (xs.foldl (fun l x => x.segs.foldl setMax l) l) k ≤ m ↔ getI l k ≤ m ∧ ∀ x ∈ xs, ∀ g ∈ x.segs, g.2.toNat = k → g.1 ≤ m)
  | [], l, hk => by simp
  | x :: xs, l, hk => by
    rw [List.foldl_cons, items_le xs (by rw [segs_len]; exact hk), segs_le x.segs hk]
    constructor
    · rintro ⟨⟨h1, h2⟩, h3⟩
      refine ⟨h1, fun g' hg' => ?_⟩
      rcases List.mem_cons.mp hg' with rfl | hg'
      · exact h2
      · exact h3 g' hg'
    · rintro ⟨h1, h2⟩
      exact ⟨⟨h1, h2 x List.mem_cons_self⟩, fun g' hg' => h2 g' (List.mem_cons_of_mem _ hg')⟩
theorem long_le {n : Nat} {xs : List Item} {k : Nat} (hk : k < n) {m : Int} : getI (longI n xs) k ≤ m ↔ 0 ≤ m ∧ ∀ x ∈ xs, ∀ g ∈ x.segs, g.2.toNat = k → g.1 ≤ m := by
  unfold longI
  rw [items_le xs (by rw [List.length_replicate]; exact hk), getI_rep]
theorem long_mono {n : Nat} {xs zs : List Item} (h : ∀ x ∈ xs, x ∈ zs) {k : Nat} (hk : k < n) : getI (longI n xs) k ≤ getI (longI n zs) k := by
  have h1 := (long_le (xs := zs) hk (m := getI (longI n zs) k)).mp (Int.le_refl _)
  exact (long_le hk).mpr ⟨h1.1, fun x hx => h1.2 x (h x hx)⟩
theorem rec_mono {bs : List Bud} (vb : VB bs) {xs zs : List Item} (h : ∀ x ∈ xs, x ∈ zs) (v : ∀ x ∈ zs, VI bs.length x) : (wAll bs (longI bs.length xs)).total ≤ (wAll bs (longI bs.length zs)).total :=
  mono_rec vb (long_len _ _) (long_len _ _) (long_b4 v) fun k hk => long_mono h hk
theorem rec_nn {bs : List Bud} (vb : VB bs) {xs : List Item} (v : ∀ x ∈ xs, VI bs.length x) : 0 ≤ (wAll bs (longI bs.length xs)).total := by
  have W := wi_fin vb (long_len bs.length xs)
  rw [W.tot]
  exact sumN_nn fun k hk => Int.mul_nonneg (B4.get (long_b4 v) k) (W.fnn k hk)
theorem rec_nil {bs : List Bud} (vb : VB bs) : (wAll bs (longI bs.length [])).total = 0 := by
  have W := wi_fin vb (long_len bs.length [])
  rw [W.tot, sumN_congr (g := fun _ => 0) (fun k _ => by
    show getI (List.replicate bs.length 0) k * _ = 0
    rw [getI_rep, Int.zero_mul]), sumN_zero]
/-! ### ends -/
theorem mem_tEnds {x : Item} {s m e : Int} (ha : 0 < x.a) : e ∈ tEnds x s m ↔ e ≤ m ∧ ∃ j : Nat, e = loI x s + (j : Int) * x.a := by
  unfold tEnds
  rw [List.mem_map]
  unfold Builtin.Range.rangeSize
  rw [if_pos ha]
  constructor
  · rintro ⟨j, hj, rfl⟩
    have hj' := List.mem_range.mp hj
    refine ⟨?_, j, rfl⟩
    split at hj'
    · have h1 : (j : Int) ≤ (m + 1 - loI x s - 1) / x.a := by omega
      have h2 := Int.mul_le_mul_of_nonneg_right h1 (show 0 ≤ x.a by omega)
      have h3 := Int.ediv_mul_le (m + 1 - loI x s - 1) (show x.a ≠ 0 by omega)
      omega
    · simp at hj'
  · rintro ⟨hm, j, rfl⟩
    refine ⟨j, List.mem_range.mpr ?_, rfl⟩
    have h0 : 0 ≤ (j : Int) * x.a := Int.mul_nonneg (by omega) (by omega)
    rw [if_pos (by omega)]
    have h1 : (j : Int) ≤ (m + 1 - loI x s - 1) / x.a := (Int.le_ediv_iff_mul_le ha).mpr (by omega)
    omega
theorem mem_tasks (s m e : Int) : ∀ (xs : List Item) (l : List Int), e ∈ xs.foldl (fun l x => l ++ tEnds x s m) l ↔ e ∈ l ∨ ∃ x ∈ xs, e ∈ tEnds x s m
  | [], l => by simp
  | x :: xs, l => by
    rw [List.foldl_cons, mem_tasks s m e xs]
    rw [List.mem_append]
    constructor
    · rintro ((h | h) | ⟨z, hz, h⟩)
      · exact Or.inl h
      · exact Or.inr ⟨x, List.mem_cons_self, h⟩
      · exact Or.inr ⟨z, List.mem_cons_of_mem _ hz, h⟩
    · rintro (h | ⟨z, hz, h⟩)
      · exact Or.inl (Or.inl h)
      · rcases List.mem_cons.mp hz with rfl | hz
        · exact Or.inl (Or.inr h)
        · exact Or.inr ⟨z, hz, h⟩
theorem mem_ends {y : Sys} {s m e : Int} : e ∈ endsI y s m ↔ (∃ x ∈ y.jobs, inJ s m x = true ∧ e = x.a) ∨ ∃ x ∈ y.tasks, e ∈ tEnds x s m := by
  unfold endsI endsR
  rw [usort_mem, mem_tasks, List.mem_map]
  constructor
  · rintro (⟨x, hx, rfl⟩ | h)
    · exact Or.inl ⟨x, (List.mem_filter.mp hx).1, (List.mem_filter.mp hx).2, rfl⟩
    · exact Or.inr h
  · rintro (⟨x, hx, h1, rfl⟩ | h)
    · exact Or.inl ⟨x, List.mem_filter.mpr ⟨hx, h1⟩, rfl⟩
    · exact Or.inr h
theorem greatest : ∀ {l : List Int}, l ≠ [] → ∃ m ∈ l, ∀ x ∈ l, x ≤ m
  | [], h => absurd rfl h
  | [a], _ => ⟨a, by simp, fun x hx => by simp at hx; omega⟩
  | a :: c :: l, _ => by
    obtain ⟨m, h1, h2⟩ := greatest (l := c :: l) (by simp)
    by_cases h : m ≤ a
    · exact ⟨a, List.mem_cons_self, fun x hx => by
        rcases List.mem_cons.mp hx with rfl | hx
        · exact Int.le_refl _
        · have := h2 x hx; omega⟩
    · exact ⟨m, List.mem_cons_of_mem _ h1, fun x hx => by
        rcases List.mem_cons.mp hx with rfl | hx
        · omega
        · exact h2 x hx⟩
/-! ### latest -/
theorem lmax_le {m : Int} : ∀ {ns : List Int}, ns ≠ [] → (lmax ns ≤ m ↔ ∀ x ∈ ns, x ≤ m)
  | [], h => absurd rfl h
  | [n], _ => by simp [lmax]
  | n :: k :: ks, _ => by
    have ih := lmax_le (m := m) (ns := k :: ks) (by simp)
    have e : lmax (n :: k :: ks) = if lmax (k :: ks) > n then lmax (k :: ks) else n := rfl
    rw [e]
    rw [List.forall_mem_cons (l := k :: ks) (a := n), ← ih]
    split <;> omega
theorem lat_le {y : Sys} {m : Int} : latI y ≤ m ↔ 0 ≤ m ∧ ∀ x ∈ y.jobs ++ y.tasks, x.r ≤ m := by
  unfold latI
  rw [lmax_le (by simp), List.forall_mem_cons]
  simp only [List.forall_mem_map]
theorem lat_bd {y : Sys} (v : VN y) : 0 ≤ latI y ∧ latI y ≤ 7 ∧ ∀ x ∈ y.jobs ++ y.tasks, x.r ≤ latI y := by
  have h := lat_le (y := y) (m := latI y)
  have h1 := h.mp (Int.le_refl _)
  refine ⟨h1.1, lat_le.mpr ⟨by omega, fun x hx => ?_⟩, h1.2⟩
  rcases List.mem_append.mp hx with hx | hx
  · exact (v.vj x hx).r.2
  · exact (v.vt x hx).r.2
end K15
/-! K15M5: the horizon -/
set_option autoImplicit false
namespace K15
open PySem PySem.Spec PyProof.Rows L2 K15R
def slI (y : Sys) (s e : Int) : Int := e - s - demI y s e - recI y s e
theorem bod_lo (x : Item) (s e : Int) : bodI x s e = if e < loI x s then 0 else 1 + (e - loI x s) / x.a := by
  unfold bodI loI
  generalize (if x.r > s then x.r else s) = t
  by_cases h : e - t < x.d
  · rw [if_pos h, if_pos (by omega)]
  · rw [if_neg h, if_neg (by omega), show e - t - x.d = e - (t + x.d) by omega]
theorem lo_ge {x : Item} {s : Int} (hd : 4 ≤ x.d) : s + 4 ≤ loI x s := by
  unfold loI
  split <;> omega
theorem bod_nn {x : Item} {s e : Int} (ha : 0 < x.a) : 0 ≤ bodI x s e := by
  rw [bod_lo]
  split
  · exact Int.le_refl _
  · have := Int.ediv_nonneg (show 0 ≤ e - loI x s by omega) (show 0 ≤ x.a by omega)
    omega
theorem bod_le {x : Item} {s e : Int} (ha : 0 < x.a) (hd : 4 ≤ x.d) (he : s ≤ e) : bodI x s e * x.a ≤ x.a + (e - s) := by
  rw [bod_lo]
  have hlo := lo_ge (s := s) hd
  split
  · rw [Int.zero_mul]; omega
  · have h3 := Int.ediv_mul_le (e - loI x s) (show x.a ≠ 0 by omega)
    rw [Int.add_mul, Int.one_mul]
    omega
theorem job_work {y : Sys} (v : VN y) {x : Item} (hx : x ∈ y.jobs) : 0 ≤ workI x := by
  have := (v.vj x hx).d
  have hj := (v.vs.job x hx).2
  unfold workI
  rw [hj]
  simp only [if_true]
  omega
theorem filt_sum {p : Item → Bool} {f : Item → Int} : ∀ {l : List Item}, (∀ x ∈ l, 0 ≤ f x) → 0 ≤ ((l.filter p).map f).sum ∧ ((l.filter p).map f).sum ≤ (l.map f).sum
  | [], _ => by simp
  | a :: l, h => by
    have ih := filt_sum (p := p) (f := f) (l := l) fun x hx => h x (List.mem_cons_of_mem _ hx)
    have ha := h a List.mem_cons_self
    rw [List.filter_cons]
    split
    · simp only [List.map_cons, List.sum_cons]; omega
    · simp only [List.map_cons, List.sum_cons]; omega
theorem one_term {b w a L : Int} (h : b * a ≤ a + L) (hw : 0 ≤ w) : b * w * a ≤ w * a + L * w := by
  have := Int.mul_le_mul_of_nonneg_right h hw
  rw [Int.mul_right_comm, Int.mul_comm w a, ← Int.add_mul]
  exact this
theorem two_term {b1 w1 a1 b2 w2 a2 L : Int} (h1 : b1 * a1 ≤ a1 + L) (h2 : b2 * a2 ≤ a2 + L) (p1 : 0 ≤ w1) (p2 : 0 ≤ w2) (q1 : 0 ≤ a1) (q2 : 0 ≤ a2) : (b1 * w1 + b2 * w2) * (a1 * a2) ≤ (w1 + w2) * (a1 * a2) + L * (w1 * a2 + w2 * a1) := by
  have e1 := Int.mul_le_mul_of_nonneg_right (one_term h1 p1) q2
  have e2 := Int.mul_le_mul_of_nonneg_right (one_term h2 p2) q1
  have f1 : (b1 * w1 + b2 * w2) * (a1 * a2) = b1 * w1 * a1 * a2 + b2 * w2 * a2 * a1 := by
    rw [Int.add_mul, Int.mul_assoc (b1 * w1), Int.mul_assoc (b2 * w2), Int.mul_comm a2 a1]
  have f2 : (w1 + w2) * (a1 * a2) + L * (w1 * a2 + w2 * a1) = (w1 * a1 + L * w1) * a2 + (w2 * a2 + L * w2) * a1 := by
    rw [Int.add_mul, Int.mul_add, Int.add_mul, Int.add_mul, Int.mul_assoc w1, Int.mul_assoc w2, Int.mul_comm a2 a1, Int.mul_assoc L w1, Int.mul_assoc L w2]
    omega
  rw [f1, f2]
  omega
theorem tk_bound {y : Sys} (v : VN y) {s e : Int} (he : s ≤ e) : (y.tasks.map fun x => bodI x s e * workI x).sum * botI y ≤ (y.tasks.map workI).sum * botI y + (e - s) * topI y := by
  have hw : ∀ x ∈ y.tasks, 0 ≤ workI x ∧ bodI x s e * x.a ≤ x.a + (e - s) ∧ 0 ≤ x.a := fun x hx => by
    rw [workT (v.vs.tsk x hx).2]
    have h1 := v.vt x hx
    have h2 := (v.vs.tsk x hx).1.gap (v.vs.tsk x hx).2
    exact ⟨by have := h1.w; omega, bod_le h2.1 h1.d.1 he, by omega⟩
  rcases tk_cases v with ⟨ht, h1, h2⟩ | ⟨x, ht, h1, h2⟩ | ⟨x, z, ht, h1, h2⟩
  · rw [ht, h1, h2]; simp
  · have hx := hw x (by rw [ht]; simp)
    rw [ht, h1, h2]
    simp only [List.map_cons, List.map_nil, List.sum_cons, List.sum_nil, Int.add_zero]
    exact one_term hx.2.1 hx.1
  · have hx := hw x (by rw [ht]; simp)
    have hz := hw z (by rw [ht]; simp)
    rw [ht, h1, h2]
    simp only [List.map_cons, List.map_nil, List.sum_cons, List.sum_nil, Int.add_zero]
    exact two_term hx.2.1 hz.2.1 hx.1 hz.1 hx.2.2 hz.2.2
theorem act_sub (y : Sys) (s e : Int) : ∀ x ∈ actI y s e, x ∈ y.jobs ++ y.tasks := fun x hx => by
  rcases List.mem_append.mp hx with h | h
  · exact List.mem_append_left _ (List.mem_filter.mp h).1
  · exact List.mem_append_right _ (List.mem_filter.mp h).1
theorem tot_nn {y : Sys} (v : VN y) : 0 ≤ totI y := by
  have h0 := filt_sum (p := fun _ => false) (f := workI) (l := y.jobs ++ y.tasks) (fun x hx => by
    rcases List.mem_append.mp hx with h | h
    · exact job_work v h
    · rw [workT (v.vs.tsk x h).2]
      have := (v.vt x h).w
      omega)
  have h1 : 0 ≤ ((y.jobs ++ y.tasks).map workI).sum := Int.le_trans h0.1 h0.2
  have h2 := rec_nn v.vs.vb (its_vi v.vs)
  unfold totI
  omega
theorem hor_mul {y : Sys} (v : VN y) : totI y * botI y ≤ horI y * (botI y - topI y) := by
  have hr := rate_bd v
  unfold horI
  have := Int.ediv_mul_le (-(totI y) * botI y) (show botI y - topI y ≠ 0 by omega)
  generalize hq : -(totI y) * botI y / (botI y - topI y) = q at *
  rw [Int.neg_mul] at this ⊢
  omega
theorem hor_nn {y : Sys} (v : VN y) : 0 ≤ horI y := by
  have hr := rate_bd v
  have h1 := hor_mul v
  have h2 : 0 ≤ totI y * botI y := Int.mul_nonneg (tot_nn v) (by omega)
  refine Int.not_lt.mp fun h => ?_
  have := Int.mul_neg_of_neg_of_pos h (show 0 < botI y - topI y by omega)
  omega
theorem far {y : Sys} (v : VN y) {s e : Int} (he : s ≤ e) (hh : horI y ≤ e - s) : 0 ≤ slI y s e := by
  have hr := rate_bd v
  have h1 := hor_mul v
  have h2 := tk_bound v he
  have h3 := (filt_sum (p := inJ s e) (f := workI) (l := y.jobs) fun x hx => job_work v hx).2
  have h4 : recI y s e ≤ (wAll y.buds (longI y.buds.length (y.jobs ++ y.tasks))).total := rec_mono v.vs.vb (act_sub y s e) (its_vi v.vs)
  have h5 := Int.mul_le_mul_of_nonneg_right hh (show 0 ≤ botI y - topI y by omega)
  have h6 : totI y = (y.jobs.map workI).sum + (y.tasks.map workI).sum + (wAll y.buds (longI y.buds.length (y.jobs ++ y.tasks))).total := by
    unfold totI
    rw [List.map_append, List.sum_append]
  unfold slI demI
  generalize (y.tasks.map fun x => bodI x s e * workI x).sum = T at *
  generalize ((y.jobs.filter (inJ s e)).map workI).sum = J at *
  generalize recI y s e = R at *
  generalize (wAll y.buds (longI y.buds.length (y.jobs ++ y.tasks))).total = R' at *
  generalize (y.jobs.map workI).sum = J' at *
  generalize (y.tasks.map workI).sum = T' at *
  generalize e - s = L at *
  rw [h6] at h1
  have h7 : (J + R) * botI y ≤ (J' + R') * botI y := Int.mul_le_mul_of_nonneg_right (by omega) (by omega)
  have h8 : (T + (J + R)) * botI y ≤ L * botI y := by
    rw [Int.add_mul]
    have e1 : (J' + T' + R') * botI y = (J' + R') * botI y + T' * botI y := by rw [← Int.add_mul]; congr 1; omega
    have e2 : L * (botI y - topI y) = L * botI y - L * topI y := Int.mul_sub ..
    omega
  have h9 := Int.le_of_mul_le_mul_right h8 (show 0 < botI y by omega)
  omega
theorem sl_same {y : Sys} {s e e' : Int} (h1 : y.jobs.filter (inJ s e) = y.jobs.filter (inJ s e')) (h2 : ∀ x ∈ y.tasks, bodI x s e = bodI x s e') : demI y s e = demI y s e' ∧ recI y s e = recI y s e' := by
  have h3 : actI y s e = actI y s e' := by
    unfold actI
    rw [h1]
    congr 1
    exact List.filter_congr fun x hx => by rw [h2 x hx]
  refine ⟨?_, by unfold recI penI; rw [h3]⟩
  have e3 : (y.tasks.map fun x => bodI x s e * workI x) = y.tasks.map fun x => bodI x s e' * workI x := List.map_congr_left fun x hx => by rw [h2 x hx]
  unfold demI
  rw [h1, e3]
theorem near {y : Sys} (v : VN y) {s e : Int} (he : s ≤ e) (hh : e ≤ s + horI y) (hl : ∀ e' ∈ endsI y s (s + horI y), 0 ≤ slI y s e') : 0 ≤ slI y s e := by
  have hga : ∀ x ∈ y.tasks, 0 < x.a := fun x hx => ((v.vs.tsk x hx).1.gap (v.vs.tsk x hx).2).1
  by_cases hne : (endsI y s (s + horI y)).filter (fun k => decide (k ≤ e)) = []
  · have hno : ∀ e' ∈ endsI y s (s + horI y), ¬ e' ≤ e := fun e' h1 h2 => by
      have : e' ∈ (endsI y s (s + horI y)).filter (fun k => decide (k ≤ e)) := List.mem_filter.mpr ⟨h1, decide_eq_true h2⟩
      rw [hne] at this; cases this
    have hj : y.jobs.filter (inJ s e) = [] := List.filter_eq_nil_iff.mpr fun x hx hin => by
      unfold inJ at hin
      rw [Bool.and_eq_true, decide_eq_true_eq, decide_eq_true_eq] at hin
      refine hno x.a (mem_ends.mpr (Or.inl ⟨x, hx, ?_, rfl⟩)) hin.2
      unfold inJ
      rw [Bool.and_eq_true, decide_eq_true_eq, decide_eq_true_eq]
      omega
    have ht : ∀ x ∈ y.tasks, bodI x s e = 0 := fun x hx => by
      rw [bod_lo]
      refine if_pos (Int.not_le.mp fun hle => ?_)
      exact hno (loI x s) (mem_ends.mpr (Or.inr ⟨x, hx, (mem_tEnds (hga x hx)).mpr ⟨by omega, 0, by simp⟩⟩)) hle
    have ha : actI y s e = [] := by
      unfold actI
      rw [hj, List.nil_append]
      exact List.filter_eq_nil_iff.mpr fun x hx => by rw [ht x hx]; decide
    have hd : demI y s e = 0 := by
      have e3 : (y.tasks.map fun x => bodI x s e * workI x) = y.tasks.map fun _ => (0 : Int) := List.map_congr_left fun x hx => by rw [ht x hx, Int.zero_mul]
      unfold demI
      rw [hj, e3]
      have : ∀ l : List Item, (l.map fun _ => (0 : Int)).sum = 0 := fun l => by
        induction l with
        | nil => rfl
        | cons a l ih => rw [List.map_cons, List.sum_cons, ih]; rfl
      rw [this]; rfl
    have hrc : recI y s e = 0 := by
      unfold recI penI
      rw [ha]
      exact rec_nil v.vs.vb
    unfold slI
    omega
  · obtain ⟨m, hm, hmax⟩ := greatest hne
    obtain ⟨hm1, hm2⟩ := List.mem_filter.mp hm
    have hme : m ≤ e := of_decide_eq_true hm2
    have hle : ∀ e' ∈ endsI y s (s + horI y), e' ≤ e → e' ≤ m := fun e' h1 h2 => hmax e' (List.mem_filter.mpr ⟨h1, decide_eq_true h2⟩)
    have hj : y.jobs.filter (inJ s e) = y.jobs.filter (inJ s m) := List.filter_congr fun x hx => by
      unfold inJ
      by_cases hs : s ≤ x.r
      · rw [decide_eq_true hs, Bool.true_and, Bool.true_and]
        by_cases hxe : x.a ≤ e
        · have : x.a ≤ m := hle x.a (mem_ends.mpr (Or.inl ⟨x, hx, by
            unfold inJ
            rw [Bool.and_eq_true, decide_eq_true_eq, decide_eq_true_eq]
            omega, rfl⟩)) hxe
          rw [decide_eq_true hxe, decide_eq_true this]
        · rw [decide_eq_false hxe, decide_eq_false (by omega)]
      · rw [decide_eq_false hs, Bool.false_and, Bool.false_and]
    have ht : ∀ x ∈ y.tasks, bodI x s e = bodI x s m := fun x hx => by
      have ha := hga x hx
      rw [bod_lo, bod_lo]
      by_cases h0 : e < loI x s
      · rw [if_pos h0, if_pos (by omega)]
      · have hq : 0 ≤ (e - loI x s) / x.a := Int.ediv_nonneg (by omega) (by omega)
        have hmul := Int.ediv_mul_le (e - loI x s) (show x.a ≠ 0 by omega)
        have hin : loI x s + (e - loI x s) / x.a * x.a ∈ endsI y s (s + horI y) := mem_ends.mpr (Or.inr ⟨x, hx, (mem_tEnds ha).mpr ⟨by omega, ((e - loI x s) / x.a).toNat, by rw [Int.toNat_of_nonneg hq]⟩⟩)
        have h1 := hle _ hin (by omega)
        have hq2 := Int.mul_nonneg hq (show 0 ≤ x.a by omega)
        rw [if_neg h0, if_neg (by omega)]
        congr 1
        refine Int.le_antisymm ((Int.le_ediv_iff_mul_le ha).mpr (by omega)) (Int.ediv_le_ediv ha (by omega))
    obtain ⟨e1, e2⟩ := sl_same hj ht
    have := hl m hm1
    unfold slI at this ⊢
    omega
theorem late {y : Sys} (v : VN y) {s e : Int} (hs : latI y < s) (he : s ≤ e) (hl : 0 ≤ slI y (latI y) (latI y + (e - s))) : 0 ≤ slI y s e := by
  obtain ⟨l0, _, hr⟩ := lat_bd v
  have hj : y.jobs.filter (inJ s e) = [] := List.filter_eq_nil_iff.mpr fun x hx hin => by
    unfold inJ at hin
    rw [Bool.and_eq_true, decide_eq_true_eq, decide_eq_true_eq] at hin
    have := hr x (List.mem_append_left _ hx)
    omega
  have ht : ∀ x ∈ y.tasks, bodI x s e = bodI x (latI y) (latI y + (e - s)) := fun x hx => by
    have := hr x (List.mem_append_right _ hx)
    unfold bodI
    have e1 : (if x.r > s then x.r else s) = s := if_neg (by omega)
    have e2 : (if x.r > latI y then x.r else latI y) = latI y := if_neg (by omega)
    rw [e1, e2, show latI y + (e - s) - latI y = e - s by omega]
  have h1 := (filt_sum (p := inJ (latI y) (latI y + (e - s))) (f := workI) (l := y.jobs) fun x hx => job_work v hx).1
  have hd : demI y s e ≤ demI y (latI y) (latI y + (e - s)) := by
    have e3 : (y.tasks.map fun x => bodI x s e * workI x) = y.tasks.map fun x => bodI x (latI y) (latI y + (e - s)) * workI x := List.map_congr_left fun x hx => by rw [ht x hx]
    unfold demI
    rw [hj, e3]
    simp only [List.map_nil, List.sum_nil]
    omega
  have hrc : recI y s e ≤ recI y (latI y) (latI y + (e - s)) := by
    refine rec_mono v.vs.vb (fun x hx => ?_) (act_vi v.vs _ _)
    unfold actI at hx
    rw [hj, List.nil_append] at hx
    obtain ⟨hx1, hx2⟩ := List.mem_filter.mp hx
    unfold actI
    refine List.mem_append_right _ (List.mem_filter.mpr ⟨hx1, ?_⟩)
    rw [← ht x hx1]; exact hx2
  unfold slI at hl ⊢
  omega
/-- the looks suffice -/
theorem looks_all {y : Sys} (v : VN y) (h : ∀ s, 0 ≤ s → s ≤ latI y → ∀ e ∈ endsI y s (s + horI y), 0 ≤ slI y s e) : ∀ s e, 0 ≤ s → s ≤ e → 0 ≤ slI y s e := by
  have h1 : ∀ s e, 0 ≤ s → s ≤ latI y → s ≤ e → 0 ≤ slI y s e := fun s e h0 hs he => by
    by_cases hf : horI y ≤ e - s
    · exact far v he hf
    · exact near v he (by omega) (h s h0 hs)
  intro s e h0 he
  by_cases hs : s ≤ latI y
  · exact h1 s e h0 hs he
  · have l0 := (lat_bd v).1
    exact late v (by omega) he (h1 _ _ l0 (Int.le_refl _) (by omega))
end K15
/-! K15P21: used, is_within -/
set_option autoImplicit false
namespace K15
open PySem PySem.Spec PyProof.Rows L2 K15R
def usS (bs : List Bud) (fs : List Int) (l : List Int) (k : Nat) : List Int := subP (-(getI fs k)) l (pathN bs k)
def usI (bs : List Bud) (fs : List Int) : List Int := (List.range bs.length).foldl (usS bs fs) (List.replicate bs.length 0)
theorem us_len (bs : List Bud) (fs : List Int) : ∀ (ks : List Nat) (l : List Int), (ks.foldl (usS bs fs) l).length = l.length
  | [], l => rfl
  | k :: ks, l => by rw [List.foldl_cons, us_len bs fs ks]; exact sub_len _ _ _
theorem us_get {bs : List Bud} (vb : VB bs) (fs : List Int) (j : Nat) : ∀ m, m ≤ bs.length → getI ((List.range m).foldl (usS bs fs) (List.replicate bs.length 0)) j = sumN m (fun k => onP bs k j (getI fs k))
  | 0, _ => getI_rep _ _
  | m + 1, hm => by
    rw [List.range_succ, List.foldl_append]
    show getI (subP _ _ _) j = sumN m _ + onP bs m j (getI fs m)
    rw [sub_get _ (path_nodup vb (by omega)) (fun i hi => by rw [us_len, List.length_replicate]; exact path_lt vb (by omega) i hi), us_get vb fs j m (by omega)]
    unfold onP
    split <;> omega
def F_usI : Fs := fSetIx 2 (fVar 5) (fOp gAdd (fOp gIx (fVar 2) (fVar 5)) (fVar 4))
def F_usB : Fs := fFor (fItM (fOp gCat (fLst (fCons (fVar 3) fNil)) (fCall D_above (fCons (fVar 0) (fCons (fVar 3) fNil))))) (.one 5) F_usI
theorem us_body {bs : List Bud} (vb : VB bs) {fs l : List Int} (hl : l.length = bs.length) {k : Nat} (hk : k < bs.length) (z1 z5 : Option SV) (b : BS) : ∃ z5', F_usB [some (.p (encBs bs)), z1, some (.m (l.map PV.i)), some (.p (nI k)), some (.p (.i (getI fs k))), z5] b =
    some (.nx [some (.p (encBs bs)), z1, some (.m ((usS bs fs l k).map PV.i)), some (.p (nI k)), some (.p (.i (getI fs k))), z5'], b) := by
  have hpl := path_lt vb hk
  let Iv : List Int → Sl → BS → Prop := fun l S b' => b' = b ∧ l.length = bs.length ∧ ∃ z5, S = [some (.p (encBs bs)), z1, some (.m (l.map PV.i)), some (.p (nI k)), some (.p (.i (getI fs k))), z5]
  have step : ∀ (l : List Int) (j : Nat) (S : Sl) (b' : BS), j ∈ pathN bs k → Iv l S b' → ∃ qs S' b'', (Tg.one 5).parts (nI j) = some qs ∧ (F_usI (setS S (Tg.one 5).slots (qs.map SV.p)) b' = some (.nx S', b'') ∨ F_usI (setS S (Tg.one 5).slots (qs.map SV.p)) b' = some (.ct S', b'')) ∧ Iv (l.set j (getI l j - -(getI fs k))) S' b'' := by
    rintro l j S b' hj ⟨rfl, e2, z, rfl⟩
    have hjl : j < l.length := by rw [e2]; exact hpl j hj
    refine ⟨[nI j], [some (.p (encBs bs)), z1, some (.m ((l.set j (getI l j - -(getI fs k))).map PV.i)), some (.p (nI k)), some (.p (.i (getI fs k))), some (.p (nI j))], b', rfl, Or.inl ?_, rfl, by rw [List.length_set]; exact e2, _, rfl⟩
    rw [getI_eq hjl, Int.sub_neg]
    simp [F_usI, nI, hjl, List.map_set]
  obtain ⟨S', b', h1, rfl, h3, z, h4⟩ := for_fold (tg := .one 5) (F := F_usI) Iv (fun l j => l.set j (getI l j - -(getI fs k))) nI (pathN bs k) l [some (.p (encBs bs)), z1, some (.m (l.map PV.i)), some (.p (nI k)), some (.p (.i (getI fs k))), z5] b step ⟨rfl, hl, z5, rfl⟩
  subst h4
  refine ⟨z, for_eq (b1 := b') (xs := (pathN bs k).map nI) ?_ h1⟩
  have hal := above_len bs k k
  have hn := vb.len
  have hl3 : 1 + (aboveN bs k k).length ≤ 100000 := by omega
  have hl4 : (aboveN bs k k).length + 1 ≤ 100000 := by omega
  simp [nI, eq_above vb hk, hl3, hl4, pathN]
theorem eq_used {bs : List Bud} (vb : VB bs) {fs : List Int} (hf : fs.length = bs.length) (b : BS) : D_used [.p (encBs bs), .p (iT fs)] b = some (.p (iT (usI bs fs)), b) := by
  have hn := vb.len
  refine mkFn_eq rfl ?_
  refine (seq_nx (S' := [some (.p (encBs bs)), some (.p (iT fs)), some (.m ((List.replicate bs.length (0 : Int)).map PV.i)), none, none, none]) (b' := b) ?_).trans ?_
  · have hc : bs.length ≤ 100000 := by omega
    have hc' : (bs.length : Int) ≤ 100000 := by omega
    refine (asg_m (ys := (List.replicate bs.length (0 : Int)).map PV.i) (b' := b) ?_).trans rfl
    simp [encBs, hc, hc', stS]
  let Iv : List Int → Sl → BS → Prop := fun l S b' => b' = b ∧ l.length = bs.length ∧ ∃ z3 z4 z5, S = [some (.p (encBs bs)), some (.p (iT fs)), some (.m (l.map PV.i)), z3, z4, z5]
  have step : ∀ (l : List Int) (k : Nat) (S : Sl) (b' : BS), k ∈ List.range fs.length → Iv l S b' → ∃ qs S' b'', (Tg.many [3, 4]).parts (enP fs k) = some qs ∧ (F_usB (setS S (Tg.many [3, 4]).slots (qs.map SV.p)) b' = some (.nx S', b'') ∨ F_usB (setS S (Tg.many [3, 4]).slots (qs.map SV.p)) b' = some (.ct S', b'')) ∧ Iv (usS bs fs l k) S' b'' := by
    rintro l k S b' hk ⟨rfl, e2, z3, z4, z5, rfl⟩
    have hk' : k < bs.length := by rw [← hf]; exact List.mem_range.mp hk
    obtain ⟨z5', h⟩ := us_body vb (fs := fs) e2 hk' (some (.p (iT fs))) z5 b'
    exact ⟨[.i (k : Int), .i (getI fs k)], _, b', rfl, Or.inl h, rfl, by unfold usS; rw [sub_len]; exact e2, _, _, _, rfl⟩
  obtain ⟨S', b', h1, rfl, h3, z3, z4, z5, h4⟩ := for_fold (tg := .many [3, 4]) (F := F_usB) Iv (usS bs fs) (enP fs) (List.range fs.length) (List.replicate bs.length 0) [some (.p (encBs bs)), some (.p (iT fs)), some (.m ((List.replicate bs.length (0 : Int)).map PV.i)), none, none, none] b step ⟨rfl, by simp, none, none, none, rfl⟩
  subst h4
  refine (seq_nx (for_eq (b1 := b') (xs := (List.range fs.length).map (enP fs)) ?_ h1)).trans ?_
  · rw [← enum_range]; rfl
  · rw [hf]
    simp [iT, usI]
theorem zip_get (bs : List Bud) (us : List Int) (h : us.length = bs.length) : (bs.zip us).map (fun q => PV.t [encB q.1, .i q.2]) = (List.range bs.length).map fun k => PV.t [encO bs[k]?, .i (getI us k)] := by
  apply List.ext_getElem?
  intro i
  by_cases hi : i < bs.length
  · rw [List.getElem?_map, List.getElem?_map, List.getElem?_range hi, List.getElem?_zip_eq_some (z := (bs[i], getI us i)).mpr ⟨List.getElem?_eq_getElem hi, getI_get (by rw [h]; exact hi)⟩]
    simp [encO, hi]
  · rw [List.getElem?_eq_none (by simp; omega), List.getElem?_eq_none (by simp; omega)]
theorem eq_within {bs : List Bud} (vb : VB bs) {fs : List Int} (hf : fs.length = bs.length) (hw : ∀ j, j < bs.length → sumN bs.length (fun k => onP bs k j (getI fs k)) ≤ capN bs j) (b : BS) : D_is_within [.p (encBs bs), .p (iT fs)] b = some (.p (.b true), b) := by
  have hn := vb.len
  refine mkFn_eq rfl ?_
  have hu := eq_used vb hf b
  have hul : (usI bs fs).length = bs.length := by unfold usI; rw [us_len, List.length_replicate]
  obtain ⟨S', h1, z2, z3, rfl⟩ := (for_all (tg := .many [2, 3]) (F := (fIf (fTest (fOp gGt (fVar 3) (fOp gIx (fVar 2) (fC (.p (.i 1))))))
      (fRet (fC (.p (.b false))))
      fNext)) (fun S => ∃ z2 z3, S = [some (.p (encBs bs)), some (.p (iT fs)), z2, z3]) (fun _ => true) (.p (.b false)) (fun k => PV.t [encO bs[k]?, .i (getI (usI bs fs) k)]) (List.range bs.length) (stS 4 [.p (encBs bs), .p (iT fs)]) b (by
      rintro k S hk ⟨z2, z3, rfl⟩
      have hk' := List.mem_range.mp hk
      obtain ⟨x, hx⟩ : ∃ x, bs[k]? = some x := ⟨_, List.getElem?_eq_getElem hk'⟩
      have h0 : ¬ x.cap < getI (usI bs fs) k := by
        have h1 := us_get vb fs k bs.length (Nat.le_refl _)
        have h2 := hw k hk'
        have h3 : capN bs k = x.cap := by unfold capN; rw [hx]; rfl
        have h4 : getI (usI bs fs) k = getI ((List.range bs.length).foldl (usS bs fs) (List.replicate bs.length 0)) k := rfl
        omega
      refine ⟨[encO bs[k]?, .i (getI (usI bs fs) k)], rfl, fun _ => ⟨[some (.p (encBs bs)), some (.p (iT fs)), some (.p (encO bs[k]?)), some (.p (.i (getI (usI bs fs) k)))], Or.inl ?_, _, _, rfl⟩, fun hh => by cases hh⟩
      rw [hx]
      simp [encO, encB, h0]) ⟨none, none, rfl⟩).1 (by simp)
  refine (seq_nx (for_eq (b1 := b) ?_ h1)).trans rfl
  rw [← zip_get bs (usI bs fs) hul, ← zip_enc]
  have hu' : D_used [.p (.t (bs.map encB)), .p (.t (fs.map PV.i))] b = some (.p (.t ((usI bs fs).map PV.i)), b) := hu
  simp [hu', stS, encBs, iT]
end K15
/-! K15P22: judge -/
set_option autoImplicit false
namespace K15
open PySem PySem.Spec PyProof.Rows L2 K15R
theorem eq_isint (n lo hi : Int) (b : BS) : D_is_integer [.p (.i n), .p (.i lo), .p (.i hi)] b = some (.p (.b (decide (lo ≤ n) && decide (n ≤ hi))), b) := by
  refine mkFn_eq rfl ?_
  by_cases h : lo ≤ n <;> simp [F_is_integer, stS, PV.isInt, PV.isBool, h]
theorem sum_map {β : Type} (f : β → Int) (ys : List β) : gSum [.m (ys.map fun q => PV.i (f q))] = some (.p (.i (ys.map f).sum)) := by
  show onInts _ [_] = _
  rw [y_onInts, y_lm, Option.bind_some, intsP_map']; rfl
theorem zip_ints (as bs : List Int) : zipL (as.map PV.i) (bs.map PV.i) = (as.zip bs).map fun q => .t [.i q.1, .i q.2] := by
  unfold zipL
  rw [List.zipWith_map, List.zip, List.map_zipWith]
theorem zip_sum : ∀ (as bs : List Int), as.length = bs.length → ((as.zip bs).map fun q => q.1 * q.2).sum = sumN as.length (fun k => getI as k * getI bs k)
  | [], [], _ => rfl
  | a :: as, c :: bs, h => by
    have ih := zip_sum as bs (by simpa using h)
    rw [List.length_cons, sumN_front]
    show a * c + ((as.zip bs).map fun q => q.1 * q.2).sum = a * c + sumN as.length (fun k => getI as k * getI bs k)
    rw [ih]
def fauI (y : Sys) (s e : Int) : List Int := (wAll y.buds (penI y s e)).faults
theorem fau_rw {y : Sys} (v : VS y) (s e : Int) : Rw y.buds.length (fauI y s e) := by
  have W := wi_fin v.vb (pen_pn v s e).len
  refine RN.rw ⟨W.fl, fun j => ?_⟩
  by_cases h : j < y.buds.length
  · exact W.fnn j h
  · unfold fauI getI
    rw [List.getElem?_eq_none (by have := W.fl; omega)]
    exact Int.le_refl _
theorem fau_sum {y : Sys} (v : VS y) (s e : Int) : (((penI y s e).zip (fauI y s e)).map fun q => q.1 * q.2).sum = recI y s e := by
  have W := wi_fin v.vb (pen_pn v s e).len
  have hp := (pen_pn v s e).len
  rw [zip_sum _ _ (by rw [hp]; exact W.fl.symm), hp]
  exact W.tot.symm
theorem eq_junsure {y : Sys} (v : VS y) {s e : Int} (h0 : 0 ≤ s) (he : s ≤ e) (hm : e ≤ 1000000000) (b : BS) : D_judge_unsure [.p (encSy y), .p (.i s), .p (.i e), .p (iT (fauI y s e))] b = some (.p (.b (decide (slI y s e < 0))), b) := by
  refine mkFn_eq rfl ?_
  have hi1 := eq_isint e 0 1000000000 b
  have hi2 := eq_isint s 0 e b
  rw [decide_eq_true (show 0 ≤ e by omega), decide_eq_true hm, Bool.and_true] at hi1
  rw [decide_eq_true h0, decide_eq_true he, Bool.and_true] at hi2
  have hr := eq_isrow (fau_rw v s e) b
  have hp := (pen_pn v s e).len
  have hf := (fau_rw v s e).len
  have hw := eq_within v.vb hf (fun j hj => within v.vb hp hj) b
  have hpe := eq_pens v s e b
  have hde := eq_demand v s e b
  have hn := v.vb.len
  refine (seq_nx (S' := [some (.p (encSy y)), some (.p (.i s)), some (.p (.i e)), some (.p (iT (fauI y s e))), none, none, none]) (b' := b) (by simp [stS, hi1, hi2])).trans ?_
  refine (seq_nx (S' := [some (.p (encSy y)), some (.p (.i s)), some (.p (.i e)), some (.p (iT (fauI y s e))), none, none, none]) (b' := b) ?_).trans ?_
  · simp [encSy, hr, hw]
  have l1 := lc_eq (vs := [5, 6]) (tg := .many [5, 6]) (ft := fYes) (fi := fZip (fCons (fCall D_penalties (fCons (fVar 0) (fCons (fVar 1) (fCons (fVar 2) fNil)))) (fCons (fVar 3) fNil))) (fe := fOp gMul (fVar 5) (fVar 6)) (S := [some (.p (encSy y)), some (.p (.i s)), some (.p (.i e)), some (.p (iT (fauI y s e))), none, none, none]) (b := b) (b1 := b) (xs := ((penI y s e).zip (fauI y s e)).map fun q => .t [.i q.1, .i q.2]) (by
      rw [← zip_ints]
      simp [hpe, iT]) (by rw [List.length_map, List.length_zip]; omega)
      (lc_all (fun q : Int × Int => PV.t [.i q.1, .i q.2]) (fun q => PV.i (q.1 * q.2)) b _ fun q hq => ⟨[.i q.1, .i q.2], rfl, by
        have hm : q.1 ∈ penI y s e := (List.of_mem_zip hq).1
        have := (long_b4 (act_vi v s e)) q.1 hm
        have hmul : cMul q.1 q.2 = true := cMul_l (by omega) (by omega)
        simp [hmul]⟩)
  refine (seq_nx (S' := [some (.p (encSy y)), some (.p (.i s)), some (.p (.i e)), some (.p (iT (fauI y s e))), some (.p (.i (recI y s e))), none, none]) (b' := b) ?_).trans ?_
  · refine (asg_p (x := .i (recI y s e)) (b' := b) (cb1_eq l1 ?_)).trans rfl
    rw [sum_map (fun q : Int × Int => q.1 * q.2), fau_sum v]
  · have hc : decide (e - s < demI y s e + recI y s e) = decide (slI y s e < 0) := by
      unfold slI
      by_cases h : e - s < demI y s e + recI y s e
      · rw [decide_eq_true h, decide_eq_true (by omega)]
      · rw [decide_eq_false h, decide_eq_false (by omega)]
    rw [← hc]
    simp [hde]
/-! ### the loops over the looks -/
theorem ends_len {y : Sys} (v : VN y) {s m : Int} (hm : m ≤ s + 90) : (endsR y s m).length < 64 := by
  have hjl := v.vs.jl
  have h1 : ((y.jobs.filter (inJ s m)).map Item.a).length ≤ 3 := by
    rw [List.length_map]
    have := filt_len (inJ s m) y.jobs
    omega
  have h2 : ∀ x ∈ y.tasks, (tEnds x s m).length ≤ 22 := fun x hx => by
    have hv := v.vt x hx
    have hlo := lo_ge (s := s) hv.d.1
    have ha : 4 ≤ x.a := by have := hv.a; have := hv.w; omega
    unfold tEnds Builtin.Range.rangeSize
    rw [List.length_map, List.length_range, if_pos (by omega)]
    split
    · have h3 : (m + 1 - loI x s - 1) / x.a < 22 := (Int.ediv_lt_iff_lt_mul (by omega)).mpr (by omega)
      omega
    · simp
  have h3 : ∀ (xs : List Item) (l : List Int), (∀ x ∈ xs, (tEnds x s m).length ≤ 22) → (xs.foldl (fun l x => l ++ tEnds x s m) l).length ≤ l.length + 22 * xs.length := by
    intro xs
    induction xs with
    | nil => intro l _; simp
    | cons x xs ih =>
      intro l h
      rw [List.foldl_cons]
      have i1 := ih (l ++ tEnds x s m) fun z hz => h z (List.mem_cons_of_mem _ hz)
      have i2 := h x List.mem_cons_self
      rw [List.length_append] at i1
      rw [List.length_cons]
      omega
  have h4 := h3 y.tasks ((y.jobs.filter (inJ s m)).map Item.a) h2
  have := v.vs.tl
  have h5 : (endsR y s m).length ≤ ((y.jobs.filter (inJ s m)).map Item.a).length + 22 * y.tasks.length := h4
  omega
theorem ends_ok {y : Sys} (v : VN y) (h90 : horI y ≤ 90) {s : Int} (h0 : 0 ≤ s) (h7 : s ≤ 7) (b : BS) : D_ends_of [.p (encSy y), .p (.i s), .p (.i (s + horI y))] b = some (.m ((endsI y s (s + horI y)).map PV.i), b) := by
  have hh := hor_nn v
  refine eq_ends v.vs (fun x hx => ?_) (ends_len v (by omega)) b
  have hv := v.vt x hx
  refine ⟨?_, by omega, (v.vs.tsk x hx).1.gap (v.vs.tsk x hx).2⟩
  have := hv.r
  have := hv.d
  unfold loI
  split <;> omega
/-- s from 0 to latest -/
def secs (y : Sys) : List Nat := List.range (latI y + 1).toNat
theorem mem_secs {y : Sys} {k : Nat} : k ∈ secs y ↔ (k : Int) ≤ latI y := by
  unfold secs
  rw [List.mem_range]; omega
theorem secs_rng {y : Sys} (v : VN y) {S : Sl} {b : BS} {i : Nat} (hi : S[i]? = some (some (.p (encSy y)))) : fRng1 (fCons (fOp gAdd (fCall D_latest_of (fCons (fVar i) fNil)) (fC (.p (.i 1)))) fNil) S b = some ((secs y).map nI, b) := by
  have hl := eq_latest v.vs b
  obtain ⟨l0, l7, _⟩ := lat_bd v
  have e1 : fVar i S b = some (.p (encSy y), b) := by rw [z_var, hi]; rfl
  have h1 : -(2 ^ 62) ≤ latI y + 1 ∧ latI y + 1 < 2 ^ 62 := by omega
  rw [z_rng1, z_cons, op_eq (call1_eq e1 hl) (y := .p (.i 1)) (b2 := b) (z := .p (.i (latI y + 1))) rfl rfl, bnd_mk, z_nil, bnd_mk, bnd_mk]
  show (if -(2 ^ 62) ≤ latI y + 1 ∧ latI y + 1 < 2 ^ 62 then _ else _) = _
  rw [if_pos h1, rng_up]; rfl
theorem tnot_eq {ft : Ft} {S : Sl} {b b1 : BS} {c : Bool} (h : ft S b = some (c, b1)) : fTNot ft S b = some (!c, b1) := by rw [z_tnot, h]; rfl
theorem tor_f {ft fu : Ft} {S : Sl} {b b1 : BS} {r : Option (Bool × BS)} (h : ft S b = some (false, b1)) (h2 : fu S b1 = r) : fTOr ft fu S b = r := by rw [z_tor, h]; exact h2
theorem tor_t {ft fu : Ft} {S : Sl} {b b1 : BS} (h : ft S b = some (true, b1)) : fTOr ft fu S b = some (true, b1) := by rw [z_tor, h]; rfl
theorem if_f {ft : Ft} {F1 : Fs} {S : Sl} {b b1 : BS} (h : ft S b = some (false, b1)) : fIf ft F1 fNext S b = some (.nx S, b1) := by rw [z_if, h]; rfl
theorem if_t {ft : Ft} {F1 F2 : Fs} {S : Sl} {b b1 : BS} {r : Option (Out × BS)} (h : ft S b = some (true, b1)) (h2 : F1 S b1 = r) : fIf ft F1 F2 S b = r := by rw [z_if, h]; exact h2
def jsI (y : Sys) (rows : List (List Int)) : Bool := (secs y).all fun s => (endsI y s (s + horI y)).all fun e => heldI y s e rows
def F_jsI : Fs := (fIf (fTNot (fTest (fCall D_is_held (fCons (fVar 0) (fCons (fVar 3) (fCons (fVar 4) (fCons (fVar 1) fNil)))))))
        (fRet (fC (.p (.b false))))
        fNext)
def F_jsB : Fs := (fFor (fItM (fCall D_ends_of (fCons (fVar 0) (fCons (fVar 3) (fCons (fOp gAdd (fVar 3) (fVar 2)) fNil))))) (.one 4) F_jsI)
theorem eq_jsure {y : Sys} (v : VN y) (h90 : horI y ≤ 90) {rows : List (List Int)} (hr : ∀ r ∈ rows, Rw y.buds.length r) (hrl : rows.length ≤ 1000) (b : BS) : D_judge_sure [.p (encSy y), .p (rowsP rows)] b = some (.p (.b (jsI y rows)), b) := by
  refine mkFn_eq rfl ?_
  obtain ⟨l0, l7, _⟩ := lat_bd v
  have l1 := lc_eq (vs := [5]) (tg := .one 5) (ft := fYes) (fi := fItT (fVar 1)) (fe := fCall D_is_row (fCons (fVar 5) (fCons (fOp gIx (fVar 0) (fC (.p (.i 1)))) fNil))) (S := stS 6 [.p (encSy y), .p (rowsP rows)]) (b := b) (b1 := b) (xs := rows.map iT) rfl (by rw [List.length_map]; omega)
    (lc_all iT (fun _ => PV.b true) b rows fun r hx => ⟨[iT r], rfl, by
      have := eq_isrow (hr r hx) b
      simp [stS, encSy, this]⟩)
  have hb : boolsP (rows.map fun _ => PV.b true) = some (rows.map fun _ => true) := by
    have : (rows.map fun _ => PV.b true) = (rows.map fun _ => true).map PV.b := by rw [List.map_map]; rfl
    rw [this, boolsP_map]
  have hall : fCB gAll (fCons (fLc (fItT (fVar 1)) (.one 5) fYes (fCall D_is_row (fCons (fVar 5) (fCons (fOp gIx (fVar 0) (fC (.p (.i 1)))) fNil))) [5]) fNil) (stS 6 [.p (encSy y), .p (rowsP rows)]) b = some (.p (.b true), b) := cb1_eq l1 (by
    show ((some (rows.map fun _ => PV.b true)).bind boolsP).map _ = _
    rw [Option.bind_some, hb]
    simp)
  have hh := eq_horizon v b
  refine (seq_nx (S' := stS 6 [.p (encSy y), .p (rowsP rows)]) (b' := b) ?_).trans ?_
  · have ht : fTest (fCB gAll (fCons (fLc (fItT (fVar 1)) (.one 5) fYes (fCall D_is_row (fCons (fVar 5) (fCons (fOp gIx (fVar 0) (fC (.p (.i 1)))) fNil))) [5]) fNil)) (stS 6 [.p (encSy y), .p (rowsP rows)]) b = some (true, b) := by
      rw [z_test, hall]; rfl
    have h1 : fTNot (fTest (fCB gIsi (fCons (fVar 1) (fCons (fC (.ty "tuple")) fNil)))) (stS 6 [.p (encSy y), .p (rowsP rows)]) b = some (false, b) := by simp [stS, rowsP, PV.isTup]
    exact if_f (tor_f h1 (tnot_eq ht))
  refine (seq_nx (S' := [some (.p (encSy y)), some (.p (rowsP rows)), some (.p (.i (horI y))), none, none, none]) (b' := b) (by simp [stS, hh])).trans ?_
  have inner : ∀ (s : Nat) (z4 z5 : Option SV), s ∈ secs y → ((endsI y s (s + horI y)).all (fun e => heldI y s e rows) = true → ∃ z4', F_jsB [some (.p (encSy y)), some (.p (rowsP rows)), some (.p (.i (horI y))), some (.p (nI s)), z4, z5] b = some (.nx [some (.p (encSy y)), some (.p (rowsP rows)), some (.p (.i (horI y))), some (.p (nI s)), z4', z5], b)) ∧ ((endsI y s (s + horI y)).all (fun e => heldI y s e rows) = false → F_jsB [some (.p (encSy y)), some (.p (rowsP rows)), some (.p (.i (horI y))), some (.p (nI s)), z4, z5] b = some (.rt (.p (.b false)), b)) := by
    intro s z4 z5 hs
    have hs' := mem_secs.mp hs
    have he := ends_ok v h90 (s := s) (by omega) (by omega) b
    have efi : fItM (fCall D_ends_of (fCons (fVar 0) (fCons (fVar 3) (fCons (fOp gAdd (fVar 3) (fVar 2)) fNil)))) [some (.p (encSy y)), some (.p (rowsP rows)), some (.p (.i (horI y))), some (.p (nI s)), z4, z5] b = some ((endsI y s (s + horI y)).map PV.i, b) := by
      simp [nI, he]
    have key := for_all (tg := .one 4) (F := F_jsI) (fun S => ∃ z4, S = [some (.p (encSy y)), some (.p (rowsP rows)), some (.p (.i (horI y))), some (.p (nI s)), z4, z5]) (fun e => heldI y s e rows) (.p (.b false)) PV.i (endsI y s (s + horI y)) [some (.p (encSy y)), some (.p (rowsP rows)), some (.p (.i (horI y))), some (.p (nI s)), z4, z5] b (by
      rintro e S _ ⟨z, rfl⟩
      have hd := eq_held v.vs s e hr b
      refine ⟨[.i e], rfl, fun ho => ⟨[some (.p (encSy y)), some (.p (rowsP rows)), some (.p (.i (horI y))), some (.p (nI s)), some (.p (.i e)), z5], Or.inl ?_, _, rfl⟩, fun ho => ?_⟩
      · rw [ho] at hd
        simp [F_jsI, nI, hd]
      · rw [ho] at hd
        simp [F_jsI, nI, hd]) ⟨z4, rfl⟩
    refine ⟨fun h => ?_, fun h => for_eq efi (key.2 h)⟩
    obtain ⟨S', h1, z, rfl⟩ := key.1 h
    exact ⟨z, for_eq efi h1⟩
  have key := for_all (tg := .one 3) (F := F_jsB) (fun S => ∃ z3 z4 z5, S = [some (.p (encSy y)), some (.p (rowsP rows)), some (.p (.i (horI y))), z3, z4, z5]) (fun (s : Nat) => (endsI y s (s + horI y)).all fun e => heldI y s e rows) (.p (.b false)) nI (secs y) [some (.p (encSy y)), some (.p (rowsP rows)), some (.p (.i (horI y))), none, none, none] b (by
    rintro s S hs ⟨z3, z4, z5, rfl⟩
    obtain ⟨i1, i2⟩ := inner s z4 z5 hs
    refine ⟨[nI s], rfl, fun ho => ?_, fun ho => i2 ho⟩
    obtain ⟨z4', h⟩ := i1 ho
    exact ⟨_, Or.inl h, _, _, _, rfl⟩) ⟨none, none, none, rfl⟩
  have efi := secs_rng v (S := [some (.p (encSy y)), some (.p (rowsP rows)), some (.p (.i (horI y))), none, none, none]) (b := b) (i := 0) rfl
  cases hc : jsI y rows with
  | true =>
    obtain ⟨S', h1, z3, z4, z5, rfl⟩ := key.1 hc
    exact (seq_nx (for_eq efi h1)).trans rfl
  | false => exact seq_rt (for_eq efi (key.2 hc))
def sureP (rows : List (List Int)) : PV := .t [.s (Str.ofString "sure"), rowsP rows]
def unsP (s e : Int) (fs : List Int) : PV := .t [.s (Str.ofString "unsure"), .i s, .i e, iT fs]
theorem uns_ne : (Str.ofString "unsure" = Str.ofString "sure") = False := by
  have : ¬ (Str.ofString "unsure" = Str.ofString "sure") := by decide +kernel
  simp [this]
theorem eq_judgeS {y : Sys} (v : VN y) (h90 : horI y ≤ 90) {rows : List (List Int)} (hr : ∀ r ∈ rows, Rw y.buds.length r) (hrl : rows.length ≤ 1000) (b : BS) : D_judge [.p (encSy y), .p (sureP rows)] b = some (.p (.b (jsI y rows)), b) := by
  refine mkFn_eq rfl ?_
  have hj := eq_jsure v h90 hr hrl b
  simp [F_judge, stS, sureP, PV.isTup, hj]
theorem eq_judgeU {y : Sys} (v : VS y) {s e : Int} (h0 : 0 ≤ s) (he : s ≤ e) (hm : e ≤ 1000000000) (b : BS) : D_judge [.p (encSy y), .p (unsP s e (fauI y s e))] b = some (.p (.b (decide (slI y s e < 0))), b) := by
  refine mkFn_eq rfl ?_
  have hj := eq_junsure v h0 he hm b
  simp [F_judge, stS, unsP, PV.isTup, hj, uns_ne]
end K15
/-! K15P23: not in; looks; is_sure; paper_of -/
set_option autoImplicit false
namespace K15
open PySem PySem.Spec PyProof.Rows L2 K15R
def ShD (k : Nat) (d : PyData) : Prop := d.canLay0 = true ∧ d.depth ≤ k
theorem shd_all {k : Nat} : ∀ {xs : List PV}, (∀ x ∈ xs, ShD k x.data) → PyData.canLayAll0 (dataL xs) = true ∧ PyData.depthAll (dataL xs) ≤ k
  | [], _ => ⟨rfl, Nat.zero_le _⟩
  | x :: xs, h => by
    obtain ⟨h1, h2⟩ := h x List.mem_cons_self
    obtain ⟨h3, h4⟩ := shd_all fun z hz => h z (List.mem_cons_of_mem _ hz)
    rw [dataL]
    refine ⟨?_, ?_⟩
    · rw [PyData.canLayAll0, h1, h3]; rfl
    · rw [PyData.depthAll]; exact Nat.max_le.mpr ⟨h2, h4⟩
theorem shd_t {k : Nat} {xs : List PV} (h : ∀ x ∈ xs, ShD k x.data) : ShD (k + 1) (PV.t xs).data := by
  obtain ⟨h1, h2⟩ := shd_all h
  rw [PV.data]
  refine ⟨?_, ?_⟩
  · rw [PyData.canLay0]; exact h1
  · rw [PyData.depth]; omega
theorem shd_i (k : Nat) (n : Int) : ShD k (PV.i n).data := ⟨rfl, Nat.zero_le _⟩
theorem shd_ints (ns : List Int) : ShD 1 (iT ns).data := shd_t fun x hx => by
  obtain ⟨n, _, rfl⟩ := List.mem_map.mp hx
  exact shd_i 0 n
theorem ShD.up {k m : Nat} {d : PyData} (h : ShD k d) (hm : k ≤ m) : ShD m d := ⟨h.1, Nat.le_trans h.2 hm⟩
theorem notin_eq {x : PV} {ys : List PV} {y : SV} (hy : y.lst = some ys) (hx : ShD 8 x.data) (hys : ∀ z ∈ ys, ShD 8 z.data) : gNotIn (.p x) y = some (.p (.b (!(dataL ys).any fun z => PyData.eqv z x.data))) := by
  obtain ⟨h1, h2⟩ := shd_all hys
  have e1 : SeqAt.shaped x.data = true := by
    unfold SeqAt.shaped
    rw [hx.1, decide_eq_true (show x.data.depth ≤ 64 by have := hx.2; omega)]; rfl
  have e2 : SeqAt.shaped (.list (dataL ys)) = true := by
    unfold SeqAt.shaped
    rw [PyData.canLay0, h1, PyData.depth, decide_eq_true (show PyData.depthAll (dataL ys) + 1 ≤ 64 by omega)]; rfl
  show (match y.lst with | some ys => if SeqAt.shaped x.data && SeqAt.shaped (.list (dataL ys)) then _ else _ | none => none) = _
  rw [hy]
  show (if SeqAt.shaped x.data && SeqAt.shaped (.list (dataL ys)) then _ else _) = _
  rw [e1, e2]; rfl
theorem dataL_mem {d : PyData} : ∀ {ys : List PV}, d ∈ dataL ys ↔ ∃ z ∈ ys, d = z.data
  | [] => by simp [dataL]
  | z :: ys => by
    rw [dataL, List.mem_cons, dataL_mem (ys := ys)]
    constructor
    · rintro (h | ⟨w, hw, h⟩)
      · exact ⟨z, List.mem_cons_self, h⟩
      · exact ⟨w, List.mem_cons_of_mem _ hw, h⟩
    · rintro ⟨w, hw, h⟩
      rcases List.mem_cons.mp hw with rfl | hw
      · exact Or.inl h
      · exact Or.inr ⟨w, hw, h⟩
theorem notin_mem {x : PV} {ys : List PV} (hx : ShD 8 x.data) (h : x ∈ ys) : ((dataL ys).any fun z => PyData.eqv z x.data) = true :=
  List.any_eq_true.mpr ⟨x.data, dataL_mem.mpr ⟨x, h, rfl⟩, SeqAt.eqv_refl _ hx.1⟩
theorem eqv_ints : ∀ (as bs : List Int), PyData.eqvAll (dataL (as.map PV.i)) (dataL (bs.map PV.i)) = true → as = bs
  | [], [], _ => rfl
  | [], b :: bs, h => by
    simp only [List.map_nil, List.map_cons, dataL, PyData.eqvAll] at h
    cases h
  | a :: as, [], h => by
    simp only [List.map_nil, List.map_cons, dataL, PyData.eqvAll] at h
    cases h
  | a :: as, b :: bs, h => by
    simp only [List.map_cons, dataL, PyData.eqvAll, PV.data, PyData.eqv, Bool.and_eq_true, beq_iff_eq] at h
    rw [h.1, eqv_ints as bs h.2]
theorem in_rows {r : List Int} {rows : List (List Int)} (h : ((dataL (rows.map iT)).any fun z => PyData.eqv z (iT r).data) = true) : r ∈ rows := by
  obtain ⟨d, h1, h2⟩ := List.any_eq_true.mp h
  obtain ⟨z, hz, rfl⟩ := dataL_mem.mp h1
  obtain ⟨q, hq, rfl⟩ := List.mem_map.mp hz
  have : PyData.eqvAll (dataL (q.map PV.i)) (dataL (r.map PV.i)) = true := by
    have h3 : PyData.eqv (.tuple (dataL (q.map PV.i))) (.tuple (dataL (r.map PV.i))) = true := h2
    rw [PyData.eqv] at h3
    exact h3
  rw [← eqv_ints q r this]
  exact hq
/-! ### looks -/
theorem uins_len (k : Int) : ∀ xs : List Int, (uins k xs).length ≤ xs.length + 1
  | [] => by simp [uins]
  | x :: xs => by
    have := uins_len k xs
    unfold uins
    split
    · simp
    · split
      · simp
      · simp; omega
theorem usort_len : ∀ xs : List Int, (usort xs).length ≤ xs.length
  | [] => by simp [usort]
  | x :: xs => by
    have h1 := usort_len xs
    have h2 := uins_len x (usort xs)
    show (uins x (usort xs)).length ≤ xs.length + 1
    omega
def lkE (y : Sys) (s : Nat) : List (Nat × Int) := (endsI y s (s + horI y)).map fun e => (s, e)
def looksI (y : Sys) : List (Nat × Int) := (secs y).flatMap (lkE y)
def enL (y : Sys) (q : Nat × Int) : PV := .t [nI q.1, .i q.2, toldI y q.1 q.2]
theorem mem_looks {y : Sys} {q : Nat × Int} : q ∈ looksI y ↔ (q.1 : Int) ≤ latI y ∧ q.2 ∈ endsI y q.1 (q.1 + horI y) := by
  unfold looksI lkE
  rw [List.mem_flatMap]
  constructor
  · rintro ⟨s, hs, h⟩
    obtain ⟨e, he, rfl⟩ := List.mem_map.mp h
    exact ⟨mem_secs.mp hs, he⟩
  · rintro ⟨h1, h2⟩
    exact ⟨q.1, mem_secs.mpr h1, List.mem_map.mpr ⟨q.2, h2, rfl⟩⟩
theorem ends_len2 {y : Sys} (v : VN y) (h90 : horI y ≤ 90) (s : Nat) : (endsI y s (s + horI y)).length < 64 :=
  Nat.lt_of_le_of_lt (usort_len _) (ends_len v (by omega))
theorem lk_len {y : Sys} (v : VN y) (h90 : horI y ≤ 90) : ∀ d : List Nat, (d.flatMap (lkE y)).length ≤ 64 * d.length
  | [] => by simp
  | s :: d => by
    have h1 := lk_len v h90 d
    have h2 := ends_len2 v h90 s
    rw [List.flatMap_cons, List.length_append, List.length_cons]
    have h3 : (lkE y s).length = (endsI y s (s + horI y)).length := List.length_map _
    omega
theorem secs_len {y : Sys} (v : VN y) : (secs y).length ≤ 8 := by
  obtain ⟨l0, l7, _⟩ := lat_bd v
  unfold secs
  rw [List.length_range]
  omega
def F_lkI : Fs := (fApp 2 (fTup (fCons (fVar 3) (fCons (fVar 4) (fCons (fCall D_analysis (fCons (fVar 0) (fCons (fVar 3) (fCons (fVar 4) fNil)))) fNil)))))
def F_lkB : Fs := (fFor (fItM (fCall D_ends_of (fCons (fVar 0) (fCons (fVar 3) (fCons (fOp gAdd (fVar 3) (fVar 1)) fNil))))) (.one 4) F_lkI)
theorem eq_looks {y : Sys} (v : VN y) (h90 : horI y ≤ 90) (b : BS) : D_looks [.p (encSy y)] b = some (.m ((looksI y).map (enL y)), b) := by
  apply Ok.eq
  obtain ⟨l0, l7, _⟩ := lat_bd v
  have hh := eq_horizon v b
  refine ok_fn rfl ?_
  refine wp_seq (Ok.of (a := .nx [some (.p (encSy y)), some (.p (.i (horI y))), none, none, none]) (b := b) (by simp [stS, hh]) ?_)
  refine wp_seq (Ok.of (a := .nx [some (.p (encSy y)), some (.p (.i (horI y))), some (.m []), none, none]) (b := b) (by simp) ?_)
  have efi := secs_rng v (S := [some (.p (encSy y)), some (.p (.i (horI y))), some (.m []), none, none]) (b := b) (i := 0) rfl
  refine wp_seq ?_
  refine wp_for nI (fun d S b' => b' = b ∧ ∃ z3 z4, S = [some (.p (encSy y)), some (.p (.i (horI y))), some (.m ((d.flatMap (lkE y)).map (enL y))), z3, z4]) (secs y) efi ⟨rfl, none, none, rfl⟩ ?_ ?_
  · rintro d s e S b' hd ⟨rfl, z3, z4, rfl⟩
    have hs : s ∈ secs y := by rw [hd]; simp
    have hs' := mem_secs.mp hs
    have hdl : d.length ≤ 8 := by
      have := secs_len v
      rw [hd, List.length_append] at this
      omega
    have hlk := lk_len v h90 d
    have hel := ends_len2 v h90 s
    have he := ends_ok v h90 (s := s) (by omega) (by omega) b'
    refine ⟨[nI s], rfl, ?_⟩
    refine wp_for PV.i (fun d' S b'' => b'' = b' ∧ ∃ z4, S = [some (.p (encSy y)), some (.p (.i (horI y))), some (.m ((d.flatMap (lkE y) ++ d'.map fun e => (s, e)).map (enL y))), some (.p (nI s)), z4]) (endsI y s (s + horI y)) (b1 := b') ?_ ⟨rfl, z4, by simp⟩ ?_ ?_
    · simp [nI, he]
    · rintro d' e' r' S b'' hd' ⟨rfl, z4, rfl⟩
      have ha := eq_analysis v.vs s e' b''
      have hlen : (d.flatMap (lkE y) ++ d'.map fun e => (s, e)).length < 100000 := by
        rw [List.length_append, List.length_map]
        have : d'.length ≤ (endsI y s (s + horI y)).length := by rw [hd', List.length_append]; omega
        omega
      generalize d.flatMap (lkE y) = L at *
      refine ⟨[.i e'], rfl, Ok.of (a := .nx [some (.p (encSy y)), some (.p (.i (horI y))), some (.m ((L ++ (d' ++ [e']).map fun e => (s, e)).map (enL y))), some (.p (nI s)), some (.p (.i e'))]) (b := b'') ?_ ?_⟩
      · rw [List.map_append (l₁ := d'), ← List.append_assoc]
        generalize (L ++ d'.map fun e => (s, e)) = M at *
        simp [F_lkI, ha, nI, hlen, enL]
      · exact ⟨rfl, _, rfl⟩
    · rintro S b'' ⟨rfl, z, rfl⟩
      refine ⟨rfl, some (.p (nI s)), z, ?_⟩
      rw [List.flatMap_append, List.flatMap_cons, List.flatMap_nil, List.append_nil]; rfl
  · rintro S b' ⟨rfl, z3, z4, rfl⟩
    exact wp_retV rfl ⟨rfl, rfl⟩
/-! ### is_crowded, is_sure -/
theorem eq_crowd {y : Sys} (v : VS y) (s e : Int) (b : BS) : D_is_crowded [.p (encSy y), .p (.i s), .p (.i e)] b = some (.p (.b (decide (slI y s e < 0))), b) := by
  refine mkFn_eq rfl ?_
  have hd := eq_demand v s e b
  have hp := eq_pens v s e b
  have hw := eq_worst v.vb (pen_pn v s e) b
  have hc : decide (e - s < demI y s e + recI y s e) = decide (slI y s e < 0) := by
    unfold slI
    by_cases h : e - s < demI y s e + recI y s e
    · rw [decide_eq_true h, decide_eq_true (by omega)]
    · rw [decide_eq_false h, decide_eq_false (by omega)]
  rw [← hc]
  refine (seq_nx (S' := [some (.p (encSy y)), some (.p (.i s)), some (.p (.i e)), some (.p (.i (demI y s e)))]) (b' := b) (by simp [stS, hd])).trans ?_
  have hw' : D_worst [.p (encBs y.buds), .p (iT (penI y s e))] b = some (.p (.t [.i (recI y s e), iT (fauI y s e)]), b) := hw
  rw [show encSy y = .t [.s (Str.ofString "system"), encBs y.buds, .t (y.jobs.map encI), .t (y.tasks.map encI)] from rfl] at hp ⊢
  simp [hp, hw']
def suI (y : Sys) : Bool := (secs y).all fun s => (endsI y s (s + horI y)).all fun e => !decide (slI y s e < 0)
def F_suI : Fs := (fIf (fTest (fCall D_is_crowded (fCons (fVar 0) (fCons (fVar 2) (fCons (fVar 3) fNil)))))
        (fRet (fC (.p (.b false))))
        fNext)
def F_suB : Fs := (fFor (fItM (fCall D_ends_of (fCons (fVar 0) (fCons (fVar 2) (fCons (fOp gAdd (fVar 2) (fVar 1)) fNil))))) (.one 3) F_suI)
theorem eq_sure {y : Sys} (v : VN y) (h90 : horI y ≤ 90) (b : BS) : D_is_sure [.p (encSy y)] b = some (.p (.b (suI y)), b) := by
  apply Ok.eq
  obtain ⟨l0, l7, _⟩ := lat_bd v
  have hh := eq_horizon v b
  refine ok_fn rfl ?_
  refine wp_seq (Ok.of (a := .nx [some (.p (encSy y)), some (.p (.i (horI y))), none, none]) (b := b) (by simp [stS, hh]) ?_)
  have efi := secs_rng v (S := [some (.p (encSy y)), some (.p (.i (horI y))), none, none]) (b := b) (i := 0) rfl
  have no : ∀ (s : Nat) (e : Int), s ∈ secs y → e ∈ endsI y s (s + horI y) → slI y s e < 0 → suI y = false := fun s e hs he hc => by
    refine Bool.eq_false_iff.mpr fun ht => ?_
    have := List.all_eq_true.mp (List.all_eq_true.mp ht s hs) e he
    rw [decide_eq_true hc] at this
    cases this
  refine wp_seq ?_
  refine wp_for nI (fun d S b' => b' = b ∧ (∃ z2 z3, S = [some (.p (encSy y)), some (.p (.i (horI y))), z2, z3]) ∧ ∀ s ∈ d, ∀ e ∈ endsI y s (s + horI y), ¬ slI y s e < 0) (secs y) efi ⟨rfl, ⟨none, none, rfl⟩, fun s hs => by cases hs⟩ ?_ ?_
  · rintro d s e S b' hd ⟨rfl, ⟨z2, z3, rfl⟩, hI⟩
    have hs : s ∈ secs y := by rw [hd]; simp
    have hs' := mem_secs.mp hs
    have he := ends_ok v h90 (s := s) (by omega) (by omega) b'
    refine ⟨[nI s], rfl, ?_⟩
    refine wp_for PV.i (fun d' S b'' => b'' = b' ∧ (∃ z3, S = [some (.p (encSy y)), some (.p (.i (horI y))), some (.p (nI s)), z3]) ∧ ∀ e ∈ d', ¬ slI y s e < 0) (endsI y s (s + horI y)) (b1 := b') ?_ ⟨rfl, ⟨z3, rfl⟩, fun e he => by cases he⟩ ?_ ?_
    · simp [nI, he]
    · rintro d' e' r' S b'' hd' ⟨rfl, ⟨z3, rfl⟩, hI'⟩
      have hc := eq_crowd v.vs s e' b''
      have he' : e' ∈ endsI y s (s + horI y) := by rw [hd']; simp
      refine ⟨[.i e'], rfl, ?_⟩
      refine wp_if (c := decide (slI y s e' < 0)) (b1 := b'') (by simp [nI, hc]) (fun ht => ?_) (fun hf => ?_)
      · refine wp_ret (Ok.of rfl ⟨?_, rfl⟩)
        rw [no s e' hs he' (of_decide_eq_true ht)]
      · refine wp_next ⟨rfl, ⟨_, rfl⟩, fun e he => ?_⟩
        rcases List.mem_append.mp he with h | h
        · exact hI' e h
        · rw [List.mem_singleton.mp h]; exact of_decide_eq_false hf
    · rintro S b'' ⟨rfl, ⟨z3, rfl⟩, hI'⟩
      refine ⟨rfl, ⟨_, _, rfl⟩, fun s' hs' => ?_⟩
      rcases List.mem_append.mp hs' with h | h
      · exact hI s' h
      · rw [List.mem_singleton.mp h]; exact hI'
  · rintro S b' ⟨rfl, ⟨z2, z3, rfl⟩, hI⟩
    refine wp_ret (Ok.of rfl ⟨?_, rfl⟩)
    have : suI y = true := List.all_eq_true.mpr fun s hs => List.all_eq_true.mpr fun e he => by
      rw [decide_eq_false (hI s hs e he)]; rfl
    rw [this]
/-! ### paper_of -/
theorem toldS (y : Sys) (s e : Int) : toldI y s e = .t [.i (demI y s e), .i (recI y s e), .i (slI y s e), iT (fauI y s e), iT (prI y.buds (penI y s e))] := rfl
def PapOk (y : Sys) (r : PV) : Prop := (∃ q ∈ looksI y, r = unsP q.1 q.2 (fauI y q.1 q.2) ∧ slI y q.1 q.2 < 0) ∨
  ∃ rows : List (List Int), r = sureP rows ∧ rows.length ≤ 1000 ∧ (∀ r ∈ rows, Rw y.buds.length r) ∧ ∀ q ∈ looksI y, 0 ≤ slI y q.1 q.2 ∧ prI y.buds (penI y q.1 q.2) ∈ rows
theorem ok_paper {y : Sys} (v : VN y) (h90 : horI y ≤ 90) (b : BS) : Ok (D_paper_of [.p (encSy y)] b) fun r b' => b' = b ∧ ∃ p, r = .p p ∧ PapOk y p := by
  refine ok_fn rfl ?_
  have hlk := eq_looks v h90 b
  have hll : (looksI y).length ≤ 512 := by
    have h1 := lk_len v h90 (secs y)
    have h2 := secs_len v
    have h3 : (looksI y).length ≤ 64 * (secs y).length := h1
    omega
  refine wp_seq (Ok.of (a := .nx [some (.p (encSy y)), some (.m []), none, none, none]) (b := b) (by simp [stS]) ?_)
  refine wp_seq ?_
  refine wp_for (enL y) (fun d S b' => b' = b ∧ ∃ (rows : List (List Int)) (z2 z3 z4 : Option SV), S = [some (.p (encSy y)), some (.m (rows.map iT)), z2, z3, z4] ∧ rows.length ≤ d.length ∧ (∀ r ∈ rows, Rw y.buds.length r) ∧ ∀ q ∈ d, 0 ≤ slI y q.1 q.2 ∧ prI y.buds (penI y q.1 q.2) ∈ rows) (looksI y) (b1 := b) (by simp [hlk]) ⟨rfl, [], none, none, none, rfl, Nat.le_refl _, (fun r hr => by cases hr), (fun r hr => by cases hr)⟩ ?_ ?_
  · rintro d q e S b' hd ⟨rfl, rows, z2, z3, z4, rfl, hr1, hr2, hr3⟩
    have hq : q ∈ looksI y := by rw [hd]; simp
    have hdl : d.length < 512 := by rw [hd, List.length_append, List.length_cons] at hll; omega
    refine ⟨[nI q.1, .i q.2, toldI y q.1 q.2], rfl, ?_⟩
    refine wp_seq ?_
    refine wp_if (c := decide (slI y q.1 q.2 < 0)) (b1 := b') (by rw [toldS]; simp [nI]) (fun ht => ?_) (fun hf => ?_)
    · refine wp_ret ?_
      refine Ok.of (a := .p (unsP q.1 q.2 (fauI y q.1 q.2))) (b := b') (by simp [toldI, unsP, fauI, nI]) ⟨rfl, _, rfl, Or.inl ⟨q, hq, rfl, of_decide_eq_true ht⟩⟩
    · have hsl : 0 ≤ slI y q.1 q.2 := by have := of_decide_eq_false hf; omega
      refine wp_next ?_
      have hst := strong v.vs.vb (pen_pn v.vs q.1 q.2).len (long_b4 (act_vi v.vs q.1 q.2))
      have hni := notin_eq (y := .m (rows.map iT)) (x := iT (prI y.buds (penI y q.1 q.2))) rfl ((shd_ints _).up (by omega)) (fun z hz => by
        obtain ⟨r, _, rfl⟩ := List.mem_map.mp hz
        exact (shd_ints r).up (by omega))
      refine wp_if (c := !(dataL (rows.map iT)).any fun z => PyData.eqv z (iT (prI y.buds (penI y q.1 q.2))).data) (b1 := b') ?_ (fun ht => ?_) (fun hf2 => ?_)
      · have e1 : fOp gIx (fVar 4) (fC (.p (.i 4))) (setS [some (.p (encSy y)), some (.m (rows.map iT)), z2, z3, z4] (Tg.many [2, 3, 4]).slots ([nI q.1, .i q.2, toldI y q.1 q.2].map SV.p)) b' = some (.p (iT (prI y.buds (penI y q.1 q.2))), b') := by
          simp [toldI]
        rw [z_test, op_eq e1 (y := .l (rows.map iT)) (b2 := b') rfl (by rw [notin_eq (y := .l (rows.map iT)) (x := iT (prI y.buds (penI y q.1 q.2))) rfl ((shd_ints _).up (by omega)) (fun z hz => by
          obtain ⟨r, _, rfl⟩ := List.mem_map.mp hz
          exact (shd_ints r).up (by omega))])]
        rfl
      · have hlr : rows.length < 100000 := by omega
        refine Ok.of (a := .nx [some (.p (encSy y)), some (.m ((rows ++ [prI y.buds (penI y q.1 q.2)]).map iT)), some (.p (nI q.1)), some (.p (.i q.2)), some (.p (toldI y q.1 q.2))]) (b := b') (by simp [toldI, hlr]) ?_
        refine ⟨rfl, _, _, _, _, rfl, by simp; omega, fun r hr => ?_, fun q' hq' => ?_⟩
        · rcases List.mem_append.mp hr with h | h
          · exact hr2 r h
          · rw [List.mem_singleton.mp h]; exact hst.1
        · rcases List.mem_append.mp hq' with h | h
          · exact ⟨(hr3 q' h).1, List.mem_append_left _ (hr3 q' h).2⟩
          · rw [List.mem_singleton.mp h]; exact ⟨hsl, by simp⟩
      · refine wp_next ⟨rfl, rows, _, _, _, rfl, by simp; omega, hr2, fun q' hq' => ?_⟩
        rcases List.mem_append.mp hq' with h | h
        · exact hr3 q' h
        · rw [List.mem_singleton.mp h]
          refine ⟨hsl, in_rows ?_⟩
          simpa using hf2
  · rintro S b' ⟨rfl, rows, z2, z3, z4, rfl, hr1, hr2, hr3⟩
    refine wp_ret (Ok.of (a := .p (sureP rows)) (b := b') (by simp [sureP, rowsP]) ⟨rfl, _, rfl, Or.inr ⟨rows, rfl, by omega, hr2, hr3⟩⟩)
end K15
/-! K15P24: law_path, law_recovery, law_worst -/
set_option autoImplicit false
namespace K15
open PySem PySem.Spec PyProof.Rows L2 K15R
theorem above_succ {bs : List Bud} (vb : VB bs) : ∀ (g q : Nat), q < bs.length → q ≤ g → aboveN bs g q = aboveN bs (g + 1) q := by
  intro g
  induction g with
  | zero =>
    intro q hq hqz
    obtain ⟨x, hx⟩ : ∃ x, bs[q]? = some x := ⟨_, List.getElem?_eq_getElem hq⟩
    have hp := vb.par q x hx
    have e : parN bs q = x.par := by simp [parN, hx]
    have : ¬ 0 ≤ parN bs q := by omega
    simp [aboveN, this]
  | succ g ih =>
    intro q hq hqz
    obtain ⟨x, hx⟩ : ∃ x, bs[q]? = some x := ⟨_, List.getElem?_eq_getElem hq⟩
    have hp := vb.par q x hx
    have e : parN bs q = x.par := by simp [parN, hx]
    by_cases h : 0 ≤ parN bs q
    · have c1 : aboveN bs (g + 1) q = (parN bs q).toNat :: aboveN bs g (parN bs q).toNat := by simp [aboveN, h]
      have c2 : aboveN bs (g + 1 + 1) q = (parN bs q).toNat :: aboveN bs (g + 1) (parN bs q).toNat := by simp [aboveN, h]
      rw [c1, c2, ih (parN bs q).toNat (by omega) (by omega)]
    · simp [aboveN, h]
theorem above_fuel {bs : List Bud} (vb : VB bs) : ∀ (f k : Nat), k < bs.length → k ≤ f → aboveN bs f k = aboveN bs k k := by
  intro f
  induction f with
  | zero => intro k _ h; rw [show k = 0 by omega]
  | succ f ih =>
    intro k hk h
    by_cases e : k = f + 1
    · rw [e]
    · rw [← above_succ vb f k hk (by omega), ih k hk (by omega)]
theorem rng1_eq {fe : Fe} {S : Sl} {b b1 : BS} {n : Int} (h : fe S b = some (.p (.i n), b1)) (h0 : 0 ≤ n) (h1 : n < 1000000) : fRng1 (fCons fe fNil) S b = some ((List.range n.toNat).map nI, b1) := by
  have h2 : -(2 ^ 62) ≤ n ∧ n < 2 ^ 62 := by omega
  rw [z_rng1, z_cons, h, bnd_mk, z_nil, bnd_mk, bnd_mk]
  show (if -(2 ^ 62) ≤ n ∧ n < 2 ^ 62 then some (rngL 0 n.toNat, b1) else none) = _
  rw [if_pos h2, rng_up]
theorem rng2_eq {fe ff : Fe} {S : Sl} {b b1 b2 : BS} {m n : Int} (h : fe S b = some (.p (.i m), b1)) (h' : ff S b1 = some (.p (.i n), b2)) (hm : -1000000 ≤ m ∧ m < 1000000) (hn : -1000000 ≤ n ∧ n < 1000000) : fRng2 (fCons fe (fCons ff fNil)) S b = some ((List.range (n - m).toNat).map (fun (j : Nat) => PV.i (m + (j : Int))), b2) := by
  have h2 : -(2 ^ 62) ≤ m ∧ m < 2 ^ 62 ∧ -(2 ^ 62) ≤ n ∧ n < 2 ^ 62 := by omega
  rw [z_rng2, z_cons, h, bnd_mk, z_cons, h', bnd_mk, z_nil, bnd_mk, bnd_mk, bnd_mk]
  show (if -(2 ^ 62) ≤ m ∧ m < 2 ^ 62 ∧ -(2 ^ 62) ≤ n ∧ n < 2 ^ 62 then some (rngL m (n - m).toNat, b2) else none) = _
  rw [if_pos h2]; rfl
/-- the path from k, which may be -1 -/
def pthZ (bs : List Bud) (k : Int) : List Nat := if 0 ≤ k then pathN bs k.toNat else []
theorem pthZ_step {bs : List Bud} (vb : VB bs) {k : Nat} (hk : k < bs.length) : pthZ bs k = k :: pthZ bs (parN bs k) := by
  obtain ⟨x, hx⟩ : ∃ x, bs[k]? = some x := ⟨_, List.getElem?_eq_getElem hk⟩
  have hp := vb.par k x hx
  have e : parN bs k = x.par := by simp [parN, hx]
  unfold pthZ
  rw [if_pos (by omega)]
  show k :: aboveN bs k k = _
  congr 1
  by_cases h0 : 0 ≤ parN bs k
  · rw [if_pos h0]
    obtain ⟨m, rfl⟩ : ∃ m, k = m + 1 := ⟨k - 1, by omega⟩
    have e5 : aboveN bs (m + 1) (m + 1) = (parN bs (m + 1)).toNat :: aboveN bs m (parN bs (m + 1)).toNat := by simp [aboveN, h0]
    rw [e5, above_fuel vb m _ (by omega) (by omega)]; rfl
  · rw [if_neg h0]
    cases k with
    | zero => rfl
    | succ m => simp [aboveN, h0]
def F_lpB : Fs := (fIf (fTest (fOp gGe (fVar 1) (fC (.p (.i 0)))))
      (fSeq (fApp 2 (fVar 1))
      (fAsg 1 (fOp gIx (fOp gIx (fVar 0) (fVar 1)) (fC (.p (.i 2))))))
      fNext)
theorem lp_loop {bs : List Bud} (vb : VB bs) (b : BS) : ∀ (us : List Nat) (k : Int) (acc : List Nat) (z3 : Option SV), -1 ≤ k → k < us.length → k < bs.length → acc.length + us.length < 1000 →
    ∃ z1 z3', forLoop (.one 3) F_lpB (us.map nI) [some (.p (encBs bs)), some (.p (.i k)), some (.m (acc.map nI)), z3] b = some (.nx [some (.p (encBs bs)), z1, some (.m ((acc ++ pthZ bs k).map nI)), z3'], b)
  | [], k, acc, z3, h1, h2, _, _ => by
    have : k = -1 := by simp at h2; omega
    subst this
    exact ⟨_, _, by simp [pthZ]; rfl⟩
  | u :: us, k, acc, z3, h1, h2, h3, h4 => by
    simp only [List.length_cons] at h2 h4
    by_cases h0 : 0 ≤ k
    · obtain ⟨k, rfl⟩ := Int.eq_ofNat_of_zero_le h0
      have hk : k < bs.length := by omega
      obtain ⟨x, hx⟩ : ∃ x, bs[k]? = some x := ⟨_, List.getElem?_eq_getElem hk⟩
      have hp := vb.par k x hx
      have e : parN bs k = x.par := by simp [parN, hx]
      obtain ⟨z1, z3', ih⟩ := lp_loop vb b us (parN bs k) (acc ++ [k]) (some (.p (nI u))) (by omega) (by omega) (by omega) (by simp; omega)
      refine ⟨z1, z3', ?_⟩
      have hlt : acc.length < 100000 := by omega
      rw [pthZ_step vb hk, List.map_cons, forLoop_cons (ps := [nI u]) (o := .nx [some (.p (encBs bs)), some (.p (.i (parN bs k))), some (.m ((acc ++ [k]).map nI)), some (.p (nI u))]) (b' := b) rfl (by
        simp [F_lpB, hlt, encBs, hx, encB, e, nI])]
      show forLoop _ _ _ _ _ = _
      rw [ih]
      simp
    · have : k = -1 := by omega
      subst this
      obtain ⟨z1, z3', ih⟩ : ∃ z1 z3', forLoop (.one 3) F_lpB (us.map nI) [some (.p (encBs bs)), some (.p (.i (-1))), some (.m (acc.map nI)), some (.p (nI u))] b = some (.nx [some (.p (encBs bs)), z1, some (.m ((acc ++ pthZ bs (-1)).map nI)), z3'], b) := lp_loop vb b us (-1) acc (some (.p (nI u))) (by omega) (by omega) (by omega) (by omega)
      refine ⟨z1, z3', ?_⟩
      rw [List.map_cons, forLoop_cons (ps := [nI u]) (o := .nx [some (.p (encBs bs)), some (.p (.i (-1))), some (.m (acc.map nI)), some (.p (nI u))]) (b' := b) rfl (by simp [F_lpB])]
      exact ih
theorem eq_path2 {bs : List Bud} (vb : VB bs) {k : Nat} (hk : k < bs.length) (b : BS) : D_law_path [.p (encBs bs), .p (.i k)] b = some (.m ((pathN bs k).map nI), b) := by
  refine mkFn_eq rfl ?_
  have hn := vb.len
  refine (seq_nx (S' := [some (.p (encBs bs)), some (.p (.i k)), some (.m []), none]) (b' := b) (by simp [stS])).trans ?_
  obtain ⟨z1, z3, h⟩ := lp_loop vb b (List.range bs.length) k [] none (by omega) (by rw [List.length_range]; omega) (by omega) (by rw [List.length_range]; simp; omega)
  have e : pthZ bs k = pathN bs k := by unfold pthZ; rw [if_pos (by omega)]; rfl
  rw [e, List.nil_append] at h
  refine (seq_nx (for_eq (b1 := b) (xs := (List.range bs.length).map nI) ?_ h)).trans rfl
  exact rng1_eq (n := (bs.length : Int)) (cb1_eq (x := .p (encBs bs)) (b1 := b) rfl (by simp [encBs])) (by omega) (by omega)
/-! ### sorted pairs -/
def hk (ps : List Int) (k : Nat) : II := (-(getI ps k), (k : Int))
theorem psort_hk (ps : List Int) : psort ((List.range ps.length).map (hk ps)) = (ordP ps).map (hk ps) := by
  have e0 : (List.range ps.length).map (hk ps) = (List.range ps.length).map fun k => (-(ps.getD k 0), (k : Int)) := List.map_congr_left fun k _ => by
    unfold hk getI
    rw [List.getD_eq_getElem?_getD]
  rw [e0]
  unfold ordP
  rw [List.map_map]
  conv => lhs; rw [← List.map_id (psort _)]
  refine List.map_congr_left fun q hq => ?_
  have := (psort_perm _).mem_iff.mp hq
  obtain ⟨k, _, rfl⟩ := List.mem_map.mp this
  show _ = hk ps (Int.toNat (k : Int))
  unfold hk getI
  rw [List.getD_eq_getElem?_getD]; rfl
theorem psort_hk2 (ps : List Int) (p : Nat → Bool) : psort (((List.range ps.length).filter p).map (hk ps)) = ((ordP ps).filter p).map (hk ps) := by
  refine psort_uniq ((psort_perm _).trans ((((ordP_perm ps).symm).filter p).map _)) (psort_sorted _) ?_
  have h1 := psort_sorted ((List.range ps.length).map (hk ps))
  rw [psort_hk] at h1
  exact h1.sublist ((List.filter_sublist).map _)
theorem gSortP_eq (ks : List II) : gSortP [.m (ks.map pv2)] = some (.m ((psort ks).map pv2)) := by
  show (match (some (ks.map pv2)).bind pairsP with | some ks => some (SV.m ((psort ks).map pv2)) | none => none) = _
  rw [Option.bind_some, pairsP_map]
end K15
/-! K15P25: law_recovery, law_worst -/
set_option autoImplicit false
namespace K15
open PySem PySem.Spec PyProof.Rows L2 K15R
def F_lrM : Fs := fAsg 7 (fCB gMinL (fCons (fLc (fItL (fVar 6)) (.one 5) fYes (fOp gIx (fVar 2) (fVar 5)) [5]) fNil))
def F_lrD : Fs := fDown 6 (fFor (fItV 6) (.one 5) (fSetIx 2 (fVar 5) (fOp gSub_ (fOp gIx (fVar 2) (fVar 5)) (fVar 7))))
theorem lr_min {left : List Int} {p : List Nat} (hp : ∀ j ∈ p, j < left.length) (h0 : p ≠ []) (hl : p.length ≤ 100) (z0 z1 z3 z4 z5 z7 z8 : Option SV) (b : BS) :
    F_lrM [z0, z1, some (.m (left.map PV.i)), z3, z4, z5, some (.m (p.map nI)), z7, z8] b = some (.nx [z0, z1, some (.m (left.map PV.i)), z3, z4, z5, some (.m (p.map nI)), some (.p (.i (mnP left p))), z8], b) := by
  refine (asg_p (x := .i (mnP left p)) (b' := b) ?_).trans rfl
  have hlc := lc_eq (vs := [5]) (tg := .one 5) (ft := fYes) (fi := fItL (fVar 6)) (fe := fOp gIx (fVar 2) (fVar 5)) (S := [z0, z1, some (.m (left.map PV.i)), z3, z4, z5, some (.m (p.map nI)), z7, z8]) (b := b) (b1 := b) (xs := p.map nI) rfl (by rw [List.length_map]; omega) (lc_all nI (fun j => PV.i (getI left j)) b p fun j hj => ⟨[nI j], rfl, by
    have := getI_get (hp j hj)
    simp [nI, this]⟩)
  refine cb1_eq hlc ?_
  have hpos : 0 < p.length := List.length_pos_iff.mpr h0
  simp [mnP, hpos]
theorem lr_down {left : List Int} {p : List Nat} (hp : ∀ j ∈ p, j < left.length) (c : Int) (z0 z1 z3 z4 z5 z8 : Option SV) (b : BS) :
    ∃ z5', F_lrD [z0, z1, some (.m (left.map PV.i)), z3, z4, z5, some (.m (p.map nI)), some (.p (.i c)), z8] b = some (.nx [z0, z1, some (.m ((subP c left p).map PV.i)), z3, z4, z5', some (.l (p.map nI)), some (.p (.i c)), z8], b) := by
  let Iv : List Int → Sl → BS → Prop := fun l S b'' => b'' = b ∧ l.length = left.length ∧ ∃ z5, S = [z0, z1, some (.m (l.map PV.i)), z3, z4, z5, some (.l (p.map nI)), some (.p (.i c)), z8]
  obtain ⟨S2, b2, k1, rfl, k3, z5', rfl⟩ := for_fold (tg := .one 5) (F := (fSetIx 2 (fVar 5) (fOp gSub_ (fOp gIx (fVar 2) (fVar 5)) (fVar 7)))) Iv (fun l j => l.set j (getI l j - c)) nI p left [z0, z1, some (.m (left.map PV.i)), z3, z4, z5, some (.l (p.map nI)), some (.p (.i c)), z8] b (by
    rintro l j S b'' hj ⟨rfl, e2, z, rfl⟩
    have hjl : j < l.length := by rw [e2]; exact hp j hj
    refine ⟨[nI j], [z0, z1, some (.m ((l.set j (getI l j - c)).map PV.i)), z3, z4, some (.p (nI j)), some (.l (p.map nI)), some (.p (.i c)), z8], b'', rfl, Or.inl ?_, rfl, by rw [List.length_set]; exact e2, some (.p (nI j)), rfl⟩
    rw [getI_eq hjl]
    simp [nI, hjl, List.map_set]) ⟨rfl, rfl, z5, rfl⟩
  exact ⟨z5', k1⟩
theorem lr_path {bs : List Bud} (vb : VB bs) (ps : List Int) {k : Nat} (hkb : k < bs.length) (z1 z2 z3 z5 z6 z7 z8 : Option SV) (b : BS) : fAsg 6 (fCall D_law_path (fCons (fVar 0) (fCons (fOp gIx (fVar 4) (fC (.p (.i 1)))) fNil))) [some (.p (encBs bs)), z1, z2, z3, some (.p (pv2 (hk ps k))), z5, z6, z7, z8] b = some (.nx [some (.p (encBs bs)), z1, z2, z3, some (.p (pv2 (hk ps k))), z5, some (.m ((pathN bs k).map nI)), z7, z8], b) := by
  have e1 : fOp gIx (fVar 4) (fC (.p (.i 1))) [some (.p (encBs bs)), z1, z2, z3, some (.p (pv2 (hk ps k))), z5, z6, z7, z8] b = some (.p (.i (k : Int)), b) := by
    simp [pv2, hk]
  have e2 := call2_eq (fa := fVar 0) (x := .p (encBs bs)) (b1 := b) rfl e1 (eq_path2 vb hkb b)
  exact asg_m e2
/-! ### law_recovery -/
def rStep (bs : List Bud) (ps : List Int) (st : List Int × Int) (k : Nat) : List Int × Int := (subP (mnP st.1 (pathN bs k)) st.1 (pathN bs k), st.2 - -(getI ps k) * mnP st.1 (pathN bs k))
theorem r_pos (bs : List Bud) (ps : List Int) : ∀ (o : List Nat) (w : WS), (∀ k ∈ o, 0 < getI ps k) → o.foldl (rStep bs ps) (w.left, w.total) = ((o.foldl (wStep bs ps) w).left, (o.foldl (wStep bs ps) w).total)
  | [], w, _ => rfl
  | k :: o, w, h => by
    have e : rStep bs ps (w.left, w.total) k = ((wStep bs ps w k).left, (wStep bs ps w k).total) := by
      unfold rStep wStep
      rw [if_pos (h k List.mem_cons_self)]
      simp only
      rw [Int.neg_mul, Int.sub_neg]
    rw [List.foldl_cons, List.foldl_cons, e, r_pos bs ps o _ fun j hj => h j (List.mem_cons_of_mem _ hj)]
theorem r_zero (bs : List Bud) (ps : List Int) : ∀ (o : List Nat) (st : List Int × Int) (w : WS), (∀ k ∈ o, getI ps k = 0) → (o.foldl (rStep bs ps) st).2 = st.2 ∧ o.foldl (wStep bs ps) w = w
  | [], st, w, _ => ⟨rfl, rfl⟩
  | k :: o, st, w, h => by
    have h0 := h k List.mem_cons_self
    have e1 : (rStep bs ps st k).2 = st.2 := by
      unfold rStep
      rw [h0]
      simp
    have e2 : wStep bs ps w k = w := by
      unfold wStep
      rw [h0]
      simp
    rw [List.foldl_cons, List.foldl_cons, e2]
    have ih := r_zero bs ps o (rStep bs ps st k) w fun j hj => h j (List.mem_cons_of_mem _ hj)
    exact ⟨by rw [ih.1, e1], ih.2⟩
theorem ord_pos {ps : List Int} (h : ∀ k, 0 ≤ getI ps k) : ordP ps = (ordP ps).filter (fun k => decide (0 < getI ps k)) ++ (ordP ps).filter (fun k => !decide (0 < getI ps k)) ∧ (∀ k ∈ (ordP ps).filter (fun k => !decide (0 < getI ps k)), getI ps k = 0) := by
  refine ⟨split_by ((ordP_sorted ps).imp fun {a b} hab hb => ?_), fun k hk => ?_⟩
  · have := of_decide_eq_true hb
    exact decide_eq_true (by omega)
  · have h1 := (List.mem_filter.mp hk).2
    have h2 := h k
    have h3 : ¬ 0 < getI ps k := by simpa using h1
    omega
theorem r_all {bs : List Bud} {ps : List Int} (h : ∀ k, 0 ≤ getI ps k) : ((ordP ps).foldl (rStep bs ps) (bs.map Bud.cap, 0)).2 = (wAll bs ps).total := by
  obtain ⟨h1, h2⟩ := ord_pos h
  unfold wAll
  rw [h1, List.foldl_append, List.foldl_append]
  rw [(r_zero bs ps _ _ (((ordP ps).filter fun k => decide (0 < getI ps k)).foldl (wStep bs ps) (wStart bs)) h2).1, (r_zero bs ps _ (bs.map Bud.cap, 0) _ h2).2]
  have := r_pos bs ps ((ordP ps).filter fun k => decide (0 < getI ps k)) (wStart bs) fun k hk => of_decide_eq_true (List.mem_filter.mp hk).2
  rw [show (bs.map Bud.cap, (0 : Int)) = ((wStart bs).left, (wStart bs).total) from rfl, this]
def F_lrB : Fs := (fSeq (fAsg 6 (fCall D_law_path (fCons (fVar 0) (fCons (fOp gIx (fVar 4) (fC (.p (.i 1)))) fNil))))
    (fSeq F_lrM
    (fSeq (fAsg 3 (fOp gSub_ (fVar 3) (fOp gMul (fOp gIx (fVar 4) (fC (.p (.i 0)))) (fVar 7))))
    F_lrD)))
theorem path_len (bs : List Bud) {k : Nat} (hk : k < bs.length) (hn : bs.length ≤ 3) : (pathN bs k).length ≤ 100 := by
  have := above_len bs k k
  show (aboveN bs k k).length + 1 ≤ 100
  omega
theorem eq_lrec {bs : List Bud} (vb : VB bs) {ps : List Int} (hl : ps.length = bs.length) (h4 : B4 ps) {x : SV} (hx : x = .p (iT ps) ∨ x = .l (ps.map PV.i)) (b : BS) : D_law_recovery [.p (encBs bs), x] b = some (.p (.i (wAll bs ps).total), b) := by
  apply Ok.eq
  have hn := vb.len
  have hxs : x.seq = some (ps.map PV.i) ∧ x.arg = x := by rcases hx with rfl | rfl <;> exact ⟨rfl, rfl⟩
  rw [← r_all (bs := bs) h4.get]
  refine ok_fn rfl ?_
  refine wp_seq (Ok.of (a := .nx [some (.p (encBs bs)), some x, some (.m ((bs.map Bud.cap).map PV.i)), none, none, none, none, none, none]) (b := b) ?_ ?_)
  · refine (asg_m (lc_eq (xs := bs.map encB) (b1 := b) rfl (by rw [List.length_map]; omega) (lc_all encB (fun x => PV.i x.cap) b bs fun y _ => ⟨[encB y], rfl, by simp [encB, stS]⟩))).trans ?_
    rw [← cap_list]; rfl
  refine wp_seq (Ok.of (a := .nx [some (.p (encBs bs)), some x, some (.m ((bs.map Bud.cap).map PV.i)), some (.p (.i 0)), none, none, none, none, none]) (b := b) rfl ?_)
  have l1 := lc_eq (vs := [5]) (tg := .one 5) (ft := fYes) (fi := fRng1 (fCons (fCB gLen (fCons (fVar 0) fNil)) fNil)) (fe := fTup (fCons (fOp gSub_ (fC (.p (.i 0))) (fOp gIx (fVar 1) (fVar 5))) (fCons (fVar 5) fNil))) (S := [some (.p (encBs bs)), some x, some (.m ((bs.map Bud.cap).map PV.i)), some (.p (.i 0)), none, none, none, none, none]) (b := b) (b1 := b) (xs := (List.range ps.length).map nI) (by
      rw [hl]
      exact rng1_eq (n := (bs.length : Int)) (cb1_eq (x := .p (encBs bs)) (b1 := b) rfl (by simp [encBs])) (by omega) (by omega)) (by simp; omega)
    (lc_all nI (fun k => pv2 (hk ps k)) b _ fun k hkk => ⟨[nI k], rfl, by
      have hk' : k < ps.length := List.mem_range.mp hkk
      have hg := getI_get hk'
      simp [hxs.1, hxs.2, nI, hg, pv2, hk]⟩)
  refine wp_seq ?_
  refine wp_for (fun k => pv2 (hk ps k)) (fun d S b' => b' = b ∧ (d.foldl (rStep bs ps) (bs.map Bud.cap, 0)).1.length = bs.length ∧ ∃ z4 z5 z6 z7, S = [some (.p (encBs bs)), some x, some (.m ((d.foldl (rStep bs ps) (bs.map Bud.cap, 0)).1.map PV.i)), some (.p (.i (d.foldl (rStep bs ps) (bs.map Bud.cap, 0)).2)), z4, z5, z6, z7, none]) (ordP ps) (b1 := b) ?_ ⟨rfl, by simp, none, none, none, none, rfl⟩ ?_ ?_
  · have e2 : (List.range ps.length).map (fun k => pv2 (hk ps k)) = ((List.range ps.length).map (hk ps)).map pv2 := by rw [List.map_map]; rfl
    rw [z_itM, cb1_eq l1 (by rw [e2, gSortP_eq, psort_hk])]
    show some (((ordP ps).map (hk ps)).map pv2, b) = _
    rw [List.map_map]; rfl
  · rintro d k e S b' hd ⟨rfl, hlen, z4, z5, z6, z7, rfl⟩
    have hkb : k < bs.length := by
      rw [← hl]
      exact ordP_lt k (by rw [hd]; simp)
    simp only [List.foldl_append, List.foldl_cons, List.foldl_nil]
    generalize d.foldl (rStep bs ps) (bs.map Bud.cap, 0) = st at *
    obtain ⟨left, total⟩ := st
    simp only at hlen ⊢
    have hpl : ∀ j ∈ pathN bs k, j < left.length := fun j hj => by rw [hlen]; exact path_lt vb hkb j hj
    refine ⟨[pv2 (hk ps k)], rfl, ?_⟩
    have hm := h4.get k
    have hmb : getI ps k ≤ 4 := (h4 _ (getI_mem (by rw [hl]; exact hkb))).2
    refine wp_seq (Ok.of (lr_path vb ps hkb _ _ _ _ _ _ _ b') ?_)
    refine wp_seq (Ok.of (lr_min hpl (by unfold pathN; simp) (path_len bs hkb hn.2) _ _ _ _ _ _ _ b') ?_)
    have hmul : cMul (-(getI ps k)) (mnP left (pathN bs k)) = true := cMul_l (by omega) (by omega)
    refine wp_seq (Ok.of (a := .nx [some (.p (encBs bs)), some x, some (.m (left.map PV.i)), some (.p (.i (total - -(getI ps k) * mnP left (pathN bs k)))), some (.p (pv2 (hk ps k))), z5, some (.m ((pathN bs k).map nI)), some (.p (.i (mnP left (pathN bs k)))), none]) (b := b') (by simp [pv2, hk, hmul]) ?_)
    obtain ⟨z5', h⟩ := lr_down hpl (mnP left (pathN bs k)) (some (.p (encBs bs))) (some x) (some (.p (.i (total - -(getI ps k) * mnP left (pathN bs k))))) (some (.p (pv2 (hk ps k)))) z5 none b'
    exact Ok.of h ⟨rfl, by unfold rStep; rw [sub_len]; exact hlen, _, _, _, _, by unfold rStep; rfl⟩
  · rintro S b' ⟨rfl, hlen, z4, z5, z6, z7, rfl⟩
    exact wp_retV rfl ⟨rfl, rfl⟩
/-! ### law_worst -/
def vStep (bs : List Bud) (st : List Int × List Int) (k : Nat) : List Int × List Int := (subP (mnP st.1 (pathN bs k)) st.1 (pathN bs k), st.2.set k (mnP st.1 (pathN bs k)))
theorem v_pos (bs : List Bud) (ps : List Int) : ∀ (o : List Nat) (w : WS), (∀ k ∈ o, 0 < getI ps k) → o.foldl (vStep bs) (w.left, w.faults) = ((o.foldl (wStep bs ps) w).left, (o.foldl (wStep bs ps) w).faults)
  | [], w, _ => rfl
  | k :: o, w, h => by
    have e : vStep bs (w.left, w.faults) k = ((wStep bs ps w k).left, (wStep bs ps w k).faults) := by
      unfold vStep wStep
      rw [if_pos (h k List.mem_cons_self)]
    rw [List.foldl_cons, List.foldl_cons, e, v_pos bs ps o _ fun j hj => h j (List.mem_cons_of_mem _ hj)]
theorem v_all {bs : List Bud} {ps : List Int} (h : ∀ k, 0 ≤ getI ps k) : (((ordP ps).filter fun k => decide (0 < getI ps k)).foldl (vStep bs) (bs.map Bud.cap, List.replicate bs.length 0)).2 = (wAll bs ps).faults := by
  obtain ⟨h1, h2⟩ := ord_pos h
  unfold wAll
  rw [h1, List.foldl_append]
  rw [(r_zero bs ps _ (bs.map Bud.cap, 0) _ h2).2]
  have := v_pos bs ps ((ordP ps).filter fun k => decide (0 < getI ps k)) (wStart bs) fun k hk => of_decide_eq_true (List.mem_filter.mp hk).2
  rw [← h1, show (bs.map Bud.cap, List.replicate bs.length (0 : Int)) = ((wStart bs).left, (wStart bs).faults) from rfl, this]
theorem eq_lworst {bs : List Bud} (vb : VB bs) {ps : List Int} (hl : ps.length = bs.length) (h4 : B4 ps) (b : BS) : D_law_worst [.p (encBs bs), .p (iT ps)] b = some (.p (iT (wAll bs ps).faults), b) := by
  apply Ok.eq
  have hn := vb.len
  rw [← v_all (bs := bs) h4.get]
  refine ok_fn rfl ?_
  refine wp_seq (Ok.of (a := .nx [some (.p (encBs bs)), some (.p (iT ps)), some (.m ((bs.map Bud.cap).map PV.i)), none, none, none, none, none, none]) (b := b) ?_ ?_)
  · refine (asg_m (lc_eq (xs := bs.map encB) (b1 := b) rfl (by rw [List.length_map]; omega) (lc_all encB (fun x => PV.i x.cap) b bs fun y _ => ⟨[encB y], rfl, by simp [encB, stS]⟩))).trans ?_
    rw [← cap_list]; rfl
  refine wp_seq (Ok.of (a := .nx [some (.p (encBs bs)), some (.p (iT ps)), some (.m ((bs.map Bud.cap).map PV.i)), some (.m ((List.replicate bs.length (0 : Int)).map PV.i)), none, none, none, none, none]) (b := b) ?_ ?_)
  · have hc : bs.length ≤ 100000 := by omega
    have hc' : (bs.length : Int) ≤ 100000 := by omega
    refine (asg_m (ys := (List.replicate bs.length (0 : Int)).map PV.i) (b' := b) ?_).trans rfl
    simp [encBs, hc, hc']
  have l1 := lc_eq (vs := [5]) (tg := .one 5) (ft := fTest (fOp gGt (fOp gIx (fVar 1) (fVar 5)) (fC (.p (.i 0))))) (fi := fRng1 (fCons (fCB gLen (fCons (fVar 0) fNil)) fNil)) (fe := fTup (fCons (fOp gSub_ (fC (.p (.i 0))) (fOp gIx (fVar 1) (fVar 5))) (fCons (fVar 5) fNil))) (S := [some (.p (encBs bs)), some (.p (iT ps)), some (.m ((bs.map Bud.cap).map PV.i)), some (.m ((List.replicate bs.length (0 : Int)).map PV.i)), none, none, none, none, none]) (b := b) (b1 := b) (xs := (List.range ps.length).map nI) (by
      rw [hl]
      exact rng1_eq (n := (bs.length : Int)) (cb1_eq (x := .p (encBs bs)) (b1 := b) rfl (by simp [encBs])) (by omega) (by omega)) (by simp; omega)
    (lc_map nI (fun k => decide (0 < getI ps k)) (fun k => pv2 (hk ps k)) b _ fun k hkk => by
      have hk' : k < ps.length := List.mem_range.mp hkk
      have hg := getI_get hk'
      exact ⟨[nI k], rfl, by simp [iT, nI, hg], fun _ => by simp [iT, nI, hg, pv2, hk]⟩)
  refine wp_seq ?_
  refine wp_for (fun k => pv2 (hk ps k)) (fun d S b' => b' = b ∧ ((d.foldl (vStep bs) (bs.map Bud.cap, List.replicate bs.length 0)).1.length = bs.length ∧ (d.foldl (vStep bs) (bs.map Bud.cap, List.replicate bs.length 0)).2.length = bs.length) ∧ ∃ z4 z5 z6 z7, S = [some (.p (encBs bs)), some (.p (iT ps)), some (.m ((d.foldl (vStep bs) (bs.map Bud.cap, List.replicate bs.length 0)).1.map PV.i)), some (.m ((d.foldl (vStep bs) (bs.map Bud.cap, List.replicate bs.length 0)).2.map PV.i)), z4, z5, z6, z7, none]) ((ordP ps).filter fun k => decide (0 < getI ps k)) (b1 := b) ?_ ⟨rfl, ⟨by simp, by simp⟩, none, none, none, none, rfl⟩ ?_ ?_
  · have e2 : (((List.range ps.length).filter fun k => decide (0 < getI ps k)).map fun k => pv2 (hk ps k)) = (((List.range ps.length).filter fun k => decide (0 < getI ps k)).map (hk ps)).map pv2 := by rw [List.map_map]; rfl
    rw [z_itM, cb1_eq l1 (by rw [e2, gSortP_eq, psort_hk2])]
    show some ((((ordP ps).filter fun k => decide (0 < getI ps k)).map (hk ps)).map pv2, b) = _
    rw [List.map_map]; rfl
  · rintro d k e S b' hd ⟨rfl, ⟨hlen, hlen2⟩, z4, z5, z6, z7, rfl⟩
    have hkb : k < bs.length := by
      rw [← hl]
      have : k ∈ (ordP ps).filter fun k => decide (0 < getI ps k) := by rw [hd]; simp
      exact ordP_lt k (List.mem_filter.mp this).1
    simp only [List.foldl_append, List.foldl_cons, List.foldl_nil]
    generalize d.foldl (vStep bs) (bs.map Bud.cap, List.replicate bs.length 0) = st at *
    obtain ⟨left, fau⟩ := st
    simp only at hlen hlen2 ⊢
    have hpl : ∀ j ∈ pathN bs k, j < left.length := fun j hj => by rw [hlen]; exact path_lt vb hkb j hj
    refine ⟨[pv2 (hk ps k)], rfl, ?_⟩
    refine wp_seq (Ok.of (lr_path vb ps hkb _ _ _ _ _ _ _ b') ?_)
    refine wp_seq (Ok.of (lr_min hpl (by unfold pathN; simp) (path_len bs hkb hn.2) _ _ _ _ _ _ _ b') ?_)
    have hfl : k < fau.length := by rw [hlen2]; exact hkb
    refine wp_seq (Ok.of (a := .nx [some (.p (encBs bs)), some (.p (iT ps)), some (.m (left.map PV.i)), some (.m ((fau.set k (mnP left (pathN bs k))).map PV.i)), some (.p (pv2 (hk ps k))), z5, some (.m ((pathN bs k).map nI)), some (.p (.i (mnP left (pathN bs k)))), none]) (b := b') (by simp [pv2, hk, hfl, List.map_set]) ?_)
    obtain ⟨z5', h⟩ := lr_down hpl (mnP left (pathN bs k)) (some (.p (encBs bs))) (some (.p (iT ps))) (some (.m ((fau.set k (mnP left (pathN bs k))).map PV.i))) (some (.p (pv2 (hk ps k)))) z5 none b'
    exact Ok.of h ⟨rfl, ⟨by unfold vStep; rw [sub_len]; exact hlen, by unfold vStep; rw [List.length_set]; exact hlen2⟩, _, _, _, _, by unfold vStep; rfl⟩
  · rintro S b' ⟨rfl, hlen, z4, z5, z6, z7, rfl⟩
    refine wp_ret (Ok.of (b := b') ?_ ⟨rfl, rfl⟩)
    simp [iT]
end K15
/-! K15P26: law_in, law_penalties, law_demand, law_slack, law_latest -/
set_option autoImplicit false
namespace K15
open PySem PySem.Spec PyProof.Rows L2 K15R
def linI (y : Sys) (s e : Int) : List (Item × Int) := (y.jobs.filter (inJ s e)).map (fun x => (x, (1 : Int))) ++ (y.tasks.filter fun x => decide (0 < bodI x s e)).map fun x => (x, bodI x s e)
def enPr (q : Item × Int) : PV := .t [encI q.1, .i q.2]
theorem lin_len {y : Sys} (v : VS y) (s e : Int) : (linI y s e).length ≤ 5 := by
  have := filt_len (inJ s e) y.jobs
  have := filt_len (fun x => decide (0 < bodI x s e)) y.tasks
  have := v.jl
  have := v.tl
  unfold linI
  rw [List.length_append, List.length_map, List.length_map]
  omega
theorem eq_lin {y : Sys} (v : VS y) (s e : Int) (b : BS) : D_law_in [.p (encSy y), .p (.i s), .p (.i e)] b = some (.m ((linI y s e).map enPr), b) := by
  refine mkFn_eq rfl ?_
  have hjl := v.jl
  have htl := v.tl
  have hfl := filt_len (inJ s e) y.jobs
  have hft := filt_len (fun x => decide (0 < bodI x s e)) y.tasks
  have l1 := lc_eq (vs := [4]) (tg := .one 4) (ft := (fTAnd (fTest (fOp gGe (fOp gIx (fVar 4) (fC (.p (.i 2)))) (fVar 1))) (fTest (fOp gLe (fOp gIx (fVar 4) (fC (.p (.i 3)))) (fVar 2))))) (fi := fItT (fOp gIx (fVar 0) (fC (.p (.i 2))))) (fe := fTup (fCons (fVar 4) (fCons (fC (.p (.i 1))) fNil))) (S := stS 6 [.p (encSy y), .p (.i s), .p (.i e)]) (b := b) (b1 := b) (xs := y.jobs.map encI) (by simp [stS, encSy]) (by rw [List.length_map]; omega)
    (lc_map encI (inJ s e) (fun x => enPr (x, 1)) b y.jobs fun x _ => ⟨[encI x], rfl, by
      by_cases h : s ≤ x.r <;> simp [stS, encI, inJ, h], fun _ => by simp [stS, enPr]⟩)
  refine (seq_nx (S' := [some (.p (encSy y)), some (.p (.i s)), some (.p (.i e)), some (.m ((y.jobs.filter (inJ s e)).map fun x => enPr (x, 1))), none, none]) (b' := b) ((asg_m l1).trans rfl)).trans ?_
  have l2 := lc_eq (vs := [5]) (tg := .one 5) (ft := (fTest (fOp gGt (fCall D_law_bodies (fCons (fVar 5) (fCons (fVar 1) (fCons (fVar 2) fNil)))) (fC (.p (.i 0)))))) (fi := fItT (fOp gIx (fVar 0) (fC (.p (.i 3))))) (fe := fTup (fCons (fVar 5) (fCons (fCall D_law_bodies (fCons (fVar 5) (fCons (fVar 1) (fCons (fVar 2) fNil)))) fNil))) (S := [some (.p (encSy y)), some (.p (.i s)), some (.p (.i e)), some (.m ((y.jobs.filter (inJ s e)).map fun x => enPr (x, 1))), none, none]) (b := b) (b1 := b) (xs := y.tasks.map encI) (by simp [encSy]) (by rw [List.length_map]; omega)
    (lc_map encI (fun x => decide (0 < bodI x s e)) (fun x => enPr (x, bodI x s e)) b y.tasks fun x hx => by
      have hv := (v.tsk x hx).1
      have hjb := (v.tsk x hx).2
      have hb := eq_lbodies (hv.gap hjb) s e b
      exact ⟨[encI x], rfl, by simp [hb], fun _ => by simp [hb, enPr]⟩)
  refine ret_eq (op_eq (b1 := b) (x := .l ((y.jobs.filter (inJ s e)).map fun x => enPr (x, 1))) rfl l2 ?_)
  have hlen : ((y.jobs.filter (inJ s e)).map fun x => enPr (x, 1)).length + ((y.tasks.filter fun x => decide (0 < bodI x s e)).map fun x => enPr (x, bodI x s e)).length ≤ 100000 := by
    rw [List.length_map, List.length_map]; omega
  rw [y_cat]
  show (if _ then _ else _) = _
  rw [if_pos hlen, linI, List.map_append, List.map_map, List.map_map]
  rfl
theorem lin_act (y : Sys) (s e : Int) : (linI y s e).map Prod.fst = actI y s e := by
  unfold linI actI
  rw [List.map_append, List.map_map, List.map_map]
  have h : ∀ (l : List Item) (f : Item → Int), l.map (Prod.fst ∘ fun x => (x, f x)) = l := fun l f => by
    conv => rhs; rw [← List.map_id l]
    rfl
  exact congr (congrArg HAppend.hAppend (h _ fun _ => 1)) (h _ _)
def F_lpI : Fs := (fSetIx 3 (fOp gIx (fVar 5) (fC (.p (.i 1)))) (fCB gMax2 (fCons (fOp gIx (fVar 3) (fOp gIx (fVar 5) (fC (.p (.i 1))))) (fCons (fOp gIx (fVar 5) (fC (.p (.i 0)))) fNil))))
def F_lpO : Fs := (fFor (fItT (fOp gIx (fOp gIx (fVar 4) (fC (.p (.i 0)))) (fC (.p (.i 5))))) (.one 5) F_lpI)
theorem lp_in {n : Nat} {l : List Int} (hl : l.length = n) {g : II} (hg : 0 ≤ g.2 ∧ g.2.toNat < n) (z0 z1 z2 z4 : Option SV) (b : BS) : F_lpI [z0, z1, z2, some (.m (l.map PV.i)), z4, some (.p (pv2 g))] b = some (.nx [z0, z1, z2, some (.m ((setMax l g).map PV.i)), z4, some (.p (pv2 g))], b) := by
  have hk : g.2.toNat < l.length := by rw [hl]; exact hg.2
  unfold setMax
  rw [getI_eq hk]
  simp [F_lpI, pv2, hg.1, hk, List.map_set]
theorem lp_body {n : Nat} {x : Item} (v : VI n x) (c : Int) {l : List Int} (hl : l.length = n) {z0 z1 z2 z5 : Option SV} (b : BS) : ∃ z5', F_lpO [z0, z1, z2, some (.m (l.map PV.i)), some (.p (enPr (x, c))), z5] b =
    some (.nx [z0, z1, z2, some (.m ((x.segs.foldl setMax l).map PV.i)), some (.p (enPr (x, c))), z5'], b) ∧ (x.segs.foldl setMax l).length = n := by
  let Iv : List Int → Sl → BS → Prop := fun l S b' => b' = b ∧ l.length = n ∧ ∃ z5, S = [z0, z1, z2, some (.m (l.map PV.i)), some (.p (enPr (x, c))), z5]
  obtain ⟨S', b', h1, rfl, h3, z5', rfl⟩ := for_fold (tg := .one 5) (F := F_lpI) Iv setMax pv2 x.segs l [z0, z1, z2, some (.m (l.map PV.i)), some (.p (enPr (x, c))), z5] b (by
    rintro l g S b' hg ⟨rfl, e2, z5, rfl⟩
    have hs := v.src g hg
    exact ⟨[pv2 g], _, b', rfl, Or.inl (lp_in e2 ⟨hs.1, hs.2.1⟩ _ _ _ _ b'), rfl, by rw [setMax_len]; exact e2, _, rfl⟩) ⟨rfl, hl, z5, rfl⟩
  exact ⟨z5', for_eq (b1 := b') (by simp [enPr, encI]) h1, h3⟩
theorem eq_lpens {y : Sys} (v : VS y) (s e : Int) (b : BS) : D_law_penalties [.p (encSy y), .p (.i s), .p (.i e)] b = some (.p (iT (penI y s e)), b) := by
  refine mkFn_eq rfl ?_
  have hn := v.vb.len
  have hlin := eq_lin v s e b
  refine (seq_nx (S' := [some (.p (encSy y)), some (.p (.i s)), some (.p (.i e)), some (.m ((List.replicate y.buds.length (0 : Int)).map PV.i)), none, none]) (b' := b) ?_).trans ?_
  · have hc : y.buds.length ≤ 100000 := by omega
    have hc' : (y.buds.length : Int) ≤ 100000 := by omega
    refine (asg_m (ys := (List.replicate y.buds.length (0 : Int)).map PV.i) (b' := b) ?_).trans rfl
    simp [encSy, encBs, hc, hc', stS]
  let Iv : List Int → Sl → BS → Prop := fun l S b' => b' = b ∧ l.length = y.buds.length ∧ ∃ z4 z5, S = [some (.p (encSy y)), some (.p (.i s)), some (.p (.i e)), some (.m (l.map PV.i)), z4, z5]
  obtain ⟨S', b', h1, rfl, h3, z4, z5, rfl⟩ := for_fold (tg := .one 4) (F := F_lpO) Iv (fun l (q : Item × Int) => q.1.segs.foldl setMax l) enPr (linI y s e) (List.replicate y.buds.length 0) [some (.p (encSy y)), some (.p (.i s)), some (.p (.i e)), some (.m ((List.replicate y.buds.length (0 : Int)).map PV.i)), none, none] b (by
    rintro l ⟨x, c⟩ S b' hq ⟨rfl, e2, z4, z5, rfl⟩
    have hx : x ∈ actI y s e := by
      rw [← lin_act]
      exact List.mem_map.mpr ⟨(x, c), hq, rfl⟩
    obtain ⟨z5', h1, h2⟩ := lp_body (act_vi v s e x hx) c e2 (z0 := some (.p (encSy y))) (z1 := some (.p (.i s))) (z2 := some (.p (.i e))) (z5 := z5) b'
    exact ⟨[enPr (x, c)], _, b', rfl, Or.inl h1, rfl, h2, _, _, rfl⟩) ⟨rfl, by simp, none, none, rfl⟩
  refine (seq_nx (for_eq (b1 := b') (xs := (linI y s e).map enPr) (by simp [hlin]) h1)).trans ?_
  have hfold : (linI y s e).foldl (fun l (q : Item × Int) => q.1.segs.foldl setMax l) (List.replicate y.buds.length 0) = penI y s e := by
    unfold penI longI
    rw [← lin_act, List.foldl_map]
  rw [hfold]
  simp [iT]
theorem lin_dem {y : Sys} (v : VS y) (s e : Int) : ((linI y s e).map fun q => q.2 * workI q.1).sum = demI y s e := by
  unfold linI demI
  rw [List.map_append, List.sum_append, List.map_map, List.map_map]
  congr 1
  · congr 1
    exact List.map_congr_left fun x _ => Int.one_mul _
  · have h : ∀ l : List Item, (∀ x ∈ l, 0 < x.a) → ((l.filter fun x => decide (0 < bodI x s e)).map ((fun (q : Item × Int) => q.2 * workI q.1) ∘ fun x => (x, bodI x s e))).sum = (l.map fun x => bodI x s e * workI x).sum := by
      intro l
      induction l with
      | nil => intro _; rfl
      | cons x l ih =>
        intro hl
        have i1 := ih fun z hz => hl z (List.mem_cons_of_mem _ hz)
        rw [List.filter_cons]
        by_cases h0 : 0 < bodI x s e
        · rw [if_pos (decide_eq_true h0), List.map_cons, List.map_cons, List.sum_cons, List.sum_cons, i1]; rfl
        · have hb := bod_nn (x := x) (s := s) (e := e) (hl x List.mem_cons_self)
          have hb0 : bodI x s e = 0 := by omega
          rw [if_neg (by rw [decide_eq_false h0]; decide), List.map_cons, List.sum_cons, i1, hb0, Int.zero_mul, Int.zero_add]
    exact h y.tasks fun x hx => ((v.tsk x hx).1.gap (v.tsk x hx).2).1
theorem eq_ldem {y : Sys} (v : VS y) (s e : Int) (b : BS) : D_law_demand [.p (encSy y), .p (.i s), .p (.i e)] b = some (.p (.i (demI y s e)), b) := by
  refine mkFn_eq rfl ?_
  have hlin := eq_lin v s e b
  have hll := lin_len v s e
  have l1 := lc_eq (vs := [3]) (tg := .one 3) (ft := fYes) (fi := fItL (fCall D_law_in (fCons (fVar 0) (fCons (fVar 1) (fCons (fVar 2) fNil))))) (fe := fOp gMul (fOp gIx (fVar 3) (fC (.p (.i 1)))) (fCall D_law_work (fCons (fOp gIx (fVar 3) (fC (.p (.i 0)))) fNil))) (S := stS 4 [.p (encSy y), .p (.i s), .p (.i e)]) (b := b) (b1 := b) (xs := (linI y s e).map enPr) (by simp [stS, hlin]) (by rw [List.length_map]; omega)
    (lc_all enPr (fun q : Item × Int => PV.i (q.2 * workI q.1)) b (linI y s e) fun q hq => by
      obtain ⟨x, c⟩ := q
      have hx : x ∈ actI y s e := by
        rw [← lin_act]
        exact List.mem_map.mpr ⟨(x, c), hq, rfl⟩
      have hw := eq_lwork (act_vi v s e x hx).segs b
      have hm : cMul c (workI x) = true := by
        rcases List.mem_append.mp hx with h | h
        · have hj := v.job x (List.mem_filter.mp h).1
          rcases List.mem_append.mp hq with hq | hq
          · obtain ⟨x', _, e'⟩ := List.mem_map.mp hq
            have : c = 1 := (Prod.ext_iff.mp e').2.symm
            rw [this]
            exact cMul_l (by omega) (by omega)
          · obtain ⟨x', hx', e'⟩ := List.mem_map.mp hq
            have e1 : x' = x := (Prod.ext_iff.mp e').1
            have := (v.tsk x' (List.mem_filter.mp hx').1).2
            rw [e1, hj.2] at this
            cases this
        · have ht := v.tsk x (List.mem_filter.mp h).1
          have hl := lens_bd ht.1
          rw [workT ht.2]
          exact cMul_r (by omega) (by omega)
      refine ⟨[enPr (x, c)], rfl, ?_⟩
      have e1 : fOp gIx (fVar 3) (fC (.p (.i 1))) (setS (wpS (stS 4 [.p (encSy y), .p (.i s), .p (.i e)]) [3]) (Tg.one 3).slots ([enPr (x, c)].map SV.p)) b = some (.p (.i c), b) := by simp [stS, enPr]
      have e2 : fOp gIx (fVar 3) (fC (.p (.i 0))) (setS (wpS (stS 4 [.p (encSy y), .p (.i s), .p (.i e)]) [3]) (Tg.one 3).slots ([enPr (x, c)].map SV.p)) b = some (.p (encI x), b) := by simp [stS, enPr]
      exact op_eq e1 (call1_eq e2 hw) (by show (if cMul c (workI x) then _ else _) = _; rw [if_pos hm]))
  exact ret_eq (cb1_eq l1 (by rw [sum_map (fun q : Item × Int => q.2 * workI q.1), lin_dem v]))
theorem eq_lslack {y : Sys} (v : VS y) (s e : Int) (b : BS) : D_law_slack [.p (encSy y), .p (.i s), .p (.i e)] b = some (.p (.i (slI y s e)), b) := by
  refine mkFn_eq rfl ?_
  have hd := eq_ldem v s e b
  have hp := eq_lpens v s e b
  have hr := eq_lrec v.vb (pen_pn v s e).len (long_b4 (act_vi v s e)) (Or.inl rfl) b
  have e1 : fOp gSub_ (fOp gSub_ (fVar 2) (fVar 1)) (fCall D_law_demand (fCons (fVar 0) (fCons (fVar 1) (fCons (fVar 2) fNil)))) (stS 3 [.p (encSy y), .p (.i s), .p (.i e)]) b = some (.p (.i (e - s - demI y s e)), b) := by
    simp [stS, hd]
  have e2 : fOp gIx (fVar 0) (fC (.p (.i 1))) (stS 3 [.p (encSy y), .p (.i s), .p (.i e)]) b = some (.p (encBs y.buds), b) := by simp [stS, encSy]
  have e3 : fCall D_law_penalties (fCons (fVar 0) (fCons (fVar 1) (fCons (fVar 2) fNil))) (stS 3 [.p (encSy y), .p (.i s), .p (.i e)]) b = some (.p (iT (penI y s e)), b) := by simp [stS, hp]
  exact ret_eq (op_eq e1 (call2_eq e2 e3 hr) rfl)
theorem eq_llatest {y : Sys} (v : VS y) (b : BS) : D_law_latest [.p (encSy y)] b = some (.p (.i (latI y)), b) := eq_latest v b
end K15
/-! K15P27: law_horizon -/
set_option autoImplicit false
namespace K15
open PySem PySem.Spec PyProof.Rows L2 K15R
def F_lhI : Fs := (fSetIx 2 (fOp gIx (fVar 4) (fC (.p (.i 1)))) (fCB gMax2 (fCons (fOp gIx (fVar 2) (fOp gIx (fVar 4) (fC (.p (.i 1))))) (fCons (fOp gIx (fVar 4) (fC (.p (.i 0)))) fNil))))
def F_lhO : Fs := (fFor (fItT (fOp gIx (fVar 3) (fC (.p (.i 5))))) (.one 4) F_lhI)
theorem lh_in {n : Nat} {l : List Int} (hl : l.length = n) {g : II} (hg : 0 ≤ g.2 ∧ g.2.toNat < n) (z0 z1 z3 z5 z6 z7 z8 : Option SV) (b : BS) : F_lhI [z0, z1, some (.m (l.map PV.i)), z3, some (.p (pv2 g)), z5, z6, z7, z8] b = some (.nx [z0, z1, some (.m ((setMax l g).map PV.i)), z3, some (.p (pv2 g)), z5, z6, z7, z8], b) := by
  have hk : g.2.toNat < l.length := by rw [hl]; exact hg.2
  unfold setMax
  rw [getI_eq hk]
  simp [F_lhI, pv2, hg.1, hk, List.map_set]
theorem lh_body {n : Nat} {x : Item} (v : VI n x) {l : List Int} (hl : l.length = n) {z0 z1 z4 z5 z6 z7 z8 : Option SV} (b : BS) : ∃ z4', F_lhO [z0, z1, some (.m (l.map PV.i)), some (.p (encI x)), z4, z5, z6, z7, z8] b =
    some (.nx [z0, z1, some (.m ((x.segs.foldl setMax l).map PV.i)), some (.p (encI x)), z4', z5, z6, z7, z8], b) ∧ (x.segs.foldl setMax l).length = n := by
  let Iv : List Int → Sl → BS → Prop := fun l S b' => b' = b ∧ l.length = n ∧ ∃ z4, S = [z0, z1, some (.m (l.map PV.i)), some (.p (encI x)), z4, z5, z6, z7, z8]
  obtain ⟨S', b', h1, rfl, h3, z4', rfl⟩ := for_fold (tg := .one 4) (F := F_lhI) Iv setMax pv2 x.segs l [z0, z1, some (.m (l.map PV.i)), some (.p (encI x)), z4, z5, z6, z7, z8] b (by
    rintro l g S b' hg ⟨rfl, e2, z4, rfl⟩
    have hs := v.src g hg
    exact ⟨[pv2 g], _, b', rfl, Or.inl (lh_in e2 ⟨hs.1, hs.2.1⟩ _ _ _ _ _ _ _ b'), rfl, by rw [setMax_len]; exact e2, _, rfl⟩) ⟨rfl, hl, z4, rfl⟩
  exact ⟨z4', for_eq (b1 := b') (by simp [encI]) h1, h3⟩
def prodI (y : Sys) : Int := y.tasks.foldl (fun p x => p * x.a) 1
def leftI (y : Sys) : Int := prodI y - (y.tasks.map fun x => workI x * (prodI y / x.a)).sum
theorem prod_left {y : Sys} (v : VN y) : prodI y = botI y ∧ leftI y = botI y - topI y := by
  have hg : ∀ x ∈ y.tasks, x.a ≠ 0 := fun x hx => by
    have := ((v.vs.tsk x hx).1.gap (v.vs.tsk x hx).2).1
    omega
  unfold leftI prodI
  rcases tk_cases v with ⟨ht, h1, h2⟩ | ⟨x, ht, h1, h2⟩ | ⟨x, z, ht, h1, h2⟩
  · rw [ht, h1, h2]; simp
  · have hx := hg x (by rw [ht]; simp)
    rw [ht, h1, h2]
    simp only [List.foldl_cons, List.foldl_nil, Int.one_mul, List.map_cons, List.map_nil, List.sum_cons, List.sum_nil, Int.ediv_self hx, Int.mul_one, Int.add_zero]
    exact ⟨trivial, trivial⟩
  · have hx := hg x (by rw [ht]; simp)
    have hz := hg z (by rw [ht]; simp)
    rw [ht, h1, h2]
    simp only [List.foldl_cons, List.foldl_nil, Int.one_mul, List.map_cons, List.map_nil, List.sum_cons, List.sum_nil, Int.add_zero, Int.mul_ediv_cancel_left _ hx, Int.mul_ediv_cancel _ hz]
    exact ⟨trivial, trivial⟩
theorem eq_lhor {y : Sys} (v : VN y) (b : BS) : D_law_horizon [.p (encSy y)] b = some (.p (.i (horI y)), b) := by
  apply Ok.eq
  refine ok_fn rfl ?_
  have hn := v.vs.vb.len
  have hjl := v.vs.jl
  have htl := v.vs.tl
  have hc : y.jobs.length + y.tasks.length ≤ 100000 := by omega
  have hvi := its_vi v.vs
  refine wp_seq (Ok.of (a := .nx [some (.p (encSy y)), some (.p (.t ((y.jobs ++ y.tasks).map encI))), none, none, none, none, none, none, none]) (b := b) (by simp [stS, encSy, hc]) ?_)
  have hil : (y.jobs ++ y.tasks).length ≤ 5 := by rw [List.length_append]; omega
  have htot : totI y = ((y.jobs ++ y.tasks).map workI).sum + (wAll y.buds (longI y.buds.length (y.jobs ++ y.tasks))).total := rfl
  generalize hits : y.jobs ++ y.tasks = its at *
  refine wp_seq (Ok.of (a := .nx [some (.p (encSy y)), some (.p (.t (its.map encI))), some (.m ((List.replicate y.buds.length (0 : Int)).map PV.i)), none, none, none, none, none, none]) (b := b) ?_ ?_)
  · have hc : y.buds.length ≤ 100000 := by omega
    have hc' : (y.buds.length : Int) ≤ 100000 := by omega
    refine (asg_m (ys := (List.replicate y.buds.length (0 : Int)).map PV.i) (b' := b) ?_).trans rfl
    simp [encSy, encBs, hc, hc', stS]
  refine wp_seq ?_
  refine wp_for encI (fun d S b' => b' = b ∧ (d.foldl (fun l (x : Item) => x.segs.foldl setMax l) (List.replicate y.buds.length 0)).length = y.buds.length ∧ ∃ z3 z4, S = [some (.p (encSy y)), some (.p (.t (its.map encI))), some (.m ((d.foldl (fun l (x : Item) => x.segs.foldl setMax l) (List.replicate y.buds.length 0)).map PV.i)), z3, z4, none, none, none, none]) its (b1 := b) (by simp) ⟨rfl, by simp, none, none, rfl⟩ ?_ ?_
  · rintro d x e S b' hd ⟨rfl, hlen, z3, z4, rfl⟩
    simp only [List.foldl_append, List.foldl_cons, List.foldl_nil]
    obtain ⟨z4', h1, h2⟩ := lh_body (hvi x (by rw [hd]; simp)) hlen (z0 := some (.p (encSy y))) (z1 := some (.p (.t (its.map encI)))) (z4 := z4) (z5 := none) (z6 := none) (z7 := none) (z8 := none) b'
    exact ⟨[encI x], rfl, Ok.of h1 ⟨rfl, h2, _, _, rfl⟩⟩
  rintro S b' ⟨rfl, hlen, z3, z4, rfl⟩
  rw [show its.foldl (fun l (x : Item) => x.segs.foldl setMax l) (List.replicate y.buds.length 0) = longI y.buds.length its from rfl] at hlen ⊢
  have hr := eq_lrec v.vs.vb (long_len y.buds.length its) (long_b4 hvi) (Or.inr rfl) b'
  have l1 := lc_eq (vs := [3]) (tg := .one 3) (ft := fYes) (fi := fItT (fVar 1)) (fe := fCall D_law_work (fCons (fVar 3) fNil)) (S := [some (.p (encSy y)), some (.p (.t (its.map encI))), some (.m ((longI y.buds.length its).map PV.i)), z3, z4, none, none, none, none]) (b := b') (b1 := b') (xs := its.map encI) rfl (by rw [List.length_map]; omega)
    (lc_all encI (fun x => PV.i (workI x)) b' its fun x hx => ⟨[encI x], rfl, by
      have hw := eq_lwork (hvi x hx).segs b'
      simp [hw]⟩)
  have e1 : fOp gIx (fVar 0) (fC (.p (.i 1))) [some (.p (encSy y)), some (.p (.t (its.map encI))), some (.m ((longI y.buds.length its).map PV.i)), z3, z4, none, none, none, none] b' = some (.p (encBs y.buds), b') := by simp [encSy]
  refine wp_seq (Ok.of (a := .nx [some (.p (encSy y)), some (.p (.t (its.map encI))), some (.m ((longI y.buds.length its).map PV.i)), z3, z4, some (.p (.i (totI y))), none, none, none]) (b := b') ?_ ?_)
  · rw [htot]
    refine (asg_p (b' := b') (op_eq (cb1_eq l1 (sum_map workI its)) (call2_eq (y := .l ((longI y.buds.length its).map PV.i)) e1 rfl hr) rfl)).trans rfl
  refine wp_seq (Ok.of (a := .nx [some (.p (encSy y)), some (.p (.t (its.map encI))), some (.m ((longI y.buds.length its).map PV.i)), z3, z4, some (.p (.i (totI y))), some (.p (.i 1)), none, none]) (b := b') rfl ?_)
  refine wp_seq ?_
  refine wp_for encI (fun d S b => b = b' ∧ ∃ z7, S = [some (.p (encSy y)), some (.p (.t (its.map encI))), some (.m ((longI y.buds.length its).map PV.i)), z3, z4, some (.p (.i (totI y))), some (.p (.i (d.foldl (fun p (x : Item) => p * x.a) 1))), z7, none]) y.tasks (b1 := b') (by simp [encSy]) ⟨rfl, none, rfl⟩ ?_ ?_
  · rintro d x e S b'' hd ⟨rfl, z7, rfl⟩
    simp only [List.foldl_append, List.foldl_cons, List.foldl_nil]
    have hx : x ∈ y.tasks := by rw [hd]; simp
    have hg := (v.vs.tsk x hx).1.gap (v.vs.tsk x hx).2
    have hm : ∀ i, cMul i x.a = true := fun i => cMul_r (by omega) (by omega)
    generalize d.foldl (fun p (x : Item) => p * x.a) 1 = p
    refine ⟨[encI x], rfl, Ok.of (a := .nx [some (.p (encSy y)), some (.p (.t (its.map encI))), some (.m ((longI y.buds.length its).map PV.i)), z3, z4, some (.p (.i (totI y))), some (.p (.i (p * x.a))), some (.p (encI x)), none]) (b := b'') (by simp [encI, hm]) ?_⟩
    exact ⟨rfl, _, rfl⟩
  rintro S b ⟨rfl, z7, rfl⟩
  rw [show y.tasks.foldl (fun p (x : Item) => p * x.a) 1 = prodI y from rfl]
  have l2 := lc_eq (vs := [7]) (tg := .one 7) (ft := fYes) (fi := fItT (fOp gIx (fVar 0) (fC (.p (.i 3))))) (fe := fOp gMul (fCall D_law_work (fCons (fVar 7) fNil)) (fOp gDiv (fVar 6) (fOp gIx (fVar 7) (fC (.p (.i 3)))))) (S := [some (.p (encSy y)), some (.p (.t (its.map encI))), some (.m ((longI y.buds.length its).map PV.i)), z3, z4, some (.p (.i (totI y))), some (.p (.i (prodI y))), z7, none]) (b := b) (b1 := b) (xs := y.tasks.map encI) (by simp [encSy]) (by rw [List.length_map]; omega)
    (lc_all encI (fun x => PV.i (workI x * (prodI y / x.a))) b y.tasks fun x hx => ⟨[encI x], rfl, by
      have hv := v.vs.tsk x hx
      have hg := hv.1.gap hv.2
      have hl := lens_bd hv.1
      have hw := eq_lwork hv.1.segs b
      have hm : ∀ i, cMul (workI x) i = true := fun i => by rw [workT hv.2]; exact cMul_l (by omega) (by omega)
      have hd : ∀ i, cDiv i x.a = true := fun i => by unfold cDiv; exact decide_eq_true ⟨hg.1, by omega⟩
      have e1 : fCall D_law_work (fCons (fVar 7) fNil) (setS (wpS [some (.p (encSy y)), some (.p (.t (its.map encI))), some (.m ((longI y.buds.length its).map PV.i)), z3, z4, some (.p (.i (totI y))), some (.p (.i (prodI y))), z7, none] [7]) (Tg.one 7).slots ([encI x].map SV.p)) b = some (.p (.i (workI x)), b) := by simp [hw]
      have e2 : fOp gDiv (fVar 6) (fOp gIx (fVar 7) (fC (.p (.i 3)))) (setS (wpS [some (.p (encSy y)), some (.p (.t (its.map encI))), some (.m ((longI y.buds.length its).map PV.i)), z3, z4, some (.p (.i (totI y))), some (.p (.i (prodI y))), z7, none] [7]) (Tg.one 7).slots ([encI x].map SV.p)) b = some (.p (.i (prodI y / x.a)), b) := by simp [encI, hd]
      exact op_eq e1 e2 (by show (if cMul (workI x) (prodI y / x.a) then _ else _) = _; rw [if_pos (hm _)])⟩)
  refine wp_seq (Ok.of (a := .nx [some (.p (encSy y)), some (.p (.t (its.map encI))), some (.m ((longI y.buds.length its).map PV.i)), z3, z4, some (.p (.i (totI y))), some (.p (.i (prodI y))), z7, some (.p (.i (leftI y)))]) (b := b) ?_ ?_)
  · refine (asg_p (x := .i (leftI y)) (b' := b) (op_eq (b1 := b) (x := .p (.i (prodI y))) rfl (cb1_eq l2 (sum_map (fun x => workI x * (prodI y / x.a)) y.tasks)) rfl)).trans rfl
  obtain ⟨h1, h2⟩ := prod_left v
  have hrb := rate_bd v
  have hm : ∀ i, cMul i (prodI y) = true := fun i => cMul_r (by omega) (by omega)
  have hd : ∀ i, cDiv i (leftI y) = true := fun i => by unfold cDiv; exact decide_eq_true ⟨by omega, by omega⟩
  refine wp_ret (Ok.of (a := .p (.i (0 - (0 - totI y * prodI y) / leftI y))) (b := b) (by simp [hm, hd]) ⟨?_, rfl⟩)
  unfold horI
  rw [h1, h2, Int.zero_sub, Int.zero_sub, Int.neg_mul]
end K15
/-! K15P28: law_cell, law_digits, law_draw, law_pick, law_same, law_segments -/
set_option autoImplicit false
namespace K15
open PySem PySem.Spec PyProof.Rows L2 K15R
theorem eq_cell {ns : List Int} {x : SV} (hx : x = .l (ns.map PV.i) ∨ x = .k (ns.map PV.i)) (k : Nat) (b : BS) : D_law_cell [x, .p (nI k)] b = some (.p (.i (getI ns k)), b) := by
  refine mkFn_eq rfl ?_
  have hxs : x.seq = some (ns.map PV.i) ∧ x.arg = x := by rcases hx with rfl | rfl <;> exact ⟨rfl, rfl⟩
  by_cases h : k < ns.length
  · have hg := getI_get h
    have h' : (k : Int) < ns.length := by omega
    simp [F_law_cell, stS, hxs.1, hxs.2, nI, h', hg]
  · have hg : getI ns k = 0 := by unfold getI; rw [List.getElem?_eq_none (by omega)]; rfl
    have h' : ¬ (k : Int) < ns.length := by omega
    simp [F_law_cell, stS, hxs.1, hxs.2, nI, h', hg]
theorem cDiv_ok {i j : Int} (h : 0 < j) (h' : j < 1073741824) : cDiv i j = true := decide_eq_true ⟨h, h'⟩
theorem cMod_ok {i j : Int} (h : 0 < j) : cMod i j = true := decide_eq_true h
def F_dgB1 : Fs := (fIf (fTest (fOp gGt (fVar 5) (fC (.p (.i 0)))))
          (fSeq (fApp 3 (fOp gMod (fCB gInt1 (fCons (fVar 5) fNil)) (fC (.p (.i 1000)))))
          (fAsg 5 (fOp gDiv (fVar 5) (fC (.p (.i 1000))))))
          fNext)
def F_dgB2 : Fs := (fSeq (fAsg 7 (fOp gMod (fCB gInt1 (fCons (fOp gAdd (fOp gAdd (fOp gMul (fVar 7) (fC (.p (.i 16807)))) (fOp gMul (fC (.p (.i 7))) (fVar 6))) (fC (.p (.i 1)))) fNil)) (fC (.p (.i 2147483647)))))
        (fApp 3 (fOp gMod (fCB gInt1 (fCons (fOp gDiv (fVar 7) (fC (.p (.i 997)))) fNil)) (fC (.p (.i 1000))))))
theorem pow18 : cPow 10 18 = true := by decide +kernel
def dgS (x : SV) (ds : List Int) (z4 z5 z6 z7 : Option SV) : Sl := [some x, some (.p (.i 0)), some (.p (.i 63)), some (.m (ds.map PV.i)), z4, z5, z6, z7]
theorem dg_cell {ns : List Int} {x : SV} (hx : x = .l (ns.map PV.i) ∨ x = .k (ns.map PV.i)) (ds : List Int) (k : Nat) (z5 z6 z7 : Option SV) (b : BS) : fAsg 5 (fCall D_law_cell (fCons (fVar 0) (fCons (fVar 4) fNil))) (dgS x ds (some (.p (nI k))) z5 z6 z7) b = some (.nx (dgS x ds (some (.p (nI k))) (some (.p (.i (getI ns k)))) z6 z7), b) := by
  have hxa : x.arg = x := by rcases hx with rfl | rfl <;> rfl
  have hc := eq_cell hx k b
  have e1 : fCall D_law_cell (fCons (fVar 0) (fCons (fVar 4) fNil)) (dgS x ds (some (.p (nI k))) z5 z6 z7) b = some (.p (.i (getI ns k)), b) :=
    call2_eq (x := x) (y := .p (nI k)) (b1 := b) (b2 := b) (by rw [z_var]; simp [hxa, dgS]) rfl (by rw [hxa]; exact hc)
  exact asg_p e1
theorem dg_neg (x : SV) (ds : List Int) (c : Int) (z4 z6 z7 : Option SV) (b : BS) : ∃ c' : Int, (fIf (fTest (fOp gLt (fVar 5) (fC (.p (.i 0))))) (fAsg 5 (fOp gSub_ (fC (.p (.i 1))) (fOp gMul (fC (.p (.i 2))) (fVar 5)))) fNext) (dgS x ds z4 (some (.p (.i c))) z6 z7) b = some (.nx (dgS x ds z4 (some (.p (.i c'))) z6 z7), b) := by
  have hm : cMul 2 c = true := cMul_l (by omega) (by omega)
  by_cases h : c < 0
  · exact ⟨1 - 2 * c, by simp [h, hm, dgS]⟩
  · exact ⟨c, by simp [h, dgS]⟩
theorem dg_test (x : SV) (ds : List Int) (c : Int) (z4 z6 z7 : Option SV) (b : BS) : ∃ q : Bool, (fTest (fOp gGe (fVar 5) (fOp gPow (fC (.p (.i 10))) (fC (.p (.i 18)))))) (dgS x ds z4 (some (.p (.i c))) z6 z7) b = some (q, b) := by
  have e1 : ∃ n : Int, fOp gPow (fC (.p (.i 10))) (fC (.p (.i 18))) (dgS x ds z4 (some (.p (.i c))) z6 z7) b = some (.p (.i n), b) :=
    ⟨_, op_eq (b1 := b) (b2 := b) (z := .p (.i (10 ^ (18 : Int).toNat))) rfl rfl (by show (if cPow 10 18 then some (SV.p (PV.i (10 ^ (18 : Int).toNat))) else none) = _; rw [if_pos pow18])⟩
  obtain ⟨n, e1⟩ := e1
  refine ⟨decide (n ≤ c), ?_⟩
  rw [z_test, op_eq (x := .p (.i c)) (b1 := b) rfl e1 (z := .p (.b (decide (n ≤ c)))) rfl]
  rfl
theorem dg_big (x : SV) (ds : List Int) (c : Int) (k : Nat) (z6 z7 : Option SV) (b : BS) (hl : ds.length < 90000) : Wp ((fFor (fRng1 (fCons (fC (.p (.i 60))) fNil)) (.one 6) F_dgB1) (dgS x ds (some (.p (nI k))) (some (.p (.i c))) z6 z7) b) (fun S b' => ∃ (ds' : List Int) (z5 z6 : Option SV), S = dgS x ds' (some (.p (nI k))) z5 z6 z7 ∧ ds'.length ≤ ds.length + 60) (fun _ _ => False) (fun _ _ => False) := by
  refine wp_for nI (fun d' S b' => ∃ (ds' : List Int) (c : Int) (z6 : Option SV), S = dgS x ds' (some (.p (nI k))) (some (.p (.i c))) z6 z7 ∧ ds'.length ≤ ds.length + d'.length) (List.range 60) (b1 := b) ?_ ⟨ds, c, z6, rfl, by simp⟩ ?_ ?_
  · exact rng1_eq (n := 60) rfl (by omega) (by omega)
  · rintro d' t e' S b2 hd' ⟨ds', c, z6, rfl, hl'⟩
    have hk' : d'.length < 60 := by
      have := congrArg List.length hd'
      simp at this
      omega
    have hlt : ds'.length < 100000 := by omega
    have h1 : cMod c 1000 = true := cMod_ok (by omega)
    have h2 : cDiv c 1000 = true := cDiv_ok (by omega) (by omega)
    refine ⟨[nI t], rfl, ?_⟩
    by_cases h : 0 < c
    · refine Ok.of (a := .nx (dgS x (ds' ++ [c % 1000]) (some (.p (nI k))) (some (.p (.i (c / 1000)))) (some (.p (nI t))) z7)) (b := b2) (by simp [F_dgB1, dgS, h, h1, h2, hlt]) ?_
      exact ⟨_, _, _, rfl, by simp; omega⟩
    · refine Ok.of (a := .nx (dgS x ds' (some (.p (nI k))) (some (.p (.i c))) (some (.p (nI t))) z7)) (b := b2) (by simp [F_dgB1, dgS, h]) ?_
      exact ⟨_, _, _, rfl, by simp; omega⟩
  · rintro S b2 ⟨ds', c, z6, rfl, hl'⟩
    exact ⟨ds', _, _, rfl, by simpa using hl'⟩
/-- this reading is an int, whichever -/
def IntE (fe : Fe) (S : Sl) (b : BS) : Prop := ∃ n : Int, fe S b = some (.p (.i n), b)
theorem intE_var {i : Nat} {S : Sl} {b : BS} {n : Int} (h : S[i]? = some (some (.p (.i n)))) : IntE (fVar i) S b := ⟨n, by rw [z_var, h]; rfl⟩
theorem intE_c {n : Int} {S : Sl} {b : BS} : IntE (fC (.p (.i n))) S b := ⟨n, rfl⟩
theorem intE_add {fa fb : Fe} {S : Sl} {b : BS} (ha : IntE fa S b) (hb : IntE fb S b) : IntE (fOp gAdd fa fb) S b := by
  obtain ⟨m, ha⟩ := ha
  obtain ⟨n, hb⟩ := hb
  exact ⟨m + n, op_eq ha hb rfl⟩
theorem intE_ic {c : Int → Int → Bool} {f : Int → Int → Int} {fa fb : Fe} {S : Sl} {b : BS} {m n : Int} (ha : fa S b = some (.p (.i m), b)) (hb : fb S b = some (.p (.i n), b)) (h : c m n = true) : IntE (fOp (gIc c fun i j => .i (f i j)) fa fb) S b :=
  ⟨f m n, op_eq ha hb (by rw [y_Ic, if_pos h])⟩
theorem intE_mulr {fa : Fe} {S : Sl} {b : BS} {n : Int} (ha : IntE fa S b) (h1 : -(2 ^ 64) < n) (h2 : n < 2 ^ 64) : IntE (fOp gMul fa (fC (.p (.i n)))) S b := by
  obtain ⟨m, ha⟩ := ha
  exact intE_ic (f := fun i j => i * j) ha rfl (cMul_r h1 h2)
theorem intE_mull {fa : Fe} {S : Sl} {b : BS} {n : Int} (ha : IntE fa S b) (h1 : -(2 ^ 64) < n) (h2 : n < 2 ^ 64) : IntE (fOp gMul (fC (.p (.i n))) fa) S b := by
  obtain ⟨m, ha⟩ := ha
  exact intE_ic (f := fun i j => i * j) rfl ha (cMul_l h1 h2)
theorem intE_mod {fa : Fe} {S : Sl} {b : BS} {n : Int} (ha : IntE fa S b) (h1 : 0 < n) : IntE (fOp gMod fa (fC (.p (.i n)))) S b := by
  obtain ⟨m, ha⟩ := ha
  exact intE_ic (f := fun i j => i % j) ha rfl (cMod_ok h1)
theorem intE_div {fa : Fe} {S : Sl} {b : BS} {n : Int} (ha : IntE fa S b) (h1 : 0 < n) (h2 : n < 1073741824) : IntE (fOp gDiv fa (fC (.p (.i n)))) S b := by
  obtain ⟨m, ha⟩ := ha
  exact intE_ic (f := fun i j => i / j) ha rfl (cDiv_ok h1 h2)
theorem intE_int1 {fa : Fe} {S : Sl} {b : BS} (ha : IntE fa S b) : IntE (fCB gInt1 (fCons fa fNil)) S b := by
  obtain ⟨m, ha⟩ := ha
  exact ⟨m, cb1_eq ha rfl⟩
theorem dg_small (x : SV) (ds : List Int) (c s0 : Int) (k : Nat) (z6 : Option SV) (b : BS) (hl : ds.length < 90000) : Wp ((fFor (fRng1 (fCons (fC (.p (.i 12))) fNil)) (.one 6) F_dgB2) (dgS x ds (some (.p (nI k))) (some (.p (.i c))) z6 (some (.p (.i s0)))) b) (fun S b' => ∃ (ds' : List Int) (z5 z6 z7 : Option SV), S = dgS x ds' (some (.p (nI k))) z5 z6 z7 ∧ ds'.length ≤ ds.length + 60) (fun _ _ => False) (fun _ _ => False) := by
  refine wp_for nI (fun d' S b' => ∃ (ds' : List Int) (s : Int) (z6 : Option SV), S = dgS x ds' (some (.p (nI k))) (some (.p (.i c))) z6 (some (.p (.i s))) ∧ ds'.length ≤ ds.length + d'.length) (List.range 12) (b1 := b) ?_ ⟨ds, s0, z6, rfl, by simp⟩ ?_ ?_
  · exact rng1_eq (n := 12) rfl (by omega) (by omega)
  · rintro d' t e' S b2 hd' ⟨ds', s, z6, rfl, hl'⟩
    have hk' : d'.length < 12 := by
      have := congrArg List.length hd'
      simp at this
      omega
    have hlt : ds'.length < 100000 := by omega
    refine ⟨[nI t], rfl, ?_⟩
    obtain ⟨s', hs'⟩ : IntE (fOp gMod (fCB gInt1 (fCons (fOp gAdd (fOp gAdd (fOp gMul (fVar 7) (fC (.p (.i 16807)))) (fOp gMul (fC (.p (.i 7))) (fVar 6))) (fC (.p (.i 1)))) fNil)) (fC (.p (.i 2147483647)))) (dgS x ds' (some (.p (nI k))) (some (.p (.i c))) (some (.p (nI t))) (some (.p (.i s)))) b2 :=
      intE_mod (intE_int1 (intE_add (intE_add (intE_mulr (intE_var rfl) (by omega) (by omega)) (intE_mull (intE_var (n := (t : Int)) rfl) (by omega) (by omega))) intE_c)) (by omega)
    obtain ⟨g', hg'⟩ : IntE (fOp gMod (fCB gInt1 (fCons (fOp gDiv (fVar 7) (fC (.p (.i 997)))) fNil)) (fC (.p (.i 1000)))) (dgS x ds' (some (.p (nI k))) (some (.p (.i c))) (some (.p (nI t))) (some (.p (.i s')))) b2 :=
      intE_mod (intE_int1 (intE_div (intE_var rfl) (by omega) (by omega))) (by omega)
    refine wp_seq (Ok.of (asg_p hs') ?_)
    refine Ok.of (a := .nx (dgS x (ds' ++ [g']) (some (.p (nI k))) (some (.p (.i c))) (some (.p (nI t))) (some (.p (.i s'))))) (b := b2) ?_ ?_
    · rw [z_app]
      show bnd (fOp gMod _ _ (dgS x ds' (some (.p (nI k))) (some (.p (.i c))) (some (.p (nI t))) (some (.p (.i s')))) b2) _ = _
      rw [hg', bnd_mk]
      have hlm : (ds'.map PV.i).length < 100000 := by rw [List.length_map]; exact hlt
      show (if (ds'.map PV.i).length < 100000 then _ else _) = _
      rw [if_pos hlm]
      simp [dgS]
    · exact ⟨_, _, _, rfl, by simp; omega⟩
  · rintro S b2 ⟨ds', s, z6, rfl, hl'⟩
    exact ⟨ds', _, _, _, rfl, by simp at hl'; omega⟩
theorem ok_digits {ns : List Int} {x : SV} (hx : x = .l (ns.map PV.i) ∨ x = .k (ns.map PV.i)) (b : BS) : Ok (D_law_digits [x, .p (.i 0), .p (.i 63)] b) fun r b' => ∃ ds : List Int, r = .m (ds.map PV.i) := by
  refine ok_fn rfl ?_
  refine wp_seq (Ok.of (a := .nx (dgS x [] none none none none)) (b := b) (by simp [stS, dgS]) ?_)
  refine wp_seq ?_
  refine wp_for nI (fun d S b' => ∃ (ds : List Int) (z4 z5 z6 z7 : Option SV), S = dgS x ds z4 z5 z6 z7 ∧ ds.length ≤ 60 * d.length) (List.range 63) (b1 := b) ?_ ⟨[], none, none, none, none, rfl, by simp⟩ ?_ ?_
  · have h0 : (fun (j : Nat) => PV.i (0 + (j : Int))) = nI := by
      funext j
      show PV.i (0 + (j : Int)) = PV.i (j : Int)
      rw [Int.zero_add]
    have h1 := rng2_eq (fe := fVar 1) (ff := fVar 2) (S := dgS x [] none none none none) (m := 0) (n := 63) (b := b) (b1 := b) (b2 := b) rfl rfl (by omega) (by omega)
    rw [h0] at h1
    exact h1
  · rintro d k e S b' hd ⟨ds, z4, z5, z6, z7, rfl, hl⟩
    have hk : d.length < 63 := by
      have := congrArg List.length hd
      simp at this
      omega
    refine ⟨[nI k], rfl, ?_⟩
    refine wp_seq (Ok.of (dg_cell hx ds k z5 z6 z7 b') ?_)
    obtain ⟨c, hneg⟩ := dg_neg x ds (getI ns k) (some (.p (nI k))) z6 z7 b'
    refine wp_seq (Ok.of hneg ?_)
    obtain ⟨q, hq⟩ := dg_test x ds c (some (.p (nI k))) z6 z7 b'
    refine wp_if hq (fun _ => ?_) (fun _ => ?_)
    · refine Wp.mono (dg_big x ds c k z6 z7 b' (by omega)) (fun S b ⟨ds', z5, z6, h1, h2⟩ => ⟨ds', _, _, _, _, h1, by simp; omega⟩) (fun _ _ h => h.elim) (fun _ _ h => h.elim)
    · obtain ⟨s0, hs0⟩ : IntE (fOp gMod (fCB gInt1 (fCons (fOp gAdd (fOp gAdd (fOp gMul (fVar 5) (fC (.p (.i 48271)))) (fOp gMul (fVar 4) (fC (.p (.i 69621))))) (fC (.p (.i 11)))) fNil)) (fC (.p (.i 2147483647)))) (dgS x ds (some (.p (nI k))) (some (.p (.i c))) z6 z7) b' :=
        intE_mod (intE_int1 (intE_add (intE_add (intE_mulr (intE_var rfl) (by omega) (by omega)) (intE_mulr (intE_var (n := (k : Int)) rfl) (by omega) (by omega))) intE_c)) (by omega)
      refine wp_seq (Ok.of (asg_p hs0) ?_)
      refine Wp.mono (dg_small x ds c s0 k z6 b' (by omega)) (fun S b ⟨ds', z5, z6, z7, h1, h2⟩ => ⟨ds', _, _, _, _, h1, by simp; omega⟩) (fun _ _ h => h.elim) (fun _ _ h => h.elim)
  · rintro S b' ⟨ds, z4, z5, z6, z7, rfl, hl⟩
    exact wp_retV rfl ⟨ds, rfl⟩
/-! ### the box -/
def Bx (b : BS) : Prop := 0 ≤ b.2
theorem draw_ex {n : Int} (hn : 0 < n) {b : BS} (hb : Bx b) : ∃ x b1, D_law_draw [.box, .p (.i n)] b = some (.p (.i x), b1) ∧ 0 ≤ x ∧ x < n ∧ Bx b1 := by
  obtain ⟨ds, k⟩ := b
  have hk : 0 ≤ k := hb
  have hm : ∀ i, cMod i n = true := fun i => cMod_ok hn
  by_cases h : k < ds.length
  · have hl : k.toNat < ds.length := by omega
    have hg := getI_get hl
    refine ⟨getI ds k.toNat % n, (ds, k + 1), mkFn_eq rfl ?_, Int.emod_nonneg _ (by omega), Int.emod_lt_of_pos _ hn, show 0 ≤ k + 1 by omega⟩
    simp [F_law_draw, stS, h, hk, hg, hm]
    rw [getI_eq hl]
  · refine ⟨0, (ds, k + 1), mkFn_eq rfl ?_, by omega, hn, show 0 ≤ k + 1 by omega⟩
    simp [F_law_draw, stS, h]
theorem eq_same (x y : Bool) (b : BS) : D_law_same [.p (.b x), .p (.b y)] b = some (.p (.b (x == y)), b) := by
  refine mkFn_eq rfl ?_
  have h1 : (Str.ofString "True" = Str.ofString "False") = False := by
    have : ¬ (Str.ofString "True" = Str.ofString "False") := by decide +kernel
    simp [this]
  have h2 : (Str.ofString "False" = Str.ofString "True") = False := by
    have : ¬ (Str.ofString "False" = Str.ofString "True") := by decide +kernel
    simp [this]
  cases x <;> cases y <;> simp [F_law_same, stS, h1, h2]
theorem pick_ex {b : BS} (hb : Bx b) : ∃ x b1, D_law_pick [.box, .l [.i 0, .i 1, .i 1, .i 2]] b = some (.p (.i x), b1) ∧ 0 ≤ x ∧ x ≤ 2 ∧ Bx b1 := by
  obtain ⟨x, b1, h1, h2, h3, h4⟩ := draw_ex (n := 900) (by omega) hb
  have hm : cMod x 4 = true := cMod_ok (by omega)
  have hr := Int.emod_lt_of_pos x (show (0 : Int) < 4 by omega)
  have hr0 := Int.emod_nonneg x (show (4 : Int) ≠ 0 by omega)
  have e1 : fOp gMod (fCB gInt1 (fCons (fCall D_law_draw (fCons (fVar 0) (fCons (fC (.p (.i 900))) fNil))) fNil)) (fCB gLen (fCons (fVar 1) fNil)) (stS 2 [.box, .l [.i 0, .i 1, .i 1, .i 2]]) b = some (.p (.i (x % 4)), b1) := by
    simp [stS, h1, hm]
  have key : ∀ r : Int, 0 ≤ r → r < 4 → ∃ q : Int, gIx (.l [.i 0, .i 1, .i 1, .i 2]) (.p (.i r)) = some (.p (.i q)) ∧ 0 ≤ q ∧ q ≤ 2 := fun r h0 h4 => by
    have : r = 0 ∨ r = 1 ∨ r = 2 ∨ r = 3 := by omega
    rcases this with rfl | rfl | rfl | rfl
    · exact ⟨0, rfl, by omega, by omega⟩
    · exact ⟨1, rfl, by omega, by omega⟩
    · exact ⟨1, rfl, by omega, by omega⟩
    · exact ⟨2, rfl, by omega, by omega⟩
  obtain ⟨q, k1, k2, k3⟩ := key _ hr0 hr
  exact ⟨q, b1, mkFn_eq rfl (ret_eq (op_eq (b1 := b) (x := .l [.i 0, .i 1, .i 1, .i 2]) rfl e1 k1)), k2, k3, h4⟩
/-- a comprehension that may draw -/
theorem ok_lcLoop {tg : Tg} {ft : Ft} {fe : Fe} {S : Sl} (P : BS → Prop) (R : PV → Prop) : ∀ (xs : List PV) (b : BS), (∀ x ∈ xs, ∀ b, P b → ∃ ps, tg.parts x = some ps ∧ Ok (ft (setS S tg.slots (ps.map SV.p)) b) fun c b1 => P b1 ∧ (c = true → Ok (fe (setS S tg.slots (ps.map SV.p)) b1) fun r b2 => P b2 ∧ ∃ y, r = .p y ∧ R y)) → P b →
    Ok (lcLoop tg ft fe S xs b) fun ys b' => P b' ∧ (∀ y ∈ ys, R y) ∧ ys.length ≤ xs.length
  | [], b, _, hb => ⟨[], b, rfl, hb, (fun y hy => by cases hy), Nat.le_refl _⟩
  | x :: xs, b, hs, hb => by
    obtain ⟨ps, h1, c, b1, h2, h3, h4⟩ := hs x List.mem_cons_self b hb
    have hs' := fun z hz => hs z (List.mem_cons_of_mem _ hz)
    cases c with
    | true =>
      obtain ⟨r, b2, h5, h6, y, rfl, h7⟩ := h4 rfl
      obtain ⟨ys, b3, h8, h9, h10, h11⟩ := ok_lcLoop (S := S) P R xs b2 hs' h6
      refine ⟨y :: ys, b3, ?_, h9, fun z hz => ?_, by simp; exact h11⟩
      · unfold lcLoop
        rw [h1]
        simp only
        rw [h2]
        simp only [bnd_mk, if_true]
        rw [h5]
        simp only [bnd_mk]
        rw [h8]; rfl
      · rcases List.mem_cons.mp hz with rfl | hz
        · exact h7
        · exact h10 z hz
    | false =>
      obtain ⟨ys, b3, h8, h9, h10, h11⟩ := ok_lcLoop (S := S) P R xs b1 hs' h3
      refine ⟨ys, b3, ?_, h9, h10, by simp; omega⟩
      unfold lcLoop
      rw [h1]
      simp only
      rw [h2]
      simp only [bnd_mk, Bool.false_eq_true, if_false]
      exact h8
theorem ok_lcLoopN {tg : Tg} {fe : Fe} {S : Sl} (P : BS → Prop) (R : PV → Prop) : ∀ (xs : List PV) (b : BS), (∀ x ∈ xs, ∀ b, P b → ∃ ps, tg.parts x = some ps ∧ Ok (fe (setS S tg.slots (ps.map SV.p)) b) fun r b2 => P b2 ∧ ∃ y, r = .p y ∧ R y) → P b →
    Ok (lcLoop tg fYes fe S xs b) fun ys b' => P b' ∧ (∀ y ∈ ys, R y) ∧ ys.length = xs.length
  | [], b, _, hb => ⟨[], b, rfl, hb, (fun y hy => by cases hy), rfl⟩
  | x :: xs, b, hs, hb => by
    obtain ⟨ps, h1, r, b2, h5, h6, y, rfl, h7⟩ := hs x List.mem_cons_self b hb
    have hs' := fun z hz => hs z (List.mem_cons_of_mem _ hz)
    obtain ⟨ys, b3, h8, h9, h10, h11⟩ := ok_lcLoopN (S := S) P R xs b2 hs' h6
    refine ⟨y :: ys, b3, ?_, h9, fun z hz => ?_, by simp; exact h11⟩
    · unfold lcLoop
      rw [h1]
      simp only [z_yes, bnd_mk, if_true]
      rw [h5]
      simp only [bnd_mk]
      rw [h8]; rfl
    · rcases List.mem_cons.mp hz with rfl | hz
      · exact h7
      · exact h10 z hz
theorem ok_lcO {fi : Fi} {tg : Tg} {ft : Ft} {fe : Fe} {vs : List Nat} {S : Sl} {b b1 : BS} {xs : List PV} {Q : SV → BS → Prop} (h : fi S b = some (xs, b1)) (hl : xs.length ≤ 50000) (h2 : Ok (lcLoop tg ft fe (wpS S vs) xs b1) fun ys b2 => Q (.m ys) b2) : Ok (fLc fi tg ft fe vs S b) Q := by
  obtain ⟨ys, b2, e, hq⟩ := h2
  exact ⟨_, _, lc_eq h hl e, hq⟩
theorem list_ex {α : Type} {f : α → PV} {P : α → Prop} : ∀ {ys : List PV}, (∀ y ∈ ys, ∃ g, y = f g ∧ P g) → ∃ gs : List α, ys = gs.map f ∧ ∀ g ∈ gs, P g
  | [], _ => ⟨[], rfl, fun g hg => by cases hg⟩
  | y :: ys, h => by
    obtain ⟨g, rfl, hg⟩ := h y List.mem_cons_self
    obtain ⟨gs, rfl, hgs⟩ := list_ex fun z hz => h z (List.mem_cons_of_mem _ hz)
    exact ⟨g :: gs, rfl, fun z hz => by
      rcases List.mem_cons.mp hz with rfl | hz
      · exact hg
      · exact hgs z hz⟩
theorem segs_ex {bs : List Bud} (hn : 1 ≤ bs.length ∧ bs.length ≤ 3) {m : Int} (hm : 0 < m) {b : BS} (hb : Bx b) : ∃ (gs : List II) (b1 : BS), D_law_segments [.box, .p (encBs bs), .p (.i m)] b = some (.p (.t (gs.map pv2)), b1) ∧ 1 ≤ gs.length ∧ gs.length ≤ 3 ∧ (∀ g ∈ gs, 1 ≤ g.1 ∧ g.1 ≤ m ∧ 0 ≤ g.2 ∧ g.2.toNat < bs.length) ∧ Bx b1 := by
  obtain ⟨c, b0, hc, hc0, hc3, hb0⟩ := draw_ex (n := 3) (by omega) hb
  have hfi : fRng1 (fCons (fOp gAdd (fC (.p (.i 1))) (fCall D_law_draw (fCons (fVar 0) (fCons (fC (.p (.i 3))) fNil)))) fNil) (stS 4 [.box, .p (encBs bs), .p (.i m)]) b = some ((List.range (1 + c).toNat).map nI, b0) :=
    rng1_eq (by simp [stS, hc]) (by omega) (by omega)
  obtain ⟨ys, b1, h1, h2, h3, h4⟩ := ok_lcLoopN (tg := .one 3) (fe := fTup (fCons (fOp gAdd (fC (.p (.i 1))) (fCall D_law_draw (fCons (fVar 0) (fCons (fVar 2) fNil)))) (fCons (fCall D_law_draw (fCons (fVar 0) (fCons (fCB gLen (fCons (fVar 1) fNil)) fNil))) fNil))) (S := wpS (stS 4 [.box, .p (encBs bs), .p (.i m)]) [3]) Bx (fun y => ∃ g : II, y = pv2 g ∧ (1 ≤ g.1 ∧ g.1 ≤ m ∧ 0 ≤ g.2 ∧ g.2.toNat < bs.length)) ((List.range (1 + c).toNat).map nI) b0 (by
    intro x hx b hb
    obtain ⟨u, b1, hu, hu0, hu1, hb1⟩ := draw_ex hm hb
    obtain ⟨w, b2, hw, hw0, hw1, hb2⟩ := draw_ex (n := (bs.length : Int)) (by omega) hb1
    refine ⟨[x], rfl, Ok.of (a := .p (pv2 (1 + u, w))) (b := b2) ?_ ⟨hb2, _, rfl, (1 + u, w), rfl, by show 1 ≤ 1 + u; omega, by show 1 + u ≤ m; omega, hw0, by show w.toNat < _; omega⟩⟩
    simp [stS, hu, hw, encBs, pv2]) hb0
  obtain ⟨gs, rfl, hgs⟩ := list_ex h3
  have hlen : gs.length = (1 + c).toNat := by simpa using h4
  refine ⟨gs, b1, mkFn_eq rfl (ret_eq (cb1_eq (lc_eq hfi (by simp; omega) h1) rfl)), by omega, by omega, hgs, h2⟩
end K15
/-! K15P29: law_little -/
set_option autoImplicit false
namespace K15
open PySem PySem.Spec PyProof.Rows L2 K15R
theorem args_nil {S : Sl} {b : BS} : fNil S b = some ([], b) := rfl
theorem args_cons {fa : Fe} {fs : Fa} {S : Sl} {b b1 b2 : BS} {x : SV} {xs : List SV} (h : fa S b = some (x, b1)) (h2 : fs S b1 = some (xs, b2)) : fCons fa fs S b = some (x :: xs, b2) := by
  rw [z_cons, h, bnd_mk, h2]; rfl
theorem pvs_map : ∀ ps : List PV, pvs (ps.map SV.p) = some ps
  | [] => rfl
  | p :: ps => by rw [List.map_cons, y_pvs1, pvs_map ps]; rfl
theorem tup_eq {fs : Fa} {S : Sl} {b b1 : BS} (ps : List PV) (h : fs S b = some (ps.map SV.p, b1)) (hl : ps.length ≤ 100000) : fTup fs S b = some (.p (.t ps), b1) := by
  rw [z_tup, h, bnd_mk, pvs_map]
  show (if ps.length ≤ 100000 then _ else _) = _
  rw [if_pos hl]
theorem catA_eq {fa fb : Fe} {S : Sl} {b b1 b2 : BS} {xs ys : List PV} (h1 : fa S b = some (.p (.t xs), b1)) (h2 : fb S b1 = some (.p (.t ys), b2)) (hl : xs.length + ys.length ≤ 100000) : fOp gCatA fa fb S b = some (.p (.t (xs ++ ys)), b2) :=
  op_eq h1 h2 (by rw [y_catA, if_pos hl])
theorem drawE {fe : Fe} {S : Sl} {b : BS} {i : Nat} {n : Int} (hS : S[i]? = some (some .box)) (hfe : fe S b = some (.p (.i n), b)) (hn : 0 < n) (hb : Bx b) : ∃ x b1, fCall D_law_draw (fCons (fVar i) (fCons fe fNil)) S b = some (.p (.i x), b1) ∧ 0 ≤ x ∧ x < n ∧ Bx b1 := by
  obtain ⟨x, b1, h1, h2, h3, h4⟩ := draw_ex hn hb
  exact ⟨x, b1, call2_eq (x := .box) (y := .p (.i n)) (b1 := b) (b2 := b) (by rw [z_var, hS]; rfl) hfe h1, h2, h3, h4⟩
theorem nm_ex {a z : Str} {fe : Fe} {S : Sl} {b : BS} {k : Nat} (hfe : fe S b = some (.p (.i k), b)) (hk : k < z.cps.toList.length) (hz : z.length ≤ 100000) (ha : a.length ≤ 1000) : ∃ nm : Str, fOp gStr (fC (.p (.s a))) (fOp gIxS (fC (.p (.s z))) fe) S b = some (.p (.s nm), b) := by
  have e1 : gIxS (.p (.s z)) (.p (.i (k : Int))) = some (.p (.s ⟨#[z.cps.toList[k]]⟩)) := by
    show (if 0 ≤ (k : Int) ∧ z.length ≤ 100000 then z.cps.toList[(k : Int).toNat]?.map (fun c => SV.p (.s ⟨#[c]⟩)) else none) = _
    rw [if_pos ⟨by omega, hz⟩, Int.toNat_natCast, List.getElem?_eq_getElem hk]; rfl
  have hl : a.length + (⟨#[z.cps.toList[k]]⟩ : Str).length ≤ 100000 := by
    have : (⟨#[z.cps.toList[k]]⟩ : Str).length = 1 := rfl
    omega
  refine ⟨a ++ ⟨#[z.cps.toList[k]]⟩, op_eq (b1 := b) (b2 := b) (x := .p (.s a)) rfl (op_eq (b1 := b) (x := .p (.s z)) rfl hfe e1) ?_⟩
  show (if a.length + (⟨#[z.cps.toList[k]]⟩ : Str).length ≤ 100000 then _ else _) = _
  rw [if_pos hl]
theorem range_split {n k : Nat} {d e : List Nat} (h : List.range n = d ++ k :: e) : k = d.length ∧ d.length < n := by
  have h1 : (List.range n)[d.length]? = some k := by rw [h]; simp
  have h2 : d.length < n := by
    have := congrArg List.length h
    simp at this
    omega
  rw [List.getElem?_range h2] at h1
  exact ⟨(Option.some.inj h1).symm, h2⟩
/-! ### budgets -/
structure VBn (bs : List Bud) : Prop where
  cap : ∀ (k : Nat) (x : Bud), bs[k]? = some x → 0 ≤ x.cap ∧ x.cap ≤ 3
  par : ∀ (k : Nat) (x : Bud), bs[k]? = some x → -1 ≤ x.par ∧ x.par < k
def F_liB : Fs := (fAsg 1 (fOp gCatA (fVar 1) (fTup (fCons (fTup (fCons (fOp gStr (fC (.p (.s (Str.ofString "b")))) (fOp gIxS (fC (.p (.s (Str.ofString "abc")))) (fVar 2))) (fCons (fCall D_law_draw (fCons (fVar 0) (fCons (fC (.p (.i 4))) fNil))) (fCons (fOp gSub_ (fCall D_law_draw (fCons (fVar 0) (fCons (fOp gAdd (fVar 2) (fC (.p (.i 1)))) fNil))) (fC (.p (.i 1)))) fNil)))) fNil))))
theorem st_abc : (Str.ofString "abc").cps.toList.length = 3 ∧ (Str.ofString "abc").length ≤ 100000 := by decide +kernel
theorem st_abcd : (Str.ofString "abcd").cps.toList.length = 4 ∧ (Str.ofString "abcd").length ≤ 100000 := by decide +kernel
theorem st_b : (Str.ofString "b").length ≤ 1000 := by decide +kernel
theorem st_j : (Str.ofString "j").length ≤ 1000 := by decide +kernel
theorem st_t : (Str.ofString "t").length ≤ 1000 := by decide +kernel
theorem li_bud {bs : List Bud} (vb : VBn bs) {k : Nat} (hk : bs.length = k) (hk3 : k < 3) {b : BS} (hb : Bx b) (z3 z4 z5 z6 z7 z8 : Option SV) : ∃ (bs' : List Bud) (b' : BS), F_liB [some .box, some (.p (encBs bs)), some (.p (nI k)), z3, z4, z5, z6, z7, z8] b = some (.nx [some .box, some (.p (encBs bs')), some (.p (nI k)), z3, z4, z5, z6, z7, z8], b') ∧ bs'.length = k + 1 ∧ VBn bs' ∧ Bx b' := by
  obtain ⟨nm, hnm⟩ := nm_ex (a := Str.ofString "b") (z := Str.ofString "abc") (fe := fVar 2) (S := [some .box, some (.p (encBs bs)), some (.p (nI k)), z3, z4, z5, z6, z7, z8]) (b := b) (k := k) rfl (by rw [st_abc.1]; exact hk3) st_abc.2 st_b
  obtain ⟨c, b1, hc, hc0, hc4, hb1⟩ := drawE (fe := fC (.p (.i 4))) (S := [some .box, some (.p (encBs bs)), some (.p (nI k)), z3, z4, z5, z6, z7, z8]) (i := 0) (n := 4) (b := b) rfl rfl (by omega) hb
  obtain ⟨q, b2, hq, hq0, hq4, hb2⟩ := drawE (fe := fOp gAdd (fVar 2) (fC (.p (.i 1)))) (S := [some .box, some (.p (encBs bs)), some (.p (nI k)), z3, z4, z5, z6, z7, z8]) (i := 0) (n := (k : Int) + 1) (b := b1) rfl rfl (by omega) hb1
  refine ⟨bs ++ [⟨nm, c, q - 1⟩], b2, ?_, by simp; omega, ⟨fun i x hx => ?_, fun i x hx => ?_⟩, hb2⟩
  · have e1 := tup_eq [.s nm, .i c, .i (q - 1)] (args_cons hnm (args_cons hc (args_cons (op_eq (g := gSub_) (fb := fC (.p (.i 1))) hq (y := .p (.i 1)) (b2 := b2) rfl (z := .p (.i (q - 1))) rfl) args_nil))) (by simp)
    have e2 := tup_eq [.t [.s nm, .i c, .i (q - 1)]] (args_cons e1 args_nil) (by simp)
    have e3 := catA_eq (fa := fVar 1) (xs := bs.map encB) (b1 := b) rfl e2 (by rw [List.length_map]; simp; omega)
    refine (asg_p e3).trans ?_
    simp [encBs, encB]
  · by_cases hi : i < bs.length
    · rw [List.getElem?_append_left hi] at hx
      exact vb.cap i x hx
    · rw [List.getElem?_append_right (by omega)] at hx
      have hi0 : i - bs.length = 0 := by
        have := (List.getElem?_eq_some_iff.mp hx).1
        simp at this
        omega
      rw [hi0] at hx
      obtain rfl : (⟨nm, c, q - 1⟩ : Bud) = x := by simpa using hx
      show 0 ≤ c ∧ c ≤ 3
      omega
  · by_cases hi : i < bs.length
    · rw [List.getElem?_append_left hi] at hx
      exact vb.par i x hx
    · rw [List.getElem?_append_right (by omega)] at hx
      have hi0 : i - bs.length = 0 := by
        have := (List.getElem?_eq_some_iff.mp hx).1
        simp at this
        omega
      rw [hi0] at hx
      obtain rfl : (⟨nm, c, q - 1⟩ : Bud) = x := by simpa using hx
      show -1 ≤ q - 1 ∧ q - 1 < i
      omega
/-! ### jobs -/
def JobOk (n : Nat) (x : Item) : Prop := VI n x ∧ x.job = true ∧ VJ x
def F_liJ : Fs := (fSeq (fAsg 4 (fCall D_law_segments (fCons (fVar 0) (fCons (fVar 1) (fCons (fC (.p (.i 4))) fNil)))))
    (fSeq (fAsg 5 (fCall D_law_draw (fCons (fVar 0) (fCons (fC (.p (.i 8))) fNil))))
    (fSeq (fAsg 6 (fTup (fCons (fC (.p (.s (Str.ofString "job")))) (fCons (fOp gStr (fC (.p (.s (Str.ofString "j")))) (fOp gIxS (fC (.p (.s (Str.ofString "abcd")))) (fVar 2))) (fCons (fVar 5) (fCons (fOp gAdd (fOp gAdd (fVar 5) (fC (.p (.i 2)))) (fCall D_law_draw (fCons (fVar 0) (fCons (fC (.p (.i 34))) fNil)))) (fCons (fC (.p (.i 0))) (fCons (fVar 4) fNil))))))))
    (fSeq (fIf (fTest (fOp (gEqB false) (fCall D_law_draw (fCons (fVar 0) (fCons (fC (.p (.i 4))) fNil))) (fC (.p (.i 0)))))
      (fAsg 6 (fOp gCatA (fSl4 (fVar 6)) (fTup (fCons (fCall D_law_draw (fCons (fVar 0) (fCons (fOp gAdd (fOp gIx (fOp gIx (fVar 4) (fC (.p (.i 0)))) (fC (.p (.i 0)))) (fC (.p (.i 1)))) fNil))) (fCons (fVar 4) fNil)))))
      fNext)
    (fAsg 3 (fOp gCatA (fVar 3) (fTup (fCons (fVar 6) fNil))))))))
theorem job_enc (nm : Str) (r a d : Int) (gs : List II) : encI ⟨true, nm, r, a, d, gs⟩ = .t [.s (Str.ofString "job"), .s nm, .i r, .i a, .i d, .t (gs.map pv2)] := rfl
theorem task_enc (nm : Str) (r a d : Int) (gs : List II) : encI ⟨false, nm, r, a, d, gs⟩ = .t [.s (Str.ofString "task"), .s nm, .i r, .i a, .i d, .t (gs.map pv2)] := rfl
theorem call3_eq {D : Fn} {fa fb fc : Fe} {S : Sl} {b b1 b2 b3 b4 : BS} {x y z r : SV} (ha : fa S b = some (x, b1)) (hb : fb S b1 = some (y, b2)) (hc : fc S b2 = some (z, b3)) (hg : D [x.arg, y.arg, z.arg] b3 = some (r, b4)) : fCall D (fCons fa (fCons fb (fCons fc fNil))) S b = some (r, b4) := by
  rw [z_call, args_cons ha (args_cons hb (args_cons hc args_nil)), bnd_mk]; exact hg
theorem li_job {bs : List Bud} (hn : 1 ≤ bs.length ∧ bs.length ≤ 3) {js : List Item} (hjl : js.length ≤ 100) {k : Nat} (hk : k < 4) {b : BS} (hb : Bx b) (z4 z5 z6 z7 z8 : Option SV) : ∃ (x : Item) (z4' z5' z6' : Option SV) (b' : BS), F_liJ [some .box, some (.p (encBs bs)), some (.p (nI k)), some (.p (.t (js.map encI))), z4, z5, z6, z7, z8] b = some (.nx [some .box, some (.p (encBs bs)), some (.p (nI k)), some (.p (.t ((js ++ [x]).map encI))), z4', z5', z6', z7, z8], b') ∧ JobOk bs.length x ∧ Bx b' := by
  obtain ⟨gs, b1, hgs, hg1, hg3, hg, hb1⟩ := segs_ex hn (m := 4) (by omega) hb
  obtain ⟨r, b2, hr, hr0, hr8, hb2⟩ := drawE (fe := fC (.p (.i 8))) (S := [some .box, some (.p (encBs bs)), some (.p (nI k)), some (.p (.t (js.map encI))), some (.p (.t (gs.map pv2))), z5, z6, z7, z8]) (i := 0) (n := 8) (b := b1) rfl rfl (by omega) hb1
  obtain ⟨nm, hnm⟩ := nm_ex (a := Str.ofString "j") (z := Str.ofString "abcd") (fe := fVar 2) (S := [some .box, some (.p (encBs bs)), some (.p (nI k)), some (.p (.t (js.map encI))), some (.p (.t (gs.map pv2))), some (.p (.i r)), z6, z7, z8]) (b := b2) (k := k) rfl (by rw [st_abcd.1]; exact hk) st_abcd.2 st_j
  obtain ⟨a, b3, ha, ha0, ha34, hb3⟩ := drawE (fe := fC (.p (.i 34))) (S := [some .box, some (.p (encBs bs)), some (.p (nI k)), some (.p (.t (js.map encI))), some (.p (.t (gs.map pv2))), some (.p (.i r)), z6, z7, z8]) (i := 0) (n := 34) (b := b2) rfl rfl (by omega) hb2
  obtain ⟨u, b4, hu, hu0, hu4, hb4⟩ := drawE (fe := fC (.p (.i 4))) (S := [some .box, some (.p (encBs bs)), some (.p (nI k)), some (.p (.t (js.map encI))), some (.p (.t (gs.map pv2))), some (.p (.i r)), some (.p (encI ⟨true, nm, r, r + 2 + a, 0, gs⟩)), z7, z8]) (i := 0) (n := 4) (b := b3) rfl rfl (by omega) hb3
  have fin : ∀ (d : Int) (bz : BS), 0 ≤ d → d ≤ lensI ⟨true, nm, r, r + 2 + a, d, gs⟩ → Bx bz → ∃ (x : Item) (z4' z5' z6' : Option SV) (b' : BS), (fAsg 3 (fOp gCatA (fVar 3) (fTup (fCons (fVar 6) fNil)))) [some .box, some (.p (encBs bs)), some (.p (nI k)), some (.p (.t (js.map encI))), some (.p (.t (gs.map pv2))), some (.p (.i r)), some (.p (encI ⟨true, nm, r, r + 2 + a, d, gs⟩)), z7, z8] bz = some (.nx [some .box, some (.p (encBs bs)), some (.p (nI k)), some (.p (.t ((js ++ [x]).map encI))), z4', z5', z6', z7, z8], b') ∧ JobOk bs.length x ∧ Bx b' := fun d bz hd0 hd hbz => by
    refine ⟨⟨true, nm, r, r + 2 + a, d, gs⟩, some (.p (.t (gs.map pv2))), some (.p (.i r)), some (.p (encI ⟨true, nm, r, r + 2 + a, d, gs⟩)), bz, ?_, ⟨⟨hg3, fun g hg' => ?_, fun h => by cases h⟩, rfl, ⟨⟨hr0, by show r ≤ 7; omega⟩, ⟨by show r + 2 ≤ r + 2 + a; omega, by show r + 2 + a ≤ r + 35; omega⟩, ⟨hd0, hd⟩⟩⟩, hbz⟩
    · have e2 := tup_eq [encI ⟨true, nm, r, r + 2 + a, d, gs⟩] (fs := fCons (fVar 6) fNil) (S := [some .box, some (.p (encBs bs)), some (.p (nI k)), some (.p (.t (js.map encI))), some (.p (.t (gs.map pv2))), some (.p (.i r)), some (.p (encI ⟨true, nm, r, r + 2 + a, d, gs⟩)), z7, z8]) (b := bz) (b1 := bz) rfl (by simp)
      have e3 := catA_eq (fa := fVar 3) (xs := js.map encI) (b1 := bz) rfl e2 (by rw [List.length_map]; simp; omega)
      refine (asg_p e3).trans ?_
      rw [List.map_append]; rfl
    · have := hg g hg'
      exact ⟨this.2.2.1, this.2.2.2, this.1, this.2.1⟩
  have hlens : ∀ d, lensI ⟨true, nm, r, r + 2 + a, d, gs⟩ = (gs.map Prod.fst).sum := fun d => rfl
  have hsb := sum_bd gs fun g h => ⟨(hg g h).1, (hg g h).2.1⟩
  have eJ : fAsg 6 (fTup (fCons (fC (.p (.s (Str.ofString "job")))) (fCons (fOp gStr (fC (.p (.s (Str.ofString "j")))) (fOp gIxS (fC (.p (.s (Str.ofString "abcd")))) (fVar 2))) (fCons (fVar 5) (fCons (fOp gAdd (fOp gAdd (fVar 5) (fC (.p (.i 2)))) (fCall D_law_draw (fCons (fVar 0) (fCons (fC (.p (.i 34))) fNil)))) (fCons (fC (.p (.i 0))) (fCons (fVar 4) fNil))))))) [some .box, some (.p (encBs bs)), some (.p (nI k)), some (.p (.t (js.map encI))), some (.p (.t (gs.map pv2))), some (.p (.i r)), z6, z7, z8] b2 = some (.nx [some .box, some (.p (encBs bs)), some (.p (nI k)), some (.p (.t (js.map encI))), some (.p (.t (gs.map pv2))), some (.p (.i r)), some (.p (encI ⟨true, nm, r, r + 2 + a, 0, gs⟩)), z7, z8], b3) := by
    refine asg_p (tup_eq [.s (Str.ofString "job"), .s nm, .i r, .i (r + 2 + a), .i 0, .t (gs.map pv2)] ?_ (by simp))
    refine args_cons (b1 := b2) (x := .p (.s (Str.ofString "job"))) rfl (args_cons hnm (args_cons (b1 := b2) (x := .p (.i r)) rfl (args_cons (x := .p (.i (r + 2 + a))) (op_eq (b1 := b2) (x := .p (.i (r + 2))) rfl ha rfl) ?_)))
    rfl
  have pre : ∀ (o : Out) (bz : BS), fSeq (fIf (fTest (fOp (gEqB false) (fCall D_law_draw (fCons (fVar 0) (fCons (fC (.p (.i 4))) fNil))) (fC (.p (.i 0)))))
      (fAsg 6 (fOp gCatA (fSl4 (fVar 6)) (fTup (fCons (fCall D_law_draw (fCons (fVar 0) (fCons (fOp gAdd (fOp gIx (fOp gIx (fVar 4) (fC (.p (.i 0)))) (fC (.p (.i 0)))) (fC (.p (.i 1)))) fNil))) (fCons (fVar 4) fNil)))))
      fNext)
    (fAsg 3 (fOp gCatA (fVar 3) (fTup (fCons (fVar 6) fNil)))) [some .box, some (.p (encBs bs)), some (.p (nI k)), some (.p (.t (js.map encI))), some (.p (.t (gs.map pv2))), some (.p (.i r)), some (.p (encI ⟨true, nm, r, r + 2 + a, 0, gs⟩)), z7, z8] b3 = some (o, bz) → F_liJ [some .box, some (.p (encBs bs)), some (.p (nI k)), some (.p (.t (js.map encI))), z4, z5, z6, z7, z8] b = some (o, bz) := fun o bz h => by
    refine (seq_nx (asg_p (i := 4) (call3_eq (x := .box) (y := .p (encBs bs)) (z := .p (.i 4)) (fa := fVar 0) (fb := fVar 1) (S := [some .box, some (.p (encBs bs)), some (.p (nI k)), some (.p (.t (js.map encI))), z4, z5, z6, z7, z8]) (b := b) rfl rfl rfl hgs))).trans ?_
    refine (seq_nx (asg_p (i := 5) hr)).trans ?_
    exact (seq_nx eJ).trans h
  have tst : fTest (fOp (gEqB false) (fCall D_law_draw (fCons (fVar 0) (fCons (fC (.p (.i 4))) fNil))) (fC (.p (.i 0)))) [some .box, some (.p (encBs bs)), some (.p (nI k)), some (.p (.t (js.map encI))), some (.p (.t (gs.map pv2))), some (.p (.i r)), some (.p (encI ⟨true, nm, r, r + 2 + a, 0, gs⟩)), z7, z8] b3 = some (decide (u = 0), b4) := by
    rw [z_test, op_eq hu (y := .p (.i 0)) (b2 := b4) rfl (y_eqi false u 0)]
    show some (decide (u = 0) ^^ false, b4) = _
    rw [Bool.xor_false]
  by_cases hu0 : u = 0
  · obtain ⟨g, gs', rfl⟩ : ∃ g gs', gs = g :: gs' := by
      cases gs with
      | nil => simp at hg1
      | cons g gs' => exact ⟨g, gs', rfl⟩
    have hgg := hg g List.mem_cons_self
    obtain ⟨d, b5, hd, hd0, hd1, hb5⟩ := drawE (fe := fOp gAdd (fOp gIx (fOp gIx (fVar 4) (fC (.p (.i 0)))) (fC (.p (.i 0)))) (fC (.p (.i 1)))) (S := [some .box, some (.p (encBs bs)), some (.p (nI k)), some (.p (.t (js.map encI))), some (.p (.t ((g :: gs').map pv2))), some (.p (.i r)), some (.p (encI ⟨true, nm, r, r + 2 + a, 0, g :: gs'⟩)), z7, z8]) (i := 0) (n := g.1 + 1) (b := b4) rfl rfl (by omega) hb4
    have hdl : d ≤ lensI ⟨true, nm, r, r + 2 + a, d, g :: gs'⟩ := by
      rw [hlens]
      have h1 := sum_bd gs' fun x h => ⟨(hg x (List.mem_cons_of_mem _ h)).1, (hg x (List.mem_cons_of_mem _ h)).2.1⟩
      simp only [List.map_cons, List.sum_cons]
      omega
    obtain ⟨x, z4', z5', z6', b', h1, h2, h3⟩ := fin d b5 hd0 hdl hb5
    refine ⟨x, z4', z5', z6', b', pre _ _ ?_, h2, h3⟩
    rw [decide_eq_true hu0] at tst
    refine (seq_nx (if_t tst (asg_p (x := encI ⟨true, nm, r, r + 2 + a, d, g :: gs'⟩) (b' := b5) ?_))).trans h1
    have e2 := tup_eq [.i d, .t ((g :: gs').map pv2)] (args_cons hd (args_cons (fa := fVar 4) (x := .p (.t ((g :: gs').map pv2))) (b1 := b5) rfl args_nil)) (by simp)
    exact catA_eq (xs := [.s (Str.ofString "job"), .s nm, .i r, .i (r + 2 + a)]) (b1 := b4) rfl e2 (by simp)
  · obtain ⟨x, z4', z5', z6', b', h1, h2, h3⟩ := fin 0 b4 (Int.le_refl _) (by rw [hlens]; omega) hb4
    refine ⟨x, z4', z5', z6', b', pre _ _ ?_, h2, h3⟩
    rw [decide_eq_false hu0] at tst
    exact (seq_nx (if_f tst)).trans h1
end K15
/-! K15P30: law_little -/
set_option autoImplicit false
namespace K15
open PySem PySem.Spec PyProof.Rows L2 K15R
theorem eq_len0 {gs : List II} (h : gs.length ≤ 3) (b : BS) : D_law_lengths [.p (.t [.i 0, .i 0, .i 0, .i 0, .i 0, .t (gs.map pv2)])] b = some (.p (.i (gs.map Prod.fst).sum), b) := by
  refine mkFn_eq rfl ?_
  have hl := lc_eq (vs := [1]) (tg := .one 1) (ft := fYes) (fi := fItT (fOp gIx (fVar 0) (fC (.p (.i 5))))) (fe := fOp gIx (fVar 1) (fC (.p (.i 0)))) (S := stS 2 [.p (.t [.i 0, .i 0, .i 0, .i 0, .i 0, .t (gs.map pv2)])]) (b := b) (b1 := b) (xs := gs.map pv2) (by simp [stS]) (by simp; omega) (lc_all pv2 (fun s => PV.i s.1) b gs fun s _ => ⟨[pv2 s], rfl, by simp [stS, pv2]⟩)
  exact ret_eq (cb1_eq hl (sum_map Prod.fst gs))
def TaskOk (n : Nat) (x : Item) : Prop := VI n x ∧ x.job = false ∧ VT x
def F_liT : Fs := (fSeq (fAsg 4 (fCall D_law_segments (fCons (fVar 0) (fCons (fVar 1) (fCons (fC (.p (.i 3))) fNil)))))
    (fSeq (fAsg 8 (fOp gAdd (fOp gAdd (fOp gMul (fCall D_law_lengths (fCons (fTup (fCons (fC (.p (.i 0))) (fCons (fC (.p (.i 0))) (fCons (fC (.p (.i 0))) (fCons (fC (.p (.i 0))) (fCons (fC (.p (.i 0))) (fCons (fVar 4) fNil))))))) fNil)) (fOp gAdd (fC (.p (.i 3))) (fCall D_law_draw (fCons (fVar 0) (fCons (fC (.p (.i 3))) fNil))))) (fC (.p (.i 1)))) (fCall D_law_draw (fCons (fVar 0) (fCons (fC (.p (.i 9))) fNil)))))
    (fAsg 7 (fOp gCatA (fVar 7) (fTup (fCons (fTup (fCons (fC (.p (.s (Str.ofString "task")))) (fCons (fOp gStr (fC (.p (.s (Str.ofString "t")))) (fOp gIxS (fC (.p (.s (Str.ofString "abc")))) (fVar 2))) (fCons (fCall D_law_draw (fCons (fVar 0) (fCons (fC (.p (.i 8))) fNil))) (fCons (fVar 8) (fCons (fOp gAdd (fC (.p (.i 4))) (fCall D_law_draw (fCons (fVar 0) (fCons (fC (.p (.i 30))) fNil)))) (fCons (fVar 4) fNil))))))) fNil))))))
theorem sum_bd3 : ∀ (gs : List II), (∀ g ∈ gs, 1 ≤ g.1 ∧ g.1 ≤ 3) → (gs.length : Int) ≤ (gs.map Prod.fst).sum ∧ (gs.map Prod.fst).sum ≤ 3 * (gs.length : Int)
  | [], _ => by simp
  | g :: gs, h => by
    have h1 := h g List.mem_cons_self
    have h2 := sum_bd3 gs fun x hx => h x (List.mem_cons_of_mem _ hx)
    simp only [List.map_cons, List.sum_cons, List.length_cons]
    omega
theorem li_task {bs : List Bud} (hn : 1 ≤ bs.length ∧ bs.length ≤ 3) {ts : List Item} (hjl : ts.length ≤ 100) {k : Nat} (hk : k < 3) {b : BS} (hb : Bx b) (z3 z4 z5 z6 z8 : Option SV) : ∃ (x : Item) (z4' z8' : Option SV) (b' : BS), F_liT [some .box, some (.p (encBs bs)), some (.p (nI k)), z3, z4, z5, z6, some (.p (.t (ts.map encI))), z8] b = some (.nx [some .box, some (.p (encBs bs)), some (.p (nI k)), z3, z4', z5, z6, some (.p (.t ((ts ++ [x]).map encI))), z8'], b') ∧ TaskOk bs.length x ∧ Bx b' := by
  obtain ⟨gs, b1, hgs, hg1, hg3, hg, hb1⟩ := segs_ex hn (m := 3) (by omega) hb
  have hsb := sum_bd3 gs fun g h => ⟨(hg g h).1, (hg g h).2.1⟩
  have e0 := eq_len0 hg3 b1
  generalize hw : (gs.map Prod.fst).sum = w at *
  obtain ⟨u, b2, hu, hu0, hu3, hb2⟩ := drawE (fe := fC (.p (.i 3))) (S := [some .box, some (.p (encBs bs)), some (.p (nI k)), z3, some (.p (.t (gs.map pv2))), z5, z6, some (.p (.t (ts.map encI))), z8]) (i := 0) (n := 3) (b := b1) rfl rfl (by omega) hb1
  obtain ⟨q, b3, hq, hq0, hq9, hb3⟩ := drawE (fe := fC (.p (.i 9))) (S := [some .box, some (.p (encBs bs)), some (.p (nI k)), z3, some (.p (.t (gs.map pv2))), z5, z6, some (.p (.t (ts.map encI))), z8]) (i := 0) (n := 9) (b := b2) rfl rfl (by omega) hb2
  have eA : fAsg 8 (fOp gAdd (fOp gAdd (fOp gMul (fCall D_law_lengths (fCons (fTup (fCons (fC (.p (.i 0))) (fCons (fC (.p (.i 0))) (fCons (fC (.p (.i 0))) (fCons (fC (.p (.i 0))) (fCons (fC (.p (.i 0))) (fCons (fVar 4) fNil))))))) fNil)) (fOp gAdd (fC (.p (.i 3))) (fCall D_law_draw (fCons (fVar 0) (fCons (fC (.p (.i 3))) fNil))))) (fC (.p (.i 1)))) (fCall D_law_draw (fCons (fVar 0) (fCons (fC (.p (.i 9))) fNil)))) [some .box, some (.p (encBs bs)), some (.p (nI k)), z3, some (.p (.t (gs.map pv2))), z5, z6, some (.p (.t (ts.map encI))), z8] b1 = some (.nx [some .box, some (.p (encBs bs)), some (.p (nI k)), z3, some (.p (.t (gs.map pv2))), z5, z6, some (.p (.t (ts.map encI))), some (.p (.i (w * (3 + u) + 1 + q)))], b3) := by
    have e1 := tup_eq (fs := (fCons (fC (.p (.i 0))) (fCons (fC (.p (.i 0))) (fCons (fC (.p (.i 0))) (fCons (fC (.p (.i 0))) (fCons (fC (.p (.i 0))) (fCons (fVar 4) fNil))))))) [.i 0, .i 0, .i 0, .i 0, .i 0, .t (gs.map pv2)] (S := [some .box, some (.p (encBs bs)), some (.p (nI k)), z3, some (.p (.t (gs.map pv2))), z5, z6, some (.p (.t (ts.map encI))), z8]) (b := b1) (b1 := b1) rfl (by simp)
    have hm : cMul w (3 + u) = true := cMul_r (by omega) (by omega)
    have e2 := op_eq (g := gMul) (call1_eq e1 e0) (op_eq (g := gAdd) (fa := fC (.p (.i 3))) (x := .p (.i 3)) (b1 := b1) rfl hu rfl) (show gMul (.p (.i w)) (.p (.i (3 + u))) = some (.p (.i (w * (3 + u)))) by show (if cMul w (3 + u) then _ else _) = _; rw [if_pos hm])
    exact asg_p (op_eq (x := .p (.i (w * (3 + u) + 1))) (op_eq (x := .p (.i (w * (3 + u)))) (y := .p (.i 1)) e2 rfl rfl) hq rfl)
  obtain ⟨nm, hnm⟩ := nm_ex (a := Str.ofString "t") (z := Str.ofString "abc") (fe := fVar 2) (S := [some .box, some (.p (encBs bs)), some (.p (nI k)), z3, some (.p (.t (gs.map pv2))), z5, z6, some (.p (.t (ts.map encI))), some (.p (.i (w * (3 + u) + 1 + q)))]) (b := b3) (k := k) rfl (by rw [st_abc.1]; exact hk) st_abc.2 st_t
  obtain ⟨r, b4, hr, hr0, hr8, hb4⟩ := drawE (fe := fC (.p (.i 8))) (S := [some .box, some (.p (encBs bs)), some (.p (nI k)), z3, some (.p (.t (gs.map pv2))), z5, z6, some (.p (.t (ts.map encI))), some (.p (.i (w * (3 + u) + 1 + q)))]) (i := 0) (n := 8) (b := b3) rfl rfl (by omega) hb3
  obtain ⟨d, b5, hd, hd0, hd30, hb5⟩ := drawE (fe := fC (.p (.i 30))) (S := [some .box, some (.p (encBs bs)), some (.p (nI k)), z3, some (.p (.t (gs.map pv2))), z5, z6, some (.p (.t (ts.map encI))), some (.p (.i (w * (3 + u) + 1 + q)))]) (i := 0) (n := 30) (b := b4) rfl rfl (by omega) hb4
  have hgap : 3 * w + 1 ≤ w * (3 + u) + 1 + q ∧ w * (3 + u) + 1 + q ≤ 60 := by
    have : u = 0 ∨ u = 1 ∨ u = 2 := by omega
    rcases this with rfl | rfl | rfl <;> omega
  generalize w * (3 + u) + 1 + q = a at *
  have eT := tup_eq (S := [some .box, some (.p (encBs bs)), some (.p (nI k)), z3, some (.p (.t (gs.map pv2))), z5, z6, some (.p (.t (ts.map encI))), some (.p (.i a))]) (b := b3) (b1 := b5) (fs := (fCons (fC (.p (.s (Str.ofString "task")))) (fCons (fOp gStr (fC (.p (.s (Str.ofString "t")))) (fOp gIxS (fC (.p (.s (Str.ofString "abc")))) (fVar 2))) (fCons (fCall D_law_draw (fCons (fVar 0) (fCons (fC (.p (.i 8))) fNil))) (fCons (fVar 8) (fCons (fOp gAdd (fC (.p (.i 4))) (fCall D_law_draw (fCons (fVar 0) (fCons (fC (.p (.i 30))) fNil)))) (fCons (fVar 4) fNil))))))) [.s (Str.ofString "task"), .s nm, .i r, .i a, .i (4 + d), .t (gs.map pv2)]
    (args_cons (b1 := b3) (x := .p (.s (Str.ofString "task"))) rfl (args_cons hnm (args_cons hr (args_cons (b1 := b4) (x := .p (.i a)) rfl (args_cons (x := .p (.i (4 + d))) (op_eq (b1 := b4) (x := .p (.i 4)) rfl hd rfl) rfl))))) (by simp)
  have e2 := tup_eq [.t [.s (Str.ofString "task"), .s nm, .i r, .i a, .i (4 + d), .t (gs.map pv2)]] (args_cons eT args_nil) (by simp)
  have e3 := catA_eq (fa := fVar 7) (xs := ts.map encI) (b1 := b3) rfl e2 (by rw [List.length_map]; simp; omega)
  refine ⟨⟨false, nm, r, a, 4 + d, gs⟩, some (.p (.t (gs.map pv2))), some (.p (.i a)), b5, ?_, ⟨⟨hg3, fun g hg' => ?_, fun _ => ⟨by show 0 < a; omega, by show a < 100000; omega⟩⟩, rfl, ⟨⟨hr0, by show r ≤ 7; omega⟩, ⟨by show 3 * (gs.map Prod.fst).sum + 1 ≤ a; rw [hw]; exact hgap.1, hgap.2⟩, ⟨by show 4 ≤ 4 + d; omega, by show 4 + d ≤ 33; omega⟩, by show 1 ≤ (gs.map Prod.fst).sum; rw [hw]; omega⟩⟩, hb5⟩
  · refine (seq_nx (asg_p (i := 4) (call3_eq (x := .box) (y := .p (encBs bs)) (z := .p (.i 3)) (fa := fVar 0) (fb := fVar 1) (S := [some .box, some (.p (encBs bs)), some (.p (nI k)), z3, z4, z5, z6, some (.p (.t (ts.map encI))), z8]) (b := b) rfl rfl rfl hgs))).trans ?_
    refine (seq_nx eA).trans ?_
    refine (asg_p e3).trans ?_
    rw [List.map_append]; rfl
  · have := hg g hg'
    exact ⟨this.2.2.1, this.2.2.2, this.1, by omega⟩
theorem ok_little {b : BS} (hb : Bx b) : Ok (D_law_little [.box] b) fun r b' => ∃ y, r = .p (encSy y) ∧ VN y ∧ Bx b' := by
  refine ok_fn rfl ?_
  refine wp_seq (Ok.of (a := .nx [some .box, some (.p (.t [])), none, none, none, none, none, none, none]) (b := b) (by simp [stS]) ?_)
  obtain ⟨c, b0, hc, hc0, hc3, hb0⟩ := drawE (fe := fC (.p (.i 3))) (S := [some .box, some (.p (.t [])), none, none, none, none, none, none, none]) (i := 0) (n := 3) (b := b) rfl rfl (by omega) hb
  refine wp_seq ?_
  refine wp_for (F := F_liB) nI (fun d S b' => Bx b' ∧ ∃ (bs : List Bud) (z2 : Option SV), S = [some .box, some (.p (encBs bs)), z2, none, none, none, none, none, none] ∧ bs.length = d.length ∧ VBn bs) (List.range (1 + c).toNat) (b1 := b0) (rng1_eq (n := 1 + c) (op_eq (b1 := b) (x := .p (.i 1)) rfl hc rfl) (by omega) (by omega)) ⟨hb0, [], none, rfl, rfl, ⟨fun k x h => by simp at h, fun k x h => by simp at h⟩⟩ ?_ ?_
  · rintro d k e S b' hd ⟨hb', bs, z2, rfl, hbl, vb⟩
    obtain ⟨h1, h2⟩ := range_split hd
    obtain ⟨bs', b2, k1, k2, k3, k4⟩ := li_bud vb (k := k) (by rw [hbl, h1]) (by omega) hb' none none none none none none
    exact ⟨[nI k], rfl, Ok.of k1 ⟨k4, bs', _, rfl, by rw [k2, List.length_append, h1]; rfl, k3⟩⟩
  rintro S b1 ⟨hb1, bs, z2, rfl, hbl, vbn⟩
  rw [List.length_range] at hbl
  have hn : 1 ≤ bs.length ∧ bs.length ≤ 3 := by omega
  have vb : VB bs := ⟨hn, vbn.cap, vbn.par⟩
  refine wp_seq (Ok.of (a := .nx [some .box, some (.p (encBs bs)), z2, some (.p (.t [])), none, none, none, none, none]) (b := b1) (by simp) ?_)
  obtain ⟨c4, b2, hc, hc0, hc4, hb2⟩ := drawE (fe := fC (.p (.i 4))) (S := [some .box, some (.p (encBs bs)), z2, some (.p (.t [])), none, none, none, none, none]) (i := 0) (n := 4) (b := b1) rfl rfl (by omega) hb1
  refine wp_seq ?_
  refine wp_for (F := F_liJ) nI (fun d S b' => Bx b' ∧ ∃ (js : List Item) (z2 z4 z5 z6 : Option SV), S = [some .box, some (.p (encBs bs)), z2, some (.p (.t (js.map encI))), z4, z5, z6, none, none] ∧ js.length = d.length ∧ ∀ x ∈ js, JobOk bs.length x) (List.range c4.toNat) (b1 := b2) (rng1_eq (n := c4) hc (by omega) (by omega)) ⟨hb2, [], z2, none, none, none, rfl, rfl, fun x hx => by cases hx⟩ ?_ ?_
  · rintro d k e S b' hd ⟨hb', js, z2, z4, z5, z6, rfl, hjl, hj⟩
    obtain ⟨h1, h2⟩ := range_split hd
    obtain ⟨x, z4', z5', z6', b3, k1, k2, k3⟩ := li_job hn (js := js) (by omega) (k := k) (by omega) hb' z4 z5 z6 none none
    refine ⟨[nI k], rfl, Ok.of k1 ⟨k3, js ++ [x], _, _, _, _, rfl, by rw [List.length_append, List.length_append, hjl]; rfl, fun z hz => ?_⟩⟩
    rcases List.mem_append.mp hz with h | h
    · exact hj z h
    · rw [List.mem_singleton.mp h]; exact k2
  rintro S b3 ⟨hb3, js, z2, z4, z5, z6, rfl, hjl, hj⟩
  rw [List.length_range] at hjl
  refine wp_seq (Ok.of (a := .nx [some .box, some (.p (encBs bs)), z2, some (.p (.t (js.map encI))), z4, z5, z6, some (.p (.t [])), none]) (b := b3) (by simp) ?_)
  obtain ⟨c2, b4, hp, hp0, hp2, hb4⟩ := pick_ex hb3
  have hfi : fCall D_law_pick (fCons (fVar 0) (fCons (fLst (fCons (fC (.p (.i 0))) (fCons (fC (.p (.i 1))) (fCons (fC (.p (.i 1))) (fCons (fC (.p (.i 2))) fNil))))) fNil)) [some .box, some (.p (encBs bs)), z2, some (.p (.t (js.map encI))), z4, z5, z6, some (.p (.t [])), none] b3 = some (.p (.i c2), b4) :=
    call2_eq (x := .box) (y := .m [.i 0, .i 1, .i 1, .i 2]) (b1 := b3) (b2 := b3) rfl (by simp) hp
  refine wp_seq ?_
  refine wp_for (F := F_liT) nI (fun d S b' => Bx b' ∧ ∃ (ts : List Item) (z2 z4 z8 : Option SV), S = [some .box, some (.p (encBs bs)), z2, some (.p (.t (js.map encI))), z4, z5, z6, some (.p (.t (ts.map encI))), z8] ∧ ts.length = d.length ∧ ∀ x ∈ ts, TaskOk bs.length x) (List.range c2.toNat) (b1 := b4) (rng1_eq (n := c2) hfi (by omega) (by omega)) ⟨hb4, [], z2, z4, none, rfl, rfl, fun x hx => by cases hx⟩ ?_ ?_
  · rintro d k e S b' hd ⟨hb', ts, z2, z4, z8, rfl, htl, ht⟩
    obtain ⟨h1, h2⟩ := range_split hd
    obtain ⟨x, z4', z8', b5, k1, k2, k3⟩ := li_task hn (ts := ts) (by omega) (k := k) (by omega) hb' (some (.p (.t (js.map encI)))) z4 z5 z6 z8
    refine ⟨[nI k], rfl, Ok.of k1 ⟨k3, ts ++ [x], _, _, _, rfl, by rw [List.length_append, List.length_append, htl]; rfl, fun z hz => ?_⟩⟩
    rcases List.mem_append.mp hz with h | h
    · exact ht z h
    · rw [List.mem_singleton.mp h]; exact k2
  rintro S b5 ⟨hb5, ts, z2, z4, z8, rfl, htl, ht⟩
  rw [List.length_range] at htl
  refine wp_ret (Ok.of (a := .p (encSy ⟨bs, js, ts⟩)) (b := b5) (by simp [encSy]) ⟨⟨bs, js, ts⟩, rfl, ⟨⟨vb, by show js.length ≤ 3; omega, by show ts.length ≤ 2; omega, fun x hx => ⟨(hj x hx).1, (hj x hx).2.1⟩, fun x hx => ⟨(ht x hx).1, (ht x hx).2.1⟩⟩, fun x hx => (hj x hx).2.2, fun x hx => (ht x hx).2.2⟩, hb5⟩)
end K15
/-! K15P31: law_drawn, law_is_crowded -/
set_option autoImplicit false
namespace K15
open PySem PySem.Spec PyProof.Rows L2 K15R
inductive Pap where
  | su (rows : List (List Int)) | un (s e : Int)
def encP (y : Sys) : Pap → PV
  | .su rows => sureP rows
  | .un s e => unsP s e (fauI y s e)
def okP (y : Sys) (m : Int) : Pap → Prop
  | .su rows => rows.length ≤ 1000 ∧ ∀ r ∈ rows, Rw y.buds.length r
  | .un s e => 0 ≤ s ∧ s ≤ e ∧ e ≤ m
def kdP : Pap → Str
  | .su _ => Str.ofString "sure"
  | .un _ _ => Str.ofString "unsure"
theorem pap_kd (y : Sys) (p : Pap) : ∃ xs, encP y p = .t (.s (kdP p) :: xs) := by
  cases p with
  | su rows => exact ⟨_, rfl⟩
  | un s e => exact ⟨_, rfl⟩
theorem sure_ne : (Str.ofString "sure" = Str.ofString "unsure") = False := by
  have : ¬ (Str.ofString "sure" = Str.ofString "unsure") := by decide +kernel
  simp [this]
def drS (y : Sys) (p : Pap) (z3 z4 z5 z6 z7 z8 z9 z10 : Option SV) : Sl := [some .box, some (.p (encSy y)), some (.p (encP y p)), z3, z4, z5, z6, z7, z8, z9, z10]
def F_dr1 : Fs := (fSeq (fAsg 5 (fOp gAdd (fC (.p (.i 1))) (fCall D_law_draw (fCons (fVar 0) (fCons (fC (.p (.i 4))) fNil)))))
    (fSeq (fAsg 6 (fCB gTupOf (fCons (fLc (fRng1 (fCons (fVar 3) fNil)) (.one 9) fYes (fVar 5) [9]) fNil)))
    (fRet (fTup (fCons (fC (.p (.s (Str.ofString "sure")))) (fCons (fTup (fCons (fVar 6) (fCons (fCB gTupOf (fCons (fLc (fRng1 (fCons (fVar 3) fNil)) (.one 9) fYes (fCall D_law_draw (fCons (fVar 0) (fCons (fC (.p (.i 7))) fNil))) [9]) fNil)) fNil))) fNil))))))
def DrQ (y : Sys) (r : SV) (b : BS) : Prop := ∃ q : Pap, r = .p (encP y q) ∧ okP y 1000000000 q ∧ Bx b
theorem dr_one {y : Sys} (v : VS y) (p : Pap) (z4 z5 z6 z7 z8 z9 z10 : Option SV) {b : BS} (hb : Bx b) : Wp (F_dr1 (drS y p (some (.p (.i y.buds.length))) z4 z5 z6 z7 z8 z9 z10) b) (fun _ _ => False) (fun _ _ => False) (DrQ y) := by
  have hn := v.vb.len
  obtain ⟨c, b1, hc, hc0, hc4, hb1⟩ := drawE (fe := fC (.p (.i 4))) (S := drS y p (some (.p (.i y.buds.length))) z4 z5 z6 z7 z8 z9 z10) (i := 0) (n := 4) (b := b) rfl rfl (by omega) hb
  refine wp_seq (Ok.of (asg_p (x := .i (1 + c)) (b' := b1) (op_eq (b1 := b) (x := .p (.i 1)) rfl hc rfl)) ?_)
  have l1 := lc_eq (vs := [9]) (tg := .one 9) (ft := fYes) (fi := fRng1 (fCons (fVar 3) fNil)) (fe := fVar 5) (S := drS y p (some (.p (.i y.buds.length))) z4 (some (.p (.i (1 + c)))) z6 z7 z8 z9 z10) (b := b1) (b1 := b1) (xs := (List.range (y.buds.length : Int).toNat).map nI) (rng1_eq (n := (y.buds.length : Int)) rfl (by omega) (by omega)) (by simp; omega)
    (lc_all nI (fun _ => PV.i (1 + c)) b1 _ fun k _ => ⟨[nI k], rfl, rfl⟩)
  refine wp_seq (Ok.of (asg_p (x := iT ((List.range y.buds.length).map fun _ => 1 + c)) (b' := b1) (cb1_eq l1 ?_)) ?_)
  · rw [y_tupof, y_lm]
    show some (SV.p (.t _)) = _
    unfold iT
    rw [List.map_map, Int.toNat_natCast]; rfl
  refine wp_ret ?_
  obtain ⟨ys, b2, h1, h2, h3, h4⟩ := ok_lcLoopN (tg := .one 9) (fe := fCall D_law_draw (fCons (fVar 0) (fCons (fC (.p (.i 7))) fNil))) (S := wpS (drS y p (some (.p (.i y.buds.length))) z4 (some (.p (.i (1 + c)))) (some (.p (iT ((List.range y.buds.length).map fun _ => 1 + c)))) z7 z8 z9 z10) [9]) Bx (fun q => ∃ n : Int, q = .i n ∧ 0 ≤ n) ((List.range (y.buds.length : Int).toNat).map nI) b1 (by
    intro x hx b hb
    obtain ⟨u, b1, hu, hu0, hu1, hb1⟩ := drawE (fe := fC (.p (.i 7))) (S := setS (wpS (drS y p (some (.p (.i y.buds.length))) z4 (some (.p (.i (1 + c)))) (some (.p (iT ((List.range y.buds.length).map fun _ => 1 + c)))) z7 z8 z9 z10) [9]) (Tg.one 9).slots ([x].map SV.p)) (i := 0) (n := 7) (b := b) rfl rfl (by omega) hb
    exact ⟨[x], rfl, Ok.of (a := .p (.i u)) (b := b1) hu ⟨hb1, _, rfl, u, rfl, hu0⟩⟩) hb1
  obtain ⟨ws, rfl, hws⟩ := list_ex h3
  have hwl : ws.length = y.buds.length := by simpa using h4
  have l2 := lc_eq (vs := [9]) (tg := .one 9) (ft := fYes) (fi := fRng1 (fCons (fVar 3) fNil)) (fe := fCall D_law_draw (fCons (fVar 0) (fCons (fC (.p (.i 7))) fNil))) (S := drS y p (some (.p (.i y.buds.length))) z4 (some (.p (.i (1 + c)))) (some (.p (iT ((List.range y.buds.length).map fun _ => 1 + c)))) z7 z8 z9 z10) (b := b1) (b1 := b1) (xs := (List.range (y.buds.length : Int).toNat).map nI) (rng1_eq (n := (y.buds.length : Int)) rfl (by omega) (by omega)) (by simp; omega) h1
  have e1 : fTup (fCons (fVar 6) (fCons (fCB gTupOf (fCons (fLc (fRng1 (fCons (fVar 3) fNil)) (.one 9) fYes (fCall D_law_draw (fCons (fVar 0) (fCons (fC (.p (.i 7))) fNil))) [9]) fNil)) fNil)) (drS y p (some (.p (.i y.buds.length))) z4 (some (.p (.i (1 + c)))) (some (.p (iT ((List.range y.buds.length).map fun _ => 1 + c)))) z7 z8 z9 z10) b1 = some (.p (.t [iT ((List.range y.buds.length).map fun _ => 1 + c), iT ws]), b2) :=
    tup_eq [iT ((List.range y.buds.length).map fun _ => 1 + c), iT ws] (args_cons (b1 := b1) (x := .p (iT ((List.range y.buds.length).map fun _ => 1 + c))) rfl (args_cons (x := .p (iT ws)) (cb1_eq l2 rfl) args_nil)) (by simp)
  refine Ok.of (tup_eq [.s (Str.ofString "sure"), .t [iT ((List.range y.buds.length).map fun _ => 1 + c), iT ws]] (args_cons (b1 := b1) (x := .p (.s (Str.ofString "sure"))) rfl (args_cons e1 args_nil)) (by simp)) ⟨.su [(List.range y.buds.length).map fun _ => 1 + c, ws], rfl, ⟨by simp, fun r hr => ?_⟩, h2⟩
  rcases List.mem_cons.mp hr with rfl | hr
  · exact ⟨by simp, fun x hx => by
      obtain ⟨_, _, rfl⟩ := List.mem_map.mp hx
      omega⟩
  · rw [List.mem_singleton.mp hr]
    exact ⟨hwl, hws⟩
theorem dr_two {y : Sys} {rows : List (List Int)} (hok : okP y 1000 (.su rows)) (z3 z4 z5 z6 z7 z8 z9 z10 : Option SV) {b : BS} (hb : Bx b) : Ok ((fTup (fCons (fC (.p (.s (Str.ofString "sure")))) (fCons (fCB gTupOf (fCons (fLc (fItT (fOp gIx (fVar 2) (fC (.p (.i 1))))) (.one 10) (fTest (fOp gGt (fCall D_law_draw (fCons (fVar 0) (fCons (fC (.p (.i 5))) fNil))) (fC (.p (.i 0))))) (fVar 10) [10]) fNil)) fNil))) (drS y (.su rows) z3 z4 z5 z6 z7 z8 z9 z10) b) (DrQ y) := by
  obtain ⟨ys, b2, h1, h2, h3, h4⟩ := ok_lcLoop (tg := .one 10) (ft := fTest (fOp gGt (fCall D_law_draw (fCons (fVar 0) (fCons (fC (.p (.i 5))) fNil))) (fC (.p (.i 0))))) (fe := fVar 10) (S := wpS (drS y (.su rows) z3 z4 z5 z6 z7 z8 z9 z10) [10]) Bx (fun q => ∃ r : List Int, q = iT r ∧ Rw y.buds.length r) (rows.map iT) b (by
    intro x hx b hb
    obtain ⟨r, hr, rfl⟩ := List.mem_map.mp hx
    obtain ⟨u, b1, hu, hu0, hu1, hb1⟩ := drawE (fe := fC (.p (.i 5))) (S := setS (wpS (drS y (.su rows) z3 z4 z5 z6 z7 z8 z9 z10) [10]) (Tg.one 10).slots ([iT r].map SV.p)) (i := 0) (n := 5) (b := b) rfl rfl (by omega) hb
    have e1 : fOp gGt (fCall D_law_draw (fCons (fVar 0) (fCons (fC (.p (.i 5))) fNil))) (fC (.p (.i 0))) (setS (wpS (drS y (.su rows) z3 z4 z5 z6 z7 z8 z9 z10) [10]) (Tg.one 10).slots ([iT r].map SV.p)) b = some (.p (.b (decide (0 < u))), b1) :=
      op_eq hu (y := .p (.i 0)) (b2 := b1) rfl rfl
    refine ⟨[iT r], rfl, Ok.of (a := decide (0 < u)) (b := b1) (by rw [z_test, e1]; rfl) ⟨hb1, fun _ => Ok.of (a := .p (iT r)) (b := b1) rfl ⟨hb1, _, rfl, r, rfl, hok.2 r hr⟩⟩⟩) hb
  obtain ⟨ws, rfl, hws⟩ := list_ex h3
  have l2 := lc_eq (vs := [10]) (tg := .one 10) (fi := fItT (fOp gIx (fVar 2) (fC (.p (.i 1))))) (S := drS y (.su rows) z3 z4 z5 z6 z7 z8 z9 z10) (b := b) (b1 := b) (xs := rows.map iT) rfl (by have := hok.1; simp; omega) h1
  have hl : ws.length ≤ 1000 := by have := hok.1; simp at h4; omega
  exact Ok.of (tup_eq [.s (Str.ofString "sure"), rowsP ws] (args_cons (b1 := b) (x := .p (.s (Str.ofString "sure"))) rfl (args_cons (x := .p (rowsP ws)) (cb1_eq l2 rfl) args_nil)) (by simp)) ⟨.su ws, rfl, ⟨hl, hws⟩, h2⟩
theorem dr_fin {y : Sys} (v : VS y) (p : Pap) (z3 z4 z5 z6 z9 z10 : Option SV) {s e : Int} (h0 : 0 ≤ s) (he : s ≤ e) (hm : e ≤ 1000000000) {b : BS} (hb : Bx b) : Ok ((fTup (fCons (fC (.p (.s (Str.ofString "unsure")))) (fCons (fVar 7) (fCons (fVar 8) (fCons (fCall D_law_worst (fCons (fOp gIx (fVar 1) (fC (.p (.i 1)))) (fCons (fCall D_law_penalties (fCons (fVar 1) (fCons (fVar 7) (fCons (fVar 8) fNil)))) fNil))) fNil))))) (drS y p z3 z4 z5 z6 (some (.p (.i s))) (some (.p (.i e))) z9 z10) b) (DrQ y) := by
  have hp := eq_lpens v s e b
  have hw := eq_lworst v.vb (pen_pn v s e).len (long_b4 (act_vi v s e)) b
  have e1 : fCall D_law_worst (fCons (fOp gIx (fVar 1) (fC (.p (.i 1)))) (fCons (fCall D_law_penalties (fCons (fVar 1) (fCons (fVar 7) (fCons (fVar 8) fNil)))) fNil)) (drS y p z3 z4 z5 z6 (some (.p (.i s))) (some (.p (.i e))) z9 z10) b = some (.p (iT (fauI y s e)), b) := by
    refine call2_eq (x := .p (encBs y.buds)) (y := .p (iT (penI y s e))) (b1 := b) (b2 := b) ?_ ?_ hw
    · simp [drS, encSy]
    · exact call3_eq (x := .p (encSy y)) (y := .p (.i s)) (z := .p (.i e)) (b1 := b) (b2 := b) (b3 := b) rfl rfl rfl hp
  exact Ok.of (tup_eq [.s (Str.ofString "unsure"), .i s, .i e, iT (fauI y s e)] (args_cons (b1 := b) (x := .p (.s (Str.ofString "unsure"))) rfl (args_cons (b1 := b) (x := .p (.i s)) rfl (args_cons (b1 := b) (x := .p (.i e)) rfl (args_cons e1 args_nil)))) (by simp)) ⟨.un s e, rfl, ⟨h0, he, hm⟩, hb⟩
theorem tand_f {ft fu : Ft} {S : Sl} {b b1 : BS} (h : ft S b = some (false, b1)) : fTAnd ft fu S b = some (false, b1) := by rw [z_tand, h]; rfl
theorem tand_t {ft fu : Ft} {S : Sl} {b b1 : BS} {r : Option (Bool × BS)} (h : ft S b = some (true, b1)) (h2 : fu S b1 = r) : fTAnd ft fu S b = r := by rw [z_tand, h]; exact h2
theorem test_eq {fa fb : Fe} {g : SV → SV → Option SV} {S : Sl} {b b1 b2 : BS} {x z : SV} {c : Bool} (ha : fa S b = some (x, b1)) (hb : fb S b1 = some (z, b2)) (hg : g x z = some (.p (.b c))) : fTest (fOp g fa fb) S b = some (c, b2) := by
  rw [z_test, op_eq ha hb hg]; rfl
theorem ok_drawn {y : Sys} (v : VS y) {p : Pap} (hp : okP y 1000 p) {b : BS} (hb : Bx b) : Ok (D_law_drawn [.box, .p (encSy y), .p (encP y p)] b) (DrQ y) := by
  refine ok_fn rfl ?_
  have hn := v.vb.len
  refine wp_seq (Ok.of (a := .nx (drS y p (some (.p (.i y.buds.length))) none none none none none none none)) (b := b) (by simp [stS, drS, encSy, encBs]) ?_)
  obtain ⟨k, b1, hk, hk0, hk5, hb1⟩ := drawE (fe := fC (.p (.i 5))) (S := drS y p (some (.p (.i y.buds.length))) none none none none none none none) (i := 0) (n := 5) (b := b) rfl rfl (by omega) hb
  refine wp_seq (Ok.of (asg_p (x := .i k) (b' := b1) hk) ?_)
  refine wp_seq ?_
  refine wp_if (c := decide (k < 2)) (b1 := b1) (test_eq (x := .p (.i k)) (z := .p (.i 2)) (b1 := b1) rfl rfl rfl) (fun _ => Wp.mono (dr_one v p (some (.p (.i k))) none none none none none none hb1) (fun _ _ h => h.elim) (fun _ _ h => h.elim) (fun _ _ h => h)) (fun hk2 => wp_next ?_)
  have hkd : ∀ (S : Sl) (b : BS), S[2]? = some (some (.p (encP y p))) → fOp gIx (fVar 2) (fC (.p (.i 0))) S b = some (.p (.s (kdP p)), b) := fun S b hS => by
    obtain ⟨xs, hxs⟩ := pap_kd y p
    refine op_eq (x := .p (encP y p)) (y := .p (.i 0)) (b1 := b) (by rw [z_var, hS]; rfl) rfl ?_
    rw [hxs]; rfl
  have t2 : ∃ c : Bool, fTAnd (fTest (fOp (gEqB false) (fVar 4) (fC (.p (.i 2))))) (fTest (fOp (gEqB false) (fOp gIx (fVar 2) (fC (.p (.i 0)))) (fC (.p (.s (Str.ofString "sure")))))) (drS y p (some (.p (.i y.buds.length))) (some (.p (.i k))) none none none none none none) b1 = some (c, b1) ∧ (c = true → ∃ rows, p = .su rows) := by
    have q1 := test_eq (g := gEqB false) (fa := fVar 4) (fb := fC (.p (.i 2))) (S := drS y p (some (.p (.i y.buds.length))) (some (.p (.i k))) none none none none none none) (b := b1) (b1 := b1) (b2 := b1) (x := .p (.i k)) (z := .p (.i 2)) (c := decide (k = 2) ^^ false) rfl rfl rfl
    have q2 := test_eq (g := gEqB false) (hkd (drS y p (some (.p (.i y.buds.length))) (some (.p (.i k))) none none none none none none) b1 rfl) (fb := fC (.p (.s (Str.ofString "sure")))) (b2 := b1) (z := .p (.s (Str.ofString "sure"))) (c := decide (kdP p = Str.ofString "sure") ^^ false) rfl rfl
    rw [Bool.xor_false] at q1 q2
    by_cases h2 : k = 2
    · rw [decide_eq_true h2] at q1
      refine ⟨_, tand_t q1 q2, fun h => ?_⟩
      have h := of_decide_eq_true h
      cases p with
      | su rows => exact ⟨rows, rfl⟩
      | un s e => exact absurd h (by show ¬ (Str.ofString "unsure" = Str.ofString "sure"); rw [uns_ne]; exact id)
    · rw [decide_eq_false h2] at q1
      exact ⟨false, tand_f q1, fun h => by cases h⟩
  obtain ⟨c2, ht2, hc2⟩ := t2
  refine wp_seq ?_
  refine wp_if ht2 (fun h => ?_) (fun _ => wp_next ?_)
  · obtain ⟨rows, rfl⟩ := hc2 h
    exact wp_ret (dr_two hp _ _ _ _ _ _ _ _ hb1)
  obtain ⟨s, b2, hs, hs0, hs9, hb2⟩ := drawE (fe := fC (.p (.i 9))) (S := drS y p (some (.p (.i y.buds.length))) (some (.p (.i k))) none none none none none none) (i := 0) (n := 9) (b := b1) rfl rfl (by omega) hb1
  refine wp_seq (Ok.of (asg_p (x := .i s) (b' := b2) hs) ?_)
  obtain ⟨d, b3, hd, hd0, hd9, hb3⟩ := drawE (fe := fC (.p (.i 45))) (S := drS y p (some (.p (.i y.buds.length))) (some (.p (.i k))) none none (some (.p (.i s))) none none none) (i := 0) (n := 45) (b := b2) rfl rfl (by omega) hb2
  refine wp_seq (Ok.of (asg_p (x := .i (s + d)) (b' := b3) (op_eq (x := .p (.i s)) (b1 := b2) rfl hd rfl)) ?_)
  have t3 : ∃ c : Bool, fTAnd (fTest (fOp (gEqB false) (fOp gIx (fVar 2) (fC (.p (.i 0)))) (fC (.p (.s (Str.ofString "unsure")))))) (fTest (fOp (gEqB false) (fVar 4) (fC (.p (.i 3))))) (drS y p (some (.p (.i y.buds.length))) (some (.p (.i k))) none none (some (.p (.i s))) (some (.p (.i (s + d)))) none none) b3 = some (c, b3) ∧ (c = true → ∃ s e, p = .un s e) := by
    have q1 := test_eq (g := gEqB false) (fa := fVar 4) (fb := fC (.p (.i 3))) (S := drS y p (some (.p (.i y.buds.length))) (some (.p (.i k))) none none (some (.p (.i s))) (some (.p (.i (s + d)))) none none) (b := b3) (b1 := b3) (b2 := b3) (x := .p (.i k)) (z := .p (.i 3)) (c := decide (k = 3) ^^ false) rfl rfl rfl
    have q2 := test_eq (g := gEqB false) (hkd (drS y p (some (.p (.i y.buds.length))) (some (.p (.i k))) none none (some (.p (.i s))) (some (.p (.i (s + d)))) none none) b3 rfl) (fb := fC (.p (.s (Str.ofString "unsure")))) (b2 := b3) (z := .p (.s (Str.ofString "unsure"))) (c := decide (kdP p = Str.ofString "unsure") ^^ false) rfl rfl
    rw [Bool.xor_false] at q1 q2
    cases p with
    | su rows =>
      have hne : decide (kdP (.su rows) = Str.ofString "unsure") = false := by
        refine decide_eq_false ?_
        show ¬ (Str.ofString "sure" = Str.ofString "unsure")
        rw [sure_ne]; exact id
      rw [hne] at q2
      exact ⟨false, tand_f q2, fun h => by cases h⟩
    | un s' e' =>
      have heq : decide (kdP (.un s' e') = Str.ofString "unsure") = true := decide_eq_true rfl
      rw [heq] at q2
      exact ⟨_, tand_t q2 q1, fun _ => ⟨s', e', rfl⟩⟩
  obtain ⟨c3, ht3, hc3⟩ := t3
  refine wp_seq ?_
  refine wp_if ht3 (fun h => ?_) (fun _ => wp_next ?_)
  · obtain ⟨s', e', rfl⟩ := hc3 h
    obtain ⟨h0, h1, h2⟩ := hp
    obtain ⟨u, b4, hu, hu0, hu2, hb4⟩ := drawE (fe := fC (.p (.i 2))) (S := drS y (.un s' e') (some (.p (.i y.buds.length))) (some (.p (.i k))) none none (some (.p (.i s))) (some (.p (.i (s + d)))) none none) (i := 0) (n := 2) (b := b3) rfl rfl (by omega) hb3
    have e1 : fCB gMax2 (fCons (fC (.p (.i 0))) (fCons (fOp gSub_ (fOp gIx (fVar 2) (fC (.p (.i 1)))) (fCall D_law_draw (fCons (fVar 0) (fCons (fC (.p (.i 2))) fNil)))) fNil)) (drS y (.un s' e') (some (.p (.i y.buds.length))) (some (.p (.i k))) none none (some (.p (.i s))) (some (.p (.i (s + d)))) none none) b3 = some (.p (.i (if s' - u > 0 then s' - u else 0)), b4) := by
      rw [z_cb, args_cons (b1 := b3) (x := .p (.i 0)) rfl (args_cons (x := .p (.i (s' - u))) (op_eq (x := .p (.i s')) (b1 := b3) rfl hu rfl) args_nil)]
      rfl
    refine wp_seq (Ok.of (asg_p e1) ?_)
    have hns : 0 ≤ (if s' - u > 0 then s' - u else 0) ∧ (if s' - u > 0 then s' - u else 0) ≤ 1000 := by split <;> omega
    generalize (if s' - u > 0 then s' - u else 0) = ns at *
    obtain ⟨w, b5, hw, hw0, hw3, hb5⟩ := drawE (fe := fC (.p (.i 3))) (S := drS y (.un s' e') (some (.p (.i y.buds.length))) (some (.p (.i k))) none none (some (.p (.i ns))) (some (.p (.i (s + d)))) none none) (i := 0) (n := 3) (b := b4) rfl rfl (by omega) hb4
    have e2 : fCB gMax2 (fCons (fVar 7) (fCons (fOp gSub_ (fOp gAdd (fOp gIx (fVar 2) (fC (.p (.i 2)))) (fCall D_law_draw (fCons (fVar 0) (fCons (fC (.p (.i 3))) fNil)))) (fC (.p (.i 1)))) fNil)) (drS y (.un s' e') (some (.p (.i y.buds.length))) (some (.p (.i k))) none none (some (.p (.i ns))) (some (.p (.i (s + d)))) none none) b4 = some (.p (.i (if e' + w - 1 > ns then e' + w - 1 else ns)), b5) := by
      rw [z_cb, args_cons (b1 := b4) (x := .p (.i ns)) rfl (args_cons (x := .p (.i (e' + w - 1))) (op_eq (x := .p (.i (e' + w))) (y := .p (.i 1)) (b2 := b5) (op_eq (x := .p (.i e')) (b1 := b4) rfl hw rfl) rfl rfl) args_nil)]
      rfl
    refine Ok.of (asg_p e2) ?_
    have hne : ns ≤ (if e' + w - 1 > ns then e' + w - 1 else ns) ∧ (if e' + w - 1 > ns then e' + w - 1 else ns) ≤ 1000000000 := by split <;> omega
    generalize (if e' + w - 1 > ns then e' + w - 1 else ns) = ne at *
    exact wp_ret (dr_fin v _ _ _ _ _ _ _ hns.1 hne.1 hne.2 hb5)
  · exact wp_ret (dr_fin v _ _ _ _ _ _ _ hs0 (by omega) (by omega) hb3)
end K15
/-! K15P32: law_is_crowded; what the papers say -/
set_option autoImplicit false
namespace K15
open PySem PySem.Spec PyProof.Rows L2 K15R
theorem rng3_eq {fe ff fg : Fe} {S : Sl} {b b1 b2 b3 : BS} {m n c : Int} (h1 : fe S b = some (.p (.i m), b1)) (h2 : ff S b1 = some (.p (.i n), b2)) (h3 : fg S b2 = some (.p (.i c), b3)) (hm : -1000000 ≤ m ∧ m < 1000000) (hn : -1000000 ≤ n ∧ n < 1000000) (hc : 0 < c ∧ c < 100000) : fRng3 (fCons fe (fCons ff (fCons fg fNil))) S b = some ((List.range (Builtin.Range.rangeSize m n c).toNat).map (fun (j : Nat) => PV.i (m + (j : Int) * c)), b3) := by
  rw [z_rng3, args_cons h1 (args_cons h2 (args_cons h3 args_nil)), bnd_mk]
  show (if cRg m n c = true then some (rngC m c (Builtin.Range.rangeSize m n c).toNat, b3) else none) = _
  rw [if_pos (cRg_up (by omega) (by omega) (by omega) (by omega) hc.1 hc.2)]; rfl
theorem rng_lt {n c : Int} (hc : 0 < c) {j : Nat} (h : j < (Builtin.Range.rangeSize 0 n c).toNat) : 0 ≤ (j : Int) * c ∧ (j : Int) * c < n := by
  have h0 : 0 ≤ (j : Int) * c := Int.mul_nonneg (by omega) (by omega)
  refine ⟨h0, ?_⟩
  unfold Builtin.Range.rangeSize at h
  rw [if_pos hc] at h
  split at h
  · have h1 : (j : Int) ≤ (n - 0 - 1) / c := by omega
    have h2 := Int.mul_le_mul_of_nonneg_right h1 (show 0 ≤ c by omega)
    have h3 := Int.ediv_mul_le (n - 0 - 1) (show c ≠ 0 by omega)
    omega
  · simp at h
def F_lcI : Fs := (fIf (fTest (fOp gLt (fCall D_law_slack (fCons (fVar 0) (fCons (fVar 3) (fCons (fVar 4) fNil)))) (fC (.p (.i 0)))))
        (fRet (fC (.p (.b true))))
        fNext)
def F_lcO : Fs := (fFor (fRng2 (fCons (fVar 3) (fCons (fOp gAdd (fOp gAdd (fVar 3) (fVar 2)) (fC (.p (.i 20)))) fNil))) (.one 4) F_lcI)
theorem ok_lcrowd {y : Sys} (v : VN y) (h90 : horI y ≤ 90) (hall : ∀ s e, 0 ≤ s → s ≤ e → 0 ≤ slI y s e) {b : BS} (hb : Bx b) : Ok (D_law_is_crowded [.p (encSy y), .box] b) fun r _ => r = .p (.b false) := by
  refine ok_fn rfl ?_
  have hh := eq_lhor v b
  have hh0 := hor_nn v
  obtain ⟨l0, l7, _⟩ := lat_bd v
  refine wp_seq (Ok.of (asg_p (x := .i (horI y)) (b' := b) (call1_eq (x := .p (encSy y)) (b1 := b) rfl hh)) ?_)
  refine wp_seq ?_
  have hl := eq_llatest v.vs b
  obtain ⟨c, b1, hc, hc0, hc4, hb1⟩ := drawE (fe := fC (.p (.i 4))) (S := [some (.p (encSy y)), some .box, some (.p (.i (horI y))), none, none]) (i := 1) (n := 4) (b := b) rfl rfl (by omega) hb
  have efi : fRng3 (fCons (fC (.p (.i 0))) (fCons (fOp gAdd (fCall D_law_latest (fCons (fVar 0) fNil)) (fC (.p (.i 10)))) (fCons (fOp gAdd (fC (.p (.i 1))) (fCall D_law_draw (fCons (fVar 1) (fCons (fC (.p (.i 4))) fNil)))) fNil))) [some (.p (encSy y)), some .box, some (.p (.i (horI y))), none, none] b = _ :=
    rng3_eq (m := 0) (n := latI y + 10) (c := 1 + c) (b1 := b) (b2 := b) (b3 := b1) rfl (op_eq (call1_eq (x := .p (encSy y)) (b1 := b) rfl hl) (y := .p (.i 10)) (b2 := b) rfl rfl) (op_eq (b1 := b) (x := .p (.i 1)) rfl hc rfl) (by omega) (by omega) (by omega)
  refine wp_for (F := F_lcO) (fun (j : Nat) => PV.i (0 + (j : Int) * (1 + c))) (fun d S b' => ∃ z3 z4, S = [some (.p (encSy y)), some .box, some (.p (.i (horI y))), z3, z4]) (List.range (Builtin.Range.rangeSize 0 (latI y + 10) (1 + c)).toNat) (b1 := b1) efi ⟨none, none, rfl⟩ ?_ ?_
  · rintro d j e S b' hd ⟨z3, z4, rfl⟩
    have hj : j ∈ List.range (Builtin.Range.rangeSize 0 (latI y + 10) (1 + c)).toNat := by rw [hd]; simp
    obtain ⟨hs0, hs1⟩ := rng_lt (by omega) (List.mem_range.mp hj)
    refine ⟨[.i (0 + (j : Int) * (1 + c))], rfl, ?_⟩
    rw [Int.zero_add]
    generalize (j : Int) * (1 + c) = s at *
    have efi2 : fRng2 (fCons (fVar 3) (fCons (fOp gAdd (fOp gAdd (fVar 3) (fVar 2)) (fC (.p (.i 20)))) fNil)) [some (.p (encSy y)), some .box, some (.p (.i (horI y))), some (.p (.i s)), z4] b' = _ :=
      rng2_eq (m := s) (n := s + horI y + 20) (b1 := b') (b2 := b') rfl rfl (by omega) (by omega)
    refine wp_for (F := F_lcI) (fun (j : Nat) => PV.i (s + (j : Int))) (fun d S b' => ∃ z4, S = [some (.p (encSy y)), some .box, some (.p (.i (horI y))), some (.p (.i s)), z4]) (List.range (s + horI y + 20 - s).toNat) (b1 := b') efi2 ⟨z4, rfl⟩ ?_ ?_
    · rintro d' t e' S b2 _ ⟨z4, rfl⟩
      have hsl := eq_lslack v.vs s (s + (t : Int)) b2
      have hge := hall s (s + (t : Int)) hs0 (by omega)
      refine ⟨[.i (s + (t : Int))], rfl, ?_⟩
      refine wp_if (c := decide (slI y s (s + (t : Int)) < 0)) (b1 := b2) (test_eq (call3_eq (x := .p (encSy y)) (y := .p (.i s)) (z := .p (.i (s + (t : Int)))) (b1 := b2) (b2 := b2) (b3 := b2) rfl rfl rfl hsl) (z := .p (.i 0)) (b2 := b2) rfl rfl) (fun h => ?_) (fun _ => wp_next ⟨_, rfl⟩)
      have := of_decide_eq_true h
      omega
    · rintro S b2 ⟨z4, rfl⟩
      exact ⟨_, _, rfl⟩
  · rintro S b' ⟨z3, z4, rfl⟩
    exact wp_ret (Ok.of rfl rfl)
/-! ### what the papers say -/
def jP (y : Sys) : Pap → Bool
  | .su rows => jsI y rows
  | .un s e => decide (slI y s e < 0)
theorem eq_judgeP {y : Sys} (v : VN y) (h90 : horI y ≤ 90) {p : Pap} (hp : okP y 1000000000 p) (b : BS) : D_judge [.p (encSy y), .p (encP y p)] b = some (.p (.b (jP y p)), b) := by
  cases p with
  | su rows => exact eq_judgeS v h90 hp.2 hp.1 b
  | un s e => exact eq_judgeU v.vs hp.1 hp.2.1 hp.2.2 b
/-- what paper_of gives -/
def fromP (y : Sys) (p : Pap) : Prop := (∃ s e, p = .un s e ∧ slI y s e < 0 ∧ ∃ q ∈ looksI y, s = q.1 ∧ e = q.2) ∨ ∃ rows, p = .su rows ∧ ∀ q ∈ looksI y, 0 ≤ slI y q.1 q.2 ∧ prI y.buds (penI y q.1 q.2) ∈ rows
theorem look_bd {y : Sys} (v : VN y) (h90 : horI y ≤ 90) {q : Nat × Int} (hq : q ∈ looksI y) : (q.1 : Int) ≤ q.2 ∧ q.2 ≤ 1000 := by
  obtain ⟨h1, h2⟩ := mem_looks.mp hq
  obtain ⟨l0, l7, _⟩ := lat_bd v
  rcases mem_ends.mp h2 with ⟨x, hx, hin, he⟩ | ⟨x, hx, ht⟩
  · unfold inJ at hin
    rw [Bool.and_eq_true, decide_eq_true_eq, decide_eq_true_eq] at hin
    have := (v.vj x hx).a
    omega
  · have hg := (v.vs.tsk x hx).1.gap (v.vs.tsk x hx).2
    obtain ⟨h3, j, h4⟩ := (mem_tEnds hg.1).mp ht
    have hlo := lo_ge (s := (q.1 : Int)) (v.vt x hx).d.1
    have : 0 ≤ (j : Int) * x.a := Int.mul_nonneg (by omega) (by omega)
    omega
theorem pap_from {y : Sys} (v : VN y) (h90 : horI y ≤ 90) {r : PV} (h : PapOk y r) : ∃ p, r = encP y p ∧ okP y 1000 p ∧ fromP y p := by
  rcases h with ⟨q, hq, rfl, hs⟩ | ⟨rows, rfl, hl, hr, hall⟩
  · have := look_bd v h90 hq
    exact ⟨.un q.1 q.2, rfl, ⟨by omega, this.1, this.2⟩, Or.inl ⟨_, _, rfl, hs, q, hq, rfl, rfl⟩⟩
  · exact ⟨.su rows, rfl, ⟨hl, hr⟩, Or.inr ⟨rows, rfl, hall⟩⟩
theorem all_looks {y : Sys} (v : VN y) (h : ∀ q ∈ looksI y, 0 ≤ slI y q.1 q.2) : ∀ s e, 0 ≤ s → s ≤ e → 0 ≤ slI y s e := by
  refine looks_all v fun s h0 hs e he => ?_
  obtain ⟨k, rfl⟩ := Int.eq_ofNat_of_zero_le h0
  exact h (k, e) (mem_looks.mpr ⟨hs, he⟩)
/-- rows that hold show that no look is crowded -/
theorem held_nn {y : Sys} (v : VN y) {rows : List (List Int)} (hr : ∀ r ∈ rows, Rw y.buds.length r) (h : jsI y rows = true) : ∀ q ∈ looksI y, 0 ≤ slI y q.1 q.2 := fun q hq => by
  obtain ⟨h1, h2⟩ := mem_looks.mp hq
  have h3 := List.all_eq_true.mp (List.all_eq_true.mp h q.1 (mem_secs.mpr h1)) q.2 h2
  obtain ⟨r, hrm, hb⟩ := List.any_eq_true.mp h3
  unfold hB at hb
  rw [Bool.and_eq_true, decide_eq_true_eq, decide_eq_true_eq] at hb
  obtain ⟨b1, b2⟩ := hb
  unfold bdI at b1 b2
  by_cases hc : covI y.buds (penI y q.1 q.2) r = true
  · rw [if_pos hc] at b1 b2
    have := weak v.vs.vb (pen_pn v.vs q.1 q.2).len (hr r hrm) hc
    have e : recI y q.1 q.2 = (wAll y.buds (penI y q.1 q.2)).total := rfl
    unfold slI
    omega
  · rw [if_neg hc] at b1
    omega
theorem from_held {y : Sys} (v : VN y) {p : Pap} (h : fromP y p) : jP y p = true := by
  rcases h with ⟨s, e, rfl, hs, _⟩ | ⟨rows, rfl, hall⟩
  · exact decide_eq_true hs
  · refine List.all_eq_true.mpr fun s hs => List.all_eq_true.mpr fun e he => ?_
    obtain ⟨h1, h2⟩ := hall (s, e) (mem_looks.mpr ⟨mem_secs.mp hs, he⟩)
    refine List.any_eq_true.mpr ⟨_, h2, ?_⟩
    obtain ⟨s1, s2, s3⟩ := strong v.vs.vb (pen_pn v.vs s e).len (long_b4 (act_vi v.vs s e))
    have hn : 0 ≤ recI y s e := rec_nn v.vs.vb (act_vi v.vs s e)
    have e1 : recI y s e = (wAll y.buds (penI y s e)).total := rfl
    unfold hB bdI
    rw [s2, if_pos rfl, s3, Bool.and_eq_true, decide_eq_true_eq, decide_eq_true_eq]
    unfold slI at h1
    simp only at h1
    omega
theorem from_nn {y : Sys} (v : VN y) {rows : List (List Int)} (h : fromP y (.su rows)) : ∀ s e, 0 ≤ s → s ≤ e → 0 ≤ slI y s e := by
  rcases h with ⟨s, e, h, _⟩ | ⟨rows', _, hall⟩
  · cases h
  · exact all_looks v fun q hq => (hall q hq).1
theorem from_un {y : Sys} {s e : Int} (h : fromP y (.un s e)) : ∃ q ∈ looksI y, slI y q.1 q.2 < 0 := by
  rcases h with ⟨s', e', h, hs, q, hq, h1, h2⟩ | ⟨rows, h, _⟩
  · cases h
    exact ⟨q, hq, by rw [← h1, ← h2]; exact hs⟩
  · cases h
theorem same_kind {y : Sys} (v : VN y) {p q : Pap} (h : fromP y p) (hq : okP y 1000000000 q) (hj : jP y q = true) : kdP q = kdP p := by
  cases p with
  | su rows =>
    cases q with
    | su _ => rfl
    | un s e =>
      have := from_nn v h s e hq.1 hq.2.1
      have h2 : slI y s e < 0 := of_decide_eq_true hj
      omega
  | un s e =>
    cases q with
    | un _ _ => rfl
    | su rows =>
      obtain ⟨q, hq1, hq2⟩ := from_un h
      have := held_nn v hq.2 hj q hq1
      omega
theorem sure_kind {y : Sys} (v : VN y) {p : Pap} (h : fromP y p) : suI y = decide (kdP p = Str.ofString "sure") := by
  cases p with
  | su rows =>
    rw [show decide (kdP (.su rows) = Str.ofString "sure") = true from decide_eq_true rfl]
    refine List.all_eq_true.mpr fun s hs => List.all_eq_true.mpr fun e he => ?_
    have hb : (s, e) ∈ looksI y := mem_looks.mpr ⟨mem_secs.mp hs, he⟩
    rcases h with ⟨_, _, h, _⟩ | ⟨rows', _, hall⟩
    · cases h
    · have h0 : 0 ≤ slI y s e := (hall _ hb).1
      rw [decide_eq_false (show ¬ slI y s e < 0 by omega)]; rfl
  | un s e =>
    have hne : decide (kdP (.un s e) = Str.ofString "sure") = false := by
      refine decide_eq_false ?_
      show ¬ (Str.ofString "unsure" = Str.ofString "sure")
      rw [uns_ne]; exact id
    rw [hne]
    obtain ⟨q, hq1, hq2⟩ := from_un h
    obtain ⟨m1, m2⟩ := mem_looks.mp hq1
    refine Bool.eq_false_iff.mpr fun ht => ?_
    have := List.all_eq_true.mp (List.all_eq_true.mp ht q.1 (mem_secs.mpr m1)) q.2 m2
    rw [decide_eq_true hq2] at this
    cases this
end K15
/-! K15P33: the law -/
set_option autoImplicit false
namespace K15
open PySem PySem.Spec PyProof.Rows L2 K15R
theorem ShD.str (k : Nat) {x : Str} (h : x.cps.all (· < 0x110000) = true) : ShD k (PV.s x).data := ⟨h, Nat.zero_le _⟩
theorem shd_pap (y : Sys) (p : Pap) : ShD 8 (encP y p).data := by
  cases p with
  | su rows =>
    refine (shd_t (k := 3) fun x hx => ?_).up (by omega)
    rcases List.mem_cons.mp hx with rfl | hx
    · exact ShD.str 3 (by decide +kernel)
    · rw [List.mem_singleton.mp hx]
      refine (shd_t (k := 2) fun z hz => ?_).up (by omega)
      obtain ⟨r, _, rfl⟩ := List.mem_map.mp hz
      exact (shd_ints r).up (by omega)
  | un s e =>
    refine (shd_t (k := 3) fun x hx => ?_).up (by omega)
    rcases List.mem_cons.mp hx with rfl | hx
    · exact ShD.str 3 (by decide +kernel)
    · rcases List.mem_cons.mp hx with rfl | hx
      · exact shd_i _ _
      · rcases List.mem_cons.mp hx with rfl | hx
        · exact shd_i _ _
        · rw [List.mem_singleton.mp hx]
          exact (shd_ints _).up (by omega)
theorem kd_ix (y : Sys) (p : Pap) {i : Nat} {S : Sl} {b : BS} (hS : S[i]? = some (some (.p (encP y p)))) : fOp gIx (fVar i) (fC (.p (.i 0))) S b = some (.p (.s (kdP p)), b) := by
  obtain ⟨xs, hxs⟩ := pap_kd y p
  refine op_eq (x := .p (encP y p)) (y := .p (.i 0)) (b1 := b) (by rw [z_var, hS]; rfl) rfl ?_
  rw [hxs]; rfl
def lwS (x : SV) (y : Sys) (z3 z4 z5 z6 z7 : Option SV) : Sl := [some x, some .box, some (.p (encSy y)), z3, z4, z5, z6, z7]
theorem law_papers {y : Sys} (v : VS y) {p : Pap} (hp : okP y 1000 p) (x : SV) {b : BS} (hb : Bx b) : Ok (fOp gCat (fLst (fCons (fVar 3) fNil)) (fLc (fRng1 (fCons (fC (.p (.i 4))) fNil)) (.one 6) fYes (fCall D_law_drawn (fCons (fVar 1) (fCons (fVar 2) (fCons (fVar 3) fNil)))) [6]) (lwS x y (some (.p (encP y p))) none none none none) b) fun r b' => Bx b' ∧ ∃ qs : List Pap, r = .m ((p :: qs).map (encP y)) ∧ (∀ q ∈ p :: qs, okP y 1000000000 q) ∧ qs.length = 4 := by
  obtain ⟨ys, b2, h1, h2, h3, h4⟩ := ok_lcLoopN (tg := .one 6) (fe := fCall D_law_drawn (fCons (fVar 1) (fCons (fVar 2) (fCons (fVar 3) fNil)))) (S := wpS (lwS x y (some (.p (encP y p))) none none none none) [6]) Bx (fun r => ∃ q : Pap, r = encP y q ∧ okP y 1000000000 q) ((List.range 4).map nI) b (by
    intro u hu b hb
    obtain ⟨r, b1, e, q, rfl, hq, hb1⟩ := ok_drawn v hp hb
    refine ⟨[u], rfl, Ok.of (a := .p (encP y q)) (b := b1) ?_ ⟨hb1, _, rfl, q, rfl, hq⟩⟩
    exact call3_eq (x := .box) (y := .p (encSy y)) (z := .p (encP y p)) (b1 := b) (b2 := b) (b3 := b) rfl rfl rfl e) hb
  obtain ⟨qs, rfl, hqs⟩ := list_ex h3
  have l1 := lc_eq (vs := [6]) (tg := .one 6) (ft := fYes) (fi := fRng1 (fCons (fC (.p (.i 4))) fNil)) (fe := fCall D_law_drawn (fCons (fVar 1) (fCons (fVar 2) (fCons (fVar 3) fNil)))) (S := lwS x y (some (.p (encP y p))) none none none none) (b := b) (b1 := b) (xs := (List.range 4).map nI) (rng1_eq (n := 4) rfl (by omega) (by omega)) (by simp) h1
  have hl : qs.length = 4 := by simpa using h4
  have e0 : fLst (fCons (fVar 3) fNil) (lwS x y (some (.p (encP y p))) none none none none) b = some (.m [encP y p], b) := by
    simp [lwS]
  refine Ok.of (op_eq (z := .m ((p :: qs).map (encP y))) e0 l1 ?_) ⟨h2, qs, rfl, fun q hq => ?_, hl⟩
  · rw [y_cat]
    show (if [encP y p].length + (qs.map (encP y)).length ≤ 100000 then _ else _) = _
    rw [if_pos (by rw [List.length_map, hl]; simp)]
    rfl
  · rcases List.mem_cons.mp hq with rfl | hq
    · cases q with
      | su rows => exact hp
      | un s e => exact ⟨hp.1, hp.2.1, by have := hp.2.2; omega⟩
    · exact hqs q hq
theorem law_ok_R (x : SV) {b : BS} (hb : Bx b) : Wp (F_lawR [some x, some .box, none, none, none, none, none, none] b) (fun _ _ => False) (fun _ _ => False) fun r _ => r = .p (.b true) := by
  obtain ⟨r, b1, e1, y, rfl, v, hb1⟩ := ok_little hb
  refine wp_seq (Ok.of (a := .nx (lwS x y none none none none none)) (b := b1) (asg_p (call1_eq (x := .box) (b1 := b) rfl e1)) ?_)
  have hh := eq_lhor v b1
  refine wp_seq ?_
  refine wp_if (c := decide (90 < horI y)) (b1 := b1) (test_eq (call1_eq (x := .p (encSy y)) (b1 := b1) rfl hh) (z := .p (.i 90)) (b2 := b1) rfl rfl) (fun _ => wp_ret (Ok.of rfl rfl)) (fun h90 => wp_next ?_)
  have h90 : horI y ≤ 90 := by have := of_decide_eq_false h90; omega
  obtain ⟨r, b1', e2, rfl, pv, rfl, hpap⟩ := ok_paper v h90 b1
  obtain ⟨p, rfl, hp, hf⟩ := pap_from v h90 hpap
  refine wp_seq (Ok.of (a := .nx (lwS x y (some (.p (encP y p))) none none none none)) (b := b1') (asg_p (call1_eq (x := .p (encSy y)) (b1 := b1') rfl e2)) ?_)
  obtain ⟨r, b2, e3, hb2, qs, rfl, hq, hql⟩ := law_papers v.vs hp x hb1
  refine wp_seq (Ok.of (a := .nx (lwS x y (some (.p (encP y p))) (some (.m ((p :: qs).map (encP y)))) none none none)) (b := b2) (asg_m e3) ?_)
  have l2 := lc_eq (vs := [7]) (tg := .one 7) (ft := fTest (fCall D_judge (fCons (fVar 2) (fCons (fVar 7) fNil)))) (fe := fVar 7) (fi := fItL (fVar 4)) (S := lwS x y (some (.p (encP y p))) (some (.m ((p :: qs).map (encP y)))) none none none) (b := b2) (b1 := b2) (xs := (p :: qs).map (encP y)) rfl (by rw [List.length_map, List.length_cons, hql]; omega)
    (lc_map (encP y) (jP y) (encP y) b2 (p :: qs) fun q hqm => ⟨[encP y q], rfl, by
      have := eq_judgeP v h90 (hq q hqm) b2
      rw [z_test, call2_eq (x := .p (encSy y)) (y := .p (encP y q)) (b1 := b2) (b2 := b2) rfl rfl this]
      rfl, fun _ => rfl⟩)
  refine wp_seq (Ok.of (a := .nx (lwS x y (some (.p (encP y p))) (some (.m ((p :: qs).map (encP y)))) (some (.m (((p :: qs).filter (jP y)).map (encP y)))) none none)) (b := b2) (asg_m l2) ?_)
  have hheld : ∀ q ∈ (p :: qs).filter (jP y), okP y 1000000000 q ∧ jP y q = true ∧ kdP q = kdP p := fun q hqm => by
    obtain ⟨h1, h2⟩ := List.mem_filter.mp hqm
    exact ⟨hq q h1, h2, same_kind v hf (hq q h1) h2⟩
  have hpin : p ∈ (p :: qs).filter (jP y) := List.mem_filter.mpr ⟨List.mem_cons_self, from_held v hf⟩
  have hhl : ((p :: qs).filter (jP y)).length ≤ 5 := by
    have := List.length_filter_le (jP y) (p :: qs)
    rw [List.length_cons, hql] at this
    exact this
  generalize (p :: qs).filter (jP y) = held at *
  generalize hpp : some (SV.m ((p :: qs).map (encP y))) = zp at *
  -- paper not in held or another kind
  have t1 : fTest (fOp gNotIn (fVar 3) (fVar 5)) (lwS x y (some (.p (encP y p))) zp (some (.m (held.map (encP y)))) none none) b2 = some (false, b2) := by
    have hm := notin_mem (ys := held.map (encP y)) (shd_pap y p) (List.mem_map.mpr ⟨p, hpin, rfl⟩)
    have hn := notin_eq (x := encP y p) (y := .l (held.map (encP y))) rfl (shd_pap y p) (fun z hz => by
      obtain ⟨q, _, rfl⟩ := List.mem_map.mp hz
      exact shd_pap y q)
    rw [hm] at hn
    exact test_eq (x := .p (encP y p)) (z := .l (held.map (encP y))) (b1 := b2) rfl rfl hn
  have l3 := lc_eq (vs := [7]) (tg := .one 7) (ft := fTest (fOp (gEqB true) (fOp gIx (fVar 7) (fC (.p (.i 0)))) (fOp gIx (fVar 3) (fC (.p (.i 0)))))) (fe := fVar 7) (fi := fItL (fVar 5)) (S := lwS x y (some (.p (encP y p))) zp (some (.m (held.map (encP y)))) none none) (b := b2) (b1 := b2) (xs := held.map (encP y)) rfl (by rw [List.length_map]; omega)
    (lc_map (encP y) (fun _ => false) (encP y) b2 held fun q hqm => ⟨[encP y q], rfl, by
      have hk := (hheld q hqm).2.2
      refine test_eq (kd_ix y q rfl) (kd_ix y p rfl) ?_
      rw [y_eqs, decide_eq_true hk]; rfl, fun h => by cases h⟩)
  have hfil : ∀ l : List Pap, (l.filter fun _ => false).map (encP y) = [] := fun l => by
    rw [List.filter_eq_nil_iff.mpr (fun _ _ => by decide)]; rfl
  rw [hfil] at l3
  have t2 : fTest (fOp gGt (fCB gLen (fCons (fLc (fItL (fVar 5)) (.one 7) (fTest (fOp (gEqB true) (fOp gIx (fVar 7) (fC (.p (.i 0)))) (fOp gIx (fVar 3) (fC (.p (.i 0)))))) (fVar 7) [7]) fNil)) (fC (.p (.i 0)))) (lwS x y (some (.p (encP y p))) zp (some (.m (held.map (encP y)))) none none) b2 = some (false, b2) :=
    test_eq (x := .p (.i 0)) (cb1_eq l3 rfl) (z := .p (.i 0)) (b2 := b2) rfl rfl
  refine wp_seq (Ok.of (if_f (tor_f t1 t2)) ?_)
  -- is_sure
  have hsu := eq_sure v h90 b2
  have e4 : fOp (gEqB false) (fOp gIx (fVar 3) (fC (.p (.i 0)))) (fC (.p (.s (Str.ofString "sure")))) (lwS x y (some (.p (encP y p))) zp (some (.m (held.map (encP y)))) none none) b2 = some (.p (.b (decide (kdP p = Str.ofString "sure"))), b2) := by
    refine op_eq (kd_ix y p rfl) (y := .p (.s (Str.ofString "sure"))) (b2 := b2) rfl ?_
    rw [y_eqs, Bool.xor_false]
  have t3 : fTNot (fTest (fCall D_law_same (fCons (fCall D_is_sure (fCons (fVar 2) fNil)) (fCons (fOp (gEqB false) (fOp gIx (fVar 3) (fC (.p (.i 0)))) (fC (.p (.s (Str.ofString "sure"))))) fNil)))) (lwS x y (some (.p (encP y p))) zp (some (.m (held.map (encP y)))) none none) b2 = some (false, b2) := by
    have e5 := call2_eq (call1_eq (x := .p (encSy y)) (fa := fVar 2) (S := lwS x y (some (.p (encP y p))) zp (some (.m (held.map (encP y)))) none none) (b := b2) (b1 := b2) rfl hsu) e4 (eq_same (suI y) (decide (kdP p = Str.ofString "sure")) b2)
    rw [sure_kind v hf] at e5
    refine tnot_eq (c := true) ?_
    rw [z_test, e5]
    show some ((decide (kdP p = Str.ofString "sure") == decide (kdP p = Str.ofString "sure")), b2) = _
    rw [beq_self_eq_true]
  refine wp_seq (Ok.of (if_f t3) ?_)
  have t4 : fTest (fOp (gEqB false) (fOp gIx (fVar 3) (fC (.p (.i 0)))) (fC (.p (.s (Str.ofString "sure"))))) (lwS x y (some (.p (encP y p))) zp (some (.m (held.map (encP y)))) none none) b2 = some (decide (kdP p = Str.ofString "sure"), b2) := by
    rw [z_test, e4]; rfl
  refine wp_seq ?_
  refine wp_if t4 (fun hs => ?_) (fun hs => wp_next ?_)
  · cases p with
    | un s e =>
      have := of_decide_eq_true hs
      exact absurd this (by show ¬ (Str.ofString "unsure" = Str.ofString "sure"); rw [uns_ne]; exact id)
    | su rows =>
      obtain ⟨r, b3, e6, rfl⟩ := ok_lcrowd v h90 (from_nn v hf) hb2
      have e7 := call2_eq (x := .p (encSy y)) (y := .box) (fa := fVar 2) (fb := fVar 1) (S := lwS x y (some (.p (encP y (.su rows)))) zp (some (.m (held.map (encP y)))) none none) (b := b2) (b1 := b2) (b2 := b2) rfl rfl e6
      refine wp_ret (Ok.of (a := .p (.b true)) (b := b3) ?_ rfl)
      rw [z_not, e7]; rfl
  · cases p with
    | su rows => exact absurd rfl (of_decide_eq_false hs)
    | un s e =>
      have l4 := lc_eq (vs := [7]) (tg := .one 7) (ft := fTest (fOp gGe (fCall D_law_slack (fCons (fVar 2) (fCons (fOp gIx (fVar 7) (fC (.p (.i 1)))) (fCons (fOp gIx (fVar 7) (fC (.p (.i 2)))) fNil)))) (fC (.p (.i 0))))) (fe := fVar 7) (fi := fItL (fVar 5)) (S := lwS x y (some (.p (encP y (.un s e)))) zp (some (.m (held.map (encP y)))) none none) (b := b2) (b1 := b2) (xs := held.map (encP y)) rfl (by rw [List.length_map]; omega)
        (lc_map (encP y) (fun _ => false) (encP y) b2 held fun q hqm => ⟨[encP y q], rfl, by
          obtain ⟨h1, h2, h3⟩ := hheld q hqm
          cases q with
          | su rows => exact absurd h3 (by show ¬ (Str.ofString "sure" = Str.ofString "unsure"); rw [sure_ne]; exact id)
          | un s' e' =>
            have h4 : slI y s' e' < 0 := of_decide_eq_true h2
            have hsl := eq_lslack v.vs s' e' b2
            refine test_eq (x := .p (.i (slI y s' e'))) (call3_eq (x := .p (encSy y)) (y := .p (.i s')) (z := .p (.i e')) (b1 := b2) (b2 := b2) (b3 := b2) rfl rfl rfl hsl) (z := .p (.i 0)) (b2 := b2) rfl ?_
            show some (SV.p (.b (decide (0 ≤ slI y s' e')))) = _
            rw [decide_eq_false (by omega)], fun h => by cases h⟩)
      rw [hfil] at l4
      exact wp_ret (Ok.of (a := .p (.b true)) (b := b2) (op_eq (x := .p (.i 0)) (cb1_eq l4 rfl) (y := .p (.i 0)) (b2 := b2) rfl rfl) rfl)
theorem law_ok_all (ns : List Int) : lawOk ns := by
  intro scr hx
  obtain ⟨r, b1, h1, ds, rfl⟩ := ok_digits hx ([], 0)
  have hA : F_lawA (stS N_law.length [scr]) ([], 0) = some ([scr, .p (.i 0), .p (.i 63)], ([], 0)) := by
    rcases hx with rfl | rfl <;> rfl
  have hm : [scr, SV.p (.i 0), SV.p (.i 63)].map SV.arg = [scr, .p (.i 0), .p (.i 63)] := by
    rcases hx with rfl | rfl <;> rfl
  obtain ⟨o, b2, h2, h3⟩ := law_ok_R scr (b := (ds, 0)) (show (0 : Int) ≤ 0 by omega)
  refine ⟨b2, ?_⟩
  unfold lawF
  rw [hA, bnd_mk, hm, h1, bnd_mk]
  show (match (some (ds.map PV.i)).bind intsP with | some ds => F_lawR ((stS N_law.length [scr]).set 1 (some .box)) (ds, 0) | none => none) = _
  rw [Option.bind_some, intsP_map]
  show F_lawR [some scr, some .box, none, none, none, none, none, none] (ds, 0) = _
  rw [h2]
  cases o with
  | nx S => exact h3.elim
  | ct S => exact h3.elim
  | rt r =>
    obtain rfl : r = .p (.b true) := h3
    rfl
end K15
/-! K15Fact: the head, the facts, the end -/
namespace K15
open PySem PySem.Spec PyProof.Rows L2 K15R
def fns : List He.DefD := [mkD "is_integer" s_is_integer, mkD "above" s_above, mkD "used" s_used, mkD "is_within" s_is_within, mkD "parts_most" s_parts_most, mkD "worst" s_worst, mkD "parts_open" s_parts_open, mkD "cut_at" s_cut_at, mkD "prices_of" s_prices_of, mkD "covers" s_covers, mkD "bound_of" s_bound_of, mkD "lengths_of" s_lengths_of, mkD "work_of" s_work_of, mkD "divisor" s_divisor, mkD "rate_of" s_rate_of, mkD "latest_of" s_latest_of, mkD "longest" s_longest, mkD "horizon_of" s_horizon_of, mkD "bodies" s_bodies, mkD "jobs_in" s_jobs_in, mkD "demand" s_demand, mkD "penalties" s_penalties, mkD "analysis" s_analysis, mkD "ends_of" s_ends_of, mkD "is_row" s_is_row, mkD "is_held" s_is_held, mkD "judge_sure" s_judge_sure, mkD "judge_unsure" s_judge_unsure, mkD "judge" s_judge, mkD "looks" s_looks, mkD "is_crowded" s_is_crowded, mkD "is_sure" s_is_sure, mkD "paper_of" s_paper_of, mkD "_law_cell" s_law_cell, mkD "_law_digits" s_law_digits, mkD "_law_draw" s_law_draw, mkD "_law_pick" s_law_pick, mkD "_law_same" s_law_same, mkD "_law_path" s_law_path, mkD "_law_segments" s_law_segments, mkD "_law_lengths" s_law_lengths, mkD "_law_work" s_law_work, mkD "_law_bodies" s_law_bodies, mkD "_law_in" s_law_in, mkD "_law_penalties" s_law_penalties, mkD "_law_demand" s_law_demand, mkD "_law_recovery" s_law_recovery, mkD "_law_slack" s_law_slack, mkD "_law_little" s_law_little, mkD "_law_horizon" s_law_horizon, mkD "_law_latest" s_law_latest, mkD "_law_worst" s_law_worst, mkD "_law_drawn" s_law_drawn, mkD "_law_is_crowded" s_law_is_crowded, mkD "law" s_law]
def fas : List He.Fa := [.glo "is_integer", .glo "above", .glo "used", .glo "is_within", .glo "parts_most", .glo "worst", .glo "parts_open", .glo "cut_at", .glo "prices_of", .glo "covers", .glo "bound_of", .glo "lengths_of", .glo "work_of", .glo "divisor", .glo "rate_of", .glo "latest_of", .glo "longest", .glo "horizon_of", .glo "bodies", .glo "jobs_in", .glo "demand", .glo "penalties", .glo "analysis", .glo "ends_of", .glo "is_row", .glo "is_held", .glo "judge_sure", .glo "judge_unsure", .glo "judge", .glo "looks", .glo "is_crowded", .glo "is_sure", .glo "paper_of", .glo "_law_cell", .glo "_law_digits", .glo "_law_draw", .glo "_law_pick", .glo "_law_same", .glo "_law_path", .glo "_law_segments", .glo "_law_lengths", .glo "_law_work", .glo "_law_bodies", .glo "_law_in", .glo "_law_penalties", .glo "_law_demand", .glo "_law_recovery", .glo "_law_slack", .glo "_law_little", .glo "_law_horizon", .glo "_law_latest", .glo "_law_worst", .glo "_law_drawn", .glo "_law_is_crowded", .glo "law"]
def fbs : List He.Fa := [.free "len", .free "range", .free "sorted", .free "min", .free "max", .free "sum", .free "tuple", .free "set", .free "isinstance", .free "int", .free "bool", .free "enumerate", .free "zip", .free "all", .free "repr", .int "MOST_END" 1000000000]
def fa : List He.Fa := fas ++ fbs
def tf : List He.Defn := [("worst", none)]
abbrev R : PySem.W.OpenRow := PySem.W.OpenLaw.row PySem.Challenge.rw_faultdue_k15_whole_papers_are_right
abbrev hkX : PySem.W.Hook := He.hookX 3 fa fns [] tf (fun _ => true)
def ob (s : PySem.W.SharedT) : He.AlX := He.obsX 3 fa fns [] tf (fun _ => true) (HandSHeadRun.getT s)
theorem ob_eq (s : PySem.W.SharedT) : ob s = hkX.obs s.abs := He.obsX_eq (HandSHeadRun.getT_eq s)
def names1 : List PySem.Str := ["is_integer", "above", "used", "is_within", "parts_most", "worst", "parts_open", "cut_at", "prices_of", "covers", "bound_of", "lengths_of", "work_of", "divisor", "rate_of", "latest_of", "longest", "horizon_of", "bodies", "jobs_in", "demand", "penalties", "analysis", "ends_of", "is_row", "is_held", "judge_sure", "judge_unsure", "judge", "looks", "is_crowded", "is_sure"]
def names2 : List PySem.Str := ["paper_of", "_law_cell", "_law_digits", "_law_draw", "_law_pick", "_law_same", "_law_path", "_law_segments", "_law_lengths", "_law_work", "_law_bodies", "_law_in", "_law_penalties", "_law_demand", "_law_recovery", "_law_slack", "_law_little", "_law_horizon", "_law_latest", "_law_worst", "_law_drawn", "_law_is_crowded", "MOST_END"]
def names : List PySem.Str := names1 ++ names2
theorem run (w : World) : HandSHeadRun.RunEq R (PySem.W.view R.prog [62]) hkX ob 3000 names w := by
  intro os
  kernel_rfl

theorem code_worst {K : PySem.W.Frag} {fd : FuncData} (F : FnP K "worst" s_worst (He.fAd K ("worst", none)) fd) : fd.code = .ref (He.codeOf K ("worst", none)) := by
  obtain ⟨oc, od, dV, kV, doc, pm, an, cdv, ct, osl, rfl, lk, hcd, _, _⟩ := F.ex
  obtain ⟨c, rfl⟩ := He.codeIn_ref hcd
  rw [He.codeOf_eq lk rfl]
theorem facts {w : World} {h : Heap} {K : PySem.W.Frag} {mg : Str → Option Value} {f : Addr} (X : K.In h) (G : h.Ns mainGlobals mg) (hfa : mg ("law" : Str) = some (.ref f)) (c : He.SaysX fa fns [] tf (fun _ => true) w h K) : LamX.LawAtS PySem.Challenge.rw_faultdue_k15_whole_papers_are_right w K CX0 7 63 "_law_script" mg f h := by
  have d := c.t.d
  have hw : (("worst", none) : He.Defn) ∈ tf := List.mem_singleton.mpr rfl
  obtain ⟨fd_is_integer, F_is_integer⟩ := d.def_ 0 (d := mkD "is_integer" s_is_integer) rfl
  obtain ⟨fd_above, F_above⟩ := d.def_ 1 (d := mkD "above" s_above) rfl
  obtain ⟨fd_used, F_used⟩ := d.def_ 2 (d := mkD "used" s_used) rfl
  obtain ⟨fd_is_within, F_is_within⟩ := d.def_ 3 (d := mkD "is_within" s_is_within) rfl
  obtain ⟨fd_parts_most, F_parts_most⟩ := d.def_ 4 (d := mkD "parts_most" s_parts_most) rfl
  obtain ⟨fd_worst, F_worst⟩ := d.def_ 5 (d := mkD "worst" s_worst) rfl
  obtain ⟨fd_parts_open, F_parts_open⟩ := d.def_ 6 (d := mkD "parts_open" s_parts_open) rfl
  obtain ⟨fd_cut_at, F_cut_at⟩ := d.def_ 7 (d := mkD "cut_at" s_cut_at) rfl
  obtain ⟨fd_prices_of, F_prices_of⟩ := d.def_ 8 (d := mkD "prices_of" s_prices_of) rfl
  obtain ⟨fd_covers, F_covers⟩ := d.def_ 9 (d := mkD "covers" s_covers) rfl
  obtain ⟨fd_bound_of, F_bound_of⟩ := d.def_ 10 (d := mkD "bound_of" s_bound_of) rfl
  obtain ⟨fd_lengths_of, F_lengths_of⟩ := d.def_ 11 (d := mkD "lengths_of" s_lengths_of) rfl
  obtain ⟨fd_work_of, F_work_of⟩ := d.def_ 12 (d := mkD "work_of" s_work_of) rfl
  obtain ⟨fd_divisor, F_divisor⟩ := d.def_ 13 (d := mkD "divisor" s_divisor) rfl
  obtain ⟨fd_rate_of, F_rate_of⟩ := d.def_ 14 (d := mkD "rate_of" s_rate_of) rfl
  obtain ⟨fd_latest_of, F_latest_of⟩ := d.def_ 15 (d := mkD "latest_of" s_latest_of) rfl
  obtain ⟨fd_longest, F_longest⟩ := d.def_ 16 (d := mkD "longest" s_longest) rfl
  obtain ⟨fd_horizon_of, F_horizon_of⟩ := d.def_ 17 (d := mkD "horizon_of" s_horizon_of) rfl
  obtain ⟨fd_bodies, F_bodies⟩ := d.def_ 18 (d := mkD "bodies" s_bodies) rfl
  obtain ⟨fd_jobs_in, F_jobs_in⟩ := d.def_ 19 (d := mkD "jobs_in" s_jobs_in) rfl
  obtain ⟨fd_demand, F_demand⟩ := d.def_ 20 (d := mkD "demand" s_demand) rfl
  obtain ⟨fd_penalties, F_penalties⟩ := d.def_ 21 (d := mkD "penalties" s_penalties) rfl
  obtain ⟨fd_analysis, F_analysis⟩ := d.def_ 22 (d := mkD "analysis" s_analysis) rfl
  obtain ⟨fd_ends_of, F_ends_of⟩ := d.def_ 23 (d := mkD "ends_of" s_ends_of) rfl
  obtain ⟨fd_is_row, F_is_row⟩ := d.def_ 24 (d := mkD "is_row" s_is_row) rfl
  obtain ⟨fd_is_held, F_is_held⟩ := d.def_ 25 (d := mkD "is_held" s_is_held) rfl
  obtain ⟨fd_judge_sure, F_judge_sure⟩ := d.def_ 26 (d := mkD "judge_sure" s_judge_sure) rfl
  obtain ⟨fd_judge_unsure, F_judge_unsure⟩ := d.def_ 27 (d := mkD "judge_unsure" s_judge_unsure) rfl
  obtain ⟨fd_judge, F_judge⟩ := d.def_ 28 (d := mkD "judge" s_judge) rfl
  obtain ⟨fd_looks, F_looks⟩ := d.def_ 29 (d := mkD "looks" s_looks) rfl
  obtain ⟨fd_is_crowded, F_is_crowded⟩ := d.def_ 30 (d := mkD "is_crowded" s_is_crowded) rfl
  obtain ⟨fd_is_sure, F_is_sure⟩ := d.def_ 31 (d := mkD "is_sure" s_is_sure) rfl
  obtain ⟨fd_paper_of, F_paper_of⟩ := d.def_ 32 (d := mkD "paper_of" s_paper_of) rfl
  obtain ⟨fd_law_cell, F_law_cell⟩ := d.def_ 33 (d := mkD "_law_cell" s_law_cell) rfl
  obtain ⟨fd_law_digits, F_law_digits⟩ := d.def_ 34 (d := mkD "_law_digits" s_law_digits) rfl
  obtain ⟨fd_law_draw, F_law_draw⟩ := d.def_ 35 (d := mkD "_law_draw" s_law_draw) rfl
  obtain ⟨fd_law_pick, F_law_pick⟩ := d.def_ 36 (d := mkD "_law_pick" s_law_pick) rfl
  obtain ⟨fd_law_same, F_law_same⟩ := d.def_ 37 (d := mkD "_law_same" s_law_same) rfl
  obtain ⟨fd_law_path, F_law_path⟩ := d.def_ 38 (d := mkD "_law_path" s_law_path) rfl
  obtain ⟨fd_law_segments, F_law_segments⟩ := d.def_ 39 (d := mkD "_law_segments" s_law_segments) rfl
  obtain ⟨fd_law_lengths, F_law_lengths⟩ := d.def_ 40 (d := mkD "_law_lengths" s_law_lengths) rfl
  obtain ⟨fd_law_work, F_law_work⟩ := d.def_ 41 (d := mkD "_law_work" s_law_work) rfl
  obtain ⟨fd_law_bodies, F_law_bodies⟩ := d.def_ 42 (d := mkD "_law_bodies" s_law_bodies) rfl
  obtain ⟨fd_law_in, F_law_in⟩ := d.def_ 43 (d := mkD "_law_in" s_law_in) rfl
  obtain ⟨fd_law_penalties, F_law_penalties⟩ := d.def_ 44 (d := mkD "_law_penalties" s_law_penalties) rfl
  obtain ⟨fd_law_demand, F_law_demand⟩ := d.def_ 45 (d := mkD "_law_demand" s_law_demand) rfl
  obtain ⟨fd_law_recovery, F_law_recovery⟩ := d.def_ 46 (d := mkD "_law_recovery" s_law_recovery) rfl
  obtain ⟨fd_law_slack, F_law_slack⟩ := d.def_ 47 (d := mkD "_law_slack" s_law_slack) rfl
  obtain ⟨fd_law_little, F_law_little⟩ := d.def_ 48 (d := mkD "_law_little" s_law_little) rfl
  obtain ⟨fd_law_horizon, F_law_horizon⟩ := d.def_ 49 (d := mkD "_law_horizon" s_law_horizon) rfl
  obtain ⟨fd_law_latest, F_law_latest⟩ := d.def_ 50 (d := mkD "_law_latest" s_law_latest) rfl
  obtain ⟨fd_law_worst, F_law_worst⟩ := d.def_ 51 (d := mkD "_law_worst" s_law_worst) rfl
  obtain ⟨fd_law_drawn, F_law_drawn⟩ := d.def_ 52 (d := mkD "_law_drawn" s_law_drawn) rfl
  obtain ⟨fd_law_is_crowded, F_law_is_crowded⟩ := d.def_ 53 (d := mkD "_law_is_crowded" s_law_is_crowded) rfl
  obtain ⟨fd_law, F_law⟩ := d.def_ 54 (d := mkD "law" s_law) rfl
  have m_is_integer := He.glo_ok X G (d.fact 0 (f := .glo "is_integer") rfl)
  have m_above := He.glo_ok X G (d.fact 1 (f := .glo "above") rfl)
  have m_used := He.glo_ok X G (d.fact 2 (f := .glo "used") rfl)
  have m_is_within := He.glo_ok X G (d.fact 3 (f := .glo "is_within") rfl)
  have m_parts_most := He.glo_ok X G (d.fact 4 (f := .glo "parts_most") rfl)
  have m_worst := He.glo_ok X G (d.fact 5 (f := .glo "worst") rfl)
  have m_parts_open := He.glo_ok X G (d.fact 6 (f := .glo "parts_open") rfl)
  have m_cut_at := He.glo_ok X G (d.fact 7 (f := .glo "cut_at") rfl)
  have m_prices_of := He.glo_ok X G (d.fact 8 (f := .glo "prices_of") rfl)
  have m_covers := He.glo_ok X G (d.fact 9 (f := .glo "covers") rfl)
  have m_bound_of := He.glo_ok X G (d.fact 10 (f := .glo "bound_of") rfl)
  have m_lengths_of := He.glo_ok X G (d.fact 11 (f := .glo "lengths_of") rfl)
  have m_work_of := He.glo_ok X G (d.fact 12 (f := .glo "work_of") rfl)
  have m_divisor := He.glo_ok X G (d.fact 13 (f := .glo "divisor") rfl)
  have m_rate_of := He.glo_ok X G (d.fact 14 (f := .glo "rate_of") rfl)
  have m_latest_of := He.glo_ok X G (d.fact 15 (f := .glo "latest_of") rfl)
  have m_longest := He.glo_ok X G (d.fact 16 (f := .glo "longest") rfl)
  have m_horizon_of := He.glo_ok X G (d.fact 17 (f := .glo "horizon_of") rfl)
  have m_bodies := He.glo_ok X G (d.fact 18 (f := .glo "bodies") rfl)
  have m_jobs_in := He.glo_ok X G (d.fact 19 (f := .glo "jobs_in") rfl)
  have m_demand := He.glo_ok X G (d.fact 20 (f := .glo "demand") rfl)
  have m_penalties := He.glo_ok X G (d.fact 21 (f := .glo "penalties") rfl)
  have m_analysis := He.glo_ok X G (d.fact 22 (f := .glo "analysis") rfl)
  have m_ends_of := He.glo_ok X G (d.fact 23 (f := .glo "ends_of") rfl)
  have m_is_row := He.glo_ok X G (d.fact 24 (f := .glo "is_row") rfl)
  have m_is_held := He.glo_ok X G (d.fact 25 (f := .glo "is_held") rfl)
  have m_judge_sure := He.glo_ok X G (d.fact 26 (f := .glo "judge_sure") rfl)
  have m_judge_unsure := He.glo_ok X G (d.fact 27 (f := .glo "judge_unsure") rfl)
  have m_judge := He.glo_ok X G (d.fact 28 (f := .glo "judge") rfl)
  have m_looks := He.glo_ok X G (d.fact 29 (f := .glo "looks") rfl)
  have m_is_crowded := He.glo_ok X G (d.fact 30 (f := .glo "is_crowded") rfl)
  have m_is_sure := He.glo_ok X G (d.fact 31 (f := .glo "is_sure") rfl)
  have m_paper_of := He.glo_ok X G (d.fact 32 (f := .glo "paper_of") rfl)
  have m_law_cell := He.glo_ok X G (d.fact 33 (f := .glo "_law_cell") rfl)
  have m_law_digits := He.glo_ok X G (d.fact 34 (f := .glo "_law_digits") rfl)
  have m_law_draw := He.glo_ok X G (d.fact 35 (f := .glo "_law_draw") rfl)
  have m_law_pick := He.glo_ok X G (d.fact 36 (f := .glo "_law_pick") rfl)
  have m_law_same := He.glo_ok X G (d.fact 37 (f := .glo "_law_same") rfl)
  have m_law_path := He.glo_ok X G (d.fact 38 (f := .glo "_law_path") rfl)
  have m_law_segments := He.glo_ok X G (d.fact 39 (f := .glo "_law_segments") rfl)
  have m_law_lengths := He.glo_ok X G (d.fact 40 (f := .glo "_law_lengths") rfl)
  have m_law_work := He.glo_ok X G (d.fact 41 (f := .glo "_law_work") rfl)
  have m_law_bodies := He.glo_ok X G (d.fact 42 (f := .glo "_law_bodies") rfl)
  have m_law_in := He.glo_ok X G (d.fact 43 (f := .glo "_law_in") rfl)
  have m_law_penalties := He.glo_ok X G (d.fact 44 (f := .glo "_law_penalties") rfl)
  have m_law_demand := He.glo_ok X G (d.fact 45 (f := .glo "_law_demand") rfl)
  have m_law_recovery := He.glo_ok X G (d.fact 46 (f := .glo "_law_recovery") rfl)
  have m_law_slack := He.glo_ok X G (d.fact 47 (f := .glo "_law_slack") rfl)
  have m_law_little := He.glo_ok X G (d.fact 48 (f := .glo "_law_little") rfl)
  have m_law_horizon := He.glo_ok X G (d.fact 49 (f := .glo "_law_horizon") rfl)
  have m_law_latest := He.glo_ok X G (d.fact 50 (f := .glo "_law_latest") rfl)
  have m_law_worst := He.glo_ok X G (d.fact 51 (f := .glo "_law_worst") rfl)
  have m_law_drawn := He.glo_ok X G (d.fact 52 (f := .glo "_law_drawn") rfl)
  have m_law_is_crowded := He.glo_ok X G (d.fact 53 (f := .glo "_law_is_crowded") rfl)
  have m_law := He.glo_ok X G (d.fact 54 (f := .glo "law") rfl)
  obtain ⟨tME, eME⟩ := He.int_ok X G (d.fact 70 (f := .int "MOST_END" 1000000000) rfl)
  have B : Bt mg := ⟨He.free_ok X G (d.fact 55 (f := .free "len") rfl), He.free_ok X G (d.fact 56 (f := .free "range") rfl), He.free_ok X G (d.fact 57 (f := .free "sorted") rfl), He.free_ok X G (d.fact 58 (f := .free "min") rfl), He.free_ok X G (d.fact 59 (f := .free "max") rfl), He.free_ok X G (d.fact 60 (f := .free "sum") rfl), He.free_ok X G (d.fact 61 (f := .free "tuple") rfl), He.free_ok X G (d.fact 62 (f := .free "set") rfl), He.free_ok X G (d.fact 63 (f := .free "isinstance") rfl), He.free_ok X G (d.fact 64 (f := .free "int") rfl), He.free_ok X G (d.fact 65 (f := .free "bool") rfl), He.free_ok X G (d.fact 66 (f := .free "enumerate") rfl), He.free_ok X G (d.fact 67 (f := .free "zip") rfl), He.free_ok X G (d.fact 68 (f := .free "all") rfl), He.free_ok X G (d.fact 69 (f := .free "repr") rfl), ⟨_, eME, ⟨tME, rfl⟩⟩⟩
  have e := hfa.symm.trans m_law
  cases e
  have bL := FunD.bindsA (ps := ["_law_script"]) F_law fun _ _ _ _ _ _ us hl => match us, hl with | [_], _ => rfl
  refine ⟨fd_law, [He.cT K ("worst", none)], spLaw K (He.cT K ("worst", none)).2, fun p hp => ?_, fun p hp => ?_, fun p hp => ?_, fun s v => bL s [v] rfl, fun H a ns _ _ hT hS => ⟨a, ns, rfl, hS, fun q hq => ?_, law_ok_all ns, fun _ => rfl⟩, fun base KB GB hTB => ?_⟩
  · rw [List.mem_singleton.mp hp]; exact c.empty _ hw
  · rw [List.mem_singleton.mp hp]; exact c.out _ hw
  · rw [List.mem_singleton.mp hp]; exact PySem.W.codeHd_of_K X (c.hd _ hw)
  · rw [List.mem_singleton.mp hq]; exact LamX.TabS.nil (hT _ (List.mem_singleton.mpr rfl))
  · have TB : LamX.TabB base mg (He.codeOf K ("worst", none)) (He.cT K ("worst", none)).2 := hTB _ (List.mem_singleton.mpr rfl)
    have c_is_integer := cal_is_integer (Ct := 0) (P := PySem.Challenge.rw_faultdue_k15_whole_papers_are_right.prog) (w := w) (base := base) (Pt := (He.cT K ("worst", none)).2) B  F_is_integer m_is_integer
    have c_above := cal_above (Ct := 0) (P := PySem.Challenge.rw_faultdue_k15_whole_papers_are_right.prog) (w := w) (base := base) (Pt := (He.cT K ("worst", none)).2) B  F_above m_above
    have c_used := cal_used (Ct := 0) (P := PySem.Challenge.rw_faultdue_k15_whole_papers_are_right.prog) (w := w) (base := base) (Pt := (He.cT K ("worst", none)).2) B c_above F_used m_used
    have c_is_within := cal_is_within (Ct := 0) (P := PySem.Challenge.rw_faultdue_k15_whole_papers_are_right.prog) (w := w) (base := base) (Pt := (He.cT K ("worst", none)).2) B c_used F_is_within m_is_within
    have c_parts_most := cal_parts_most (Ct := 0) (P := PySem.Challenge.rw_faultdue_k15_whole_papers_are_right.prog) (w := w) (base := base) (Pt := (He.cT K ("worst", none)).2) B  F_parts_most m_parts_most
    have c_worst := cal_worst (P := PySem.Challenge.rw_faultdue_k15_whole_papers_are_right.prog) (w := w) (base := base) (Pt := (He.cT K ("worst", none)).2) B c_above TB (code_worst F_worst) F_worst m_worst
    have c_parts_open := cal_parts_open (Ct := 0) (P := PySem.Challenge.rw_faultdue_k15_whole_papers_are_right.prog) (w := w) (base := base) (Pt := (He.cT K ("worst", none)).2) B  F_parts_open m_parts_open
    have c_cut_at := cal_cut_at (Ct := 0) (P := PySem.Challenge.rw_faultdue_k15_whole_papers_are_right.prog) (w := w) (base := base) (Pt := (He.cT K ("worst", none)).2) B c_parts_most c_parts_open F_cut_at m_cut_at
    have c_prices_of := cal_prices_of (Ct := 0) (P := PySem.Challenge.rw_faultdue_k15_whole_papers_are_right.prog) (w := w) (base := base) (Pt := (He.cT K ("worst", none)).2) B c_cut_at F_prices_of m_prices_of
    have c_covers := cal_covers (Ct := 0) (P := PySem.Challenge.rw_faultdue_k15_whole_papers_are_right.prog) (w := w) (base := base) (Pt := (He.cT K ("worst", none)).2) B c_above F_covers m_covers
    have c_bound_of := cal_bound_of (Ct := 0) (P := PySem.Challenge.rw_faultdue_k15_whole_papers_are_right.prog) (w := w) (base := base) (Pt := (He.cT K ("worst", none)).2) B c_covers F_bound_of m_bound_of
    have c_lengths_of := cal_lengths_of (Ct := 0) (P := PySem.Challenge.rw_faultdue_k15_whole_papers_are_right.prog) (w := w) (base := base) (Pt := (He.cT K ("worst", none)).2) B  F_lengths_of m_lengths_of
    have c_work_of := cal_work_of (Ct := 0) (P := PySem.Challenge.rw_faultdue_k15_whole_papers_are_right.prog) (w := w) (base := base) (Pt := (He.cT K ("worst", none)).2) B c_lengths_of F_work_of m_work_of
    have c_divisor := cal_divisor (Ct := 0) (P := PySem.Challenge.rw_faultdue_k15_whole_papers_are_right.prog) (w := w) (base := base) (Pt := (He.cT K ("worst", none)).2) B  F_divisor m_divisor
    have c_rate_of := cal_rate_of (Ct := 0) (P := PySem.Challenge.rw_faultdue_k15_whole_papers_are_right.prog) (w := w) (base := base) (Pt := (He.cT K ("worst", none)).2) B c_work_of c_divisor F_rate_of m_rate_of
    have c_latest_of := cal_latest_of (Ct := 0) (P := PySem.Challenge.rw_faultdue_k15_whole_papers_are_right.prog) (w := w) (base := base) (Pt := (He.cT K ("worst", none)).2) B  F_latest_of m_latest_of
    have c_longest := cal_longest (Ct := 0) (P := PySem.Challenge.rw_faultdue_k15_whole_papers_are_right.prog) (w := w) (base := base) (Pt := (He.cT K ("worst", none)).2) B  F_longest m_longest
    have c_horizon_of := cal_horizon_of (Ct := 0) (P := PySem.Challenge.rw_faultdue_k15_whole_papers_are_right.prog) (w := w) (base := base) (Pt := (He.cT K ("worst", none)).2) B c_rate_of c_work_of c_worst c_longest F_horizon_of m_horizon_of
    have c_bodies := cal_bodies (Ct := 0) (P := PySem.Challenge.rw_faultdue_k15_whole_papers_are_right.prog) (w := w) (base := base) (Pt := (He.cT K ("worst", none)).2) B  F_bodies m_bodies
    have c_jobs_in := cal_jobs_in (Ct := 0) (P := PySem.Challenge.rw_faultdue_k15_whole_papers_are_right.prog) (w := w) (base := base) (Pt := (He.cT K ("worst", none)).2) B  F_jobs_in m_jobs_in
    have c_demand := cal_demand (Ct := 0) (P := PySem.Challenge.rw_faultdue_k15_whole_papers_are_right.prog) (w := w) (base := base) (Pt := (He.cT K ("worst", none)).2) B c_jobs_in c_work_of c_bodies F_demand m_demand
    have c_penalties := cal_penalties (Ct := 0) (P := PySem.Challenge.rw_faultdue_k15_whole_papers_are_right.prog) (w := w) (base := base) (Pt := (He.cT K ("worst", none)).2) B c_bodies c_longest c_jobs_in F_penalties m_penalties
    have c_analysis := cal_analysis (Ct := 0) (P := PySem.Challenge.rw_faultdue_k15_whole_papers_are_right.prog) (w := w) (base := base) (Pt := (He.cT K ("worst", none)).2) B c_demand c_penalties c_worst c_prices_of F_analysis m_analysis
    have c_ends_of := cal_ends_of (Ct := 0) (P := PySem.Challenge.rw_faultdue_k15_whole_papers_are_right.prog) (w := w) (base := base) (Pt := (He.cT K ("worst", none)).2) B  F_ends_of m_ends_of
    have c_is_row := cal_is_row (Ct := 0) (P := PySem.Challenge.rw_faultdue_k15_whole_papers_are_right.prog) (w := w) (base := base) (Pt := (He.cT K ("worst", none)).2) B  F_is_row m_is_row
    have c_is_held := cal_is_held (Ct := 0) (P := PySem.Challenge.rw_faultdue_k15_whole_papers_are_right.prog) (w := w) (base := base) (Pt := (He.cT K ("worst", none)).2) B c_demand c_penalties c_bound_of F_is_held m_is_held
    have c_judge_sure := cal_judge_sure (Ct := 0) (P := PySem.Challenge.rw_faultdue_k15_whole_papers_are_right.prog) (w := w) (base := base) (Pt := (He.cT K ("worst", none)).2) B c_is_row c_horizon_of c_latest_of c_ends_of c_is_held F_judge_sure m_judge_sure
    have c_judge_unsure := cal_judge_unsure (Ct := 0) (P := PySem.Challenge.rw_faultdue_k15_whole_papers_are_right.prog) (w := w) (base := base) (Pt := (He.cT K ("worst", none)).2) B c_is_integer c_is_within c_is_row c_penalties c_demand F_judge_unsure m_judge_unsure
    have c_judge := cal_judge (Ct := 0) (P := PySem.Challenge.rw_faultdue_k15_whole_papers_are_right.prog) (w := w) (base := base) (Pt := (He.cT K ("worst", none)).2) B c_judge_sure c_judge_unsure F_judge m_judge
    have c_looks := cal_looks (Ct := 0) (P := PySem.Challenge.rw_faultdue_k15_whole_papers_are_right.prog) (w := w) (base := base) (Pt := (He.cT K ("worst", none)).2) B c_horizon_of c_latest_of c_ends_of c_analysis F_looks m_looks
    have c_is_crowded := cal_is_crowded (Ct := 0) (P := PySem.Challenge.rw_faultdue_k15_whole_papers_are_right.prog) (w := w) (base := base) (Pt := (He.cT K ("worst", none)).2) B c_demand c_worst c_penalties F_is_crowded m_is_crowded
    have c_is_sure := cal_is_sure (Ct := 0) (P := PySem.Challenge.rw_faultdue_k15_whole_papers_are_right.prog) (w := w) (base := base) (Pt := (He.cT K ("worst", none)).2) B c_horizon_of c_latest_of c_ends_of c_is_crowded F_is_sure m_is_sure
    have c_paper_of := cal_paper_of (Ct := 0) (P := PySem.Challenge.rw_faultdue_k15_whole_papers_are_right.prog) (w := w) (base := base) (Pt := (He.cT K ("worst", none)).2) B c_looks F_paper_of m_paper_of
    have c_law_cell := cal_law_cell (Ct := 0) (P := PySem.Challenge.rw_faultdue_k15_whole_papers_are_right.prog) (w := w) (base := base) (Pt := (He.cT K ("worst", none)).2) B  F_law_cell m_law_cell
    have c_law_digits := cal_law_digits (Ct := 0) (P := PySem.Challenge.rw_faultdue_k15_whole_papers_are_right.prog) (w := w) (base := base) (Pt := (He.cT K ("worst", none)).2) B c_law_cell F_law_digits m_law_digits
    have c_law_draw := cal_law_draw (Ct := 0) (P := PySem.Challenge.rw_faultdue_k15_whole_papers_are_right.prog) (w := w) (base := base) (Pt := (He.cT K ("worst", none)).2) B  F_law_draw m_law_draw
    have c_law_pick := cal_law_pick (Ct := 0) (P := PySem.Challenge.rw_faultdue_k15_whole_papers_are_right.prog) (w := w) (base := base) (Pt := (He.cT K ("worst", none)).2) B c_law_draw F_law_pick m_law_pick
    have c_law_same := cal_law_same (Ct := 0) (P := PySem.Challenge.rw_faultdue_k15_whole_papers_are_right.prog) (w := w) (base := base) (Pt := (He.cT K ("worst", none)).2) B  F_law_same m_law_same
    have c_law_path := cal_law_path (Ct := 0) (P := PySem.Challenge.rw_faultdue_k15_whole_papers_are_right.prog) (w := w) (base := base) (Pt := (He.cT K ("worst", none)).2) B  F_law_path m_law_path
    have c_law_segments := cal_law_segments (Ct := 0) (P := PySem.Challenge.rw_faultdue_k15_whole_papers_are_right.prog) (w := w) (base := base) (Pt := (He.cT K ("worst", none)).2) B c_law_draw F_law_segments m_law_segments
    have c_law_lengths := cal_law_lengths (Ct := 0) (P := PySem.Challenge.rw_faultdue_k15_whole_papers_are_right.prog) (w := w) (base := base) (Pt := (He.cT K ("worst", none)).2) B  F_law_lengths m_law_lengths
    have c_law_work := cal_law_work (Ct := 0) (P := PySem.Challenge.rw_faultdue_k15_whole_papers_are_right.prog) (w := w) (base := base) (Pt := (He.cT K ("worst", none)).2) B c_law_lengths F_law_work m_law_work
    have c_law_bodies := cal_law_bodies (Ct := 0) (P := PySem.Challenge.rw_faultdue_k15_whole_papers_are_right.prog) (w := w) (base := base) (Pt := (He.cT K ("worst", none)).2) B  F_law_bodies m_law_bodies
    have c_law_in := cal_law_in (Ct := 0) (P := PySem.Challenge.rw_faultdue_k15_whole_papers_are_right.prog) (w := w) (base := base) (Pt := (He.cT K ("worst", none)).2) B c_law_bodies F_law_in m_law_in
    have c_law_penalties := cal_law_penalties (Ct := 0) (P := PySem.Challenge.rw_faultdue_k15_whole_papers_are_right.prog) (w := w) (base := base) (Pt := (He.cT K ("worst", none)).2) B c_law_in F_law_penalties m_law_penalties
    have c_law_demand := cal_law_demand (Ct := 0) (P := PySem.Challenge.rw_faultdue_k15_whole_papers_are_right.prog) (w := w) (base := base) (Pt := (He.cT K ("worst", none)).2) B c_law_in c_law_work F_law_demand m_law_demand
    have c_law_recovery := cal_law_recovery (Ct := 0) (P := PySem.Challenge.rw_faultdue_k15_whole_papers_are_right.prog) (w := w) (base := base) (Pt := (He.cT K ("worst", none)).2) B c_law_path F_law_recovery m_law_recovery
    have c_law_slack := cal_law_slack (Ct := 0) (P := PySem.Challenge.rw_faultdue_k15_whole_papers_are_right.prog) (w := w) (base := base) (Pt := (He.cT K ("worst", none)).2) B c_law_demand c_law_recovery c_law_penalties F_law_slack m_law_slack
    have c_law_little := cal_law_little (Ct := 0) (P := PySem.Challenge.rw_faultdue_k15_whole_papers_are_right.prog) (w := w) (base := base) (Pt := (He.cT K ("worst", none)).2) B c_law_draw c_law_segments c_law_pick c_law_lengths F_law_little m_law_little
    have c_law_horizon := cal_law_horizon (Ct := 0) (P := PySem.Challenge.rw_faultdue_k15_whole_papers_are_right.prog) (w := w) (base := base) (Pt := (He.cT K ("worst", none)).2) B c_law_work c_law_recovery F_law_horizon m_law_horizon
    have c_law_latest := cal_law_latest (Ct := 0) (P := PySem.Challenge.rw_faultdue_k15_whole_papers_are_right.prog) (w := w) (base := base) (Pt := (He.cT K ("worst", none)).2) B  F_law_latest m_law_latest
    have c_law_worst := cal_law_worst (Ct := 0) (P := PySem.Challenge.rw_faultdue_k15_whole_papers_are_right.prog) (w := w) (base := base) (Pt := (He.cT K ("worst", none)).2) B c_law_path F_law_worst m_law_worst
    have c_law_drawn := cal_law_drawn (Ct := 0) (P := PySem.Challenge.rw_faultdue_k15_whole_papers_are_right.prog) (w := w) (base := base) (Pt := (He.cT K ("worst", none)).2) B c_law_draw c_law_worst c_law_penalties F_law_drawn m_law_drawn
    have c_law_is_crowded := cal_law_is_crowded (Ct := 0) (P := PySem.Challenge.rw_faultdue_k15_whole_papers_are_right.prog) (w := w) (base := base) (Pt := (He.cT K ("worst", none)).2) B c_law_horizon c_law_draw c_law_latest c_law_slack F_law_is_crowded m_law_is_crowded
    exact ok_law B c_law_digits c_law_little c_law_horizon c_paper_of c_law_drawn c_judge c_law_same c_is_sure c_law_is_crowded c_law_slack F_law
end K15
open PySem PySem.W PySem.Calls PyProof.Rows
theorem PySem.Challenge.cw_faultdue_k15_whole_papers_are_right_holds : PySem.Challenge.rw_faultdue_k15_whole_papers_are_right.Holds := by
  w_on; o_law
  refine HandSHeadRun.head_any (r := OpenLaw.row PySem.Challenge.rw_faultdue_k15_whole_papers_are_right) (q := view (OpenLaw.row PySem.Challenge.rw_faultdue_k15_whole_papers_are_right).prog [62]) (H := K15.hkX) (ob := K15.ob) (M := 3000) (loose := K15.names) (d := HandSHeadRun.topDef (OpenLaw.row PySem.Challenge.rw_faultdue_k15_whole_papers_are_right).prog 62) (kwd := []) K15.ob_eq
    (by kernel_rfl) (fun s => by kernel_rfl) K15.run (by kernel_rfl) (by kernel_rfl) (by kernel_rfl) (by rfl) (by first | assumption | decide +kernel) (by decide +kernel) ⟨rfl, rfl, rfl, rfl, rfl, by decide +kernel⟩ ?hw ?hc
  case hw => w_witness2
  case hc =>
    refine LamX.walk_ofTsE (l := PySem.Challenge.rw_faultdue_k15_whole_papers_are_right) (n := 63) (k := 7) (x := "_law_script") (CX := fun _ => L2.CX0) rfl (by decide) (by kernel_rfl) ⟨rfl, by decide, by decide⟩ ?F (fun _ _ _ _ _ z => z)
    intro w mg fa h Y G hmg0
    obtain ⟨K, KX, c⟩ := Y
    have hmg : mg ("law" : PySem.Str) = some (.ref fa) := by
      have e : (HandSHeadRun.topDef (OpenLaw.row PySem.Challenge.rw_faultdue_k15_whole_papers_are_right).prog 62).name = ("law" : PySem.Str) := by kernel_rfl
      rw [← e]
      exact hmg0
    exact ⟨K, KX, K15.facts KX G hmg c⟩
