import PyProof.Rows.All
import HandS.Base
import HandS.Set
import HandS.Strs
import HandS.Zip
import Wide.All
import OpenK.AllK
import Wide.FinOn
import KE.KStateDown
import KE.DataEq
import KE.DataCmp
import KE.DataFind
import KE.DataIsa
import KE.DataAny
import KE.DataMinMax
import KE.SortData
import HandS.ForMost
import HandS.Exc
import HandS.ExcOwn
import HandS.TryOnly
import HandS.TryMany
import HandS.WordsExc
import HandS.CallSlots
import HandS.Defaults
import HandS.Wide
import HandS.Flow
import HandS.TupAny
import HandS.TupMul
import HandS.Walk
import HandS.IsInst
import HandS.Deep
import HandS.Style
import HandS.More
import HandS.RaiseMore
import HandS.ExcField
import HandS.ExcIs
import HandS.Conv
import HandS.Head0
import HandS.Head1
import HandS.Head2
import HandS.HeadEnd
import HandS.HeadHook1
import HandS.HeadHook2
import PySem.Challenge.RW_lanescounted_k03_marks_moved_by_ranges
set_option Elab.async false
set_option linter.all false
set_option maxRecDepth 100000
set_option maxHeartbeats 0
/-! Ex0: a range of any ends. -/
namespace L2
open PySem PySem.Spec PyProof.Rows
theorem turn_longrange {P : Program} {w : World} {K : PySem.W.Frag} {tg : Expr} (it : Addr) (lo : Int) (n : Nat) : Turn P w K tg (Itr lo n) [it] it (fun i h => IsLongIter h it (lo + (i : Nat) * 1) ((n : Int) - (i : Nat)) 1) where
  mem := by simp
  obj := fun i h st b hb => by
    have e : b = it := by simpa using hb
    subst e
    exact ⟨_, st, fun v z => by
      have z' : Data.fields _ = Data.cell v := z
      cases z'⟩
  keep := fun i h h' st k => k it (by simp) _ st
  item := by
    intro X hP hw hK hc i pins s σ H E I hf st hg
    subst hP hw hK
    obtain ⟨f0, f1, f2, f3, f4, f5⟩ := hf it (by simp)
    have W := Walks.longrange (prog := X.prog) (w := X.w) (I.ok.hd hc) it lo 1 n
    refine W.item i s _ _ hg st fun v h' tk hv st' kk => ?_
    obtain ⟨t, rfl⟩ := hv
    have I1 : Inv X pins σ H { s with heap := h', toks := tk } := I.turned (fun b o hb e => kk b o (by simpa using hb) e) f0 f1 f3 f4 f5
    refine ⟨_, rfl, go_of (s := { s with heap := h', toks := tk }) (n := "longrange_iterator") st' rfl rfl (by decide) ⟨.int (lo + i), H, I1, ⟨t, ?_⟩, ⟨rfl, rfl⟩, st', fun b hb => (hf b hb).1⟩⟩
    rw [Int.mul_one]
  done := by
    intro X hP hw hK hc i pins s σ H E I hf st hg
    subst hP hw hK
    obtain ⟨f0, f1, f2, f3, f4, f5⟩ := hf it (by simp)
    exact wpAny_pyNext_long_end (I.ok.hd hc) st (by have : n ≤ i := hg; omega) fun h' eb => ⟨rfl, I.turned (t' := s.toks) (fun b o hb e => eb b o hb e) f0 f1 f3 f4 f5⟩
  self := fun _ _ _ _ _ st h => wpAny_pyIter_longiter st h
section
variable {X : Cx} {tg : Expr}
theorem range_itW {pins : List (Addr × Obj)} {σ : St} {H : Hp} {s : Shared} {R : It → Hp → Prop} {E : Value → Shared → Prop} {lo hi : Int} {t u v : Tok} {tk : Nat} (I : Inv X pins σ H s)
    (q : R (Itr lo (hi - lo).toNat) H) : wpAny (model X.prog X.w) X.A (pyIter (.ref s.heap.objs.size)) (PIE X pins σ tg R) E { s with heap := s.heap.push { cls := .type "range", data := .fields #[.int lo t, .int hi u, .int 1 v] }, toks := tk } := by
  have I1 : Inv X pins σ H { s with heap := s.heap.push { cls := .type "range", data := .fields #[.int lo t, .int hi u, .int 1 v] }, toks := tk } := I.kept fun b o e => Heap.get?_push_of_some _ e
  have hfp : ∀ b ∈ [(s.heap.push { cls := .type "range", data := .fields #[.int lo t, .int hi u, .int 1 v] }).objs.size], FpOk X pins H b := fun b hb => by
    have e : b = (s.heap.push { cls := .type "range", data := .fields #[.int lo t, .int hi u, .int 1 v] }).objs.size := by simpa using hb
    subst e
    exact I1.fpOk (Nat.le_refl _) (I1.hok.fresh (Nat.le_refl _))
  have e1 : lo + ((0 : Nat) : Int) * 1 = lo := by simp
  have e2 : (((hi - lo).toNat : Nat) : Int) - ((0 : Nat) : Int) = Builtin.Range.rangeSize lo hi 1 := by rw [rangeSize_one]; split <;> omega
  cases hs : Builtin.Range.small lo hi 1 with
  | true =>
    refine wpAny_pyIter_range (IsRange.new ..) hs ?_
    refine ⟨_, _, _, _, H, rfl, I1.kept (t' := tk) fun b o e => Heap.get?_push_of_some _ e, turn_range _ lo (hi - lo).toNat, ?_, hfp, q⟩
    show IsRangeIter _ _ (lo + ((0 : Nat) : Int) * 1) ((((hi - lo).toNat : Nat) : Int) - ((0 : Nat) : Int)) 1
    rw [e1, e2]
    exact Heap.get?_push_size _ rfl
  | false =>
    refine wpAny_pyIter_longrange (IsRange.new ..) hs ?_
    refine ⟨_, _, _, _, H, rfl, I1.kept (t' := tk) fun b o e => Heap.get?_push_of_some _ e, turn_longrange _ lo (hi - lo).toNat, ?_, hfp, q⟩
    show IsLongIter _ _ (lo + ((0 : Nat) : Int) * 1) ((((hi - lo).toNat : Nat) : Int) - ((0 : Nat) : Int)) 1
    rw [e1, e2]
    exact Heap.get?_push_size _ rfl
def iRng1W (ta : TA) : TI := fun σ H R => ta σ H fun vs H1 => ∃ j : Int, vs = [.int j] ∧ R (Itr 0 j.toNat) H1
def iRng2W (ta : TA) : TI := fun σ H R => ta σ H fun vs H1 => ∃ i j : Int, vs = [.int i, .int j] ∧ R (Itr i (j - i).toNat) H1
theorem pi_range1W {a : Expr} {ta : TA} {p pos : Pos} (hg : Gl X "range") (hm : X.mg "range" = none) (ha : PA X [a] ta) (hs : starEach [a] X.env = [(false, eval a X.env)] := by rfl) : PI X tg (.Call (.Name "range" p) [a] [] pos) (iRng1W ta) := by
  refine ⟨fun pins s σ H R I h => ?_⟩
  refine Call_ (ld_blt I hg hm boot_range (PyProof.Rows.callWith_type1 (thn (ha.run pos pins s σ H _ I h) fun us s1 ⟨vs, H1, I1, r1, q1⟩ => ?_) hs rfl))
  obtain ⟨j, e, q⟩ := q1
  subst e
  cases r1 with
  | cons r rr =>
    cases rr
    obtain ⟨t, rfl⟩ := r
    exact call_range_1 (range_itW I1 (by simpa using q))
theorem pi_range2W {a b : Expr} {ta : TA} {p pos : Pos} (hg : Gl X "range") (hm : X.mg "range" = none) (ha : PA X [a, b] ta) (hs : starEach [a, b] X.env = [(false, eval a X.env), (false, eval b X.env)] := by rfl) (hs2 : starEach [b] X.env = [(false, eval b X.env)] := by rfl) :
    PI X tg (.Call (.Name "range" p) [a, b] [] pos) (iRng2W ta) := by
  refine ⟨fun pins s σ H R I h => ?_⟩
  refine Call_ (ld_blt I hg hm boot_range (PyProof.Rows.callWith_type1 (thn (ha.run pos pins s σ H _ I h) fun us s1 ⟨vs, H1, I1, r1, q1⟩ => ?_) (by rw [hs, hs2]) (by rw [hs2]; rfl)))
  obtain ⟨i, j, e, q⟩ := q1
  subst e
  cases r1 with
  | cons r rr =>
    cases rr with
    | cons r' rr =>
      cases rr
      obtain ⟨t, rfl⟩ := r
      obtain ⟨t', rfl⟩ := r'
      exact call_range_2 (range_itW I1 q)
end
end L2

/-! Ex1: sorted(set(xs)), xs a list of ints. -/
namespace L2
open PySem PySem.Spec PyProof.Rows
section
variable {prog : Program} {w : World} {A : Around} {R : Result → Shared → Prop} {I : Addr} {fp wr : List Addr} {G : Array GenState → Array GenState → Prop} {n : Nat} {P : Nat → Value → Prop} {St : Nat → Shared → Prop}
theorem loop_setR (W : WalksS prog w A.in1 I fp wr G n P St) (S : Addr) (hSf : S ∉ fp) (val : Nat → Int) (hval : ∀ i v, P i v → ∃ t, v = .int (val i) t) (hb : n + 1 < scanBound) :
    ∀ (k i : Nat) (s : Shared), n - i = k → i ≤ n → St i s → SetR w s.heap S (fun k' => (firstMet val i).any (· == k')) (firstMet val i).length →
      (∀ s', Moved (S :: wr) G s s' → SetR w s'.heap S (fun k' => (firstMet val n).any (· == k')) (firstMet val n).length → R (.ok (.ret .none)) s') →
      codeAny (model prog w) A (.builtin "set.update.loop" ⟨[.ref S, .ref I], []⟩) R s := by
  have hSw : S ∉ wr := fun h => hSf (W.sub _ h)
  have hsub : ∀ b ∈ wr, b ∈ S :: wr := fun b hb => List.mem_cons_of_mem _ hb
  intro k
  induction k with
  | zero =>
    intro i s hk hi hst hS hR
    have hin : i = n := by omega
    subst hin
    refine codeAny_builtin F.entry_set_update_loop ?_
    rw [Around.under_plainId F.plain_set_update_loop _]
    show wpAny _ A.in1 (pyNext (.ref I) >>= _) _ _ s
    refine wpAny_bind (W.done s _ _ hst fun s' hm => ?_)
    show wpAny _ A.in1 (ret Value.none) _ _ s'
    exact wpAny_pure (hR s' (hm.mono hsub) (hS.at fun o ho => hm.heap S _ hSw ho))
  | succ k ih =>
    intro i s hk hi hst hS hR
    have hlt : i < n := by omega
    refine codeAny_builtin F.entry_set_update_loop ?_
    rw [Around.under_plainId F.plain_set_update_loop _]
    show wpAny _ A.in1 (pyNext (.ref I) >>= _) _ _ s
    refine wpAny_bind (W.item i s _ _ hlt hst fun v s' hP hst' hm => ?_)
    obtain ⟨t, rfl⟩ := hval i v hP
    have hS' : SetR w s'.heap S (fun k' => (firstMet val i).any (· == k')) (firstMet val i).length := hS.at fun o ho => hm.heap S _ hSw ho
    show wpAny _ A.in1 (holding [Value.int (val i) t] (setAdd S (.int (val i) t)) >>= _) _ _ s'
    refine wpAny_bind (wpAny_holding ?_)
    unfold setAdd
    refine wpAny_holding ?_
    refine wpAny_bind ((intKind prog w).pyHash (k := val i) (intKind_is _ _ _ _) ?_)
    have hroom : (firstMet val i).length + 1 < scanBound := by have := firstMet_length_le val i; omega
    refine setR_add_hashed (s := { s' with toks := s'.toks + 1 }) hS' hroom fun h' hsb hS2 => ?_
    have hSi : SetR w h' S (fun k' => (firstMet val (i + 1)).any (· == k')) (firstMet val (i + 1)).length := by
      have e2 : (if (firstMet val i).any (· == val i) = true then (firstMet val i).length else (firstMet val i).length + 1) = (firstMet val (i + 1)).length := by rw [firstMet_succ, step_length]
      rw [e2] at hS2
      exact hS2.congr fun k' => by rw [firstMet_succ, step_any]
    refine wpAny_pure ⟨plainId_quiet F.plain_set_update_loop _, ih (i + 1) _ (by omega) hlt (W.frame _ s' _ _ hst' (Nat.le_succ _) fun b hb o e => ?_) hSi fun s'' hm'' hS'' => ?_⟩
    · rw [hsb.2 b (fun h : b = S => hSf (by rw [← h]; exact hb))]; exact e
    · refine hR s'' (Moved.trans W.gtrans ((hm.mono hsub).then_heap (Nat.le_succ _) fun b o hb e => ?_) hm'') hS''
      rw [hsb.2 b (fun h : b = S => hb (by rw [h]; exact List.mem_cons_self))]; exact e
end
section
variable {prog : Program} {w : World} {A : Around} {E : Value → Shared → Prop} {s : Shared}
theorem code_set_led1 (a : Value) {Q₁ : Value → Shared → Prop}
    (h : Q₁ (.ref s.heap.objs.size) { s with heap := s.heap.push { cls := .type "set", dict := none, data := .set #[] 0 (.fresh 0 0 (!w.params.followText "set-order")) } }) :
    codeAny (model prog w) A (.call (.builtin "set.__new__") ⟨[.type "set", a], []⟩) (wants Q₁ E) s := by
  refine codeAny_of_tree ?_
  show wpAny _ A.in1 (do checkBuiltinCall "set.__new__" ⟨[.type "set", a], []⟩; again (.builtin "set.__new__" ⟨[.type "set", a], []⟩)) _ _ s
  refine wpAny_bind (wpAny_of_eq (F.newCall_set_1 a) (wpAny_pure ⟨plainId_quiet F.plain_set_new _, codeAny_builtin F.entry_set_new ?_⟩))
  rw [Around.under_plainId F.plain_set_new _]
  unfold Builtin.«set.__new__» Builtin.Frozenset.newClass
  have hsub := sub_set_self
  obtain ⟨hp, g, d, tk, os⟩ := s
  dsimp only
  wp_walk
  refine wpAny_askSetting (wpAny_pure ?_)
  dsimp only
  simp only [newObj]
  refine wpAny_bind (wpAny_alloc (wpAny_pure ?_))
  exact wpAny_pure h
theorem call_set_listR {l : Addr} {items : Array Value} {ns : List Int} {Q : Value → Shared → Prop}
    (hh : A.handled = none) (hl : s.heap.IsList l items) (hi : IntsAre items.toList ns) (hb : items.size + 1 < scanBound)
    (h : ∀ (h' : Heap) (tk : Nat), SetR w h' s.heap.objs.size (fun k' => (firstMet (fun i => ns.getD i 0) items.size).any (· == k')) (firstMet (fun i => ns.getD i 0) items.size).length →
      (∀ b o, b < s.heap.objs.size → s.heap.get? b = some o → h'.get? b = some o) → Q (.ref s.heap.objs.size) { s with heap := h', toks := tk }) :
    wpAny (model prog w) A (call (.type "set") [.ref l]) Q E s := by
  obtain ⟨c, tl, hmro⟩ := F.called_set.mro
  have hmade := F.called_set.made
  have hsub := F.called_set.sub
  refine wpAny_call (codeAny_of_tree ?_)
  show wpAny _ _ (callAny (.type "set") _) _ _ _
  refine wpAny_pure ⟨Code.quiet_builtin _ (by decide +kernel), codeAny_builtin F.entry_type_call ?_⟩
  rw [Around.under_plain (weight_type_call_type "set" [.ref l] []) rfl]
  have h1 := F.called_set.notType
  have h2 := F.called_set.canCreate
  have hct := F.typeCall_set_1 (.ref l)
  repeat (any_goals (first | assumption | wp_step))
  generalize hled : (!w.params.followText "set-order") = led
  refine codeAny_mono (code_set_led1 (.ref l) (E := E) (Q₁ := fun obj s₁ => obj = .ref s.heap.objs.size ∧ s₁ = { s with heap := s.heap.push { cls := .type "set", dict := none, data := .set #[] 0 (.fresh 0 0 led) } }) ⟨rfl, by rw [hled]⟩) fun r s₁ hr => ?_
  cases r with
  | error e => exact hr
  | ok fl =>
    cases fl with
    | ret obj =>
      obtain ⟨rfl, rfl⟩ := hr
      have hS : (s.heap.push { cls := .type "set", dict := none, data := .set #[] 0 (.fresh 0 0 led) }).get? s.heap.objs.size = some { cls := .type "set", dict := none, data := .set #[] 0 (.fresh 0 0 led) } := Heap.get?_push_size _ rfl
      have hT : Shared.TypeIs { s with heap := s.heap.push { cls := .type "set", dict := none, data := .set #[] 0 (.fresh 0 0 led) } } (.ref s.heap.objs.size) "set" := ⟨_, hS, rfl⟩
      have hli := F.called_set.init.lookup
      have hbi := F.called_set.init.bind (.ref s.heap.objs.size)
      repeat (any_goals (first | assumption | wp_step))
      refine codeAny_mono (codeAny_call_builtin (R := wants (fun r s₂ => r = .none ∧ ∃ h' tk, s₂ = { s with heap := h', toks := tk } ∧
          SetR w h' s.heap.objs.size (fun k' => (firstMet (fun i => ns.getD i 0) items.size).any (· == k')) (firstMet (fun i => ns.getD i 0) items.size).length ∧
          (∀ b o, b < s.heap.objs.size → s.heap.get? b = some o → h'.get? b = some o)) E) F.called_set.init.plain F.entry_set_init (check_set_init_1 hT ?_)) fun r₂ s₂ hr₂ => ?_
      · obtain ⟨ol, hol, hcl, nl, hdl⟩ := hl
        obtain ⟨ocls, odict, odata, oslots⟩ := ol
        simp only at hcl hdl
        subst hcl; subst hdl
        have hol' : (s.heap.push { cls := .type "set", dict := none, data := .set #[] 0 (.fresh 0 0 led) }).get? l = some { cls := .type "list", dict := odict, data := .seq items nl, slots := oslots } := Heap.get?_push_of_some _ hol
        have hsls := F.sub_list_set
        have hslf := F.sub_list_frozenset
        have hne : (Value.type "list" == Value.type "dict") = false := by decide
        have hl1 : (s.heap.push { cls := .type "set", dict := none, data := .set #[] 0 (.fresh 0 0 led) }).IsList l items := ⟨_, hol', rfl, nl, rfl⟩
        unfold Builtin.«set.__init__» noKeywords Builtin.Frozenset.updateFrom
        generalize hPI : pyIter = PI
        wp_walk
        subst hPI
        refine wpAny_pyIter_list hl1 ?_
        refine wpAny_bind (wpAny_runValue ?_)
        have hlS : l < s.heap.objs.size := Heap.lt_size hol
        have hh3 : A.in1.in1.in1.handled = none := by simp [hh]
        have hneI : l ≠ (s.heap.push { cls := .type "set", dict := none, data := .set #[] 0 (.fresh 0 0 led) }).objs.size := by
          rw [Heap.size_push]; exact Nat.ne_of_lt (Nat.lt_succ_of_lt hlS)
        have hSf : s.heap.objs.size ∉ [(s.heap.push { cls := .type "set", dict := none, data := .set #[] 0 (.fresh 0 0 led) }).objs.size, l] := by
          rw [Heap.size_push]; simp only [List.mem_cons, List.mem_singleton, List.not_mem_nil, or_false, not_or]
          exact ⟨Nat.ne_of_lt (Nat.lt_succ_self _), Nat.ne_of_gt hlS⟩
        have hval : ∀ (i : Nat) (v : Value), items[i]? = some v → ∃ t, v = .int ((fun i => ns.getD i 0) i) t := fun i v hv =>
          IntsAre.int_at hi i v (by rw [Array.getElem?_toList]; exact hv)
        refine loop_setR ((Walks.list hh3 _ l hneI items).toS) s.heap.objs.size hSf (fun i => ns.getD i 0) hval hb (items.size - 0) 0 _ (by omega) (Nat.zero_le _)
          ⟨⟨_, Heap.get?_push_size _ rfl, rfl, rfl⟩, (hl1.push _)⟩ ?hS0 ?hR
        case hS0 =>
          subst hled
          exact (setR_fresh w).at fun o ho => Heap.get?_push_of_some _ ho
        case hR =>
          intro s' hm hS'
          obtain ⟨h', g', d', tk', os'⟩ := s'
          have eg : g' = s.gens := hm.gens
          have ed : d' = s.drawn := hm.drawn
          have eo : os' = s.os := hm.os
          subst eg; subst ed; subst eo
          show wpAny _ _ _ _ _ _
          refine wpAny_pure ?_
          show wpAny _ _ (ret Value.none) _ _ _
          refine wpAny_pure ⟨rfl, h', tk', rfl, hS', fun b o hb e => ?_⟩
          have hb1 : b ≠ s.heap.objs.size := Nat.ne_of_lt hb
          have hb2 : b ≠ (s.heap.push { cls := .type "set", dict := none, data := .set #[] 0 (.fresh 0 0 led) }).objs.size := by
            rw [Heap.size_push]; exact Nat.ne_of_lt (Nat.lt_succ_of_lt hb)
          exact hm.heap b o (by simp only [List.mem_cons, List.mem_singleton, List.not_mem_nil, or_false, not_or]; exact ⟨hb1, hb2⟩) (Heap.get?_push_of_some _ (Heap.get?_push_of_some _ e))
      · cases r₂ with
        | error e => exact hr₂
        | ok fl₂ =>
          cases fl₂ with
          | ret r =>
            obtain ⟨rfl, h', tk, rfl, hS', hk'⟩ := hr₂
            repeat (any_goals (first | assumption | wp_step))
            exact h _ _ hS' hk'
          | _ => exact hr₂.elim
    | _ => exact hr.elim
end
/-- sorted(set(xs)) -/
def tSortSet (K : PySem.W.Frag) (ta : TE) : TE := fun σ H Q => ta σ H fun x H1 => ∃ (l : Addr) (ns : List Int), x = .ref l ∧ SqL K H1 l (ns.map V.int) ∧ ns.length < 64 ∧
  ∀ (out : List Int) (p : Addr), out.Pairwise (· < ·) → (∀ k, k ∈ out ↔ k ∈ ns) → H1 p = none → Q (.ref p) (upd H1 p (.lst (out.map V.int)))
theorem pe_sortSet {X : Cx} {a : Expr} {ta : TE} {p p2 q pos : Pos} (hg : Gl X "sorted") (hm : X.mg "sorted" = none) (hg2 : Gl X "set") (hm2 : X.mg "set" = none) (ha : PE X a ta) (hc : X.calm = true)
    (na : starEach [a] X.env = (false, eval a X.env) :: starEach [] X.env := by rfl) : PE X (.Call (.Name "sorted" p) [.Call (.Name "set" p2) [a] [] q] [] pos) (tSortSet X.K ta) := by
  refine ⟨fun pins s σ H Q I h => ?_⟩
  refine Call_ (ld_blt I hg hm boot_sorted ?_)
  refine PyProof.Rows.callWith_builtin1 (PyProof.Rows.args_cons ?_ rfl) rfl rfl
  refine Call_ (ld_blt I hg2 hm2 boot_set ?_)
  refine PyProof.Rows.callWith_type1 (PyProof.Rows.args_cons (thn (ha.run pins s σ H _ I h) fun v s1 ⟨x, H1, I1, r1, q1⟩ => PyProof.Rows.args_nil ?_) na) na rfl
  obtain ⟨l, ns, rfl, hq, hl, q1⟩ := q1
  cases r1
  obtain ⟨its, r, pl, hz⟩ := I1.list hq
  have hlen : its.toArray.size = ns.length := by rw [List.size_toArray, ← r.length, List.length_map]
  refine call_set_listR (I1.ok.hd hc) pl.isList (by simpa using RZ.intsAre_vals r) (by rw [hlen]; unfold scanBound; omega) fun h' tk hS hk => ?_
  refine PyProof.Rows.args_nil ?_
  have I2 : Inv X pins σ H1 { s1 with heap := h', toks := tk } := I1.kept fun b o e => hk b o (Heap.lt_size e) e
  have h64 : (firstMet (fun i => ns.getD i 0) its.toArray.size).length < 64 := by
    have := firstMet_length_le (fun i => ns.getD i 0) its.toArray.size
    omega
  refine sorted_set (s := { s1 with heap := h', toks := tk }) hS (I2.ok.hd hc) h64 fun s' p' out c ms k g o hp hgp hi hs hmem hlm => ?_
  have hlen2 : (ms.map V.int).length ≤ sizeLine := by rw [List.length_map, hlm, sizeLine_eq]; omega
  have hn : H1 p' = none := I2.hok.fresh hp
  have J : Inv X pins σ (upd H1 p' (.lst (ms.map V.int))) { ({ s1 with heap := h', toks := tk } : Shared) with heap := s'.heap, gens := s'.gens, drawn := s'.drawn, toks := s'.toks } :=
    I2.call (ch := []) (Un.laid k hp hn) (I2.hok.laid k hp ⟨hlen2, out.toList, c, vals_of_ints hi, hgp⟩) (by rw [g]; exact I2.bare) (fun _ z => nomatch z)
  have e : s' = { ({ s1 with heap := h', toks := tk } : Shared) with heap := s'.heap, gens := s'.gens, drawn := s'.drawn, toks := s'.toks } := by
    cases s'
    cases s1
    cases o
    rfl
  rw [e]
  refine ⟨.ref p', _, J, rfl, q1 ms p' hs (fun z => ?_) hn⟩
  rw [hmem z, firstMet_any, hlen]
  constructor
  · intro hz
    obtain ⟨y, hy, ey⟩ := List.any_eq_true.mp hz
    obtain ⟨i, hi2, rfl⟩ := List.mem_map.mp hy
    have e2 := eq_of_beq ey
    subst e2
    have hlt := List.mem_range.mp hi2
    rw [List.getD_eq_getElem?_getD, List.getElem?_eq_getElem hlt]
    exact List.getElem_mem hlt
  · intro hz
    obtain ⟨i, hi2⟩ := List.mem_iff_getElem?.mp hz
    refine List.any_eq_true.mpr ⟨z, List.mem_map.mpr ⟨i, List.mem_range.mpr (List.getElem?_eq_some_iff.mp hi2).1, ?_⟩, beq_self_eq_true _⟩
    rw [List.getD_eq_getElem?_getD, hi2]
    rfl
end L2

/-! Ev1: a small language over data, and its evaluator. -/
namespace Ev
open PySem

abbrev D := PyData
inductive BOp where
  | add | sub | mul | fdiv | mod | pow
  deriving DecidableEq
inductive COp where
  | eq | ne | lt | le | gt | ge | mem | nmem
  deriving DecidableEq
/-- targets -/
inductive Tg where
  | n (i : Nat)
  | t (ts : List Tg)
/-- built-ins of one or two data -/
inductive Bi where
  | len | abs | int | str | max | min | sum | all | any | sorted | tuple | list | max2 | min2 | bool
  deriving DecidableEq
/-- built-in classes for isinstance -/
inductive Ty where
  | int | bool | str | tuple | list
  deriving DecidableEq
/-- methods that tell something of a list, of a tuple -/
inductive Pm where
  | lcount | tcount | lindex | tindex
  deriving DecidableEq
inductive E where
  | k (d : D)
  | g (j : Nat)
  | v (i : Nat)
  | mv (i : Nat)
  | bo (i : Nat)
  | io (i : Nat)
  | tup (es : List E)
  | lst (es : List E)
  | bin (o : BOp) (a b : E)
  | neg (a : E)
  | cmp (o : COp) (a b : E)
  | chain (o p : COp) (a b c : E)
  | isN (a : E)
  | notN (a : E)
  | and (a b : E)
  | or (a b : E)
  | not (a : E)
  | ite (t a b : E)
  | idx (a i : E)
  | slc (a : E) (lo hi : Option E)
  | call (f : Nat) (args : List E)
  | bi (b : Bi) (args : List E)
  | isi (a : E) (t : Ty)
  | met (m : Pm) (a : E) (es : List E)
  | isB (b : Bool) (a : E)
  | rl (tp : Bool) (a : E)
  | ss (a : E)
  | isX (c : Nat)
  | rng1 (a : E)
  | rng2 (a b : E)
  | enu (a : E)
  | zp (a b : E)
  | itr (a : E)
  | lc (t : Tg) (it elt : E)
  | lci (t : Tg) (it c elt : E)
  | lc2 (t : Tg) (it : E) (t2 : Tg) (it2 elt : E)
/-- methods that change a list -/
inductive Mt where
  | append | insert | pop | reverse | clear
  deriving DecidableEq
inductive S where
  | asg (t : Tg) (e : E)
  | par (i j : Nat) (a b : E)
  | asgs (is : List Nat) (e : E)
  | sto (i : Nat) (k e : E)
  | aug (i : Nat) (o : BOp) (e : E)
  | augl (i : Nat) (e : E)
  | mth (m : Mt) (i : Nat) (es : List E)
  | ex (e : E)
  | ret (e : E)
  | retN
  | never
  | pass
  | brk
  | cont
  | ife (t : E) (a b : List S)
  | whl (t : E) (b : List S)
  | forr (t : Tg) (it : E) (b : List S)
  | rais (c : Nat) (e : E)
  | tryx (b : List S) (hs : List (Nat × List S))
  | trya (b : List S) (c i : Nat) (h : List S)

/-- what an owned object holds: its items are data that nobody changes -/
inductive Ow where
  | lst (xs : List D)
inductive Rv where
  | fr (d : D)
  | ow (o : Ow)
  | tp (rs : List Rv)
abbrev Rho := List (Option Rv)
inductive Res (α : Type) where
  | ok (a : α) (r : Rho)
  | ex (c : Nat) (fs : List D) (r : Rho)
  | bad
inductive FRes where
  | ok (r : Rv) (outs : List Rv)
  | ex (c : Nat) (fs : List D) (outs : List Rv)
  | bad
/-- flow of a statement -/
inductive Fl where
  | nx (r : Rho)
  | rt (v : Rv) (r : Rho)
  | bk (r : Rho)
  | ct (r : Rho)
  | ex (c : Nat) (fs : List D) (r : Rho)
  | bad
inductive OV where
  | d (x : D)
  | sl (i : Nat)
  | io (i : Nat)

def Res.bind {α β : Type} (x : Res α) (f : α → Rho → Res β) : Res β := match x with
  | .ok a r => f a r
  | .ex c fs r => .ex c fs r
  | .bad => .bad
def Res.map {α β : Type} (f : α → β) (x : Res α) : Res β := match x with
  | .ok a r => .ok (f a) r
  | .ex c fs r => .ex c fs r
  | .bad => .bad
def Res.fl (x : Res α) (f : α → Rho → Fl) : Fl := match x with
  | .ok a r => f a r
  | .ex c fs r => .ex c fs r
  | .bad => .bad
/-- a step that may get stuck -/
def Res.opt {α : Type} (x : Option α) (r : Rho) : Res α := match x with
  | some a => .ok a r
  | none => .bad

/-! ### freezing -/
def fzO : Ow → D
  | .lst xs => .list xs
mutual
def fz : Rv → D
  | .fr d => d
  | .ow o => fzO o
  | .tp rs => .tuple (fzs rs)
def fzs : List Rv → List D
  | [] => []
  | r :: rs => fz r :: fzs rs
end
/-- a tuple of parts: plain data where all parts are -/
def allFr : List Rv → Option (List D)
  | [] => some []
  | .fr d :: rs => (allFr rs).map (d :: ·)
  | _ :: _ => none
def mkTp (rs : List Rv) : Rv := match allFr rs with
  | some ds => .fr (.tuple ds)
  | none => .tp rs
mutual
/-- no list lies within -/
def noL : D → Bool
  | .none | .bool _ | .int _ | .str _ => true
  | .list _ | .dict _ => false
  | .tuple xs => noLs xs
def noLs : List D → Bool
  | [] => true
  | x :: xs => noL x && noLs xs
end
mutual
def noLR : Rv → Bool
  | .fr d => noL d
  | .ow (.lst xs) => noLs xs
  | .tp rs => noLRs rs
def noLRs : List Rv → Bool
  | [] => true
  | r :: rs => noLR r && noLRs rs
end

/-! ### operations on data -/
def mulOk (i j : Int) : Bool := decide (-(2 ^ 64) < i ∧ i < 2 ^ 64) || decide (-(2 ^ 64) < j ∧ j < 2 ^ 64) || decide (i.natAbs < 2 ^ 256 ∧ j.natAbs < 2 ^ 256)
def divOk (j : Int) : Bool := decide (0 < j ∧ j < 2 ^ 256)
def powOk (i j : Int) : Bool := decide (0 ≤ j ∧ j ≤ 1000000 ∧ i.natAbs < 2 ^ 64)
def lenOk (n : Nat) : Bool := decide (n ≤ sizeLine)
def binD : BOp → D → D → Option Rv
  | .add, .int i, .int j => some (.fr (.int (i + j)))
  | .add, .list xs, .list ys => if lenOk (xs.length + ys.length) then some (.ow (.lst (xs ++ ys))) else none
  | .add, .tuple xs, .tuple ys => if lenOk (xs.length + ys.length) then some (.fr (.tuple (xs ++ ys))) else none
  | .sub, .int i, .int j => some (.fr (.int (i - j)))
  | .mul, .int i, .int j => if mulOk i j then some (.fr (.int (i * j))) else none
  | .fdiv, .int i, .int j => if divOk j then some (.fr (.int (i / j))) else none
  | .mod, .int i, .int j => if decide (0 < j) then some (.fr (.int (i % j))) else none
  | .mul, .tuple xs, .int k => if decide (1 ≤ k) && decide (k ≤ 1000) && decide (xs.length ≤ 1000) && !xs.isEmpty then some (.fr (.tuple (List.replicate k.toNat xs).flatten)) else none
  | .pow, .int i, .int j => if powOk i j then some (.fr (.int (i ^ j.toNat))) else none
  | _, _, _ => none
/-- how deep a comparison may go -/
def shal (a b : D) : Bool := decide (min a.depth b.depth ≤ 60)
def ordOk (a b : D) : Bool := PySem.W.alike a b && (match a with | .none => false | _ => true) && shal a b
def memD (x : D) (xs : List D) : Bool := xs.any fun y => PyData.eqv y x
def memOk (x : D) (xs : List D) : Bool := decide (min (PyData.depthAll xs) x.depth ≤ 60)
def cmpD : COp → D → D → Option Bool
  | .eq, a, b => if shal a b then some (PyData.eqv a b) else none
  | .ne, a, b => if shal a b then some (!PyData.eqv a b) else none
  | .lt, a, b => if ordOk a b then some (PySem.W.dataLt a b) else none
  | .gt, a, b => if ordOk a b then some (PySem.W.dataLt b a) else none
  | .le, a, b => if ordOk a b then some (!PySem.W.dataLt b a) else none
  | .ge, a, b => if ordOk a b then some (!PySem.W.dataLt a b) else none
  | .mem, x, .list xs => if memOk x xs then some (memD x xs) else none
  | .mem, x, .tuple xs => if memOk x xs then some (memD x xs) else none
  | .nmem, x, .list xs => if memOk x xs then some (!memD x xs) else none
  | .nmem, x, .tuple xs => if memOk x xs then some (!memD x xs) else none
  | _, _, _ => none
def truD : D → Option Bool
  | .none => some false
  | .bool b => some b
  | .int i => some (i != 0)
  | .str x => if lenOk x.length then some (x.length != 0) else none
  | .list xs => some (!xs.isEmpty)
  | .tuple xs => some (!xs.isEmpty)
  | .dict _ => none
def idxD : D → D → Option D
  | .list xs, .int i => L2.atI xs i
  | .tuple xs, .int i => L2.atI xs i
  | _, _ => none
def cutD (xs : List D) (lo hi : Option Int) : List D := (xs.drop (HT.sIx xs.length 0 lo)).take (HT.sIx xs.length xs.length hi - HT.sIx xs.length 0 lo)
def slcD : D → Option Int → Option Int → Option Rv
  | .list xs, lo, hi => some (.ow (.lst (cutD xs lo hi)))
  | .tuple xs, lo, hi => some (.fr (.tuple (cutD xs lo hi)))
  | _, _, _ => none
def intsOf : List D → Option (List Int)
  | [] => some []
  | .int i :: r => (intsOf r).map (i :: ·)
  | _ :: _ => none
def lstI : D → Option (List Int)
  | .list xs => intsOf xs
  | _ => none
/-- sorted, each once -/
def insU (x : Int) : List Int → List Int
  | [] => [x]
  | y :: ys => if x < y then x :: y :: ys else if x = y then y :: ys else y :: insU x ys
def sortU : List Int → List Int
  | [] => []
  | x :: xs => insU x (sortU xs)
def allAlike (xs : List D) : Bool := xs.all fun x => xs.all fun y => PySem.W.alike x y
def noNone (xs : List D) : Bool := xs.all fun x => match x with | .none => false | _ => true
def sortable (xs : List D) : Bool := (xs.all fun x => match x with | .tuple (_ :: _) => true | _ => false) || (xs.all fun x => match x with | .none => false | .tuple _ => false | _ => true)
def allShal (xs : List D) : Bool := xs.all fun x => decide (x.depth ≤ 60)
def sortOk (xs : List D) : Bool := allAlike xs && sortable xs && allShal xs && lenOk xs.length
def sortD (xs : List D) : List D := xs.mergeSort fun a b => !PySem.W.dataLt b a
def boolsOf : List D → Option (List Bool)
  | [] => some []
  | .bool b :: r => (boolsOf r).map (b :: ·)
  | _ :: _ => none
def maxI : List Int → Option Rv
  | [] => none
  | n :: ns => some (.fr (.int (ns.foldl max n)))
def minI : List Int → Option Rv
  | [] => none
  | n :: ns => some (.fr (.int (ns.foldl min n)))
def strI (i : Int) : Option Rv := if decide (i.natAbs < 2 ^ 1900) then some (.fr (.str (toString i))) else none
def bi1 : Bi → D → Option Rv
  | .len, .list xs => some (.fr (.int xs.length))
  | .len, .tuple xs => some (.fr (.int xs.length))
  | .len, .str x => if lenOk x.length then some (.fr (.int x.length)) else none
  | .abs, .int i => some (.fr (.int (if i < 0 then -i else i)))
  | .int, .int i => some (.fr (.int i))
  | .int, .bool b => some (.fr (.int (if b then 1 else 0)))
  | .str, .int i => strI i
  | .sum, .list xs => (intsOf xs).map fun ns => .fr (.int ns.sum)
  | .max, .list xs => (intsOf xs).bind maxI
  | .max, .tuple xs => (intsOf xs).bind maxI
  | .min, .list xs => (intsOf xs).bind minI
  | .min, .tuple xs => (intsOf xs).bind minI
  | .all, .list xs => (boolsOf xs).map fun bs => .fr (.bool (bs.all id))
  | .any, .list xs => (boolsOf xs).map fun bs => .fr (.bool (bs.any id))
  | .sorted, .list xs => if sortOk xs then some (.ow (.lst (sortD xs))) else none
  | .sorted, .tuple xs => if sortOk xs then some (.ow (.lst (sortD xs))) else none
  | .tuple, .list xs => some (.fr (.tuple xs))
  | .tuple, .tuple xs => some (.fr (.tuple xs))
  | .list, .list xs => some (.ow (.lst xs))
  | .list, .tuple xs => some (.ow (.lst xs))
  | _, _ => none
def bi2 : Bi → D → D → Option Rv
  | .max2, .int i, .int j => some (.fr (.int (if j > i then j else i)))
  | .min2, .int i, .int j => some (.fr (.int (if j < i then j else i)))
  | _, _, _ => none
def biD (b : Bi) : List D → Option Rv
  | [d] => bi1 b d
  | [d, e] => bi2 b d e
  | _ => none
def pmV : Pm → Option D → Bool
  | .lcount, some (.list _) => true
  | .tcount, some (.tuple _) => true
  | .lindex, some (.list _) => true
  | .tindex, some (.tuple _) => true
  | _, _ => false
def metD : Pm → D → List D → Option D
  | .lcount, .list xs, [d] => if memOk d xs then some (.int ((xs.countP fun y => PyData.eqv y d : Nat) : Int)) else none
  | .tcount, .tuple xs, [d] => if memOk d xs then some (.int ((xs.countP fun y => PyData.eqv y d : Nat) : Int)) else none
  | .lindex, .list xs, [d] => if memOk d xs then (xs.findIdx? fun y => PyData.eqv y d).map fun (i : Nat) => .int (i : Int) else none
  | .tindex, .tuple xs, [d] => if memOk d xs then (xs.findIdx? fun y => PyData.eqv y d).map fun (i : Nat) => .int (i : Int) else none
  | _, _, _ => none
def isiD : D → Ty → Bool
  | .int _, .int => true
  | .bool _, .int => true
  | .bool _, .bool => true
  | .str _, .str => true
  | .tuple _, .tuple => true
  | .list _, .list => true
  | _, _ => false

/-! ### reading slots -/
def vw (r : Rho) : OV → Option D
  | .d x => some x
  | .sl i => match r[i]? with
    | some (some (.fr d)) => some d
    | some (some (.ow (.lst xs))) => some (.list xs)
    | _ => none
  | .io _ => none
def vws (r : Rho) : List OV → Option (List D)
  | [] => some []
  | o :: os => match vw r o, vws r os with
    | some d, some ds => some (d :: ds)
    | _, _ => none
/-- an operand -/
def asO (e : E) (x : Res Rv) (r : Rho) : Res OV := match e with
  | .bo i => match r[i]? with
    | some (some _) => .ok (.sl i) r
    | _ => .bad
  | .io i => match r[i]? with
    | some (some _) => .ok (.io i) r
    | _ => .bad
  | _ => x.map fun v => .d (fz v)

def isNn : D → Bool
  | .none => true
  | _ => false
/-- frozen operands -/
def dsO : List OV → Option (List D)
  | [] => some []
  | .d x :: os => (dsO os).map (x :: ·)
  | _ :: _ => none
/-! ### calls -/
abbrev Call := Nat → List Rv → FRes
/-- what the callee is handed -/
def handO (r : Rho) : OV → Option Rv
  | .d x => some (.fr x)
  | .sl i => match r[i]? with
    | some (some (.fr d)) => some (.fr d)
    | some (some (.ow (.lst xs))) => some (.fr (.list xs))
    | _ => none
  | .io i => match r[i]? with
    | some (some (.ow o)) => some (.ow o)
    | _ => none
def hand (r : Rho) : List OV → Option (List Rv)
  | [] => some []
  | o :: os => match handO r o, hand r os with
    | some v, some vs => some (v :: vs)
    | _, _ => none
def isOwS (r : Rho) (i : Nat) : Bool := match r[i]? with
  | some (some (.ow _)) => true
  | _ => false
/-- the slots that are lent, the slots that are changed -/
def lent (r : Rho) : List OV → List Nat
  | [] => []
  | .sl i :: os => if isOwS r i then i :: lent r os else lent r os
  | _ :: os => lent r os
def lentIo : List OV → List Nat
  | [] => []
  | .io i :: os => i :: lentIo os
  | _ :: os => lentIo os
def setAll (r : Rho) : List Nat → List Rv → Rho
  | i :: is, v :: vs => (setAll r is vs).set i (some v)
  | _, _ => r
def slO : List OV → List Nat
  | [] => []
  | .sl i :: os => i :: slO os
  | _ :: os => slO os
def nodupB : List Nat → Bool
  | [] => true
  | i :: is => !is.contains i && nodupB is
/-- a call -/
def callO (call : Call) (f : Nat) (os : List OV) (r : Rho) : Res Rv :=
  if nodupB (lentIo os) && (slO os).all (fun i => !(lentIo os).contains i) then
    match hand r os with
    | some vs => match call f vs with
      | .ok v outs => if ((lent r os).isEmpty || (noLR v && outs.all noLR)) && decide (outs.length = (lentIo os).length) then .ok v (setAll r (lentIo os) outs) else .bad
      | .ex c fs outs => if ((lent r os).isEmpty || outs.all noLR) && decide (outs.length = (lentIo os).length) then .ex c fs (setAll r (lentIo os) outs) else .bad
      | .bad => .bad
    | none => .bad
  else .bad

/-! ### targets -/
mutual
def slT : Tg → List Nat
  | .n i => [i]
  | .t ts => slTs ts
def slTs : List Tg → List Nat
  | [] => []
  | u :: us => slT u ++ slTs us
end
mutual
/-- a datum to a target -/
def bindT : Tg → D → Rho → Option Rho
  | .n i, d, r => if i < r.length then some (r.set i (some (.fr d))) else none
  | .t ts, .tuple ds, r => bindTs ts ds r
  | .t _, _, _ => none
def bindTs : List Tg → List D → Rho → Option Rho
  | [], [], r => some r
  | t :: ts, d :: ds, r => match bindT t d r with
    | some r' => bindTs ts ds r'
    | none => none
  | _, _, _ => none
end
mutual
/-- a result to a target -/
def bindV : Tg → Rv → Rho → Option Rho
  | .n i, v, r => if i < r.length then some (r.set i (some v)) else none
  | .t ts, .tp vs, r => bindVs ts vs r
  | .t ts, .fr (.tuple ds), r => bindTs ts ds r
  | .t _, _, _ => none
def bindVs : List Tg → List Rv → Rho → Option Rho
  | [], [], r => some r
  | t :: ts, v :: vs, r => match bindV t v r with
    | some r' => bindVs ts vs r'
    | none => none
  | _, _, _ => none
end
/-- slots forgotten; none of them owns -/
def wipeR (r : Rho) : List Nat → Rho
  | [] => r
  | i :: is => (wipeR r is).set i none
def noOwn (r : Rho) (is : List Nat) : Bool := is.all fun i => match r[i]? with
  | some (some (.fr _)) => true
  | some none => true
  | _ => false
def backR (r0 r : Rho) : List Nat → Rho
  | [] => r
  | i :: is => match r0[i]? with
    | some x => (backR r0 r is).set i x
    | none => backR r0 r is

/-! ### what a loop walks -/
def rangeD (lo hi : Int) : Option (List D) := some ((List.range (hi - lo).toNat).map fun (i : Nat) => .int (lo + i))
def intsD (i : Int) : List D := (List.range i.toNat).map fun (k : Nat) => .int (k : Int)
def itemsD : D → Option (List D)
  | .list xs => some xs
  | .tuple xs => some xs
  | _ => none
def enuD (xs : List D) : List D := xs.mapIdx fun i x => .tuple [.int i, x]
def zpD (xs ys : List D) : List D := List.zipWith (fun x y => .tuple [x, y]) xs ys
/-- the items, the slots that lend them; whether it is a list -/
structure Itm where
  xs : List D
  sl : List Nat
  ls : Bool
def isLD : D → Bool
  | .list _ => true
  | _ => false
def seqOf (r : Rho) (o : OV) : Option Itm := match o with
  | .d x => (itemsD x).map fun xs => ⟨xs, [], isLD x⟩
  | .sl i => match r[i]? with
    | some (some (.fr d)) => (itemsD d).map fun xs => ⟨xs, [], isLD d⟩
    | some (some (.ow (.lst xs))) => some ⟨xs, [i], true⟩
    | _ => none
  | .io _ => none
def enuI (r : Rho) (o : OV) : Option Itm := (seqOf r o).bind fun m => if m.ls then some ⟨enuD m.xs, m.sl, true⟩ else none
def zpI (r : Rho) (o p : OV) : Option Itm := match seqOf r o, seqOf r p with
  | some m, some n => if m.sl.isEmpty && n.sl.isEmpty && (m.ls == n.ls) then some ⟨zpD m.xs n.xs, [], true⟩ else none
  | _, _ => none
def intV (r : Rho) (o : OV) : Option Int := match vw r o with
  | some (.int i) => some i
  | _ => none

/-! ### loops -/
/-- a list built item by item: the target, the test, the element -/
def lcLoop (tg : Tg) (c : Rho → Res Bool) (elt : Rho → Res Rv) : List D → Rho → List D → Res (List D)
  | [], r, acc => .ok acc r
  | x :: xs, r, acc => match bindT tg x r with
    | some r1 => (c r1).bind fun b r2 => if b then (elt r2).bind fun v r3 => if acc.length < sizeLine then lcLoop tg c elt xs (wipeR r3 (slT tg)) (acc ++ [fz v]) else .bad else lcLoop tg c elt xs (wipeR r2 (slT tg)) acc
    | none => .bad
/-- a list comprehension: own slots set aside, the lent ones hidden -/
def lcRun (tg : Tg) (c : Rho → Res Bool) (elt : Rho → Res Rv) (m : Itm) (r : Rho) : Res Rv :=
  if noOwn r (slT tg) && m.sl.all (fun i => !(slT tg).contains i) then
    match lcLoop tg c elt m.xs (wipeR (wipeR r m.sl) (slT tg)) [] with
    | .ok acc r' => .ok (.ow (.lst acc)) (backR r (backR r r' (slT tg)) m.sl)
    | _ => .bad
  else .bad
/-- two clauses: all targets' slots are vs -/
def lc2Loop (t t2 : Tg) (vs : List Nat) (src : Rho → Res Itm) (elt : Rho → Res Rv) : List D → Rho → List D → Res (List D)
  | [], r, acc => .ok acc r
  | x :: xs, r, acc => match bindT t x r with
    | some r1 => (src r1).bind fun m r2 => if m.sl.isEmpty then (lcLoop t2 (fun r => .ok true r) elt m.xs (wipeR r2 (slT t2)) acc).bind fun acc' r3 => lc2Loop t t2 vs src elt xs (wipeR r3 vs) acc' else .bad
    | none => .bad
def lc2Run (t t2 : Tg) (src : Rho → Res Itm) (elt : Rho → Res Rv) (m : Itm) (r : Rho) : Res Rv :=
  if noOwn r (slT t ++ slT t2) && m.sl.all (fun i => !(slT t ++ slT t2).contains i) then
    match lc2Loop t t2 (slT t ++ slT t2) src elt m.xs (wipeR (wipeR r m.sl) (slT t ++ slT t2)) [] with
    | .ok acc r' => .ok (.ow (.lst acc)) (backR r (backR r r' (slT t ++ slT t2)) m.sl)
    | _ => .bad
  else .bad
def forLoop (tg : Tg) (body : Rho → Fl) : List D → Rho → Fl
  | [], r => .nx r
  | x :: xs, r => match bindT tg x r with
    | some r1 => match body r1 with
      | .nx r2 => forLoop tg body xs r2
      | .ct r2 => forLoop tg body xs r2
      | .bk r2 => .nx r2
      | f => f
    | none => .bad
def Fl.map (f : Rho → Rho) : Fl → Fl
  | .nx r => .nx (f r)
  | .rt v r => .rt v (f r)
  | .bk r => .bk (f r)
  | .ct r => .ct (f r)
  | .ex c fs r => .ex c fs (f r)
  | .bad => .bad
/-- a loop over lent slots: they are hidden meanwhile -/
def forRun (tg : Tg) (body : Rho → Fl) (m : Itm) (r : Rho) : Fl :=
  if m.sl.all (fun i => !(slT tg).contains i) then (forLoop tg body m.xs (wipeR r m.sl)).map fun r' => backR r r' m.sl else .bad
def whLoop (c : Rho → Res Bool) (body : Rho → Fl) : Nat → Rho → Fl
  | 0, _ => .bad
  | n + 1, r => (c r).fl fun b r1 => if b then match body r1 with
      | .nx r2 => whLoop c body n r2
      | .ct r2 => whLoop c body n r2
      | .bk r2 => .nx r2
      | f => f
    else .nx r1

/-! ### expressions -/
/-- what code leans on: the calls, the module's constants, the fuel of while -/
structure Cf where
  call : Call
  G : List D
  w : Nat
  /-- the classes of errors: does it bear its argument; is the first one below the second one -/
  bears : Nat → Bool
  sub : Nat → Nat → Option Bool
  /-- the error that is handled -/
  cur : Nat
  curf : List D
def tstO (e : E) (x : Res Rv) (r : Rho) : Res Bool := (asO e x r).bind fun o r1 => .opt ((vw r1 o).bind truD) r1
mutual
def evE (C : Cf) : E → Rho → Res Rv
  | .k d, r => .ok (.fr d) r
  | .g j, r => .opt (C.G[j]?.map .fr) r
  | .v i, r => match r[i]? with
    | some (some v) => match v with
      | .fr d => .ok (.fr d) r
      | v => .ok (.fr (fz v)) (r.set i (some (.fr (fz v))))
    | _ => .bad
  | .mv i, r => match r[i]? with
    | some (some v) => .ok v (r.set i none)
    | _ => .bad
  | .bo _, _ => .bad
  | .io _, _ => .bad
  | .tup es, r => (evVs C es r).bind fun vs r1 => if lenOk vs.length then .ok (mkTp vs) r1 else .bad
  | .lst es, r => (evOs C es r).bind fun os r1 => match dsO os with
    | some ds => if lenOk ds.length then .ok (.ow (.lst ds)) r1 else .bad
    | none => .bad
  | .bin o a b, r => (asO a (evE C a r) r).bind fun x r1 => (asO b (evE C b r1) r1).bind fun y r2 => match vw r2 x, vw r2 y with
    | some d, some e => .opt (binD o d e) r2
    | _, _ => .bad
  | .neg a, r => (asO a (evE C a r) r).bind fun x r1 => match vw r1 x with
    | some (.int i) => .ok (.fr (.int (-i))) r1
    | _ => .bad
  | .cmp o a b, r => (asO a (evE C a r) r).bind fun x r1 => (asO b (evE C b r1) r1).bind fun y r2 => match vw r2 x, vw r2 y with
    | some d, some e => .opt ((cmpD o d e).map fun c => .fr (.bool c)) r2
    | _, _ => .bad
  | .chain o p a b c, r => (asO a (evE C a r) r).bind fun x r1 => (asO b (evE C b r1) r1).bind fun y r2 => match vw r2 x, vw r2 y with
    | some d, some e => match cmpD o d e with
      | some true => (asO c (evE C c r2) r2).bind fun z r3 => match vw r3 y, vw r3 z with
        | some e, some f => .opt ((cmpD p e f).map fun c => .fr (.bool c)) r3
        | _, _ => .bad
      | some false => .ok (.fr (.bool false)) r2
      | none => .bad
    | _, _ => .bad
  | .isN a, r => (asO a (evE C a r) r).bind fun x r1 => match vw r1 x with
    | some d => .ok (.fr (.bool (isNn d))) r1
    | none => .bad
  | .notN a, r => (asO a (evE C a r) r).bind fun x r1 => match vw r1 x with
    | some d => .ok (.fr (.bool (!isNn d))) r1
    | none => .bad
  | .and a b, r => (asO a (evE C a r) r).bind fun x r1 => match vw r1 x with
    | some (.bool c) => if c then evE C b r1 else .ok (.fr (.bool false)) r1
    | _ => .bad
  | .or a b, r => (asO a (evE C a r) r).bind fun x r1 => match vw r1 x with
    | some (.bool c) => if c then .ok (.fr (.bool true)) r1 else evE C b r1
    | _ => .bad
  | .not a, r => (tstO a (evE C a r) r).bind fun c r1 => .ok (.fr (.bool (!c))) r1
  | .ite t a b, r => (tstO t (evE C t r) r).bind fun c r1 => if c then evE C a r1 else evE C b r1
  | .idx a i, r => (asO a (evE C a r) r).bind fun x r1 => (asO i (evE C i r1) r1).bind fun y r2 => match vw r2 x, vw r2 y with
    | some d, some e => .opt ((idxD d e).map .fr) r2
    | _, _ => .bad
  | .slc a lo hi, r => (asO a (evE C a r) r).bind fun x r1 => (evP C lo r1).bind fun l r2 => (evP C hi r2).bind fun h r3 => match vw r3 x with
    | some d => .opt (slcD d l h) r3
    | none => .bad
  | .call f es, r => (evOs C es r).bind fun os r1 => callO C.call f os r1
  | .bi b es, r => (evOs C es r).bind fun os r1 => match vws r1 os with
    | some ds => .opt (biD b ds) r1
    | none => .bad
  | .isi a t, r => (asO a (evE C a r) r).bind fun x r1 => match vw r1 x with
    | some d => .ok (.fr (.bool (isiD d t))) r1
    | none => .bad
  | .met m a es, r => (asO a (evE C a r) r).bind fun x r1 => if pmV m (vw r1 x) then (evOs C es r1).bind fun os r2 => match vw r2 x, vws r2 os with
      | some d, some ds => .opt ((metD m d ds).map .fr) r2
      | _, _ => .bad
    else .bad
  | .isB b a, r => (asO a (evE C a r) r).bind fun x r1 => match vw r1 x with
    | some (.bool c) => .ok (.fr (.bool (decide (c = b)))) r1
    | _ => .bad
  | .rl tp a, r => (asO a (evE C a r) r).bind fun x r1 => match intV r1 x with
    | some i => if decide (i ≤ 1000) && decide (0 ≤ i) then .ok (if tp then .fr (.tuple (intsD i)) else .ow (.lst (intsD i))) r1 else .bad
    | none => .bad
  | .ss a, r => (asO a (evE C a r) r).bind fun x r1 => match (vw r1 x).bind lstI with
    | some ns => if decide (ns.length < 64) then .ok (.ow (.lst ((sortU ns).map .int))) r1 else .bad
    | none => .bad
  | .isX c, r => match C.sub C.cur c with
    | some b => .ok (.fr (.bool b)) r
    | none => .bad
  | .rng1 _, _ => .bad
  | .rng2 _ _, _ => .bad
  | .enu _, _ => .bad
  | .zp _ _, _ => .bad
  | .itr _, _ => .bad
  | .lc t it elt, r => (evI C it r).bind fun m r1 => lcRun t (fun r => .ok true r) (evE C elt) m r1
  | .lci t it c elt, r => (evI C it r).bind fun m r1 => lcRun t (fun r => tstO c (evE C c r) r) (evE C elt) m r1
  | .lc2 t it t2 it2 elt, r => (evI C it r).bind fun m r1 => lc2Run t t2 (evI C it2) (evE C elt) m r1
def evOs (C : Cf) : List E → Rho → Res (List OV)
  | [], r => .ok [] r
  | e :: es, r => (asO e (evE C e r) r).bind fun x r1 => (evOs C es r1).bind fun xs r2 => .ok (x :: xs) r2
/-- the parts of a tuple, which may own -/
def evVs (C : Cf) : List E → Rho → Res (List Rv)
  | [], r => .ok [] r
  | e :: es, r => (evE C e r).bind fun x r1 => (evVs C es r1).bind fun xs r2 => .ok (x :: xs) r2
def evP (C : Cf) : Option E → Rho → Res (Option Int)
  | none, r => .ok none r
  | some e, r => (asO e (evE C e r) r).bind fun x r1 => .opt ((intV r1 x).map some) r1
def evI (C : Cf) : E → Rho → Res Itm
  | .rng1 a, r => (asO a (evE C a r) r).bind fun x r1 => match intV r1 x with
    | some i => .opt ((rangeD 0 i).map fun xs => ⟨xs, [], true⟩) r1
    | none => .bad
  | .rng2 a b, r => (asO a (evE C a r) r).bind fun x r1 => (asO b (evE C b r1) r1).bind fun y r2 => match intV r2 x, intV r2 y with
    | some i, some j => .opt ((rangeD i j).map fun xs => ⟨xs, [], true⟩) r2
    | _, _ => .bad
  | .enu a, r => (asO a (evE C a r) r).bind fun x r1 => .opt (enuI r1 x) r1
  | .zp a b, r => (asO a (evE C a r) r).bind fun x r1 => (asO b (evE C b r1) r1).bind fun y r2 => .opt (zpI r2 x y) r2
  | .itr e, r => (asO e (evE C e r) r).bind fun x r1 => .opt (seqOf r1 x) r1
  | _, _ => .bad
end

/-- a test -/
def evT (C : Cf) : E → Rho → Res Bool
  | .and a b, r => (evT C a r).bind fun c r1 => if c then evT C b r1 else .ok false r1
  | .or a b, r => (evT C a r).bind fun c r1 => if c then .ok true r1 else evT C b r1
  | .not a, r => (evT C a r).bind fun c r1 => .ok (!c) r1
  | e, r => tstO e (evE C e r) r
def freeT (io : List Nat) (t : Tg) : Bool := (slT t).all fun i => !io.contains i
def scal : D → Bool
  | .none | .bool _ | .int _ | .str _ => true
  | _ => false
def setN (r : Rho) (v : Rv) : List Nat → Rho
  | [] => r
  | i :: is => setN (r.set i (some v)) v is
/-- in-place operations on ints -/
def augD : BOp → Int → Int → Option Int
  | .add, i, j => some (i + j)
  | .sub, i, j => some (i - j)
  | _, _, _ => none
/-- methods that change a list -/
def mtD : Mt → List D → List D → Option (List D)
  | .append, xs, [d] => if xs.length < sizeLine then some (xs ++ [d]) else none
  | .insert, xs, [.int k, d] => if decide (0 ≤ k) && decide (k ≤ xs.length) && decide (xs.length < sizeLine) then some (xs.take k.toNat ++ d :: xs.drop k.toNat) else none
  | .pop, xs, [] => if xs.isEmpty then none else some xs.dropLast
  | .pop, xs, [.int k] => (L2.ixN xs.length k).map fun j => xs.eraseIdx j
  | .reverse, xs, [] => some xs.reverse
  | .clear, _, [] => some []
  | _, _, _ => none
def hasS (r : Rho) (i : Nat) : Bool := match r[i]? with
  | some (some _) => true
  | _ => false
/-- a list's item is stored -/
def stoF (i : Nat) (r : Rho) (x : OV) (n : Option Int) : Fl := match x with
  | .d d => match n with
    | some n => match r[i]? with
      | some (some (.ow (.lst xs))) => match L2.ixN xs.length n with
        | some j => .nx (r.set i (some (.ow (.lst (xs.set j d)))))
        | none => .bad
      | _ => .bad
    | none => .bad
  | _ => .bad
def noEx : Fl → Fl
  | .ex _ _ _ => .bad
  | f => f
def pickH (C : Cf) (c : Nat) (d : Fl) : List (Nat × Fl) → Fl
  | [] => d
  | (h, f) :: r => match C.sub c h with
    | some true => noEx f
    | some false => pickH C c d r
    | none => .bad
def pickA (x : Option Bool) (f d : Fl) : Fl := match x with
  | some true => noEx f
  | some false => d
  | none => .bad
mutual
def evS (C : Cf) : List Nat → S → Rho → Fl
  | io, .asg t e, r => (evE C e r).fl fun v r1 => if freeT io t then (match bindV t v r1 with
    | some r2 => .nx r2
    | none => .bad) else .bad
  | io, .par i j a b, r => (evE C a r).fl fun x r1 => (evE C b r1).fl fun y r2 => if !io.contains i && !io.contains j && decide (i ≠ j) && decide (i < r2.length) && decide (j < r2.length) then .nx ((r2.set i (some x)).set j (some y)) else .bad
  | io, .asgs is e, r => (evE C e r).fl fun v r1 => match v with
    | .fr d => if scal d && is.all (fun i => !io.contains i && decide (i < r1.length)) then .nx (setN r1 v is) else .bad
    | _ => .bad
  | io, .sto i k e, r => (asO e (evE C e r) r).fl fun x r1 => if !hasS r1 i then .bad else (asO k (evE C k r1) r1).fl fun y r2 => stoF i r2 x (intV r2 y)
  | io, .aug i o e, r => if !hasS r i then .bad else (asO e (evE C e r) r).fl fun x r1 => match r1[i]?, intV r1 x with
    | some (some (.fr (.int m))), some n => match augD o m n with
      | some z => if !io.contains i then .nx (r1.set i (some (.fr (.int z)))) else .bad
      | none => .bad
    | _, _ => .bad
  | io, .augl i e, r => if !hasS r i then .bad else (evE C e r).fl fun v r1 => match v, r1[i]? with
    | .ow (.lst ys), some (some (.ow (.lst xs))) => if lenOk (xs.length + ys.length) then .nx (r1.set i (some (.ow (.lst (xs ++ ys))))) else .bad
    | _, _ => .bad
  | io, .mth m i es, r => if !isOwS r i then .bad else (evOs C es r).fl fun os r1 => match r1[i]?, dsO os with
    | some (some (.ow (.lst xs))), some ds => match mtD m xs ds with
      | some ys => .nx (r1.set i (some (.ow (.lst ys))))
      | none => .bad
    | _, _ => .bad
  | io, .ex e, r => (evE C e r).fl fun _ r1 => .nx r1
  | io, .ret e, r => (evE C e r).fl fun v r1 => .rt v r1
  | io, .retN, r => .rt (.fr .none) r
  | io, .never, r => .bad
  | io, .pass, r => .nx r
  | io, .brk, r => .bk r
  | io, .cont, r => .ct r
  | io, .ife t a b, r => (evT C t r).fl fun c r1 => if c then evSs C io a r1 else evSs C io b r1
  | io, .whl t b, r => whLoop (evT C t) (evSs C io b) C.w r
  | io, .forr t it b, r => (evI C it r).fl fun m r1 => if freeT io t then forRun t (evSs C (io ++ m.sl) b) m r1 else .bad
  | io, .rais c e, r => (asO e (evE C e r) r).fl fun x r1 => match vw r1 x with
    | some d => if scal d then .ex c (if C.bears c then [d] else []) r1 else .bad
    | none => .bad
  | io, .tryx b hs, r => match evSs C io b r with
    | .ex c fs r1 => pickH C c (.ex c fs r1) (evHs C io hs r1)
    | f => f
  | io, .trya b k i h, r => match evSs C io b r with
    | .ex c fs r1 => if io.contains i || !fs.isEmpty || !decide (i < r1.length) then .bad else pickA (C.sub c k) ((evSs ⟨C.call, C.G, C.w, C.bears, C.sub, c, fs⟩ (i :: io) h (r1.set i none)).map fun r' => r'.set i none) (.ex c fs r1)
    | f => f
def evSs (C : Cf) : List Nat → List S → Rho → Fl
  | io, [], r => .nx r
  | io, s :: ss, r => match evS C io s r with
    | .nx r1 => evSs C io ss r1
    | f => f
def evHs (C : Cf) : List Nat → List (Nat × List S) → Rho → List (Nat × Fl)
  | io, [], _ => []
  | io, (c, b) :: hs, r => (c, evSs C io b r) :: evHs C io hs r
end
/-! ### functions -/
structure Fd where
  /-- parameters, slots in all -/
  np : Nat
  ns : Nat
  body : List S
def owIx : List Rv → Nat → List Nat
  | [], _ => []
  | .ow _ :: r, i => i :: owIx r (i + 1)
  | _ :: r, i => owIx r (i + 1)
def outsOf (r : Rho) : List Nat → Option (List Rv)
  | [] => some []
  | i :: is => match r[i]?, outsOf r is with
    | some (some v), some vs => match v with
      | .tp _ => none
      | _ => some (v :: vs)
    | _, _ => none
def okTp : Rv → Bool
  | .tp _ => false
  | _ => true
def runFn (C : Cf) (fd : Fd) (vs : List Rv) : FRes :=
  if decide (vs.length = fd.np) && decide (fd.np ≤ fd.ns) && vs.all okTp then
    match evSs C (owIx vs 0) fd.body (vs.map some ++ List.replicate (fd.ns - vs.length) none) with
    | .nx r => match outsOf r (owIx vs 0) with
      | some os => .ok (.fr .none) os
      | none => .bad
    | .rt v r => match outsOf r (owIx vs 0) with
      | some os => .ok v os
      | none => .bad
    | .ex c fs r => match outsOf r (owIx vs 0) with
      | some os => .ex c fs os
      | none => .bad
    | _ => .bad
  else .bad
structure Pg where
  fs : List Fd
  G : List D
  bears : Nat → Bool
  sub : Nat → Nat → Option Bool
  w : Nat
def callF (p : Pg) : Nat → Call
  | 0 => fun _ _ => .bad
  | n + 1 => fun f vs => match p.fs[f]? with
    | some fd => runFn ⟨callF p n, p.G, p.w, p.bears, p.sub, 0, []⟩ fd vs
    | none => .bad
end Ev

/-! Ev2: how data lie in the abstract heap. -/
namespace Ev
open PySem PySem.Spec PyProof.Rows L2
theorem same_sqt {K : PySem.W.Frag} {H H' : Hp} {a : Addr} {xs : List V} (e : Same H H') (h : SqT K H a xs) : SqT K H' a xs := by
  rcases h with (h | ⟨o, h⟩) | h
  · exact .inl (.inl (e _ _ h))
  · exact .inl (.inr ⟨o, e _ _ h⟩)
  · exact .inr h
/-- a tuple, its object known -/
def GoodT (K : PySem.W.Frag) (H : Hp) (a : Addr) (xs : List V) : Prop :=
  (∃ o : Obj, H a = some (.frz o (.tup xs)) ∧ o.dict = none) ∨ ∃ (o : Obj) (its : Array Value) (n : Nat), K.lookup a = some o ∧ o.dict = none ∧ o.cls = .type "tuple" ∧ o.data = .seq its n ∧ its.size ≤ sizeLine ∧ Vals xs its.toList
theorem GoodT.sqt {K : PySem.W.Frag} {H : Hp} {a : Addr} {xs : List V} (h : GoodT K H a xs) : SqT K H a xs := by
  rcases h with ⟨o, h, _⟩ | ⟨o, its, n, h1, _, h2, h3, h4, h5⟩
  · exact .inl (.inr ⟨o, h⟩)
  · exact .inr ⟨o, its, n, h1, h2, h3, h4, h5⟩
theorem GoodT.mono {K : PySem.W.Frag} {H H' : Hp} {a : Addr} {xs : List V} (e : Same H H') (h : GoodT K H a xs) : GoodT K H' a xs := by
  rcases h with ⟨o, h, d⟩ | h
  · exact .inl ⟨o, e _ _ h, d⟩
  · exact .inr h
mutual
inductive Dp (K : PySem.W.Frag) (H : Hp) : V → PyData → Prop
  | non : Dp K H .non .none
  | bl (b : Bool) : Dp K H (.bl b) (.bool b)
  | int (i : Int) : Dp K H (.int i) (.int i)
  | str (x : Str) : Dp K H (.str x) (.str x)
  | lst {a : Addr} {vs : List V} {es : List PyData} : SqL K H a vs → DpAll K H vs es → Dp K H (.ref a) (.list es)
  | tup {a : Addr} {vs : List V} {es : List PyData} : GoodT K H a vs → DpAll K H vs es → Dp K H (.ref a) (.tuple es)
inductive DpAll (K : PySem.W.Frag) (H : Hp) : List V → List PyData → Prop
  | nil : DpAll K H [] []
  | cons {d : PyData} {v : V} {ds : List PyData} {vs : List V} : Dp K H v d → DpAll K H vs ds → DpAll K H (v :: vs) (d :: ds)
end
mutual
theorem Dp.old {K : PySem.W.Frag} {H : Hp} : ∀ {d : PyData} {v : V}, Dp K H v d → L2.Dp K H v d
  | _, _, .non => .non
  | _, _, .bl b => .bl b
  | _, _, .int i => .int i
  | _, _, .str x => .str x
  | _, _, .lst s r => .lst s (DpAll.old r)
  | _, _, .tup s r => .tup s.sqt (DpAll.old r)
theorem DpAll.old {K : PySem.W.Frag} {H : Hp} : ∀ {ds : List PyData} {vs : List V}, DpAll K H vs ds → L2.DpAll K H vs ds
  | _, _, .nil => .nil
  | _, _, .cons a b => .cons (Dp.old a) (DpAll.old b)
end
mutual
theorem dp_mono {K : PySem.W.Frag} {H H' : Hp} (e : Same H H') : ∀ {d : D} {v : V}, Dp K H v d → Dp K H' v d
  | _, _, .non => .non
  | _, _, .bl b => .bl b
  | _, _, .int i => .int i
  | _, _, .str x => .str x
  | _, _, .lst h r => .lst (e.seq h) (dpAll_mono e r)
  | _, _, .tup h r => .tup (h.mono e) (dpAll_mono e r)
theorem dpAll_mono {K : PySem.W.Frag} {H H' : Hp} (e : Same H H') : ∀ {ds : List D} {vs : List V}, DpAll K H vs ds → DpAll K H' vs ds
  | _, _, .nil => .nil
  | _, _, .cons h r => .cons (dp_mono e h) (dpAll_mono e r)
end
theorem dpAll_len {K : PySem.W.Frag} {H : Hp} : ∀ {vs : List V} {ds : List D}, DpAll K H vs ds → vs.length = ds.length
  | _, _, .nil => rfl
  | _, _, .cons _ r => by rw [List.length_cons, List.length_cons, dpAll_len r]
theorem dpAll_app {K : PySem.W.Frag} {H : Hp} : ∀ {vs ws : List V} {ds es : List D}, DpAll K H vs ds → DpAll K H ws es → DpAll K H (vs ++ ws) (ds ++ es)
  | _, _, _, _, .nil, s => s
  | _, _, _, _, .cons h r, s => .cons h (dpAll_app r s)
theorem dpAll_get {K : PySem.W.Frag} {H : Hp} : ∀ {vs : List V} {ds : List D} {i : Nat} {d : D}, DpAll K H vs ds → ds[i]? = some d → ∃ v, vs[i]? = some v ∧ Dp K H v d
  | _, _, _, _, .nil, e => by simp at e
  | _, _, 0, _, .cons h _, e => by simp at e; subst e; exact ⟨_, rfl, h⟩
  | _, _, i + 1, d, .cons _ r, e => by
    obtain ⟨v, h1, h2⟩ := dpAll_get (i := i) (d := d) r (by simpa using e)
    exact ⟨v, by simpa using h1, h2⟩
theorem dpAll_get' {K : PySem.W.Frag} {H : Hp} : ∀ {vs : List V} {ds : List D} {i : Nat} {v : V}, DpAll K H vs ds → vs[i]? = some v → ∃ d, ds[i]? = some d ∧ Dp K H v d
  | _, _, _, _, .nil, e => by simp at e
  | _, _, 0, _, .cons h _, e => by simp at e; subst e; exact ⟨_, rfl, h⟩
  | _, _, i + 1, v, .cons _ r, e => by
    obtain ⟨d, h1, h2⟩ := dpAll_get' (i := i) (v := v) r (by simpa using e)
    exact ⟨d, by simpa using h1, h2⟩
theorem dpAll_set {K : PySem.W.Frag} {H : Hp} {v : V} {d : D} (h : Dp K H v d) : ∀ {vs : List V} {ds : List D} (i : Nat), DpAll K H vs ds → DpAll K H (vs.set i v) (ds.set i d)
  | _, _, _, .nil => .nil
  | _, _, 0, .cons _ r => .cons h r
  | _, _, i + 1, .cons q r => .cons q (dpAll_set h i r)
theorem dpAll_take {K : PySem.W.Frag} {H : Hp} : ∀ {vs : List V} {ds : List D} (n : Nat), DpAll K H vs ds → DpAll K H (vs.take n) (ds.take n)
  | _, _, 0, _ => .nil
  | _, _, _ + 1, .nil => .nil
  | _, _, n + 1, .cons h r => .cons h (dpAll_take n r)
theorem dpAll_drop {K : PySem.W.Frag} {H : Hp} : ∀ {vs : List V} {ds : List D} (n : Nat), DpAll K H vs ds → DpAll K H (vs.drop n) (ds.drop n)
  | _, _, 0, r => r
  | _, _, _ + 1, .nil => .nil
  | _, _, n + 1, .cons _ r => dpAll_drop n r
theorem dpAll_cut {K : PySem.W.Frag} {H : Hp} {vs : List V} {ds : List D} (h : DpAll K H vs ds) (lo hi : Option Int) : DpAll K H (cutV vs lo hi) (cutD ds lo hi) := by
  unfold cutV cutD
  rw [dpAll_len h]
  exact dpAll_take _ (dpAll_drop _ h)
mutual
theorem dp_plain {K : PySem.W.Frag} {H : Hp} : ∀ {d : D} {v : V}, Dp K H v d → d.plain = true
  | _, _, .non => rfl
  | _, _, .bl _ => rfl
  | _, _, .int _ => rfl
  | _, _, .str _ => rfl
  | _, _, .lst _ r => by simp only [PyData.plain]; exact dpAll_plain r
  | _, _, .tup _ r => by simp only [PyData.plain]; exact dpAll_plain r
theorem dpAll_plain {K : PySem.W.Frag} {H : Hp} : ∀ {ds : List D} {vs : List V}, DpAll K H vs ds → PyData.plainAll ds = true
  | _, _, .nil => rfl
  | _, _, .cons h r => by simp only [PyData.plainAll, dp_plain h, dpAll_plain r, Bool.and_self]
end

/-! ### owned objects -/
def ext (F H : Hp) (B : List Addr) : Hp := fun p => if p ∈ B then H p else F p
theorem ext_in {F H : Hp} {B : List Addr} {p : Addr} (h : p ∈ B) : ext F H B p = H p := if_pos h
theorem ext_out {F H : Hp} {B : List Addr} {p : Addr} (h : p ∉ B) : ext F H B p = F p := if_neg h
theorem ext_same {F H : Hp} {B : List Addr} (h : ∀ p ∈ B, F p = none) : Same F (ext F H B) := fun p o e => by
  by_cases hb : p ∈ B
  · rw [h p hb] at e; cases e
  · rw [ext_out hb]; exact e
theorem ext_below {F H : Hp} {B : List Addr} (s : Same F H) : Same (ext F H B) H := fun p o e => by
  by_cases hb : p ∈ B
  · rw [ext_in hb] at e; exact e
  · rw [ext_out hb] at e; exact s p o e

inductive OwR (K : PySem.W.Frag) (F H : Hp) : Addr → Ow → List Addr → Prop
  | lst {p : Addr} {vs : List V} {xs : List D} : H p = some (.lst vs) → DpAll K F vs xs → OwR K F H p (.lst xs) [p]
mutual
inductive RvR (K : PySem.W.Frag) (F H : Hp) : V → Rv → List Addr → Prop
  | fr {v : V} {d : D} : Dp K F v d → RvR K F H v (.fr d) []
  | ow {p : Addr} {o : Ow} {B : List Addr} : OwR K F H p o B → RvR K F H (.ref p) (.ow o) B
  | tp {a : Addr} {vs : List V} {rs : List Rv} {B : List Addr} : GoodT K F a vs → RvRs K F H vs rs B → RvR K F H (.ref a) (.tp rs) B
inductive RvRs (K : PySem.W.Frag) (F H : Hp) : List V → List Rv → List Addr → Prop
  | nil : RvRs K F H [] [] []
  | cons {v : V} {vs : List V} {r : Rv} {rs : List Rv} {B C : List Addr} : RvR K F H v r B → RvRs K F H vs rs C → RvRs K F H (v :: vs) (r :: rs) (B ++ C)
end
inductive RhoR (K : PySem.W.Frag) (F H : Hp) : L2.St → Rho → List Addr → Prop
  | nil : RhoR K F H [] [] []
  | non {x : Option V} {σ : L2.St} {r : Rho} {A : List Addr} : RhoR K F H σ r A → RhoR K F H (x :: σ) (none :: r) A
  | som {v : V} {σ : L2.St} {u : Rv} {r : Rho} {A B : List Addr} : RvR K F H v u B → RhoR K F H σ r A → RhoR K F H (some v :: σ) (some u :: r) (B ++ A)

theorem OwR.mono {K : PySem.W.Frag} {F F' H H' : Hp} {p : Addr} {o : Ow} {B : List Addr} (e : Same F F') (h : ∀ q ∈ B, H' q = H q) (x : OwR K F H p o B) : OwR K F' H' p o B := by
  cases x with
  | lst a b => exact .lst ((h p List.mem_cons_self).trans a) (dpAll_mono e b)
theorem OwR.live {K : PySem.W.Frag} {F H : Hp} {p : Addr} {o : Ow} {B : List Addr} (x : OwR K F H p o B) : ∀ q ∈ B, ∃ u, H q = some u := by
  cases x with
  | lst a b =>
    intro q hq
    rw [List.mem_singleton] at hq
    subst hq
    exact ⟨_, a⟩
mutual
theorem RvR.mono {K : PySem.W.Frag} {F F' H H' : Hp} (e : Same F F') : ∀ {r : Rv} {v : V} {B : List Addr}, (∀ q ∈ B, H' q = H q) → RvR K F H v r B → RvR K F' H' v r B
  | _, _, _, _, .fr d => .fr (dp_mono e d)
  | _, _, _, h, .ow o => .ow (o.mono e h)
  | _, _, _, h, .tp s r => .tp (s.mono e) (RvRs.mono e h r)
theorem RvRs.mono {K : PySem.W.Frag} {F F' H H' : Hp} (e : Same F F') : ∀ {rs : List Rv} {vs : List V} {B : List Addr}, (∀ q ∈ B, H' q = H q) → RvRs K F H vs rs B → RvRs K F' H' vs rs B
  | _, _, _, _, .nil => .nil
  | _, _, _, h, .cons a b => .cons (RvR.mono e (fun q hq => h q (List.mem_append_left _ hq)) a) (RvRs.mono e (fun q hq => h q (List.mem_append_right _ hq)) b)
end
mutual
theorem RvR.live {K : PySem.W.Frag} {F H : Hp} : ∀ {r : Rv} {v : V} {B : List Addr}, RvR K F H v r B → ∀ q ∈ B, ∃ u, H q = some u
  | _, _, _, .fr _ => fun q hq => by cases hq
  | _, _, _, .ow o => o.live
  | _, _, _, .tp _ r => RvRs.live r
theorem RvRs.live {K : PySem.W.Frag} {F H : Hp} : ∀ {rs : List Rv} {vs : List V} {B : List Addr}, RvRs K F H vs rs B → ∀ q ∈ B, ∃ u, H q = some u
  | _, _, _, .nil => fun q hq => by cases hq
  | _, _, _, .cons a b => fun q hq => (List.mem_append.mp hq).elim (RvR.live a q) (RvRs.live b q)
end
mutual
/-- all parts are frozen -/
theorem RvR.frz {K : PySem.W.Frag} {F G H : Hp} (e : Same F G) : ∀ {r : Rv} {v : V} {B : List Addr}, (∀ q ∈ B, G q = H q) → RvR K F H v r B → Dp K G v (fz r)
  | _, _, _, _, .fr d => dp_mono e d
  | _, _, _, h, .ow (.lst a b) => .lst (SqL.of ((h _ List.mem_cons_self).trans a)) (dpAll_mono e b)
  | _, _, _, h, .tp s r => .tup (s.mono e) (RvRs.frz e h r)
theorem RvRs.frz {K : PySem.W.Frag} {F G H : Hp} (e : Same F G) : ∀ {rs : List Rv} {vs : List V} {B : List Addr}, (∀ q ∈ B, G q = H q) → RvRs K F H vs rs B → DpAll K G vs (fzs rs)
  | _, _, _, _, .nil => .nil
  | _, _, _, h, .cons a b => .cons (RvR.frz e (fun q hq => h q (List.mem_append_left _ hq)) a) (RvRs.frz e (fun q hq => h q (List.mem_append_right _ hq)) b)
end
theorem RvRs.len {K : PySem.W.Frag} {F H : Hp} : ∀ {rs : List Rv} {vs : List V} {B : List Addr}, RvRs K F H vs rs B → vs.length = rs.length
  | _, _, _, .nil => rfl
  | _, _, _, .cons _ b => by rw [List.length_cons, List.length_cons, RvRs.len b]
/-- a tuple of parts -/
theorem rvRs_allFr {K : PySem.W.Frag} {F H : Hp} : ∀ {rs : List Rv} {vs : List V} {B : List Addr} {ds : List D}, RvRs K F H vs rs B → allFr rs = some ds → DpAll K F vs ds ∧ B = []
  | _, _, _, _, .nil, e => by
    simp only [allFr, Option.some.injEq] at e
    subst e
    exact ⟨.nil, rfl⟩
  | _, _, _, ds, .cons a b, e => by
    cases a with
    | fr d =>
      simp only [allFr, Option.map_eq_some_iff] at e
      obtain ⟨es, e1, e2⟩ := e
      subst e2
      obtain ⟨h1, h2⟩ := rvRs_allFr b e1
      exact ⟨.cons d h1, by rw [h2]; rfl⟩
    | ow _ => simp [allFr] at e
    | tp _ _ => simp [allFr] at e
theorem rvR_mkTp {K : PySem.W.Frag} {F H : Hp} {rs : List Rv} {vs : List V} {B : List Addr} {a : Addr} (s : GoodT K F a vs) (r : RvRs K F H vs rs B) : RvR K F H (.ref a) (mkTp rs) B := by
  unfold mkTp
  cases e : allFr rs with
  | none => exact .tp s r
  | some ds =>
    obtain ⟨h1, h2⟩ := rvRs_allFr r e
    subst h2
    exact .fr (.tup s h1)

/-! ### slots -/
theorem RhoR.mono {K : PySem.W.Frag} {F F' H H' : Hp} (e : Same F F') {σ : L2.St} {r : Rho} {A : List Addr} (x : RhoR K F H σ r A) : (∀ q ∈ A, H' q = H q) → RhoR K F' H' σ r A := by
  induction x with
  | nil => exact fun _ => .nil
  | non _ ih => exact fun h => .non (ih h)
  | som a _ ih => exact fun h => .som (a.mono e fun q hq => h q (List.mem_append_left _ hq)) (ih fun q hq => h q (List.mem_append_right _ hq))
theorem RhoR.live {K : PySem.W.Frag} {F H : Hp} {σ : L2.St} {r : Rho} {A : List Addr} (x : RhoR K F H σ r A) : ∀ q ∈ A, ∃ u, H q = some u := by
  induction x with
  | nil => exact fun q hq => by cases hq
  | non _ ih => exact ih
  | som a _ ih => exact fun q hq => (List.mem_append.mp hq).elim (a.live q) (ih q)
theorem RhoR.len {K : PySem.W.Frag} {F H : Hp} {σ : L2.St} {r : Rho} {A : List Addr} (x : RhoR K F H σ r A) : σ.length = r.length := by
  induction x with
  | nil => rfl
  | non _ ih => rw [List.length_cons, List.length_cons, ih]
  | som a _ ih => rw [List.length_cons, List.length_cons, ih]
/-- a slot's content, what the others own -/
theorem RhoR.get {K : PySem.W.Frag} {F H : Hp} {σ : L2.St} {r : Rho} {A : List Addr} (x : RhoR K F H σ r A) : ∀ {i : Nat} {u : Rv}, r[i]? = some (some u) →
    ∃ v B A', σ[i]? = some (some v) ∧ RvR K F H v u B ∧ A.Perm (B ++ A') ∧ RhoR K F H σ (r.set i none) A' := by
  induction x with
  | nil => intro i u e; simp at e
  | @non y σ r A s ih =>
    intro i u e
    cases i with
    | zero => simp at e
    | succ i =>
      obtain ⟨v, B, A', h1, h2, h3, h4⟩ := ih (i := i) (u := u) (by simpa using e)
      exact ⟨v, B, A', by simpa using h1, h2, h3, by simpa using RhoR.non h4⟩
  | @som w σ u0 r A B0 a s ih =>
    intro i u e
    cases i with
    | zero =>
      simp at e
      subst e
      exact ⟨w, B0, A, rfl, a, .refl _, by simpa using RhoR.non s⟩
    | succ i =>
      obtain ⟨v, B, A', h1, h2, h3, h4⟩ := ih (i := i) (u := u) (by simpa using e)
      refine ⟨v, B, B0 ++ A', by simpa using h1, h2, ?_, by simpa using RhoR.som a h4⟩
      refine (h3.append_left B0).trans ?_
      rw [← List.append_assoc, ← List.append_assoc]
      exact List.Perm.append_right A' List.perm_append_comm
/-- a slot is emptied -/
theorem RhoR.drop {K : PySem.W.Frag} {F H : Hp} {σ : L2.St} {r : Rho} {A : List Addr} (x : RhoR K F H σ r A) (i : Nat) : ∃ B A', A.Perm (B ++ A') ∧ RhoR K F H σ (r.set i none) A' := by
  cases e : r[i]? with
  | none =>
    refine ⟨[], A, .refl _, ?_⟩
    rw [List.set_eq_of_length_le (by simpa using e)]
    exact x
  | some u =>
    cases u with
    | none =>
      refine ⟨[], A, .refl _, ?_⟩
      obtain ⟨h1, h2⟩ := List.getElem?_eq_some_iff.mp e
      have : r.set i none = r := by
        apply List.ext_getElem?
        intro j
        by_cases hj : i = j
        · subst hj
          rw [List.getElem?_set_self h1, e]
        · rw [List.getElem?_set_ne hj]
      rw [this]
      exact x
    | some u =>
      obtain ⟨v, B, A', h1, h2, h3, h4⟩ := x.get e
      exact ⟨B, A', h3, h4⟩
/-- the frame's slot is stored, the old content dropped -/
theorem RhoR.put {K : PySem.W.Frag} {F H : Hp} {σ : L2.St} {r : Rho} {A : List Addr} (x : RhoR K F H σ r A) {i : Nat} (h0 : r[i]? = some none) {v : V} {u : Rv} {B : List Addr} (a : RvR K F H v u B) : ∃ A', A'.Perm (B ++ A) ∧ RhoR K F H (σ.set i (some v)) (r.set i (some u)) A' := by
  induction x generalizing i with
  | nil => simp at h0
  | @non y σ r A s ih =>
    cases i with
    | zero => exact ⟨B ++ A, .refl _, by simpa using RhoR.som a s⟩
    | succ i =>
      obtain ⟨A', h1, h2⟩ := ih (i := i) (by simpa using h0)
      exact ⟨A', h1, by simpa using RhoR.non h2⟩
  | @som w σ u0 r A B0 c s ih =>
    cases i with
    | zero => simp at h0
    | succ i =>
      obtain ⟨A', h1, h2⟩ := ih (i := i) (by simpa using h0)
      refine ⟨B0 ++ A', ?_, by simpa using RhoR.som c h2⟩
      refine (h1.append_left B0).trans ?_
      rw [← List.append_assoc, ← List.append_assoc]
      exact List.Perm.append_right A List.perm_append_comm
/-- .. where the frame's slot holds it already -/
theorem RhoR.back {K : PySem.W.Frag} {F H : Hp} {σ : L2.St} {r : Rho} {A : List Addr} (x : RhoR K F H σ r A) {i : Nat} (h0 : r[i]? = some none) {v : V} {u : Rv} {B : List Addr} (a : RvR K F H v u B) (hv : σ[i]? = some (some v)) : ∃ A', A'.Perm (B ++ A) ∧ RhoR K F H σ (r.set i (some u)) A' := by
  obtain ⟨A', h1, h2⟩ := x.put h0 a
  have : σ.set i (some v) = σ := by
    obtain ⟨h3, h4⟩ := List.getElem?_eq_some_iff.mp hv
    apply List.ext_getElem?
    intro j
    by_cases hj : i = j
    · subst hj
      rw [List.getElem?_set_self h3, hv]
    · rw [List.getElem?_set_ne hj]
  rw [this] at h2
  exact ⟨A', h1, h2⟩

/-! ### states -/
/-- F: what nobody changes; A: what the slots own; B: what is held besides -/
structure Wf (K : PySem.W.Frag) (F H : Hp) (σ : L2.St) (r : Rho) (A B : List Addr) : Prop where
  env : RhoR K F H σ r A
  nd : (B ++ A).Nodup
  dis : ∀ p ∈ B ++ A, F p = none
  sm : Same F H
/-- from one state to the next -/
structure Stp (F H : Hp) (A : List Addr) (F' H' : Hp) (A' : List Addr) : Prop where
  ff : Same F F'
  new : ∀ p, F p = none → H p ≠ none → p ∉ A → F' p = none
  hh : ∀ p o, H p = some o → p ∉ A → H' p = some o
  own : ∀ p ∈ A', p ∈ A ∨ H p = none
theorem Stp.refl {F H : Hp} {A : List Addr} : Stp F H A F H A := ⟨.refl _, fun _ h _ _ => h, fun _ _ h _ => h, fun _ h => .inl h⟩
theorem Stp.trans {F H F' H' F'' H'' : Hp} {A A' A'' : List Addr} (a : Stp F H A F' H' A') (b : Stp F' H' A' F'' H'' A'') : Stp F H A F'' H'' A'' where
  ff := a.ff.trans b.ff
  new := fun p h1 h2 h3 => by
    cases e : H p with
    | none => exact absurd e h2
    | some o =>
      refine b.new p (a.new p h1 h2 h3) (by rw [a.hh p o e h3]; exact fun z => by cases z) fun z => ?_
      rcases a.own p z with q | q
      · exact h3 q
      · exact h2 q
  hh := fun p o h1 h2 => b.hh p o (a.hh p o h1 h2) fun z => by
    rcases a.own p z with q | q
    · exact h2 q
    · rw [h1] at q; cases q
  own := fun p h => by
    rcases b.own p h with q | q
    · exact a.own p q
    · by_cases hA : p ∈ A
      · exact .inl hA
      · cases e : H p with
        | none => exact .inr rfl
        | some o =>
          rw [a.hh p o e hA] at q
          cases q
/-- fewer own, more is held -/
theorem Stp.perm {F H F' H' : Hp} {A A' B B' : List Addr} (a : Stp F H A F' H' A') (h1 : ∀ p, p ∈ A → p ∈ B) (h2 : ∀ p ∈ B', p ∈ A') : Stp F H B F' H' B' :=
  ⟨a.ff, fun p x y z => a.new p x y fun q => z (h1 p q), fun p o x y => a.hh p o x fun q => y (h1 p q), fun p h => (a.own p (h2 p h)).imp (h1 p) id⟩
section
variable {K : PySem.W.Frag} {F F' H H' : Hp} {σ : L2.St} {r : Rho} {A A' B B' : List Addr}
theorem Wf.live (w : Wf K F H σ r A B) : ∀ q ∈ A, ∃ u, H q = some u := w.env.live
theorem Wf.perm (w : Wf K F H σ r A B) (h : B'.Perm B) : Wf K F H σ r A B' :=
  ⟨w.env, (List.Perm.append_right A h).nodup_iff.mpr w.nd, fun p hp => w.dis p ((List.Perm.append_right A h).mem_iff.mp hp), w.sm⟩
theorem Wf.less {C : List Addr} (w : Wf K F H σ r A (C ++ B)) : Wf K F H σ r A B := by
  have nd := w.nd
  rw [List.append_assoc] at nd
  exact ⟨w.env, (List.nodup_append.mp nd).2.1, fun p hp => w.dis p (by rw [List.append_assoc]; exact List.mem_append_right _ hp), w.sm⟩
theorem Wf.nil (w : Wf K F H σ r A B) : Wf K F H σ r A [] := Wf.less (C := B) (B := []) (by rw [List.append_nil]; exact w)
/-- what was held stays while others work -/
theorem Stp.keeps (a : Stp F H A F' H' A') (w : Wf K F H σ r A B) (l : ∀ q ∈ B, ∃ u, H q = some u) : ∀ q ∈ B, H' q = H q := fun q hq => by
  obtain ⟨u, hu⟩ := l q hq
  have : q ∉ A := fun z => by
    have := (List.nodup_append.mp w.nd).2.2 q hq q z
    exact this rfl
  rw [hu, a.hh q u hu this]
/-- while something is held, a step of the rest -/
theorem Wf.after {r' : Rho} {σ' : L2.St} (w : Wf K F H σ r A B) (l : ∀ q ∈ B, ∃ u, H q = some u) (a : Stp F H A F' H' (B' ++ A')) (w' : Wf K F' H' σ' r' A' B') : Wf K F' H' σ' r' A' (B' ++ B) := by
  have disj : ∀ q ∈ B, q ∉ A := fun q hq z => (List.nodup_append.mp w.nd).2.2 q hq q z rfl
  have disj' : ∀ q ∈ B, q ∉ B' ++ A' := fun q hq z => by
    rcases a.own q z with y | y
    · exact disj q hq y
    · obtain ⟨u, hu⟩ := l q hq
      rw [hu] at y; cases y
  refine ⟨w'.env, ?_, fun p hp => ?_, w'.sm⟩
  · have nB : B.Nodup := (List.nodup_append.mp w.nd).1
    have p1 : (B' ++ B ++ A').Perm (B ++ (B' ++ A')) := by
      rw [← List.append_assoc]
      exact List.Perm.append_right A' List.perm_append_comm
    refine p1.nodup_iff.mpr (List.nodup_append.mpr ⟨nB, w'.nd, fun x hx y hy e => disj' x hx (e ▸ hy)⟩)
  · rw [List.append_assoc] at hp
    rcases List.mem_append.mp hp with h | h
    · exact w'.dis p (List.mem_append_left _ h)
    · rcases List.mem_append.mp h with h | h
      · obtain ⟨u, hu⟩ := l p h
        exact a.new p (w.dis p (List.mem_append_left _ h)) (by rw [hu]; exact fun z => by cases z) (disj p h)
      · exact w'.dis p (List.mem_append_right _ h)
/-- what is held is frozen -/
theorem Wf.freeze (w : Wf K F H σ r A (B ++ B')) (l : ∀ q ∈ B, ∃ u, H q = some u) : Wf K (ext F H B) H σ r A B' ∧ Stp F H (B ++ B' ++ A) (ext F H B) H (B' ++ A) := by
  have nd := w.nd
  rw [List.append_assoc] at nd
  have disj : ∀ q ∈ B, q ∉ B' ++ A := fun q hq z => (List.nodup_append.mp nd).2.2 q hq q z rfl
  have fB : ∀ p ∈ B, F p = none := fun p hp => w.dis p (by rw [List.append_assoc]; exact List.mem_append_left _ hp)
  refine ⟨⟨w.env.mono (ext_same fB) fun _ _ => rfl, (List.nodup_append.mp nd).2.1, fun p hp => ?_, ext_below w.sm⟩, ⟨ext_same fB, fun p h1 h2 h3 => ?_, fun _ _ h _ => h, fun p hp => .inl ?_⟩⟩
  · rw [ext_out fun z => disj p z hp]
    exact w.dis p (by rw [List.append_assoc]; exact List.mem_append_right _ hp)
  · rw [ext_out fun z => h3 (by rw [List.append_assoc]; exact List.mem_append_left _ z)]
    exact h1
  · rw [List.append_assoc]
    exact List.mem_append_right _ hp
/-- a new object -/
theorem Wf.alloc {p : Addr} {o : HO} (w : Wf K F H σ r A B) (l : ∀ q ∈ B, ∃ u, H q = some u) (hp : H p = none) : Wf K F (upd H p o) σ r A (p :: B) ∧ Stp F H (B ++ A) F (upd H p o) (p :: B ++ A) := by
  have ne : ∀ q u, H q = some u → q ≠ p := fun q u e z => by subst z; rw [e] at hp; cases hp
  have neA : ∀ q ∈ B ++ A, q ≠ p := fun q hq => by
    rcases List.mem_append.mp hq with h | h
    · obtain ⟨u, hu⟩ := l q h
      exact ne q u hu
    · obtain ⟨u, hu⟩ := w.live q h
      exact ne q u hu
  refine ⟨⟨w.env.mono (.refl _) fun q hq => upd_ne (neA q (List.mem_append_right _ hq)), ?_, fun q hq => ?_, fun q u e => ?_⟩, ⟨.refl _, fun _ h _ _ => h, fun q u e _ => by rw [upd_ne (ne q u e)]; exact e, fun q hq => ?_⟩⟩
  · show (p :: (B ++ A)).Nodup
    exact List.nodup_cons.mpr ⟨fun z => neA p z rfl, w.nd⟩
  · rcases List.mem_cons.mp (show q ∈ p :: (B ++ A) from hq) with h | h
    · subst h
      exact w.sm.free hp
    · exact w.dis q h
  · rw [upd_ne (ne q u (w.sm q u e))]
    exact w.sm q u e
  · rcases List.mem_cons.mp (show q ∈ p :: (B ++ A) from hq) with h | h
    · subst h
      exact .inr hp
    · exact .inl h
/-- a new object, frozen at once -/
theorem Wf.allocF {p : Addr} {o : HO} (w : Wf K F H σ r A B) (l : ∀ q ∈ B, ∃ u, H q = some u) (hp : H p = none) : Wf K (upd F p o) (upd H p o) σ r A B ∧ Stp F H (B ++ A) (upd F p o) (upd H p o) (B ++ A) := by
  have ne : ∀ q u, H q = some u → q ≠ p := fun q u e z => by subst z; rw [e] at hp; cases hp
  have neA : ∀ q ∈ B ++ A, q ≠ p := fun q hq => by
    rcases List.mem_append.mp hq with h | h
    · obtain ⟨u, hu⟩ := l q h
      exact ne q u hu
    · obtain ⟨u, hu⟩ := w.live q h
      exact ne q u hu
  have sF : Same F (upd F p o) := fun q u e => by rw [upd_ne (ne q u (w.sm q u e))]; exact e
  refine ⟨⟨w.env.mono sF fun q hq => upd_ne (neA q (List.mem_append_right _ hq)), w.nd, fun q hq => ?_, fun q u e => ?_⟩, ⟨sF, fun q h1 h2 _ => ?_, fun q u e _ => by rw [upd_ne (ne q u e)]; exact e, fun q hq => .inl hq⟩⟩
  · rw [upd_ne (neA q hq)]
    exact w.dis q hq
  · by_cases hq : q = p
    · subst hq
      rw [upd_same] at e ⊢
      exact e
    · rw [upd_ne hq] at e ⊢
      exact w.sm q u e
  · rw [upd_ne (show q ≠ p from fun z => h2 (by rw [z]; exact hp))]
    exact h1
end
end Ev

/-! Ev3: the operations, by values. -/
namespace Ev
open PySem PySem.Spec PyProof.Rows L2
/-- a value that is looked at: its top may be owned, its items are frozen -/
def VR (K : PySem.W.Frag) (F H : Hp) (x : V) : D → Prop
  | .list xs => ∃ a vs, x = .ref a ∧ SqL K H a vs ∧ DpAll K F vs xs
  | d => Dp K F x d
theorem VR.tup_ {K : PySem.W.Frag} {F H : Hp} {x : V} {xs : List D} (h : VR K F H x (.tuple xs)) : ∃ a vs, x = .ref a ∧ GoodT K F a vs ∧ DpAll K F vs xs := by
  have h : Dp K F x (.tuple xs) := h
  cases h with
  | tup h1 h2 => exact ⟨_, _, rfl, h1, h2⟩
theorem VR.dp {K : PySem.W.Frag} {F H : Hp} {x : V} {d : D} (s : Same F H) (h : VR K F H x d) : Dp K H x d := by
  cases d with
  | list xs => obtain ⟨a, vs, rfl, h1, h2⟩ := h; exact .lst h1 (dpAll_mono s h2)
  | tuple xs => exact dp_mono s h
  | none => exact dp_mono s h
  | bool _ => exact dp_mono s h
  | int _ => exact dp_mono s h
  | str _ => exact dp_mono s h
  | dict _ => exact dp_mono s h
theorem VR.of {K : PySem.W.Frag} {F H : Hp} {x : V} {d : D} (s : Same F H) (h : Dp K F x d) : VR K F H x d := by
  cases h with
  | lst h1 h2 => exact ⟨_, _, rfl, s.seq h1, h2⟩
  | tup h1 h2 => exact .tup h1 h2
  | non => exact .non
  | bl b => exact .bl b
  | int i => exact .int i
  | str z => exact .str z
theorem VR.int_ {K : PySem.W.Frag} {F H : Hp} {x : V} {i : Int} (h : VR K F H x (.int i)) : x = .int i := by
  have h : Dp K F x (.int i) := h
  cases h; rfl
theorem VR.bool_ {K : PySem.W.Frag} {F H : Hp} {x : V} {i : Bool} (h : VR K F H x (.bool i)) : x = .bl i := by
  have h : Dp K F x (.bool i) := h
  cases h; rfl
theorem VR.str_ {K : PySem.W.Frag} {F H : Hp} {x : V} {i : Str} (h : VR K F H x (.str i)) : x = .str i := by
  have h : Dp K F x (.str i) := h
  cases h; rfl
theorem VR.non_ {K : PySem.W.Frag} {F H : Hp} {x : V} (h : VR K F H x .none) : x = .non := by
  have h : Dp K F x .none := h
  cases h; rfl
/-- a result: an elder datum, or a new object -/
inductive NewR (K : PySem.W.Frag) (F H : Hp) : V → Hp → Rv → Prop
  | old {v : V} {d : D} : Dp K F v d → NewR K F H v H (.fr d)
  | lst {p : Addr} {vs : List V} {ds : List D} : H p = none → DpAll K F vs ds → NewR K F H (.ref p) (upd H p (.lst vs)) (.ow (.lst ds))
  | tup {p : Addr} {vs : List V} {ds : List D} {o : Obj} : H p = none → o.dict = none → DpAll K F vs ds → NewR K F H (.ref p) (upd H p (.frz o (.tup vs))) (.fr (.tuple ds))
def rB2 (K : PySem.W.Frag) (f : D → D → Option Rv) : R2 := fun x y H Q => ∃ d e F rv, VR K F H x d ∧ VR K F H y e ∧ Same F H ∧ f d e = some rv ∧ ∀ v H', NewR K F H v H' rv → Q v H'
def bop : BOp → Operator
  | .add => .Add
  | .sub => .Sub
  | .mul => .Mult
  | .fdiv => .FloorDiv
  | .mod => .Mod
  | .pow => .Pow
def cop : COp → CmpOp
  | .eq => .Eq
  | .ne => .NotEq
  | .lt => .Lt
  | .le => .LtE
  | .gt => .Gt
  | .ge => .GtE
  | .mem => .In
  | .nmem => .NotIn
section
variable {X : Cx} {pins : List (Addr × Obj)} {σ : L2.St} {H F : Hp} {s : Shared}
theorem lenOk_le {n : Nat} (h : lenOk n = true) : n ≤ sizeLine := of_decide_eq_true h
theorem op_addL : OpR X (binaryOp .Add) (fun x y H Q => ∃ a b xs ys, x = .ref a ∧ y = .ref b ∧ SqL X.K H a xs ∧ SqL X.K H b ys ∧ xs.length + ys.length ≤ sizeLine ∧ ∀ p, H p = none → Q (.ref p) (upd H p (.lst (xs ++ ys)))) := by
  intro pins s σ H x y v u Q I rx ry h
  obtain ⟨a, b, xs, ys, rfl, rfl, ha, hb, hz, q⟩ := h
  cases rx
  cases ry
  obtain ⟨its, r1, p1, _⟩ := I.list ha
  obtain ⟨its2, r2, p2, _⟩ := I.list hb
  obtain ⟨⟨cls, dd, data, sl⟩, n, ho, hc, hdd, hd⟩ := p1
  obtain ⟨⟨cls2, dd2, data2, sl2⟩, n2, ho2, hc2, hdd2, hd2⟩ := p2
  simp only at hc hd hc2 hd2
  subst hc hd hc2 hd2
  have e : its.toArray ++ its2.toArray = (its ++ its2).toArray := by simp
  have l1 := r1.length
  have l2 := r2.length
  refine PySem.concat_meets ⟨_, ho, rfl⟩ ⟨_, ho2, rfl⟩ PySem.noFill_list_add PySem.seq_list_add PySem.F.slot_list_add PySem.F.entry_list_add (PySem.F.args_list_add_2 _ _) (list_addW a b its.toArray its2.toArray n n2 dd dd2 sl sl2 (by rw [List.size_toArray, List.size_toArray]; omega)) ⟨ho, ho2, ?_⟩
  rw [e]
  exact ⟨.ref _, _, I.lnew (t' := s.toks) (r1.append r2) (by rw [List.length_append]; omega), rfl, q _ I.fresh⟩
theorem mulOk_ok {i j : Int} (h : mulOk i j = true) : CMul i j ∨ CMulW i j := by
  simp only [mulOk, Bool.or_eq_true, decide_eq_true_eq] at h
  rcases h with (h | h) | h
  · exact .inl (.inl h)
  · exact .inl (.inr h)
  · exact .inr (wide_mul h.1 h.2 (by decide) (by decide) (by decide))
theorem divOk_ok {i j : Int} (h : divOk j = true) : CDivW i j := by
  simp only [divOk, decide_eq_true_eq] at h
  refine wide_div (b := 256) h.1 ?_ (by decide) (by decide)
  have h2 := h.2
  omega
/-- a new tuple, its object told -/
theorem good_laid (I : Inv X pins σ H s) {its : List Value} {ys : List V} {ob : Obj} (hf : ob.isFreed = false) (r : Vals ys its) (hz : ys.length ≤ sizeLine) (ht : IsTup (s.heap.push ob) s.heap.objs.size its.toArray) : Inv X pins σ (upd H s.heap.objs.size (.frz ob (.tup ys))) { s with heap := s.heap.push ob } :=
  I.laid (t' := s.toks) (o := .frz ob (.tup ys)) (fun _ _ e => Heap.get?_push_of_some _ e) (Nat.le_refl _) ⟨Heap.get?_push_size _ hf, hz, its, r, ht⟩
theorem tuple_mul1W (l : Addr) (items : Array Value) (n : Nat) (dd : Option Addr) (sl : Array (Option Value)) (u : Tok) :
    Meets (Builtin.«tuple.__mul__» ⟨[.ref l, .int 1 u], []⟩) (fun _ R s => s.heap.get? l = some { cls := .type "tuple", dict := dd, data := .seq items n, slots := sl } ∧
      R (.ok (.ret (Value.ref l))) s) :=
  .of_wp fun prog w A R s h => by
    obtain ⟨hp, g, d, tk, os⟩ := s
    obtain ⟨hl, h⟩ := h
    have f1 := AutoSeq1.idx_int
    wp_walk using wpAny_loadPart' hl
    repeat (first
      | (refine wpAny_ite_false (decide_eq_false (by decide)) ?_; wp_walk using wpAny_loadPart' hl)
      | (refine wpAny_ite_true (decide_eq_true (by simp)) ?_; wp_walk using wpAny_loadPart' hl))
    exact ⟨_, rfl, h⟩
theorem op_mulT : OpR X (binaryOp .Mult) (fun x y H Q => ∃ l k xs, x = .ref l ∧ y = .int k ∧ SqT X.K H l xs ∧ xs ≠ [] ∧ 1 ≤ k ∧ k ≤ 1000 ∧ xs.length ≤ 1000 ∧ (k = 1 → Q (.ref l) H) ∧ ∀ p o, H p = none → o.dict = none → Q (.ref p) (upd H p (.frz o (.tup (List.replicate k.toNat xs).flatten)))) := by
  intro pins s σ H x y v u Q I rx ry h
  obtain ⟨l, k, xs, rfl, rfl, hT, hne, h1, h2, hz, q1, q⟩ := h
  by_cases hk : k = 1
  · subst hk
    cases rx
    obtain ⟨t, rfl⟩ := ry
    obtain ⟨its, r, ⟨⟨cls, dd, data, sl⟩, ho, hc, n, hd⟩, hs⟩ := I.tuple hT
    simp only at hc hd
    subst hc hd
    refine wpAny_binaryOp_repeat_ref (T := "tuple") (U := "int") (by decide) ⟨_, ho, rfl⟩ (fun s' => typeIs_int s' 1 t) noFill_tuple_mul F.fills_int_mul F.slot_int_rmul repeat_tuple F.slot_int_index.lookup
      (call_meets F.slot_int_rmul (typeIs_int s 1 t) F.entry_int_rmul (F.args_int_rmul_2 _ _) (int_rmul_tuple 1 t l its.toArray n dd sl)
        ⟨ho, rfl, ⟨_, ho, rfl⟩, call_meets F.slot_tuple_mul ⟨_, ho, rfl⟩ F.entry_tuple_mul (F.args_tuple_mul_2 _ _) (tuple_mul1W l its.toArray n dd sl t) ⟨ho, ?_⟩⟩)
    exact ⟨.ref l, H, I, rfl, q1 rfl⟩
  · have k2 : 2 ≤ k := by omega
    cases rx
    obtain ⟨t, rfl⟩ := ry
    obtain ⟨its, r, ⟨⟨cls, dd, data, sl⟩, ho, hc, n, hd⟩, hs⟩ := I.tuple hT
    simp only at hc hd
    subst hc hd
    have el : its.length = xs.length := r.length.symm
    have ne : its.toArray.isEmpty = false := by
      cases its with
      | nil =>
        cases r
        exact absurd rfl hne
      | cons _ _ => rfl
    have sz : its.toArray.size = xs.length := by rw [List.size_toArray, el]
    have pr : ((xs.length : Nat) : Int) * k ≤ 1000000 := by
      have := Int.mul_le_mul_of_nonneg_right (show ((xs.length : Nat) : Int) ≤ 1000 by omega) (show 0 ≤ k by omega)
      omega
    have prN : k.toNat * xs.length ≤ 1000000 := by
      have := Nat.mul_le_mul (show k.toNat ≤ 1000 by omega) hz
      omega
    have fl : (List.replicate k.toNat its).flatten.length ≤ sizeLine := by
      rw [PyProof.Rows.lm_len_rep_flat, el, sizeLine_eq]
      omega
    have d0 : (decide (k < -(2 ^ 63)) || decide (k ≥ 2 ^ 63)) = false := by simp; omega
    have d1 : (its.toArray.isEmpty || k == 1) = false := by rw [ne]; simp; omega
    have d2 : (decide (k ≤ 0) || its.toArray.isEmpty) = false := by rw [ne]; simp; omega
    have d4 : Builtin.Tuple.tupleTooMany (((its.toArray.size : Nat) : Int) * k) = false := by
      unfold Builtin.Tuple.tupleTooMany
      rw [sizeLine_eq, sz]
      simp
      omega
    refine wpAny_binaryOp_repeat_ref (T := "tuple") (U := "int") (by decide) ⟨_, ho, rfl⟩ (fun s' => typeIs_int s' k t) noFill_tuple_mul F.fills_int_mul F.slot_int_rmul repeat_tuple F.slot_int_index.lookup (call_meets F.slot_int_rmul (typeIs_int s k t) F.entry_int_rmul (F.args_int_rmul_2 _ _) (int_rmul_tuple k t l its.toArray n dd sl) ⟨ho, rfl, ⟨_, ho, rfl⟩, ?_⟩)
    refine call_meets F.slot_tuple_mul ⟨_, ho, rfl⟩ F.entry_tuple_mul (F.args_tuple_mul_2 _ _) (tuple_mulW l its.toArray n dd sl k t d0 d1 d2 (by rw [sz]; omega) d4 (by rw [size_rep, List.size_toArray]; exact fl)) ⟨ho, ?_⟩
    rw [size_rep]
    exact ⟨.ref _, _, good_laid I rfl (r.rep k.toNat) (by rw [PyProof.Rows.lm_len_rep_flat, sizeLine_eq]; omega) (IsTup.new _ _), rfl, q _ _ (I.hok.fresh (Nat.le_refl _)) rfl⟩
theorem dpAll_rep {K : PySem.W.Frag} {F : Hp} {vs : List V} {xs : List D} (h : DpAll K F vs xs) : ∀ n, DpAll K F (List.replicate n vs).flatten (List.replicate n xs).flatten
  | 0 => .nil
  | n + 1 => by
    rw [List.replicate_succ, List.replicate_succ, List.flatten_cons, List.flatten_cons]
    exact dpAll_app h (dpAll_rep h n)
theorem op_catG : OpR X (binaryOp .Add) (fun x y H Q => ∃ a b xs ys, x = .ref a ∧ y = .ref b ∧ SqT X.K H a xs ∧ SqT X.K H b ys ∧ xs.length + ys.length ≤ sizeLine ∧ (xs = [] → Q (.ref b) H) ∧ (ys = [] → Q (.ref a) H) ∧ ∀ p o, H p = none → o.dict = none → Q (.ref p) (upd H p (.frz o (.tup (xs ++ ys))))) := by
  intro pins s σ H x y v u Q I rx ry h
  obtain ⟨a, b, xs, ys, rfl, rfl, ha, hb, hz, q0, q1, q2⟩ := h
  cases rx
  cases ry
  obtain ⟨its, r1, p1, _⟩ := I.tuple ha
  obtain ⟨its2, r2, p2, _⟩ := I.tuple hb
  by_cases hx : xs = []
  · subst hx
    cases r1
    exact cat_tup0 p1 p2 ⟨.ref b, H, I, rfl, q0 rfl⟩
  · refine HT.cat_tup p1 p2 (fun z => hx (r1.nil_iff.mp z)) (fun z => ⟨.ref a, H, I, rfl, q1 (r2.nil_iff.mp z)⟩) (fun z => ?_) (by rw [← r1.length, ← r2.length]; exact hz)
    exact ⟨.ref _, _, good_laid I rfl (r1.append r2) (by rw [List.length_append]; exact hz) (IsTup.new _ _), rfl, q2 _ _ (I.hok.fresh (Nat.le_refl _)) rfl⟩
theorem op_binD (o : BOp) : OpR X (binaryOp (bop o)) (rB2 X.K (binD o)) := by
  intro pins s σ H x y v u Q I rx ry h
  obtain ⟨d, e, F, rv, vx, vy, sm, hb, q⟩ := h
  cases o with
  | add =>
    cases d with
    | int i =>
      cases e with
      | int j =>
        cases hb
        cases vx.int_
        cases vy.int_
        exact op_add pins s σ H _ _ v u Q I rx ry ⟨i, j, rfl, rfl, q _ _ (.old (.int _))⟩
      | _ => cases hb
    | list xs =>
      cases e with
      | list ys =>
        simp only [binD] at hb
        split at hb
        · rename_i hl
          cases hb
          obtain ⟨a, vs, rfl, h1, h2⟩ := vx
          obtain ⟨b, ws, rfl, h3, h4⟩ := vy
          exact op_addL pins s σ H _ _ v u Q I rx ry ⟨a, b, vs, ws, rfl, rfl, h1, h3, by rw [dpAll_len h2, dpAll_len h4]; exact lenOk_le hl, fun p hp => q _ _ (.lst hp (dpAll_app h2 h4))⟩
        · cases hb
      | _ => cases hb
    | tuple xs =>
      cases e with
      | tuple ys =>
        simp only [binD] at hb
        split at hb
        · rename_i hl
          cases hb
          obtain ⟨a, vs, rfl, h1, h2⟩ := vx.tup_
          obtain ⟨b, ws, rfl, h3, h4⟩ := vy.tup_
          refine op_catG pins s σ H _ _ v u Q I rx ry ⟨a, b, vs, ws, rfl, rfl, same_sqt sm h1.sqt, same_sqt sm h3.sqt, by rw [dpAll_len h2, dpAll_len h4]; exact lenOk_le hl, fun z => ?_, fun z => ?_, fun p o hp ho => q _ _ (.tup hp ho (dpAll_app h2 h4))⟩
          · subst z
            cases h2
            exact q _ _ (.old (.tup h3 h4))
          · subst z
            cases h4
            rw [List.append_nil] at q
            exact q _ _ (.old (.tup h1 h2))
        · cases hb
      | _ => cases hb
    | _ => cases e <;> cases hb
  | sub =>
    cases d <;> cases e <;> cases hb
    cases vx.int_
    cases vy.int_
    exact op_sub pins s σ H _ _ v u Q I rx ry ⟨_, _, rfl, rfl, q _ _ (.old (.int _))⟩
  | mul =>
    cases d with
    | int i =>
      cases e with
      | int j =>
        simp only [binD] at hb
        split at hb <;> cases hb
        rename_i hm
        cases vx.int_
        cases vy.int_
        rcases mulOk_ok hm with hm | hm
        · exact op_mul pins s σ H _ _ v u Q I rx ry ⟨_, _, rfl, rfl, hm, q _ _ (.old (.int _))⟩
        · exact op_mulW pins s σ H _ _ v u Q I rx ry ⟨_, _, rfl, rfl, hm, q _ _ (.old (.int _))⟩
      | _ => cases hb
    | tuple xs =>
      cases e with
      | int k =>
        simp only [binD] at hb
        split at hb
        · rename_i hm
          cases hb
          simp only [Bool.and_eq_true, decide_eq_true_eq, Bool.not_eq_true', List.isEmpty_eq_false_iff] at hm
          obtain ⟨⟨⟨k1, k2⟩, k3⟩, k4⟩ := hm
          cases vy.int_
          obtain ⟨a, vs, rfl, h1, h2⟩ := vx.tup_
          have el := dpAll_len h2
          have hne : vs ≠ [] := fun z => by
            subst z
            cases h2
            exact k4 rfl
          refine op_mulT pins s σ H _ _ v u Q I rx ry ⟨a, k, vs, rfl, rfl, same_sqt sm h1.sqt, hne, k1, k2, by omega, fun z => ?_, fun p o hp ho => q _ _ (.tup hp ho (dpAll_rep h2 _))⟩
          subst z
          have : (List.replicate (1 : Int).toNat xs).flatten = xs := by simp
          rw [this] at q
          exact q _ _ (.old (.tup h1 h2))
        · cases hb
      | _ => cases hb
    | _ => cases e <;> cases hb
  | fdiv =>
    cases d <;> cases e <;> simp only [binD] at hb <;> (try cases hb)
    split at hb <;> cases hb
    rename_i hm
    cases vx.int_
    cases vy.int_
    exact op_fdivW pins s σ H _ _ v u Q I rx ry ⟨_, _, rfl, rfl, divOk_ok hm, q _ _ (.old (.int _))⟩
  | mod =>
    cases d <;> cases e <;> simp only [binD] at hb <;> (try cases hb)
    split at hb <;> cases hb
    rename_i hm
    cases vx.int_
    cases vy.int_
    exact op_mod pins s σ H _ _ v u Q I rx ry ⟨_, _, rfl, rfl, of_decide_eq_true hm, q _ _ (.old (.int _))⟩
  | pow =>
    cases d <;> cases e <;> simp only [binD] at hb <;> (try cases hb)
    split at hb <;> cases hb
    rename_i hm
    cases vx.int_
    cases vy.int_
    have hm := hm
    simp only [powOk, decide_eq_true_eq] at hm
    exact op_pow pins s σ H _ _ v u Q I rx ry ⟨_, _, rfl, rfl, hm, q _ _ (.old (.int _))⟩
/-! ### comparisons -/
def rC2 (K : PySem.W.Frag) (f : D → D → Option Bool) : R2 := fun x y H Q => ∃ d e F c, VR K F H x d ∧ VR K F H y e ∧ Same F H ∧ f d e = some c ∧ Q (.bl c) H
theorem ordOk_ok {a b : D} (h : ordOk a b = true) : PySem.W.alike a b = true ∧ a ≠ .none ∧ min a.depth b.depth ≤ 60 := by
  simp only [ordOk, Bool.and_eq_true, shal, decide_eq_true_eq] at h
  obtain ⟨⟨h1, h2⟩, h3⟩ := h
  exact ⟨h1, (fun z => by subst z; cases h2), h3⟩
theorem op_cmpD (hu : X.A.units + 100 < cLine) (o : COp) : OpR X (compareOp (cop o)) (rC2 X.K (cmpD o)) := by
  intro pins s σ H x y v u Q I rx ry h
  obtain ⟨d, e, F, c, vx, vy, sm, hb, q⟩ := h
  have dx := vx.dp sm
  have dy := vy.dp sm
  obtain ⟨as, r1⟩ := L2.Dp.reads I d x v (Dp.old dx) rx
  obtain ⟨bs, r2⟩ := L2.Dp.reads I e y u (Dp.old dy) ry
  have pd := dp_plain dx
  have pe := dp_plain dy
  have fin : EP X pins σ Q (.bool c) s := ⟨.bl c, H, I, rfl, q⟩
  have mem : ∀ {xs : List D}, e = .list xs ∨ e = .tuple xs → PyData.plainAll xs = true := by
    intro xs he
    rcases he with he | he <;> (subst he; simpa [PyData.plain] using pe)
  cases o with
  | eq =>
    simp only [cmpD] at hb
    split at hb <;> cases hb
    rename_i hs
    have hs : min d.depth e.depth ≤ 60 := of_decide_eq_true hs
    exact PySem.SeqAt.eq_plain r1 r2 pd pe (by omega) fin
  | ne =>
    simp only [cmpD] at hb
    split at hb <;> cases hb
    rename_i hs
    have hs : min d.depth e.depth ≤ 60 := of_decide_eq_true hs
    exact PySem.SeqAt.ne_plain r1 r2 pd pe (by omega) fin
  | lt =>
    simp only [cmpD] at hb
    split at hb <;> cases hb
    rename_i hs
    obtain ⟨h1, h2, h3⟩ := ordOk_ok hs
    exact PySem.W.lt_data r1 r2 h1 h2 (by omega) fin
  | le =>
    simp only [cmpD] at hb
    split at hb <;> cases hb
    rename_i hs
    obtain ⟨h1, h2, h3⟩ := ordOk_ok hs
    exact PySem.W.le_data r1 r2 h1 h2 (by omega) fin
  | gt =>
    simp only [cmpD] at hb
    split at hb <;> cases hb
    rename_i hs
    obtain ⟨h1, h2, h3⟩ := ordOk_ok hs
    exact PySem.W.gt_data r1 r2 h1 h2 (by omega) fin
  | ge =>
    simp only [cmpD] at hb
    split at hb <;> cases hb
    rename_i hs
    obtain ⟨h1, h2, h3⟩ := ordOk_ok hs
    exact PySem.W.ge_data r1 r2 h1 h2 (by omega) fin
  | mem =>
    cases e with
    | list xs =>
      simp only [cmpD] at hb
      split at hb <;> cases hb
      rename_i hs
      have hs : min (PyData.depthAll xs) d.depth ≤ 60 := of_decide_eq_true hs
      exact PySem.SeqAt.in_list_data r2 r1 (mem (.inl rfl)) pd (by omega) fin
    | tuple xs =>
      simp only [cmpD] at hb
      split at hb <;> cases hb
      rename_i hs
      have hs : min (PyData.depthAll xs) d.depth ≤ 60 := of_decide_eq_true hs
      exact PySem.SeqAt.in_tuple_data r2 r1 (mem (.inr rfl)) pd (by omega) fin
    | _ => cases hb
  | nmem =>
    cases e with
    | list xs =>
      simp only [cmpD] at hb
      split at hb <;> cases hb
      rename_i hs
      have hs : min (PyData.depthAll xs) d.depth ≤ 60 := of_decide_eq_true hs
      exact PySem.SeqAt.notIn_list_data r2 r1 (mem (.inl rfl)) pd (by omega) fin
    | tuple xs =>
      simp only [cmpD] at hb
      split at hb <;> cases hb
      rename_i hs
      have hs : min (PyData.depthAll xs) d.depth ≤ 60 := of_decide_eq_true hs
      exact PySem.SeqAt.notIn_tuple_data r2 r1 (mem (.inr rfl)) pd (by omega) fin
    | _ => cases hb
end
end Ev

/-! Ev4: built-ins, subscripts, slices, truth. -/
namespace PySem.W
open PySem PySem.Calls PyProof.Rows
section
variable {prog : Program} {w : World} {A : Around} {E : Value → Shared → Prop} {s : Shared}
theorem ev_collect_tuple {l : Addr} {vs : List Value} {Q : List Value → Shared → Prop} (hl : s.heap.IsTuple l vs.toArray)
    (h : Q vs { s with heap := (s.heap.push (seqObj "list" #[] 0)).update s.heap.objs.size (Obj.mapSeq (· ++ vs.toArray)) }) (hsz : vs.length ≤ sizeLine) :
    wpAny (model prog w) A (collect (.ref l)) Q E s := by
  obtain ⟨o, ho, hc, n, hd⟩ := id hl
  unfold collect
  refine wpAny_bind (wpAny_runValue (codeAny_builtin entry_proto_collect' ?_))
  show wpAny _ _ (do again (.builtin "list.__iadd__" ⟨[← newList [], .ref l], []⟩)) _ _ s
  refine wpAny_bind (wpAny_newList (wpAny_pure ⟨Code.quiet_builtin _ (by decide +kernel), codeAny_builtin entry_list_iadd' ?_⟩))
  show wpAny _ _ (Builtin.List.listExtendWith (.ref s.heap.objs.size) (.ref l) (.ref s.heap.objs.size)) _ _ { s with heap := s.heap.push (seqObj "list" #[] 0) }
  unfold Builtin.List.listExtendWith
  have ho' : (s.heap.push (seqObj "list" #[] 0)).get? l = some o := Heap.get?_push_of_some _ ho
  refine wpAny_bind (wpAny_typeOf (T := "tuple") ⟨o, ho', hc⟩ ?_)
  have ht : (Value.type "tuple" == Value.type "tuple") = true := by rfl
  rw [if_pos (by rw [ht]; simp)]
  refine wpAny_bind (listItems_at ho' hd ?_)
  refine wpAny_bind (listItems_at (xs := #[]) (n := 0) (Heap.get?_push_size _ rfl) rfl ?_)
  rw [if_neg (by simp)]
  refine wpAny_bind (listUpdate_at (xs := #[]) (n := 0) (Heap.get?_push_size _ rfl) rfl ?_ (Nat.zero_le _) (by show (#[] ++ vs.toArray).size ≤ sizeLine + 1; simp only [Array.size_append, List.size_toArray, List.length_nil]; omega))
  refine wpAny_pure ?_
  show wpAny (model prog w) A (do
      let o ← load s.heap.objs.size
      match o.data with
      | .seq xs _ => pure xs.toList
      | _ => unsupported "internal:collect") Q E { s with heap := (s.heap.push (seqObj "list" #[] 0)).update s.heap.objs.size (Obj.mapSeq (· ++ vs.toArray)) }
  refine wpAny_bind (wpAny_load (get?_update_seq (Heap.get?_push_size _ rfl) _) ?_)
  show wpAny _ _ (pure ((#[] : Array Value) ++ vs.toArray).toList) Q E _
  rw [show ((#[] : Array Value) ++ vs.toArray).toList = vs by simp]
  exact wpAny_pure h
theorem ev_sorted_of_tuple {l : Addr} {vs : List Value} {kw : List (Str × Value)} {Q : Value → Shared → Prop} (hl : s.heap.IsTuple l vs.toArray) (hL : vs.length ≤ sizeLine) (ha1 : argsOk "sorted" ⟨[.ref l], kw⟩) (ha2 : ∀ x, argsOk "list.sort" ⟨[.ref x], kw⟩)
    (body : ∀ E' : Value → Shared → Prop, wpAny (model prog w) A.in1.in1 (Builtin.«list.sort» ⟨[.ref (s.heap.objs.size + 1)], kw⟩) (fun f s' => f = .done (.ret .none) ∧ Q (.ref (s.heap.objs.size + 1)) s') E' { s with heap := copyHeap s.heap vs }) :
    wpAny (model prog w) A (call (.builtin "sorted") [.ref l] kw) Q E s := by
  refine call_function_entry_kw kind_sorted plain_sorted entry_sorted ha1 ?_
  unfold Builtin.«sorted»
  refine wpAny_bind (m := checkCount "sorted" 1 1 _) (wpAny_pure ?_)
  refine wpAny_bind (ev_collect_tuple hl ?_ hL)
  refine wpAny_bind (wpAny_newList ?_ hL)
  have hsz : ((s.heap.push (seqObj "list" #[] 0)).update s.heap.objs.size (Obj.mapSeq (· ++ vs.toArray))).objs.size = s.heap.objs.size + 1 := by
    rw [Heap.size_update, size_push']
  show wpAny _ _ _ _ _ { s with heap := copyHeap s.heap vs }
  rw [hsz]
  refine wpAny_bind (wpAny_holding (wpAny_call_entry_kw slot_list_sort ⟨_, copyHeap_at s.heap vs, rfl⟩ entry_list_sort ?body (ha2 _)))
  case body =>
    show wpAny (model prog w) A.in1.in1 (Builtin.«list.sort» ⟨[.ref (s.heap.objs.size + 1)], kw⟩) _ _ _
    refine wpAny_mono (body _) (fun f s' hf => ?_) fun _ _ e => e
    obtain ⟨rfl, hq⟩ := hf
    exact ⟨_, rfl, wpAny_pure ⟨_, rfl, hq⟩⟩
theorem ev_sorted_tuple_data {β : Type} {vs : List Value} {bs : List β} {enc : β → PyData} {R : Value → β → Prop} {l : Addr} {Q : Value → Shared → Prop} (hl : s.heap.IsTuple l vs.toArray) (e : EachIs R vs bs) (er : EachIs (fun v b => ∃ as, Reads s.heap v (enc b) as) vs bs) (hal : AllAlike (bs.map enc)) (hk : Sortable (bs.map enc)) (hL : bs.length ≤ sizeLine)
    (hu : ∀ b, b ∈ bs → A.units + 2 + (enc b).depth < cLine) (h : ∀ out, out.length = bs.length → EachIs R out (bs.mergeSort (dataLe false enc)) → Q (.ref (s.heap.objs.size + 1)) { s with heap := sortedAll s.heap vs (List.toArray out) }) :
    wpAny (model prog w) A (call (.builtin "sorted") [.ref l]) Q E s := by
  have er' : EachIs (fun v b => ∃ as, Reads (sortingHeap (copyHeap s.heap vs) (s.heap.objs.size + 1) vs) v (enc b) as) vs bs := er.mono fun _ _ ⟨as, r⟩ => ⟨as, PyProof.Rows.Reads.keeps (fun _ _ => sorting_copy_old) r⟩
  have S : SortsAt prog w A.in1.in1 { s with heap := sortingHeap (copyHeap s.heap vs) (s.heap.objs.size + 1) vs } _ vs := SortsAt.data (s := { s with heap := sortingHeap (copyHeap s.heap vs) (s.heap.objs.size + 1) vs }) (each_map (R := fun v d => ∃ as, Reads (sortingHeap (copyHeap s.heap vs) (s.heap.objs.size + 1) vs) v d as) enc er') hal hk (bound_map hu)
  refine ev_sorted_of_tuple hl (by rw [e.length]; exact hL) (args_sorted1 _) (fun _ => args_list_sort _) fun _ => list_sort_vals (s := { s with heap := copyHeap s.heap vs }) (copyHeap_at s.heap vs) S (by rw [e.length]; exact hL) ⟨rfl, ?_⟩
  exact h _ (by rw [sortVals_length false rfl]; exact e.length) (sortVals_data false e er' hal)
end
end PySem.W
namespace Ev
open PySem PySem.Spec PyProof.Rows L2
def rCall (K : PySem.W.Frag) (f : List D → Option Rv) : List V → Hp → VK → Prop := fun xs H Q => ∃ ds F rv, Paired (VR K F H) xs ds ∧ Same F H ∧ f ds = some rv ∧ ∀ v H', NewR K F H v H' rv → Q v H'
def biId : Bi → Value
  | .len => .builtin "len"
  | .abs => .builtin "abs"
  | .int => .type "int"
  | .str => .type "str"
  | .max => .builtin "max"
  | .min => .builtin "min"
  | .sum => .builtin "sum"
  | .all => .builtin "all"
  | .any => .builtin "any"
  | .sorted => .builtin "sorted"
  | .tuple => .type "tuple"
  | .list => .type "list"
  | .max2 => .builtin "max"
  | .min2 => .builtin "min"
  | .bool => .type "bool"
def biNm : Bi → Str
  | .len => "len"
  | .abs => "abs"
  | .int => "int"
  | .str => "str"
  | .max => "max"
  | .min => "min"
  | .sum => "sum"
  | .all => "all"
  | .any => "any"
  | .sorted => "sorted"
  | .tuple => "tuple"
  | .list => "list"
  | .max2 => "max"
  | .min2 => "min"
  | .bool => "bool"
theorem pair1 {α β : Type} {G : α → β → Prop} {xs : List α} {b : β} (h : Paired G xs [b]) : ∃ a, xs = [a] ∧ G a b := by
  cases h with
  | cons h t => cases t; exact ⟨_, rfl, h⟩
theorem pair2 {α β : Type} {G : α → β → Prop} {xs : List α} {b c : β} (h : Paired G xs [b, c]) : ∃ a a', xs = [a, a'] ∧ G a b ∧ G a' c := by
  cases h with
  | cons h t =>
    obtain ⟨a', rfl, h'⟩ := pair1 t
    exact ⟨_, _, rfl, h, h'⟩
theorem intsOf_ok {K : PySem.W.Frag} {F : Hp} : ∀ {ds : List D} {vs : List V} {ns : List Int}, DpAll K F vs ds → intsOf ds = some ns → vs = ns.map V.int
  | _, _, _, .nil, e => by
    simp only [intsOf, Option.some.injEq] at e
    subst e
    rfl
  | _, _, ns, .cons (d := d) h t, e => by
    cases h with
    | int i =>
      simp only [intsOf, Option.map_eq_some_iff] at e
      obtain ⟨ms, e1, rfl⟩ := e
      rw [intsOf_ok t e1]
      rfl
    | _ => simp [intsOf] at e
section
variable {X : Cx} {pins : List (Addr × Obj)} {σ : L2.St} {H F : Hp} {s : Shared}
theorem sortOk_ok {xs : List D} (h : sortOk xs = true) : PySem.W.AllAlike xs ∧ PySem.W.Sortable xs ∧ (∀ d ∈ xs, d.depth ≤ 60) ∧ xs.length ≤ sizeLine := by
  simp only [sortOk, Bool.and_eq_true] at h
  obtain ⟨⟨⟨h1, h2⟩, h3⟩, h4⟩ := h
  refine ⟨fun d hd d' hd' => ?_, ?_, fun d hd => ?_, lenOk_le h4⟩
  · simp only [allAlike, List.all_eq_true] at h1
    exact h1 d hd d' hd'
  · simp only [sortable, Bool.or_eq_true, List.all_eq_true] at h2
    rcases h2 with h2 | h2
    · refine .inl fun d hd => ?_
      have q := h2 d hd
      split at q
      · exact ⟨_, _, rfl⟩
      · cases q
    · refine .inr fun d hd => ?_
      have q := h2 d hd
      split at q
      · cases q
      · cases q
      · rename_i a b
        exact ⟨a, b⟩
  · simp only [allShal, List.all_eq_true] at h3
    exact of_decide_eq_true (h3 d hd)
/-- values and data, one by one -/
def EachD (K : PySem.W.Frag) (F : Hp) : Value → D → Prop := fun v d => ∃ x, RelV x v ∧ Dp K F x d
theorem eachD_of {K : PySem.W.Frag} {F : Hp} : ∀ {vs : List V} {its : List Value} {ds : List D}, Vals vs its → DpAll K F vs ds → PySem.W.EachIs (EachD K F) its ds
  | _, _, _, .nil, .nil => .nil
  | _, _, _, .cons r rs, .cons d ds => .cons ⟨_, r, d⟩ (eachD_of rs ds)
theorem of_eachD {K : PySem.W.Frag} {F : Hp} : ∀ {its : List Value} {ds : List D}, PySem.W.EachIs (EachD K F) its ds → ∃ vs, Vals vs its ∧ DpAll K F vs ds
  | _, _, .nil => ⟨[], .nil, .nil⟩
  | _, _, .cons ⟨x, r, d⟩ t => by
    obtain ⟨vs, h1, h2⟩ := of_eachD t
    exact ⟨x :: vs, .cons r h1, .cons d h2⟩
theorem eachD_reads (I : Inv X pins σ H s) (sm : Same F H) : ∀ {its : List Value} {ds : List D}, PySem.W.EachIs (EachD X.K F) its ds → PySem.W.EachIs (fun v d => ∃ as, Reads s.heap v (id d) as) its ds
  | _, _, .nil => .nil
  | _, _, .cons ⟨x, r, d⟩ t => .cons (L2.Dp.reads I _ x _ (Dp.old (dp_mono sm d)) r) (eachD_reads I sm t)
theorem sortD_eq (xs : List D) : xs.mergeSort (PySem.W.dataLe false id) = sortD xs := by
  unfold sortD
  rw [PySem.W.dataLe_eq]
  rfl
theorem sorted_fin {Q : VK} {ds : List D} {its : List Value} (I : Inv X pins σ H s) (q : ∀ p vs, H p = none → DpAll X.K F vs (sortD ds) → Q (.ref p) (upd H p (.lst vs))) (hl : ds.length ≤ sizeLine) :
    ∀ out : List Value, out.length = ds.length → PySem.W.EachIs (EachD X.K F) out (ds.mergeSort (PySem.W.dataLe false id)) → EP X pins σ Q (.ref (s.heap.objs.size + 1)) { s with heap := sortedAll s.heap its out.toArray } := by
  intro out ho he
  rw [sortD_eq] at he
  obtain ⟨vs, r, d⟩ := of_eachD he
  obtain ⟨e, hat⟩ := sortedAll_at s.heap its out.toArray
  have hz : vs.length ≤ sizeLine := by rw [r.length, ho]; exact hl
  refine ⟨.ref (s.heap.objs.size + 1), _, I.laid (a := s.heap.objs.size + 1) (o := .lst vs) (t' := s.toks) (fun b o q => sortedAll_old q) (Nat.le_succ _) ?_, rfl, q _ vs (I.hok.fresh (Nat.le_succ _)) d⟩
  exact ⟨hz, out, e, r, hat⟩
theorem boolsOf_ok {K : PySem.W.Frag} {F : Hp} : ∀ {ds : List D} {vs : List V} {ns : List Bool}, DpAll K F vs ds → boolsOf ds = some ns → vs = ns.map V.bl
  | _, _, _, .nil, e => by
    simp only [boolsOf, Option.some.injEq] at e
    subst e
    rfl
  | _, _, ns, .cons (d := d) h t, e => by
    cases h with
    | bl i =>
      simp only [boolsOf, Option.map_eq_some_iff] at e
      obtain ⟨ms, e1, rfl⟩ := e
      rw [boolsOf_ok t e1]
      rfl
    | _ => simp [boolsOf] at e
theorem intsOf_map : ∀ {ds : List D} {ns : List Int}, intsOf ds = some ns → ds = ns.map .int
  | [], _, e => by
    simp only [intsOf, Option.some.injEq] at e
    subst e
    rfl
  | d :: ds, ns, e => by
    cases d with
    | int i =>
      simp only [intsOf, Option.map_eq_some_iff] at e
      obtain ⟨ms, e1, rfl⟩ := e
      rw [intsOf_map e1]
      rfl
    | _ => simp [intsOf] at e
theorem alikeAll_ints (ns : List Int) : PySem.W.AlikeAll (ns.map PyData.int) := by
  refine ⟨fun x hx y hy => ?_, fun x hx => ?_⟩
  · obtain ⟨i, _, rfl⟩ := List.mem_map.mp hx
    obtain ⟨j, _, rfl⟩ := List.mem_map.mp hy
    simp [PySem.W.alike]
  · obtain ⟨i, _, rfl⟩ := List.mem_map.mp hx
    exact fun z => by cases z
theorem one_arg {b : Bi} {xs : List V} {us : List Value} {Q : VK} (r : Vals xs us) (h : rCall X.K (biD b) xs H Q) (h2 : bi2 b = fun _ _ => none) :
    ∃ x u d F rv, xs = [x] ∧ us = [u] ∧ RelV x u ∧ VR X.K F H x d ∧ Same F H ∧ bi1 b d = some rv ∧ ∀ v H', NewR X.K F H v H' rv → Q v H' := by
  obtain ⟨ds, F, rv, hp, sm, e, q⟩ := h
  cases hp with
  | nil => cases e
  | cons hx ht =>
    cases ht with
    | cons _ hz =>
      cases hz with
      | nil => simp only [biD, h2] at e; cases e
      | cons _ _ => cases e
    | nil =>
      cases r with
      | cons rx rn =>
        cases rn
        exact ⟨_, _, _, F, rv, rfl, rfl, rx, hx, sm, e, q⟩
theorem two_args {b : Bi} {xs : List V} {us : List Value} {Q : VK} (r : Vals xs us) (h : rCall X.K (biD b) xs H Q) (h1 : bi1 b = fun _ => none) :
    ∃ x y u w d e F rv, xs = [x, y] ∧ us = [u, w] ∧ RelV x u ∧ RelV y w ∧ VR X.K F H x d ∧ VR X.K F H y e ∧ Same F H ∧ bi2 b d e = some rv ∧ ∀ v H', NewR X.K F H v H' rv → Q v H' := by
  obtain ⟨ds, F, rv, hp, sm, e, q⟩ := h
  cases hp with
  | nil => cases e
  | cons hx ht =>
    cases ht with
    | nil => simp only [biD, h1] at e; cases e
    | cons hy hz =>
      cases hz with
      | cons _ _ => cases e
      | nil =>
        cases r with
        | cons rx rn =>
          cases rn with
          | cons ry rm =>
            cases rm
            exact ⟨_, _, _, _, _, _, F, rv, rfl, rfl, rx, ry, hx, hy, sm, e, q⟩
theorem cr_sortedD (hu : X.A.units + 100 < cLine) : CallR X (.builtin "sorted") (rCall X.K (biD .sorted)) := by
  intro pins s σ H xs us Q I r h
  obtain ⟨x, u, d, F, rv, rfl, rfl, rx, hx, sm, e, q⟩ := one_arg r h rfl
  have fin : ∀ {xs : List D}, sortOk xs = true → PySem.W.AllAlike (xs.map id) ∧ PySem.W.Sortable (xs.map id) ∧ (∀ b, b ∈ xs → X.A.units + 2 + (id b : D).depth < cLine) ∧ xs.length ≤ sizeLine := by
    intro xs hs
    obtain ⟨h1, h2, h3, h4⟩ := sortOk_ok hs
    rw [List.map_id]
    exact ⟨h1, h2, fun b hb => by have := h3 b hb; show X.A.units + 2 + b.depth < cLine; omega, h4⟩
  cases d with
  | list xs =>
    simp only [bi1] at e
    split at e <;> cases e
    rename_i hs
    obtain ⟨a, vs, rfl, h1, h2⟩ := hx
    cases rx
    obtain ⟨its, rv', pl, hz⟩ := I.list h1
    have ea := eachD_of rv' h2
    obtain ⟨k1, k2, k3, k4⟩ := fin hs
    exact PySem.W.sorted_data pl.isList ea (eachD_reads I sm ea) k1 k2 k4 k3 (sorted_fin I (fun p vs hp hd => q _ _ (.lst hp hd)) k4)
  | tuple xs =>
    simp only [bi1] at e
    split at e <;> cases e
    rename_i hs
    obtain ⟨a, vs, rfl, h1, h2⟩ := hx.tup_
    cases rx
    obtain ⟨its, rv', pl, hz⟩ := I.tuple (same_sqt sm h1.sqt)
    have ea := eachD_of rv' h2
    obtain ⟨k1, k2, k3, k4⟩ := fin hs
    exact PySem.W.ev_sorted_tuple_data pl ea (eachD_reads I sm ea) k1 k2 k4 k3 (sorted_fin I (fun p vs hp hd => q _ _ (.lst hp hd)) k4)
  | _ => cases e
theorem cr_lenD : CallR X (.builtin "len") (rCall X.K (biD .len)) := by
  intro pins s σ H xs us Q I r h
  obtain ⟨x, u, d, F, rv, rfl, rfl, rx, hx, sm, e, q⟩ := one_arg r h rfl
  have r1 : Vals [x] [u] := .cons rx .nil
  cases d with
  | list ds =>
    cases e
    obtain ⟨a, vs, rfl, h1, h2⟩ := hx
    exact call_len_seq pins s σ H _ _ Q I r1 ⟨a, vs, rfl, .inl h1, by rw [dpAll_len h2]; exact q _ _ (.old (.int _))⟩
  | tuple ds =>
    cases e
    obtain ⟨a, vs, rfl, h1, h2⟩ := hx.tup_
    exact call_len_seq pins s σ H _ _ Q I r1 ⟨a, vs, rfl, .inr (same_sqt sm h1.sqt), by rw [dpAll_len h2]; exact q _ _ (.old (.int _))⟩
  | str z =>
    simp only [bi1] at e
    split at e <;> cases e
    rename_i hl
    cases hx.str_
    exact call_len_str pins s σ H _ _ Q I r1 ⟨z, rfl, lenOk_le hl, q _ _ (.old (.int _))⟩
  | _ => cases e
theorem cr_absD : CallR X (.builtin "abs") (rCall X.K (biD .abs)) := by
  intro pins s σ H xs us Q I r h
  obtain ⟨x, u, d, F, rv, rfl, rfl, rx, hx, sm, e, q⟩ := one_arg r h rfl
  have r1 : Vals [x] [u] := .cons rx .nil
  cases d <;> cases e
  cases hx.int_
  exact call_abs pins s σ H _ _ Q I r1 ⟨_, rfl, q _ _ (.old (.int _))⟩
theorem cr_intD : CallR X (.type "int") (rCall X.K (biD .int)) := by
  intro pins s σ H xs us Q I r h
  obtain ⟨x, u, d, F, rv, rfl, rfl, rx, hx, sm, e, q⟩ := one_arg r h rfl
  have r1 : Vals [x] [u] := .cons rx .nil
  cases d <;> cases e
  · cases hx.bool_
    exact call_int1 pins s σ H _ _ Q I r1 (.inr ⟨_, rfl, q _ _ (.old (.int _))⟩)
  · cases hx.int_
    exact call_int1 pins s σ H _ _ Q I r1 (.inl ⟨_, rfl, q _ _ (.old (.int _))⟩)
theorem cr_strD : CallR X (.type "str") (rCall X.K (biD .str)) := by
  intro pins s σ H xs us Q I r h
  obtain ⟨x, u, d, F, rv, rfl, rfl, rx, hx, sm, e, q⟩ := one_arg r h rfl
  have r1 : Vals [x] [u] := .cons rx .nil
  cases d with
  | int i =>
    simp only [bi1, strI] at e
    split at e <;> cases e
    rename_i hl
    cases hx.int_
    refine call_str_int pins s σ H _ _ Q I r1 ⟨i, rfl, ?_, q _ _ (.old (.str _))⟩
    exact Nat.lt_of_lt_of_le (PySem.Flt.log2_lt_of (by decide) (of_decide_eq_true hl)) (by decide)
  | _ => cases e
theorem cr_max2D (hc : X.calm = true) : CallR X (.builtin "max") (rCall X.K (biD .max2)) := by
  intro pins s σ H xs us Q I r h
  obtain ⟨x, y, u, w, d, e, F, rv, rfl, rfl, rx, ry, hx, hy, sm, e', q⟩ := two_args r h rfl
  have r1 : Vals [x, y] [u, w] := .cons rx (.cons ry .nil)
  cases d <;> cases e <;> cases e'
  cases hx.int_
  cases hy.int_
  exact call_max2 hc pins s σ H _ _ Q I r1 ⟨_, _, rfl, q _ _ (.old (.int _))⟩
theorem cr_min2D (hc : X.calm = true) : CallR X (.builtin "min") (rCall X.K (biD .min2)) := by
  intro pins s σ H xs us Q I r h
  obtain ⟨x, y, u, w, d, e, F, rv, rfl, rfl, rx, ry, hx, hy, sm, e', q⟩ := two_args r h rfl
  have r1 : Vals [x, y] [u, w] := .cons rx (.cons ry .nil)
  cases d <;> cases e <;> cases e'
  cases hx.int_
  cases hy.int_
  exact call_min2 hc pins s σ H _ _ Q I r1 ⟨_, _, rfl, q _ _ (.old (.int _))⟩
theorem cr_sumD (hc : X.calm = true) : CallR X (.builtin "sum") (rCall X.K (biD .sum)) := by
  intro pins s σ H xs us Q I r h
  obtain ⟨x, u, d, F, rv, rfl, rfl, rx, hx, sm, e, q⟩ := one_arg r h rfl
  have r1 : Vals [x] [u] := .cons rx .nil
  cases d with
  | list ds =>
    simp only [bi1, Option.map_eq_some_iff] at e
    obtain ⟨ns, e1, rfl⟩ := e
    obtain ⟨a, vs, rfl, h1, h2⟩ := hx
    have e2 := intsOf_ok h2 e1
    subst e2
    exact cr_sum hc pins s σ H _ _ Q I r1 ⟨a, ns, rfl, h1, q _ _ (.old (.int _))⟩
  | _ => cases e
theorem cr_allD (hc : X.calm = true) : CallR X (.builtin "all") (rCall X.K (biD .all)) := by
  intro pins s σ H xs us Q I r h
  obtain ⟨x, u, d, F, rv, rfl, rfl, rx, hx, sm, e, q⟩ := one_arg r h rfl
  have r1 : Vals [x] [u] := .cons rx .nil
  cases d with
  | list ds =>
    simp only [bi1, Option.map_eq_some_iff] at e
    obtain ⟨ns, e1, rfl⟩ := e
    obtain ⟨a, vs, rfl, h1, h2⟩ := hx
    have e2 := boolsOf_ok h2 e1
    subst e2
    exact cr_all hc pins s σ H _ _ Q I r1 ⟨a, ns, rfl, h1, q _ _ (.old (.bl _))⟩
  | _ => cases e
theorem cr_anyD (hc : X.calm = true) : CallR X (.builtin "any") (rCall X.K (biD .any)) := by
  intro pins s σ H xs us Q I r h
  obtain ⟨x, u, d, F, rv, rfl, rfl, rx, hx, sm, e, q⟩ := one_arg r h rfl
  have r1 : Vals [x] [u] := .cons rx .nil
  cases d with
  | list ds =>
    simp only [bi1, Option.map_eq_some_iff] at e
    obtain ⟨ns, e1, rfl⟩ := e
    obtain ⟨a, vs, rfl, h1, h2⟩ := hx
    have e2 := boolsOf_ok h2 e1
    subst e2
    exact cr_any hc pins s σ H _ _ Q I r1 ⟨a, ns, rfl, h1, q _ _ (.old (.bl _))⟩
  | _ => cases e
theorem cr_tupleD : CallR X (.type "tuple") (rCall X.K (biD .tuple)) := by
  intro pins s σ H xs us Q I r h
  obtain ⟨x, u, d, F, rv, rfl, rfl, rx, hx, sm, e, q⟩ := one_arg r h rfl
  have r1 : Vals [x] [u] := .cons rx .nil
  cases d with
  | list ds =>
    cases e
    obtain ⟨a, vs, rfl, h1, h2⟩ := hx
    cases rx
    obtain ⟨its, r', pl, hz⟩ := I.list h1
    have el := r'.length
    refine call_tuple_list pl.isList (fun hp' kp => ?_) (by simp only [List.size_toArray]; omega)
    have J : Inv X pins σ H { s with heap := hp' } := I.kept (t' := s.toks) kp
    exact ⟨.ref hp'.objs.size, _, good_laid J rfl r' hz (IsTup.new _ _), rfl, q _ _ (.tup (J.hok.fresh (Nat.le_refl _)) rfl h2)⟩
  | tuple ds =>
    cases e
    obtain ⟨a, vs, rfl, h1, h2⟩ := hx.tup_
    exact call_tuple_of pins s σ H _ _ Q I r1 ⟨a, vs, rfl, .inr ⟨same_sqt sm h1.sqt, q _ _ (.old (.tup h1 h2))⟩⟩
  | _ => cases e
theorem cr_listD : CallR X (.type "list") (rCall X.K (biD .list)) := by
  intro pins s σ H xs us Q I r h
  obtain ⟨x, u, d, F, rv, rfl, rfl, rx, hx, sm, e, q⟩ := one_arg r h rfl
  have r1 : Vals [x] [u] := .cons rx .nil
  cases d with
  | list ds =>
    cases e
    obtain ⟨a, vs, rfl, h1, h2⟩ := hx
    exact call_list_of pins s σ H _ _ Q I r1 ⟨a, vs, rfl, .inl h1, fun p hp => q _ _ (.lst hp h2)⟩
  | tuple ds =>
    cases e
    obtain ⟨a, vs, rfl, h1, h2⟩ := hx.tup_
    exact call_list_of pins s σ H _ _ Q I r1 ⟨a, vs, rfl, .inr (same_sqt sm h1.sqt), fun p hp => q _ _ (.lst hp h2)⟩
  | _ => cases e
theorem reads_int {h : Heap} {v : Value} {i : Int} {as : List Addr} (r : Reads h v (.int i) as) : ∃ t, v = .int i t := by
  cases r
  exact ⟨_, rfl⟩
theorem depth_ints0 (ns : List Int) : PyData.depthAll (ns.map PyData.int) = 0 := PySem.W.depth_ints ns
/-- the least, the greatest of ints -/
theorem cr_mm (hc : X.calm = true) (hu : X.A.units + 100 < cLine) : CallR X (.builtin "max") (rCall X.K (biD .max)) ∧ CallR X (.builtin "min") (rCall X.K (biD .min)) := by
  have main : ∀ {pins : List (Addr × Obj)} {s : Shared} {σ : L2.St} {H F : Hp} (I : Inv X pins σ H s) (sm : Same F H) {ns : List Int} {n : Int} {ds : List D} (e : intsOf ds = some (n :: ns)) {vs : List V} (h2 : DpAll X.K F vs ds) {its : List Value} (rv : Vals vs its),
      ∃ as, ReadsAll s.heap its.toArray.toList (PyData.int n :: ns.map .int) as := by
    intro pins s σ H F I sm ns n ds e vs h2 its rv
    have e2 := intsOf_map e
    subst e2
    obtain ⟨as, ra⟩ := L2.Dp.readsAll I _ _ its (DpAll.old (dpAll_mono sm h2)) rv
    exact ⟨as, by simpa using ra⟩
  refine ⟨?_, ?_⟩
  · intro pins s σ H xs us Q I r h
    obtain ⟨x, u, d, F, rv, rfl, rfl, rx, hx, sm, e, q⟩ := one_arg r h rfl
    have fin : ∀ {ns : List Int} {n : Int}, rv = .fr (.int (ns.foldl max n)) → ∀ (v : Value) (h' : Heap) (tk : Nat) (bs : List Addr), Reads h' v (PySem.W.maxD (.int n) (ns.map .int)) bs → (∀ b o, s.heap.get? b = some o → h'.get? b = some o) → EP X pins σ Q v { s with heap := h', toks := tk } := by
      intro ns n he v h' tk bs hr hk
      rw [PySem.W.maxD_ints] at hr
      obtain ⟨t, rfl⟩ := reads_int hr
      subst he
      exact ⟨.int _, H, I.kept (t' := tk) hk, ⟨t, rfl⟩, q _ _ (.old (.int _))⟩
    cases d with
    | list ds =>
      simp only [bi1, Option.bind_eq_some_iff] at e
      obtain ⟨ns, e1, e2⟩ := e
      cases ns with
      | nil => cases e2
      | cons n ns =>
        obtain ⟨a, vs, rfl, h1, h2⟩ := hx
        cases rx
        obtain ⟨its, r1, pl, hz⟩ := I.list h1
        obtain ⟨as, ra⟩ := main I sm e1 h2 r1
        refine PySem.W.max_list_data (I.ok.hd hc) pl.isList ra (alikeAll_ints (n :: ns)) (by have := depth_ints0 (n :: ns); rw [List.map_cons] at this; rw [this]; omega) fun i v h' tk bs _ hr hk => fin (Option.some.inj e2).symm v h' tk bs hr hk
    | tuple ds =>
      simp only [bi1, Option.bind_eq_some_iff] at e
      obtain ⟨ns, e1, e2⟩ := e
      cases ns with
      | nil => cases e2
      | cons n ns =>
        obtain ⟨a, vs, rfl, h1, h2⟩ := hx.tup_
        cases rx
        obtain ⟨its, r1, pl, hz⟩ := I.tuple (same_sqt sm h1.sqt)
        obtain ⟨as, ra⟩ := main I sm e1 h2 r1
        refine PySem.W.max_tuple_data (I.ok.hd hc) pl ra (alikeAll_ints (n :: ns)) (by have := depth_ints0 (n :: ns); rw [List.map_cons] at this; rw [this]; omega) fun i v h' tk bs _ hr hk => fin (Option.some.inj e2).symm v h' tk bs hr hk
    | _ => cases e
  · intro pins s σ H xs us Q I r h
    obtain ⟨x, u, d, F, rv, rfl, rfl, rx, hx, sm, e, q⟩ := one_arg r h rfl
    have fin : ∀ {ns : List Int} {n : Int}, rv = .fr (.int (ns.foldl min n)) → ∀ (v : Value) (h' : Heap) (tk : Nat) (bs : List Addr), Reads h' v (PySem.W.minD (.int n) (ns.map .int)) bs → (∀ b o, s.heap.get? b = some o → h'.get? b = some o) → EP X pins σ Q v { s with heap := h', toks := tk } := by
      intro ns n he v h' tk bs hr hk
      rw [PySem.W.minD_ints] at hr
      obtain ⟨t, rfl⟩ := reads_int hr
      subst he
      exact ⟨.int _, H, I.kept (t' := tk) hk, ⟨t, rfl⟩, q _ _ (.old (.int _))⟩
    cases d with
    | list ds =>
      simp only [bi1, Option.bind_eq_some_iff] at e
      obtain ⟨ns, e1, e2⟩ := e
      cases ns with
      | nil => cases e2
      | cons n ns =>
        obtain ⟨a, vs, rfl, h1, h2⟩ := hx
        cases rx
        obtain ⟨its, r1, pl, hz⟩ := I.list h1
        obtain ⟨as, ra⟩ := main I sm e1 h2 r1
        refine PySem.W.min_list_data (I.ok.hd hc) pl.isList ra (alikeAll_ints (n :: ns)) (by have := depth_ints0 (n :: ns); rw [List.map_cons] at this; rw [this]; omega) fun i v h' tk bs _ hr hk => fin (Option.some.inj e2).symm v h' tk bs hr hk
    | tuple ds =>
      simp only [bi1, Option.bind_eq_some_iff] at e
      obtain ⟨ns, e1, e2⟩ := e
      cases ns with
      | nil => cases e2
      | cons n ns =>
        obtain ⟨a, vs, rfl, h1, h2⟩ := hx.tup_
        cases rx
        obtain ⟨its, r1, pl, hz⟩ := I.tuple (same_sqt sm h1.sqt)
        obtain ⟨as, ra⟩ := main I sm e1 h2 r1
        refine PySem.W.min_tuple_data (I.ok.hd hc) pl ra (alikeAll_ints (n :: ns)) (by have := depth_ints0 (n :: ns); rw [List.map_cons] at this; rw [this]; omega) fun i v h' tk bs _ hr hk => fin (Option.some.inj e2).symm v h' tk bs hr hk
    | _ => cases e
/-- where nothing may be handled -/
def calmB : Bi → Bool
  | .max | .min | .sum | .all | .any | .max2 | .min2 => true
  | _ => false
/-- all of them -/
theorem cr_bi (b : Bi) (hc : calmB b = true → X.calm = true) (hu : X.A.units + 100 < cLine) (hb : b ≠ .bool) : CallR X (biId b) (rCall X.K (biD b)) := by
  cases b with
  | len => exact cr_lenD
  | abs => exact cr_absD
  | int => exact cr_intD
  | str => exact cr_strD
  | max => exact (cr_mm (hc rfl) hu).1
  | min => exact (cr_mm (hc rfl) hu).2
  | sum => exact cr_sumD (hc rfl)
  | all => exact cr_allD (hc rfl)
  | any => exact cr_anyD (hc rfl)
  | sorted => exact cr_sortedD hu
  | tuple => exact cr_tupleD
  | list => exact cr_listD
  | max2 => exact cr_max2D (hc rfl)
  | min2 => exact cr_min2D (hc rfl)
  | bool => exact absurd rfl hb
/-! ### isinstance -/
def tyId : Ty → String
  | .int => "int"
  | .bool => "bool"
  | .str => "str"
  | .tuple => "tuple"
  | .list => "list"
theorem isi_Int (d : D) : d.isInt = isiD d .int := by cases d <;> rfl
theorem isi_Bool (d : D) : d.isBool = isiD d .bool := by cases d <;> rfl
theorem isi_Str (d : D) : d.isStr = isiD d .str := by cases d <;> rfl
theorem isi_Tuple (d : D) : d.isTuple = isiD d .tuple := by cases d <;> rfl
theorem isi_List (d : D) : d.isList = isiD d .list := by cases d <;> rfl
theorem cr_isi (t : Ty) : CallR X (.builtin "isinstance") (fun xs H Q => ∃ x d F, xs = [x, .ty (tyId t)] ∧ VR X.K F H x d ∧ Same F H ∧ Q (.bl (isiD d t)) H) := by
  intro pins s σ H xs us Q I r h
  obtain ⟨x, d, F, rfl, hx, sm, q⟩ := h
  cases r with
  | @cons _ u _ _ rx rn =>
    cases rn with
    | cons ry rm =>
      cases rm
      cases ry
      obtain ⟨as, ra⟩ := L2.Dp.reads I d x u (Dp.old (hx.dp sm)) rx
      have fin : ∀ tk : Nat, EP X pins σ Q (.bool (isiD d t)) { s with toks := tk } := fun tk => ⟨.bl _, H, I.tok tk, rfl, q⟩
      have hd := dp_plain (hx.dp sm)
      cases t with
      | int => exact PySem.W.isinstance_int_data ra fun tk _ => (by rw [isi_Int]; exact fin tk)
      | bool => exact PySem.W.isinstance_bool_data ra fun tk _ => (by rw [isi_Bool]; exact fin tk)
      | str => exact PySem.W.isinstance_str_data ra fun tk _ => (by rw [isi_Str]; exact fin tk)
      | tuple => exact PySem.W.isinstance_tuple_data ra fun tk _ => (by rw [isi_Tuple]; exact fin tk)
      | list => exact PySem.W.isinstance_list_data ra fun tk _ => (by rw [isi_List]; exact fin tk)
/-! ### subscripts, slices, truth -/
def rIx2 (K : PySem.W.Frag) : R2 := fun x y H Q => ∃ d e F c, VR K F H x d ∧ VR K F H y e ∧ Same F H ∧ idxD d e = some c ∧ ∀ v, Dp K F v c → Q v H
theorem atI_dp {K : PySem.W.Frag} {F : Hp} {vs : List V} {ds : List D} (h : DpAll K F vs ds) {i : Int} {c : D} (e : atI ds i = some c) : ∃ v, atI vs i = some v ∧ Dp K F v c := by
  unfold atI at e ⊢
  rw [dpAll_len h]
  cases q : ixN ds.length i with
  | none => rw [q] at e; cases e
  | some j =>
    rw [q] at e
    exact dpAll_get h e
theorem ix_D : IxR X (rIx2 X.K) := by
  intro value slice pins s σ H x y v u Q I rx ry h hs
  obtain ⟨d, e, F, c, hx, hy, sm, he, q⟩ := h
  cases d with
  | list ds =>
    cases e with
    | int i =>
      obtain ⟨a, vs, rfl, h1, h2⟩ := hx
      cases hy.int_
      obtain ⟨w, h3, h4⟩ := atI_dp h2 he
      exact ix_list value slice pins s σ H _ _ v u Q I rx ry ⟨a, vs, i, w, rfl, rfl, h1, h3, q w h4⟩ hs
    | _ => cases he
  | tuple ds =>
    cases e with
    | int i =>
      obtain ⟨a, vs, rfl, h1, h2⟩ := hx.tup_
      cases hy.int_
      obtain ⟨w, h3, h4⟩ := atI_dp h2 he
      exact ix_tup value slice pins s σ H _ _ v u Q I rx ry ⟨a, vs, i, w, rfl, rfl, same_sqt sm h1.sqt, h3, q w h4⟩ hs
    | _ => cases he
  | _ => cases e <;> cases he
def rSl2 (K : PySem.W.Frag) : V → Option Int → Option Int → Hp → VK → Prop := fun x lo hi H Q => ∃ d F rv, VR K F H x d ∧ Same F H ∧ slcD d lo hi = some rv ∧ ∀ v H', NewR K F H v H' rv → Q v H'
theorem whole_cut (vs : List D) (lo hi : Option Int) (h : HT.sIx vs.length 0 lo = 0 ∧ HT.sIx vs.length vs.length hi = vs.length) : cutD vs lo hi = vs := by
  unfold cutD
  rw [h.1, h.2]
  simp
theorem sl_D : SlR X (rSl2 X.K) := by
  intro pins s σ H x v vl vu lo hi sl Q I rx hs pl pu h
  obtain ⟨d, F, rv, hx, sm, e, q⟩ := h
  cases d with
  | list ds =>
    cases e
    obtain ⟨a, vs, rfl, h1, h2⟩ := hx
    exact sl_list pins s σ H _ v vl vu lo hi sl Q I rx hs pl pu ⟨a, vs, rfl, h1, fun p hp => q _ _ (.lst hp (dpAll_cut h2 lo hi))⟩
  | tuple ds =>
    cases e
    obtain ⟨a, vs, rfl, h1, h2⟩ := hx.tup_
    by_cases hw : HT.sIx vs.length 0 lo = 0 ∧ HT.sIx vs.length vs.length hi = vs.length
    · refine sl_tupA pins s σ H _ v vl vu lo hi sl Q I rx hs pl pu ⟨a, vs, rfl, same_sqt sm h1.sqt, fun hw => q _ _ ?_, fun z => absurd hw z⟩
      rw [whole_cut ds lo hi (by rw [← dpAll_len h2]; exact hw)]
      exact .old (.tup h1 h2)
    · cases rx
      obtain ⟨its, rr, ht, hz⟩ := I.tuple (same_sqt sm h1.sqt)
      have hlen : its.toArray.size = vs.length := by rw [List.size_toArray]; exact rr.length.symm
      refine ⟨"tuple", _, PyProof.Rows.slot_tuple_getitem.lookup, ht.typeIs, HT.getItem_tuple_cut ht hs pl pu (by rw [hlen]; exact hw) ?_ (by rw [hlen]; exact hz)⟩
      rw [hlen]
      exact ⟨.ref s.heap.objs.size, _, good_laid I rfl ((rr.drop (HT.sIx vs.length 0 lo)).take (HT.sIx vs.length vs.length hi - HT.sIx vs.length 0 lo)) (Nat.le_trans (cutV_length vs lo hi) hz) (IsTup.new _ _), rfl, q _ _ (.tup (I.hok.fresh (Nat.le_refl _)) rfl (dpAll_cut h2 lo hi))⟩
  | _ => cases e
theorem truV_of {K : PySem.W.Frag} {F H : Hp} {x : V} {d : D} {b : Bool} (sm : Same F H) (h : VR K F H x d) (e : truD d = some b) : TruV K x H b := by
  cases d with
  | none => cases h.non_; cases e; rfl
  | bool c => cases h.bool_; cases e; rfl
  | int i => cases h.int_; cases e; rfl
  | str z =>
    simp only [truD] at e
    split at e <;> cases e
    rename_i hl
    cases h.str_
    refine ⟨lenOk_le hl, ?_⟩
    generalize z.length = n
    cases n with
    | zero => rfl
    | succ n =>
      have h1 : (n + 1 != 0) = true := by simp
      have h2 : ((((n + 1 : Nat) : Int)) != 0) = true := by simp; omega
      rw [h1, h2]
  | list xs =>
    cases e
    obtain ⟨a, vs, rfl, h1, h2⟩ := h
    refine .inl ⟨vs, h1, ?_⟩
    cases h2 <;> rfl
  | tuple xs =>
    cases e
    obtain ⟨a, vs, rfl, h1, h2⟩ := h.tup_
    refine .inr (.inl ⟨vs, same_sqt sm h1.sqt, ?_⟩)
    cases h2 <;> rfl
  | dict _ => cases e
end
end Ev

/-! Ev5: expressions. -/
namespace Ev
open PySem PySem.Spec PyProof.Rows L2
/-- the classes of errors: the class object, the name of its field -/
structure Xp where
  cl : Nat → Value
  nm : Nat → Str
def scV : D → Option V
  | .none => some .non
  | .bool b => some (.bl b)
  | .int i => some (.int i)
  | .str x => some (.str x)
  | _ => none
def XcR (nm : Str) (fs : List D) (d : Option Addr) (H : Hp) : Prop := match fs with
  | [] => d = none
  | x :: _ => ∃ a v, d = some a ∧ H a = some (.xd [(nm, v)]) ∧ scV x = some v
def Px (K : PySem.W.Frag) (xp : Xp) (W : WX) (F H : Hp) (A : List Addr) (σ : L2.St) (c : Nat) (fs : List D) (r' : Rho) : Prop :=
  ∀ d H' F' A', Stp F H A F' H' A' → Wf K F' H' σ r' A' [] → XcR (xp.nm c) fs d H' → W (xp.cl c) d σ H'
/-- what is wanted of an outcome -/
def PR {α : Type} (K : PySem.W.Frag) (xp : Xp) (W : WX) (F H : Hp) (A : List Addr) (σ : L2.St) (k : α → Rho → Hp → Hp → List Addr → Prop) : Res α → Prop
  | .ok a r' => ∀ F' H' A', Stp F H A F' H' A' → Wf K F' H' σ r' A' [] → k a r' F' H' A'
  | .ex c fs r' => Px K xp W F H A σ c fs r'
  | .bad => False
/-- .. of a result that may own -/
def PV (K : PySem.W.Frag) (xp : Xp) (W : WX) (F H : Hp) (A : List Addr) (σ : L2.St) (Q : VK) : Res Rv → Prop
  | .ok u r' => ∀ x F' H' A' B, Stp F H A F' H' (B ++ A') → Wf K F' H' σ r' A' B → RvR K F' H' x u B → Q x H'
  | .ex c fs r' => Px K xp W F H A σ c fs r'
  | .bad => False
def PVs (K : PySem.W.Frag) (xp : Xp) (W : WX) (F H : Hp) (A : List Addr) (σ : L2.St) (Q : List V → Hp → Prop) : Res (List Rv) → Prop
  | .ok us r' => ∀ xs F' H' A' B, Stp F H A F' H' (B ++ A') → Wf K F' H' σ r' A' B → RvRs K F' H' xs us B → Q xs H'
  | .ex c fs r' => Px K xp W F H A σ c fs r'
  | .bad => False
section
variable {K : PySem.W.Frag} {xp : Xp} {W : WX} {F H F1 H1 : Hp} {A A1 : List Addr} {σ : L2.St} {r : Rho} {α β : Type}
theorem Px.pre {c : Nat} {fs : List D} {r' : Rho} (s : Stp F H A F1 H1 A1) (h : Px K xp W F H A σ c fs r') : Px K xp W F1 H1 A1 σ c fs r' :=
  fun d H' F' A' s' w x => h d H' F' A' (s.trans s') w x
theorem PR.pre {k : α → Rho → Hp → Hp → List Addr → Prop} {x : Res α} (s : Stp F H A F1 H1 A1) (h : PR K xp W F H A σ k x) : PR K xp W F1 H1 A1 σ k x := by
  cases x with
  | ok a r' => exact fun F' H' A' s' w => h F' H' A' (s.trans s') w
  | ex c fs r' => exact Px.pre s h
  | bad => exact h
theorem PV.pre {Q : VK} {x : Res Rv} (s : Stp F H A F1 H1 A1) (h : PV K xp W F H A σ Q x) : PV K xp W F1 H1 A1 σ Q x := by
  cases x with
  | ok a r' => exact fun v F' H' A' B s' w => h v F' H' A' B (s.trans s') w
  | ex c fs r' => exact Px.pre s h
  | bad => exact h
theorem PVs.pre {Q : List V → Hp → Prop} {x : Res (List Rv)} (s : Stp F H A F1 H1 A1) (h : PVs K xp W F H A σ Q x) : PVs K xp W F1 H1 A1 σ Q x := by
  cases x with
  | ok a r' => exact fun v F' H' A' B s' w => h v F' H' A' B (s.trans s') w
  | ex c fs r' => exact Px.pre s h
  | bad => exact h
theorem PR.mono {k k' : α → Rho → Hp → Hp → List Addr → Prop} {x : Res α} (h : PR K xp W F H A σ k x) (m : ∀ a r' F' H' A', Stp F H A F' H' A' → Wf K F' H' σ r' A' [] → k a r' F' H' A' → k' a r' F' H' A') : PR K xp W F H A σ k' x := by
  cases x with
  | ok a r' => exact fun F' H' A' s' w => m a r' F' H' A' s' w (h F' H' A' s' w)
  | ex c fs r' => exact h
  | bad => exact h
theorem PV.mono {Q Q' : VK} {x : Res Rv} (h : PV K xp W F H A σ Q x) (m : ∀ v H', Q v H' → Q' v H') : PV K xp W F H A σ Q' x := by
  cases x with
  | ok a r' => exact fun v F' H' A' B s' w z => m _ _ (h v F' H' A' B s' w z)
  | ex c fs r' => exact h
  | bad => exact h
theorem PR.bind {k : β → Rho → Hp → Hp → List Addr → Prop} {x : Res α} {f : α → Rho → Res β} (h : PR K xp W F H A σ k (x.bind f)) : PR K xp W F H A σ (fun a r1 F1 H1 A1 => PR K xp W F1 H1 A1 σ k (f a r1)) x := by
  cases x with
  | ok a r' => exact fun F' H' A' s' w => PR.pre s' h
  | ex c fs r' => exact h
  | bad => exact h
theorem PV.bind {Q : VK} {x : Res α} {f : α → Rho → Res Rv} (h : PV K xp W F H A σ Q (x.bind f)) : PR K xp W F H A σ (fun a r1 F1 H1 A1 => PV K xp W F1 H1 A1 σ Q (f a r1)) x := by
  cases x with
  | ok a r' => exact fun F' H' A' s' w => PV.pre s' h
  | ex c fs r' => exact h
  | bad => exact h
theorem PVs.bind {Q : List V → Hp → Prop} {x : Res α} {f : α → Rho → Res (List Rv)} (h : PVs K xp W F H A σ Q (x.bind f)) : PR K xp W F H A σ (fun a r1 F1 H1 A1 => PVs K xp W F1 H1 A1 σ Q (f a r1)) x := by
  cases x with
  | ok a r' => exact fun F' H' A' s' w => PVs.pre s' h
  | ex c fs r' => exact h
  | bad => exact h
end

/-! ### what expressions promise -/
def OvR (K : PySem.W.Frag) (F : Hp) (σ : L2.St) (x : V) : OV → Prop
  | .d d => Dp K F x d
  | .sl i => σ[i]? = some (some x)
  | .io i => σ[i]? = some (some x)
def TV (K : PySem.W.Frag) (xp : Xp) (W : WX) (C : Cf) (e : E) : TE := fun σ H Q => ∃ r F A, Wf K F H σ r A [] ∧ PV K xp W F H A σ Q (evE C e r)
def TOp (K : PySem.W.Frag) (xp : Xp) (W : WX) (C : Cf) (e : E) : TE := fun σ H Q => ∃ r F A, Wf K F H σ r A [] ∧ PR K xp W F H A σ (fun o _ F' H' _ => ∀ x, OvR K F' σ x o → Q x H') (asO e (evE C e r) r)
def TTs (K : PySem.W.Frag) (xp : Xp) (W : WX) (C : Cf) (e : E) : TT := fun σ H Q => ∃ r F A, Wf K F H σ r A [] ∧ PR K xp W F H A σ (fun b _ _ H' _ => Q b H') (evT C e r)
def TAs (K : PySem.W.Frag) (xp : Xp) (W : WX) (C : Cf) (es : List E) : TA := fun σ H Q => ∃ r F A, Wf K F H σ r A [] ∧ PR K xp W F H A σ (fun os _ F' H' _ => ∀ xs, Paired (OvR K F' σ) xs os → Q xs H') (evOs C es r)
def TVsA (K : PySem.W.Frag) (xp : Xp) (W : WX) (C : Cf) (es : List E) : TA := fun σ H Q => ∃ r F A, Wf K F H σ r A [] ∧ PVs K xp W F H A σ Q (evVs C es r)
theorem pe_imp {X : Cx} {e : Expr} {t t' : TE} (h : PE X e t) (m : ∀ σ H Q, t' σ H Q → t σ H Q) : PE X e t' := ⟨fun pins s σ H Q I q => h.run pins s σ H Q I (m σ H Q q)⟩
theorem pt_imp {X : Cx} {e : Expr} {t t' : TT} (h : PT X e t) (m : ∀ σ H Q, t' σ H Q → t σ H Q) : PT X e t' := ⟨fun pins s σ H Q I q => h.run pins s σ H Q I (m σ H Q q)⟩
theorem pw_imp {X : Cx} {e : Expr} {t t' : TT} (h : PW X e t) (m : ∀ σ H Q, t' σ H Q → t σ H Q) : PW X e t' := ⟨fun wh pins s σ H Q I q => h.run wh pins s σ H Q I (m σ H Q q)⟩
theorem pa_imp {X : Cx} {es : List Expr} {t t' : TA} (h : PA X es t) (m : ∀ σ H Q, t' σ H Q → t σ H Q) : PA X es t' := ⟨fun pos pins s σ H Q I q => h.run pos pins s σ H Q I (m σ H Q q)⟩
theorem ps_imp {X : Cx} {st : Stmt} {t t' : TS} (h : PS X st t) (m : ∀ D σ H, t' D σ H → t D σ H) : PS X st t' := ⟨fun pins s σ H D I q => h.run pins s σ H D I (m D σ H q)⟩
theorem pss_imp {X : Cx} {st : List Stmt} {t t' : TS} (h : PSs X st t) (m : ∀ D σ H, t' D σ H → t D σ H) : PSs X st t' := ⟨fun pins s σ H D I q => h.run pins s σ H D I (m D σ H q)⟩

section
variable {K : PySem.W.Frag} {xp : Xp} {W : WX} {F H F1 H1 : Hp} {A A1 B : List Addr} {σ : L2.St} {r : Rho} {C : Cf}
/-- a slot's content taken out -/
theorem Wf.take_ {u : Rv} {i : Nat} (w : Wf K F H σ r A B) (e : r[i]? = some (some u)) : ∃ v B' A', σ[i]? = some (some v) ∧ RvR K F H v u B' ∧ Wf K F H σ (r.set i none) A' (B' ++ B) ∧ ∀ p, p ∈ A ↔ p ∈ B' ++ A' := by
  obtain ⟨v, B', A', h1, h2, h3, h4⟩ := w.env.get e
  have pm : (B ++ A).Perm (B' ++ B ++ A') := by
    refine (h3.append_left B).trans ?_
    rw [← List.append_assoc]
    exact List.Perm.append_right A' List.perm_append_comm
  exact ⟨v, B', A', h1, h2, ⟨h4, pm.nodup_iff.mp w.nd, fun p hp => w.dis p (pm.mem_iff.mpr hp), w.sm⟩, fun p => h3.mem_iff⟩
/-- .. put back -/
theorem Wf.give {u : Rv} {i : Nat} {v : V} {B' : List Addr} (w : Wf K F H σ r A (B' ++ B)) (e : r[i]? = some none) (hv : σ[i]? = some (some v)) (a : RvR K F H v u B') : ∃ A', Wf K F H σ (r.set i (some u)) A' B ∧ ∀ p, p ∈ A' ↔ p ∈ B' ++ A := by
  obtain ⟨A', h1, h2⟩ := w.env.back e a hv
  have pm : (B' ++ B ++ A).Perm (B ++ A') := by
    refine List.Perm.trans ?_ (h1.symm.append_left B)
    rw [← List.append_assoc]
    exact List.Perm.append_right A List.perm_append_comm
  exact ⟨A', ⟨h2, pm.nodup_iff.mp w.nd, fun p hp => w.dis p (pm.mem_iff.mpr hp), w.sm⟩, fun p => h1.mem_iff⟩
/-- .. stored anew -/
theorem Wf.store {u : Rv} {i : Nat} {v : V} {B' : List Addr} (w : Wf K F H σ r A (B' ++ B)) (e : i < r.length) (a : RvR K F H v u B') : ∃ A', Wf K F H (σ.set i (some v)) (r.set i (some u)) A' B ∧ ∀ p ∈ A', p ∈ B' ++ A := by
  obtain ⟨B0, A0, h0, h00⟩ := w.env.drop i
  obtain ⟨A', h1, h2⟩ := h00.put (i := i) (by rw [List.getElem?_set_self e]) a
  rw [List.set_set] at h2
  have pm : (B ++ A').Perm (B' ++ B ++ A0) := by
    refine (h1.append_left B).trans ?_
    rw [← List.append_assoc]
    exact List.Perm.append_right A0 List.perm_append_comm
  have sub : ∀ p, p ∈ A0 → p ∈ A := fun p hp => h0.mem_iff.mpr (List.mem_append_right _ hp)
  have nd0 : (B' ++ B ++ A0).Nodup := by
    have q := (h0.append_left (B' ++ B)).nodup_iff.mp w.nd
    rw [← List.append_assoc] at q
    rw [List.nodup_append] at q ⊢
    obtain ⟨q1, q2, q3⟩ := q
    rw [List.nodup_append] at q1
    exact ⟨q1.1, q2, fun x hx y hy => q3 x (List.mem_append_left _ hx) y hy⟩
  refine ⟨A', ⟨h2, pm.nodup_iff.mpr nd0, fun p hp => ?_, w.sm⟩, fun p hp => ?_⟩
  · rcases List.mem_append.mp (pm.mem_iff.mp hp) with z | z
    · exact w.dis p (List.mem_append_left _ z)
    · exact w.dis p (List.mem_append_right _ (sub p z))
  · rcases List.mem_append.mp (h1.mem_iff.mp hp) with z | z
    · exact List.mem_append_left _ z
    · exact List.mem_append_right _ (sub p z)
/-- a slot with frozen data -/
theorem Wf.slot_fr {d : D} {i : Nat} (w : Wf K F H σ r A B) (e : r[i]? = some (some (.fr d))) : ∃ v, σ[i]? = some (some v) ∧ Dp K F v d := by
  obtain ⟨v, B', A', h1, h2, h3, h4⟩ := w.env.get e
  cases h2 with
  | fr d => exact ⟨v, h1, d⟩
theorem Wf.slot_ow {xs : List D} {i : Nat} (w : Wf K F H σ r A B) (e : r[i]? = some (some (.ow (.lst xs)))) : ∃ p vs, σ[i]? = some (some (.ref p)) ∧ H p = some (.lst vs) ∧ DpAll K F vs xs ∧ p ∈ A := by
  obtain ⟨v, B', A', h1, h2, h3, h4⟩ := w.env.get e
  cases h2 with
  | ow o =>
    cases o with
    | lst a b => exact ⟨_, _, h1, a, b, h3.mem_iff.mpr (List.mem_append_left _ List.mem_cons_self)⟩
theorem OvR.vr {x : V} {o : OV} {d : D} (w : Wf K F H σ r A B) (h : OvR K F σ x o) (e : vw r o = some d) : VR K F H x d := by
  cases o with
  | d d' =>
    cases e
    exact VR.of w.sm h
  | sl i =>
    simp only [vw] at e
    split at e <;> cases e
    · rename_i q
      obtain ⟨v, h1, h2⟩ := w.slot_fr q
      have h : σ[i]? = some (some x) := h
      rw [h1] at h
      cases h
      exact VR.of w.sm h2
    · rename_i q
      obtain ⟨p, vs, h1, h2, h3, _⟩ := w.slot_ow q
      have h : σ[i]? = some (some x) := h
      rw [h1] at h
      cases h
      exact ⟨p, vs, rfl, SqL.of h2, h3⟩
  | io i => cases e
theorem OvR.mono {F' : Hp} {x : V} {o : OV} (s : Same F F') (h : OvR K F σ x o) : OvR K F' σ x o := by
  cases o with
  | d d' => exact dp_mono s h
  | sl i => exact h
  | io i => exact h
theorem OvRs.mono {F' : Hp} {xs : List V} {os : List OV} (s : Same F F') (h : Paired (OvR K F σ) xs os) : Paired (OvR K F' σ) xs os := by
  induction h with
  | nil => exact .nil
  | cons a _ ih => exact .cons (OvR.mono s a) ih
theorem OvRs.vrs {xs : List V} {os : List OV} (w : Wf K F H σ r A B) (h : Paired (OvR K F σ) xs os) : ∀ {ds : List D}, vws r os = some ds → Paired (VR K F H) xs ds := by
  induction h with
  | nil => intro ds e; cases e; exact .nil
  | @cons x o _ os' a _ ih =>
    intro ds e
    simp only [vws] at e
    split at e
    · rename_i d ds' e1 e2
      cases e
      exact .cons (a.vr w e1) (ih e2)
    · cases e
/-- a new result -/
theorem NewR.fin {v : V} {H' : Hp} {u : Rv} {Q : VK} (n : NewR K F H v H' u) (w : Wf K F H σ r A []) (h : PV K xp W F H A σ Q (.ok u r)) : Q v H' := by
  cases n with
  | old d => exact h v F _ A [] .refl w (.fr d)
  | @lst p vs ds hp d =>
    obtain ⟨w1, s1⟩ := w.alloc (o := .lst vs) (fun q hq => by cases hq) hp
    exact h _ F _ A [p] s1 w1 (.ow (.lst upd_same d))
  | @tup p vs ds o hp ho d =>
    obtain ⟨w1, s1⟩ := w.allocF (o := .frz o (.tup vs)) (fun q hq => by cases hq) hp
    refine h _ (upd F p (.frz o (.tup vs))) _ A [] s1 w1 (.fr (.tup (.inl ⟨o, upd_same, ho⟩) (dpAll_mono (fun q u e => ?_) d)))
    rw [upd_ne (ne_of_none (w.sm q u e) hp)]
    exact e
end
end Ev

/-! Ev6: each kind of expression. -/
namespace Ev
open PySem PySem.Spec PyProof.Rows L2
/-- what an expression's context gives -/
structure Cx0 (X : Cx) (N : List Str) (sc : Scope) : Prop where
  n : X.N = N
  scope : X.env.scope = sc
  nd : N.Nodup
  hu : X.A.units + 100 < cLine
def isOp : E → Bool
  | .bo _ => true
  | .io _ => true
  | _ => false
theorem asO_map {e : E} (h : isOp e = false) (x : Res Rv) (r : Rho) : asO e x r = x.map fun v => .d (fz v) := by
  cases e <;> first | rfl | cases h
section
variable {X : Cx} {N : List Str} {sc : Scope} {xp : Xp} {W : WX} {C : Cf} {ex ex2 ex3 : Expr} {a b c : E} {pos : Pos}
theorem sO_of (h : PE X ex (TV X.K xp W C a)) (ho : isOp a = false) : PE X ex (TOp X.K xp W C a) := by
  refine pe_imp h fun σ H Q ⟨r, F, A, w, q⟩ => ⟨r, F, A, w, ?_⟩
  rw [asO_map ho] at q
  cases e : evE C a r with
  | bad => rw [e] at q; exact q
  | ex c fs r' => rw [e] at q; exact q
  | ok v r' =>
    rw [e] at q
    intro x F' H' A' B s1 w1 rv
    have w1' : Wf X.K F' H' σ r' A' (B ++ []) := by rw [List.append_nil]; exact w1
    obtain ⟨w2, s2⟩ := w1'.freeze rv.live
    rw [List.append_nil] at s2
    have sF : Same F' (ext F' H' B) := s2.ff
    exact q _ _ _ (s1.trans s2) w2 x (RvR.frz sF (fun p hp => ext_in hp) rv)
theorem slotV {i : Nat} {x : Str} (c0 : Cx0 X N sc) (hN : N[i]? = some x) (hv : Vis sc x) (hd : (x == ("__debug__" : Str)) = false) (hcd : (x == ("__classdict__" : Str)) = false) : PE X (.Name x pos) (tVar i) :=
  pe_var (by rw [c0.n]; exact hN) (by rw [c0.scope]; exact hv) hd hcd
theorem sO_bo {i : Nat} {x : Str} (h : PE X ex (tVar i)) : PE X ex (TOp X.K xp W C (.bo i)) := by
  refine pe_imp h fun σ H Q ⟨r, F, A, w, q⟩ => ?_
  simp only [asO] at q
  split at q
  · rename_i u e
    obtain ⟨v, B', A', h1, h2, h3, h4⟩ := w.take_ e
    exact ⟨v, h1, q F H A .refl w v h1⟩
  · exact q.elim
theorem sO_io {i : Nat} {x : Str} (h : PE X ex (tVar i)) : PE X ex (TOp X.K xp W C (.io i)) := by
  refine pe_imp h fun σ H Q ⟨r, F, A, w, q⟩ => ?_
  simp only [asO] at q
  split at q
  · rename_i u e
    obtain ⟨v, B', A', h1, h2, h3, h4⟩ := w.take_ e
    exact ⟨v, h1, q F H A .refl w v h1⟩
  · exact q.elim
/-! ### names, constants -/
theorem sV_con {d : D} {v : V} (h : PE X ex (tC v)) (hd : scV d = some v) : PE X ex (TV X.K xp W C (.k d)) := by
  refine pe_imp h fun σ H Q ⟨r, F, A, w, q⟩ => ?_
  refine q v F H A [] .refl w (.fr ?_)
  cases d <;> cases hd
  · exact .non
  · exact .bl _
  · exact .int _
  · exact .str _
theorem sV_g {j : Nat} {d : D} {v : V} (h : PE X ex (tC v)) (hd : ∀ F, Dp X.K F v d) (hj : C.G[j]? = some d) : PE X ex (TV X.K xp W C (.g j)) := by
  refine pe_imp h fun σ H Q ⟨r, F, A, w, q⟩ => ?_
  simp only [evE, hj, Option.map_some, Res.opt] at q
  exact q v F H A [] .refl w (.fr (hd F))
theorem sV_v {i : Nat} (h : PE X ex (tVar i)) : PE X ex (TV X.K xp W C (.v i)) := by
  refine pe_imp h fun σ H Q ⟨r, F, A, w, q⟩ => ?_
  simp only [evE] at q
  split at q
  · rename_i u e
    split at q
    · rename_i d
      obtain ⟨v, h1, h2⟩ := w.slot_fr e
      exact ⟨v, h1, q v F H A [] .refl w (.fr h2)⟩
    · obtain ⟨v, B', A', h1, h2, h3, h4⟩ := w.take_ e
      refine ⟨v, h1, ?_⟩
      obtain ⟨w2, s2⟩ := h3.freeze h2.live
      have dz : Dp X.K (ext F H B') v (fz u) := RvR.frz s2.ff (fun p hp => ext_in hp) h2
      have hlt : i < r.length := (List.getElem?_eq_some_iff.mp e).1
      obtain ⟨A2, w3, m3⟩ := Wf.give (B' := []) (B := []) w2 (by rw [List.getElem?_set_self hlt]) h1 (RvR.fr dz)
      rw [List.set_set] at w3
      refine q v (ext F H B') H A2 [] ?_ w3 (.fr dz)
      refine s2.perm (fun p hp => (h4 p).mpr ?_) fun p hp => ?_
      · rw [List.append_nil] at hp
        exact hp
      · exact (m3 p).mp hp
  · exact q.elim
theorem sV_mv {i : Nat} (h : PE X ex (tVar i)) : PE X ex (TV X.K xp W C (.mv i)) := by
  refine pe_imp h fun σ H Q ⟨r, F, A, w, q⟩ => ?_
  simp only [evE] at q
  split at q
  · rename_i u e
    obtain ⟨v, B', A', h1, h2, h3, h4⟩ := w.take_ e
    rw [List.append_nil] at h3
    exact ⟨v, h1, q v F H A' B' (Stp.refl.perm (fun p hp => hp) fun p hp => (h4 p).mpr hp) h3 h2⟩
  · exact q.elim
/-! ### operations -/
theorem sV_bin {o : BOp} (ha : PE X ex (TOp X.K xp W C a)) (hb : PE X ex2 (TOp X.K xp W C b)) : PE X (.BinOp ex (bop o) ex2 pos) (TV X.K xp W C (.bin o a b)) := by
  refine pe_imp (pe_op (op_binD o) ha hb) fun σ H Q ⟨r, F, A, w, q⟩ => ?_
  simp only [evE] at q
  refine ⟨r, F, A, w, PR.mono (PV.bind q) fun oa r1 F1 H1 A1 s1 w1 q1 x ox => ?_⟩
  refine ⟨r1, F1, A1, w1, PR.mono (PV.bind q1) fun ob r2 F2 H2 A2 s2 w2 q2 y oy => ?_⟩
  split at q2
  · rename_i d e hd he
    cases hb : binD o d e with
    | none => rw [hb] at q2; exact q2.elim
    | some u =>
      rw [hb] at q2
      exact ⟨d, e, F2, u, (ox.mono s2.ff).vr w2 hd, oy.vr w2 he, w2.sm, hb, fun v H' n => n.fin w2 q2⟩
  · exact q2.elim
theorem sV_neg (ha : PE X ex (TOp X.K xp W C a)) : PE X (.UnaryOp .USub ex pos) (TV X.K xp W C (.neg a)) := by
  refine pe_imp (pe_un un_neg ha) fun σ H Q ⟨r, F, A, w, q⟩ => ?_
  simp only [evE] at q
  refine ⟨r, F, A, w, PR.mono (PV.bind q) fun oa r1 F1 H1 A1 s1 w1 q1 x ox => ?_⟩
  split at q1
  · rename_i i hi
    have e := (ox.vr w1 hi).int_
    subst e
    exact ⟨i, rfl, q1 _ F1 H1 A1 [] .refl w1 (.fr (.int _))⟩
  · exact q1.elim
theorem sV_cmp {o : COp} (c0 : Cx0 X N sc) (ha : PE X ex (TOp X.K xp W C a)) (hb : PE X ex2 (TOp X.K xp W C b)) (hm : behindInMarks (cop o) ex2 = false) : PE X (.Compare ex [cop o] [ex2] pos) (TV X.K xp W C (.cmp o a b)) := by
  refine pe_imp (pe_cmpR (op_cmpD c0.hu o) ha hb hm) fun σ H Q ⟨r, F, A, w, q⟩ => ?_
  simp only [evE] at q
  refine ⟨r, F, A, w, PR.mono (PV.bind q) fun oa r1 F1 H1 A1 s1 w1 q1 x ox => ?_⟩
  refine ⟨r1, F1, A1, w1, PR.mono (PV.bind q1) fun ob r2 F2 H2 A2 s2 w2 q2 y oy => ?_⟩
  split at q2
  · rename_i d e hd he
    cases hb : cmpD o d e with
    | none => rw [hb] at q2; exact q2.elim
    | some k =>
      rw [hb] at q2
      exact ⟨d, e, F2, k, (ox.mono s2.ff).vr w2 hd, oy.vr w2 he, w2.sm, hb, q2 _ F2 H2 A2 [] .refl w2 (.fr (.bl _))⟩
  · exact q2.elim
theorem sV_chain {o p : COp} (c0 : Cx0 X N sc) (ha : PE X ex (TOp X.K xp W C a)) (hb : PE X ex2 (TOp X.K xp W C b)) (hc : PE X ex3 (TOp X.K xp W C c)) (hm : lastMarks [cop o, cop p] [ex2, ex3] = false) :
    PE X (.Compare ex [cop o, cop p] [ex2, ex3] pos) (TV X.K xp W C (.chain o p a b c)) := by
  refine pe_imp (pe_chain (op_cmpD c0.hu o) (op_cmpD c0.hu p) ha hb hc hm) fun σ H Q ⟨r, F, A, w, q⟩ => ?_
  simp only [evE] at q
  refine ⟨r, F, A, w, PR.mono (PV.bind q) fun oa r1 F1 H1 A1 s1 w1 q1 x ox => ?_⟩
  refine ⟨r1, F1, A1, w1, PR.mono (PV.bind q1) fun ob r2 F2 H2 A2 s2 w2 q2 y oy => ?_⟩
  split at q2
  · rename_i d e hd he
    cases hb : cmpD o d e with
    | none => rw [hb] at q2; exact q2.elim
    | some k =>
      rw [hb] at q2
      refine ⟨d, e, F2, k, (ox.mono s2.ff).vr w2 hd, oy.vr w2 he, w2.sm, hb, k, rfl, ?_⟩
      cases k with
      | false => exact iteF (q2 _ F2 H2 A2 [] .refl w2 (.fr (.bl _)))
      | true =>
        refine iteT ⟨r2, F2, A2, w2, PR.mono (PV.bind q2) fun oc r3 F3 H3 A3 s3 w3 q3 z oz => ?_⟩
        split at q3
        · rename_i e' f he' hf
          cases hb : cmpD p e' f with
          | none => rw [hb] at q3; exact q3.elim
          | some k =>
            rw [hb] at q3
            exact ⟨e', f, F3, k, (oy.mono s3.ff).vr w3 he', oz.vr w3 hf, w3.sm, hb, q3 _ F3 H3 A3 [] .refl w3 (.fr (.bl _))⟩
        · exact q3.elim
  · exact q2.elim
theorem non_iff {K : PySem.W.Frag} {F H : Hp} {x : V} {d : D} (h : VR K F H x d) : decide (x = .non) = isNn d := by
  cases d with
  | none => cases h.non_; rfl
  | bool _ => cases h.bool_; rfl
  | int _ => cases h.int_; rfl
  | str _ => cases h.str_; rfl
  | list _ => obtain ⟨a, vs, rfl, _⟩ := h; rfl
  | tuple _ => obtain ⟨a, vs, rfl, _⟩ := h.tup_; rfl
  | dict _ => cases (show Dp K F x (.dict _) from h)
theorem sV_isN {k : Nat} {p2 : Pos} (ha : PE X ex (TOp X.K xp W C a)) : PE X (.Compare ex [.Is] [.Constant .none k p2] pos) (TV X.K xp W C (.isN a)) := by
  refine pe_imp (pe_cmp (pc_isN ha) rfl) fun σ H Q ⟨r, F, A, w, q⟩ => ?_
  simp only [evE] at q
  refine ⟨r, F, A, w, PR.mono (PV.bind q) fun oa r1 F1 H1 A1 s1 w1 q1 x ox => ?_⟩
  split at q1
  · rename_i d hd
    rw [non_iff (ox.vr w1 hd)]
    exact q1 _ F1 H1 A1 [] .refl w1 (.fr (.bl _))
  · exact q1.elim
theorem sV_notN {k : Nat} {p2 : Pos} (ha : PE X ex (TOp X.K xp W C a)) : PE X (.Compare ex [.IsNot] [.Constant .none k p2] pos) (TV X.K xp W C (.notN a)) := by
  refine pe_imp (pe_cmp (pc_notN ha) rfl) fun σ H Q ⟨r, F, A, w, q⟩ => ?_
  simp only [evE] at q
  refine ⟨r, F, A, w, PR.mono (PV.bind q) fun oa r1 F1 H1 A1 s1 w1 q1 x ox => ?_⟩
  split at q1
  · rename_i d hd
    rw [non_iff (ox.vr w1 hd)]
    exact q1 _ F1 H1 A1 [] .refl w1 (.fr (.bl _))
  · exact q1.elim
theorem sV_and {rest : List Expr} (ha : PE X ex (TOp X.K xp W C a)) (hb : PE X (.BoolOp .And (ex2 :: rest) pos) (TV X.K xp W C b)) : PE X (.BoolOp .And (ex :: ex2 :: rest) pos) (TV X.K xp W C (.and a b)) := by
  refine pe_imp (pe_and ha hb) fun σ H Q ⟨r, F, A, w, q⟩ => ?_
  simp only [evE] at q
  refine ⟨r, F, A, w, PR.mono (PV.bind q) fun oa r1 F1 H1 A1 s1 w1 q1 x ox => ?_⟩
  split at q1
  · rename_i k hk
    refine ⟨k, (ox.vr w1 hk).bool_, ?_⟩
    cases k with
    | true => exact iteT ⟨r1, F1, A1, w1, q1⟩
    | false => exact iteF (q1 _ F1 H1 A1 [] .refl w1 (.fr (.bl _)))
  · exact q1.elim
theorem sV_or {rest : List Expr} (ha : PE X ex (TOp X.K xp W C a)) (hb : PE X (.BoolOp .Or (ex2 :: rest) pos) (TV X.K xp W C b)) : PE X (.BoolOp .Or (ex :: ex2 :: rest) pos) (TV X.K xp W C (.or a b)) := by
  refine pe_imp (pe_or ha hb) fun σ H Q ⟨r, F, A, w, q⟩ => ?_
  simp only [evE] at q
  refine ⟨r, F, A, w, PR.mono (PV.bind q) fun oa r1 F1 H1 A1 s1 w1 q1 x ox => ?_⟩
  split at q1
  · rename_i k hk
    refine ⟨k, (ox.vr w1 hk).bool_, ?_⟩
    cases k with
    | true => exact iteT (q1 _ F1 H1 A1 [] .refl w1 (.fr (.bl _)))
    | false => exact iteF ⟨r1, F1, A1, w1, q1⟩
  · exact q1.elim
theorem sV_one {op : BoolOp} {t : TE} (h : PE X ex t) : PE X (.BoolOp op [ex] pos) t := pe_one h
theorem sV_not (ha : PE X ex (TOp X.K xp W C a)) : PE X (.UnaryOp .Not ex pos) (TV X.K xp W C (.not a)) := by
  refine pe_imp (pe_notT ha) fun σ H Q ⟨r, F, A, w, q⟩ => ?_
  simp only [evE, tstO] at q
  have q : PV X.K xp W F H A σ Q ((asO a (evE C a r) r).bind fun o r1 => (Res.opt ((vw r1 o).bind truD) r1).bind fun c r1 => .ok (.fr (.bool (!c))) r1) := by
    cases e : asO a (evE C a r) r with
    | ok o r1 => rw [e] at q; exact q
    | ex _ _ _ => rw [e] at q; exact q
    | bad => rw [e] at q; exact q
  refine ⟨r, F, A, w, PR.mono (PV.bind q) fun oa r1 F1 H1 A1 s1 w1 q1 x ox => ?_⟩
  cases hd : vw r1 oa with
  | none => rw [hd] at q1; exact q1.elim
  | some d =>
    cases ht : truD d with
    | none => rw [hd] at q1; simp only [Option.bind_some, ht] at q1; exact q1.elim
    | some k =>
      rw [hd] at q1
      simp only [Option.bind_some, ht] at q1
      exact ⟨k, truV_of w1.sm (ox.vr w1 hd) ht, q1 _ F1 H1 A1 [] .refl w1 (.fr (.bl _))⟩
theorem sV_idx (ha : PE X ex (TOp X.K xp W C a)) (hb : PE X ex2 (TOp X.K xp W C b)) (hs : PlainIx ex2) : PE X (.Subscript ex ex2 pos) (TV X.K xp W C (.idx a b)) := by
  refine pe_imp (pe_ix ix_D ha hb hs) fun σ H Q ⟨r, F, A, w, q⟩ => ?_
  simp only [evE] at q
  refine ⟨r, F, A, w, PR.mono (PV.bind q) fun oa r1 F1 H1 A1 s1 w1 q1 x ox => ?_⟩
  refine ⟨r1, F1, A1, w1, PR.mono (PV.bind q1) fun ob r2 F2 H2 A2 s2 w2 q2 y oy => ?_⟩
  split at q2
  · rename_i d e hd he
    cases hb : idxD d e with
    | none => rw [hb] at q2; exact q2.elim
    | some k =>
      rw [hb] at q2
      exact ⟨d, e, F2, k, (ox.mono s2.ff).vr w2 hd, oy.vr w2 he, w2.sm, hb, fun v hv => q2 _ F2 H2 A2 [] .refl w2 (.fr hv)⟩
  · exact q2.elim
/-! ### lists of operands -/
def noStar : Expr → Bool
  | .Starred _ _ => false
  | _ => true
theorem starEach_cons {e : Expr} {es : List Expr} {env : PySem.Env} (h : noStar e = true) : starEach (e :: es) env = (false, eval e env) :: starEach es env := by
  cases e <;> first | rfl | cases h
theorem sA_nil : PA X [] (TAs X.K xp W C []) := pa_imp pa_nil fun σ H Q ⟨r, F, A, w, q⟩ => q F H A .refl w [] .nil
theorem sA_cons {exs : List Expr} {es : List E} (ha : PE X ex (TOp X.K xp W C a)) (hs : PA X exs (TAs X.K xp W C es)) (hn : noStar ex = true) : PA X (ex :: exs) (TAs X.K xp W C (a :: es)) := by
  refine pa_imp (pa_cons ha hs (starEach_cons hn)) fun σ H Q ⟨r, F, A, w, q⟩ => ?_
  simp only [evOs] at q
  refine ⟨r, F, A, w, PR.mono (PR.bind q) fun oa r1 F1 H1 A1 s1 w1 q1 x ox => ?_⟩
  refine ⟨r1, F1, A1, w1, PR.mono (PR.bind q1) fun os r2 F2 H2 A2 s2 w2 q2 xs oxs => ?_⟩
  exact q2 F2 H2 A2 .refl w2 _ (.cons (ox.mono s2.ff) oxs)
theorem sVs_nil : PA X [] (TVsA X.K xp W C []) := pa_imp pa_nil fun σ H Q ⟨r, F, A, w, q⟩ => q [] F H A [] .refl w .nil
theorem Stp.frame {F H F' H' : Hp} {A A' B : List Addr} (s : Stp F H A F' H' A') : Stp F H (B ++ A) F' H' (B ++ A') :=
  ⟨s.ff, fun p h1 h2 h3 => s.new p h1 h2 fun z => h3 (List.mem_append_right _ z), fun p o h1 h2 => s.hh p o h1 fun z => h2 (List.mem_append_right _ z), fun p h => (List.mem_append.mp h).elim (fun z => .inl (List.mem_append_left _ z)) fun z => (s.own p z).imp (List.mem_append_right _) id⟩
theorem sVs_cons {exs : List Expr} {es : List E} (ha : PE X ex (TV X.K xp W C a)) (hs : PA X exs (TVsA X.K xp W C es)) (hn : noStar ex = true) : PA X (ex :: exs) (TVsA X.K xp W C (a :: es)) := by
  refine pa_imp (pa_cons ha hs (starEach_cons hn)) fun σ H Q ⟨r, F, A, w, q⟩ => ?_
  simp only [evVs] at q
  refine ⟨r, F, A, w, ?_⟩
  cases e : evE C a r with
  | bad => rw [e] at q; exact q
  | ex c fs r' => rw [e] at q; exact q
  | ok u r1 =>
    rw [e] at q
    intro x F1 H1 A1 B1 s1 w1 rx
    refine ⟨r1, F1, A1, w1.nil, ?_⟩
    have q : PVs X.K xp W F H A σ Q ((evVs C es r1).bind fun xs r2 => .ok (u :: xs) r2) := q
    have s1' : Stp F H A F1 H1 A1 := s1.perm (fun p hp => hp) fun p hp => List.mem_append_right _ hp
    cases e2 : evVs C es r1 with
    | bad => rw [e2] at q; exact q
    | ex c fs r' =>
      rw [e2] at q
      exact Px.pre s1' q
    | ok us r2 =>
      rw [e2] at q
      intro xs F2 H2 A2 B2 s2 w2 rxs
      have k : ∀ p ∈ B1, H2 p = H1 p := s2.keeps w1 rx.live
      have wa := w1.after rx.live s2 w2
      refine q (x :: xs) F2 H2 A2 (B1 ++ B2) ?_ (wa.perm List.perm_append_comm) (.cons (rx.mono s2.ff k) rxs)
      refine (s1.trans (s2.frame (B := B1))).perm (fun p hp => hp) fun p hp => ?_
      rw [List.append_assoc] at hp
      exact hp
theorem pe_tupG {exs : List Expr} {k : Nat} {t : TA} (h : PA X exs t) : PE X (.Tuple exs k pos) (fun σ H Q => t σ H fun xs H1 => xs.length ≤ sizeLine ∧ ∀ p o, H1 p = none → o.dict = none → Q (.ref p) (upd H1 p (.frz o (.tup xs)))) := by
  refine ⟨fun pins s σ H Q I hq => wpAny_Tuple_spliced (thn (h.run pos pins s σ H _ I hq) fun us s1 ⟨xs, H1, J, r, z, q⟩ => ⟨by rw [← r.length]; exact z, ?_⟩)⟩
  exact ⟨.ref s1.heap.objs.size, _, good_laid J rfl r z ⟨_, Heap.get?_push_size _ rfl, rfl, _, rfl⟩, rfl, q _ _ (J.hok.fresh (Nat.le_refl _)) rfl⟩
theorem lenOk_iff {n : Nat} : lenOk n = true ↔ n ≤ sizeLine := by simp [lenOk]
theorem sV_tup {exs : List Expr} {es : List E} {k : Nat} (h : PA X exs (TVsA X.K xp W C es)) : PE X (.Tuple exs k pos) (TV X.K xp W C (.tup es)) := by
  refine pe_imp (pe_tupG h) fun σ H Q ⟨r, F, A, w, q⟩ => ?_
  simp only [evE] at q
  refine ⟨r, F, A, w, ?_⟩
  cases e : evVs C es r with
  | bad => rw [e] at q; exact q
  | ex c fs r' => rw [e] at q; exact q
  | ok us r1 =>
    rw [e] at q
    intro xs F1 H1 A1 B1 s1 w1 rxs
    have q : PV X.K xp W F H A σ Q (if lenOk us.length then .ok (mkTp us) r1 else .bad) := q
    split at q
    · rename_i hl
      refine ⟨by rw [rxs.len]; exact lenOk_iff.mp hl, fun p o hp ho => ?_⟩
      obtain ⟨w2, s2⟩ := w1.allocF (o := .frz o (.tup xs)) rxs.live hp
      refine q _ _ _ A1 B1 (s1.trans s2) w2 (rvR_mkTp (.inl ⟨o, upd_same, ho⟩) (RvRs.mono s2.ff (fun z hz => upd_ne ?_) rxs))
      obtain ⟨u, hu⟩ := rxs.live z hz
      exact ne_of_none hu hp
    · exact q.elim
theorem dsO_ok {K : PySem.W.Frag} {F : Hp} {σ : L2.St} {xs : List V} {os : List OV} (h : Paired (OvR K F σ) xs os) : ∀ {ds : List D}, dsO os = some ds → DpAll K F xs ds := by
  induction h with
  | nil => intro ds e; cases e; exact .nil
  | @cons x o _ os' a _ ih =>
    intro ds e
    cases o with
    | d y =>
      simp only [dsO, Option.map_eq_some_iff] at e
      obtain ⟨es, e1, rfl⟩ := e
      exact .cons a (ih e1)
    | sl _ => cases e
    | io _ => cases e
theorem sV_lst {exs : List Expr} {es : List E} (h : PA X exs (TAs X.K xp W C es)) : PE X (.List exs pos) (TV X.K xp W C (.lst es)) := by
  refine pe_imp (pe_lst h) fun σ H Q ⟨r, F, A, w, q⟩ => ?_
  simp only [evE] at q
  refine ⟨r, F, A, w, PR.mono (PV.bind q) fun os r1 F1 H1 A1 s1 w1 q1 xs oxs => ?_⟩
  split at q1
  · rename_i ds hds
    split at q1
    · rename_i hl
      have dx := dsO_ok oxs hds
      refine ⟨by rw [dpAll_len dx]; exact lenOk_iff.mp hl, fun p hp => ?_⟩
      exact (NewR.lst hp dx).fin w1 q1
    · exact q1.elim
  · exact q1.elim
end
end Ev

/-! Ev7: built-ins, slices, tests, calls. -/
namespace Ev
open PySem PySem.Spec PyProof.Rows L2
theorem noStars {es : List Expr} {env : PySem.Env} (h : es.all noStar = true) (pos : Pos) : (backTo pos (starEach es env)).any (·.1) = false := by
  induction es with
  | nil => rfl
  | cons e es ih =>
    simp only [List.all_cons, Bool.and_eq_true] at h
    rw [starEach_cons h.1]
    have := ih h.2
    show (false || (backTo pos (starEach es env)).any (·.1)) = false
    rw [this]
    rfl
theorem boot_bi (b : Bi) : bootBuiltins (biNm b) = some (biId b) := by cases b <;> decide +kernel
theorem biNm_n (b : Bi) : biNm b ≠ "__name__" := by cases b <;> decide +kernel
theorem biNm_d (b : Bi) : (biNm b == ("__debug__" : Str)) = false := by cases b <;> decide +kernel
def biB : Bi → Bool
  | .int => false
  | .str => false
  | .tuple => false
  | .list => false
  | .bool => false
  | _ => true
section
variable {X : Cx} {N : List Str} {sc : Scope} {xp : Xp} {W : WX} {C : Cf} {ex ex2 ex3 : Expr} {a b c : E} {pos p : Pos}
/-! ### built-ins -/
theorem vws_paired {K : PySem.W.Frag} {F H : Hp} {σ : L2.St} {r : Rho} {A : List Addr} {xs : List V} {os : List OV} {ds : List D} (w : Wf K F H σ r A []) (h : Paired (OvR K F σ) xs os) (e : vws r os = some ds) : Paired (VR K F H) xs ds := OvRs.vrs w h e
theorem pe_biD {bb : Bi} {e : Expr} {es : List Expr} {t : TA} {r : List V → Hp → VK → Prop} (hc : CallR X (biId bb) r) (hg : Gl X (biNm bb)) (hm : X.mg (biNm bb) = none) (ha : PA X (e :: es) t) (hst : (e :: es).all noStar = true) :
    PE X (.Call (.Name (biNm bb) p) (e :: es) [] pos) (tCB r t) := by
  have h1 : starEach (e :: es) X.env = (false, eval e X.env) :: starEach es X.env := starEach_cons (by simp only [List.all_cons, Bool.and_eq_true] at hst; exact hst.1)
  have h2 : (backTo pos (starEach es X.env)).any (·.1) = false := noStars (by simp only [List.all_cons, Bool.and_eq_true] at hst; exact hst.2) pos
  have hv := boot_bi bb
  have hn := biNm_n bb
  have hd := biNm_d bb
  cases bb <;> first
    | exact pe_callB hc hg hm hv ha hn hd h1 h2
    | exact pe_callTy hc hg hm hv ha hn hd h1 h2
theorem sV_bi {bb : Bi} {exs : List Expr} {es : List E} (c0 : Cx0 X N sc) (hc : calmB bb = true → X.calm = true) (hg : Gl X (biNm bb)) (hm : X.mg (biNm bb) = none) (hb : bb ≠ .bool) (h : PA X (ex :: exs) (TAs X.K xp W C es)) (hst : (ex :: exs).all noStar = true) :
    PE X (.Call (.Name (biNm bb) p) (ex :: exs) [] pos) (TV X.K xp W C (.bi bb es)) := by
  refine pe_imp (pe_biD (cr_bi bb hc c0.hu hb) hg hm h hst) fun σ H Q ⟨r, F, A, w, q⟩ => ?_
  simp only [evE] at q
  refine ⟨r, F, A, w, PR.mono (PV.bind q) fun os r1 F1 H1 A1 s1 w1 q1 xs oxs => ?_⟩
  split at q1
  · rename_i ds hds
    cases hb : biD bb ds with
    | none => rw [hb] at q1; exact q1.elim
    | some u =>
      rw [hb] at q1
      exact ⟨ds, F1, u, OvRs.vrs w1 oxs hds, w1.sm, hb, fun v H' n => n.fin w1 q1⟩
  · exact q1.elim
/-! ### isinstance -/
def tyNm : Ty → Str
  | .int => "int"
  | .bool => "bool"
  | .str => "str"
  | .tuple => "tuple"
  | .list => "list"
theorem boot_ty (t : Ty) : bootBuiltins (tyNm t) = some (.type (tyId t)) := by cases t <;> decide +kernel
theorem tyNm_n (t : Ty) : tyNm t ≠ "__name__" := by cases t <;> decide +kernel
theorem tyNm_d (t : Ty) : (tyNm t == ("__debug__" : Str)) = false := by cases t <;> decide +kernel
theorem boot_isi : bootBuiltins ("isinstance" : Str) = some (.builtin "isinstance") := by decide +kernel
theorem sV_isi {t : Ty} {p2 : Pos} (hg : Gl X "isinstance") (hm : X.mg "isinstance" = none) (hg2 : Gl X (tyNm t)) (hm2 : X.mg (tyNm t) = none) (h : PE X ex (TOp X.K xp W C a)) (hn : noStar ex = true) :
    PE X (.Call (.Name "isinstance" p) [ex, .Name (tyNm t) p2] [] pos) (TV X.K xp W C (.isi a t)) := by
  have h1 : starEach [ex, .Name (tyNm t) p2] X.env = (false, eval ex X.env) :: starEach [.Name (tyNm t) p2] X.env := starEach_cons hn
  have hty : PE X (.Name (tyNm t) p2) (tC (.ty (tyId t))) := pe_bltn hg2 hm2 (boot_ty t) rfl (tyNm_n t) (tyNm_d t)
  refine pe_imp (pe_callB (cr_isi t) hg hm boot_isi (pa_cons h (pa_cons hty pa_nil rfl) h1) (by decide +kernel) (by decide +kernel) h1 rfl) fun σ H Q ⟨r, F, A, w, q⟩ => ?_
  simp only [evE] at q
  refine ⟨r, F, A, w, PR.mono (PV.bind q) fun oa r1 F1 H1 A1 s1 w1 q1 x ox => ?_⟩
  split at q1
  · rename_i d hd
    exact ⟨x, d, F1, rfl, ox.vr w1 hd, w1.sm, q1 _ F1 H1 A1 [] .refl w1 (.fr (.bl _))⟩
  · exact q1.elim
/-! ### slices -/
def TPt (K : PySem.W.Frag) (xp : Xp) (W : WX) (C : Cf) (e : Option E) : L2.TO := fun σ H Q => ∃ r F A, Wf K F H σ r A [] ∧ PR K xp W F H A σ (fun i _ _ H' _ => Q i H') (evP C e r)
theorem po_imp {e : Option Expr} {t t' : L2.TO} (h : PO X e t) (m : ∀ σ H Q, t' σ H Q → t σ H Q) : PO X e t' := ⟨fun pins s σ H Q I q => h.run pins s σ H Q I (m σ H Q q)⟩
theorem intV_ok {K : PySem.W.Frag} {F H : Hp} {σ : L2.St} {r : Rho} {A : List Addr} {x : V} {o : OV} {i : Int} (w : Wf K F H σ r A []) (h : OvR K F σ x o) (e : intV r o = some i) : x = .int i := by
  unfold intV at e
  split at e
  · rename_i j hj
    cases e
    exact (h.vr w hj).int_
  · cases e
theorem sP_none : PO X none (TPt X.K xp W C none) := po_imp po_none fun σ H Q ⟨r, F, A, w, q⟩ => q F H A .refl w
theorem sP_some (h : PE X ex (TOp X.K xp W C a)) : PO X (some ex) (TPt X.K xp W C (some a)) := by
  refine po_imp (po_some h) fun σ H Q ⟨r, F, A, w, q⟩ => ?_
  simp only [evP] at q
  refine ⟨r, F, A, w, PR.mono (PR.bind q) fun oa r1 F1 H1 A1 s1 w1 q1 x ox => ?_⟩
  cases e : intV r1 oa with
  | none => rw [e] at q1; exact q1.elim
  | some i =>
    rw [e] at q1
    exact ⟨i, intV_ok w1 ox e, q1 F1 H1 A1 .refl w1⟩
theorem sV_slc {lo hi : Option Expr} {l h : Option E} {p2 : Pos} (ha : PE X ex (TOp X.K xp W C a)) (hl : PO X lo (TPt X.K xp W C l)) (hh : PO X hi (TPt X.K xp W C h)) : PE X (.Subscript ex (.Slice lo hi none p2) pos) (TV X.K xp W C (.slc a l h)) := by
  refine pe_imp (pe_slice sl_D ha hl hh) fun σ H Q ⟨r, F, A, w, q⟩ => ?_
  simp only [evE] at q
  refine ⟨r, F, A, w, PR.mono (PV.bind q) fun oa r1 F1 H1 A1 s1 w1 q1 x ox => ?_⟩
  refine ⟨r1, F1, A1, w1, PR.mono (PV.bind q1) fun i r2 F2 H2 A2 s2 w2 q2 => ?_⟩
  refine ⟨r2, F2, A2, w2, PR.mono (PV.bind q2) fun j r3 F3 H3 A3 s3 w3 q3 => ?_⟩
  split at q3
  · rename_i d hd
    cases hb : slcD d i j with
    | none => rw [hb] at q3; exact q3.elim
    | some u =>
      rw [hb] at q3
      exact ⟨d, F3, u, ((ox.mono s2.ff).mono s3.ff).vr w3 hd, w3.sm, hb, fun v H' n => n.fin w3 q3⟩
  · exact q3.elim
/-! ### tests -/
/-- not, and, or, comparisons and conditional expressions have tests of their own -/
def plainT : Expr → Bool
  | .UnaryOp .Not _ _ => false
  | .BoolOp _ _ _ => false
  | .IfExp _ _ _ _ => false
  | .Compare _ _ _ _ => false
  | _ => true
theorem isTrue_plainT {e : Expr} {env : PySem.Env} (h : plainT e = true) (whole : Sem Value) : isTrue e env whole = (do let v ← whole; standAt e.pos; holding [v] (truthy v)) := by
  cases e with
  | UnaryOp op x q => cases op <;> first | rfl | cases h
  | BoolOp _ _ _ => cases h
  | IfExp _ _ _ _ => cases h
  | Compare _ _ _ _ => cases h
  | _ => rfl
def isBl : E → Bool
  | .and _ _ => true
  | .or _ _ => true
  | .not _ => true
  | _ => false
theorem evT_tst (h : isBl a = false) (r : Rho) : evT C a r = tstO a (evE C a r) r := by
  cases a <;> first | rfl | cases h
theorem sT_plain (h : PE X ex (TOp X.K xp W C a)) (hp : plainT ex = true) (hb : isBl a = false) : PT X ex (TTs X.K xp W C a) := by
  refine pt_imp (pt_truth h (isTrue_plainT hp)) fun σ H Q ⟨r, F, A, w, q⟩ => ?_
  rw [evT_tst hb] at q
  simp only [tstO] at q
  refine ⟨r, F, A, w, PR.mono (PR.bind q) fun oa r1 F1 H1 A1 s1 w1 q1 x ox => ?_⟩
  cases hd : vw r1 oa with
  | none => rw [hd] at q1; exact q1.elim
  | some d =>
    rw [hd] at q1
    simp only [Option.bind_some] at q1
    cases ht : truD d with
    | none => rw [ht] at q1; exact q1.elim
    | some k =>
      rw [ht] at q1
      exact ⟨k, truV_of w1.sm (ox.vr w1 hd) ht, q1 F1 H1 A1 .refl w1⟩
/-- a test that is an expression with a bool -/
theorem pt_bool {t : TE} (h : PT X ex (tTest t)) (m : ∀ σ H (Q : Bool → Hp → Prop), TTs X.K xp W C a σ H Q → t σ H fun x H' => ∃ k, x = .bl k ∧ Q k H') : PT X ex (TTs X.K xp W C a) := pt_imp h fun σ H Q q => m σ H Q q
theorem boolV {σ : L2.St} {H F : Hp} {A : List Addr} {r : Rho} {o : OV} {Q : Bool → Hp → Prop} (k : Bool) (w : Wf X.K F H σ r A []) (q : PR X.K xp W F H A σ (fun b _ _ H' _ => Q b H') (Res.ok k r)) : Q k H := q F H A .refl w
/-- the truth of a result -/
def tstR : Res Rv → Res Bool
  | .ok v r => .opt (truD (fz v)) r
  | .ex c fs r => .ex c fs r
  | .bad => .bad
theorem tstO_R (h : isOp a = false) (x : Res Rv) (r : Rho) : tstO a x r = tstR x := by
  unfold tstO
  rw [asO_map h]
  cases x <;> rfl
theorem tstR_bind {α : Type} (x : Res α) (f : α → Rho → Res Rv) : tstR (x.bind f) = x.bind fun y r => tstR (f y r) := by
  cases x <;> rfl
theorem tstR_bool (o : Option Bool) (r : Rho) : tstR (.opt (o.map fun c => .fr (.bool c)) r) = .opt o r := by
  cases o <;> rfl
theorem evT_cmp {o : COp} (r : Rho) : evT C (.cmp o a b) r = ((asO a (evE C a r) r).bind fun x r1 => (asO b (evE C b r1) r1).bind fun y r2 => match vw r2 x, vw r2 y with
    | some d, some e => .opt (cmpD o d e) r2
    | _, _ => .bad) := by
  rw [evT_tst rfl, tstO_R rfl, evE, tstR_bind]
  congr 1
  funext x r1
  rw [tstR_bind]
  congr 1
  funext y r2
  cases vw r2 x with
  | none => rfl
  | some d =>
    cases vw r2 y with
    | none => rfl
    | some e => exact tstR_bool _ _
theorem sT_cmp {o : COp} (c0 : Cx0 X N sc) (ha : PE X ex (TOp X.K xp W C a)) (hb : PE X ex2 (TOp X.K xp W C b)) (hm : behindInMarks (cop o) ex2 = false) : PT X (.Compare ex [cop o] [ex2] pos) (TTs X.K xp W C (.cmp o a b)) := by
  refine pt_imp (pt_cmpR (op_cmpD c0.hu o) ha hb hm) fun σ H Q ⟨r, F, A, w, q⟩ => ?_
  rw [evT_cmp] at q
  refine ⟨r, F, A, w, PR.mono (PR.bind q) fun oa r1 F1 H1 A1 s1 w1 q1 x ox => ?_⟩
  refine ⟨r1, F1, A1, w1, PR.mono (PR.bind q1) fun ob r2 F2 H2 A2 s2 w2 q2 y oy => ?_⟩
  split at q2
  · rename_i d e hd he
    cases hb : cmpD o d e with
    | none => rw [hb] at q2; exact q2.elim
    | some k =>
      rw [hb] at q2
      exact ⟨d, e, F2, k, (ox.mono s2.ff).vr w2 hd, oy.vr w2 he, w2.sm, hb, k, rfl, q2 F2 H2 A2 .refl w2⟩
  · exact q2.elim
theorem evT_chain {o p : COp} (r : Rho) : evT C (.chain o p a b c) r = ((asO a (evE C a r) r).bind fun x r1 => (asO b (evE C b r1) r1).bind fun y r2 => match vw r2 x, vw r2 y with
    | some d, some e => match cmpD o d e with
      | some true => (asO c (evE C c r2) r2).bind fun z r3 => match vw r3 y, vw r3 z with
        | some e, some f => .opt (cmpD p e f) r3
        | _, _ => .bad
      | some false => .ok false r2
      | none => .bad
    | _, _ => .bad) := by
  rw [evT_tst rfl, tstO_R rfl, evE, tstR_bind]
  congr 1
  funext x r1
  rw [tstR_bind]
  congr 1
  funext y r2
  cases vw r2 x with
  | none => rfl
  | some d =>
    cases vw r2 y with
    | none => rfl
    | some e =>
      simp only []
      cases cmpD o d e with
      | none => rfl
      | some k =>
        cases k with
        | false => rfl
        | true =>
          simp only []
          rw [tstR_bind]
          congr 1
          funext z r3
          cases vw r3 y with
          | none => rfl
          | some d =>
            cases vw r3 z with
            | none => rfl
            | some e => exact tstR_bool _ _
theorem sT_chain {o p : COp} (c0 : Cx0 X N sc) (ha : PE X ex (TOp X.K xp W C a)) (hb : PE X ex2 (TOp X.K xp W C b)) (hc : PE X ex3 (TOp X.K xp W C c)) (hm : lastMarks [cop o, cop p] [ex2, ex3] = false) :
    PT X (.Compare ex [cop o, cop p] [ex2, ex3] pos) (TTs X.K xp W C (.chain o p a b c)) := by
  refine pt_imp (pt_chain (op_cmpD c0.hu o) (op_cmpD c0.hu p) ha hb hc hm) fun σ H Q ⟨r, F, A, w, q⟩ => ?_
  rw [evT_chain] at q
  refine ⟨r, F, A, w, PR.mono (PR.bind q) fun oa r1 F1 H1 A1 s1 w1 q1 x ox => ?_⟩
  refine ⟨r1, F1, A1, w1, PR.mono (PR.bind q1) fun ob r2 F2 H2 A2 s2 w2 q2 y oy => ?_⟩
  split at q2
  · rename_i d e hd he
    cases hb : cmpD o d e with
    | none => rw [hb] at q2; exact q2.elim
    | some k =>
      rw [hb] at q2
      refine ⟨d, e, F2, k, (ox.mono s2.ff).vr w2 hd, oy.vr w2 he, w2.sm, hb, k, rfl, ?_⟩
      cases k with
      | false => exact iteF ⟨false, rfl, q2 F2 H2 A2 .refl w2⟩
      | true =>
        refine iteT ⟨r2, F2, A2, w2, PR.mono (PR.bind q2) fun oc r3 F3 H3 A3 s3 w3 q3 z oz => ?_⟩
        split at q3
        · rename_i e' f he' hf
          cases hb : cmpD p e' f with
          | none => rw [hb] at q3; exact q3.elim
          | some k =>
            rw [hb] at q3
            exact ⟨e', f, F3, k, (oy.mono s3.ff).vr w3 he', oz.vr w3 hf, w3.sm, hb, k, rfl, q3 F3 H3 A3 .refl w3⟩
        · exact q3.elim
  · exact q2.elim
theorem evT_isN (r : Rho) : evT C (.isN a) r = ((asO a (evE C a r) r).bind fun x r1 => match vw r1 x with
    | some d => .ok (isNn d) r1
    | none => .bad) := by
  rw [evT_tst rfl, tstO_R rfl, evE, tstR_bind]
  congr 1
  funext x r1
  cases vw r1 x <;> rfl
theorem evT_notN (r : Rho) : evT C (.notN a) r = ((asO a (evE C a r) r).bind fun x r1 => match vw r1 x with
    | some d => .ok (!isNn d) r1
    | none => .bad) := by
  rw [evT_tst rfl, tstO_R rfl, evE, tstR_bind]
  congr 1
  funext x r1
  cases vw r1 x <;> rfl
theorem sT_isN {k : Nat} {p2 : Pos} (ha : PE X ex (TOp X.K xp W C a)) : PT X (.Compare ex [.Is] [.Constant .none k p2] pos) (TTs X.K xp W C (.isN a)) := by
  refine pt_imp (pt_cmp (pc_isN ha) rfl) fun σ H Q ⟨r, F, A, w, q⟩ => ?_
  rw [evT_isN] at q
  refine ⟨r, F, A, w, PR.mono (PR.bind q) fun oa r1 F1 H1 A1 s1 w1 q1 x ox => ?_⟩
  split at q1
  · rename_i d hd
    rw [non_iff (ox.vr w1 hd)]
    exact ⟨_, rfl, q1 F1 H1 A1 .refl w1⟩
  · exact q1.elim
theorem sT_notN {k : Nat} {p2 : Pos} (ha : PE X ex (TOp X.K xp W C a)) : PT X (.Compare ex [.IsNot] [.Constant .none k p2] pos) (TTs X.K xp W C (.notN a)) := by
  refine pt_imp (pt_cmp (pc_notN ha) rfl) fun σ H Q ⟨r, F, A, w, q⟩ => ?_
  rw [evT_notN] at q
  refine ⟨r, F, A, w, PR.mono (PR.bind q) fun oa r1 F1 H1 A1 s1 w1 q1 x ox => ?_⟩
  split at q1
  · rename_i d hd
    rw [non_iff (ox.vr w1 hd)]
    exact ⟨_, rfl, q1 F1 H1 A1 .refl w1⟩
  · exact q1.elim
theorem sT_not (ha : PT X ex (TTs X.K xp W C a)) : PT X (.UnaryOp .Not ex pos) (TTs X.K xp W C (.not a)) := by
  refine pt_imp (pt_not ha) fun σ H Q ⟨r, F, A, w, q⟩ => ?_
  refine ⟨r, F, A, w, PR.mono (PR.bind q) fun k r1 F1 H1 A1 s1 w1 q1 => q1 F1 H1 A1 .refl w1⟩
theorem sW_and {rest : List Expr} (ha : PT X ex (TTs X.K xp W C a)) (hb : PW X (.BoolOp .And (ex2 :: rest) pos) (TTs X.K xp W C b)) : PW X (.BoolOp .And (ex :: ex2 :: rest) pos) (TTs X.K xp W C (.and a b)) := by
  refine pw_imp (pw_and ha hb) fun σ H Q ⟨r, F, A, w, q⟩ => ?_
  refine ⟨r, F, A, w, PR.mono (PR.bind q) fun k r1 F1 H1 A1 s1 w1 q1 => ?_⟩
  cases k with
  | true => exact iteT ⟨r1, F1, A1, w1, q1⟩
  | false => exact iteF (q1 F1 H1 A1 .refl w1)
theorem sW_or {rest : List Expr} (ha : PT X ex (TTs X.K xp W C a)) (hb : PW X (.BoolOp .Or (ex2 :: rest) pos) (TTs X.K xp W C b)) : PW X (.BoolOp .Or (ex :: ex2 :: rest) pos) (TTs X.K xp W C (.or a b)) := by
  refine pw_imp (pw_or ha hb) fun σ H Q ⟨r, F, A, w, q⟩ => ?_
  refine ⟨r, F, A, w, PR.mono (PR.bind q) fun k r1 F1 H1 A1 s1 w1 q1 => ?_⟩
  cases k with
  | true => exact iteT (q1 F1 H1 A1 .refl w1)
  | false => exact iteF ⟨r1, F1, A1, w1, q1⟩
/-- a test within an expression -/
def TTo (K : PySem.W.Frag) (xp : Xp) (W : WX) (C : Cf) (e : E) : TT := fun σ H Q => ∃ r F A, Wf K F H σ r A [] ∧ PR K xp W F H A σ (fun b _ _ H' _ => Q b H') (tstO e (evE C e r) r)
theorem sV_ite (ht : PT X ex (TTo X.K xp W C a)) (hb : PE X ex2 (TV X.K xp W C b)) (hc : PE X ex3 (TV X.K xp W C c)) : PE X (.IfExp ex ex2 ex3 pos) (TV X.K xp W C (.ite a b c)) := by
  refine pe_imp (pe_ifExp ht hb hc) fun σ H Q ⟨r, F, A, w, q⟩ => ?_
  simp only [evE] at q
  refine ⟨r, F, A, w, PR.mono (PV.bind q) fun k r1 F1 H1 A1 s1 w1 q1 => ?_⟩
  cases k with
  | true => exact iteT ⟨r1, F1, A1, w1, q1⟩
  | false => exact iteF ⟨r1, F1, A1, w1, q1⟩
end
/-- the two readings of a test -/
theorem tst_evT {C : Cf} : ∀ (a : E) (r : Rho), tstO a (evE C a r) r ≠ .bad → evT C a r = tstO a (evE C a r) r
  | .and a b => fun r h => by
    rw [tstO_R rfl, evE, tstR_bind] at h ⊢
    show (evT C a r).bind _ = _
    cases e : asO a (evE C a r) r with
    | bad => rw [e] at h; exact absurd rfl h
    | ex c fs r1 =>
      have q : tstO a (evE C a r) r = .ex c fs r1 := by unfold tstO; rw [e]; rfl
      rw [tst_evT a r (by rw [q]; exact fun z => by cases z), q]
      rfl
    | ok o r1 =>
      rw [e] at h
      simp only [Res.bind] at h ⊢
      cases hv : vw r1 o with
      | none => rw [hv] at h; exact absurd rfl h
      | some d =>
        rw [hv] at h
        cases d with
        | bool c =>
          have q : tstO a (evE C a r) r = .ok c r1 := by unfold tstO; rw [e]; show Res.opt ((vw r1 o).bind truD) r1 = _; rw [hv]; rfl
          rw [tst_evT a r (by rw [q]; exact fun z => by cases z), q]
          cases c with
          | true =>
            simp only [if_true] at h ⊢
            cases hb : isOp b with
            | true => cases b <;> first | exact absurd rfl h | cases hb
            | false =>
              have ih := tst_evT b r1 (by rw [tstO_R hb]; exact h)
              rw [ih, tstO_R hb]
          | false => rfl
        | _ => exact absurd rfl h
  | .or a b => fun r h => by
    rw [tstO_R rfl, evE, tstR_bind] at h ⊢
    show (evT C a r).bind _ = _
    cases e : asO a (evE C a r) r with
    | bad => rw [e] at h; exact absurd rfl h
    | ex c fs r1 =>
      have q : tstO a (evE C a r) r = .ex c fs r1 := by unfold tstO; rw [e]; rfl
      rw [tst_evT a r (by rw [q]; exact fun z => by cases z), q]
      rfl
    | ok o r1 =>
      rw [e] at h
      simp only [Res.bind] at h ⊢
      cases hv : vw r1 o with
      | none => rw [hv] at h; exact absurd rfl h
      | some d =>
        rw [hv] at h
        cases d with
        | bool c =>
          have q : tstO a (evE C a r) r = .ok c r1 := by unfold tstO; rw [e]; show Res.opt ((vw r1 o).bind truD) r1 = _; rw [hv]; rfl
          rw [tst_evT a r (by rw [q]; exact fun z => by cases z), q]
          cases c with
          | false =>
            simp only [Bool.false_eq_true, if_false] at h ⊢
            cases hb : isOp b with
            | true => cases b <;> first | exact absurd rfl h | cases hb
            | false =>
              have ih := tst_evT b r1 (by rw [tstO_R hb]; exact h)
              rw [ih, tstO_R hb]
          | true => rfl
        | _ => exact absurd rfl h
  | .not a => fun r h => by
    rw [tstO_R rfl, evE, tstR_bind] at h ⊢
    show (evT C a r).bind _ = _
    have hne : tstO a (evE C a r) r ≠ .bad := fun z => h (by rw [z]; rfl)
    rw [tst_evT a r hne]
    congr 1
  | .k _ => fun r h => rfl
  | .g _ => fun r h => rfl
  | .v _ => fun r h => rfl
  | .mv _ => fun r h => rfl
  | .bo _ => fun r h => rfl
  | .io _ => fun r h => rfl
  | .tup _ => fun r h => rfl
  | .lst _ => fun r h => rfl
  | .bin _ _ _ => fun r h => rfl
  | .neg _ => fun r h => rfl
  | .cmp _ _ _ => fun r h => rfl
  | .chain _ _ _ _ _ => fun r h => rfl
  | .isN _ => fun r h => rfl
  | .notN _ => fun r h => rfl
  | .ite _ _ _ => fun r h => rfl
  | .idx _ _ => fun r h => rfl
  | .slc _ _ _ => fun r h => rfl
  | .call _ _ => fun r h => rfl
  | .bi _ _ => fun r h => rfl
  | .isi _ _ => fun r h => rfl
  | .met _ _ _ => fun r h => rfl
  | .isB _ _ => fun r h => rfl
  | .rl _ _ => fun r h => rfl
  | .ss _ => fun r h => rfl
  | .isX _ => fun r h => rfl
  | .rng1 _ => fun r h => rfl
  | .rng2 _ _ => fun r h => rfl
  | .enu _ => fun r h => rfl
  | .zp _ _ => fun r h => rfl
  | .itr _ => fun r h => rfl
  | .lc _ _ _ => fun r h => rfl
  | .lci _ _ _ _ => fun r h => rfl
  | .lc2 _ _ _ _ _ => fun r h => rfl
theorem sTo {X : Cx} {xp : Xp} {W : WX} {C : Cf} {ex : Expr} {a : E} (h : PT X ex (TTs X.K xp W C a)) : PT X ex (TTo X.K xp W C a) := by
  refine pt_imp h fun σ H Q ⟨r, F, A, w, q⟩ => ⟨r, F, A, w, ?_⟩
  rw [tst_evT a r fun z => by rw [z] at q; exact q]
  exact q
end Ev

/-! Ev8: calls of the text's own defs. -/
namespace Ev
open PySem PySem.Spec PyProof.Rows L2
/-- what the changed arguments have become -/
inductive OutR (K : PySem.W.Frag) (F H : Hp) : List V → List Rv → List Rv → List Addr → Prop
  | nil : OutR K F H [] [] [] []
  | fr {v : V} {vs : List V} {d : D} {us outs : List Rv} {A : List Addr} : OutR K F H vs us outs A → OutR K F H (v :: vs) (.fr d :: us) outs A
  | ow {v : V} {vs : List V} {o : Ow} {u : Rv} {us outs : List Rv} {A B : List Addr} : RvR K F H v u B → OutR K F H vs us outs A → OutR K F H (v :: vs) (.ow o :: us) (u :: outs) (B ++ A)
/-- a def's promise, by its value in the small language -/
def spF (K : PySem.W.Frag) (xp : Xp) (call : List Rv → FRes) : Sp := fun vs H Q E => ∃ F us A, RvRs K F H vs us A ∧ A.Nodup ∧ (∀ p ∈ A, F p = none) ∧ Same F H ∧ us.all okTp = true ∧ match call us with
  | .ok u outs => ∀ x H' F' B As, Stp F H A F' H' (B ++ As) → (B ++ As).Nodup → (∀ p ∈ B ++ As, F' p = none) → Same F' H' → RvR K F' H' x u B → OutR K F' H' vs us outs As → Q x H'
  | .ex c fs outs => ∀ d H' F' As, Stp F H A F' H' As → As.Nodup → (∀ p ∈ As, F' p = none) → Same F' H' → OutR K F' H' vs us outs As → XcR (xp.nm c) fs d H' → E (xp.cl c) d H'
  | .bad => False

/-! ### slots -/
theorem wipeR_get {r : Rho} {i : Nat} : ∀ {is : List Nat}, i ∉ is → (wipeR r is)[i]? = r[i]?
  | [], _ => rfl
  | j :: is, h => by
    simp only [List.mem_cons, not_or] at h
    show ((wipeR r is).set j none)[i]? = _
    rw [List.getElem?_set_ne (fun e => h.1 e.symm)]
    exact wipeR_get h.2
theorem wipeR_len {r : Rho} : ∀ {is : List Nat}, (wipeR r is).length = r.length
  | [] => rfl
  | j :: is => by
    show ((wipeR r is).set j none).length = _
    rw [List.length_set]
    exact wipeR_len
theorem wipeR_set {r : Rho} {i : Nat} : ∀ {is : List Nat}, wipeR (r.set i none) is = (wipeR r is).set i none
  | [] => rfl
  | j :: is => by
    show (wipeR (r.set i none) is).set j none = ((wipeR r is).set j none).set i none
    rw [wipeR_set]
    by_cases e : i = j
    · rw [e]
    · exact List.set_comm _ _ e
theorem setAll_len {r : Rho} : ∀ {is : List Nat} {vs : List Rv}, (setAll r is vs).length = r.length
  | [], _ => rfl
  | _ :: _, [] => rfl
  | i :: is, v :: vs => by
    show ((setAll r is vs).set i (some v)).length = _
    rw [List.length_set]
    exact setAll_len
theorem setAll_get {r : Rho} {i : Nat} : ∀ {is : List Nat} {vs : List Rv}, i ∉ is → (setAll r is vs)[i]? = r[i]?
  | [], _, _ => rfl
  | _ :: _, [], _ => rfl
  | j :: is, v :: vs, h => by
    simp only [List.mem_cons, not_or] at h
    show ((setAll r is vs).set j (some v))[i]? = _
    rw [List.getElem?_set_ne (fun e => h.1 e.symm)]
    exact setAll_get h.2
theorem setAll_set {r : Rho} {i : Nat} {x : Option Rv} {y : Option Rv} : ∀ {is : List Nat} {vs : List Rv}, i ∉ is → (setAll (r.set i x) is vs).set i y = (setAll r is vs).set i y
  | [], _, _ => by
    show (r.set i x).set i y = r.set i y
    rw [List.set_set]
  | _ :: _, [], _ => by
    show (r.set i x).set i y = r.set i y
    rw [List.set_set]
  | j :: is, v :: vs, h => by
    simp only [List.mem_cons, not_or] at h
    show ((setAll (r.set i x) is vs).set j (some v)).set i y = ((setAll r is vs).set j (some v)).set i y
    rw [List.set_comm _ _ (fun e => h.1 e.symm), setAll_set h.2, List.set_comm _ _ h.1]
theorem nodupB_cons {i : Nat} {is : List Nat} (h : nodupB (i :: is) = true) : i ∉ is ∧ nodupB is = true := by
  simp only [nodupB, Bool.and_eq_true, Bool.not_eq_true'] at h
  refine ⟨fun m => ?_, h.2⟩
  have := h.1
  rw [List.contains_iff_mem.mpr m] at this
  cases this
/-! ### taking a list of data apart -/
mutual
theorem dp_noL {K : PySem.W.Frag} {F F' : Hp} (h : ∀ a xs, F a = some (.tup xs) → F' a = some (.tup xs)) (h2 : ∀ a o xs, F a = some (.frz o (.tup xs)) → F' a = some (.frz o (.tup xs))) : ∀ {d : D} {v : V}, noL d = true → Dp K F v d → Dp K F' v d
  | _, _, _, .non => .non
  | _, _, _, .bl b => .bl b
  | _, _, _, .int i => .int i
  | _, _, _, .str x => .str x
  | _, _, n, .lst _ _ => by simp [noL] at n
  | _, _, n, .tup s r => by
    simp only [noL] at n
    refine .tup ?_ (dpAll_noL h h2 n r)
    rcases s with ⟨o, s, e⟩ | s
    · exact .inl ⟨o, h2 _ _ _ s, e⟩
    · exact .inr s
theorem dpAll_noL {K : PySem.W.Frag} {F F' : Hp} (h : ∀ a xs, F a = some (.tup xs) → F' a = some (.tup xs)) (h2 : ∀ a o xs, F a = some (.frz o (.tup xs)) → F' a = some (.frz o (.tup xs))) : ∀ {ds : List D} {vs : List V}, noLs ds = true → DpAll K F vs ds → DpAll K F' vs ds
  | _, _, _, .nil => .nil
  | _, _, n, .cons a b => by
    simp only [noLs, Bool.and_eq_true] at n
    exact .cons (dp_noL h h2 n.1 a) (dpAll_noL h h2 n.2 b)
end
mutual
theorem rvR_noL {K : PySem.W.Frag} {F F' H : Hp} (h : ∀ a xs, F a = some (.tup xs) → F' a = some (.tup xs)) (h2 : ∀ a o xs, F a = some (.frz o (.tup xs)) → F' a = some (.frz o (.tup xs))) : ∀ {r : Rv} {v : V} {B : List Addr}, noLR r = true → RvR K F H v r B → RvR K F' H v r B
  | _, _, _, n, .fr d => by
    simp only [noLR] at n
    exact .fr (dp_noL h h2 n d)
  | _, _, _, n, .ow (.lst a b) => by
    simp only [noLR] at n
    exact .ow (.lst a (dpAll_noL h h2 n b))
  | _, _, _, n, .tp s r => by
    simp only [noLR] at n
    refine .tp ?_ (rvRs_noL h h2 n r)
    rcases s with ⟨o, s, e⟩ | s
    · exact .inl ⟨o, h2 _ _ _ s, e⟩
    · exact .inr s
theorem rvRs_noL {K : PySem.W.Frag} {F F' H : Hp} (h : ∀ a xs, F a = some (.tup xs) → F' a = some (.tup xs)) (h2 : ∀ a o xs, F a = some (.frz o (.tup xs)) → F' a = some (.frz o (.tup xs))) : ∀ {rs : List Rv} {vs : List V} {B : List Addr}, noLRs rs = true → RvRs K F H vs rs B → RvRs K F' H vs rs B
  | _, _, _, _, .nil => .nil
  | _, _, _, n, .cons a b => by
    simp only [noLRs, Bool.and_eq_true] at n
    exact .cons (rvR_noL h h2 n.1 a) (rvRs_noL h h2 n.2 b)
end
theorem outR_noL {K : PySem.W.Frag} {F F' H : Hp} (h : ∀ a xs, F a = some (.tup xs) → F' a = some (.tup xs)) (h2 : ∀ a o xs, F a = some (.frz o (.tup xs)) → F' a = some (.frz o (.tup xs))) {vs : List V} {us outs : List Rv} {A : List Addr} (x : OutR K F H vs us outs A) : outs.all noLR = true → OutR K F' H vs us outs A := by
  induction x with
  | nil => exact fun _ => .nil
  | fr _ ih => exact fun n => .fr (ih n)
  | ow a _ ih =>
    intro n
    simp only [List.all_cons, Bool.and_eq_true] at n
    exact .ow (rvR_noL h h2 n.1 a) (ih n.2)
/-- F without what was lent -/
def cutF (F : Hp) (B : List Addr) : Hp := fun p => if p ∈ B then none else F p
theorem cutF_in {F : Hp} {B : List Addr} {p : Addr} (h : p ∈ B) : cutF F B p = none := if_pos h
theorem cutF_out {F : Hp} {B : List Addr} {p : Addr} (h : p ∉ B) : cutF F B p = F p := if_neg h
section
variable {K : PySem.W.Frag} {xp : Xp} {F H : Hp} {A : List Addr} {σ : L2.St} {r : Rho}
theorem ext_more {B B' : List Addr} (h : ∀ p ∈ B, p ∈ B') (n : ∀ p ∈ B', F p = none) : Same (ext F H B) (ext F H B') := fun p o e => by
  by_cases hb : p ∈ B
  · rw [ext_in hb] at e
    rw [ext_in (h p hb)]
    exact e
  · rw [ext_out hb] at e
    have : p ∉ B' := fun z => by rw [n p z] at e; cases e
    rw [ext_out this]
    exact e
/-- the changed arguments taken out of the slots -/
inductive IoR (K : PySem.W.Frag) (F H : Hp) (r : Rho) : List V → List OV → List Addr → Prop
  | nil : IoR K F H r [] [] []
  | d {x : V} {d : D} {xs : List V} {os : List OV} {A : List Addr} : IoR K F H r xs os A → IoR K F H r (x :: xs) (.d d :: os) A
  | sl {x : V} {i : Nat} {xs : List V} {os : List OV} {A : List Addr} : IoR K F H r xs os A → IoR K F H r (x :: xs) (.sl i :: os) A
  | io {x : V} {i : Nat} {o : Ow} {xs : List V} {os : List OV} {A B : List Addr} : r[i]? = some (some (.ow o)) → RvR K F H x (.ow o) B → IoR K F H r xs os A → IoR K F H r (x :: xs) (.io i :: os) (B ++ A)
theorem io_of (w : Wf K F H σ r A []) {xs : List V} {os : List OV} (p : Paired (OvR K F σ) xs os) : ∀ {us : List Rv}, hand r os = some us → nodupB (lentIo os) = true → ∃ Ai Ar, A.Perm (Ai ++ Ar) ∧ RhoR K F H σ (wipeR r (lentIo os)) Ar ∧ IoR K F H r xs os Ai ∧ us.all okTp = true := by
  induction p with
  | nil =>
    intro us e _
    cases e
    exact ⟨[], A, .refl _, w.env, .nil, rfl⟩
  | @cons x o xs os ox p ih =>
    intro us e hn
    simp only [hand] at e
    split at e
    · rename_i u us' e1 e2
      cases e
      cases o with
      | d d =>
        obtain ⟨Ai, Ar, h1, h2, h3, h4⟩ := ih e2 hn
        cases e1
        exact ⟨Ai, Ar, h1, h2, .d h3, by rw [List.all_cons, h4]; rfl⟩
      | sl i =>
        obtain ⟨Ai, Ar, h1, h2, h3, h4⟩ := ih e2 hn
        refine ⟨Ai, Ar, h1, h2, .sl h3, ?_⟩
        rw [List.all_cons, h4]
        simp only [handO] at e1
        split at e1 <;> cases e1 <;> rfl
      | io i =>
        obtain ⟨hi, hn'⟩ := nodupB_cons hn
        obtain ⟨Ai, Ar, h1, h2, h3, h4⟩ := ih e2 hn'
        simp only [handO] at e1
        split at e1 <;> cases e1
        rename_i oo q
        have q1 : (wipeR r (lentIo os))[i]? = some (some (.ow oo)) := by rw [wipeR_get hi]; exact q
        obtain ⟨v, B, A', g1, g2, g3, g4⟩ := h2.get q1
        have ox : σ[i]? = some (some x) := ox
        rw [g1] at ox
        cases ox
        refine ⟨B ++ Ai, A', ?_, g4, .io q g2 h3, by rw [List.all_cons, h4]; rfl⟩
        refine h1.trans ((g3.append_left Ai).trans ?_)
        rw [← List.append_assoc]
        exact List.Perm.append_right A' List.perm_append_comm
    · cases e
/-- the arguments, where all that remains is lent -/
theorem args_of {Ar : List Addr} {rr : Rho} (fA : ∀ p ∈ Ar, F p = none) (rest : RhoR K F H σ rr Ar) {xs : List V} {os : List OV} {Ai : List Addr} (io : IoR K F H r xs os Ai) : Paired (OvR K F σ) xs os → ∀ {us : List Rv}, hand r os = some us → (∀ i ∈ slO os, rr[i]? = r[i]?) → RvRs K (ext F H Ar) H xs us Ai := by
  induction io with
  | nil =>
    intro _ us e _
    cases e
    exact .nil
  | @d x d xs os A _ ih =>
    intro p us e hs
    cases p with
    | cons ox p =>
      simp only [hand] at e
      split at e
      · rename_i u us' e1 e2
        cases e
        cases e1
        exact .cons (.fr (dp_mono (ext_same fA) ox)) (ih p e2 hs)
      · cases e
  | @sl x i xs os A _ ih =>
    intro p us e hs
    cases p with
    | cons ox p =>
      simp only [hand] at e
      split at e
      · rename_i u us' e1 e2
        cases e
        have ox : σ[i]? = some (some x) := ox
        have hi := hs i List.mem_cons_self
        have go := ih p e2 fun j hj => hs j (List.mem_cons_of_mem _ hj)
        simp only [handO] at e1
        split at e1 <;> cases e1
        · rename_i d q
          obtain ⟨v, B, A', g1, g2, g3, g4⟩ := rest.get (hi.trans q)
          rw [g1] at ox
          cases ox
          cases g2 with
          | fr d => exact .cons (.fr (dp_mono (ext_same fA) d)) go
        · rename_i ds q
          obtain ⟨v, B, A', g1, g2, g3, g4⟩ := rest.get (hi.trans q)
          rw [g1] at ox
          cases ox
          cases g2 with
          | @ow pp _ _ o =>
            cases o with
            | lst a b =>
              have hp : pp ∈ Ar := g3.mem_iff.mpr (List.mem_append_left _ List.mem_cons_self)
              exact .cons (.fr (.lst (SqL.of ((ext_in hp).trans a)) (dpAll_mono (ext_same fA) b))) go
      · cases e
  | @io x i o xs os A B q g _ ih =>
    intro p us e hs
    cases p with
    | cons ox p =>
      simp only [hand] at e
      split at e
      · rename_i u us' e1 e2
        cases e
        simp only [handO, q] at e1
        cases e1
        exact .cons (g.mono (ext_same fA) fun _ _ => rfl) (ih p e2 hs)
      · cases e
/-- .. where nothing is lent -/
theorem args_of0 {Ar : List Addr} {rr : Rho} (rest : RhoR K F H σ rr Ar) {xs : List V} {os : List OV} {Ai : List Addr} (io : IoR K F H r xs os Ai) : Paired (OvR K F σ) xs os → ∀ {us : List Rv}, hand r os = some us → (∀ i ∈ slO os, rr[i]? = r[i]?) → lent r os = [] → RvRs K F H xs us Ai := by
  induction io with
  | nil =>
    intro _ us e _ _
    cases e
    exact .nil
  | @d x d xs os A _ ih =>
    intro p us e hs hl
    cases p with
    | cons ox p =>
      simp only [hand] at e
      split at e
      · rename_i u us' e1 e2
        cases e
        cases e1
        exact .cons (.fr ox) (ih p e2 hs hl)
      · cases e
  | @sl x i xs os A _ ih =>
    intro p us e hs hl
    cases p with
    | cons ox p =>
      simp only [hand] at e
      split at e
      · rename_i u us' e1 e2
        cases e
        have ox : σ[i]? = some (some x) := ox
        have hi := hs i List.mem_cons_self
        simp only [handO] at e1
        split at e1 <;> cases e1
        · rename_i d q
          have q' : isOwS r i = false := by unfold isOwS; rw [q]
          have hl' : lent r os = [] := by simpa [lent, q'] using hl
          obtain ⟨v, B, A', g1, g2, g3, g4⟩ := rest.get (hi.trans q)
          rw [g1] at ox
          cases ox
          cases g2 with
          | fr d => exact .cons (.fr d) (ih p e2 (fun j hj => hs j (List.mem_cons_of_mem _ hj)) hl')
        · rename_i ds q
          have q' : isOwS r i = true := by unfold isOwS; rw [q]
          simp [lent, q'] at hl
      · cases e
  | @io x i o xs os A B q g _ ih =>
    intro p us e hs hl
    cases p with
    | cons ox p =>
      simp only [hand] at e
      split at e
      · rename_i u us' e1 e2
        cases e
        simp only [handO, q] at e1
        cases e1
        exact .cons g (ih p e2 hs hl)
      · cases e
/-- the changed arguments put back -/
theorem back_of {F' H' : Hp} {xs : List V} {os : List OV} {Ai : List Addr} (io : IoR K F H r xs os Ai) : ∀ {σ : L2.St} {us outs : List Rv} {As Ar : List Addr} {r2 : Rho}, Paired (OvR K F σ) xs os → hand r os = some us → nodupB (lentIo os) = true → OutR K F' H' xs us outs As →
    (∀ i ∈ lentIo os, i < r2.length) → RhoR K F' H' σ (wipeR r2 (lentIo os)) Ar → ∃ A', A'.Perm (As ++ Ar) ∧ RhoR K F' H' σ (setAll r2 (lentIo os) outs) A' := by
  induction io with
  | nil =>
    intro σ us outs As Ar r2 _ e _ o _ h
    cases e
    cases o
    exact ⟨Ar, .refl _, h⟩
  | @d x d xs os A _ ih =>
    intro σ us outs As Ar r2 p e hn o hl h
    cases p with
    | cons ox p =>
      simp only [hand] at e
      split at e
      · rename_i u us' e1 e2
        cases e
        cases e1
        cases o with
        | fr o => exact ih p e2 hn o hl h
      · cases e
  | @sl x i xs os A _ ih =>
    intro σ us outs As Ar r2 p e hn o hl h
    cases p with
    | cons ox p =>
      simp only [hand] at e
      split at e
      · rename_i u us' e1 e2
        cases e
        simp only [handO] at e1
        split at e1 <;> cases e1
        · cases o with
          | fr o => exact ih p e2 hn o hl h
        · cases o with
          | fr o => exact ih p e2 hn o hl h
      · cases e
  | @io x i o xs os A B q g _ ih =>
    intro σ us outs As Ar r2 p e hn ot hl h
    cases p with
    | cons ox p =>
      simp only [hand] at e
      split at e
      · rename_i u us' e1 e2
        cases e
        simp only [handO, q] at e1
        cases e1
        obtain ⟨hi, hn'⟩ := nodupB_cons hn
        cases ot with
        | @ow _ _ _ uu _ outs A1 B1 g1 ot =>
          have h : RhoR K F' H' σ ((wipeR r2 (lentIo os)).set i none) Ar := h
          rw [← wipeR_set] at h
          obtain ⟨A', p1, p2⟩ := ih (r2 := r2.set i none) p e2 hn' ot (fun j hj => by rw [List.length_set]; exact hl j (List.mem_cons_of_mem _ hj)) h
          have hlt : i < r2.length := hl i List.mem_cons_self
          have g0 : (setAll (r2.set i none) (lentIo os) outs)[i]? = some none := by
            rw [setAll_get hi, List.getElem?_set_self hlt]
          obtain ⟨A2, p3, p4⟩ := p2.back g0 g1 ox
          rw [setAll_set hi] at p4
          refine ⟨A2, p3.trans ?_, p4⟩
          rw [List.append_assoc]
          exact p1.append_left B1
      · cases e
end
end Ev

/-! Ev9: the caller's side, the def's side. -/
namespace Ev
open PySem PySem.Spec PyProof.Rows L2
section
variable {K : PySem.W.Frag} {xp : Xp} {F H : Hp} {A : List Addr} {σ : L2.St} {r : Rho}
theorem cutF_nil {F : Hp} : cutF F [] = F := by
  funext p
  exact cutF_out fun h => by cases h
theorem ext_nil {F H : Hp} : ext F H [] = F := by
  funext p
  exact ext_out fun h => by cases h
theorem OwR.lists {K : PySem.W.Frag} {F H : Hp} {p : Addr} {o : Ow} {B : List Addr} (x : OwR K F H p o B) : ∀ q ∈ B, ∃ u, H q = some (.lst u) := by
  cases x with
  | lst a b =>
    intro q hq
    rw [List.mem_singleton] at hq
    subst hq
    exact ⟨_, a⟩
mutual
theorem RvR.lists {K : PySem.W.Frag} {F H : Hp} : ∀ {r : Rv} {v : V} {B : List Addr}, RvR K F H v r B → ∀ q ∈ B, ∃ u, H q = some (.lst u)
  | _, _, _, .fr _ => fun q hq => by cases hq
  | _, _, _, .ow o => o.lists
  | _, _, _, .tp _ r => RvRs.lists r
theorem RvRs.lists {K : PySem.W.Frag} {F H : Hp} : ∀ {rs : List Rv} {vs : List V} {B : List Addr}, RvRs K F H vs rs B → ∀ q ∈ B, ∃ u, H q = some (.lst u)
  | _, _, _, .nil => fun q hq => by cases hq
  | _, _, _, .cons a b => fun q hq => (List.mem_append.mp hq).elim (RvR.lists a q) (RvRs.lists b q)
end
theorem RhoR.lists {K : PySem.W.Frag} {F H : Hp} {σ : L2.St} {r : Rho} {A : List Addr} (x : RhoR K F H σ r A) : ∀ q ∈ A, ∃ u, H q = some (.lst u) := by
  induction x with
  | nil => exact fun q hq => by cases hq
  | non _ ih => exact ih
  | som a _ ih => exact fun q hq => (List.mem_append.mp hq).elim (a.lists q) (ih q)
/-- behind a call: the state of the caller -/
theorem call_back {F' H' : Hp} {xs : List V} {os : List OV} {us outs : List Rv} {Ai Ar L B As : List Addr} (w : Wf K F H σ r A []) (oxs : Paired (OvR K F σ) xs os) (hu : hand r os = some us) (hn : nodupB (lentIo os) = true) (hlt : ∀ i ∈ lentIo os, i < r.length)
    (pm : A.Perm (Ai ++ Ar)) (rest : RhoR K F H σ (wipeR r (lentIo os)) Ar) (io : IoR K F H r xs os Ai) (hL : L = [] ∨ L = Ar) (stp : Stp (ext F H L) H Ai F' H' (B ++ As)) (nd : (B ++ As).Nodup) (ds : ∀ p ∈ B ++ As, F' p = none) (sm : Same F' H')
    (ot : OutR K (cutF F' L) H' xs us outs As) : ∃ A', Stp F H A (cutF F' L) H' (B ++ A') ∧ Wf K (cutF F' L) H' σ (setAll r (lentIo os) outs) A' B := by
  have nA : (Ai ++ Ar).Nodup := pm.nodup_iff.mp w.nd
  have dA : ∀ p ∈ Ai, p ∉ Ar := fun p h1 h2 => (List.nodup_append.mp nA).2.2 p h1 p h2 rfl
  have inA : ∀ p, p ∈ Ai → p ∈ A := fun p h => pm.mem_iff.mpr (List.mem_append_left _ h)
  have inR : ∀ p, p ∈ Ar → p ∈ A := fun p h => pm.mem_iff.mpr (List.mem_append_right _ h)
  have inL : ∀ p, p ∈ L → p ∈ Ar := fun p h => by
    rcases hL with e | e
    · subst e; cases h
    · subst e; exact h
  have fA : ∀ p ∈ A, F p = none := fun p h => w.dis p h
  have live := w.live
  have nR : ∀ p ∈ Ar, p ∉ Ai := fun p h1 h2 => dA p h2 h1
  have hk : ∀ p ∈ Ar, H' p = H p := fun p h => by
    obtain ⟨u, hu⟩ := live p (inR p h)
    rw [hu]
    exact stp.hh p u hu (nR p h)
  have ff : Same F (cutF F' L) := fun p o e => by
    have hp : p ∉ L := fun z => by rw [fA p (inR p (inL p z))] at e; cases e
    rw [cutF_out hp]
    exact stp.ff p o (by rw [ext_out hp]; exact e)
  obtain ⟨A', p1, env'⟩ := back_of io oxs hu hn ot hlt (rest.mono ff hk)
  have memA : ∀ p ∈ B ++ A', p ∈ B ++ As ∨ p ∈ Ar := fun p h => by
    rcases List.mem_append.mp h with h | h
    · exact .inl (List.mem_append_left _ h)
    · exact (List.mem_append.mp (p1.mem_iff.mp h)).imp (List.mem_append_right _) id
  have cutN : ∀ p, F' p = none → cutF F' L p = none := fun p h => by
    by_cases hp : p ∈ L
    · exact cutF_in hp
    · rw [cutF_out hp]; exact h
  refine ⟨A', ⟨ff, fun p h1 h2 h3 => cutN p (stp.new p ?_ h2 fun z => h3 (inA p z)), fun p o h1 h2 => stp.hh p o h1 fun z => h2 (inA p z), fun p h => ?_⟩, ⟨env', ?_, fun p h => ?_, fun p o e => ?_⟩⟩
  · rw [ext_out fun z => h3 (inR p (inL p z))]
    exact h1
  · rcases memA p h with h | h
    · exact (stp.own p h).imp (inA p) id
    · exact .inl (inR p h)
  · have pB : (B ++ A').Perm ((B ++ As) ++ Ar) := by
      rw [List.append_assoc]
      exact p1.append_left B
    refine pB.nodup_iff.mpr (List.nodup_append.mpr ⟨nd, (List.nodup_append.mp nA).2.1, fun x hx y hy e => ?_⟩)
    subst e
    rcases stp.own x hx with z | z
    · exact dA x z hy
    · obtain ⟨u, hu⟩ := live x (inR x hy)
      rw [hu] at z
      cases z
  · rcases memA p h with h | h
    · exact cutN p (ds p h)
    · by_cases hp : p ∈ L
      · exact cutF_in hp
      · rw [cutF_out hp]
        obtain ⟨u, hu⟩ := live p (inR p h)
        exact stp.new p (by rw [ext_out hp]; exact fA p (inR p h)) (by rw [hu]; exact fun z => by cases z) (nR p h)
  · by_cases hp : p ∈ L
    · rw [cutF_in hp] at e; cases e
    · rw [cutF_out hp] at e; exact sm p o e
theorem all_mem {α : Type} {p : α → Bool} {l : List α} (h : l.all p = true) : ∀ x ∈ l, p x = true := List.all_eq_true.mp h
theorem hand_io {r : Rho} : ∀ {os : List OV} {us : List Rv}, hand r os = some us → ∀ i ∈ lentIo os, i < r.length
  | [], _, _ => fun i hi => by cases hi
  | o :: os, us, e => by
    simp only [hand] at e
    split at e
    · rename_i u us' e1 e2
      cases o with
      | d d => exact fun i hi => hand_io e2 i hi
      | sl j => exact fun i hi => hand_io e2 i hi
      | io j =>
        intro i hi
        rcases List.mem_cons.mp hi with h | h
        · subst h
          simp only [handO] at e1
          split at e1 <;> cases e1
          rename_i q
          exact (List.getElem?_eq_some_iff.mp q).1
        · exact hand_io e2 i h
    · cases e
/-- THE CALL -/
theorem call_of {W : WX} {call : Call} {n : Nat} {os : List OV} {xs : List V} {Q : VK} (w : Wf K F H σ r A []) (oxs : Paired (OvR K F σ) xs os) (q : PV K xp W F H A σ Q (callO call n os r)) : spF K xp (call n) xs H Q (WE W σ) := by
  unfold callO at q
  split at q
  · rename_i hc
    simp only [Bool.and_eq_true] at hc
    obtain ⟨hn, hsl⟩ := hc
    split at q
    · rename_i us hu
      have hs : ∀ i ∈ slO os, (wipeR r (lentIo os))[i]? = r[i]? := fun i hi => wipeR_get fun m => by
        have := all_mem hsl i hi
        rw [List.contains_iff_mem.mpr m] at this
        cases this
      have hlt := hand_io hu
      obtain ⟨Ai, Ar, pm, rest, io, okT⟩ := io_of w oxs hu hn
      have nA : (Ai ++ Ar).Nodup := pm.nodup_iff.mp w.nd
      have dA : ∀ p ∈ Ai, p ∉ Ar := fun p h1 h2 => (List.nodup_append.mp nA).2.2 p h1 p h2 rfl
      have fA : ∀ p ∈ Ai ++ Ar, F p = none := fun p h => w.dis p (pm.mem_iff.mpr h)
      have nAi : Ai.Nodup := (List.nodup_append.mp nA).1
      by_cases hl : lent r os = []
      · refine ⟨F, us, Ai, args_of0 rest io oxs hu hs hl, nAi, fun p h => fA p (List.mem_append_left _ h), w.sm, okT, ?_⟩
        cases e : call n us with
        | bad => rw [e] at q; exact q
        | ok u outs =>
          rw [e] at q
          simp only at q
          split at q
          · intro x H' F' B As stp nd ds sm rx ot
            obtain ⟨A', s1, w1⟩ := call_back (L := []) w oxs hu hn hlt pm rest io (.inl rfl) (by rw [ext_nil]; exact stp) nd ds sm (by rw [cutF_nil]; exact ot)
            rw [cutF_nil] at s1 w1
            exact q x F' H' A' B s1 w1 rx
          · exact q.elim
        | ex c fs outs =>
          rw [e] at q
          simp only at q
          split at q
          · intro d H' F' As stp nd ds sm ot xc
            obtain ⟨A', s1, w1⟩ := call_back (L := []) (B := []) w oxs hu hn hlt pm rest io (.inl rfl) (by rw [ext_nil]; exact stp) nd ds sm (by rw [cutF_nil]; exact ot)
            rw [cutF_nil] at s1 w1
            exact q d H' F' A' s1 w1 xc
          · exact q.elim
      · have hlF : (lent r os).isEmpty = false := by
          cases e : lent r os with
          | nil => exact absurd e hl
          | cons _ _ => rfl
        refine ⟨ext F H Ar, us, Ai, args_of (fun p h => fA p (List.mem_append_right _ h)) rest io oxs hu hs, nAi, fun p h => ?_, ext_below w.sm, okT, ?_⟩
        · rw [ext_out (dA p h)]
          exact fA p (List.mem_append_left _ h)
        · have keep : ∀ F' : Hp, Same (ext F H Ar) F' → ∀ a u, F' a = some u → (∀ ys, u ≠ .lst ys) → cutF F' Ar a = some u := fun F' sF a u e ne => by
            by_cases ha : a ∈ Ar
            · obtain ⟨ys, hy⟩ := rest.lists a ha
              rw [sF a _ ((ext_in ha).trans hy)] at e
              cases e
              exact absurd rfl (ne ys)
            · rw [cutF_out ha]
              exact e
          cases e : call n us with
          | bad => rw [e] at q; exact q
          | ok u outs =>
            rw [e] at q
            simp only [hlF, Bool.false_or] at q
            split at q
            · rename_i hno
              simp only [Bool.and_eq_true] at hno
              intro x H' F' B As stp nd ds sm rx ot
              have k := keep F' stp.ff
              have k1 : ∀ a ys, F' a = some (.tup ys) → cutF F' Ar a = some (.tup ys) := fun a ys e => k a _ e fun _ z => by cases z
              have k2 : ∀ a o ys, F' a = some (.frz o (.tup ys)) → cutF F' Ar a = some (.frz o (.tup ys)) := fun a o ys e => k a _ e fun _ z => by cases z
              obtain ⟨A', s1, w1⟩ := call_back (L := Ar) w oxs hu hn hlt pm rest io (.inr rfl) stp nd ds sm (outR_noL k1 k2 ot hno.1.2)
              exact q x _ H' A' B s1 w1 (rvR_noL k1 k2 hno.1.1 rx)
            · exact q.elim
          | ex c fs outs =>
            rw [e] at q
            simp only [hlF, Bool.false_or] at q
            split at q
            · rename_i hno
              simp only [Bool.and_eq_true] at hno
              intro d H' F' As stp nd ds sm ot xc
              have k := keep F' stp.ff
              have k1 : ∀ a ys, F' a = some (.tup ys) → cutF F' Ar a = some (.tup ys) := fun a ys e => k a _ e fun _ z => by cases z
              have k2 : ∀ a o ys, F' a = some (.frz o (.tup ys)) → cutF F' Ar a = some (.frz o (.tup ys)) := fun a o ys e => k a _ e fun _ z => by cases z
              obtain ⟨A', s1, w1⟩ := call_back (L := Ar) (B := []) w oxs hu hn hlt pm rest io (.inr rfl) stp nd ds sm (outR_noL k1 k2 ot hno.1)
              exact q d H' _ A' s1 w1 xc
            · exact q.elim
    · exact q.elim
  · exact q.elim
end
section
variable {X : Cx} {N : List Str} {sc : Scope} {xp : Xp} {W : WX} {C : Cf} {ex : Expr} {exs : List Expr} {es : List E} {p pos : Pos}
theorem sV_call {k n : Nat} {f : Addr} {fd : FuncData} {ps : List Str} {x : Str} (Fk : FnOk X.prog X.w X.K X.mg X.base (L2.CX X.prog X.w) k f fd ps (spF X.K xp (C.call n))) (tk : Takes X W) (hr : Room k X.A) (hg : Gl X x) (hm : X.mg x = some (.ref f)) (hk : PySem.W.keepIn X.K (.ref f) = true) (hb : Binds X.K fd ps [])
    (ha : PA X (ex :: exs) (TAs X.K xp W C es)) (hdb : (x == ("__debug__" : Str)) = false) (hst : (ex :: exs).all noStar = true) :
    PE X (.Call (.Name x p) (ex :: exs) [] pos) (TV X.K xp W C (.call n es)) := by
  simp only [List.all_cons, Bool.and_eq_true] at hst
  refine pe_imp (pe_callS Fk hr hg hm hk hb (fun σ => passAt tk σ) ha hdb (starEach_cons hst.1) (noStars hst.2 pos)) fun σ H Q ⟨r, F, A, w, q⟩ => ?_
  simp only [evE] at q
  exact ⟨r, F, A, w, PR.mono (PV.bind q) fun os r1 F1 H1 A1 s1 w1 q1 xs oxs => call_of w1 oxs q1⟩
end
end Ev

/-! Ev10: statements. -/
namespace Ev
open PySem PySem.Spec PyProof.Rows L2
/-- the slots of changed arguments stay -/
def Kp (io : List Nat) (σ σ' : L2.St) : Prop := ∀ i ∈ io, σ'[i]? = σ[i]?
theorem Kp.refl {io : List Nat} {σ : L2.St} : Kp io σ σ := fun _ _ => rfl
theorem Kp.trans {io : List Nat} {σ σ' σ'' : L2.St} (a : Kp io σ σ') (b : Kp io σ' σ'') : Kp io σ σ'' := fun i h => (b i h).trans (a i h)
theorem Kp.set {io : List Nat} {σ : L2.St} {i : Nat} {x : Option V} (h : i ∉ io) : Kp io σ (σ.set i x) := fun j hj => List.getElem?_set_ne fun e => h (by rw [e]; exact hj)
def PF (K : PySem.W.Frag) (xp : Xp) (W : WX) (io : List Nat) (F H : Hp) (A : List Addr) (σ : L2.St) (D : Ends) : Fl → Prop
  | .nx r' => ∀ σ' F' H' A', Stp F H A F' H' A' → Wf K F' H' σ' r' A' [] → Kp io σ σ' → D.nx σ' H'
  | .bk r' => ∀ σ' F' H' A', Stp F H A F' H' A' → Wf K F' H' σ' r' A' [] → Kp io σ σ' → D.bk σ' H'
  | .ct r' => ∀ σ' F' H' A', Stp F H A F' H' A' → Wf K F' H' σ' r' A' [] → Kp io σ σ' → D.ct σ' H'
  | .rt u r' => ∀ x σ' F' H' A' B, Stp F H A F' H' (B ++ A') → Wf K F' H' σ' r' A' B → Kp io σ σ' → RvR K F' H' x u B → D.rt x H'
  | .ex c fs r' => ∀ d σ' F' H' A', Stp F H A F' H' A' → Wf K F' H' σ' r' A' [] → Kp io σ σ' → XcR (xp.nm c) fs d H' → W (xp.cl c) d σ' H'
  | .bad => False
def TSt (K : PySem.W.Frag) (xp : Xp) (W : WX) (C : Cf) (io : List Nat) (s : S) : TS := fun D σ H => ∃ r F A, Wf K F H σ r A [] ∧ PF K xp W io F H A σ D (evS C io s r)
def TSts (K : PySem.W.Frag) (xp : Xp) (W : WX) (C : Cf) (io : List Nat) (ss : List S) : TS := fun D σ H => ∃ r F A, Wf K F H σ r A [] ∧ PF K xp W io F H A σ D (evSs C io ss r)
section
variable {K : PySem.W.Frag} {xp : Xp} {W : WX} {io : List Nat} {F H F1 H1 : Hp} {A A1 : List Addr} {σ σ1 : L2.St} {D : Ends} {r : Rho} {α : Type}
theorem PF.pre {f : Fl} (s : Stp F H A F1 H1 A1) (k : Kp io σ σ1) (h : PF K xp W io F H A σ D f) : PF K xp W io F1 H1 A1 σ1 D f := by
  cases f with
  | nx r' => exact fun σ' F' H' A' s' w k' => h σ' F' H' A' (s.trans s') w (k.trans k')
  | bk r' => exact fun σ' F' H' A' s' w k' => h σ' F' H' A' (s.trans s') w (k.trans k')
  | ct r' => exact fun σ' F' H' A' s' w k' => h σ' F' H' A' (s.trans s') w (k.trans k')
  | rt u r' => exact fun x σ' F' H' A' B s' w k' => h x σ' F' H' A' B (s.trans s') w (k.trans k')
  | ex c fs r' => exact fun d σ' F' H' A' s' w k' => h d σ' F' H' A' (s.trans s') w (k.trans k')
  | bad => exact h
theorem PF.fl {x : Res α} {f : α → Rho → Fl} (h : PF K xp W io F H A σ D (x.fl f)) : PR K xp W F H A σ (fun a r1 F1 H1 A1 => PF K xp W io F1 H1 A1 σ D (f a r1)) x := by
  cases x with
  | ok a r' => exact fun F' H' A' s' w => PF.pre s' .refl h
  | ex c fs r' => exact fun d H' F' A' s' w z => h d σ F' H' A' s' w .refl z
  | bad => exact h
/-- the same, of a result that may own -/
theorem PF.flV {x : Res Rv} {f : Rv → Rho → Fl} {Q : VK} (h : PF K xp W io F H A σ D (x.fl f))
    (m : ∀ u r1 v F1 H1 A1 B, Stp F H A F1 H1 (B ++ A1) → Wf K F1 H1 σ r1 A1 B → RvR K F1 H1 v u B → PF K xp W io F H A σ D (f u r1) → Q v H1) : PV K xp W F H A σ Q x := by
  cases x with
  | ok u r' => exact fun v F' H' A' B s' w rv => m u r' v F' H' A' B s' w rv h
  | ex c fs r' => exact fun d H' F' A' s' w z => h d σ F' H' A' s' w .refl z
  | bad => exact h
theorem PF.mono {D' : Ends} {f : Fl} (h : PF K xp W io F H A σ D f) (m1 : ∀ s H, D.nx s H → D'.nx s H) (m2 : ∀ v H, D.rt v H → D'.rt v H) (m3 : ∀ s H, D.bk s H → D'.bk s H) (m4 : ∀ s H, D.ct s H → D'.ct s H) : PF K xp W io F H A σ D' f := by
  cases f with
  | nx r' => exact fun σ' F' H' A' s' w k' => m1 _ _ (h σ' F' H' A' s' w k')
  | bk r' => exact fun σ' F' H' A' s' w k' => m3 _ _ (h σ' F' H' A' s' w k')
  | ct r' => exact fun σ' F' H' A' s' w k' => m4 _ _ (h σ' F' H' A' s' w k')
  | rt u r' => exact fun x σ' F' H' A' B s' w k' z => m2 _ _ (h x σ' F' H' A' B s' w k' z)
  | ex c fs r' => exact h
  | bad => exact h
end
section
variable {X : Cx} {N : List Str} {sc : Scope} {xp : Xp} {W : WX} {C : Cf} {ex ex2 ex3 : Expr} {a b c : E} {pos : Pos} {io : List Nat}
/-! ### small statements -/
theorem s_pass : PS X (.Pass pos) (TSt X.K xp W C io .pass) := ps_imp ps_pass fun D σ H ⟨r, F, A, w, q⟩ => q σ F H A .refl w .refl
theorem s_doc {x : Str} {j : Nat} {p2 : Pos} : PS X (.Expr (.Constant (.str x) j p2) pos) (TSt X.K xp W C io .pass) := ps_imp ps_doc fun D σ H ⟨r, F, A, w, q⟩ => q σ F H A .refl w .refl
theorem s_brk : PS X (.Break pos) (TSt X.K xp W C io .brk) := ps_imp ps_break fun D σ H ⟨r, F, A, w, q⟩ => q σ F H A .refl w .refl
theorem s_cont : PS X (.Continue pos) (TSt X.K xp W C io .cont) := ps_imp ps_continue fun D σ H ⟨r, F, A, w, q⟩ => q σ F H A .refl w .refl
theorem s_retN : PS X (.Return none pos) (TSt X.K xp W C io .retN) := ps_imp ps_retN fun D σ H ⟨r, F, A, w, q⟩ => q .non σ F H A [] .refl w .refl (.fr .non)
theorem s_ret (h : PE X ex (TV X.K xp W C a)) : PS X (.Return (some ex) pos) (TSt X.K xp W C io (.ret a)) := by
  refine ps_imp (ps_ret h) fun D σ H ⟨r, F, A, w, q⟩ => ⟨r, F, A, w, ?_⟩
  simp only [evS] at q
  exact PF.flV q fun u r1 v F1 H1 A1 B s1 w1 rv q1 => q1 v σ F1 H1 A1 B s1 w1 .refl rv
def isComp : Expr → Bool
  | .ListComp _ _ _ _ => true
  | .SetComp _ _ _ _ => true
  | .DictComp _ _ _ _ _ => true
  | _ => false
theorem swaps_no {e : Expr} {t : Option Expr} {l : Nat} {env : PySem.Env} (h : isComp e = false) : swapsWith e t l env = pure false := by
  cases e <;> first | rfl | cases h
theorem s_ex (h : PE X ex (TV X.K xp W C a)) (hc : isComp ex = false) : PS X (.Expr ex pos) (TSt X.K xp W C io (.ex a)) := by
  refine ps_imp (ps_expr h (swaps_no hc)) fun D σ H ⟨r, F, A, w, q⟩ => ⟨r, F, A, w, ?_⟩
  simp only [evS] at q
  exact PF.flV q fun u r1 v F1 H1 A1 B s1 w1 rv q1 => q1 σ F1 H1 A1 (s1.perm (fun p h => h) fun p h => List.mem_append_right _ h) w1.nil .refl
theorem ss_nil : PSs X [] (TSts X.K xp W C io []) := pss_imp pss_nil fun D σ H ⟨r, F, A, w, q⟩ => q σ F H A .refl w .refl
theorem ss_cons {st : Stmt} {sts : List Stmt} {s : S} {ss : List S} (h1 : PS X st (TSt X.K xp W C io s)) (h2 : PSs X sts (TSts X.K xp W C io ss)) : PSs X (st :: sts) (TSts X.K xp W C io (s :: ss)) := by
  refine pss_imp (pss_cons h1 h2) fun D σ H ⟨r, F, A, w, q⟩ => ⟨r, F, A, w, ?_⟩
  simp only [evSs] at q
  cases e : evS C io s r with
  | nx r1 =>
    rw [e] at q
    exact fun σ' F' H' A' s' w' k' => ⟨r1, F', A', w', PF.pre s' k' q⟩
  | rt _ _ => rw [e] at q; exact q
  | bk _ => rw [e] at q; exact q
  | ct _ => rw [e] at q; exact q
  | ex _ _ _ => rw [e] at q; exact q
  | bad => rw [e] at q; exact q
theorem s_ife {as bs : List Stmt} {sa sb : List S} (ht : PT X ex (TTs X.K xp W C a)) (h1 : PSs X as (TSts X.K xp W C io sa)) (h2 : PSs X bs (TSts X.K xp W C io sb)) : PS X (.If ex as bs pos) (TSt X.K xp W C io (.ife a sa sb)) := by
  refine ps_imp (ps_if ht h1 h2) fun D σ H ⟨r, F, A, w, q⟩ => ?_
  simp only [evS] at q
  refine ⟨r, F, A, w, PR.mono (PF.fl q) fun k r1 F1 H1 A1 s1 w1 q1 => ?_⟩
  cases k with
  | true => exact iteT ⟨r1, F1, A1, w1, q1⟩
  | false => exact iteF ⟨r1, F1, A1, w1, q1⟩
/-! ### targets -/
theorem bindT_V : ∀ {t : Tg} {d : D} {r : Rho}, bindT t d r = bindV t (.fr d) r
  | .n _, _, _ => rfl
  | .t _, d, _ => by cases d <;> rfl
theorem bindTs_V : ∀ {ts : List Tg} {ds : List D} {r : Rho}, bindTs ts ds r = bindVs ts (ds.map .fr) r
  | [], [], _ => rfl
  | [], _ :: _, _ => rfl
  | _ :: _, [], _ => rfl
  | t :: ts, d :: ds, r => by
    simp only [bindTs, bindVs, List.map_cons, bindT_V]
    cases bindV t (.fr d) r with
    | none => rfl
    | some r1 => exact bindTs_V
theorem bindVs_len : ∀ {ts : List Tg} {us : List Rv} {r r' : Rho}, bindVs ts us r = some r' → ts.length = us.length
  | [], [], _, _, _ => rfl
  | [], _ :: _, _, _, h => by cases h
  | _ :: _, [], _, _, h => by cases h
  | t :: ts, u :: us, r, r', h => by
    simp only [bindVs] at h
    split at h
    · rw [List.length_cons, List.length_cons, bindVs_len h]
    · cases h
/-- what is bound to a target: a result, or a tuple of data that is taken apart at once -/
def RvW (K : PySem.W.Frag) (F H : Hp) (v : V) (u : Rv) (B : List Addr) (t : Tg) : Prop := RvR K F H v u B ∨ ∃ a vs ds ts, v = .ref a ∧ SqT K F a vs ∧ DpAll K F vs ds ∧ u = .tp (ds.map .fr) ∧ t = .t ts ∧ B = []
def TGv (K : PySem.W.Frag) (t : Tg) : TG := fun v σ H Q => ∃ r F A B B0 u r', Wf K F H σ r A (B ++ B0) ∧ RvW K F H v u B t ∧ bindV t u r = some r' ∧ ∀ σ' A', Wf K F H σ' r' A' B0 → (∀ p ∈ A', p ∈ B ++ A) → (∀ i, i ∉ slT t → σ'[i]? = σ[i]?) → Q σ' H
def TGvs (K : PySem.W.Frag) (ts : List Tg) : TGs := fun vs σ H Q => ∃ r F A B B0 us r', Wf K F H σ r A (B ++ B0) ∧ RvRs K F H vs us B ∧ bindVs ts us r = some r' ∧ ∀ σ' A', Wf K F H σ' r' A' B0 → (∀ p ∈ A', p ∈ B ++ A) → (∀ i, i ∉ slTs ts → σ'[i]? = σ[i]?) → Q σ' H
theorem pg_imp {t t' : TG} {tg : Expr} (h : PG X tg t) (m : ∀ v σ H Q, t' v σ H Q → t v σ H Q) : PG X tg t' := ⟨fun pins s σ H v u Q I r q => h.run pins s σ H v u Q I r (m _ _ _ _ q)⟩
theorem pgs_imp {t t' : TGs} {tg : List Expr} (h : PGs X tg t) (m : ∀ v σ H Q, t' v σ H Q → t v σ H Q) : PGs X tg t' := ⟨fun pins s σ H v u Q I r q => h.run pins s σ H v u Q I r (m _ _ _ _ q)⟩
theorem g_name {i : Nat} {x : Str} (hN : X.N.Nodup) (hi : X.N[i]? = some x) (hx : Loc X.env.scope x) (hf : X.fn x = true ∨ X.env.scope.names.lookup x = some .local) : PG X (.Name x pos) (TGv X.K (.n i)) := by
  refine pg_imp (pg_name hN hi hx hf) fun v σ H Q ⟨r, F, A, B, B0, u, r', w, rw', e, q⟩ => ?_
  have rv : RvR X.K F H v u B := by
    rcases rw' with z | ⟨_, _, _, _, _, _, _, _, z, _⟩
    · exact z
    · cases z
  simp only [bindV] at e
  split at e
  · rename_i hlt
    cases e
    obtain ⟨A', w', m⟩ := w.store hlt rv
    exact q _ A' w' m fun j hj => List.getElem?_set_ne fun z => hj (by simp [slT, z])
  · cases e
theorem gs_nil : PGs X [] (TGvs X.K []) := by
  refine pgs_imp pgs_nil fun v σ H Q ⟨r, F, A, B, B0, us, r', w, rv, e, q⟩ => ?_
  cases us with
  | nil =>
    cases rv
    cases e
    exact ⟨rfl, q σ A w (fun p hp => hp) fun _ _ => rfl⟩
  | cons u us => cases e
theorem assignEach_cons {e : Expr} {es : List Expr} {env : PySem.Env} (h : noStar e = true) : assignEach (e :: es) env = (false, assign e env) :: assignEach es env := by
  cases e <;> first | rfl | cases h
theorem assignEach_len {env : PySem.Env} : ∀ {es : List Expr}, es.all noStar = true → (assignEach es env).length = es.length ∧ (assignEach es env).findIdx? (·.1) = none
  | [], _ => ⟨rfl, rfl⟩
  | e :: es, h => by
    simp only [List.all_cons, Bool.and_eq_true] at h
    obtain ⟨h1, h2⟩ := assignEach_len (env := env) h.2
    rw [assignEach_cons h.1]
    refine ⟨by rw [List.length_cons, List.length_cons, h1], ?_⟩
    rw [List.findIdx?_cons]
    simp [h2]
theorem gs_cons {tg : Expr} {tgs : List Expr} {t : Tg} {ts : List Tg} (h1 : PG X tg (TGv X.K t)) (h2 : PGs X tgs (TGvs X.K ts)) (hn : noStar tg = true) : PGs X (tg :: tgs) (TGvs X.K (t :: ts)) := by
  refine pgs_imp (pgs_cons h1 h2 (by rw [assignEach_cons hn]; rfl)) fun v σ H Q ⟨r, F, A, B, B0, us, r', w, rv, e, q⟩ => ?_
  cases us with
  | nil => cases e
  | cons u us =>
    cases rv with
    | @cons v vs _ _ B1 B2 a b =>
      simp only [bindVs] at e
      split at e
      · rename_i r1 e1
        rw [List.append_assoc] at w
        refine ⟨v, vs, rfl, r, F, A, B1, B2 ++ B0, u, r1, w, .inl a, e1, fun σ1 A1 w1 m1 k1 => ?_⟩
        refine ⟨r1, F, A1, B2, B0, us, r', w1, b, e, fun σ2 A2 w2 m2 k2 => q σ2 A2 w2 (fun p hp => ?_) fun i hi => ?_⟩
        · rcases List.mem_append.mp (m2 p hp) with z | z
          · exact List.mem_append_left _ (List.mem_append_right _ z)
          · rcases List.mem_append.mp (m1 p z) with z | z
            · exact List.mem_append_left _ (List.mem_append_left _ z)
            · exact List.mem_append_right _ z
        · simp only [slTs, List.mem_append, not_or] at hi
          exact (k2 i hi.2).trans (k1 i hi.1)
      · cases e
theorem rvRs_fr {K : PySem.W.Frag} {F H : Hp} : ∀ {vs : List V} {ds : List D}, DpAll K F vs ds → RvRs K F H vs (ds.map .fr) []
  | _, _, .nil => .nil
  | _, _, .cons a b => .cons (B := []) (C := []) (.fr a) (rvRs_fr b)
theorem g_tup {tgs : List Expr} {ts : List Tg} {k : Nat} (hc : X.calm = true) (h : PGs X tgs (TGvs X.K ts)) (hn : tgs.all noStar = true) (hl : tgs.length = ts.length) : PG X (.Tuple tgs k pos) (TGv X.K (.t ts)) := by
  obtain ⟨h1, h2⟩ := assignEach_len (env := X.env) hn
  refine pg_imp (pg_tup hc h h1 h2) fun v σ H Q ⟨r, F, A, B, B0, u, r', w, rw', e, q⟩ => ?_
  rcases rw' with rv | ⟨a, vs, ds, ts', rfl, s, da, rfl, _, rfl⟩
  · cases u with
    | ow _ => cases e
    | tp us =>
      simp only [bindV] at e
      cases rv with
      | @tp a vs _ _ s rs => exact ⟨a, vs, rfl, same_sqt w.sm s.sqt, by rw [rs.len, ← bindVs_len e, hl], r, F, A, B, B0, us, r', w, rs, e, q⟩
    | fr d =>
      cases d <;> first | cases e | skip
      rename_i ds
      simp only [bindV, bindTs_V] at e
      cases rv with
      | fr d =>
        cases d with
        | @tup a vs _ s ds =>
          refine ⟨a, vs, rfl, same_sqt w.sm s.sqt, ?_, r, F, A, [], B0, _, r', w, rvRs_fr ds, e, q⟩
          rw [dpAll_len ds, hl, bindVs_len e, List.length_map]
  · simp only [bindV] at e
    refine ⟨a, vs, rfl, same_sqt w.sm s, ?_, r, F, A, [], B0, _, r', w, rvRs_fr da, e, q⟩
    rw [dpAll_len da, hl, bindVs_len e, List.length_map]
theorem freeT_no {io : List Nat} {t : Tg} (h : freeT io t = true) : ∀ i ∈ io, i ∉ slT t := fun i hi ht => by
  have := all_mem h i ht
  rw [List.contains_iff_mem.mpr hi] at this
  cases this
theorem s_asg {tg : Expr} {t : Tg} (h : PE X ex (TV X.K xp W C a)) (hg : PG X tg (TGv X.K t)) (hc : isComp ex = false) (hw : swappedStores [tg] ex X.env = pure none) (h1 : (assignEach [tg] X.env).map (·.2) = [assign tg X.env]) : PS X (.Assign [tg] ex pos) (TSt X.K xp W C io (.asg t a)) := by
  refine ps_imp (ps_asg h hg (swaps_no hc) hw h1) fun D σ H ⟨r, F, A, w, q⟩ => ⟨r, F, A, w, ?_⟩
  simp only [evS] at q
  refine PF.flV q fun u r1 v F1 H1 A1 B s1 w1 rv q1 => ?_
  split at q1
  · rename_i hf
    split at q1
    · rename_i r2 e
      refine ⟨r1, F1, A1, B, [], u, r2, by rw [List.append_nil]; exact w1, .inl rv, e, fun σ' A' w' m k => q1 σ' F1 H1 A' (s1.perm (fun p h => h) m) w' fun i hi => k i (freeT_no hf i hi)⟩
    · exact q1.elim
  · exact q1.elim
theorem s_set {i : Nat} {x : Str} {p2 : Pos} (hN : X.N.Nodup) (hi : X.N[i]? = some x) (hx : Loc X.env.scope x) (hf : X.fn x = true ∨ X.env.scope.names.lookup x = some .local) (h : PE X ex (TV X.K xp W C a)) (hc : isComp ex = false) : PS X (.Assign [.Name x p2] ex pos) (TSt X.K xp W C io (.asg (.n i) a)) := by
  refine ps_imp (ps_set hN hi hx h (swaps_no hc) hf) fun D σ H ⟨r, F, A, w, q⟩ => ⟨r, F, A, w, ?_⟩
  simp only [evS] at q
  refine PF.flV q fun u r1 v F1 H1 A1 B s1 w1 rv q1 => ?_
  split at q1
  · rename_i hf
    simp only [bindV] at q1
    split at q1
    · rename_i r2 e
      split at e
      · rename_i hlt
        cases e
        have w1' : Wf X.K F1 H1 σ r1 A1 (B ++ []) := by rw [List.append_nil]; exact w1
        obtain ⟨A', w', m⟩ := w1'.store hlt rv
        exact q1 _ F1 H1 A' (s1.perm (fun p h => h) m) w' (.set fun hio => freeT_no hf i hio (by simp [slT]))
      · cases e
    · exact q1.elim
  · exact q1.elim
end
end Ev

/-! Ev11: statements that change lists. -/
namespace Ev
open PySem PySem.Spec PyProof.Rows L2
section
variable {K : PySem.W.Frag} {xp : Xp} {W : WX} {io : List Nat} {F H F1 H1 : Hp} {A A1 : List Addr} {σ σ1 : L2.St} {D : Ends} {r : Rho}
/-- a list of one's own is changed -/
theorem Wf.change {B : List Addr} {xs : List PyData} {i : Nat} (w : Wf K F H σ r A B) (e : r[i]? = some (some (.ow (.lst xs)))) : ∃ p vs, σ[i]? = some (some (.ref p)) ∧ H p = some (.lst vs) ∧ DpAll K F vs xs ∧ (∀ q ∈ B, q ≠ p) ∧
    ∀ vs' ys, DpAll K F vs' ys → ∃ A', Wf K F (upd H p (.lst vs')) σ (r.set i (some (.ow (.lst ys)))) A' B ∧ Stp F H A F (upd H p (.lst vs')) A' := by
  obtain ⟨v, B', A', h1, h2, h3, h4⟩ := w.take_ e
  have hlt : i < r.length := (List.getElem?_eq_some_iff.mp e).1
  cases h2 with
  | @ow p _ _ o =>
    cases o with
    | lst a b =>
      rename_i vs
      have nd : (p :: (B ++ A')).Nodup := by
        have := h3.nd
        rw [List.append_assoc] at this
        exact this
      have npp : ∀ q ∈ B ++ A', q ≠ p := fun q hq z => by
        subst z
        exact (List.nodup_cons.mp nd).1 hq
      refine ⟨p, vs, h1, a, b, fun q hq => npp q (List.mem_append_left _ hq), fun vs' ys d => ?_⟩
      have fp : F p = none := h3.dis p (List.mem_append_left _ (List.mem_append_left _ List.mem_cons_self))
      have w2 : Wf K F (upd H p (.lst vs')) σ (r.set i none) A' ([p] ++ B) := by
        refine ⟨h3.env.mono (.refl _) fun q hq => upd_ne (npp q (List.mem_append_right _ hq)), h3.nd, h3.dis, fun q u hq => ?_⟩
        rw [upd_ne (ne_of_none hq fp)]
        exact h3.sm q u hq
      obtain ⟨A2, w3, m3⟩ := w2.give (u := .ow (.lst ys)) (by rw [List.getElem?_set_self hlt]) h1 (.ow (.lst upd_same d))
      rw [List.set_set] at w3
      refine ⟨A2, w3, ⟨.refl _, fun q x _ _ => x, fun q u hq hn => ?_, fun q hq => .inl ((h4 q).mpr ((m3 q).mp hq))⟩⟩
      have : q ≠ p := fun z => hn (z ▸ (h4 p).mpr (List.mem_append_left _ List.mem_cons_self))
      rw [upd_ne this]
      exact hq
theorem Wf.has {B : List Addr} {i : Nat} (w : Wf K F H σ r A B) (h : hasS r i = true) : ∃ v, σ[i]? = some (some v) := by
  unfold hasS at h
  split at h
  · rename_i u e
    obtain ⟨v, B', A', h1, _⟩ := w.take_ e
    exact ⟨v, h1⟩
  · cases h
theorem iteB {α : Type} {b : Bool} {x y : α} {P : α → Prop} (h : P (if (!b) = true then x else y)) (hx : P x → False) : b = true ∧ P y := by
  cases b with
  | true => exact ⟨rfl, h⟩
  | false => exact (hx h).elim
end
section
variable {X : Cx} {N : List Str} {sc : Scope} {xp : Xp} {W : WX} {C : Cf} {ex ex2 ex3 eo : Expr} {a b c : E} {pos : Pos} {io : List Nat}
theorem s_sto {i : Nat} {p2 : Pos} (h : PE X ex (TOp X.K xp W C a)) (hk : PE X ex2 (TOp X.K xp W C b)) (ho : PE X eo (tVar i))
    (hw : swappedStores [.Subscript eo ex2 p2] ex X.env = pure none) (h1 : (assignEach [.Subscript eo ex2 p2] X.env).map (·.2) = [assign (.Subscript eo ex2 p2) X.env])
    (ha : ∀ v, assign (.Subscript eo ex2 p2) X.env v = (do
      let ov ← holding [v] (eval eo X.env)
      let iv ← holding [v, ov] (eval ex2 X.env)
      standAt p2
      holding [v, ov, iv] (setItem ov iv v)
      release [v, ov, iv] [])) : PS X (.Assign [.Subscript eo ex2 p2] ex pos) (TSt X.K xp W C io (.sto i b a)) := by
  refine ps_imp (ps_asg h (pg_sub ho hk set_list ha) (show swapsWith ex (some (.Subscript eo ex2 p2)) pos.line X.env = pure false by cases ex <;> rfl) hw h1) fun D σ H ⟨r, F, A, w, q⟩ => ?_
  simp only [evS] at q
  refine ⟨r, F, A, w, PR.mono (PF.fl q) fun oa r1 F1 H1 A1 s1 w1 q1 x ox => ?_⟩
  obtain ⟨hi, q1⟩ := iteB (P := PF X.K xp W io F1 H1 A1 σ D) q1 fun z => z
  obtain ⟨v, hv⟩ := w1.has hi
  refine ⟨v, hv, r1, F1, A1, w1, PR.mono (PF.fl q1) fun ob r2 F2 H2 A2 s2 w2 q2 y oy => ?_⟩
  cases oa with
  | sl _ => exact q2.elim
  | io _ => exact q2.elim
  | d d =>
    cases e2 : intV r2 ob with
    | none => rw [e2] at q2; exact q2.elim
    | some n =>
      rw [e2] at q2
      simp only [stoF] at q2
      split at q2
      · rename_i xs e1
        split at q2
        · rename_i j hj
          obtain ⟨p, vs, g1, g2, g3, _, g4⟩ := w2.change e1
          rw [g1] at hv
          cases hv
          have dx : Dp X.K F2 x d := dp_mono s2.ff ox
          obtain ⟨A3, w3, s3⟩ := g4 _ _ (dpAll_set dx j g3)
          exact ⟨p, vs, n, j, rfl, intV_ok w2 oy e2, g2, by rw [dpAll_len g3]; exact hj, q2 σ F2 _ A3 s3 w3 .refl⟩
        · exact q2.elim
      · exact q2.elim
/-! ### name op= int -/
def rAugI (o : BOp) : TIp := fun x y H Q => ∃ i j z, x = .int i ∧ y = .int j ∧ augD o i j = some z ∧ Q (.int z) H
theorem ip_augD (o : BOp) : PIp X (bop o) (rAugI o) := by
  intro pins s σ H x y v u Q I r1 r2 ⟨i, j, z, e1, e2, e3, q⟩
  cases o with
  | add => cases e3; exact ip_add pins s σ H x y v u Q I r1 r2 ⟨i, j, e1, e2, q⟩
  | sub => cases e3; exact ip_sub pins s σ H x y v u Q I r1 r2 ⟨i, j, e1, e2, q⟩
  | mul => cases e3
  | fdiv => cases e3
  | mod => cases e3
  | pow => cases e3
theorem s_aug {i : Nat} {x : Str} {o : BOp} {p2 : Pos} (hN : X.N.Nodup) (hi : X.N[i]? = some x) (hx : Loc X.env.scope x) (hf : X.fn x = true ∨ X.env.scope.names.lookup x = some .local) (h : PE X ex (TOp X.K xp W C a)) :
    PS X (.AugAssign (.Name x p2) (bop o) ex pos) (TSt X.K xp W C io (.aug i o a)) := by
  refine ps_imp (ps_aug hN hi hx h (ip_augD o) hf) fun D σ H ⟨r, F, A, w, q⟩ => ?_
  simp only [evS] at q
  obtain ⟨hs, q⟩ := iteB (P := PF X.K xp W io F H A σ D) q fun z => z
  obtain ⟨v, hv⟩ := w.has hs
  refine ⟨v, hv, r, F, A, w, PR.mono (PF.fl q) fun oa r1 F1 H1 A1 s1 w1 q1 y oy => ?_⟩
  split at q1
  · rename_i m n e1 e2
    split at q1
    · rename_i z hz
      split at q1
      · rename_i hio
        obtain ⟨v', g1, g2⟩ := w1.slot_fr e1
        rw [g1] at hv
        cases hv
        cases g2
        have hlt : i < r1.length := (List.getElem?_eq_some_iff.mp e1).1
        have w1' : Wf X.K F1 H1 σ r1 A1 ([] ++ []) := w1
        obtain ⟨A', w', m'⟩ := w1'.store (u := .fr (.int z)) (v := .int z) hlt (.fr (.int z))
        refine ⟨m, n, z, rfl, intV_ok w1 oy e2, hz, q1 _ F1 H1 A' (Stp.refl.perm (fun p h => h) m') w' (.set fun hmem => ?_)⟩
        rw [List.contains_iff_mem.mpr hmem] at hio
        cases hio
      · exact q1.elim
    · exact q1.elim
  · exact q1.elim
/-! ### name += a list of one's own -/
theorem ip_ext : PIp X .Add rExt2 := fun pins s σ H x y v u Q I r1 r2 q => iop_ext pins s σ H x y v u Q I r1 r2 q
theorem s_augl {i : Nat} {x : Str} {p2 : Pos} (hN : X.N.Nodup) (hi : X.N[i]? = some x) (hx : Loc X.env.scope x) (hf : X.fn x = true ∨ X.env.scope.names.lookup x = some .local) (h : PE X ex (TV X.K xp W C a)) :
    PS X (.AugAssign (.Name x p2) .Add ex pos) (TSt X.K xp W C io (.augl i a)) := by
  refine ps_imp (ps_aug hN hi hx h ip_ext hf) fun D σ H ⟨r, F, A, w, q⟩ => ?_
  simp only [evS] at q
  obtain ⟨hs, q⟩ := iteB (P := PF X.K xp W io F H A σ D) q fun z => z
  obtain ⟨v, hv⟩ := w.has hs
  refine ⟨v, hv, r, F, A, w, PF.flV q fun u r1 y F1 H1 A1 B s1 w1 rv q1 => ?_⟩
  split at q1
  · rename_i ys xs e1
    split at q1
    · rename_i hl
      obtain ⟨p, vs, g1, g2, g3, g5, g4⟩ := w1.change e1
      have hv' := hv
      rw [g1] at hv
      cases hv
      cases rv with
      | ow o =>
        cases o with
        | lst h1 h2 =>
          rename_i b ws
          obtain ⟨A3, w3, s3⟩ := g4 _ _ (dpAll_app g3 h2)
          refine ⟨p, b, vs, ws, rfl, rfl, g2, h1, by rw [dpAll_len g3, dpAll_len h2]; exact lenOk_iff.mp hl, ?_⟩
          have : σ.set i (some (.ref p)) = σ := by
            obtain ⟨z1, z2⟩ := List.getElem?_eq_some_iff.mp hv'
            apply List.ext_getElem?
            intro j
            by_cases hj : i = j
            · subst hj
              rw [List.getElem?_set_self z1, hv']
            · rw [List.getElem?_set_ne hj]
          show D.nx (σ.set i (some (.ref p))) _
          rw [this]
          have s1' : Stp F H A F1 H1 A1 := s1.perm (fun p h => h) fun p h => List.mem_append_right _ h
          exact q1 σ F1 _ A3 (s1'.trans s3) w3.nil .refl
    · exact q1.elim
  · exact q1.elim
/-! ### methods that change a list -/
def mId : Mt → String
  | .append => "list.append"
  | .insert => "list.insert"
  | .pop => "list.pop"
  | .reverse => "list.reverse"
  | .clear => "list.clear"
def rMt (K : PySem.W.Frag) (m : Mt) : V → List V → Hp → VK → Prop := fun x vs H Q => ∃ F l ws xs ds ys, x = .ref l ∧ H l = some (.lst ws) ∧ DpAll K F ws xs ∧ DpAll K F vs ds ∧ mtD m xs ds = some ys ∧ ∀ y ws', DpAll K F ws' ys → Q y (upd H l (.lst ws'))
theorem dpAll_one {K : PySem.W.Frag} {F : Hp} {vs : List V} {d : PyData} (h : DpAll K F vs [d]) : ∃ v, vs = [v] ∧ Dp K F v d := by
  cases h with
  | cons a b => cases b; exact ⟨_, rfl, a⟩
theorem dpAll_two {K : PySem.W.Frag} {F : Hp} {vs : List V} {d e : PyData} (h : DpAll K F vs [d, e]) : ∃ v w, vs = [v, w] ∧ Dp K F v d ∧ Dp K F w e := by
  cases h with
  | cons a b =>
    obtain ⟨w, rfl, q⟩ := dpAll_one b
    exact ⟨_, w, rfl, a, q⟩
theorem dpAll_dropLast {K : PySem.W.Frag} {F : Hp} : ∀ {vs : List V} {ds : List PyData}, DpAll K F vs ds → DpAll K F vs.dropLast ds.dropLast
  | _, _, .nil => .nil
  | _, _, .cons a .nil => .nil
  | _, _, .cons a (.cons b r) => .cons a (dpAll_dropLast (.cons b r))
theorem dpAll_erase {K : PySem.W.Frag} {F : Hp} : ∀ {vs : List V} {ds : List PyData} (i : Nat), DpAll K F vs ds → DpAll K F (vs.eraseIdx i) (ds.eraseIdx i)
  | _, _, _, .nil => .nil
  | _, _, 0, .cons a r => r
  | _, _, i + 1, .cons a r => .cons a (dpAll_erase i r)
theorem dpAll_rev {K : PySem.W.Frag} {F : Hp} : ∀ {vs : List V} {ds : List PyData}, DpAll K F vs ds → DpAll K F vs.reverse ds.reverse
  | _, _, .nil => .nil
  | _, _, .cons a r => by
    rw [List.reverse_cons, List.reverse_cons]
    exact dpAll_app (dpAll_rev r) (.cons a .nil)
theorem mt_ok (m : Mt) : MtR X (mId m) (rMt X.K m) := by
  intro pins s σ H x vs v us Q I rx rv ⟨F, l, ws, xs, ds, ys, ex, hH, d1, d2, em, q⟩
  cases m with
  | append =>
    match ds, em with
    | [d], em =>
      simp only [mtD] at em
      split at em
      · rename_i hz
        cases em
        obtain ⟨y, rfl, dy⟩ := dpAll_one d2
        exact mt_append pins s σ H x _ v us Q I rx rv ⟨l, ws, y, ex, rfl, hH, by rw [dpAll_len d1]; exact hz, q _ _ (dpAll_app d1 (.cons dy .nil))⟩
      · cases em
    | [], em => cases em
    | _ :: _ :: _, em => cases em
  | insert =>
    match ds, em with
    | [.int k, d], em =>
      simp only [mtD] at em
      split at em
      · rename_i hz
        cases em
        simp only [Bool.and_eq_true, decide_eq_true_eq] at hz
        obtain ⟨⟨h0, h1⟩, h2⟩ := hz
        obtain ⟨y, w, rfl, dy, dw⟩ := dpAll_two d2
        cases dy
        have e := dpAll_len d1
        have hs : sizeLine = 16777216 := sizeLine_eq
        refine mt_insert pins s σ H x _ v us Q I rx rv ⟨l, ws, k, w, ex, rfl, hH, by rw [e]; exact h2, h0, by omega, q _ _ ?_⟩
        rw [List.append_assoc]
        exact dpAll_app (dpAll_take _ d1) (.cons dw (dpAll_drop _ d1))
      · cases em
    | [], em => cases em
    | [x], em => simp [mtD] at em
    | .none :: _ :: _, em => cases em
    | .bool _ :: _ :: _, em => cases em
    | .str _ :: _ :: _, em => cases em
    | .list _ :: _ :: _, em => cases em
    | .tuple _ :: _ :: _, em => cases em
    | .dict _ :: _ :: _, em => cases em
    | .int _ :: _ :: _ :: _, em => cases em
  | pop =>
    match ds, em with
    | [], em =>
      simp only [mtD] at em
      split at em
      · cases em
      · rename_i hz
        cases em
        cases d2
        have e := dpAll_len d1
        have hne : ws.length ≠ 0 := by
          rw [e]
          intro z
          rw [List.length_eq_zero_iff] at z
          subst z
          exact hz rfl
        obtain ⟨y, hy⟩ : ∃ y, ws[ws.length - 1]? = some y := ⟨_, List.getElem?_eq_getElem (by omega)⟩
        exact mt_pop pins s σ H x _ v us Q I rx rv ⟨l, ws, y, ex, rfl, hH, hy, q _ _ (dpAll_dropLast d1)⟩
    | [.int k], em =>
      simp only [mtD, Option.map_eq_some_iff] at em
      obtain ⟨j, hj, em⟩ := em
      cases em
      obtain ⟨y, rfl, dy⟩ := dpAll_one d2
      cases dy
      have e := dpAll_len d1
      obtain ⟨z, _⟩ := I.lstM hH
      rw [← e] at hj
      obtain ⟨g1, g2, g3, g4⟩ := ixN_seq hj
      have hs : sizeLine = 16777216 := sizeLine_eq
      obtain ⟨yv, hy⟩ : ∃ y, ws[j]? = some y := ⟨_, List.getElem?_eq_getElem g2⟩
      exact mt_popAt pins s σ H x _ v us Q I rx rv ⟨l, ws, k, j, yv, ex, rfl, hH, by omega, by omega, g1, hy, q _ _ (dpAll_erase j d1)⟩
    | .none :: _, em => cases em
    | .bool _ :: _, em => cases em
    | .str _ :: _, em => cases em
    | .list _ :: _, em => cases em
    | .tuple _ :: _, em => cases em
    | .dict _ :: _, em => cases em
    | .int _ :: _ :: _, em => cases em
  | reverse =>
    match ds, em with
    | [], em =>
      cases em
      cases d2
      exact mt_reverse pins s σ H x _ v us Q I rx rv ⟨l, ws, ex, rfl, hH, q _ _ (dpAll_rev d1)⟩
    | _ :: _, em => cases em
  | clear =>
    match ds, em with
    | [], em =>
      cases em
      cases d2
      exact mt_clear pins s σ H x _ v us Q I rx rv ⟨l, ws, ex, rfl, hH, q _ _ .nil⟩
    | _ :: _, em => cases em
def mNm : Mt → Str
  | .append => "append"
  | .insert => "insert"
  | .pop => "pop"
  | .reverse => "reverse"
  | .clear => "clear"
theorem mSlot : ∀ m : Mt, Slot "list" (mNm m) (mId m)
  | .append => PySem.F.slot_list_append
  | .insert => PySem.F.slot_list_insert
  | .pop => PySem.F.slot_list_pop
  | .reverse => PySem.F.slot_list_reverse
  | .clear => PySem.F.slot_list_clear
theorem mTy : ∀ m : Mt, typeOf (.builtin (mId m)) = pure (.type "method_descriptor")
  | .append => PySem.F.type_list_append
  | .insert => PySem.F.type_list_insert
  | .pop => PySem.F.type_list_pop
  | .reverse => PySem.F.type_list_reverse
  | .clear => PySem.F.type_list_clear
theorem Wf.owS {K : PySem.W.Frag} {F H : Hp} {A B : List Addr} {σ : L2.St} {r : Rho} {i : Nat} (w : Wf K F H σ r A B) (h : isOwS r i = true) : ∃ p vs, σ[i]? = some (some (.ref p)) ∧ H p = some (.lst vs) := by
  unfold isOwS at h
  split at h
  · rename_i o e
    cases o with
    | lst xs =>
      obtain ⟨p, vs, h1, h2, h3, _⟩ := w.slot_ow e
      exact ⟨p, vs, h1, h2⟩
  · cases h
theorem s_mth_of {m : Mt} {i : Nat} {es : List E} {te : TE} (h : PE X ex te) (hc : isComp ex = false)
    (ht : ∀ σ H Q v, σ[i]? = some (some v) → tyV X.K "list" v H → (TAs X.K xp W C es σ H fun xs H1 => rMt X.K m v xs H1 Q) → te σ H Q) : PS X (.Expr ex pos) (TSt X.K xp W C io (.mth m i es)) := by
  refine ps_imp (ps_expr h (swaps_no hc)) fun D σ H ⟨r, F, A, w, q⟩ => ?_
  simp only [evS] at q
  obtain ⟨hs, q⟩ := iteB (P := PF X.K xp W io F H A σ D) q fun z => z
  obtain ⟨p, ws, hv, hp⟩ := w.owS hs
  refine ht σ H _ (.ref p) hv (.inl ⟨rfl, ws, SqL.of hp⟩) ⟨r, F, A, w, PR.mono (PF.fl q) fun os r1 F1 H1 A1 s1 w1 q1 xs oxs => ?_⟩
  split at q1
  · rename_i zs ds e1 e2
    split at q1
    · rename_i ys hm
      obtain ⟨p', vs, g1, g2, g3, _, g4⟩ := w1.change e1
      rw [g1] at hv
      cases hv
      refine ⟨F1, p, vs, zs, ds, ys, rfl, g2, g3, dsO_ok oxs e2, hm, fun y ws' d => ?_⟩
      obtain ⟨A3, w3, s3⟩ := g4 _ _ d
      exact q1 σ F1 _ A3 s3 w3 .refl
    · exact q1.elim
  · exact q1.elim
theorem s_mth0 {m : Mt} {i : Nat} {cpos apos : Pos} (ho : PE X eo (tVar i)) (hb : attributeBase eo (mNm m) X.env (eval eo X.env) = eval eo X.env) (hline : (apos.endLine == cpos.line) = true) : PS X (.Expr (.Call (.Attribute eo (mNm m) apos) [] [] cpos) pos) (TSt X.K xp W C io (.mth m i [])) :=
  s_mth_of (pe_bm0 PySem.F.plainAttrs_list (mSlot m) (mTy m) (mt_ok m) ho hb hline) rfl fun σ H Q v hv ty ⟨r, F, A, w, q⟩ => ⟨v, hv, ty, q F H A .refl w [] .nil⟩
theorem s_mth {m : Mt} {i : Nat} {es : List E} {exs : List Expr} {cpos apos : Pos} (ho : PE X eo (tVar i)) (ha : PA X (ex :: exs) (TAs X.K xp W C es)) (hb : attributeBase eo (mNm m) X.env (eval eo X.env) = eval eo X.env)
    (hfew : ((backTo cpos (starEach (ex :: exs) X.env)).all (fun x => !x.1) && (backToKw cpos (keywordEach [] X.env)).all (fun x => x.1.isSome)
      && decide ((ex :: exs).length + ([] : List Keyword).length + (if ([] : List Keyword).isEmpty then 0 else 1) < 30)) = true)
    (hline : (apos.endLine == cpos.line) = true) (hst : (ex :: exs).all noStar = true) : PS X (.Expr (.Call (.Attribute eo (mNm m) apos) (ex :: exs) [] cpos) pos) (TSt X.K xp W C io (.mth m i es)) := by
  simp only [List.all_cons, Bool.and_eq_true] at hst
  exact s_mth_of (pe_bm PySem.F.plainAttrs_list (mSlot m) (mTy m) (mt_ok m) ho ha hb hfew hline (starEach_cons hst.1) (noStars hst.2 cpos)) rfl fun σ H Q v hv ty q => ⟨v, hv, ty, q⟩
end
end Ev

/-! Ev12: pairs, while, what loops walk, for. -/
namespace Ev
open PySem PySem.Spec PyProof.Rows L2
section
variable {X : Cx} {N : List Str} {sc : Scope} {xp : Xp} {W : WX} {C : Cf} {ex ex2 ex3 eo : Expr} {a b c : E} {pos : Pos} {io : List Nat}
theorem s_par {i j : Nat} {x y : Str} {px py pt : Pos} {kt k2 : Nat} {pt2 : Pos} (hc : X.calm = true) (hN : X.N.Nodup) (hi : X.N[i]? = some x) (hj : X.N[j]? = some y) (hx : X.env.scope.names.lookup x = some .local) (hy : X.env.scope.names.lookup y = some .local) (hij : i ≠ j)
    (ha : PE X ex (TV X.K xp W C a)) (hb : PE X ex2 (TV X.K xp W C b)) (h1 : noStar ex = true) (h2 : noStar ex2 = true) (hw : swappedStores [.Tuple [.Name x px, .Name y py] kt pt] (.Tuple [ex, ex2] k2 pt2) X.env = pure (some [x, y])) :
    PS X (.Assign [.Tuple [.Name x px, .Name y py] kt pt] (.Tuple [ex, ex2] k2 pt2) pos) (TSt X.K xp W C io (.par i j a b)) := by
  refine ps_imp (ps_par hc hN hi hj hij hx hy (sVs_cons ha (sVs_cons hb sVs_nil h2) h1) hw (show swapsWith (.Tuple [ex, ex2] k2 pt2) (some (.Tuple [.Name x px, .Name y py] kt pt)) pos.line X.env = pure false from swaps_no rfl)) fun D σ H ⟨r, F, A, w, q⟩ => ⟨r, F, A, w, ?_⟩
  simp only [evS] at q
  simp only [evVs]
  cases e1 : evE C a r with
  | bad => rw [e1] at q; exact q
  | ex cc fs r' =>
    rw [e1] at q
    exact fun d H' F' A' s' w z => q d σ F' H' A' s' w .refl z
  | ok u r1 =>
    rw [e1] at q
    simp only [Res.fl] at q
    show PVs _ _ _ _ _ _ _ _ (((evE C b r1).bind fun x r2 => .ok [x] r2).bind fun xs r2 => .ok (u :: xs) r2)
    cases e2 : evE C b r1 with
    | bad => rw [e2] at q; exact q
    | ex cc fs r' =>
      rw [e2] at q
      exact fun d H' F' A' s' w z => q d σ F' H' A' s' w .refl z
    | ok v r2 =>
      rw [e2] at q
      simp only at q
      split at q
      · rename_i hcond
        simp only [Bool.and_eq_true, decide_eq_true_eq, Bool.not_eq_true'] at hcond
        obtain ⟨⟨⟨⟨g1, g2⟩, _⟩, g3⟩, g4⟩ := hcond
        intro xs F' H' A' B s w' rvs
        cases rvs with
        | @cons v1 _ _ _ B1 C1 r1' rr =>
          cases rr with
          | @cons v2 _ _ _ B2 C2 r2' rr =>
            cases rr
            rw [List.append_nil] at w' s
            obtain ⟨A1, w1, m1⟩ := w'.store (i := i) g3 r1'
            have w1' : Wf X.K F' H' (σ.set i (some v1)) (r2.set i (some u)) A1 (B2 ++ []) := by rw [List.append_nil]; exact w1
            obtain ⟨A2, w2, m2⟩ := w1'.store (i := j) (by rw [List.length_set]; exact g4) r2'
            refine ⟨v1, v2, rfl, q _ F' H' A2 (s.perm (fun p h => h) fun p hp => ?_) w2 (.trans (.set fun hm => ?_) (.set fun hm => ?_))⟩
            · rcases List.mem_append.mp (m2 p hp) with z | z
              · exact List.mem_append_left _ (List.mem_append_right _ z)
              · rcases List.mem_append.mp (m1 p z) with z | z
                · exact List.mem_append_left _ (List.mem_append_left _ z)
                · exact List.mem_append_right _ z
            · rw [List.contains_iff_mem.mpr hm] at g1; cases g1
            · rw [List.contains_iff_mem.mpr hm] at g2; cases g2
      · exact q.elim
/-! ### while -/
theorem s_whl {body : List Stmt} {ss : List S} (hp : PassesOwn (model X.prog X.w) X.A X.env X.xe) (ht : PT X ex (TTs X.K xp W C a)) (hb : PSs X body (TSts X.K xp W C io ss)) : PS X (.While ex body [] pos) (TSt X.K xp W C io (.whl a ss)) := by
  refine ps_imp (ps_while hp ht hb) fun D σ H ⟨r, F, A, w, q⟩ => ?_
  simp only [evS] at q
  refine ⟨fun m σ1 H1 => ∃ r1 F1 A1, Wf X.K F1 H1 σ1 r1 A1 [] ∧ PF X.K xp W io F1 H1 A1 σ1 D (whLoop (evT C a) (evSs C io ss) m r1), ⟨C.w, r, F, A, w, q⟩, ?_⟩
  rintro m σ1 H1 ⟨r1, F1, A1, w1, q1⟩
  cases m with
  | zero => exact q1.elim
  | succ m =>
    simp only [whLoop] at q1
    refine ⟨r1, F1, A1, w1, PR.mono (PF.fl q1) fun k r2 F2 H2 A2 s2 w2 q2 => ?_⟩
    cases k with
    | false =>
      rw [if_neg Bool.false_ne_true] at q2 ⊢
      exact q2 σ1 F2 H2 A2 .refl w2 .refl
    | true =>
      rw [if_pos rfl] at q2 ⊢
      refine ⟨fun σ' H' => ∃ r1 F1 A1, Wf X.K F1 H' σ' r1 A1 [] ∧ PF X.K xp W io F1 H' A1 σ' D (whLoop (evT C a) (evSs C io ss) m r1), fun σ' H' h => ⟨m, Nat.lt_succ_self m, h⟩, r2, F2, A2, w2, ?_⟩
      cases e : evSs C io ss r2 with
      | nx r3 => rw [e] at q2; exact fun σ' F' H' A' s' w' k' => ⟨r3, F', A', w', PF.pre s' k' q2⟩
      | ct r3 => rw [e] at q2; exact fun σ' F' H' A' s' w' k' => ⟨r3, F', A', w', PF.pre s' k' q2⟩
      | bk r3 => rw [e] at q2; exact q2
      | rt _ _ => rw [e] at q2; exact q2
      | ex _ _ _ => rw [e] at q2; exact q2
      | bad => rw [e] at q2; exact q2.elim
end
/-! ### what loops walk -/
/-- the lent slots' contents -/
inductive SlR (K : PySem.W.Frag) (F H : Hp) (σ : L2.St) (r : Rho) : List Nat → List Addr → Prop
  | nil : SlR K F H σ r [] []
  | cons {i : Nat} {is : List Nat} {u : Rv} {v : V} {B B' : List Addr} : r[i]? = some (some u) → σ[i]? = some (some v) → RvR K F H v u B → SlR K F H σ r is B' → SlR K F H σ r (i :: is) (B ++ B')
/-- a new tuple that is taken apart at once -/
def NewP (K : PySem.W.Frag) (F H : Hp) (x : V) (H' : Hp) (ds : List PyData) : Prop := ∃ p vs, x = .ref p ∧ H p = none ∧ H' = upd H p (.tup vs) ∧ DpAll K F vs ds
def ItOk (K : PySem.W.Frag) (F Fz : Hp) (t : Tg) (xs : List PyData) (J : It) : Prop :=
  (∀ i H', Same Fz H' → i < xs.length → J.go i H') ∧ (∀ i H' x H'', Same Fz H' → i < xs.length → J.yld i H' x H'' → ∃ d, xs[i]? = some d ∧ (NewR K F H' x H'' (.fr d) ∨ ∃ ts ds, t = .t ts ∧ d = .tuple ds ∧ NewP K F H' x H'' ds)) ∧ ∀ i H', Same Fz H' → xs.length ≤ i → J.stop i H'
def TIt (K : PySem.W.Frag) (xp : Xp) (W : WX) (C : Cf) (t : Tg) (e : E) : TI := fun σ H R => ∃ r F A, Wf K F H σ r A [] ∧ PR K xp W F H A σ (fun m r1 F1 H1 A1 => ∀ J B A', A1.Perm (B ++ A') → RhoR K F1 H1 σ (wipeR r1 m.sl) A' → SlR K F1 H1 σ r1 m.sl B → ItOk K F1 (ext F1 H1 B) t m.xs J → R J H1) (evI C e r)
theorem pi_imp {X : Cx} {tg e : Expr} {t t' : TI} (h : PI X tg e t) (m : ∀ σ H Q, t' σ H Q → t σ H Q) : PI X tg e t' := ⟨fun pins s σ H R I q => h.run pins s σ H R I (m _ _ _ q)⟩
section
variable {K : PySem.W.Frag} {xp : Xp} {W : WX} {F H F1 H1 : Hp} {A A1 : List Addr} {σ : L2.St} {r : Rho} {t : Tg} {ts : List Tg}
theorem itOk_range {lo : Int} {n : Nat} {xs : List PyData} (hl : xs.length = n) (hx : ∀ i, i < n → xs[i]? = some (.int (lo + i))) : ItOk K F F1 t xs (Itr lo n) := by
  refine ⟨fun i H' _ h => by rw [hl] at h; exact h, fun i H' x H'' _ h y => ?_, fun i H' _ h => by rw [hl] at h; exact h⟩
  obtain ⟨e1, e2⟩ := y
  subst e1 e2
  exact ⟨_, hx i (hl ▸ h), .inl (.old (.int _))⟩
theorem itOk_list {a : Addr} {vs : List V} {xs : List PyData} (hq : ∀ H', Same F1 H' → SqL K H' a vs) (hd : DpAll K F vs xs) : ItOk K F F1 t xs (Itl K a) := by
  have hl := dpAll_len hd
  refine ⟨fun i H' s h => ⟨vs, vs[i]'(by omega), hq H' s, List.getElem?_eq_getElem _⟩, fun i H' x H'' s h y => ?_, fun i H' s h => ⟨vs, hq H' s, by omega⟩⟩
  obtain ⟨e1, e2⟩ := y
  subst e1
  obtain ⟨d, g1, g2⟩ := dpAll_get' hd (e2 vs (hq _ s))
  exact ⟨d, g1, .inl (.old g2)⟩
theorem itOk_tup {a : Addr} {vs : List V} {xs : List PyData} (hq : ∀ H', Same F1 H' → SqT K H' a vs) (hd : DpAll K F vs xs) : ItOk K F F1 t xs (Itt K a) := by
  have hl := dpAll_len hd
  refine ⟨fun i H' s h => ⟨vs, vs[i]'(by omega), hq H' s, List.getElem?_eq_getElem _⟩, fun i H' x H'' s h y => ?_, fun i H' s h => ⟨vs, hq H' s, by omega⟩⟩
  obtain ⟨e1, e2⟩ := y
  subst e1
  obtain ⟨d, g1, g2⟩ := dpAll_get' hd (e2 vs (hq _ s))
  exact ⟨d, g1, .inl (.old g2)⟩
theorem enuD_get {xs : List PyData} {i : Nat} {d : PyData} (h : xs[i]? = some d) : (enuD xs)[i]? = some (.tuple [.int i, d]) := by
  unfold enuD
  rw [List.getElem?_mapIdx, h]
  rfl
theorem enuD_len {xs : List PyData} : (enuD xs).length = xs.length := by
  unfold enuD
  rw [List.length_mapIdx]
theorem itOk_enum {a : Addr} {vs : List V} {xs : List PyData} (hq : ∀ H', Same F1 H' → SqL K H' a vs) (hd : DpAll K F vs xs) : ItOk K F F1 (.t ts) (enuD xs) (Ite K a) := by
  have hl := dpAll_len hd
  unfold ItOk
  rw [enuD_len]
  refine ⟨fun i H' s h => ⟨vs, vs[i]'(by omega), hq H' s, List.getElem?_eq_getElem _⟩, fun i H' x H'' s h y => ?_, fun i H' s h => ⟨vs, hq H' s, by omega⟩⟩
  obtain ⟨T, y, rfl, hT, rfl, hy⟩ := y
  obtain ⟨d, g1, g2⟩ := dpAll_get' hd (hy vs (hq _ s))
  exact ⟨_, enuD_get g1, .inr ⟨ts, _, rfl, rfl, _, _, rfl, hT, rfl, .cons (.int _) (.cons g2 .nil)⟩⟩
end
section
variable {X : Cx} {N : List Str} {sc : Scope} {xp : Xp} {W : WX} {C : Cf} {ex ex2 ex3 eo tg : Expr} {a b c : E} {pos p : Pos} {io : List Nat} {t : Tg} {ts : List Tg}
theorem intV_d {x : V} {F H : Hp} {σ : L2.St} {A : List Addr} {r : Rho} {o : OV} {i : Int} (w : Wf X.K F H σ r A []) (h : OvR X.K F σ x o) (e : intV r o = some i) : x = .int i := intV_ok w h e
theorem tas_one {β : Type} {f : OV → Rho → Res β} {k : β → Rho → Hp → Hp → List Addr → Prop} {σ : L2.St} {H : Hp} {Q : List V → Hp → Prop} {r : Rho} {F : Hp} {A : List Addr} (w : Wf X.K F H σ r A []) (q : PR X.K xp W F H A σ k ((asO a (evE C a r) r).bind f))
    (m : ∀ x o r1 F1 H1 A1, Wf X.K F1 H1 σ r1 A1 [] → OvR X.K F1 σ x o → PR X.K xp W F1 H1 A1 σ k (f o r1) → Q [x] H1) : TAs X.K xp W C [a] σ H Q := by
  refine ⟨r, F, A, w, ?_⟩
  simp only [evOs]
  cases e : asO a (evE C a r) r with
  | bad => rw [e] at q; exact q
  | ex _ _ _ => rw [e] at q; exact q
  | ok o r1 =>
    rw [e] at q
    intro F1 H1 A1 s1 w1 xs oxs
    cases oxs with
    | cons ox rest =>
      cases rest
      exact m _ o r1 F1 H1 A1 w1 ox (PR.pre s1 q)
theorem tas_two {β : Type} {f : OV → OV → Rho → Res β} {k : β → Rho → Hp → Hp → List Addr → Prop} {σ : L2.St} {H : Hp} {Q : List V → Hp → Prop} {r : Rho} {F : Hp} {A : List Addr} (w : Wf X.K F H σ r A [])
    (q : PR X.K xp W F H A σ k ((asO a (evE C a r) r).bind fun x r1 => (asO b (evE C b r1) r1).bind fun y r2 => f x y r2))
    (m : ∀ x y o o2 r1 F1 H1 A1, Wf X.K F1 H1 σ r1 A1 [] → OvR X.K F1 σ x o → OvR X.K F1 σ y o2 → PR X.K xp W F1 H1 A1 σ k (f o o2 r1) → Q [x, y] H1) : TAs X.K xp W C [a, b] σ H Q := by
  refine ⟨r, F, A, w, ?_⟩
  simp only [evOs]
  cases e : asO a (evE C a r) r with
  | bad => rw [e] at q; exact q
  | ex _ _ _ => rw [e] at q; exact q
  | ok o r1 =>
    rw [e] at q
    simp only [Res.bind] at q ⊢
    cases e2 : asO b (evE C b r1) r1 with
    | bad => rw [e2] at q; exact q
    | ex _ _ _ => rw [e2] at q; exact q
    | ok o2 r2 =>
      rw [e2] at q
      intro F2 H2 A2 s2 w2 xs oxs
      cases oxs with
      | cons ox rest =>
        cases rest with
        | cons oy rest =>
          cases rest
          exact m _ _ o o2 r2 F2 H2 A2 w2 ox oy (PR.pre s2 q)
theorem i_rng1 (hg : Gl X "range") (hm : X.mg "range" = none) (h : PE X ex (TOp X.K xp W C a)) (hn : noStar ex = true) : PI X tg (.Call (.Name "range" p) [ex] [] pos) (TIt X.K xp W C t (.rng1 a)) := by
  refine pi_imp (pi_range1W hg hm (sA_cons h sA_nil hn) (starEach_cons hn)) fun σ H R ⟨r, F, A, w, q⟩ => ?_
  simp only [evI] at q
  refine tas_one w q fun x o r1 F1 H1 A1 w1 ox q => ?_
  cases e2 : intV r1 o with
  | none => rw [e2] at q; exact q.elim
  | some j =>
    rw [e2] at q
    have ej := intV_ok w1 ox e2
    subst ej
    simp only [rangeD] at q
    refine ⟨j, rfl, ?_⟩
    refine q F1 H1 A1 .refl w1 (Itr 0 j.toNat) [] A1 (.refl _) w1.env .nil (itOk_range ?_ fun i hi => ?_)
    · simp
    · simp [hi]
theorem i_rng2 (hg : Gl X "range") (hm : X.mg "range" = none) (h : PE X ex (TOp X.K xp W C a)) (h2 : PE X ex2 (TOp X.K xp W C b)) (hn : noStar ex = true) (hn2 : noStar ex2 = true) : PI X tg (.Call (.Name "range" p) [ex, ex2] [] pos) (TIt X.K xp W C t (.rng2 a b)) := by
  refine pi_imp (pi_range2W hg hm (sA_cons h (sA_cons h2 sA_nil hn2) hn) (by rw [starEach_cons hn, starEach_cons hn2]; rfl) (starEach_cons hn2)) fun σ H R ⟨r, F, A, w, q⟩ => ?_
  simp only [evI] at q
  refine tas_two w q fun x y o o2 r1 F1 H1 A1 w1 ox oy q => ?_
  cases e1 : intV r1 o with
  | none => rw [e1] at q; exact q.elim
  | some i =>
    cases e2 : intV r1 o2 with
    | none => rw [e1, e2] at q; exact q.elim
    | some j =>
      rw [e1, e2] at q
      have ei := intV_ok w1 ox e1
      have ej := intV_ok w1 oy e2
      subst ei ej
      simp only [rangeD] at q
      refine ⟨i, j, rfl, ?_⟩
      refine q F1 H1 A1 .refl w1 (Itr i (j - i).toNat) [] A1 (.refl _) w1.env .nil (itOk_range ?_ fun i hi => ?_)
      · simp
      · simp [hi]
/-- what a list or a tuple that is walked gives -/
theorem seqOf_ok {K : PySem.W.Frag} {F H : Hp} {A : List Addr} {σ : L2.St} {r : Rho} {x : V} {o : OV} {m : Itm} (w : Wf K F H σ r A []) (ox : OvR K F σ x o) (e : seqOf r o = some m) :
    ∃ a vs B A', x = .ref a ∧ DpAll K F vs m.xs ∧ A.Perm (B ++ A') ∧ RhoR K F H σ (wipeR r m.sl) A' ∧ SlR K F H σ r m.sl B ∧ ∀ H', Same (ext F H B) H' → (m.ls = true → SqL K H' a vs) ∧ (m.ls = false → SqT K H' a vs) := by
  have hd : ∀ {d : PyData} {xs : List PyData}, Dp K F x d → itemsD d = some xs → ∃ a vs, x = .ref a ∧ DpAll K F vs xs ∧ ∀ H', Same F H' → (isLD d = true → SqL K H' a vs) ∧ (isLD d = false → SqT K H' a vs) := fun {d xs} dx e => by
    cases dx with
    | lst s r => cases e; exact ⟨_, _, rfl, r, fun H' sm => ⟨fun _ => sm.seq s, fun z => by cases z⟩⟩
    | tup s r => cases e; exact ⟨_, _, rfl, r, fun H' sm => ⟨fun z => (by cases z), fun _ => same_sqt sm s.sqt⟩⟩
    | _ => cases e
  have old : ∀ {d : PyData}, Dp K F x d → (itemsD d).map (fun xs => (⟨xs, [], isLD d⟩ : Itm)) = some m → ∃ a vs B A', x = .ref a ∧ DpAll K F vs m.xs ∧ A.Perm (B ++ A') ∧ RhoR K F H σ (wipeR r m.sl) A' ∧ SlR K F H σ r m.sl B ∧ ∀ H', Same (ext F H B) H' → (m.ls = true → SqL K H' a vs) ∧ (m.ls = false → SqT K H' a vs) := fun {d} dx e => by
    simp only [Option.map_eq_some_iff] at e
    obtain ⟨xs, e1, e2⟩ := e
    subst e2
    obtain ⟨a, vs, g1, g2, g3⟩ := hd dx e1
    exact ⟨a, vs, [], A, g1, g2, .refl _, w.env, .nil, fun H' sm => g3 H' (by rw [ext_nil] at sm; exact sm)⟩
  cases o with
  | d d => exact old ox e
  | io i => cases e
  | sl i =>
    simp only [seqOf] at e
    have ox : σ[i]? = some (some x) := ox
    split at e
    · rename_i d q
      obtain ⟨v, h1, h2⟩ := w.slot_fr q
      rw [h1] at ox
      cases ox
      exact old h2 e
    · rename_i xs q
      cases e
      obtain ⟨v, B, A', h1, h2, h3, h4⟩ := w.env.get q
      rw [h1] at ox
      cases ox
      cases h2 with
      | ow oo =>
        cases oo with
        | lst g1 g2 =>
          rename_i p vs
          refine ⟨p, vs, [p], A', rfl, g2, h3, h4, ?_, fun H' sm => ⟨fun _ => SqL.of (sm p _ ((ext_in List.mem_cons_self).trans g1)), fun z => by cases z⟩⟩
          have := SlR.cons (K := K) (F := F) (H := H) q h1 (.ow (.lst g1 g2)) .nil
          rwa [List.append_nil] at this
    · cases e
/-- a list or a tuple: which of both shows when it is there -/
theorem pi_seq {tl : TE} (h : PE X ex tl) : PI X tg ex (fun σ H R => tl σ H fun x H1 => ∃ a, x = .ref a ∧ ((∃ xs, SqL X.K H1 a xs ∧ R (Itl X.K a) H1) ∨ ∃ xs, SqT X.K H1 a xs ∧ R (Itt X.K a) H1)) := by
  refine ⟨fun pins s σ H R I q => ?_⟩
  refine thn (h.run pins s σ H _ I q) fun v s1 ⟨x, H1, I1, r1, a, e, q1⟩ => ?_
  subst e
  cases r1
  rcases q1 with ⟨xs, hq, q1⟩ | ⟨xs, hq, q1⟩
  · obtain ⟨its, rv, p, hz⟩ := I1.list hq
    refine wpAny_pyIter_list p.isList ?_
    refine ⟨s1.heap.objs.size, [s1.heap.objs.size], _, _, H1, rfl, I1.kept (t' := s1.toks) fun b o e => Heap.get?_push_of_some _ e, turn_list a _, ⟨_, Heap.get?_push_size _ rfl, rfl, rfl⟩, fun b hb => ?_, q1⟩
    have e : b = s1.heap.objs.size := by simpa using hb
    subst e
    exact I1.fpOk (Nat.le_refl _) (I1.hok.fresh (Nat.le_refl _))
  · obtain ⟨its, rv, p, hz⟩ := I1.tuple hq
    refine wpAny_pyIter_tuple (show s1.heap.IsTuple a its.toArray from p) ?_
    refine ⟨s1.heap.objs.size, [s1.heap.objs.size], _, _, H1, rfl, I1.kept (t' := s1.toks) fun b o e => Heap.get?_push_of_some _ e, turn_tuple a _, ⟨_, Heap.get?_push_size _ rfl, rfl, rfl⟩, fun b hb => ?_, q1⟩
    have e : b = s1.heap.objs.size := by simpa using hb
    subst e
    exact I1.fpOk (Nat.le_refl _) (I1.hok.fresh (Nat.le_refl _))
theorem i_itr (h : PE X ex (TOp X.K xp W C a)) : PI X tg ex (TIt X.K xp W C t (.itr a)) := by
  refine pi_imp (pi_seq h) fun σ H R ⟨r, F, A, w, q⟩ => ?_
  simp only [evI] at q
  refine ⟨r, F, A, w, PR.mono (PR.bind q) fun o r1 F1 H1 A1 s1 w1 q1 x ox => ?_⟩
  cases e : seqOf r1 o with
  | none => rw [e] at q1; exact q1.elim
  | some m =>
    rw [e] at q1
    obtain ⟨a, vs, B, A', g1, g2, g3, g4, g5, g6⟩ := seqOf_ok w1 ox e
    have sB : Same (ext F1 H1 B) H1 := ext_below w1.sm
    refine ⟨a, g1, ?_⟩
    cases hl : m.ls with
    | true => exact .inl ⟨vs, (g6 H1 sB).1 hl, q1 F1 H1 A1 .refl w1 _ B A' g3 g4 g5 (itOk_list (fun H' s => (g6 H' s).1 hl) g2)⟩
    | false => exact .inr ⟨vs, (g6 H1 sB).2 hl, q1 F1 H1 A1 .refl w1 _ B A' g3 g4 g5 (itOk_tup (fun H' s => (g6 H' s).2 hl) g2)⟩
theorem i_enu {elts : List Expr} {kk : Nat} {tpos : Pos} (hg : Gl X "enumerate") (hm : X.mg "enumerate" = none) (h : PE X ex (TOp X.K xp W C a)) (hn : noStar ex = true) : PI X (.Tuple elts kk tpos) (.Call (.Name "enumerate" p) [ex] [] pos) (TIt X.K xp W C (.t ts) (.enu a)) := by
  refine pi_imp (pi_enum hg hm (sA_cons h sA_nil hn) (starEach_cons hn)) fun σ H R ⟨r, F, A, w, q⟩ => ?_
  simp only [evI] at q
  refine tas_one w q fun x o r1 F1 H1 A1 w1 ox q1 => ?_
  simp only [enuI] at q1
  cases e : seqOf r1 o with
  | none => rw [e] at q1; exact q1.elim
  | some m =>
    rw [e] at q1
    simp only [Option.bind_some] at q1
    split at q1
    · rename_i hl
      obtain ⟨a, vs, B, A', g1, g2, g3, g4, g5, g6⟩ := seqOf_ok w1 ox e
      have sB : Same (ext F1 H1 B) H1 := ext_below w1.sm
      subst g1
      exact ⟨a, vs, rfl, (g6 H1 sB).1 hl, q1 F1 H1 A1 .refl w1 _ B A' g3 g4 g5 (itOk_enum (fun H' s => (g6 H' s).1 hl) g2)⟩
    · exact q1.elim
end
end Ev

/-! Ev13: for. -/
namespace Ev
open PySem PySem.Spec PyProof.Rows L2
section
variable {K : PySem.W.Frag} {xp : Xp} {W : WX} {io : List Nat} {F H F1 H1 : Hp} {A A1 : List Addr} {σ σ1 : L2.St} {D : Ends} {r : Rho}
theorem SlR.live {sl : List Nat} {B : List Addr} (x : SlR K F H σ r sl B) : ∀ q ∈ B, ∃ u, H q = some u := by
  induction x with
  | nil => exact fun q hq => by cases hq
  | cons _ _ a _ ih => exact fun q hq => (List.mem_append.mp hq).elim (a.live q) (ih q)
theorem Wf.len {B : List Addr} (w : Wf K F H σ r A B) : σ.length = r.length := w.env.len
/-- what was lent comes back -/
theorem back_all {F' H' : Hp} {sl : List Nat} {B : List Addr} (x : SlR K F H σ r sl B) : ∀ {σ' : L2.St} {r' : Rho} {A'' B' : List Addr}, Same F F' → (∀ q ∈ B, H' q = H q) → Wf K F' H' σ' r' A'' (B' ++ B) → (∀ i ∈ sl, σ'[i]? = σ[i]?) → ∃ A3, Wf K F' H' σ' (backR r r' sl) A3 B' ∧ ∀ p ∈ A3, p ∈ B ++ A'' := by
  induction x with
  | nil =>
    intro σ' r' A'' B' _ _ w _
    rw [List.append_nil] at w
    exact ⟨A'', w, fun p h => h⟩
  | @cons i is u v B1 B2 e1 e2 a _ ih =>
    intro σ' r' A'' B' sF hk w ks
    have pm : (B' ++ B1 ++ B2).Perm (B' ++ (B1 ++ B2)) := by rw [List.append_assoc]
    obtain ⟨A3, w3, m3⟩ := ih (B' := B' ++ B1) sF (fun q hq => hk q (List.mem_append_right _ hq)) (w.perm pm) fun j hj => ks j (List.mem_cons_of_mem _ hj)
    have hσ : σ'[i]? = some (some v) := (ks i List.mem_cons_self).trans e2
    have hlt : i < (backR r r' is).length := by
      rw [← w3.len]
      exact (List.getElem?_eq_some_iff.mp hσ).1
    obtain ⟨A4, w4, m4⟩ := Wf.store (B' := B1) (u := u) (v := v) (w3.perm List.perm_append_comm) hlt (a.mono sF fun q hq => hk q (List.mem_append_left _ hq))
    have es : σ'.set i (some v) = σ' := by
      obtain ⟨z1, z2⟩ := List.getElem?_eq_some_iff.mp hσ
      apply List.ext_getElem?
      intro j
      by_cases hj : i = j
      · subst hj
        rw [List.getElem?_set_self z1, hσ]
      · rw [List.getElem?_set_ne hj]
    rw [es] at w4
    refine ⟨A4, ?_, fun p hp => ?_⟩
    · show Wf K F' H' σ' (match r[i]? with
        | some x => (backR r r' is).set i x
        | none => backR r r' is) A4 B'
      rw [e1]
      exact w4
    · rcases List.mem_append.mp (m4 p hp) with z | z
      · exact List.mem_append_left _ (List.mem_append_left _ z)
      · rcases List.mem_append.mp (m3 p z) with z | z
        · exact List.mem_append_left _ (List.mem_append_right _ z)
        · exact List.mem_append_right _ z
/-- while a loop runs, what it walks is hidden -/
theorem PF.hide {sl : List Nat} {B A' : List Addr} {r : Rho} {f : Fl} (w : Wf K F H σ r A []) (pm : A.Perm (B ++ A')) (w0 : Wf K F H σ (wipeR r sl) A' B) (x : SlR K F H σ r sl B) (h : PF K xp W io F H A σ D (f.map fun r' => backR r r' sl)) : PF K xp W (io ++ sl) F H A' σ D f := by
  have inB : ∀ p, p ∈ B → p ∈ A := fun p z => pm.mem_iff.mpr (List.mem_append_left _ z)
  have inA : ∀ p, p ∈ A' → p ∈ A := fun p z => pm.mem_iff.mpr (List.mem_append_right _ z)
  have go : ∀ {σ' : L2.St} {r' : Rho} {F' H' : Hp} {A'' B' : List Addr}, Stp F H A' F' H' (B' ++ A'') → Wf K F' H' σ' r' A'' B' → Kp (io ++ sl) σ σ' → ∃ A3, Stp F H A F' H' (B' ++ A3) ∧ Wf K F' H' σ' (backR r r' sl) A3 B' ∧ Kp io σ σ' := fun {σ' r' F' H' A'' B'} s w' k => by
    have wa := w0.after x.live s w'
    obtain ⟨A3, w3, m3⟩ := back_all x s.ff (s.keeps w0 x.live) wa fun i hi => k i (List.mem_append_right _ hi)
    refine ⟨A3, ⟨s.ff, fun p a b c => s.new p a b fun z => c (inA p z), fun p o a b => s.hh p o a fun z => b (inA p z), fun p hp => ?_⟩, w3, fun i hi => k i (List.mem_append_left _ hi)⟩
    rcases List.mem_append.mp hp with z | z
    · exact (s.own p (List.mem_append_left _ z)).imp (inA p) id
    · rcases List.mem_append.mp (m3 p z) with z | z
      · exact .inl (inB p z)
      · exact (s.own p (List.mem_append_right _ z)).imp (inA p) id
  cases f with
  | nx r' =>
    intro σ' F' H' A'' s w' k
    obtain ⟨A3, s3, w3, k3⟩ := go (B' := []) s w' k
    exact h σ' F' H' A3 s3 w3 k3
  | bk r' =>
    intro σ' F' H' A'' s w' k
    obtain ⟨A3, s3, w3, k3⟩ := go (B' := []) s w' k
    exact h σ' F' H' A3 s3 w3 k3
  | ct r' =>
    intro σ' F' H' A'' s w' k
    obtain ⟨A3, s3, w3, k3⟩ := go (B' := []) s w' k
    exact h σ' F' H' A3 s3 w3 k3
  | rt u r' =>
    intro x σ' F' H' A'' B' s w' k rv
    obtain ⟨A3, s3, w3, k3⟩ := go s w' k
    exact h x σ' F' H' A3 B' s3 w3 k3 rv
  | ex c fs r' =>
    intro d σ' F' H' A'' s w' k z
    obtain ⟨A3, s3, w3, k3⟩ := go (B' := []) s w' k
    exact h d σ' F' H' A3 s3 w3 k3 z
  | bad => exact h
/-- an item that has come -/
theorem item_of {F0 : Hp} {v : V} {H' : Hp} {d : PyData} {t : Tg} (n : NewR K F0 H v H' (.fr d) ∨ ∃ ts ds, t = .t ts ∧ d = .tuple ds ∧ NewP K F0 H v H' ds) (sF : Same F0 F) (w : Wf K F H σ r A []) :
    ∃ F' u, Stp F H A F' H' A ∧ Wf K F' H' σ r A [] ∧ RvW K F' H' v u [] t ∧ ∀ r, bindV t u r = bindT t d r := by
  rcases n with n | ⟨ts, ds, rfl, rfl, p, vs, rfl, hp, rfl, d⟩
  · cases n with
    | old d => exact ⟨F, _, .refl, w, .inl (.fr (dp_mono sF d)), fun r => bindT_V.symm⟩
    | @tup p vs ds o hp ho d =>
      obtain ⟨w1, s1⟩ := w.allocF (o := .frz o (.tup vs)) (fun q hq => by cases hq) hp
      refine ⟨_, _, s1, w1, .inl (.fr (.tup (.inl ⟨o, upd_same, ho⟩) (dpAll_mono (fun q u e => ?_) d))), fun r => bindT_V.symm⟩
      have e' := sF q u e
      rw [upd_ne (ne_of_none (w.sm q u e') hp)]
      exact e'
  · obtain ⟨w1, s1⟩ := w.allocF (o := .tup vs) (fun q hq => by cases hq) hp
    refine ⟨_, .tp (ds.map .fr), s1, w1, .inr ⟨p, vs, ds, ts, rfl, SqT.of upd_same, dpAll_mono (fun q u e => ?_) d, rfl, rfl, rfl⟩, fun r => ?_⟩
    · have e' := sF q u e
      rw [upd_ne (ne_of_none (w.sm q u e') hp)]
      exact e'
    · simp only [bindV, bindT, bindTs_V]
end
section
variable {X : Cx} {N : List Str} {sc : Scope} {xp : Xp} {W : WX} {C : Cf} {iter tg : Expr} {a : E} {pos : Pos} {io : List Nat}
theorem s_for {body : List Stmt} {ss : List S} {t : Tg} (hp : PassesOwn (model X.prog X.w) X.A X.env X.xe) (hc : X.calm = true) (hi : PI X tg iter (TIt X.K xp W C t a)) (hg : PG X tg (TGv X.K t)) (hb : ∀ io, PSs X body (TSts X.K xp W C io ss)) (hs : ∀ x, foldedSetIterable iter X.env x = pure x) :
    PS X (.For tg iter body [] pos) (TSt X.K xp W C io (.forr t a ss)) := by
  have hb' : PSs X body (fun D σ H => ∃ io, TSts X.K xp W C io ss D σ H) := ⟨fun pins s σ H D I ⟨io, h⟩ => (hb io).run pins s σ H D I h⟩
  refine ps_imp (ps_for hp hc hi hg hb' hs) fun D σ H ⟨r, F, A, w, q⟩ => ?_
  simp only [evS] at q
  refine ⟨r, F, A, w, PR.mono (PF.fl q) fun m r1 F1 H1 A1 s1 w1 q1 J B A' pm rest slr ok => ?_⟩
  obtain ⟨ok1, ok2, ok3⟩ := ok
  split at q1
  · rename_i hf
    unfold forRun at q1
    split at q1
    · rename_i hsl
      have nB : (B ++ A').Nodup := pm.nodup_iff.mp w1.nd
      have w0 : Wf X.K F1 H1 σ (wipeR r1 m.sl) A' B := ⟨rest, nB, fun p hp => w1.dis p (pm.mem_iff.mpr hp), w1.sm⟩
      have q2 := PF.hide w1 pm w0 slr q1
      have noT : ∀ i ∈ io ++ m.sl, i ∉ slT t := fun i hi ht => by
        rcases List.mem_append.mp hi with z | z
        · exact freeT_no hf i z ht
        · have := all_mem hsl i z
          rw [List.contains_iff_mem.mpr ht] at this
          cases this
      refine ⟨fun i n σ' H' => ∃ r' F' A'', Stp F1 H1 A' F' H' A'' ∧ Wf X.K F' H' σ' r' A'' [] ∧ PF X.K xp W (io ++ m.sl) F' H' A'' σ' D (forLoop t (evSs C (io ++ m.sl) ss) (m.xs.drop i) r') ∧ n = m.xs.length - i ∧ i ≤ m.xs.length, ⟨_, wipeR r1 m.sl, F1, A', .refl, w0.nil, q2, rfl, Nat.zero_le _⟩, ?_⟩
      rintro i n σ' H' ⟨r', F', A'', s', w', q', rfl, hle⟩
      have sz : Same (ext F1 H1 B) H' := fun p o e => by
        by_cases hb : p ∈ B
        · rw [ext_in hb] at e
          exact s'.hh p o e fun z => (List.nodup_append.mp nB).2.2 p hb p z rfl
        · rw [ext_out hb] at e
          exact w'.sm p o (s'.ff p o e)
      by_cases hlt : i < m.xs.length
      · refine .inr ⟨ok1 i H' sz hlt, _, fun σ3 H3 h => ⟨m.xs.length - (i + 1), by omega, h⟩, fun x H'' y => ?_⟩
        obtain ⟨d, hd, nw⟩ := ok2 i H' x H'' sz hlt y
        obtain ⟨F'', u, s'', w'', dx, eb⟩ := item_of nw s'.ff w'
        have hdr : m.xs.drop i = d :: m.xs.drop (i + 1) := by
          rw [List.drop_eq_getElem_cons hlt]
          rw [List.getElem?_eq_getElem hlt] at hd
          cases hd
          rfl
        rw [hdr] at q'
        simp only [forLoop] at q'
        split at q'
        · rename_i r2 e2
          have w3 : Wf X.K F'' H'' σ' r' A'' ([] ++ []) := w''
          refine ⟨r', F'', A'', [], [], u, r2, w3, dx, (eb r').trans e2, fun σ2 A2 w2 m2 k2 => ⟨io ++ m.sl, r2, F'', A2, w2, ?_⟩⟩
          have st2 : Stp F' H' A'' F'' H'' A2 := s''.perm (fun p h => h) m2
          have q3 := PF.pre st2 (fun j hj => k2 j (noT j hj) : Kp (io ++ m.sl) σ' σ2) q'
          have s3 : Stp F1 H1 A' F'' H'' A2 := s'.trans st2
          cases e : evSs C (io ++ m.sl) ss r2 with
          | nx r3 => rw [e] at q3; exact fun σ4 F4 H4 A4 s4 w4 k4 => ⟨r3, F4, A4, s3.trans s4, w4, PF.pre s4 k4 q3, rfl, hlt⟩
          | ct r3 => rw [e] at q3; exact fun σ4 F4 H4 A4 s4 w4 k4 => ⟨r3, F4, A4, s3.trans s4, w4, PF.pre s4 k4 q3, rfl, hlt⟩
          | bk r3 => rw [e] at q3; exact q3
          | rt _ _ => rw [e] at q3; exact q3
          | ex _ _ _ => rw [e] at q3; exact q3
          | bad => rw [e] at q3; exact q3.elim
        · exact q'.elim
      · refine .inl ⟨ok3 i H' sz (by omega), ?_⟩
        rw [List.drop_eq_nil_of_le (by omega)] at q'
        exact q' σ' F' H' A'' .refl w' .refl
    · exact q1.elim
  · exact q1.elim
end
end Ev

/-! Ev14: the def's side. -/
namespace Ev
open PySem PySem.Spec PyProof.Rows L2
section
variable {K : PySem.W.Frag} {F H : Hp}
theorem rho_non : ∀ {n : Nat} {x : Option V}, RhoR K F H (List.replicate n x) (List.replicate n none) []
  | 0, _ => .nil
  | n + 1, x => by
    rw [List.replicate_succ, List.replicate_succ]
    exact .non rho_non
theorem rho_start : ∀ {us : List Rv} {vs : List V} {A : List Addr} {n : Nat}, RvRs K F H vs us A → RhoR K F H (vs.map some ++ List.replicate n none) (us.map some ++ List.replicate n none) A
  | _, _, _, _, .nil => rho_non
  | _, _, _, _, .cons a b => by
    rw [List.map_cons, List.map_cons]
    exact .som a (rho_start b)
theorem owIx_ge : ∀ {us : List Rv} {j i : Nat}, i ∈ owIx us j → j ≤ i
  | [], _, _, h => by cases h
  | .ow _ :: us, j, i, h => by
    simp only [owIx, List.mem_cons] at h
    rcases h with h | h
    · omega
    · have := owIx_ge h; omega
  | .fr _ :: us, j, i, h => by
    simp only [owIx] at h
    have := owIx_ge h; omega
  | .tp _ :: us, j, i, h => by
    simp only [owIx] at h
    have := owIx_ge h; omega
theorem outsOf_set {r : Rho} {j : Nat} : ∀ {is : List Nat}, j ∉ is → outsOf (r.set j none) is = outsOf r is
  | [], _ => rfl
  | i :: is, h => by
    simp only [List.mem_cons, not_or] at h
    simp only [outsOf]
    rw [List.getElem?_set_ne h.1, outsOf_set h.2]
/-- the changed arguments at the end -/
theorem outs_of {F' H' : Hp} : ∀ {us : List Rv} {vs : List V} {j : Nat} {os : List Rv} {σ : L2.St} {r : Rho} {A : List Addr}, vs.length = us.length → us.all okTp = true → (∀ i, j + i ∈ owIx us j → σ[j + i]? = some (vs[i]?)) → RhoR K F' H' σ r A → outsOf r (owIx us j) = some os → ∃ As A', A.Perm (As ++ A') ∧ OutR K F' H' vs us os As
  | [], [], _, os, _, _, A, _, _, _, rr, e => by
    cases e
    exact ⟨[], A, .refl _, .nil⟩
  | [], _ :: _, _, _, _, _, _, hl, _, _, _, _ => by cases hl
  | _ :: _, [], _, _, _, _, _, hl, _, _, _, _ => by cases hl
  | .tp _ :: us, v :: vs, j, os, σ, r, A, hl, ho, hs, rr, e => by simp [okTp] at ho
  | .fr d :: us, v :: vs, j, os, σ, r, A, hl, ho, hs, rr, e => by
    simp only [List.all_cons, Bool.and_eq_true] at ho
    obtain ⟨As, A', h1, h2⟩ := outs_of (j := j + 1) (Nat.succ.inj hl) ho.2 (fun i hi => by
      have := hs (i + 1) (by rw [show j + (i + 1) = j + 1 + i by omega]; exact hi)
      rw [show j + 1 + i = j + (i + 1) by omega, this]
      rfl) rr e
    exact ⟨As, A', h1, .fr h2⟩
  | .ow o :: us, v :: vs, j, os, σ, r, A, hl, ho, hs, rr, e => by
    simp only [List.all_cons, Bool.and_eq_true] at ho
    simp only [owIx, outsOf] at e
    split at e
    · rename_i u os' e1 e2
      have eo : os = u :: os' := by
        cases u <;> first | (cases e; rfl) | cases e
      subst eo
      obtain ⟨w, B, A1, h1, h2, h3, h4⟩ := rr.get e1
      have hv := hs 0 (by simp [owIx])
      rw [Nat.add_zero, h1] at hv
      have hv : w = v := by simpa using hv
      subst hv
      have nj : j ∉ owIx us (j + 1) := fun z => by have := owIx_ge z; omega
      obtain ⟨As, A', h5, h6⟩ := outs_of (j := j + 1) (Nat.succ.inj hl) ho.2 (fun i hi => by
        have := hs (i + 1) (by
          rw [show j + (i + 1) = j + 1 + i by omega]
          exact List.mem_cons_of_mem _ hi)
        rw [show j + 1 + i = j + (i + 1) by omega, this]
        rfl) h4 ((outsOf_set nj).trans e2)
      exact ⟨B ++ As, A', h3.trans (by rw [List.append_assoc]; exact h5.append_left B), .ow h2 h6⟩
    · cases e
end
/-- a def of the text: what it is; its place in the small program -/
structure DefOk (P : Program) (w : World) (K : PySem.W.Frag) (mg : Str → Option Value) (base : Heap) (xp : Xp) (pg : Pg) (fi k : Nat) (f : Addr) (fd : FuncData) (ps : List Str) : Prop where
  run : FnOk P w K mg base (L2.CX P w) k f fd ps (spF K xp (callF pg k fi))
theorem fn0 {P : Program} {w : World} {K : PySem.W.Frag} {mg : Str → Option Value} {base : Heap} {xp : Xp} {pg : Pg} {fi : Nat} {f : Addr} {fd : FuncData} {ps : List Str} : FnOk P w K mg base (L2.CX P w) 0 f fd ps (spF K xp (callF pg 0 fi)) :=
  ⟨fun vs H Q E ⟨F, us, A, _, _, _, _, _, h⟩ => h.elim, fun A outer s H args us vs Q E hr e0 hb r ⟨F, us, A, _, _, _, _, _, h⟩ => h.elim⟩
section
variable {P : Program} {w : World} {K : PySem.W.Frag} {mg : Str → Option Value} {base : Heap} {x qual : Str} {params : Arguments} {body : List Stmt} {scope : Scope} {dvs : List V} {kws : List (Str × V)} {f : Addr} {fd : FuncData} {xp : Xp} {pg : Pg}
theorem fn_ok {N ps : List Str} {k fi : Nat} {fe : Fd} (FD : FunD K x qual params body scope dvs kws f fd) (sc : FnScope N ps scope) (he : pg.fs[fi]? = some fe) (hnp : ps.length = fe.np) (hns : N.length = fe.ns)
    (hb : ∀ (X : Cx) (W : WX) (io : List Nat), X.prog = P → X.w = w → X.K = K → X.mg = mg → X.base = base → X.N = N → X.env.scope = scope → X.calm = true → (∀ z, X.fn z = true) → Room k X.A → Takes X W → PassesOwn (model X.prog X.w) X.A X.env X.xe →
      X.stack = X.env :: X.outer → X.env.frame = some X.env.locals → X.ex = [] → PSs X body (TSts X.K xp W ⟨callF pg k, pg.G, pg.w, pg.bears, pg.sub, 0, []⟩ io fe.body)) :
    FnOk P w K mg base (L2.CX P w) (k + 1) f fd ps (spF K xp (callF pg (k + 1) fi)) := by
  have hrun : ∀ us, callF pg (k + 1) fi us = runFn ⟨callF pg k, pg.G, pg.w, pg.bears, pg.sub, 0, []⟩ fe us := fun us => by simp only [callF, he]
  have hcond : ∀ us, callF pg (k + 1) fi us ≠ .bad → (decide (us.length = fe.np) && decide (fe.np ≤ fe.ns) && us.all okTp) = true := fun us h => by
    rw [hrun, runFn] at h
    by_cases hc : (decide (us.length = fe.np) && decide (fe.np ≤ fe.ns) && us.all okTp) = true
    · exact hc
    · rw [if_neg hc] at h
      exact absurd rfl h
  have live : ∀ {vs : List V} {H : Hp} {Q : VK} {E : XK}, spF K xp (callF pg (k + 1) fi) vs H Q E → ∃ F us A, RvRs K F H vs us A ∧ callF pg (k + 1) fi us ≠ .bad := fun {vs H Q E} ⟨F, us, A, rv, _, _, _, _, h⟩ => ⟨F, us, A, rv, fun z => by rw [z] at h; exact h⟩
  refine FD.ok sc (fun vs H Q E h => ?_) fun cdv A outer s H vs Q E hr h => ?_
  · obtain ⟨F, us, A, rv, hne⟩ := live h
    have hc := hcond us hne
    simp only [Bool.and_eq_true, decide_eq_true_eq] at hc
    rw [rv.len, hnp, hc.1.1]
  · obtain ⟨F, us, Al, rv, nd, dis, sm, okT, h⟩ := h
    have hne : callF pg (k + 1) fi us ≠ .bad := fun z => by rw [z] at h; exact h
    have hc := hcond us hne
    rw [hrun, runFn, if_pos hc] at h
    simp only [Bool.and_eq_true, decide_eq_true_eq] at hc
    obtain ⟨⟨hc1, hc2⟩, hc3⟩ := hc
    refine ⟨_, hb (cxOf (L2.CX P w) P w K mg base N qual scope f cdv A outer s H E) (fun cls d _ H' => E cls d H') (owIx us 0) rfl rfl rfl rfl rfl rfl rfl rfl (fun _ => rfl) hr (takes_of rfl rfl rfl rfl) (passes_of rfl) rfl rfl rfl, ?_⟩
    have hst : L2.start N vs = vs.map some ++ List.replicate (fe.ns - us.length) none := by
      unfold L2.start
      rw [rv.len, hns]
    refine ⟨us.map some ++ List.replicate (fe.ns - us.length) none, F, Al, ⟨by rw [hst]; exact rho_start rv, nd, dis, sm⟩, ?_⟩
    have hget : ∀ i, 0 + i ∈ owIx us 0 → ∀ σ' : L2.St, Kp (owIx us 0) (L2.start N vs) σ' → σ'[0 + i]? = some (vs[i]?) := fun i hi σ' k => by
      rw [k _ hi, Nat.zero_add, hst]
      have hlt : i < vs.length := by
        rw [Nat.zero_add] at hi
        have : ∀ {us : List Rv} {j i : Nat}, i ∈ owIx us j → i < j + us.length := fun {us} => by
          induction us with
          | nil => intro j i h; cases h
          | cons u us ih =>
            intro j i h
            rw [List.length_cons]
            cases u with
            | ow o =>
              simp only [owIx, List.mem_cons] at h
              rcases h with h | h
              · omega
              · have := ih h; omega
            | fr d => simp only [owIx] at h; have := ih h; omega
            | tp rs => simp only [owIx] at h; have := ih h; omega
        have := this hi
        rw [rv.len]
        omega
      rw [List.getElem?_append_left (by rw [List.length_map]; exact hlt), List.getElem?_map, List.getElem?_eq_getElem hlt]
      rfl
    have fin : ∀ {r' : Rho} {σ' : L2.St} {F' H' : Hp} {A' B os : List _}, Stp F H Al F' H' (B ++ A') → Wf K F' H' σ' r' A' B → Kp (owIx us 0) (L2.start N vs) σ' → outsOf r' (owIx us 0) = some os →
        ∃ As, Stp F H Al F' H' (B ++ As) ∧ (B ++ As).Nodup ∧ (∀ p ∈ B ++ As, F' p = none) ∧ Same F' H' ∧ OutR K F' H' vs us os As := fun {r' σ' F' H' A' B os} s w k e => by
      obtain ⟨As, A2, h1, h2⟩ := outs_of (j := 0) rv.len hc3 (fun i hi => hget i hi σ' k) w.env e
      have sub : ∀ p ∈ B ++ As, p ∈ B ++ A' := fun p hp => (List.mem_append.mp hp).elim (fun z => List.mem_append_left _ z) fun z => List.mem_append_right _ (h1.mem_iff.mpr (List.mem_append_left _ z))
      have nd' := (h1.append_left B).nodup_iff.mp w.nd
      rw [← List.append_assoc] at nd'
      exact ⟨As, s.perm (fun p h => h) sub, (List.nodup_append.mp nd').1, fun p hp => w.dis p (sub p hp), w.sm, h2⟩
    cases e : evSs ⟨callF pg k, pg.G, pg.w, pg.bears, pg.sub, 0, []⟩ (owIx us 0) fe.body (us.map some ++ List.replicate (fe.ns - us.length) none) with
    | bad => rw [e] at h; exact h
    | bk _ => rw [e] at h; exact h.elim
    | ct _ => rw [e] at h; exact h.elim
    | nx r' =>
      rw [e] at h
      intro σ' F' H' A' s w k
      simp only at h
      cases e2 : outsOf r' (owIx us 0) with
      | none => rw [e2] at h; exact h.elim
      | some os =>
        rw [e2] at h
        obtain ⟨As, g1, g2, g3, g4, g5⟩ := fin (B := []) s w k e2
        exact h .non H' F' [] As g1 g2 g3 g4 (.fr .non) g5
    | rt u r' =>
      rw [e] at h
      intro x σ' F' H' A' B s w k ru
      simp only at h
      cases e2 : outsOf r' (owIx us 0) with
      | none => rw [e2] at h; exact h.elim
      | some os =>
        rw [e2] at h
        obtain ⟨As, g1, g2, g3, g4, g5⟩ := fin s w k e2
        exact h x H' F' B As g1 g2 g3 g4 ru g5
    | ex c fs r' =>
      rw [e] at h
      intro d σ' F' H' A' s w k xc
      simp only at h
      cases e2 : outsOf r' (owIx us 0) with
      | none => rw [e2] at h; exact h.elim
      | some os =>
        rw [e2] at h
        obtain ⟨As, g1, g2, g3, g4, g5⟩ := fin (B := []) s w k e2
        exact h d H' F' As g1 g2 g3 g4 g5 xc
end
end Ev

/-! Ev15: list comprehensions. -/
namespace Ev
open PySem PySem.Spec PyProof.Rows L2
abbrev WF : WX := fun _ _ _ _ => False
section
variable {K : PySem.W.Frag} {xp : Xp} {W : WX} {F H F1 H1 : Hp} {A A1 B : List Addr} {σ σ1 : L2.St} {r : Rho}
theorem wipe_rho (w : Wf K F H σ r A B) : ∀ vs : List Nat, ∃ A0, Wf K F H (L2.wipe σ vs) (wipeR r vs) A0 B ∧ ∀ p ∈ A0, p ∈ A
  | [] => ⟨A, w, fun p h => h⟩
  | i :: is => by
    obtain ⟨A0, w0, m0⟩ := wipe_rho w is
    obtain ⟨B1, A1, h1, h2⟩ := w0.env.drop i
    have h3 : RhoR K F H ((L2.wipe σ is).set i none) ((wipeR r is).set i none) A1 := by
      have go : ∀ {σ : L2.St} {r : Rho} {A : List Addr} {i : Nat}, RhoR K F H σ (r.set i none) A → RhoR K F H (σ.set i none) (r.set i none) A := by
        intro σ r
        induction r generalizing σ with
        | nil =>
          intro A i h
          cases h
          exact .nil
        | cons y r ih =>
          intro A i h
          cases i with
          | zero =>
            rw [List.set_cons_zero] at h ⊢
            cases h with
            | non h => exact .non h
          | succ i =>
            rw [List.set_cons_succ] at h ⊢
            cases h with
            | non h => exact .non (ih h)
            | som a h => exact .som a (ih h)
      exact go h2
    have pm : (B ++ A0).Perm (B1 ++ (B ++ A1)) := by
      refine (h1.append_left B).trans ?_
      rw [← List.append_assoc, ← List.append_assoc]
      exact List.Perm.append_right A1 List.perm_append_comm
    refine ⟨A1, ⟨h3, (List.nodup_append.mp (pm.nodup_iff.mp w0.nd)).2.1, fun p hp => w0.dis p (pm.mem_iff.mpr (List.mem_append_right _ hp)), w0.sm⟩, fun p hp => m0 p (h1.mem_iff.mpr (List.mem_append_right _ hp))⟩
theorem backR_set {r0 : Rho} {i : Nat} {x : Option Rv} (e : r0[i]? = some x) : ∀ {is : List Nat} {r : Rho}, backR r0 (r.set i x) is = (backR r0 r is).set i x
  | [], _ => rfl
  | j :: is, r => by
    show (match r0[j]? with | some y => (backR r0 (r.set i x) is).set j y | none => backR r0 (r.set i x) is) = (match r0[j]? with | some y => (backR r0 r is).set j y | none => backR r0 r is).set i x
    rw [backR_set e]
    cases e2 : r0[j]? with
    | none => rfl
    | some y =>
      by_cases hj : i = j
      · subst hj
        rw [e] at e2
        cases e2
        rfl
      · exact List.set_comm _ _ hj
theorem rho_any : ∀ {σ : L2.St} {r : Rho} {A : List Addr} {i : Nat} {s : Option V}, RhoR K F H σ (r.set i none) A → RhoR K F H (σ.set i s) (r.set i none) A := by
  intro σ r
  induction r generalizing σ with
  | nil =>
    intro A i s h
    cases h
    exact .nil
  | cons y r ih =>
    intro A i s h
    cases i with
    | zero =>
      rw [List.set_cons_zero] at h ⊢
      cases h with
      | non h => exact .non h
    | succ i =>
      rw [List.set_cons_succ] at h ⊢
      cases h with
      | non h => exact .non (ih h)
      | som a h => exact .som a (ih h)
/-- the own slots of a block come back -/
theorem back_wipe {F0 : Hp} {r0 : Rho} (sF : Same F0 F) : ∀ {vs : List Nat} {σ' : L2.St} {r : Rho} {A : List Addr}, σ'.length = σ.length → (∀ i, i ∉ vs → σ'[i]? = σ[i]?) → (∀ i ∈ vs, r0[i]? = some none ∨ ∃ d v, r0[i]? = some (some (.fr d)) ∧ σ[i]? = some (some v) ∧ Dp K F0 v d) → Wf K F H σ' r A B →
    ∃ A3, Wf K F H σ (backR r0 r vs) A3 B ∧ ∀ p ∈ A3, p ∈ A
  | [], σ', r, A, hl, hs, _, w => by
    have : σ' = σ := List.ext_getElem? fun i => hs i (by simp)
    subst this
    exact ⟨A, w, fun p h => h⟩
  | i :: is, σ', r, A, hl, hs, h0, w => by
    have hlt : i < r.length ∨ ¬ i < r.length := Decidable.em _
    have key : ∃ x A1, r0[i]? = some x ∧ Wf K F H (σ'.set i (σ[i]?.getD none)) (r.set i x) A1 B ∧ ∀ p ∈ A1, p ∈ A := by
      rcases h0 i List.mem_cons_self with e | ⟨d, v, e1, e2, e3⟩
      · obtain ⟨B1, A1, h1, h2⟩ := w.env.drop i
        have pm : (B ++ A).Perm (B1 ++ (B ++ A1)) := by
          refine (h1.append_left B).trans ?_
          rw [← List.append_assoc, ← List.append_assoc]
          exact List.Perm.append_right A1 List.perm_append_comm
        exact ⟨none, A1, e, ⟨rho_any h2, (List.nodup_append.mp (pm.nodup_iff.mp w.nd)).2.1, fun p hp => w.dis p (pm.mem_iff.mpr (List.mem_append_right _ hp)), w.sm⟩, fun p hp => h1.mem_iff.mpr (List.mem_append_right _ hp)⟩
      · have hi : i < r.length := by
          rw [← w.len, hl]
          exact (List.getElem?_eq_some_iff.mp e2).1
        obtain ⟨A1, w1, m1⟩ := Wf.store (B' := []) (u := .fr d) (v := v) w hi (.fr (dp_mono sF e3))
        exact ⟨some (.fr d), A1, e1, by rw [e2]; exact w1, m1⟩
    obtain ⟨x, A1, e, w1, m1⟩ := key
    obtain ⟨A3, w3, m3⟩ := back_wipe (vs := is) sF (by rw [List.length_set]; exact hl) (fun j hj => by
      by_cases hji : i = j
      · subst hji
        by_cases hlt : i < σ'.length
        · rw [List.getElem?_set_self hlt]
          have : i < σ.length := hl ▸ hlt
          rw [List.getElem?_eq_getElem this]
          rfl
        · rw [List.getElem?_eq_none (by rw [List.length_set]; omega), List.getElem?_eq_none (by omega)]
      · rw [List.getElem?_set_ne hji]
        exact hs j (by simp only [List.mem_cons, not_or]; exact ⟨fun z => hji z.symm, hj⟩)) (fun j hj => h0 j (List.mem_cons_of_mem _ hj)) w1
    refine ⟨A3, ?_, fun p hp => m1 p (m3 p hp)⟩
    rw [backR_set e] at w3
    show Wf K F H σ (match r0[i]? with | some y => (backR r0 r is).set i y | none => backR r0 r is) A3 B
    rw [e]
    exact w3
mutual
theorem bindV_len : ∀ {t : Tg} {u : Rv} {r r' : Rho}, bindV t u r = some r' → r'.length = r.length
  | .n i, u, r, r', h => by
    simp only [bindV] at h
    split at h
    · cases h; rw [List.length_set]
    · cases h
  | .t ts, .tp us, r, r', h => bindVs_len2 (ts := ts) (us := us) h
  | .t ts, .fr (.tuple ds), r, r', h => by
    simp only [bindV, bindTs_V] at h
    exact bindVs_len2 h
  | .t ts, .fr .none, r, r', h => by cases h
  | .t ts, .fr (.bool _), r, r', h => by cases h
  | .t ts, .fr (.int _), r, r', h => by cases h
  | .t ts, .fr (.str _), r, r', h => by cases h
  | .t ts, .fr (.list _), r, r', h => by cases h
  | .t ts, .fr (.dict _), r, r', h => by cases h
  | .t ts, .ow _, r, r', h => by cases h
theorem bindVs_len2 : ∀ {ts : List Tg} {us : List Rv} {r r' : Rho}, bindVs ts us r = some r' → r'.length = r.length
  | [], [], r, r', h => by cases h; rfl
  | [], _ :: _, _, _, h => by cases h
  | _ :: _, [], _, _, h => by cases h
  | t :: ts, u :: us, r, r', h => by
    simp only [bindVs] at h
    split at h
    · rename_i r1 e
      rw [bindVs_len2 h, bindV_len e]
    · cases h
end
theorem wipe_eq {σ σ' : L2.St} (hl : σ.length = σ'.length) : ∀ {vs : List Nat}, (∀ i, i ∉ vs → σ[i]? = σ'[i]?) → L2.wipe σ vs = L2.wipe σ' vs := by
  intro vs h
  apply List.ext_getElem?
  intro i
  by_cases hi : i ∈ vs
  · have : ∀ {τ : L2.St} {vs : List Nat}, i ∈ vs → (L2.wipe τ vs)[i]? = if i < τ.length then some none else none := fun {τ} vs => by
      induction vs with
      | nil => intro h; cases h
      | cons j js ih =>
        intro h
        show ((L2.wipe τ js).set j none)[i]? = _
        by_cases hj : j = i
        · subst hj
          by_cases hlt : j < τ.length
          · rw [List.getElem?_set_self (by rw [L2.wipe_length]; exact hlt), if_pos hlt]
          · rw [List.getElem?_eq_none (by rw [List.length_set, L2.wipe_length]; omega), if_neg hlt]
        · rw [List.getElem?_set_ne hj]
          exact ih ((List.mem_cons.mp h).resolve_left fun z => hj z.symm)
    rw [this hi, this hi, hl]
  · rw [L2.wipe_out hi, L2.wipe_out hi]
    exact h i hi
theorem Stp.own1 {D : Addr} {F H H' : Hp} {A : List Addr} (h : ∀ p, p ≠ D → H' p = H p) : Stp F H (D :: A) F H' (D :: A) :=
  ⟨.refl _, fun p a _ _ => a, fun p o a b => by rw [h p fun z => b (by rw [z]; exact List.mem_cons_self)]; exact a, fun p hp => .inl hp⟩
end
/-- a test of a block -/
def TTf (K : PySem.W.Frag) (xp : Xp) (cf : Rho → Res Bool) : TT := fun σ H Q => ∃ r F A, Wf K F H σ r A [] ∧ PR K xp WF F H A σ (fun b _ _ H' _ => Q b H') (cf r)
section
variable {X : Cx} {xp : Xp} {W : WX} {C : Cf} {elt tg iter : Expr} {ifs : List Expr} {scope : Scope} {a b : E} {pos : Pos}
/-- the value of a comprehension, as HandS reads it -/
theorem lc_ok {t : Tg} {cf : Rho → Res Bool} {σ : L2.St} {H : Hp} {Q : VK} {F : Hp} {A : List Addr} {r : Rho} (w : Wf X.K F H σ r A []) (q : PV X.K xp W F H A σ Q ((evI C a r).bind fun m r1 => lcRun t cf (evE C b) m r1)) :
    tLc (TIt X.K xp W C t a) (TGv X.K t) (TTf X.K xp cf) (TV X.K xp WF C b) (slT t) σ H Q := by
  refine ⟨r, F, A, w, PR.mono (PV.bind q) fun m r1 F1 H1 A1 s1 w1 q1 J B A' pm rest slr ok D hD => ?_⟩
  obtain ⟨ok1, ok2, ok3⟩ := ok
  unfold lcRun at q1
  split at q1
  · rename_i hcond
    simp only [Bool.and_eq_true] at hcond
    obtain ⟨hno, hsl⟩ := hcond
    split at q1
    · rename_i accF rF hloop
      have nB : (B ++ A').Nodup := pm.nodup_iff.mp w1.nd
      have w0 : Wf X.K F1 H1 σ (wipeR r1 m.sl) A' B := ⟨rest, nB, fun p hp => w1.dis p (pm.mem_iff.mpr hp), w1.sm⟩
      obtain ⟨w2, s2⟩ := w0.alloc (o := .lst []) slr.live hD
      obtain ⟨A0, w3, m3⟩ := wipe_rho w2 (slT t)
      have nD : D ∉ B ++ A0 := fun z => by
        have := w3.nd
        exact (List.nodup_cons.mp this).1 z
      have slT_ni : ∀ i ∈ slT t, i ∉ m.sl := fun i hi z => by
        have := all_mem hsl i z
        rw [List.contains_iff_mem.mpr hi] at this
        cases this
      refine ⟨fun i n H' => ∃ r' F' A'' accV acc, Stp F1 (upd H1 D (.lst [])) (D :: A0) F' H' (D :: A'') ∧ Wf X.K F' H' (L2.wipe σ (slT t)) r' A'' (D :: B) ∧ H' D = some (.lst accV) ∧ DpAll X.K F' accV acc ∧ lcLoop t cf (evE C b) (m.xs.drop i) r' acc = .ok accF rF ∧ n = m.xs.length - i ∧ i ≤ m.xs.length,
        ⟨_, _, F1, A0, [], [], .refl, w3, upd_same, .nil, hloop, rfl, Nat.zero_le _⟩, ?_⟩
      rintro i n H' ⟨r', F', A'', accV, acc, s', w', hDl, dacc, hl, rfl, hle⟩
      have sz : Same (ext F1 H1 B) H' := fun p o e => by
        by_cases hb : p ∈ B
        · rw [ext_in hb] at e
          have hp : p ≠ D := fun z => by rw [z, hD] at e; cases e
          exact s'.hh p o (by rw [upd_ne hp]; exact e) fun z => (List.mem_cons.mp z).elim hp fun z => (List.nodup_append.mp nB).2.2 p hb p (m3 p z) rfl
        · rw [ext_out hb] at e
          exact w'.sm p o (s'.ff p o e)
      by_cases hlt : i < m.xs.length
      · refine .inr ⟨ok1 i H' sz hlt, _, fun H3 h => ⟨m.xs.length - (i + 1), by omega, h⟩, fun x H'' y => ?_⟩
        obtain ⟨d, hd, nw⟩ := ok2 i H' x H'' sz hlt y
        have hdr : m.xs.drop i = d :: m.xs.drop (i + 1) := by
          rw [List.drop_eq_getElem_cons hlt]
          rw [List.getElem?_eq_getElem hlt] at hd
          cases hd
          rfl
        rw [hdr] at hl
        simp only [lcLoop] at hl
        split at hl
        · rename_i r2 e2
          -- the item
          have liveB : ∀ q ∈ D :: B, ∃ u, H' q = some u := fun q hq => by
            rcases List.mem_cons.mp hq with z | z
            · exact ⟨_, z ▸ hDl⟩
            · obtain ⟨u, hu⟩ := slr.live q z
              exact ⟨u, sz q u (by rw [ext_in z]; exact hu)⟩
          obtain ⟨F'', u0, s'', w'', dx, eb⟩ := item_of nw s'.ff w'.nil
          have wh : Wf X.K F'' H'' (L2.wipe σ (slT t)) r' A'' (D :: B) := by
            have := w'.after (B' := []) liveB s'' w''
            exact this
          have kD : ∀ q ∈ D :: B, H'' q = H' q := s''.keeps w' liveB
          have liveB2 : ∀ q ∈ D :: B, ∃ u, H'' q = some u := fun q hq => by
            obtain ⟨u, hu⟩ := liveB q hq
            exact ⟨u, (kD q hq).trans hu⟩
          refine ⟨r', F'', A'', [], D :: B, u0, r2, wh, dx, (eb r').trans e2, fun σ2 A2 w4 m4 k4 => ⟨?_, ?_⟩⟩
          · have hl2 : σ2.length = (L2.wipe σ (slT t)).length := by rw [w4.len, bindV_len ((eb r').trans e2), ← w'.len]
            rw [wipe_eq (σ' := σ) (by rw [hl2, L2.wipe_length]) fun j hj => by rw [k4 j hj, L2.wipe_out hj]]
          · have eσ : L2.wipe σ2 (slT t) = L2.wipe σ (slT t) := by
              have hl2 : σ2.length = (L2.wipe σ (slT t)).length := by rw [w4.len, bindV_len ((eb r').trans e2), ← w'.len]
              rw [wipe_eq (σ' := σ) (by rw [hl2, L2.wipe_length]) fun j hj => by rw [k4 j hj, L2.wipe_out hj]]
            have st4 : Stp F' H' A'' F'' H'' A2 := s''.perm (fun p h => h) m4
            cases ec : cf r2 with
            | bad => rw [ec] at hl; cases hl
            | ex _ _ _ => rw [ec] at hl; cases hl
            | ok bb r3 =>
              rw [ec] at hl
              simp only [Res.bind] at hl
              refine ⟨r2, F'', A2, w4.nil, ?_⟩
              rw [ec]
              intro F5 H5 A5 s5 w5
              have wa : Wf X.K F5 H5 σ2 r3 A5 (D :: B) := w4.after (B' := []) liveB2 s5 w5
              have k5 : ∀ q ∈ D :: B, H5 q = H'' q := s5.keeps w4 liveB2
              have liveB5 : ∀ q ∈ D :: B, ∃ u, H5 q = some u := fun q hq => by
                obtain ⟨u, hu⟩ := liveB2 q hq
                exact ⟨u, (k5 q hq).trans hu⟩
              have hD5 : H5 D = some (.lst accV) := by rw [k5 D List.mem_cons_self, kD D List.mem_cons_self]; exact hDl
              have st5 : Stp F' H' A'' F5 H5 A5 := st4.trans s5
              cases bb with
              | false =>
                rw [if_neg Bool.false_ne_true] at hl
                refine iteF ?_
                obtain ⟨A6, w6, m6⟩ := wipe_rho wa (slT t)
                rw [eσ] at w6
                have st6 : Stp F' H' A'' F5 H5 A6 := st5.perm (fun p h => h) m6
                exact ⟨_, F5, A6, accV, acc, s'.trans (st6.frame (B := [D])), w6, hD5, dpAll_mono (st4.ff.trans s5.ff) dacc, hl, rfl, hlt⟩
              | true =>
                rw [if_pos rfl] at hl
                refine iteT ?_
                cases ee : evE C b r3 with
                | bad => rw [ee] at hl; cases hl
                | ex _ _ _ => rw [ee] at hl; cases hl
                | ok u r4 =>
                  rw [ee] at hl
                  simp only at hl
                  split at hl
                  · rename_i hlen
                    refine ⟨r3, F5, A5, w5, ?_⟩
                    rw [ee]
                    intro y F6 H6 A6 B6 s6 w6 rv
                    have k6 : ∀ q ∈ D :: B, H6 q = H5 q := s6.keeps wa liveB5
                    have wb : Wf X.K F6 H6 σ2 r4 A6 (B6 ++ (D :: B)) := wa.after liveB5 s6 w6
                    obtain ⟨w7, s7⟩ := wb.freeze rv.live
                    have dy : Dp X.K (ext F6 H6 B6) y (fz u) := RvR.frz (ext_same fun p hp => w6.dis p (List.mem_append_left _ hp)) (fun p hp => ext_in hp) rv
                    have hD6 : H6 D = some (.lst accV) := (k6 D List.mem_cons_self).trans hD5
                    have da : DpAll X.K (ext F6 H6 B6) accV acc := dpAll_mono ((st5.ff.trans s6.ff).trans (ext_same fun p hp => w6.dis p (List.mem_append_left _ hp))) dacc
                    refine ⟨accV, hD6, by rw [dpAll_len da]; exact hlen, ?_⟩
                    obtain ⟨A8, w8, m8⟩ := wipe_rho w7 (slT t)
                    rw [eσ] at w8
                    have nD8 : ∀ q ∈ B ++ A8, q ≠ D := fun q hq z => by
                      subst z
                      exact (List.nodup_cons.mp w8.nd).1 hq
                    have fD : ext F6 H6 B6 D = none := w8.dis D List.mem_cons_self
                    have w9 : Wf X.K (ext F6 H6 B6) (upd H6 D (.lst (accV ++ [y]))) (L2.wipe σ (slT t)) (wipeR r4 (slT t)) A8 (D :: B) :=
                      ⟨w8.env.mono (.refl _) fun q hq => upd_ne (nD8 q (List.mem_append_right _ hq)), w8.nd, w8.dis, fun p o e => by rw [upd_ne (ne_of_none e fD)]; exact w8.sm p o e⟩
                    have s8 : Stp F5 H5 (D :: A5) (ext F6 H6 B6) H6 (D :: A8) := by
                      have z1 := s6.frame (B := [D])
                      have z2 : Stp F6 H6 (D :: (B6 ++ A6)) (ext F6 H6 B6) H6 (D :: A6) := ⟨s7.ff, fun p h1 _ h3 => by rw [ext_out fun z => h3 (List.mem_cons_of_mem _ (List.mem_append_left _ z))]; exact h1, fun _ _ h _ => h, fun p hp => .inl ((List.mem_cons.mp hp).elim (fun z => z ▸ List.mem_cons_self) fun z => List.mem_cons_of_mem _ (List.mem_append_right _ z))⟩
                      exact (z1.trans z2).perm (fun p h => h) fun p hp => (List.mem_cons.mp hp).elim (fun z => z ▸ List.mem_cons_self) fun z => List.mem_cons_of_mem _ (m8 p z)
                    exact ⟨_, _, A8, accV ++ [y], acc ++ [fz u], ((s'.trans (st5.frame (B := [D]))).trans s8).trans (.own1 fun p hp => upd_ne hp), w9, upd_same, dpAll_app da (.cons dy .nil), hl, rfl, hlt⟩
                  · cases hl
        · cases hl
      · refine .inl ⟨ok3 i H' sz (by omega), ?_⟩
        rw [List.drop_eq_nil_of_le (by omega)] at hl
        simp only [lcLoop, Res.ok.injEq] at hl
        obtain ⟨e1, e2⟩ := hl
        subst e1 e2
        have inB : ∀ p, p ∈ B → p ∈ A1 := fun p z => pm.mem_iff.mpr (List.mem_append_left _ z)
        have in0 : ∀ p, p ∈ A0 → p ∈ A1 := fun p z => pm.mem_iff.mpr (List.mem_append_right _ (m3 p z))
        obtain ⟨A3, w4, m4⟩ := back_wipe (σ := σ) (r0 := r1) (vs := slT t) s'.ff (L2.wipe_length _ _) (fun j hj => L2.wipe_out hj) (fun j hj => by
          have := all_mem hno j hj
          split at this
          · rename_i d e
            obtain ⟨v, g1, g2⟩ := w1.slot_fr e
            exact .inr ⟨d, v, e, g1, g2⟩
          · rename_i e
            exact .inl e
          · cases this) w'
        obtain ⟨A4, w5, m5⟩ := back_all (B' := [D]) slr s'.ff (fun p hp => by
          obtain ⟨u, hu⟩ := slr.live p hp
          rw [hu]
          exact sz p u (by rw [ext_in hp]; exact hu)) w4 (fun _ _ => rfl)
        refine q1 (.ref D) F' H' A4 [D] ⟨s'.ff, fun p h1 h2 h3 => ?_, fun p o h1 h2 => ?_, fun p hp => ?_⟩ w5 (.ow (.lst hDl dacc))
        · have hp : p ≠ D := fun z => h2 (z ▸ hD)
          exact s'.new p h1 (by rw [upd_ne hp]; exact h2) fun z => (List.mem_cons.mp z).elim hp fun z => h3 (in0 p z)
        · have hp : p ≠ D := fun z => by rw [z, hD] at h1; cases h1
          exact s'.hh p o (by rw [upd_ne hp]; exact h1) fun z => (List.mem_cons.mp z).elim hp fun z => h2 (in0 p z)
        · rcases List.mem_append.mp hp with z | z
          · have : p = D := List.mem_singleton.mp z
            exact .inr (this ▸ hD)
          · rcases List.mem_append.mp (m5 p z) with z | z
            · exact .inl (inB p z)
            · rcases s'.own p (List.mem_cons_of_mem _ (m4 p z)) with y | y
              · exact (List.mem_cons.mp y).elim (fun e => .inr (e ▸ hD)) fun e => .inl (in0 p e)
              · by_cases hp : p = D
                · exact .inr (hp ▸ hD)
                · rw [upd_ne hp] at y
                  exact .inr y
    · exact q1.elim
  · exact q1.elim
theorem ttf_yes {σ : L2.St} {H : Hp} {Q : Bool → Hp → Prop} (h : TTf X.K xp (fun r => .ok true r) σ H Q) : tYes σ H Q := by
  obtain ⟨r, F, A, w, q⟩ := h
  exact q F H A .refl w
/-- a block's own names, with their places -/
def ownN (N : List Str) (is : List Nat) : List (Str × Nat) := is.map fun i => (N[i]?.getD "", i)
theorem ownN_ix {N : List Str} {is : List Nat} : (ownN N is).map (·.2) = is := by
  unfold ownN
  rw [List.map_map]
  exact List.map_id' is
theorem pe_lcN {t : Tg} {wi : TI} {g : TG} {tt : TT} {te : TE} (hc : X.calm = true) (hN : X.N.Nodup) (hi : PI X tg iter wi) (ok : BlkOk X.N X.env.scope scope (ownN X.N (slT t)))
    (hg : ∀ (s : Shared) (H : Hp) (C : Addr) (cl : List (Str × Addr)) (fp : List Addr), PG (X.blk s H scope (compEnvC scope cl C X.env) fp) tg g) (ht : ∀ (s : Shared) (H : Hp) (C : Addr) (cl : List (Str × Addr)) (fp : List Addr), PTs (X.blk s H scope (compEnvC scope cl C X.env) fp) ifs tt)
    (he : ∀ (s : Shared) (H : Hp) (C : Addr) (cl : List (Str × Addr)) (fp : List Addr), PE (X.blk s H scope (compEnvC scope cl C X.env) fp) elt te) (hs : ∀ x, foldedSetIterable iter X.env x = pure x) : PE X (.ListComp elt [⟨tg, iter, ifs, 0⟩] scope pos) (tLc wi g tt te (slT t)) := by
  have := pe_lc (pos := pos) hc hN hi ok hg ht he hs
  rw [ownN_ix] at this
  exact this
theorem sV_lc {t : Tg} (hc : X.calm = true) (hN : X.N.Nodup) (hi : PI X tg iter (TIt X.K xp W C t a)) (ok : BlkOk X.N X.env.scope scope (ownN X.N (slT t)))
    (hg : ∀ (s : Shared) (H : Hp) (D : Addr) (cl : List (Str × Addr)) (fp : List Addr), PG (X.blk s H scope (compEnvC scope cl D X.env) fp) tg (TGv X.K t))
    (he : ∀ (s : Shared) (H : Hp) (D : Addr) (cl : List (Str × Addr)) (fp : List Addr), PE (X.blk s H scope (compEnvC scope cl D X.env) fp) elt (TV X.K xp WF C b)) (hs : ∀ x, foldedSetIterable iter X.env x = pure x) : PE X (.ListComp elt [⟨tg, iter, [], 0⟩] scope pos) (TV X.K xp W C (.lc t a b)) := by
  refine pe_imp (pe_lcN (tt := TTf X.K xp fun r => .ok true r) hc hN hi ok hg (fun s H D cl fp => ⟨fun pins s σ H Q I h => (pts_nil (X := X.blk _ _ scope _ fp)).run pins s σ H Q I (ttf_yes (X := X) h)⟩) he hs) fun σ H Q ⟨r, F, A, w, q⟩ => ?_
  simp only [evE] at q
  exact lc_ok w q
theorem sV_lci {t : Tg} {cnd : Expr} {c : E} (hc : X.calm = true) (hN : X.N.Nodup) (hi : PI X tg iter (TIt X.K xp W C t a)) (ok : BlkOk X.N X.env.scope scope (ownN X.N (slT t)))
    (hg : ∀ (s : Shared) (H : Hp) (D : Addr) (cl : List (Str × Addr)) (fp : List Addr), PG (X.blk s H scope (compEnvC scope cl D X.env) fp) tg (TGv X.K t))
    (ht : ∀ (s : Shared) (H : Hp) (D : Addr) (cl : List (Str × Addr)) (fp : List Addr), PT (X.blk s H scope (compEnvC scope cl D X.env) fp) cnd (TTs X.K xp WF C c))
    (he : ∀ (s : Shared) (H : Hp) (D : Addr) (cl : List (Str × Addr)) (fp : List Addr), PE (X.blk s H scope (compEnvC scope cl D X.env) fp) elt (TV X.K xp WF C b)) (hs : ∀ x, foldedSetIterable iter X.env x = pure x) : PE X (.ListComp elt [⟨tg, iter, [cnd], 0⟩] scope pos) (TV X.K xp W C (.lci t a c b)) := by
  refine pe_imp (pe_lcN (tt := TTf X.K xp fun r => tstO c (evE C c r) r) hc hN hi ok hg (fun s H D cl fp => pts_one (sTo (ht s H D cl fp))) he hs) fun σ H Q ⟨r, F, A, w, q⟩ => ?_
  simp only [evE] at q
  exact lc_ok w q
/-- name = [..] -/
theorem s_set_of {st : Stmt} {te : TE} {i : Nat} {io : List Nat} (h : PS X st (tAsg te (gName i))) (m : ∀ σ H Q, TV X.K xp W C a σ H Q → te σ H Q) : PS X st (TSt X.K xp W C io (.asg (.n i) a)) := by
  refine ps_imp h fun D σ H ⟨r, F, A, w, q⟩ => m _ _ _ ⟨r, F, A, w, ?_⟩
  simp only [evS] at q
  refine PF.flV q fun u r1 v F1 H1 A1 B s1 w1 rv q1 => ?_
  split at q1
  · rename_i hf
    simp only [bindV] at q1
    split at q1
    · rename_i r2 e
      split at e
      · rename_i hlt
        cases e
        have w1' : Wf X.K F1 H1 σ r1 A1 (B ++ []) := by rw [List.append_nil]; exact w1
        obtain ⟨A', w', m⟩ := w1'.store hlt rv
        exact q1 _ F1 H1 A' (s1.perm (fun p h => h) m) w' (.set fun hio => freeT_no hf i hio (by simp [slT]))
      · cases e
    · exact q1.elim
  · exact q1.elim
theorem s_setLc {i : Nat} {y : Str} {py spos : Pos} {t : Tg} {io : List Nat} (hc : X.calm = true) (hN : X.N.Nodup) (hy : X.N[i]? = some y) (hyl : X.env.scope.names.lookup y = some .local)
    (hsw : swapsWith (.ListComp elt [⟨tg, iter, [], 0⟩] scope pos) (some (.Name y py)) spos.line X.env = pure true) (hi : PI X tg iter (TIt X.K xp W C t a)) (ok : BlkOk X.N X.env.scope scope (ownN X.N (slT t)))
    (hg : ∀ (s : Shared) (H : Hp) (D : Addr) (cl : List (Str × Addr)) (fp : List Addr), PG (X.blk s H scope (compEnvC scope cl D X.env) fp) tg (TGv X.K t))
    (he : ∀ (s : Shared) (H : Hp) (D : Addr) (cl : List (Str × Addr)) (fp : List Addr), PE (X.blk s H scope (compEnvC scope cl D X.env) fp) elt (TV X.K xp WF C b)) (hs : ∀ x, foldedSetIterable iter X.env x = pure x) : PS X (.Assign [.Name y py] (.ListComp elt [⟨tg, iter, [], 0⟩] scope pos) spos) (TSt X.K xp W C io (.asg (.n i) (.lc t a b))) := by
  have := ps_setLc (tt := TTf X.K xp fun r => .ok true r) hc hN hy hyl hsw hi ok hg (fun s H D cl fp => ⟨fun pins s σ H Q I h => (pts_nil (X := X.blk _ _ scope _ fp)).run pins s σ H Q I (ttf_yes (X := X) h)⟩) he hs
  rw [ownN_ix] at this
  refine s_set_of this fun σ H Q ⟨r, F, A, w, q⟩ => ?_
  simp only [evE] at q
  exact lc_ok w q
theorem s_setLci {i : Nat} {y : Str} {py spos : Pos} {t : Tg} {io : List Nat} {cnd : Expr} {c : E} (hc : X.calm = true) (hN : X.N.Nodup) (hy : X.N[i]? = some y) (hyl : X.env.scope.names.lookup y = some .local)
    (hsw : swapsWith (.ListComp elt [⟨tg, iter, [cnd], 0⟩] scope pos) (some (.Name y py)) spos.line X.env = pure true) (hi : PI X tg iter (TIt X.K xp W C t a)) (ok : BlkOk X.N X.env.scope scope (ownN X.N (slT t)))
    (hg : ∀ (s : Shared) (H : Hp) (D : Addr) (cl : List (Str × Addr)) (fp : List Addr), PG (X.blk s H scope (compEnvC scope cl D X.env) fp) tg (TGv X.K t))
    (ht : ∀ (s : Shared) (H : Hp) (D : Addr) (cl : List (Str × Addr)) (fp : List Addr), PT (X.blk s H scope (compEnvC scope cl D X.env) fp) cnd (TTs X.K xp WF C c))
    (he : ∀ (s : Shared) (H : Hp) (D : Addr) (cl : List (Str × Addr)) (fp : List Addr), PE (X.blk s H scope (compEnvC scope cl D X.env) fp) elt (TV X.K xp WF C b)) (hs : ∀ x, foldedSetIterable iter X.env x = pure x) : PS X (.Assign [.Name y py] (.ListComp elt [⟨tg, iter, [cnd], 0⟩] scope pos) spos) (TSt X.K xp W C io (.asg (.n i) (.lci t a c b))) := by
  have := ps_setLc (tt := TTf X.K xp fun r => tstO c (evE C c r) r) hc hN hy hyl hsw hi ok hg (fun s H D cl fp => pts_one (sTo (ht s H D cl fp))) he hs
  rw [ownN_ix] at this
  refine s_set_of this fun σ H Q ⟨r, F, A, w, q⟩ => ?_
  simp only [evE] at q
  exact lc_ok w q
end
end Ev

/-! Ey1: more expressions. -/
namespace Ev
open PySem PySem.Spec PyProof.Rows L2
def pmId : Pm → String
  | .lcount => "list.count"
  | .tcount => "tuple.count"
  | .lindex => "list.index"
  | .tindex => "tuple.index"
def pmTy : Pm → String
  | .lcount => "list"
  | .tcount => "tuple"
  | .lindex => "list"
  | .tindex => "tuple"
def pmNm : Pm → Str
  | .lcount => "count"
  | .tcount => "count"
  | .lindex => "index"
  | .tindex => "index"
theorem pmSlot : ∀ m : Pm, Slot (pmTy m) (pmNm m) (pmId m)
  | .lcount => PySem.F.slot_list_count
  | .tcount => PySem.F.slot_tuple_count
  | .lindex => PySem.F.slot_list_index
  | .tindex => PySem.F.slot_tuple_index
theorem pmType : ∀ m : Pm, typeOf (.builtin (pmId m)) = pure (.type "method_descriptor")
  | .lcount => PySem.F.type_list_count
  | .tcount => PySem.F.type_tuple_count
  | .lindex => PySem.F.type_list_index
  | .tindex => PySem.F.type_tuple_index
theorem pmPlain : ∀ m : Pm, PlainAttrs (pmTy m)
  | .lcount => PySem.F.plainAttrs_list
  | .tcount => PySem.F.plainAttrs_tuple
  | .lindex => PySem.F.plainAttrs_list
  | .tindex => PySem.F.plainAttrs_tuple
def rMet (K : PySem.W.Frag) (m : Pm) : V → List V → Hp → VK → Prop := fun x xs H Q => ∃ F d ds c, VR K F H x d ∧ Paired (VR K F H) xs ds ∧ Same F H ∧ metD m d ds = some c ∧ ∀ v, Dp K F v c → Q v H
theorem find_at {h : Heap} {vs : Array Value} {xs : List PyData} {as : List Addr} {d : PyData} (rs : ReadsAll h vs.toList xs as) (hxs : PyData.plainAll xs = true) {j : Nat} (hp : (xs.findIdx? fun y => PyData.eqv y d) = some j) :
    ∃ hj : j < vs.size, PyData.eqv (SeqAt.readOf h vs[j]) d = true ∧ ∀ m (hm : m < vs.size), m < j → PyData.eqv (SeqAt.readOf h vs[m]) d = false := PySem.SeqAt.hit_at rs hxs hp
section
variable {X : Cx}
theorem mt_met (hu : X.A.units + 100 < cLine) (m : Pm) : MtR X (pmId m) (rMet X.K m) := by
  intro pins s σ H x xs v us Q I rx rxs h
  obtain ⟨F, d, ds, c, hx, hxs, sm, e, q⟩ := h
  cases hxs with
  | nil => cases m <;> cases d <;> cases e
  | @cons y d' ys ds' hy rest =>
    cases rest with
    | cons _ _ => cases m <;> cases d <;> cases e
    | nil =>
      cases rxs with
      | cons ry rt =>
        rename_i uy ut
        cases rt
        have fin : ∀ i : Int, c = .int i → EP X pins σ Q (.int i s.toks) { s with toks := s.toks + 1 } := fun i ec => by
          subst ec
          exact ⟨.int i, H, I.tok _, ⟨_, rfl⟩, q _ (.int i)⟩
        obtain ⟨bs, r2⟩ := L2.Dp.reads I d' y uy (Dp.old (hy.dp sm)) ry
        have pd := dp_plain (hy.dp sm)
        have tup : ∀ zs, d = .tuple zs → ∃ (a : Addr) (its : List Value) (as : List Addr), v = .ref a ∧ s.heap.IsTuple a its.toArray ∧ ReadsAll s.heap its.toArray.toList zs as ∧ PyData.plainAll zs = true ∧ its.toArray.size ≤ sizeLine := fun zs ez => by
          subst ez
          obtain ⟨a, vs, rfl, h1, h2⟩ := hx.tup_
          cases rx
          obtain ⟨its, rv, p, hz⟩ := I.tuple (same_sqt sm h1.sqt)
          obtain ⟨as, h4⟩ := L2.Dp.readsAll I zs _ its (DpAll.old (dpAll_mono sm h2)) rv
          have l1 := rv.length
          exact ⟨a, its, as, rfl, p, h4, dpAll_plain h2, by rw [List.size_toArray]; omega⟩
        have lst : ∀ zs, d = .list zs → ∃ (a : Addr) (its : List Value) (as : List Addr), v = .ref a ∧ s.heap.IsList a its.toArray ∧ ReadsAll s.heap its.toArray.toList zs as ∧ PyData.plainAll zs = true ∧ its.toArray.size ≤ sizeLine := fun zs ez => by
          subst ez
          obtain ⟨a, vs, rfl, h1, h2⟩ := hx
          cases rx
          obtain ⟨its, rv, p, hz⟩ := I.list h1
          obtain ⟨as, h4⟩ := L2.Dp.readsAll I zs _ its (DpAll.old (dpAll_mono sm h2)) rv
          have l1 := rv.length
          exact ⟨a, its, as, rfl, p.isList, h4, dpAll_plain h2, by rw [List.size_toArray]; omega⟩
        cases m with
        | lcount =>
          cases d with
          | list zs =>
            simp only [metD] at e
            split at e
            · rename_i hm
              cases e
              obtain ⟨a, its, as, rfl, hl, rs, pl, _⟩ := lst zs rfl
              have hm : min (PyData.depthAll zs) d'.depth ≤ 60 := of_decide_eq_true hm
              exact PySem.SeqAt.count_list_data hl rs r2 pl pd (by omega) (fin _ rfl)
            · cases e
          | _ => cases e
        | tcount =>
          cases d with
          | tuple zs =>
            simp only [metD] at e
            split at e
            · rename_i hm
              cases e
              obtain ⟨a, its, as, rfl, hl, rs, pl, _⟩ := tup zs rfl
              have hm : min (PyData.depthAll zs) d'.depth ≤ 60 := of_decide_eq_true hm
              exact PySem.SeqAt.count_tuple_data hl rs r2 pl pd (by omega) (fin _ rfl)
            · cases e
          | _ => cases e
        | lindex =>
          cases d with
          | list zs =>
            simp only [metD] at e
            split at e
            · rename_i hm
              simp only [Option.map_eq_some_iff] at e
              obtain ⟨j, e1, rfl⟩ := e
              obtain ⟨a, its, as, rfl, hl, rs, pl, hsz⟩ := lst zs rfl
              have hm : min (PyData.depthAll zs) d'.depth ≤ 60 := of_decide_eq_true hm
              obtain ⟨hj, hit, hno⟩ := find_at rs pl e1
              have hs : sizeLine = 16777216 := sizeLine_eq
              obtain ⟨⟨cls, dd, data, sl⟩, ho, hc, n, hd'⟩ := id hl
              simp only at hc hd'
              subst hc hd'
              exact call_meets PySem.F.slot_list_index ⟨_, ho, rfl⟩ PySem.F.entry_list_index (PySem.F.args_list_index_2 _ _) (PySem.SeqAt.list_indexAt a its.toArray n dd sl uy (fun u => PyData.eqv (PySem.SeqAt.readOf s.heap u) d') j hj (by omega) hit hno) ⟨ho, PySem.SeqAt.items_plain rs r2 pl pd (by omega), fin _ rfl⟩
            · cases e
          | _ => cases e
        | tindex =>
          cases d with
          | tuple zs =>
            simp only [metD] at e
            split at e
            · rename_i hm
              simp only [Option.map_eq_some_iff] at e
              obtain ⟨j, e1, rfl⟩ := e
              obtain ⟨a, its, as, rfl, hl, rs, pl, hsz⟩ := tup zs rfl
              have hm : min (PyData.depthAll zs) d'.depth ≤ 60 := of_decide_eq_true hm
              obtain ⟨hj, hit, hno⟩ := find_at rs pl e1
              obtain ⟨⟨cls, dd, data, sl⟩, ho, hc, n, hd'⟩ := id hl
              simp only at hc hd'
              subst hc hd'
              exact call_meets PySem.F.slot_tuple_index ⟨_, ho, rfl⟩ PySem.F.entry_tuple_index (PySem.F.args_tuple_index_2 _ _) (TI.tuple_indexAt a its.toArray n dd sl uy (fun u => PyData.eqv (PySem.SeqAt.readOf s.heap u) d') j hj hit hno) ⟨ho, PySem.SeqAt.items_plain rs r2 pl pd (by omega), fin _ rfl⟩
            · cases e
          | _ => cases e
end
section
variable {X : Cx} {N : List Str} {sc : Scope} {xp : Xp} {W : WX} {C : Cf} {ex ex2 eo : Expr} {a b : E} {pos p : Pos}
theorem sV_isB {c : Bool} {k : Nat} {p2 : Pos} (ha : PE X ex (TOp X.K xp W C a)) : PE X (.Compare ex [.Is] [.Constant (.bool c) k p2] pos) (TV X.K xp W C (.isB c a)) := by
  have hk : PE X (.Constant (.bool c) k p2) (tC (.bl c)) := pe_bl
  refine pe_imp (pe_cmpR op_isBl ha hk rfl) fun σ H Q ⟨r, F, A, w, q⟩ => ?_
  simp only [evE] at q
  refine ⟨r, F, A, w, PR.mono (PV.bind q) fun oa r1 F1 H1 A1 s1 w1 q1 x ox => ?_⟩
  split at q1
  · rename_i d hd
    exact ⟨d, c, (ox.vr w1 hd).bool_, rfl, q1 _ F1 H1 A1 [] .refl w1 (.fr (.bl _))⟩
  · exact q1.elim
theorem intsD_ok {K : PySem.W.Frag} {F : Hp} {n : Int} : DpAll K F (rgV 0 n) (intsD n) := by
  unfold rgV intsD
  rw [Int.sub_zero]
  have : ∀ l : List Nat, DpAll K F (l.map fun i => V.int (0 + (i : Nat))) (l.map fun (k : Nat) => PyData.int (k : Int)) := fun l => by
    induction l with
    | nil => exact .nil
    | cons x l ih =>
      rw [List.map_cons, List.map_cons]
      have e : (0 : Int) + (x : Nat) = (x : Int) := by omega
      rw [e]
      exact .cons (.int _) ih
  exact this _
theorem mem_insU {x k : Int} : ∀ {l : List Int}, k ∈ insU x l ↔ k = x ∨ k ∈ l
  | [] => by simp [insU]
  | y :: ys => by
    simp only [insU]
    split
    · simp
    · split
      · rename_i h
        subst h
        simp
      · simp only [List.mem_cons, mem_insU (l := ys)]
        constructor
        · rintro (h | h | h)
          · exact .inr (.inl h)
          · exact .inl h
          · exact .inr (.inr h)
        · rintro (h | h | h)
          · exact .inr (.inl h)
          · exact .inl h
          · exact .inr (.inr h)
theorem lt_insU {x : Int} : ∀ {l : List Int}, l.Pairwise (· < ·) → (insU x l).Pairwise (· < ·)
  | [], _ => by simp [insU]
  | y :: ys, h => by
    obtain ⟨h1, h2⟩ := List.pairwise_cons.mp h
    simp only [insU]
    split
    · rename_i hx
      refine List.pairwise_cons.mpr ⟨fun z hz => ?_, h⟩
      rcases List.mem_cons.mp hz with rfl | hz
      · exact hx
      · have := h1 z hz
        omega
    · split
      · exact h
      · rename_i h3 h4
        refine List.pairwise_cons.mpr ⟨fun z hz => ?_, lt_insU h2⟩
        rcases mem_insU.mp hz with rfl | hz
        · omega
        · exact h1 z hz
theorem mem_sortU {k : Int} : ∀ {l : List Int}, k ∈ sortU l ↔ k ∈ l
  | [] => by simp [sortU]
  | x :: xs => by rw [sortU, mem_insU, mem_sortU (l := xs), List.mem_cons]
theorem lt_sortU : ∀ {l : List Int}, (sortU l).Pairwise (· < ·)
  | [] => .nil
  | x :: xs => lt_insU lt_sortU
theorem uniqU : ∀ {l m : List Int}, l.Pairwise (· < ·) → m.Pairwise (· < ·) → (∀ k, k ∈ l ↔ k ∈ m) → l = m
  | [], [], _, _, _ => rfl
  | [], y :: ys, _, _, h => by have := (h y).mpr List.mem_cons_self; cases this
  | x :: xs, [], _, _, h => by have := (h x).mp List.mem_cons_self; cases this
  | x :: xs, y :: ys, h1, h2, h => by
    obtain ⟨a1, a2⟩ := List.pairwise_cons.mp h1
    obtain ⟨b1, b2⟩ := List.pairwise_cons.mp h2
    have e : x = y := by
      rcases List.mem_cons.mp ((h x).mp List.mem_cons_self) with z | z
      · exact z
      · rcases List.mem_cons.mp ((h y).mpr List.mem_cons_self) with u | u
        · exact u.symm
        · have := a1 _ u
          have := b1 _ z
          omega
    subst e
    rw [uniqU a2 b2 fun k => ?_]
    constructor
    · intro hk
      rcases List.mem_cons.mp ((h k).mp (List.mem_cons_of_mem _ hk)) with z | z
      · have := a1 _ hk
        omega
      · exact z
    · intro hk
      rcases List.mem_cons.mp ((h k).mpr (List.mem_cons_of_mem _ hk)) with z | z
      · have := b1 _ hk
        omega
      · exact z
theorem ints_dp {K : PySem.W.Frag} {F : Hp} : ∀ {ns : List Int}, DpAll K F (ns.map V.int) (ns.map PyData.int)
  | [] => .nil
  | n :: ns => .cons (.int n) ints_dp
theorem sV_ss {p2 pos2 : Pos} (hc : X.calm = true) (hg : Gl X "sorted") (hm : X.mg "sorted" = none) (hg2 : Gl X "set") (hm2 : X.mg "set" = none) (ha : PE X ex (TOp X.K xp W C a)) (hn : noStar ex = true) :
    PE X (.Call (.Name "sorted" p) [.Call (.Name "set" p2) [ex] [] pos2] [] pos) (TV X.K xp W C (.ss a)) := by
  refine pe_imp (pe_sortSet hg hm hg2 hm2 ha hc (starEach_cons hn)) fun σ H Q ⟨r, F, A, w, q⟩ => ?_
  simp only [evE] at q
  refine ⟨r, F, A, w, PR.mono (PV.bind q) fun oa r1 F1 H1 A1 s1 w1 q1 x ox => ?_⟩
  split at q1
  · rename_i ns hns
    split at q1
    · rename_i hl
      rw [decide_eq_true_eq] at hl
      obtain ⟨d, hd, hd2⟩ := Option.bind_eq_some_iff.mp hns
      cases d with
      | list ds =>
        obtain ⟨l, vs, rfl, g1, g2⟩ := ox.vr w1 hd
        have e := intsOf_ok g2 hd2
        subst e
        refine ⟨l, ns, rfl, g1, hl, fun out q ho hmem hq => ?_⟩
        have e2 : out = sortU ns := uniqU ho lt_sortU fun k => (hmem k).trans mem_sortU.symm
        subst e2
        exact (NewR.lst hq ints_dp).fin w1 q1
      | _ => cases hd2
    · exact q1.elim
  · exact q1.elim
theorem sV_rlL {p2 pos2 : Pos} (hc : X.calm = true) (hg : Gl X "list") (hm : X.mg "list" = none) (hg2 : Gl X "range") (hm2 : X.mg "range" = none) (ha : PE X ex (TOp X.K xp W C a)) (hn : noStar ex = true) :
    PE X (.Call (.Name "list" p) [.Call (.Name "range" p2) [ex] [] pos2] [] pos) (TV X.K xp W C (.rl false a)) := by
  refine pe_imp (pe_listRg hc hg hm (prg_1 hg2 hm2 ha (starEach_cons hn))) fun σ H Q ⟨r, F, A, w, q⟩ => ?_
  simp only [evE] at q
  refine ⟨r, F, A, w, PR.mono (PV.bind q) fun oa r1 F1 H1 A1 s1 w1 q1 x ox => ?_⟩
  split at q1
  · rename_i n hn
    split at q1
    · rename_i hr
      simp only [Bool.and_eq_true, decide_eq_true_eq] at hr
      exact ⟨n, intV_ok w1 ox hn, .of_le (by omega) (by omega) (by omega) (by omega), fun z hz => (NewR.lst hz intsD_ok).fin w1 q1⟩
    · exact q1.elim
  · exact q1.elim
theorem pe_tupRgG {e : Expr} {te : L2.St → Hp → (Int → Int → Hp → Prop) → Prop} (hc : X.calm = true) (hg : Gl X "tuple") (hm : X.mg "tuple" = none) (he : PRg X e te) (na : starEach [e] X.env = (false, eval e X.env) :: starEach [] X.env := by rfl) :
    PE X (.Call (.Name "tuple" p) [e] [] pos) (fun σ H Q => te σ H fun i j H1 => RgOk i j ∧ ∀ q o, H1 q = none → o.dict = none → Q (.ref q) (upd H1 q (.frz o (.tup (rgV i j))))) := by
  refine ⟨fun pins s σ H Q I h => Call_ (ld_blt I hg hm boot_tuple (PyProof.Rows.callWith_type1 (args_cons (thn (he pins s σ H _ I h) fun x s1 ⟨r, i, j, t, u, v, H1, ex, hr, J, ok, q⟩ => args_nil ?_) na) na))⟩
  subst ex
  have ok' := ok
  obtain ⟨b1, b2, b3, b4, b5⟩ := ok
  refine call_tuple_range (n := (j - i).toNat) (J.ok.hd hc) hr (small_one b1 b2 b3 b4) (rangeSize_nat i j) b5 fun hp' tk acc hk hi => ?_
  have J2 : Inv X pins σ H1 { s1 with heap := hp', toks := tk } := J.kept hk
  exact ⟨.ref hp'.objs.size, _, good_laid J2 rfl (vals_rg hi) (by rw [rgV_length, sizeLine_eq]; omega) (IsTup.new _ _), rfl, q _ _ (J2.hok.fresh (Nat.le_refl _)) rfl⟩
theorem sV_rlT {p2 pos2 : Pos} (hc : X.calm = true) (hg : Gl X "tuple") (hm : X.mg "tuple" = none) (hg2 : Gl X "range") (hm2 : X.mg "range" = none) (ha : PE X ex (TOp X.K xp W C a)) (hn : noStar ex = true) :
    PE X (.Call (.Name "tuple" p) [.Call (.Name "range" p2) [ex] [] pos2] [] pos) (TV X.K xp W C (.rl true a)) := by
  refine pe_imp (pe_tupRgG hc hg hm (prg_1 hg2 hm2 ha (starEach_cons hn))) fun σ H Q ⟨r, F, A, w, q⟩ => ?_
  simp only [evE] at q
  refine ⟨r, F, A, w, PR.mono (PV.bind q) fun oa r1 F1 H1 A1 s1 w1 q1 x ox => ?_⟩
  split at q1
  · rename_i n hn
    split at q1
    · rename_i hr
      simp only [Bool.and_eq_true, decide_eq_true_eq] at hr
      exact ⟨n, intV_ok w1 ox hn, .of_le (by omega) (by omega) (by omega) (by omega), fun z o hz ho => (NewR.tup hz ho intsD_ok).fin w1 q1⟩
    · exact q1.elim
  · exact q1.elim
theorem lst_ty {K : PySem.W.Frag} {F H : Hp} {x : V} {d : D} {m : Pm} (hl : pmTy m = "list") (h : VR K F H x d) (e : pmV m (some d) = true) : tyV K (pmTy m) x H := by
  rw [hl]
  have : ∃ zs, d = .list zs := by
    cases m with
    | lcount => cases d <;> first | exact ⟨_, rfl⟩ | cases e
    | lindex => cases d <;> first | exact ⟨_, rfl⟩ | cases e
    | tcount => exact absurd hl (by decide)
    | tindex => exact absurd hl (by decide)
  obtain ⟨zs, rfl⟩ := this
  obtain ⟨q, vs, rfl, h1, h2⟩ := h
  exact .inl ⟨rfl, vs, h1⟩
theorem sV_metL {m : Pm} {exs : List Expr} {es : List E} {cpos apos : Pos} (hl : pmTy m = "list") (c0 : Cx0 X N sc) (ho : PE X eo (TOp X.K xp W C a)) (ha : PA X (ex :: exs) (TAs X.K xp W C es)) (hb : attributeBase eo (pmNm m) X.env (eval eo X.env) = eval eo X.env)
    (hfew : ((backTo cpos (starEach (ex :: exs) X.env)).all (fun x => !x.1) && (backToKw cpos (keywordEach [] X.env)).all (fun x => x.1.isSome)
      && decide ((ex :: exs).length + ([] : List Keyword).length + (if ([] : List Keyword).isEmpty then 0 else 1) < 30)) = true)
    (hline : (apos.endLine == cpos.line) = true) (hst : (ex :: exs).all noStar = true) : PE X (.Call (.Attribute eo (pmNm m) apos) (ex :: exs) [] cpos) (TV X.K xp W C (.met m a es)) := by
  simp only [List.all_cons, Bool.and_eq_true] at hst
  refine pe_imp (pe_bm (pmPlain m) (pmSlot m) (pmType m) (mt_met c0.hu m) ho ha hb hfew hline (starEach_cons hst.1) (noStars hst.2 cpos)) fun σ H Q ⟨r, F, A, w, q⟩ => ?_
  simp only [evE] at q
  refine ⟨r, F, A, w, PR.mono (PV.bind q) fun oa r1 F1 H1 A1 s1 w1 q1 x ox => ?_⟩
  split at q1
  · rename_i hp
    have ty : tyV X.K (pmTy m) x H1 := by
      cases hv : vw r1 oa with
      | none => rw [hv] at hp; cases m <;> cases hp
      | some d => exact lst_ty hl (ox.vr w1 hv) (hv ▸ hp)
    refine ⟨ty, r1, F1, A1, w1, PR.mono (PV.bind q1) fun os r2 F2 H2 A2 s2 w2 q2 xs oxs => ?_⟩
    split at q2
    · rename_i d ds hd hds
      cases hm : metD m d ds with
      | none => rw [hm] at q2; exact q2.elim
      | some c =>
        rw [hm] at q2
        exact ⟨F2, d, ds, c, (ox.mono s2.ff).vr w2 hd, OvRs.vrs w2 oxs hds, w2.sm, hm, fun v hv => q2 _ F2 H2 A2 [] .refl w2 (.fr hv)⟩
    · exact q2.elim
  · exact q1.elim
theorem goodT_ty {pins : List (Addr × Obj)} {σ : L2.St} {H : Hp} {s : Shared} {a : Addr} {vs : List V} (I : Inv X pins σ H s) (h : GoodT X.K H a vs) : s.TypeIs (.ref a) "tuple" ∧ ∃ ob, s.heap.get? a = some ob ∧ ob.dict = none := by
  rcases h with ⟨o, h, hd⟩ | ⟨o, its, n, h1, hd, h2, h3, _⟩
  · obtain ⟨e, hz, its, rv, ob, e2, hc, _⟩ := I.hok a _ h
    exact ⟨⟨ob, e2, hc⟩, o, e, hd⟩
  · have e := I.kIn a o h1
    exact ⟨⟨o, e, h2⟩, o, e, hd⟩
theorem pe_bmG {r : V → List V → Hp → VK → Prop} {o e : Expr} {es : List Expr} {to : TE} {t : TA} {name : Str} {id : String} {cpos apos : Pos} (slot : Slot "tuple" name id) (hty : typeOf (.builtin id) = pure (.type "method_descriptor")) (hm : MtR X id r) (ho : PE X o to) (ha : PA X (e :: es) t)
    (hbase : attributeBase o name X.env (eval o X.env) = eval o X.env)
    (few : ((backTo cpos (starEach (e :: es) X.env)).all (fun x => !x.1) && (backToKw cpos (keywordEach [] X.env)).all (fun x => x.1.isSome) && decide ((e :: es).length + ([] : List Keyword).length + (if ([] : List Keyword).isEmpty then 0 else 1) < 30)) = true)
    (line : (apos.endLine == cpos.line) = true) (hs : starEach (e :: es) X.env = (false, eval e X.env) :: starEach es X.env) (hpl : (backTo cpos (starEach es X.env)).any (·.1) = false) :
    PE X (.Call (.Attribute o name apos) (e :: es) [] cpos) (fun σ H Q => to σ H fun x H1 => (∃ a vs, x = .ref a ∧ GoodT X.K H1 a vs) ∧ t σ H1 fun xs H2 => r x xs H2 Q) := by
  refine ⟨fun pins s σ H Q I h => wpAny_Call_method_late hbase few line rfl (thn (ho.run pins s σ H _ I h) fun v s1 ⟨x, H1, J, r1, ⟨a, vs, ex, gt⟩, q1⟩ => ?_)⟩
  subst ex
  cases r1
  obtain ⟨g1, ob, g2, g3⟩ := goodT_ty J gt
  refine ⟨"tuple", id, PySem.F.plainAttrs_tuple, slot, hty, g1, fun z ez => by cases ez; exact ⟨ob, g2, g3⟩, ?_⟩
  have hA := ha.run cpos pins s1 σ H1 _ J q1
  rw [hs] at hA ⊢
  refine Calls.callWith_builtin (show (false || (backTo cpos (starEach es X.env)).any (·.1)) = false by rw [hpl]; rfl) (Calls.evalArgs_plain (thn hA fun ws s2 ⟨ys, H2, J2, r2, q2⟩ => ?_))
  exact hm pins s2 σ H2 (.ref a) ys _ ws Q J2 rfl r2 q2
theorem sV_metT {m : Pm} {exs : List Expr} {es : List E} {cpos apos : Pos} (hl : pmTy m = "tuple") (c0 : Cx0 X N sc) (ho : PE X eo (TOp X.K xp W C a)) (ha : PA X (ex :: exs) (TAs X.K xp W C es)) (hb : attributeBase eo (pmNm m) X.env (eval eo X.env) = eval eo X.env)
    (few : ((backTo cpos (starEach (ex :: exs) X.env)).all (fun x => !x.1) && (backToKw cpos (keywordEach [] X.env)).all (fun x => x.1.isSome) && decide ((ex :: exs).length + ([] : List Keyword).length + (if ([] : List Keyword).isEmpty then 0 else 1) < 30)) = true)
    (line : (apos.endLine == cpos.line) = true) (hst : (ex :: exs).all noStar = true) : PE X (.Call (.Attribute eo (pmNm m) apos) (ex :: exs) [] cpos) (TV X.K xp W C (.met m a es)) := by
  simp only [List.all_cons, Bool.and_eq_true] at hst
  have sl := pmSlot m
  rw [hl] at sl
  refine pe_imp (pe_bmG sl (pmType m) (mt_met c0.hu m) ho ha hb few line (starEach_cons hst.1) (noStars hst.2 cpos)) fun σ H Q ⟨r, F, A, w, q⟩ => ?_
  simp only [evE] at q
  refine ⟨r, F, A, w, PR.mono (PV.bind q) fun oa r1 F1 H1 A1 s1 w1 q1 x ox => ?_⟩
  split at q1
  · rename_i hp
    have ty : ∃ a vs, x = .ref a ∧ GoodT X.K H1 a vs := by
      cases hv : vw r1 oa with
      | none => rw [hv] at hp; cases m <;> cases hp
      | some d =>
        have hx := ox.vr w1 hv
        rw [hv] at hp
        have : ∃ zs, d = .tuple zs := by
          cases m with
          | tcount => cases d <;> first | exact ⟨_, rfl⟩ | cases hp
          | tindex => cases d <;> first | exact ⟨_, rfl⟩ | cases hp
          | lcount => exact absurd hl (by decide)
          | lindex => exact absurd hl (by decide)
        obtain ⟨zs, rfl⟩ := this
        obtain ⟨b, vs, e, g, _⟩ := hx.tup_
        exact ⟨b, vs, e, g.mono w1.sm⟩
    refine ⟨ty, r1, F1, A1, w1, PR.mono (PV.bind q1) fun os r2 F2 H2 A2 s2 w2 q2 xs oxs => ?_⟩
    split at q2
    · rename_i d ds hd hds
      cases hm : metD m d ds with
      | none => rw [hm] at q2; exact q2.elim
      | some c =>
        rw [hm] at q2
        exact ⟨F2, d, ds, c, (ox.mono s2.ff).vr w2 hd, OvRs.vrs w2 oxs hds, w2.sm, hm, fun v hv => q2 _ F2 H2 A2 [] .refl w2 (.fr hv)⟩
    · exact q2.elim
  · exact q1.elim
/-! ### zip -/
theorem zpD_get {xs ys : List PyData} {i : Nat} {d e : PyData} (h : xs[i]? = some d) (h2 : ys[i]? = some e) : (zpD xs ys)[i]? = some (.tuple [d, e]) := by
  unfold zpD
  rw [List.getElem?_zipWith, h, h2]
theorem zpD_len {xs ys : List PyData} : (zpD xs ys).length = min xs.length ys.length := by
  unfold zpD
  rw [List.length_zipWith]
theorem itOk_zipL {ts : List Tg} {K : PySem.W.Frag} {F F1 : Hp} {a b : Addr} {vs us : List V} {xs ys : List PyData} (hq : ∀ H', Same F1 H' → SqL K H' a vs ∧ SqL K H' b us) (hd : DpAll K F vs xs) (he : DpAll K F us ys) : ItOk K F F1 (.t ts) (zpD xs ys) (Itz K a b) := by
  have hl := dpAll_len hd
  have hl2 := dpAll_len he
  unfold ItOk
  rw [zpD_len]
  refine ⟨fun i H' s h => ⟨vs, us, vs[i]'(by omega), us[i]'(by omega), (hq H' s).1, (hq H' s).2, List.getElem?_eq_getElem _, List.getElem?_eq_getElem _⟩, fun i H' x H'' s h y => ?_, fun i H' s h => ⟨vs, us, (hq H' s).1, (hq H' s).2, by omega⟩⟩
  obtain ⟨T, y, z, rfl, hT, rfl, hy, hz⟩ := y
  obtain ⟨d, g1, g2⟩ := dpAll_get' hd (hy vs (hq _ s).1)
  obtain ⟨e, g3, g4⟩ := dpAll_get' he (hz us (hq _ s).2)
  exact ⟨_, zpD_get g1 g3, .inr ⟨ts, _, rfl, rfl, _, _, rfl, hT, rfl, .cons g2 (.cons g4 .nil)⟩⟩
theorem itOk_zipT {ts : List Tg} {K : PySem.W.Frag} {F F1 : Hp} {a b : Addr} {vs us : List V} {xs ys : List PyData} (hq : ∀ H', Same F1 H' → SqT K H' a vs ∧ SqT K H' b us) (hd : DpAll K F vs xs) (he : DpAll K F us ys) : ItOk K F F1 (.t ts) (zpD xs ys) (RZ.ItzT K a b) := by
  have hl := dpAll_len hd
  have hl2 := dpAll_len he
  unfold ItOk
  rw [zpD_len]
  refine ⟨fun i H' s h => ⟨vs, us, vs[i]'(by omega), us[i]'(by omega), (hq H' s).1, (hq H' s).2, List.getElem?_eq_getElem _, List.getElem?_eq_getElem _⟩, fun i H' x H'' s h y => ?_, fun i H' s h => ⟨vs, us, (hq H' s).1, (hq H' s).2, by omega⟩⟩
  obtain ⟨T, y, z, rfl, hT, rfl, hy, hz⟩ := y
  obtain ⟨d, g1, g2⟩ := dpAll_get' hd (hy vs (hq _ s).1)
  obtain ⟨e, g3, g4⟩ := dpAll_get' he (hz us (hq _ s).2)
  exact ⟨_, zpD_get g1 g3, .inr ⟨ts, _, rfl, rfl, _, _, rfl, hT, rfl, .cons g2 (.cons g4 .nil)⟩⟩
theorem i_zp {ts : List Tg} {elts : List Expr} {kk : Nat} {tpos : Pos} (hg : Gl X "zip") (hm : X.mg "zip" = none) (h : PE X ex (TOp X.K xp W C a)) (h2 : PE X ex2 (TOp X.K xp W C b)) (hn : noStar ex = true) (hn2 : noStar ex2 = true) : PI X (.Tuple elts kk tpos) (.Call (.Name "zip" p) [ex, ex2] [] pos) (TIt X.K xp W C (.t ts) (.zp a b)) := by
  refine pi_imp (RZ.pi_zipA hg hm (sA_cons h (sA_cons h2 sA_nil hn2) hn) (starEach_cons hn) (by rw [starEach_cons hn2]; rfl)) fun σ H R ⟨r, F, A, w, q⟩ => ?_
  simp only [evI] at q
  refine tas_two w q fun x y o o2 r1 F1 H1 A1 w1 ox oy q1 => ?_
  simp only [zpI] at q1
  split at q1
  · rename_i m n e1 e2
    split at q1
    · rename_i hc
      simp only [Bool.and_eq_true, List.isEmpty_iff, beq_iff_eq] at hc
      obtain ⟨⟨z1, z2⟩, z3⟩ := hc
      obtain ⟨a1, vs, B, A', rfl, g2, g3, g4, g5, g6⟩ := seqOf_ok w1 ox e1
      obtain ⟨a2, us, B2, A2, rfl, k2, k3, k4, k5, k6⟩ := seqOf_ok w1 oy e2
      rw [z1] at g5
      rw [z2] at k5
      cases g5
      cases k5
      rw [ext_nil] at g6 k6
      have go : ∀ J, ItOk X.K F1 F1 (.t ts) (zpD m.xs n.xs) J → R J H1 := fun J hJ => q1 F1 H1 A1 .refl w1 J [] A1 (.refl _) w1.env .nil (by rw [ext_nil]; exact hJ)
      cases hl : m.ls with
      | true =>
        have hl2 : n.ls = true := by rw [← z3]; exact hl
        exact ⟨a1, a2, vs, us, rfl, .inl ⟨(g6 H1 w1.sm).1 hl, (k6 H1 w1.sm).1 hl2, go _ (itOk_zipL (fun H' s => ⟨(g6 H' s).1 hl, (k6 H' s).1 hl2⟩) g2 k2)⟩⟩
      | false =>
        have hl2 : n.ls = false := by rw [← z3]; exact hl
        exact ⟨a1, a2, vs, us, rfl, .inr ⟨(g6 H1 w1.sm).2 hl, (k6 H1 w1.sm).2 hl2, go _ (itOk_zipT (fun H' s => ⟨(g6 H' s).2 hl, (k6 H' s).2 hl2⟩) g2 k2)⟩⟩
    · exact q1.elim
  · exact q1.elim
end
end Ev

/-! Ey2: chained assignments, raise, try. -/
namespace Ev
open PySem PySem.Spec PyProof.Rows L2
section
variable {X : Cx} {N : List Str} {sc : Scope} {xp : Xp} {W : WX} {C : Cf} {ex : Expr} {a : E} {pos p pos2 : Pos} {io : List Nat}
/-- the names of a chained assignment -/
inductive Tgts (X : Cx) : List Expr → List Nat → Prop
  | nil : Tgts X [] []
  | cons {t : Expr} {ts : List Expr} {i : Nat} {is : List Nat} : PG X t (TGv X.K (.n i)) → noStar t = true → Tgts X ts is → Tgts X (t :: ts) (i :: is)
theorem each_eq {env : PySem.Env} : ∀ {ts : List Expr}, ts.all noStar = true → (assignEach ts env).map (·.2) = ts.map fun t => assign t env
  | [], _ => rfl
  | t :: ts, h => by
    simp only [List.all_cons, Bool.and_eq_true] at h
    rw [assignEach_cons h.1, List.map_cons, List.map_cons, each_eq h.2]
theorem Tgts.star {ts : List Expr} {is : List Nat} (h : Tgts X ts is) : ts.all noStar = true := by
  induction h with
  | nil => rfl
  | cons _ n _ ih => rw [List.all_cons, n, ih]; rfl
theorem scal_dp {K : PySem.W.Frag} {F : Hp} {v : V} {d : D} (h : Dp K F v d) (hs : scal d = true) : ∀ F', Dp K F' v d := fun F' => by
  cases h with
  | non => exact .non
  | bl b => exact .bl b
  | int i => exact .int i
  | str x => exact .str x
  | lst _ _ => cases hs
  | tup _ _ => cases hs
theorem all_ok {pins : List (Addr × Obj)} {H : Hp} {F : Hp} {v : V} {u : Value} {d : D} (hd : Dp X.K F v d) (ru : RelV v u) : ∀ {ts : List Expr} {is : List Nat}, Tgts X ts is → ts ≠ [] → ∀ {σ : L2.St} {r : Rho} {A : List Addr} {s : Shared}, Inv X pins σ H s → Wf X.K F H σ r A [] → (∀ i ∈ is, i < r.length) →
    wpAny (model X.prog X.w) X.A (assignAll u (ts.map fun t => assign t X.env)) (fun _ s' => ∃ σ' A', Inv X pins σ' H s' ∧ Wf X.K F H σ' (setN r (.fr d) is) A' [] ∧ (∀ p ∈ A', p ∈ A) ∧ ∀ j, j ∉ is → σ'[j]? = σ[j]?) X.xe s := by
  intro ts is h
  induction h with
  | nil => exact fun z => absurd rfl z
  | @cons t ts i is g n rest ih =>
    intro _ σ r A s I w hl
    have hlt : i < r.length := hl i List.mem_cons_self
    have one : ∀ (Q : Unit → Shared → Prop), (∀ s' σ' A', Inv X pins σ' H s' → Wf X.K F H σ' (r.set i (some (.fr d))) A' [] → (∀ p ∈ A', p ∈ A) → (∀ j, j ≠ i → σ'[j]? = σ[j]?) → Q () s') → wpAny (model X.prog X.w) X.A (assign t X.env u) Q X.xe s := fun Q k => by
      have b : bindV (.n i) (.fr d) r = some (r.set i (some (.fr d))) := by simp only [bindV, if_pos hlt]
      refine thn (g.run pins s σ H v u (fun σ' H' => ∃ A', H' = H ∧ Wf X.K F H σ' (r.set i (some (.fr d))) A' [] ∧ (∀ p ∈ A', p ∈ A) ∧ ∀ j, j ≠ i → σ'[j]? = σ[j]?) I ru ⟨r, F, A, [], [], .fr d, _, w, .inl (.fr hd), b, fun σ' A' w' m k' => ⟨A', rfl, w', fun p hp => by simpa using m p hp, fun j hj => k' j (by simpa [slT] using hj)⟩⟩) fun _ s' ⟨σ', H', I', A', e, w', m, k'⟩ => ?_
      subst e
      exact k s' σ' A' I' w' m k'
    cases ts with
    | nil =>
      cases rest
      refine one _ fun s' σ' A' I' w' m k' => ⟨σ', A', I', w', m, fun j hj => k' j (by simpa using hj)⟩
    | cons t2 ts2 =>
      show wpAny _ _ (do holding [u] (assign t X.env u); assignAll u ((t2 :: ts2).map fun t => assign t X.env)) _ _ _
      refine wpAny_bind (wpAny_holding (one _ fun s' σ' A' I' w' m k' => ?_))
      refine wpAny_mono (ih (by simp) I' w' (fun j hj => by rw [List.length_set]; exact hl j (List.mem_cons_of_mem _ hj))) (fun _ s2 ⟨σ2, A2, I2, w2, m2, k2⟩ => ⟨σ2, A2, I2, w2, fun p hp => m p (m2 p hp), fun j hj => ?_⟩) fun _ _ z => z
      simp only [List.mem_cons, not_or] at hj
      exact (k2 j hj.2).trans (k' j hj.1)
theorem s_asgs {ts : List Expr} {is : List Nat} (ht : Tgts X ts is) (h2 : ∃ t1 t2 r, ts = t1 :: t2 :: r) (he : PE X ex (TV X.K xp W C a)) (hw : swappedStores ts ex X.env = pure none) : PS X (.Assign ts ex pos) (TSt X.K xp W C io (.asgs is a)) := by
  refine ⟨fun pins s σ H D I ⟨r, F, A, w, q⟩ => ?_⟩
  simp only [evS] at q
  obtain ⟨t1, t2, rs, ets⟩ := h2
  refine wpAny_Assign_stores (thn (he.run pins s σ H (fun v H1 => ∃ σ' r1 F1 A1 d, σ' = σ ∧ Dp X.K F1 v d ∧ Wf X.K F1 H1 σ r1 A1 [] ∧ (∀ i ∈ is, i < r1.length) ∧ (∀ i ∈ is, i ∉ io) ∧ Stp F H A F1 H1 A1 ∧ PF X.K xp W io F1 H1 A1 σ D (.nx (setN r1 (.fr d) is))) I ⟨r, F, A, w, PF.flV q fun u r1 v F1 H1 A1 B s1 w1 rv q1 => ?_⟩) fun u s1 ⟨x, H1, I1, ru, σ', r1, F1, A1, d, e, hd, w1, hl, hio, s1', q1⟩ => ?_) (by subst ets; rfl) hw
  · split at q1
    · rename_i d
      split at q1
      · rename_i hc
        simp only [Bool.and_eq_true] at hc
        cases rv with
        | fr hd =>
          refine ⟨σ, r1, F1, A1, d, rfl, hd, w1, fun i hi => ?_, fun i hi z => ?_, s1, PF.pre s1 .refl q1⟩
          · have := all_mem hc.2 i hi
            simp only [Bool.and_eq_true, decide_eq_true_eq] at this
            exact this.2
          · have := all_mem hc.2 i hi
            simp only [Bool.and_eq_true, Bool.not_eq_true'] at this
            rw [List.contains_iff_mem.mpr z] at this
            exact Bool.noConfusion this.1
      · exact q1.elim
    · exact q1.elim
  · rw [each_eq ht.star]
    refine wpAny_mono (all_ok hd ru ht (by rw [ets]; simp) I1 w1 hl) (fun _ s2 ⟨σ2, A2, I2, w2, m2, k2⟩ => ⟨σ2, H1, I2, ?_⟩) fun _ _ z => z
    refine q1 σ2 F1 H1 A2 (Stp.refl.perm (fun p h => h) m2) w2 fun j hj => k2 j fun z => hio j z hj
/-! ### raise -/
theorem s_rais {c : Nat} {CA : Addr} {bmB : List Value} {B newId initId : String} {x : Str} (hc : X.calm = true) (tk : Takes X W) (Fb : ExcBaseFacts B newId initId bmB) (hq : PySem.W.excIn X.K CA bmB newId = true) (gC : X.mg x = some (.ref CA)) (kC : PySem.W.keepIn X.K (.ref CA) = true)
    (hr : Raises X (.ref CA)) (hg : Gl X x) (hx : (x == ("__debug__" : Str)) = false) (hcl : xp.cl c = .ref CA) (hb : C.bears c = false) (he : PE X ex (TOp X.K xp W C a)) (hn : noStar ex = true) :
    PS X (.Raise (some (.Call (.Name x p) [ex] [] pos2)) none pos) (TSt X.K xp W C io (.rais c a)) := by
  refine ps_imp (ps_raise hc tk (SkE.pmk_own1 Fb hq gC kC hr hg he (starEach_cons hn) hx)) fun D σ H ⟨r, F, A, w, q⟩ => ?_
  simp only [evS] at q
  refine ⟨r, F, A, w, PR.mono (PF.fl q) fun o r1 F1 H1 A1 s1 w1 q1 y oy => ?_⟩
  split at q1
  · split at q1
    · rw [hb] at q1
      have := q1 none σ F1 H1 A1 .refl w1 .refl rfl
      rw [hcl] at this
      exact this
    · exact q1.elim
  · exact q1.elim
/-! ### try -/
theorem PF.noEx {K : PySem.W.Frag} {W W' : WX} {F H : Hp} {A : List Addr} {σ : L2.St} {D : Ends} {f : Fl} (h : PF K xp W io F H A σ D (noEx f)) : PF K xp W' io F H A σ D (noEx f) := by
  cases f with
  | ex _ _ _ => exact h.elim
  | nx _ => exact h
  | rt _ _ => exact h
  | bk _ => exact h
  | ct _ => exact h
  | bad => exact h
theorem PF.noEx' {K : PySem.W.Frag} {W W' : WX} {F H : Hp} {A : List Addr} {σ : L2.St} {D : Ends} {f : Fl} (h : PF K xp W io F H A σ D (Ev.noEx f)) : PF K xp W' io F H A σ D f := by
  cases f with
  | ex _ _ _ => exact h.elim
  | nx _ => exact h
  | rt _ _ => exact h
  | bk _ => exact h
  | ct _ => exact h
  | bad => exact h
/-- what the classes of errors are -/
def SubOk (K : PySem.W.Frag) (xp : Xp) (C : Cf) : Prop := ∀ c h b, C.sub c h = some b → PySem.W.exmOne K (xp.cl c) (xp.cl h) = some b
abbrev Hs (K : PySem.W.Frag) (xp : Xp) (C : Cf) (io : List Nat) (hs : List (Nat × List S)) : List (Value × (Addr → Value → Option Addr → TS)) := hs.map fun h => (xp.cl h.1, fun _ _ _ => TSts K xp WF C io h.2)
theorem many_ok {K : PySem.W.Frag} {D : Ends} {c : Nat} {fs : List PyData} {r1 : Rho} {F' H' : Hp} {A' : List Addr} {σ' : L2.St} {d : Option Addr} (sub : SubOk K xp C) (w' : Wf K F' H' σ' r1 A' []) (x : XcR (xp.nm c) fs d H') :
    ∀ (hs : List (Nat × List S)), PF K xp W io F' H' A' σ' D (pickH C c (.ex c fs r1) (evHs C io hs r1)) → wMany K W D (Hs K xp C io hs) (xp.cl c) d σ' H'
  | [], q => q d σ' F' H' A' .refl w' .refl x
  | (h, ss) :: hs, q => by
    simp only [evHs, pickH] at q
    show ∃ b, PySem.W.exmOne K (xp.cl c) (xp.cl h) = some b ∧ _ ∧ _
    split at q
    · rename_i e
      exact ⟨true, sub _ _ _ e, fun _ a _ => ⟨r1, F', A', w', PF.noEx' q⟩, fun z => by cases z⟩
    · rename_i e
      exact ⟨false, sub _ _ _ e, fun z => (by cases z), fun _ => many_ok sub w' x hs q⟩
    · exact q.elim
inductive HdsR (X : Cx) (xp : Xp) (C : Cf) (io : List Nat) : List ExceptHandler → List (Nat × List S) → Prop
  | nil : HdsR X xp C io [] []
  | cons {x : Str} {c : Nat} {b₀ : Stmt} {suite : List Stmt} {np pos' : Pos} {ss : List S} {hds : List ExceptHandler} {hs : List (Nat × List S)} (hc : Names X x (xp.cl c))
      (hsu : ∀ (a : Addr) (pn : List (Addr × Obj)), PSs (X.suite a pn) (b₀ :: suite) (TSts X.K xp WF C io ss)) (r : HdsR X xp C io hds hs) : HdsR X xp C io (.ExceptHandler (some (.Name x np)) none (b₀ :: suite) pos' :: hds) ((c, ss) :: hs)
theorem HdsR.ok {hds : List ExceptHandler} {hs : List (Nat × List S)} (h : HdsR X xp C io hds hs) : HdsOk X hds (Hs X.K xp C io hs) := by
  induction h with
  | nil => exact .nil
  | cons hc hsu _ ih => exact .cons hc (fun a oe cls d pn _ _ => hsu a _) ih
theorem s_tryx {body : List Stmt} {h₀ : ExceptHandler} {hds : List ExceptHandler} {b : List S} {hs : List (Nat × List S)} (st : X.stack = X.env :: X.outer) (hf : X.env.frame = some X.env.locals) (tk : Takes X W) (sub : SubOk X.K xp C)
    (hb : ∀ (W : WX) (pn : List (Addr × Obj)) (xe : Value → Shared → Prop), Takes (X.tr pn xe) W → PassesOwn (model X.prog X.w) X.A X.env xe → PSs (X.tr pn xe) body (TSts X.K xp W C io b))
    (hh : HdsR X xp C io (h₀ :: hds) hs) : PS X (.Try body (h₀ :: hds) [] [] pos) (TSt X.K xp W C io (.tryx b hs)) := by
  refine ps_imp (ps_try_many st hf tk hb hh.ok) fun D σ H ⟨r, F, A, w, q⟩ => ⟨r, F, A, w, ?_⟩
  simp only [evS] at q
  cases e : evSs C io b r with
  | nx r1 => rw [e] at q; exact q
  | rt _ _ => rw [e] at q; exact q
  | bk _ => rw [e] at q; exact q
  | ct _ => rw [e] at q; exact q
  | bad => rw [e] at q; exact q
  | ex c fs r1 =>
    rw [e] at q
    exact fun d σ' F' H' A' s' w' k' x => many_ok sub w' x hs (PF.pre s' k' q)
end
end Ev

/-! Ey3: list comprehensions of two clauses. -/
namespace Ev
open PySem PySem.Spec PyProof.Rows L2
section
variable {X : Cx} {xp : Xp} {W : WX} {C : Cf} {elt tg iter tg2 iter2 : Expr} {scope : Scope} {a b c : E} {pos : Pos}
theorem lc2_ok {t t2 : Tg} {σ : L2.St} {H : Hp} {Q : VK} {F : Hp} {A : List Addr} {r : Rho} (w : Wf X.K F H σ r A []) (q : PV X.K xp W F H A σ Q ((evI C a r).bind fun m r1 => lc2Run t t2 (evI C c) (evE C b) m r1)) :
    tLc2 (TIt X.K xp W C t a) (TGv X.K t) (TTf X.K xp fun r => .ok true r) (TIt X.K xp WF C t2 c) (TGv X.K t2) (TTf X.K xp fun r => .ok true r) (TV X.K xp WF C b) (slT t ++ slT t2) (slT t2) σ H Q := by
  obtain ⟨vs, hvs⟩ : ∃ vs, vs = slT t ++ slT t2 := ⟨_, rfl⟩
  rw [← hvs]
  refine ⟨r, F, A, w, PR.mono (PV.bind q) fun m r1 F1 H1 A1 s1 w1 q1 J B A' pm rest slr ok D hD => ?_⟩
  obtain ⟨ok1, ok2, ok3⟩ := ok
  unfold lc2Run at q1
  rw [← hvs] at q1
  split at q1
  · rename_i hcond
    simp only [Bool.and_eq_true] at hcond
    obtain ⟨hno, hsl⟩ := hcond
    split at q1
    · rename_i accF rF hloop
      have nB : (B ++ A').Nodup := pm.nodup_iff.mp w1.nd
      have w0 : Wf X.K F1 H1 σ (wipeR r1 m.sl) A' B := ⟨rest, nB, fun p hp => w1.dis p (pm.mem_iff.mpr hp), w1.sm⟩
      obtain ⟨w2, s2⟩ := w0.alloc (o := .lst []) slr.live hD
      obtain ⟨A0, w3, m3⟩ := wipe_rho w2 vs
      refine ⟨fun i n H' => ∃ r' F' A'' accV acc, Stp F1 (upd H1 D (.lst [])) (D :: A0) F' H' (D :: A'') ∧ Wf X.K F' H' (L2.wipe σ vs) r' A'' (D :: B) ∧ H' D = some (.lst accV) ∧ DpAll X.K F' accV acc ∧ lc2Loop t t2 vs (evI C c) (evE C b) (m.xs.drop i) r' acc = .ok accF rF ∧ n = m.xs.length - i ∧ i ≤ m.xs.length,
        ⟨_, _, F1, A0, [], [], .refl, w3, upd_same, .nil, hloop, rfl, Nat.zero_le _⟩, ?_⟩
      rintro i n H' ⟨r', F', A'', accV, acc, s', w', hDl, dacc, hl, rfl, hle⟩
      have szOf : ∀ {F' H' : Hp} {A'' : List Addr}, Stp F1 (upd H1 D (.lst [])) (D :: A0) F' H' (D :: A'') → Same F' H' → Same (ext F1 H1 B) H' := fun {F' H' A''} s' sm p o e => by
        by_cases hb : p ∈ B
        · rw [ext_in hb] at e
          have hp : p ≠ D := fun z => by rw [z, hD] at e; cases e
          exact s'.hh p o (by rw [upd_ne hp]; exact e) fun z => (List.mem_cons.mp z).elim hp fun z => (List.nodup_append.mp nB).2.2 p hb p (m3 p z) rfl
        · rw [ext_out hb] at e
          exact sm p o (s'.ff p o e)
      have sz := szOf s' w'.sm
      have liveOf : ∀ {H' : Hp} {u}, H' D = some u → Same (ext F1 H1 B) H' → ∀ q ∈ D :: B, ∃ u, H' q = some u := fun {H' u} hDl sz q hq => by
        rcases List.mem_cons.mp hq with z | z
        · exact ⟨_, z ▸ hDl⟩
        · obtain ⟨u, hu⟩ := slr.live q z
          exact ⟨u, sz q u (by rw [ext_in z]; exact hu)⟩
      by_cases hlt : i < m.xs.length
      · refine .inr ⟨ok1 i H' sz hlt, fun H3 => ∃ r' F' A'' accV acc, Stp F1 (upd H1 D (.lst [])) (D :: A0) F' H3 (D :: A'') ∧ Wf X.K F' H3 (L2.wipe σ vs) r' A'' (D :: B) ∧ H3 D = some (.lst accV) ∧ DpAll X.K F' accV acc ∧ lc2Loop t t2 vs (evI C c) (evE C b) (m.xs.drop (i + 1)) r' acc = .ok accF rF, fun H3 ⟨r', F', A'', accV, acc, h1, h2, h3, h4, h5⟩ => ⟨m.xs.length - (i + 1), by omega, r', F', A'', accV, acc, h1, h2, h3, h4, h5, rfl, hlt⟩, fun x H'' y => ?_⟩
        obtain ⟨d, hd, nw⟩ := ok2 i H' x H'' sz hlt y
        have hdr : m.xs.drop i = d :: m.xs.drop (i + 1) := by
          rw [List.drop_eq_getElem_cons hlt]
          rw [List.getElem?_eq_getElem hlt] at hd
          cases hd
          rfl
        rw [hdr] at hl
        simp only [lc2Loop] at hl
        split at hl
        · rename_i r2 e2
          have liveB := liveOf hDl sz
          obtain ⟨F'', u0, s'', w'', dx, eb⟩ := item_of nw s'.ff w'.nil
          have wh : Wf X.K F'' H'' (L2.wipe σ vs) r' A'' (D :: B) := w'.after (B' := []) liveB s'' w''
          have kD : ∀ q ∈ D :: B, H'' q = H' q := s''.keeps w' liveB
          have liveB2 : ∀ q ∈ D :: B, ∃ u, H'' q = some u := fun q hq => by
            obtain ⟨u, hu⟩ := liveB q hq
            exact ⟨u, (kD q hq).trans hu⟩
          refine ⟨r', F'', A'', [], D :: B, u0, r2, wh, dx, (eb r').trans e2, fun σ2 A2 w4 m4 k4 => ?_⟩
          have in1 : ∀ j, j ∉ vs → j ∉ slT t := fun j hj z => hj (by rw [hvs]; exact List.mem_append_left _ z)
          have eσ : L2.wipe σ2 vs = L2.wipe σ vs := by
            have hl2 : σ2.length = (L2.wipe σ vs).length := by rw [w4.len, bindV_len ((eb r').trans e2), ← w'.len]
            rw [wipe_eq (σ' := σ) (by rw [hl2, L2.wipe_length]) fun j hj => by rw [k4 j (in1 j hj), L2.wipe_out hj]]
          refine ⟨eσ, ⟨r2, F'', A2, w4.nil, fun F5 H5 A5 s5 w5 => ?_⟩⟩
          refine iteT ?_
          have wa : Wf X.K F5 H5 σ2 r2 A5 (D :: B) := w4.after (B' := []) liveB2 s5 w5
          have k5 : ∀ q ∈ D :: B, H5 q = H'' q := s5.keeps w4 liveB2
          have hD5 : H5 D = some (.lst accV) := by rw [k5 D List.mem_cons_self, kD D List.mem_cons_self]; exact hDl
          have st5 : Stp F' H' A'' F5 H5 A5 := (s''.perm (fun p h => h) m4).trans s5
          have sT5 : Stp F1 (upd H1 D (.lst [])) (D :: A0) F5 H5 (D :: A5) := s'.trans (st5.frame (B := [D]))
          have live5 := liveOf hD5 (szOf sT5 wa.sm)
          cases es : evI C c r2 with
          | bad => rw [es] at hl; cases hl
          | ex _ _ _ => rw [es] at hl; cases hl
          | ok m2 r3 =>
            rw [es] at hl
            simp only [Res.bind] at hl
            split at hl
            · rename_i hm2
              rw [List.isEmpty_iff] at hm2
              refine ⟨r2, F5, A5, w5, ?_⟩
              rw [es]
              intro F6 H6 A6 s6 w6 J1 B1 A1' pm1 rest1 slr1 okk
              rw [hm2] at slr1
              cases slr1
              rw [ext_nil] at okk
              obtain ⟨o1, o2, o3⟩ := okk
              have wb : Wf X.K F6 H6 σ2 r3 A6 (D :: B) := wa.after (B' := []) live5 s6 w6
              have k6 : ∀ q ∈ D :: B, H6 q = H5 q := s6.keeps wa live5
              have hD6 : H6 D = some (.lst accV) := (k6 D List.mem_cons_self).trans hD5
              have sT6 : Stp F1 (upd H1 D (.lst [])) (D :: A0) F6 H6 (D :: A6) := sT5.trans (s6.frame (B := [D]))
              cases e3 : lcLoop t2 (fun r => .ok true r) (evE C b) m2.xs (wipeR r3 (slT t2)) acc with
              | bad => rw [e3] at hl; cases hl
              | ex _ _ _ => rw [e3] at hl; cases hl
              | ok acc' r4 =>
                rw [e3] at hl
                simp only at hl
                obtain ⟨A7, w7, m7⟩ := wipe_rho wb (slT t2)
                have sT7 : Stp F1 (upd H1 D (.lst [])) (D :: A0) F6 H6 (D :: A7) := sT6.perm (fun p h => h) fun p hp => (List.mem_cons.mp hp).elim (fun z => z ▸ List.mem_cons_self) fun z => List.mem_cons_of_mem _ (m7 p z)
                have out2 : ∀ j, j ∉ vs → j ∉ slT t2 := fun j hj z => hj (by rw [hvs]; exact List.mem_append_right _ z)
                have eσ2 : ∀ {τ : L2.St}, τ.length = (L2.wipe σ2 (slT t2)).length → (∀ j, j ∉ slT t2 → τ[j]? = (L2.wipe σ2 (slT t2))[j]?) → L2.wipe τ (slT t2) = L2.wipe σ2 (slT t2) := fun {τ} h1 h2 => wipe_eq (σ' := σ2) (by rw [h1, L2.wipe_length]) fun j hj => by rw [h2 j hj, L2.wipe_out hj]
                refine ⟨fun j k H7 => ∃ r7 F7 A8 accV7 acc7, Stp F1 (upd H1 D (.lst [])) (D :: A0) F7 H7 (D :: A8) ∧ Same F6 F7 ∧ Wf X.K F7 H7 (L2.wipe σ2 (slT t2)) r7 A8 (D :: B) ∧ H7 D = some (.lst accV7) ∧ DpAll X.K F7 accV7 acc7 ∧ lcLoop t2 (fun r => .ok true r) (evE C b) (m2.xs.drop j) r7 acc7 = .ok acc' r4 ∧ k = m2.xs.length - j ∧ j ≤ m2.xs.length,
                  ⟨_, _, F6, A7, accV, acc, sT7, .refl _, w7, hD6, dpAll_mono (st5.ff.trans s6.ff) dacc, e3, rfl, Nat.zero_le _⟩, ?_⟩
                rintro j k H7 ⟨r7, F7, A8, accV7, acc7, s7, sf, wj, hD7, d7, hl7, rfl, hle7⟩
                have sz7 := szOf s7 wj.sm
                have live7 := liveOf hD7 sz7
                by_cases hlt7 : j < m2.xs.length
                · refine .inr ⟨o1 j H7 (sf.trans wj.sm) hlt7, _, fun H8 h => ⟨m2.xs.length - (j + 1), by omega, h⟩, fun x2 H8 y2 => ?_⟩
                  obtain ⟨d2, hd2, nw2⟩ := o2 j H7 x2 H8 (sf.trans wj.sm) hlt7 y2
                  have hdr2 : m2.xs.drop j = d2 :: m2.xs.drop (j + 1) := by
                    rw [List.drop_eq_getElem_cons hlt7]
                    rw [List.getElem?_eq_getElem hlt7] at hd2
                    cases hd2
                    rfl
                  rw [hdr2] at hl7
                  simp only [lcLoop] at hl7
                  split at hl7
                  · rename_i r8 e8
                    obtain ⟨F8, u8, s8, w8, dx8, eb8⟩ := item_of nw2 sf wj.nil
                    have wh8 : Wf X.K F8 H8 (L2.wipe σ2 (slT t2)) r7 A8 (D :: B) := wj.after (B' := []) live7 s8 w8
                    have k8 : ∀ q ∈ D :: B, H8 q = H7 q := s8.keeps wj live7
                    have live8 : ∀ q ∈ D :: B, ∃ u, H8 q = some u := fun q hq => by
                      obtain ⟨u, hu⟩ := live7 q hq
                      exact ⟨u, (k8 q hq).trans hu⟩
                    refine ⟨r7, F8, A8, [], D :: B, u8, r8, wh8, dx8, (eb8 r7).trans e8, fun σ3 A9 w9 m9 k9 => ?_⟩
                    have eσ3 : L2.wipe σ3 (slT t2) = L2.wipe σ2 (slT t2) := eσ2 (by rw [w9.len, bindV_len ((eb8 r7).trans e8), ← wj.len]) k9
                    refine ⟨eσ3, ⟨r8, F8, A9, w9.nil, fun F10 H10 A10 s10 w10 => ?_⟩⟩
                    refine iteT ?_
                    have wa10 : Wf X.K F10 H10 σ3 r8 A10 (D :: B) := w9.after (B' := []) live8 s10 w10
                    have k10 : ∀ q ∈ D :: B, H10 q = H8 q := s10.keeps w9 live8
                    have hD10 : H10 D = some (.lst accV7) := by rw [k10 D List.mem_cons_self, k8 D List.mem_cons_self]; exact hD7
                    have st10 : Stp F7 H7 A8 F10 H10 A10 := (s8.perm (fun p h => h) m9).trans s10
                    have sT10 : Stp F1 (upd H1 D (.lst [])) (D :: A0) F10 H10 (D :: A10) := s7.trans (st10.frame (B := [D]))
                    have live10 := liveOf hD10 (szOf sT10 wa10.sm)
                    simp only [Res.bind] at hl7
                    rw [if_pos trivial] at hl7
                    cases ee : evE C b r8 with
                    | bad => rw [ee] at hl7; cases hl7
                    | ex _ _ _ => rw [ee] at hl7; cases hl7
                    | ok u r9 =>
                      rw [ee] at hl7
                      simp only at hl7
                      split at hl7
                      · rename_i hlen
                        refine ⟨r8, F10, A10, w10, ?_⟩
                        rw [ee]
                        intro y F11 H11 A11 B11 s11 w11 rv
                        have k11 : ∀ q ∈ D :: B, H11 q = H10 q := s11.keeps wa10 live10
                        have wc : Wf X.K F11 H11 σ3 r9 A11 (B11 ++ (D :: B)) := wa10.after live10 s11 w11
                        obtain ⟨w12, s12⟩ := wc.freeze rv.live
                        have dis11 : ∀ p ∈ B11, F11 p = none := fun p hp => w11.dis p (List.mem_append_left _ hp)
                        have dy : Dp X.K (ext F11 H11 B11) y (fz u) := RvR.frz (ext_same dis11) (fun p hp => ext_in hp) rv
                        have hD11 : H11 D = some (.lst accV7) := (k11 D List.mem_cons_self).trans hD10
                        have da : DpAll X.K (ext F11 H11 B11) accV7 acc7 := dpAll_mono ((st10.ff.trans s11.ff).trans (ext_same dis11)) d7
                        refine ⟨accV7, hD11, by rw [dpAll_len da]; exact hlen, ?_⟩
                        obtain ⟨A13, w13, m13⟩ := wipe_rho w12 (slT t2)
                        rw [eσ3] at w13
                        have nD13 : ∀ q ∈ B ++ A13, q ≠ D := fun q hq z => by
                          subst z
                          exact (List.nodup_cons.mp w13.nd).1 hq
                        have fD : ext F11 H11 B11 D = none := w13.dis D List.mem_cons_self
                        have w14 : Wf X.K (ext F11 H11 B11) (upd H11 D (.lst (accV7 ++ [y]))) (L2.wipe σ2 (slT t2)) (wipeR r9 (slT t2)) A13 (D :: B) :=
                          ⟨w13.env.mono (.refl _) fun q hq => upd_ne (nD13 q (List.mem_append_right _ hq)), w13.nd, w13.dis, fun p o e => by rw [upd_ne (ne_of_none e fD)]; exact w13.sm p o e⟩
                        have s13 : Stp F10 H10 (D :: A10) (ext F11 H11 B11) H11 (D :: A13) := by
                          have z1 := s11.frame (B := [D])
                          have z2 : Stp F11 H11 (D :: (B11 ++ A11)) (ext F11 H11 B11) H11 (D :: A11) := ⟨s12.ff, fun p h1 _ h3 => by rw [ext_out fun z => h3 (List.mem_cons_of_mem _ (List.mem_append_left _ z))]; exact h1, fun _ _ h _ => h, fun p hp => .inl ((List.mem_cons.mp hp).elim (fun z => z ▸ List.mem_cons_self) fun z => List.mem_cons_of_mem _ (List.mem_append_right _ z))⟩
                          exact (z1.trans z2).perm (fun p h => h) fun p hp => (List.mem_cons.mp hp).elim (fun z => z ▸ List.mem_cons_self) fun z => List.mem_cons_of_mem _ (m13 p z)
                        exact ⟨_, _, A13, accV7 ++ [y], acc7 ++ [fz u], (sT10.trans s13).trans (.own1 fun p hp => upd_ne hp), sf.trans ((st10.ff.trans s11.ff).trans (ext_same dis11)), w14, upd_same, dpAll_app da (.cons dy .nil), hl7, rfl, hlt7⟩
                      · cases hl7
                  · cases hl7
                · refine .inl ⟨o3 j H7 (sf.trans wj.sm) (by omega), ?_⟩
                  rw [List.drop_eq_nil_of_le (by omega)] at hl7
                  simp only [lcLoop, Res.ok.injEq] at hl7
                  obtain ⟨e4, e5⟩ := hl7
                  subst e4 e5
                  obtain ⟨A9, w9, m9⟩ := wipe_rho wj vs
                  have ee : L2.wipe (L2.wipe σ2 (slT t2)) vs = L2.wipe σ vs := by
                    rw [← eσ]
                    exact wipe_eq (L2.wipe_length _ _) fun j hj => L2.wipe_out (out2 j hj)
                  rw [ee] at w9
                  exact ⟨_, F7, A9, accV7, acc7, s7.perm (fun p h => h) fun p hp => (List.mem_cons.mp hp).elim (fun z => z ▸ List.mem_cons_self) fun z => List.mem_cons_of_mem _ (m9 p z), w9, hD7, d7, hl⟩
            · cases hl
        · cases hl
      · refine .inl ⟨ok3 i H' sz (by omega), ?_⟩
        rw [List.drop_eq_nil_of_le (by omega)] at hl
        simp only [lc2Loop, Res.ok.injEq] at hl
        obtain ⟨e1, e2⟩ := hl
        subst e1 e2
        have inB : ∀ p, p ∈ B → p ∈ A1 := fun p z => pm.mem_iff.mpr (List.mem_append_left _ z)
        have in0 : ∀ p, p ∈ A0 → p ∈ A1 := fun p z => pm.mem_iff.mpr (List.mem_append_right _ (m3 p z))
        obtain ⟨A3, w4, m4⟩ := back_wipe (σ := σ) (r0 := r1) (vs := vs) s'.ff (L2.wipe_length _ _) (fun j hj => L2.wipe_out hj) (fun j hj => by
          have := all_mem hno j hj
          split at this
          · rename_i d e
            obtain ⟨v, g1, g2⟩ := w1.slot_fr e
            exact .inr ⟨d, v, e, g1, g2⟩
          · rename_i e
            exact .inl e
          · cases this) w'
        obtain ⟨A4, w5, m5⟩ := back_all (B' := [D]) slr s'.ff (fun p hp => by
          obtain ⟨u, hu⟩ := slr.live p hp
          rw [hu]
          exact sz p u (by rw [ext_in hp]; exact hu)) w4 (fun _ _ => rfl)
        refine q1 (.ref D) F' H' A4 [D] ⟨s'.ff, fun p h1 h2 h3 => ?_, fun p o h1 h2 => ?_, fun p hp => ?_⟩ w5 (.ow (.lst hDl dacc))
        · have hp : p ≠ D := fun z => h2 (z ▸ hD)
          exact s'.new p h1 (by rw [upd_ne hp]; exact h2) fun z => (List.mem_cons.mp z).elim hp fun z => h3 (in0 p z)
        · have hp : p ≠ D := fun z => by rw [z, hD] at h1; cases h1
          exact s'.hh p o (by rw [upd_ne hp]; exact h1) fun z => (List.mem_cons.mp z).elim hp fun z => h2 (in0 p z)
        · rcases List.mem_append.mp hp with z | z
          · have : p = D := List.mem_singleton.mp z
            exact .inr (this ▸ hD)
          · rcases List.mem_append.mp (m5 p z) with z | z
            · exact .inl (inB p z)
            · rcases s'.own p (List.mem_cons_of_mem _ (m4 p z)) with y | y
              · exact (List.mem_cons.mp y).elim (fun e => .inr (e ▸ hD)) fun e => .inl (in0 p e)
              · by_cases hp : p = D
                · exact .inr (hp ▸ hD)
                · rw [upd_ne hp] at y
                  exact .inr y
    · exact q1.elim
  · exact q1.elim
theorem yes2 {Y : Cx} {scope : Scope} {env : PySem.Env} {s : Shared} {H : Hp} {fp : List Addr} : PTs (Y.blk s H scope env fp) [] (TTf Y.K xp fun r => .ok true r) := ⟨fun pins s' σ H Q I h => (pts_nil (X := Y.blk _ _ scope _ fp)).run pins s' σ H Q I (ttf_yes (X := Y) h)⟩
theorem sV_lc2 {t t2 : Tg} (hc : X.calm = true) (hN : X.N.Nodup) (hi : PI X tg iter (TIt X.K xp W C t a)) (ok : BlkOk X.N X.env.scope scope (ownN X.N (slT t ++ slT t2)))
    (hg : ∀ (s : Shared) (H : Hp) (D : Addr) (cl : List (Str × Addr)) (fp : List Addr), PG (X.blk s H scope (compEnvC scope cl D X.env) fp) tg (TGv X.K t))
    (hi2 : ∀ (s : Shared) (H : Hp) (D : Addr) (cl : List (Str × Addr)) (fp : List Addr), PI (X.blk s H scope (compEnvC scope cl D X.env) fp) tg2 iter2 (TIt X.K xp WF C t2 c))
    (hg2 : ∀ (s : Shared) (H : Hp) (D : Addr) (cl : List (Str × Addr)) (fp : List Addr), PG (X.blk s H scope (compEnvC scope cl D X.env) fp) tg2 (TGv X.K t2))
    (he : ∀ (s : Shared) (H : Hp) (D : Addr) (cl : List (Str × Addr)) (fp : List Addr), PE (X.blk s H scope (compEnvC scope cl D X.env) fp) elt (TV X.K xp WF C b)) (hs : ∀ x, foldedSetIterable iter X.env x = pure x) (hs2 : ∀ env x, foldedSetIterable iter2 env x = pure x) :
    PE X (.ListComp elt [⟨tg, iter, [], 0⟩, ⟨tg2, iter2, [], 0⟩] scope pos) (TV X.K xp W C (.lc2 t a t2 c b)) := by
  have := pe_lc2 (pos := pos) (vs1 := slT t2) (tt := TTf X.K xp fun r => .ok true r) (tt1 := TTf X.K xp fun r => .ok true r) hc hN hi ok (by rw [ownN_ix]; exact fun i hi => List.mem_append_right _ hi) hg (fun s H D cl fp => yes2) hi2 hg2 (fun s H D cl fp => yes2) he hs hs2
  rw [ownN_ix] at this
  refine pe_imp this fun σ H Q ⟨r, F, A, w, q⟩ => ?_
  simp only [evE] at q
  exact lc2_ok w q
theorem s_setLc2 {i : Nat} {y : Str} {py spos : Pos} {t t2 : Tg} {io : List Nat} (hc : X.calm = true) (hN : X.N.Nodup) (hy : X.N[i]? = some y) (hyl : X.env.scope.names.lookup y = some .local)
    (hsw : swapsWith (.ListComp elt [⟨tg, iter, [], 0⟩, ⟨tg2, iter2, [], 0⟩] scope pos) (some (.Name y py)) spos.line X.env = pure true) (hi : PI X tg iter (TIt X.K xp W C t a)) (ok : BlkOk X.N X.env.scope scope (ownN X.N (slT t ++ slT t2)))
    (hg : ∀ (s : Shared) (H : Hp) (D : Addr) (cl : List (Str × Addr)) (fp : List Addr), PG (X.blk s H scope (compEnvC scope cl D X.env) fp) tg (TGv X.K t))
    (hi2 : ∀ (s : Shared) (H : Hp) (D : Addr) (cl : List (Str × Addr)) (fp : List Addr), PI (X.blk s H scope (compEnvC scope cl D X.env) fp) tg2 iter2 (TIt X.K xp WF C t2 c))
    (hg2 : ∀ (s : Shared) (H : Hp) (D : Addr) (cl : List (Str × Addr)) (fp : List Addr), PG (X.blk s H scope (compEnvC scope cl D X.env) fp) tg2 (TGv X.K t2))
    (he : ∀ (s : Shared) (H : Hp) (D : Addr) (cl : List (Str × Addr)) (fp : List Addr), PE (X.blk s H scope (compEnvC scope cl D X.env) fp) elt (TV X.K xp WF C b)) (hs : ∀ x, foldedSetIterable iter X.env x = pure x) (hs2 : ∀ env x, foldedSetIterable iter2 env x = pure x) :
    PS X (.Assign [.Name y py] (.ListComp elt [⟨tg, iter, [], 0⟩, ⟨tg2, iter2, [], 0⟩] scope pos) spos) (TSt X.K xp W C io (.asg (.n i) (.lc2 t a t2 c b))) := by
  have := ps_setLc2 (vs1 := slT t2) (tt := TTf X.K xp fun r => .ok true r) (tt1 := TTf X.K xp fun r => .ok true r) hc hN hy hyl hsw hi ok (by rw [ownN_ix]; exact fun i hi => List.mem_append_right _ hi) hg (fun s H D cl fp => yes2) hi2 hg2 (fun s H D cl fp => yes2) he hs hs2
  rw [ownN_ix] at this
  refine s_set_of this fun σ H Q ⟨r, F, A, w, q⟩ => ?_
  simp only [evE] at q
  exact lc2_ok w q
end
end Ev

/-! Ey4: except .. as e. -/
namespace Ev
open PySem PySem.Spec PyProof.Rows L2
section
variable {X : Cx} {N : List Str} {sc : Scope} {xp : Xp} {W : WX} {C : Cf} {io : List Nat} {pos p pos2 : Pos}
/-- isinstance of the error that is handled -/
def KitOk (K : PySem.W.Frag) (xp : Xp) (C : Cf) : Prop := ∀ c h b, C.sub c h = some b → ∃ D, xp.cl c = .ref D ∧ ExcC K D ∧ PySem.W.kitOne K (.ref D) (xp.cl h) = some b
/-- .. at slot i -/
def JSt (K : PySem.W.Frag) (xp : Xp) (C : Cf) (io : List Nat) (i : Nat) (a : Addr) (s : S) : TS := fun D σ H => σ[i]? = some (some (.ref a)) ∧ TSt K xp WF C (i :: io) s D σ H
def JSts (K : PySem.W.Frag) (xp : Xp) (C : Cf) (io : List Nat) (i : Nat) (a : Addr) (ss : List S) : TS := fun D σ H => σ[i]? = some (some (.ref a)) ∧ TSts K xp WF C (i :: io) ss D σ H
theorem j_of {st : Stmt} {i : Nat} {a : Addr} {s : S} (h : PS X st (TSt X.K xp WF C (i :: io) s)) : PS X st (JSt X.K xp C io i a s) := ps_imp h fun _ _ _ q => q.2
theorem j_nil {i : Nat} {a : Addr} : PSs X [] (JSts X.K xp C io i a []) := pss_imp ss_nil fun _ _ _ q => q.2
theorem j_cons {st : Stmt} {sts : List Stmt} {i : Nat} {a : Addr} {s : S} {ss : List S} (h1 : PS X st (JSt X.K xp C io i a s)) (h2 : PSs X sts (JSts X.K xp C io i a ss)) : PSs X (st :: sts) (JSts X.K xp C io i a (s :: ss)) := by
  refine pss_imp (pss_cons h1 h2) fun D σ H ⟨j, r, F, A, w, q⟩ => ⟨j, r, F, A, w, ?_⟩
  simp only [evSs] at q
  cases e : evS C (i :: io) s r with
  | nx r1 =>
    rw [e] at q
    exact fun σ' F' H' A' s' w' k' => ⟨(k' i List.mem_cons_self).trans j, r1, F', A', w', PF.pre s' k' q⟩
  | rt _ _ => rw [e] at q; exact q
  | bk _ => rw [e] at q; exact q
  | ct _ => rw [e] at q; exact q
  | ex _ _ _ => rw [e] at q; exact q
  | bad => rw [e] at q; exact q
theorem j_isX {a : Addr} {oe : Obj} {pn : List (Addr × Obj)} {i j h c : Nat} {n y T : Str} {py pe pT : Pos} {fs : List PyData} (hz : Zc (xp.cl c) none oe) (hf : ∃ vs, oe.data = .fields vs) (kit : KitOk X.K xp C) (hN : X.N.Nodup) (hj : X.N[j]? = some y) (hx : Loc X.env.scope y) (hfn : X.fn y = true ∨ X.env.scope.names.lookup y = some .local)
    (hi : PE (X.suite a ((a, oe) :: pn)) (.Name n pe) (tVar i)) (hg : Gl X "isinstance") (hm : X.mg "isinstance" = none) (hT : ∃ v, PE (X.suite a ((a, oe) :: pn)) (.Name T pT) (tC v) ∧ ∀ u, RelV v u → u = xp.cl h) :
    PS (X.suite a ((a, oe) :: pn)) (.Assign [.Name y py] (.Call (.Name "isinstance" p) [.Name n pe, .Name T pT] [] pos2) pos) (JSt X.K xp ⟨C.call, C.G, C.w, C.bears, C.sub, c, fs⟩ io i a (.asg (.n j) (.isX h))) := by
  obtain ⟨v, hT, hv⟩ := hT
  cases e : C.sub c h with
  | none =>
    refine ps_imp ps_never ?_
    rintro D σ H ⟨_, r, F, A, w, q⟩
    simp only [evS, evE, e] at q
    exact q
  | some b =>
    obtain ⟨Da, e1, e2, e3⟩ := kit c h b e
    rw [e1] at hz
    refine ps_imp (ps_set (X := X.suite a ((a, oe) :: pn)) hN hj hx (pe_callB (call_isE e2 hz hf) hg hm boot_isi (pa_cons hi (pa_cons hT pa_nil rfl) rfl) (by decide +kernel) (by decide +kernel) rfl rfl) rfl hfn) fun D σ H ⟨hs, r, F, A, w, q⟩ => ?_
    simp only [evS, evE, e] at q
    refine ⟨.ref a, hs, v, xp.cl h, b, rfl, hv, e3, ?_⟩
    simp only [Res.fl] at q
    split at q
    · rename_i hf
      simp only [bindV] at q
      split at q
      · rename_i r2 e4
        split at e4
        · rename_i hlt
          cases e4
          have w1' : Wf X.K F H σ r A ([] ++ []) := w
          obtain ⟨A', w', m⟩ := w1'.store (v := .bl b) hlt (.fr (.bl b))
          exact q _ F H A' (Stp.refl.perm (fun p h => h) m) w' (.set fun hio => freeT_no hf j hio (by simp [slT]))
        · cases e4
      · exact q.elim
    · exact q.elim
theorem wf_clear {K : PySem.W.Frag} {F H : Hp} {A B : List Addr} {σ : L2.St} {r : Rho} (w : Wf K F H σ r A B) (i : Nat) : ∃ A0, Wf K F H (σ.set i none) (r.set i none) A0 B ∧ ∀ p ∈ A0, p ∈ A := wipe_rho w [i]
theorem wf_any {K : PySem.W.Frag} {F H : Hp} {A : List Addr} {σ : L2.St} {r : Rho} (w : Wf K F H σ r A []) (i : Nat) (s : Option V) : ∃ A0, Wf K F H (σ.set i s) (r.set i none) A0 [] ∧ ∀ p ∈ A0, p ∈ A := by
  obtain ⟨B1, A1, h1, h2⟩ := w.env.drop i
  have sub : ∀ p ∈ A1, p ∈ A := fun p hp => h1.mem_iff.mpr (List.mem_append_right _ hp)
  exact ⟨A1, ⟨rho_any h2, (List.nodup_append.mp (h1.nodup_iff.mp w.nd)).2.1, fun p hp => w.dis p (sub p hp), w.sm⟩, sub⟩
theorem kp_set {σ σ' : L2.St} {i : Nat} {s : Option V} (k : Kp (i :: io) (σ.set i s) σ') (hi : i ∉ io) : Kp io σ (σ'.set i none) := fun j hj => by
  have hne : i ≠ j := fun z => hi (z ▸ hj)
  rw [List.getElem?_set_ne hne, k j (List.mem_cons_of_mem _ hj), List.getElem?_set_ne hne]
theorem s_trya {body suite : List Stmt} {b₀ : Stmt} {n x : Str} {np pos' : Pos} {b hs : List S} {k i : Nat} (st : X.stack = X.env :: X.outer) (hf : X.env.frame = some X.env.locals) (tk : Takes X W) (sub : SubOk X.K xp C) (hN : X.N.Nodup) (hi : X.N[i]? = some n) (hln : X.env.kindOf n = some .local) (hc : Names X x (xp.cl k))
    (hb : ∀ (W : WX) (pn : List (Addr × Obj)) (xe : Value → Shared → Prop), Takes (X.tr pn xe) W → PassesOwn (model X.prog X.w) X.A X.env xe → PSs (X.tr pn xe) body (TSts X.K xp W C io b))
    (hsu : ∀ (a : Addr) (oe : Obj) (pn : List (Addr × Obj)) (c : Nat) (fs : List PyData), Zc (xp.cl c) none oe → (∃ vs, oe.data = .fields vs) → PSs (X.suite a ((a, oe) :: pn)) (b₀ :: suite) (JSts X.K xp ⟨C.call, C.G, C.w, C.bears, C.sub, c, fs⟩ io i a hs)) :
    PS X (.Try body [.ExceptHandler (some (.Name x np)) (some n) (b₀ :: suite) pos'] [] [] pos) (TSt X.K xp W C io (.trya b k i hs)) := by
  refine ps_imp (ps_try_as (ts := fun a cls d D σ H => ∃ c fs, cls = xp.cl c ∧ d = none ∧ JSts X.K xp ⟨C.call, C.G, C.w, C.bears, C.sub, c, fs⟩ io i a hs D σ H) st hf hN hi hln hc tk hb fun a oe cls d pn hz hfd => ⟨fun pins s σ H D I ⟨c, fs, e1, e2, q⟩ => ?_⟩) fun D σ H ⟨r, F, A, w, q⟩ => ⟨r, F, A, w, ?_⟩
  · subst e1 e2
    exact (hsu a oe pn c fs hz hfd).run pins s σ H D I q
  · simp only [evS] at q
    cases e : evSs C io b r with
    | nx r1 => rw [e] at q; exact q
    | rt _ _ => rw [e] at q; exact q
    | bk _ => rw [e] at q; exact q
    | ct _ => rw [e] at q; exact q
    | bad => rw [e] at q; exact q
    | ex c fs r1 =>
      rw [e] at q
      simp only at q
      split at q
      · exact q.elim
      · rename_i hg
        simp only [Bool.or_eq_true, not_or, Bool.not_eq_true', Bool.not_eq_false, decide_eq_false_iff_not, Decidable.not_not] at hg
        obtain ⟨⟨hi0, hfs⟩, hlt1⟩ := hg
        have hio : i ∉ io := fun z => hi0 (List.contains_iff_mem.mpr z)
        have hfs : fs = [] := by simpa using hfs
        subst hfs
        intro d σ' F' H' A' s' w' k' xc
        have hd : d = none := xc
        subst hd
        have q2 := PF.pre s' k' q
        cases es : C.sub c k with
        | none => rw [es] at q2; exact q2.elim
        | some bb =>
          rw [es] at q2
          refine ⟨bb, sub _ _ _ es, fun hb a ha => ?_, fun hb => ?_⟩
          · subst hb
            obtain ⟨A1, w1, m1⟩ := wf_any w' i (some (.ref a))
            have hlt : i < σ'.length := by
              rw [w'.env.len]
              exact hlt1
            refine ⟨c, [], rfl, rfl, by rw [List.getElem?_set_self hlt], r1.set i none, F', A1, w1, ?_⟩
            simp only [pickA] at q2
            have st1 : Stp F' H' A' F' H' A1 := Stp.refl.perm (fun p h => h) m1
            cases e3 : evSs ⟨C.call, C.G, C.w, C.bears, C.sub, c, []⟩ (i :: io) hs (r1.set i none) with
            | nx r2 =>
              rw [e3] at q2
              intro σ2 F2 H2 A2 s2 w2 k2
              obtain ⟨A3, w3, m3⟩ := wf_clear w2 i
              exact q2 (σ2.set i none) F2 H2 A3 ((st1.trans s2).perm (fun p h => h) m3) w3 (kp_set k2 hio)
            | bk r2 =>
              rw [e3] at q2
              intro σ2 F2 H2 A2 s2 w2 k2
              obtain ⟨A3, w3, m3⟩ := wf_clear w2 i
              exact q2 (σ2.set i none) F2 H2 A3 ((st1.trans s2).perm (fun p h => h) m3) w3 (kp_set k2 hio)
            | ct r2 =>
              rw [e3] at q2
              intro σ2 F2 H2 A2 s2 w2 k2
              obtain ⟨A3, w3, m3⟩ := wf_clear w2 i
              exact q2 (σ2.set i none) F2 H2 A3 ((st1.trans s2).perm (fun p h => h) m3) w3 (kp_set k2 hio)
            | rt u r2 =>
              rw [e3] at q2
              intro y σ2 F2 H2 A2 B2 s2 w2 k2 ru
              obtain ⟨A3, w3, m3⟩ := wf_clear w2 i
              exact q2 y (σ2.set i none) F2 H2 A3 B2 ((st1.trans s2).perm (fun p h => h) fun p hp => (List.mem_append.mp hp).elim (List.mem_append_left _) fun z => List.mem_append_right _ (m3 p z)) w3 (kp_set k2 hio) ru
            | ex _ _ _ => rw [e3] at q2; exact q2.elim
            | bad => rw [e3] at q2; exact q2.elim
          · subst hb
            exact q2 none σ' F' H' A' .refl w' .refl rfl
end
end Ev

/-! Ev16: the check of expressions against the text. -/
namespace Ev
open PySem PySem.Spec PyProof.Rows L2
/-- the names of the text's top -/
structure Gc where
  fns : List (Str × Nat)
  cons : List (Str × Nat)
  free : List Str
  /-- classes of errors; those that are made with one argument, without own makings -/
  cls : List (Str × Nat)
  pln : List Nat
  /-- is isinstance of an error known -/
  ky : Bool
def visB (sc : Scope) (x : Str) : Bool := (match sc.names.lookup x with
  | some .local => true
  | some .cell => true
  | some .free => true
  | _ => false) && !(x == ("__debug__" : Str)) && !(x == ("__classdict__" : Str))
def glB (sc : Scope) (x : Str) : Bool := (match sc.names.lookup x with
  | some .globalImplicit => true
  | _ => false) && !(x == ("__debug__" : Str))
def locB (top : Bool) (sc : Scope) (x : Str) : Bool := match sc.names.lookup x with
  | some .local => true
  | some .cell => top
  | _ => false
def nmB (N : List Str) (sc : Scope) (i : Nat) (x : Str) : Bool := decide (N[i]? = some x) && visB sc x
structure CxE (X : Cx) (g : Gc) (C : Cf) (xp : Xp) (N : List Str) (sc : Scope) (top : Bool) : Prop where
  c0 : Cx0 X N sc
  fns : ∀ x fi, g.fns.lookup x = some fi → ∃ k f fd ps, FnOk X.prog X.w X.K X.mg X.base (L2.CX X.prog X.w) k f fd ps (spF X.K xp (C.call fi)) ∧ Room k X.A ∧ X.mg x = some (.ref f) ∧ PySem.W.keepIn X.K (.ref f) = true ∧ Binds X.K fd ps []
  cons : ∀ x j, g.cons.lookup x = some j → ∃ d v u, C.G[j]? = some d ∧ X.mg x = some u ∧ RelV v u ∧ ∀ F, Dp X.K F v d
  free : ∀ x, x ∈ g.free → X.mg x = none
  calm : X.calm = true
  fn : top = true → ∀ z, X.fn z = true
theorem CxE.blk {X : Cx} {g : Gc} {C : Cf} {xp : Xp} {N : List Str} {sc scope : Scope} {top : Bool} (c : CxE X g C xp N sc top) (s : Shared) (H : Hp) (D : Addr) (cl : List (Str × Addr)) (fp : List Addr) : CxE (X.blk s H scope (compEnvC scope cl D X.env) fp) g C xp N (relS scope sc) false :=
  ⟨⟨c.c0.n, by rw [← c.c0.scope]; rfl, c.c0.nd, c.c0.hu⟩, c.fns, c.cons, c.free, c.calm, fun h => by cases h⟩
section
variable {X : Cx} {N : List Str} {sc : Scope} {top : Bool}
theorem visB_ok {x : Str} (h : visB sc x = true) : Vis sc x ∧ (x == ("__debug__" : Str)) = false ∧ (x == ("__classdict__" : Str)) = false := by
  simp only [visB, Bool.and_eq_true, Bool.not_eq_true'] at h
  obtain ⟨⟨h1, h2⟩, h3⟩ := h
  refine ⟨?_, h2, h3⟩
  split at h1
  · exact .inl (by assumption)
  · exact .inr (.inl (by assumption))
  · exact .inr (.inr (by assumption))
  · cases h1
theorem glB_ok {x : Str} (h : glB sc x = true) (e : X.env.scope = sc) : Gl X x ∧ (x == ("__debug__" : Str)) = false := by
  simp only [glB, Bool.and_eq_true, Bool.not_eq_true'] at h
  obtain ⟨h1, h2⟩ := h
  refine ⟨?_, h2⟩
  split at h1
  · show X.env.scope.names.lookup x = some .globalImplicit
    rw [e]
    assumption
  · cases h1
theorem locB_ok {x : Str} (h : locB top sc x = true) (e : X.env.scope = sc) (hf : top = true → ∀ z, X.fn z = true) : Loc X.env.scope x ∧ (X.fn x = true ∨ X.env.scope.names.lookup x = some .local) := by
  unfold locB at h
  rw [e]
  split at h
  · rename_i q
    exact ⟨.inl q, .inr q⟩
  · rename_i q
    exact ⟨.inr q, .inl (hf h x)⟩
  · cases h
theorem name_ok {i : Nat} {x : Str} {pos : Pos} {xp : Xp} {g : Gc} {C : Cf} (c : CxE X g C xp N sc top) (h : nmB N sc i x = true) : PE X (.Name x pos) (tVar i) := by
  simp only [nmB, Bool.and_eq_true, decide_eq_true_eq] at h
  obtain ⟨h1, h2, h3⟩ := visB_ok h.2
  exact slotV c.c0 h.1 h1 h2 h3
end
def plainIxB : Expr → Bool
  | .Slice _ _ _ _ => false
  | .Starred _ _ => false
  | _ => true
theorem plainIx_ok {e : Expr} (h : plainIxB e = true) : PlainIx e := by
  intro o i
  cases e <;> first | rfl | cases h
def isSetE : Expr → Bool
  | .Set _ _ _ => true
  | _ => false
theorem folded_no {e : Expr} {env : PySem.Env} (h : isSetE e = false) : ∀ x, foldedSetIterable e env x = pure x := by
  intro x
  cases e <;> first | rfl | cases h
/-- BoolOp of one -/
def unB : Expr → Expr
  | .BoolOp _ [e] _ => e
  | e => e
theorem unB_ok {X : Cx} {e : Expr} {t : TE} (h : PE X (unB e) t) : PE X e t := by
  unfold unB at h
  split at h
  · exact pe_one h
  · exact h
/-- a receiver that is not super() -/
def plainRcv : Expr → Bool
  | .Call _ _ _ _ => false
  | _ => true
def constB (d : PyData) (c : Const) : Bool := match d, c with
  | .none, .none => true
  | .bool a, .bool b => a == b
  | .int i, .int j => decide (i = j)
  | .str x, .str y => decide (x = y)
  | _, _ => false
mutual
def chkG (N : List Str) (sc : Scope) (top : Bool) : Tg → Expr → Bool
  | .n i, ex => match ex with
    | .Name x _ => decide (N[i]? = some x) && locB top sc x
    | _ => false
  | .t ts, ex => match ex with
    | .Tuple es _ _ => chkGs N sc top ts es && es.all noStar && decide (es.length = ts.length)
    | _ => false
def chkGs (N : List Str) (sc : Scope) (top : Bool) : List Tg → List Expr → Bool
  | [], [] => true
  | t :: ts, e :: es => chkG N sc top t e && chkGs N sc top ts es
  | _, _ => false
end
/-- an operand, by the check of it as an expression -/
def oW (N : List Str) (sc : Scope) (e : E) (ex : Expr) (b : Bool) : Bool := match e with
  | .bo i => match ex with
    | .Name x _ => nmB N sc i x
    | _ => false
  | .io i => match ex with
    | .Name x _ => nmB N sc i x
    | _ => false
  | _ => b
def tailB (op : BoolOp) (y : Expr) (rest : List Expr) (pos : Pos) : Expr := match rest with
  | [] => y
  | _ => .BoolOp op (y :: rest) pos
def isTst : E → Bool
  | .and _ _ => true
  | .or _ _ => true
  | .not _ => true
  | .cmp _ _ _ => true
  | .chain _ _ _ _ _ => true
  | .isN _ => true
  | .notN _ => true
  | _ => false
/-- a test, by the checks of it as an expression and as a test -/
def tW (N : List Str) (sc : Scope) (e : E) (ex : Expr) (bE bT : Bool) : Bool := match isTst e with
  | true => bT
  | false => plainT ex && oW N sc e ex bE
def isT : Tg → Bool
  | .t _ => true
  | _ => false
mutual
def chkE (g : Gc) (N : List Str) (sc : Scope) : E → Expr → Bool
  | .k d, ex => match ex with
    | .Constant c _ _ => constB d c
    | _ => false
  | .g j, ex => match ex with
    | .Name x _ => glB sc x && decide (g.cons.lookup x = some j)
    | _ => false
  | .v i, ex => match ex with
    | .Name x _ => nmB N sc i x
    | _ => false
  | .mv i, ex => match ex with
    | .Name x _ => nmB N sc i x
    | _ => false
  | .bo _, _ => false
  | .io _, _ => false
  | .tup es, ex => match ex with
    | .Tuple exs _ _ => chkEs g N sc es exs
    | _ => false
  | .lst es, ex => match ex with
    | .List exs _ => chkOs g N sc es exs
    | _ => false
  | .bin o a b, ex => match ex with
    | .BinOp l op r _ => decide (op = bop o) && oW N sc a l (chkE g N sc a l) && oW N sc b r (chkE g N sc b r)
    | _ => false
  | .neg a, ex => match ex with
    | .UnaryOp .USub x _ => oW N sc a x (chkE g N sc a x)
    | _ => false
  | .cmp o a b, ex => match ex with
    | .Compare l [op] [r] _ => decide (op = cop o) && oW N sc a l (chkE g N sc a l) && oW N sc b r (chkE g N sc b r) && !behindInMarks (cop o) r
    | _ => false
  | .chain o p a b c, ex => match ex with
    | .Compare l [op, oq] [r, q] _ => decide (op = cop o) && decide (oq = cop p) && oW N sc a l (chkE g N sc a l) && oW N sc b r (chkE g N sc b r) && oW N sc c q (chkE g N sc c q) && !lastMarks [cop o, cop p] [r, q]
    | _ => false
  | .isN a, ex => match ex with
    | .Compare l [.Is] [.Constant .none _ _] _ => oW N sc a l (chkE g N sc a l)
    | _ => false
  | .notN a, ex => match ex with
    | .Compare l [.IsNot] [.Constant .none _ _] _ => oW N sc a l (chkE g N sc a l)
    | _ => false
  | .and a b, ex => match ex with
    | .BoolOp .And (x :: y :: rest) pos => oW N sc a x (chkE g N sc a x) && chkE g N sc b (unB (.BoolOp .And (y :: rest) pos))
    | _ => false
  | .or a b, ex => match ex with
    | .BoolOp .Or (x :: y :: rest) pos => oW N sc a x (chkE g N sc a x) && chkE g N sc b (unB (.BoolOp .Or (y :: rest) pos))
    | _ => false
  | .not a, ex => match ex with
    | .UnaryOp .Not x _ => oW N sc a x (chkE g N sc a x)
    | _ => false
  | .ite t a b, ex => match ex with
    | .IfExp c x y _ => tW N sc t c (chkE g N sc t c) (chkT g N sc t c) && chkE g N sc a x && chkE g N sc b y
    | _ => false
  | .idx a i, ex => match ex with
    | .Subscript x y _ => oW N sc a x (chkE g N sc a x) && oW N sc i y (chkE g N sc i y) && plainIxB y
    | _ => false
  | .slc a lo hi, ex => match ex with
    | .Subscript x (.Slice l h none _) _ => oW N sc a x (chkE g N sc a x) && chkP g N sc lo l && chkP g N sc hi h
    | _ => false
  | .call f es, ex => match ex with
    | .Call (.Name x _) (e :: exs) [] _ => glB sc x && decide (g.fns.lookup x = some f) && chkOs g N sc es (e :: exs)
    | _ => false
  | .bi b es, ex => match ex with
    | .Call (.Name x _) (e :: exs) [] _ => decide (x = biNm b) && glB sc x && g.free.contains x && decide (b ≠ .bool) && chkOs g N sc es (e :: exs)
    | _ => false
  | .isi a t, ex => match ex with
    | .Call (.Name x _) [e, .Name y _] [] _ => decide (x = ("isinstance" : Str)) && glB sc x && g.free.contains x && decide (y = tyNm t) && glB sc y && g.free.contains y && oW N sc a e (chkE g N sc a e) && noStar e
    | _ => false
  | .met m a es, ex => match ex with
    | .Call (.Attribute eo nm apos) (e :: exs) [] cpos => decide (nm = pmNm m) && oW N sc a eo (chkE g N sc a eo) && plainRcv eo && (apos.endLine == cpos.line) && chkOs g N sc es (e :: exs) && decide ((e :: exs).length < 20)
    | _ => false
  | .isB b a, ex => match ex with
    | .Compare l [.Is] [.Constant (.bool c) _ _] _ => (b == c) && oW N sc a l (chkE g N sc a l)
    | _ => false
  | .rl tp a, ex => match ex with
    | .Call (.Name x _) [.Call (.Name y _) [e] [] _] [] _ => decide (x = (if tp then ("tuple" : Str) else "list")) && glB sc x && g.free.contains x && decide (y = ("range" : Str)) && glB sc y && g.free.contains y && oW N sc a e (chkE g N sc a e) && noStar e
    | _ => false
  | .ss a, ex => match ex with
    | .Call (.Name x _) [.Call (.Name y _) [e] [] _] [] _ => decide (x = ("sorted" : Str)) && glB sc x && g.free.contains x && decide (y = ("set" : Str)) && glB sc y && g.free.contains y && oW N sc a e (chkE g N sc a e) && noStar e
    | _ => false
  | .isX _, _ => false
  | .rng1 _, _ => false
  | .rng2 _ _, _ => false
  | .enu _, _ => false
  | .zp _ _, _ => false
  | .itr _, _ => false
  | .lc t it elt, ex => match ex with
    | .ListComp e [⟨tg, iter, [], 0⟩] scope _ => chkI g N sc t it tg iter && blkC N sc scope (ownN N (slT t)) && chkG N (relS scope sc) false t tg && chkE g N (relS scope sc) elt e && !isSetE iter
    | _ => false
  | .lci t it c elt, ex => match ex with
    | .ListComp e [⟨tg, iter, [cnd], 0⟩] scope _ => chkI g N sc t it tg iter && blkC N sc scope (ownN N (slT t)) && chkG N (relS scope sc) false t tg && tW N (relS scope sc) c cnd (chkE g N (relS scope sc) c cnd) (chkT g N (relS scope sc) c cnd) && chkE g N (relS scope sc) elt e && !isSetE iter
    | _ => false
  | .lc2 t it t2 it2 elt, ex => match ex with
    | .ListComp e [⟨tg, iter, [], 0⟩, ⟨tg2, iter2, [], 0⟩] scope _ => chkI g N sc t it tg iter && blkC N sc scope (ownN N (slT t ++ slT t2)) && chkG N (relS scope sc) false t tg && chkI g N (relS scope sc) t2 it2 tg2 iter2 && chkG N (relS scope sc) false t2 tg2 && chkE g N (relS scope sc) elt e && !isSetE iter && !isSetE iter2
    | _ => false
termination_by structural x _ => x
def chkOs (g : Gc) (N : List Str) (sc : Scope) : List E → List Expr → Bool
  | [], [] => true
  | a :: as, e :: es => oW N sc a e (chkE g N sc a e) && noStar e && chkOs g N sc as es
  | _, _ => false
termination_by structural x _ => x
def chkEs (g : Gc) (N : List Str) (sc : Scope) : List E → List Expr → Bool
  | [], [] => true
  | a :: as, e :: es => chkE g N sc a e && noStar e && chkEs g N sc as es
  | _, _ => false
termination_by structural x _ => x
def chkP (g : Gc) (N : List Str) (sc : Scope) : Option E → Option Expr → Bool
  | none, none => true
  | some a, some e => oW N sc a e (chkE g N sc a e)
  | _, _ => false
termination_by structural x _ => x
/-- tests -/
def chkT (g : Gc) (N : List Str) (sc : Scope) : E → Expr → Bool
  | .and a b, ex => match ex with
    | .BoolOp .And (x :: y :: rest) pos => tW N sc a x (chkE g N sc a x) (chkT g N sc a x) && tW N sc b (tailB .And y rest pos) (chkE g N sc b (tailB .And y rest pos)) (chkT g N sc b (tailB .And y rest pos))
    | _ => false
  | .or a b, ex => match ex with
    | .BoolOp .Or (x :: y :: rest) pos => tW N sc a x (chkE g N sc a x) (chkT g N sc a x) && tW N sc b (tailB .Or y rest pos) (chkE g N sc b (tailB .Or y rest pos)) (chkT g N sc b (tailB .Or y rest pos))
    | _ => false
  | .not a, ex => match ex with
    | .UnaryOp .Not x _ => tW N sc a x (chkE g N sc a x) (chkT g N sc a x)
    | _ => false
  | .cmp o a b, ex => match ex with
    | .Compare l [op] [r] _ => decide (op = cop o) && oW N sc a l (chkE g N sc a l) && oW N sc b r (chkE g N sc b r) && !behindInMarks (cop o) r
    | _ => false
  | .chain o p a b c, ex => match ex with
    | .Compare l [op, oq] [r, q] _ => decide (op = cop o) && decide (oq = cop p) && oW N sc a l (chkE g N sc a l) && oW N sc b r (chkE g N sc b r) && oW N sc c q (chkE g N sc c q) && !lastMarks [cop o, cop p] [r, q]
    | _ => false
  | .isN a, ex => match ex with
    | .Compare l [.Is] [.Constant .none _ _] _ => oW N sc a l (chkE g N sc a l)
    | _ => false
  | .notN a, ex => match ex with
    | .Compare l [.IsNot] [.Constant .none _ _] _ => oW N sc a l (chkE g N sc a l)
    | _ => false
  | _, _ => false
termination_by structural x _ => x
/-- what loops walk -/
def chkI (g : Gc) (N : List Str) (sc : Scope) (t : Tg) : E → Expr → Expr → Bool
  | .rng1 a, _, ex => match ex with
    | .Call (.Name x _) [e] [] _ => decide (x = ("range" : Str)) && glB sc x && g.free.contains x && oW N sc a e (chkE g N sc a e) && noStar e
    | _ => false
  | .rng2 a b, _, ex => match ex with
    | .Call (.Name x _) [e, f] [] _ => decide (x = ("range" : Str)) && glB sc x && g.free.contains x && oW N sc a e (chkE g N sc a e) && noStar e && oW N sc b f (chkE g N sc b f) && noStar f
    | _ => false
  | .enu a, tg, ex => match tg, ex with
    | .Tuple _ _ _, .Call (.Name x _) [e] [] _ => isT t && decide (x = ("enumerate" : Str)) && glB sc x && g.free.contains x && oW N sc a e (chkE g N sc a e) && noStar e
    | _, _ => false
  | .zp a b, tg, ex => match tg, ex with
    | .Tuple _ _ _, .Call (.Name x _) [e, f] [] _ => isT t && decide (x = ("zip" : Str)) && glB sc x && g.free.contains x && oW N sc a e (chkE g N sc a e) && noStar e && oW N sc b f (chkE g N sc b f) && noStar f
    | _, _ => false
  | .itr a, _, ex => oW N sc a ex (chkE g N sc a ex)
  | _, _, _ => false
termination_by structural x _ _ => x
end
end Ev

/-! Ev17: what the check of expressions promises. -/
namespace Ev
open PySem PySem.Spec PyProof.Rows L2
section
variable {X : Cx} {g : Gc} {N : List Str} {sc : Scope} {top : Bool} {xp : Xp} {W : WX} {C : Cf}
theorem oW_ok {a : E} {ex : Expr} {b : Bool} (c : CxE X g C xp N sc top) (hE : b = true → PE X ex (TV X.K xp W C a)) (h : oW N sc a ex b = true) : PE X ex (TOp X.K xp W C a) := by
  cases a with
  | bo i =>
    simp only [oW] at h
    split at h
    · rename_i x pos
      exact sO_bo (x := x) (name_ok c h)
    · cases h
  | io i =>
    simp only [oW] at h
    split at h
    · rename_i x pos
      exact sO_io (x := x) (name_ok c h)
    · cases h
  | _ => exact sO_of (hE h) rfl
theorem tW_ok {a : E} {ex : Expr} {b1 b2 : Bool} (c : CxE X g C xp N sc top) (hE : b1 = true → PE X ex (TV X.K xp W C a)) (hT : b2 = true → PT X ex (TTs X.K xp W C a)) (h : tW N sc a ex b1 b2 = true) : PT X ex (TTs X.K xp W C a) := by
  unfold tW at h
  split at h
  · exact hT h
  · rename_i hi
    simp only [Bool.and_eq_true] at h
    exact sT_plain (oW_ok c hE h.2) h.1 (by cases a <;> first | rfl | cases hi)
theorem tail_and {y : Expr} {rest : List Expr} {pos : Pos} {t : TT} (h : PT X (tailB .And y rest pos) t) : PW X (.BoolOp .And (y :: rest) pos) t := by
  cases rest with
  | nil => exact pw_and1 h
  | cons z r => exact ⟨fun wh pins s σ H Q I q => h.run pins s σ H Q I q⟩
theorem tail_or {y : Expr} {rest : List Expr} {pos : Pos} {t : TT} (h : PT X (tailB .Or y rest pos) t) : PW X (.BoolOp .Or (y :: rest) pos) t := by
  cases rest with
  | nil => exact pw_or1 h
  | cons z r => exact ⟨fun wh pins s σ H Q I q => h.run pins s σ H Q I q⟩
theorem constB_ok {d : PyData} {k : Const} {j : Nat} {pos : Pos} (h : constB d k = true) : PE X (.Constant k j pos) (TV X.K xp W C (.k d)) := by
  cases d <;> cases k <;> first | cases h | skip
  · exact sV_con pe_non rfl
  · simp only [constB, beq_iff_eq] at h
    subst h
    exact sV_con pe_bl rfl
  · simp only [constB, decide_eq_true_eq] at h
    subst h
    exact sV_con pe_int rfl
  · simp only [constB, decide_eq_true_eq] at h
    subst h
    exact sV_con pe_str rfl
mutual
theorem chkG_ok (hc : X.calm = true) (hN : X.N = N) (hnd : N.Nodup) (hsc : X.env.scope = sc) (hf : top = true → ∀ z, X.fn z = true) : ∀ {t : Tg} {ex : Expr}, chkG N sc top t ex = true → PG X ex (TGv X.K t)
  | .n i, ex, h => by
    simp only [chkG] at h
    split at h
    · simp only [Bool.and_eq_true, decide_eq_true_eq] at h
      obtain ⟨h1, h2⟩ := locB_ok h.2 hsc hf
      exact g_name (by rw [hN]; exact hnd) (by rw [hN]; exact h.1) h1 h2
    · cases h
  | .t ts, ex, h => by
    simp only [chkG] at h
    split at h
    · simp only [Bool.and_eq_true, decide_eq_true_eq] at h
      exact g_tup hc (chkGs_ok hc hN hnd hsc hf h.1.1) h.1.2 h.2
    · cases h
theorem chkGs_ok (hc : X.calm = true) (hN : X.N = N) (hnd : N.Nodup) (hsc : X.env.scope = sc) (hf : top = true → ∀ z, X.fn z = true) : ∀ {ts : List Tg} {es : List Expr}, chkGs N sc top ts es = true → PGs X es (TGvs X.K ts)
  | [], [], _ => gs_nil
  | [], _ :: _, h => by cases h
  | _ :: _, [], h => by cases h
  | t :: ts, e :: es, h => by
    simp only [chkGs, Bool.and_eq_true] at h
    exact gs_cons (chkG_ok hc hN hnd hsc hf h.1) (chkGs_ok hc hN hnd hsc hf h.2) (by
      cases t with
      | n i => have := h.1; simp only [chkG] at this; split at this <;> first | rfl | cases this
      | t ts => have := h.1; simp only [chkG] at this; split at this <;> first | rfl | cases this)
end
end
section
variable {g : Gc} {N : List Str} {xp : Xp} {C : Cf}
theorem chkOs_star {sc : Scope} : ∀ {es : List E} {exs : List Expr}, chkOs g N sc es exs = true → exs.all noStar = true
  | [], [], _ => rfl
  | [], _ :: _, h => by cases h
  | _ :: _, [], h => by cases h
  | a :: as, e :: es, h => by
    simp only [chkOs, Bool.and_eq_true] at h
    rw [List.all_cons, h.1.2, chkOs_star h.2]
    rfl
theorem few_ok {exs : List Expr} {env : PySem.Env} {pos : Pos} (h : exs.all noStar = true) (hl : exs.length < 20) : ((backTo pos (starEach exs env)).all (fun x => !x.1) && (backToKw pos (keywordEach [] env)).all (fun x => x.1.isSome)
      && decide (exs.length + ([] : List Keyword).length + (if ([] : List Keyword).isEmpty then 0 else 1) < 30)) = true := by
  have h1 : ∀ {exs : List Expr}, exs.all noStar = true → (backTo pos (starEach exs env)).all (fun x => !x.1) = true := fun {exs} => by
    induction exs with
    | nil => intro _; rfl
    | cons e es ih =>
      intro h
      simp only [List.all_cons, Bool.and_eq_true] at h
      rw [starEach_cons h.1]
      show (true && (backTo pos (starEach es env)).all (fun x => !x.1)) = true
      rw [ih h.2]
      rfl
  rw [h1 h]
  have : decide (exs.length + ([] : List Keyword).length + (if ([] : List Keyword).isEmpty then 0 else 1) < 30) = true := by
    rw [decide_eq_true_eq]
    show exs.length + 0 + 0 < 30
    omega
  rw [this]
  rfl
theorem rcv_ok {eo : Expr} {nm : Str} {env : PySem.Env} (h : plainRcv eo = true) : attributeBase eo nm env (eval eo env) = eval eo env := by
  cases eo <;> first | rfl | cases h
mutual
theorem chkE_ok : ∀ (e : E) {ex : Expr} {sc : Scope} {top : Bool} {X : Cx} {W : WX}, chkE g N sc e ex = true → CxE X g C xp N sc top → Takes X W → PE X ex (TV X.K xp W C e)
  | .k d, ex, sc, top, X, W, h, c, tk => by
    simp only [chkE] at h
    split at h
    · exact constB_ok h
    · cases h
  | .g j, ex, sc, top, X, W, h, c, tk => by
    simp only [chkE] at h
    split at h
    · simp only [Bool.and_eq_true, decide_eq_true_eq] at h
      obtain ⟨h1, h2⟩ := glB_ok h.1 c.c0.scope
      obtain ⟨d, v, u, e1, e2, e3, e4⟩ := c.cons _ _ h.2
      exact sV_g (pe_glob h1 e2 e3 h2) e4 e1
    · cases h
  | .v i, ex, sc, top, X, W, h, c, tk => by
    simp only [chkE] at h
    split at h
    · exact sV_v (name_ok c h)
    · cases h
  | .mv i, ex, sc, top, X, W, h, c, tk => by
    simp only [chkE] at h
    split at h
    · exact sV_mv (name_ok c h)
    · cases h
  | .bo _, ex, sc, top, X, W, h, c, tk => by cases h
  | .io _, ex, sc, top, X, W, h, c, tk => by cases h
  | .tup es, ex, sc, top, X, W, h, c, tk => by
    simp only [chkE] at h
    split at h
    · exact sV_tup (chkEs_ok es h c tk)
    · cases h
  | .lst es, ex, sc, top, X, W, h, c, tk => by
    simp only [chkE] at h
    split at h
    · exact sV_lst (chkOs_ok es h c tk)
    · cases h
  | .bin o a b, ex, sc, top, X, W, h, c, tk => by
    simp only [chkE] at h
    split at h
    · simp only [Bool.and_eq_true, decide_eq_true_eq] at h
      obtain ⟨⟨rfl, h1⟩, h2⟩ := h
      exact sV_bin (oW_ok c (fun z => chkE_ok a z c tk) h1) (oW_ok c (fun z => chkE_ok b z c tk) h2)
    · cases h
  | .neg a, ex, sc, top, X, W, h, c, tk => by
    simp only [chkE] at h
    split at h
    · exact sV_neg (oW_ok c (fun z => chkE_ok a z c tk) h)
    · cases h
  | .cmp o a b, ex, sc, top, X, W, h, c, tk => by
    simp only [chkE] at h
    split at h
    · simp only [Bool.and_eq_true, decide_eq_true_eq, Bool.not_eq_true'] at h
      obtain ⟨⟨⟨rfl, h1⟩, h2⟩, h3⟩ := h
      exact sV_cmp c.c0 (oW_ok c (fun z => chkE_ok a z c tk) h1) (oW_ok c (fun z => chkE_ok b z c tk) h2) h3
    · cases h
  | .chain o p a b d, ex, sc, top, X, W, h, c, tk => by
    simp only [chkE] at h
    split at h
    · simp only [Bool.and_eq_true, decide_eq_true_eq, Bool.not_eq_true'] at h
      obtain ⟨⟨⟨⟨⟨rfl, rfl⟩, h1⟩, h2⟩, h3⟩, h4⟩ := h
      exact sV_chain c.c0 (oW_ok c (fun z => chkE_ok a z c tk) h1) (oW_ok c (fun z => chkE_ok b z c tk) h2) (oW_ok c (fun z => chkE_ok d z c tk) h3) h4
    · cases h
  | .isN a, ex, sc, top, X, W, h, c, tk => by
    simp only [chkE] at h
    split at h
    · exact sV_isN (oW_ok c (fun z => chkE_ok a z c tk) h)
    · cases h
  | .notN a, ex, sc, top, X, W, h, c, tk => by
    simp only [chkE] at h
    split at h
    · exact sV_notN (oW_ok c (fun z => chkE_ok a z c tk) h)
    · cases h
  | .and a b, ex, sc, top, X, W, h, c, tk => by
    simp only [chkE] at h
    split at h
    · simp only [Bool.and_eq_true] at h
      exact sV_and (oW_ok c (fun z => chkE_ok a z c tk) h.1) (unB_ok (chkE_ok b h.2 c tk))
    · cases h
  | .or a b, ex, sc, top, X, W, h, c, tk => by
    simp only [chkE] at h
    split at h
    · simp only [Bool.and_eq_true] at h
      exact sV_or (oW_ok c (fun z => chkE_ok a z c tk) h.1) (unB_ok (chkE_ok b h.2 c tk))
    · cases h
  | .not a, ex, sc, top, X, W, h, c, tk => by
    simp only [chkE] at h
    split at h
    · exact sV_not (oW_ok c (fun z => chkE_ok a z c tk) h)
    · cases h
  | .ite t a b, ex, sc, top, X, W, h, c, tk => by
    simp only [chkE] at h
    split at h
    · simp only [Bool.and_eq_true] at h
      exact sV_ite (sTo (tW_ok c (fun z => chkE_ok t z c tk) (fun z => chkT_ok t z c tk) h.1.1)) (chkE_ok a h.1.2 c tk) (chkE_ok b h.2 c tk)
    · cases h
  | .idx a i, ex, sc, top, X, W, h, c, tk => by
    simp only [chkE] at h
    split at h
    · simp only [Bool.and_eq_true] at h
      exact sV_idx (oW_ok c (fun z => chkE_ok a z c tk) h.1.1) (oW_ok c (fun z => chkE_ok i z c tk) h.1.2) (plainIx_ok h.2)
    · cases h
  | .slc a lo hi, ex, sc, top, X, W, h, c, tk => by
    simp only [chkE] at h
    split at h
    · simp only [Bool.and_eq_true] at h
      exact sV_slc (oW_ok c (fun z => chkE_ok a z c tk) h.1.1) (chkP_ok lo h.1.2 c tk) (chkP_ok hi h.2 c tk)
    · cases h
  | .call f es, ex, sc, top, X, W, h, c, tk => by
    simp only [chkE] at h
    split at h
    · simp only [Bool.and_eq_true, decide_eq_true_eq] at h
      obtain ⟨h1, h2⟩ := glB_ok h.1.1 c.c0.scope
      obtain ⟨k, ad, fd, ps, g1, g2, g3, g4, g5⟩ := c.fns _ _ h.1.2
      exact sV_call g1 tk g2 h1 g3 g4 g5 (chkOs_ok es h.2 c tk) h2 (chkOs_star h.2)
    · cases h
  | .bi b es, ex, sc, top, X, W, h, c, tk => by
    simp only [chkE] at h
    split at h
    · simp only [Bool.and_eq_true, decide_eq_true_eq] at h
      obtain ⟨⟨⟨⟨rfl, h1⟩, h2⟩, h3⟩, h4⟩ := h
      exact sV_bi c.c0 (fun _ => c.calm) (glB_ok h1 c.c0.scope).1 (c.free _ (List.contains_iff_mem.mp h2)) h3 (chkOs_ok es h4 c tk) (chkOs_star h4)
    · cases h
  | .isi a t, ex, sc, top, X, W, h, c, tk => by
    simp only [chkE] at h
    split at h
    · simp only [Bool.and_eq_true, decide_eq_true_eq] at h
      obtain ⟨⟨⟨⟨⟨⟨⟨rfl, h1⟩, h2⟩, rfl⟩, h3⟩, h4⟩, h5⟩, h6⟩ := h
      exact sV_isi (glB_ok h1 c.c0.scope).1 (c.free _ (List.contains_iff_mem.mp h2)) (glB_ok h3 c.c0.scope).1 (c.free _ (List.contains_iff_mem.mp h4)) (oW_ok c (fun z => chkE_ok a z c tk) h5) h6
    · cases h
  | .met m a es, ex, sc, top, X, W, h, c, tk => by
    simp only [chkE] at h
    split at h
    · simp only [Bool.and_eq_true, decide_eq_true_eq] at h
      obtain ⟨⟨⟨⟨⟨rfl, h1⟩, h2⟩, h3⟩, h4⟩, h5⟩ := h
      have hb := rcv_ok (nm := pmNm m) (env := X.env) h2
      cases hm : decide (pmTy m = "list") with
      | true => exact sV_metL (of_decide_eq_true hm) c.c0 (oW_ok c (fun z => chkE_ok a z c tk) h1) (chkOs_ok es h4 c tk) hb (few_ok (chkOs_star h4) h5) h3 (chkOs_star h4)
      | false =>
        have ht : pmTy m = "tuple" := by
          have := of_decide_eq_false hm
          cases m <;> first | rfl | exact absurd rfl this
        exact sV_metT ht c.c0 (oW_ok c (fun z => chkE_ok a z c tk) h1) (chkOs_ok es h4 c tk) hb (few_ok (chkOs_star h4) h5) h3 (chkOs_star h4)
    · cases h
  | .isB b a, ex, sc, top, X, W, h, c, tk => by
    simp only [chkE] at h
    split at h
    · simp only [Bool.and_eq_true, beq_iff_eq] at h
      obtain ⟨rfl, h1⟩ := h
      exact sV_isB (oW_ok c (fun z => chkE_ok a z c tk) h1)
    · cases h
  | .rl tp a, ex, sc, top, X, W, h, c, tk => by
    simp only [chkE] at h
    split at h
    · simp only [Bool.and_eq_true, decide_eq_true_eq] at h
      obtain ⟨⟨⟨⟨⟨⟨⟨h0, h1⟩, h2⟩, rfl⟩, h3⟩, h4⟩, h5⟩, h6⟩ := h
      cases tp with
      | false =>
        rw [if_neg (by decide)] at h0
        subst h0
        exact sV_rlL c.calm (glB_ok h1 c.c0.scope).1 (c.free _ (List.contains_iff_mem.mp h2)) (glB_ok h3 c.c0.scope).1 (c.free _ (List.contains_iff_mem.mp h4)) (oW_ok c (fun z => chkE_ok a z c tk) h5) h6
      | true =>
        rw [if_pos rfl] at h0
        subst h0
        exact sV_rlT c.calm (glB_ok h1 c.c0.scope).1 (c.free _ (List.contains_iff_mem.mp h2)) (glB_ok h3 c.c0.scope).1 (c.free _ (List.contains_iff_mem.mp h4)) (oW_ok c (fun z => chkE_ok a z c tk) h5) h6
    · cases h
  | .ss a, ex, sc, top, X, W, h, c, tk => by
    simp only [chkE] at h
    split at h
    · simp only [Bool.and_eq_true, decide_eq_true_eq] at h
      obtain ⟨⟨⟨⟨⟨⟨⟨rfl, h1⟩, h2⟩, rfl⟩, h3⟩, h4⟩, h5⟩, h6⟩ := h
      exact sV_ss c.calm (glB_ok h1 c.c0.scope).1 (c.free _ (List.contains_iff_mem.mp h2)) (glB_ok h3 c.c0.scope).1 (c.free _ (List.contains_iff_mem.mp h4)) (oW_ok c (fun z => chkE_ok a z c tk) h5) h6
    · cases h
  | .isX _, ex, sc, top, X, W, h, c, tk => by cases h
  | .rng1 _, ex, sc, top, X, W, h, c, tk => by cases h
  | .rng2 _ _, ex, sc, top, X, W, h, c, tk => by cases h
  | .enu _, ex, sc, top, X, W, h, c, tk => by cases h
  | .zp _ _, ex, sc, top, X, W, h, c, tk => by cases h
  | .itr _, ex, sc, top, X, W, h, c, tk => by cases h
  | .lc t it elt, ex, sc, top, X, W, h, c, tk => by
    simp only [chkE] at h
    split at h
    · simp only [Bool.and_eq_true, Bool.not_eq_true'] at h
      obtain ⟨⟨⟨⟨h1, h2⟩, h3⟩, h4⟩, h5⟩ := h
      refine sV_lc c.calm (by rw [c.c0.n]; exact c.c0.nd) (chkI_ok it h1 c tk) (by rw [c.c0.n, c.c0.scope]; exact blkOk_by h2) (fun s H D cl fp => ?_) (fun s H D cl fp => ?_) (folded_no h5)
      · exact chkG_ok (X := X.blk s H _ (compEnvC _ cl D X.env) fp) c.calm c.c0.n c.c0.nd (c.blk s H D cl fp).c0.scope (fun z => by cases z) h3
      · exact chkE_ok elt h4 (c.blk s H D cl fp) takes0
    · cases h
  | .lci t it cd elt, ex, sc, top, X, W, h, c, tk => by
    simp only [chkE] at h
    split at h
    · simp only [Bool.and_eq_true, Bool.not_eq_true'] at h
      obtain ⟨⟨⟨⟨⟨h1, h2⟩, h3⟩, h6⟩, h4⟩, h5⟩ := h
      refine sV_lci c.calm (by rw [c.c0.n]; exact c.c0.nd) (chkI_ok it h1 c tk) (by rw [c.c0.n, c.c0.scope]; exact blkOk_by h2) (fun s H D cl fp => ?_) (fun s H D cl fp => ?_) (fun s H D cl fp => ?_) (folded_no h5)
      · exact chkG_ok (X := X.blk s H _ (compEnvC _ cl D X.env) fp) c.calm c.c0.n c.c0.nd (c.blk s H D cl fp).c0.scope (fun z => by cases z) h3
      · exact tW_ok (c.blk s H D cl fp) (fun z => chkE_ok cd z (c.blk s H D cl fp) takes0) (fun z => chkT_ok cd z (c.blk s H D cl fp) takes0) h6
      · exact chkE_ok elt h4 (c.blk s H D cl fp) takes0
    · cases h
  | .lc2 t it t2 it2 elt, ex, sc, top, X, W, h, c, tk => by
    simp only [chkE] at h
    split at h
    · simp only [Bool.and_eq_true, Bool.not_eq_true'] at h
      obtain ⟨⟨⟨⟨⟨⟨⟨h1, h2⟩, h3⟩, h4⟩, h5⟩, h6⟩, h7⟩, h8⟩ := h
      refine sV_lc2 c.calm (by rw [c.c0.n]; exact c.c0.nd) (chkI_ok it h1 c tk) (by rw [c.c0.n, c.c0.scope]; exact blkOk_by h2) (fun s H D cl fp => ?_) (fun s H D cl fp => ?_) (fun s H D cl fp => ?_) (fun s H D cl fp => ?_) (folded_no h7) (fun env => folded_no h8)
      · exact chkG_ok (X := X.blk s H _ (compEnvC _ cl D X.env) fp) c.calm c.c0.n c.c0.nd (c.blk s H D cl fp).c0.scope (fun z => by cases z) h3
      · exact chkI_ok it2 h4 (c.blk s H D cl fp) takes0
      · exact chkG_ok (X := X.blk s H _ (compEnvC _ cl D X.env) fp) c.calm c.c0.n c.c0.nd (c.blk s H D cl fp).c0.scope (fun z => by cases z) h5
      · exact chkE_ok elt h6 (c.blk s H D cl fp) takes0
    · cases h
theorem chkOs_ok : ∀ (es : List E) {exs : List Expr} {sc : Scope} {top : Bool} {X : Cx} {W : WX}, chkOs g N sc es exs = true → CxE X g C xp N sc top → Takes X W → PA X exs (TAs X.K xp W C es)
  | [], [], sc, top, X, W, h, c, tk => sA_nil
  | [], _ :: _, sc, top, X, W, h, c, tk => by cases h
  | _ :: _, [], sc, top, X, W, h, c, tk => by cases h
  | a :: as, e :: es, sc, top, X, W, h, c, tk => by
    simp only [chkOs, Bool.and_eq_true] at h
    exact sA_cons (oW_ok c (fun z => chkE_ok a z c tk) h.1.1) (chkOs_ok as h.2 c tk) h.1.2
theorem chkEs_ok : ∀ (es : List E) {exs : List Expr} {sc : Scope} {top : Bool} {X : Cx} {W : WX}, chkEs g N sc es exs = true → CxE X g C xp N sc top → Takes X W → PA X exs (TVsA X.K xp W C es)
  | [], [], sc, top, X, W, h, c, tk => sVs_nil
  | [], _ :: _, sc, top, X, W, h, c, tk => by cases h
  | _ :: _, [], sc, top, X, W, h, c, tk => by cases h
  | a :: as, e :: es, sc, top, X, W, h, c, tk => by
    simp only [chkEs, Bool.and_eq_true] at h
    exact sVs_cons (chkE_ok a h.1.1 c tk) (chkEs_ok as h.2 c tk) h.1.2
theorem chkP_ok : ∀ (e : Option E) {ex : Option Expr} {sc : Scope} {top : Bool} {X : Cx} {W : WX}, chkP g N sc e ex = true → CxE X g C xp N sc top → Takes X W → PO X ex (TPt X.K xp W C e)
  | none, none, sc, top, X, W, h, c, tk => sP_none
  | none, some _, sc, top, X, W, h, c, tk => by cases h
  | some _, none, sc, top, X, W, h, c, tk => by cases h
  | some a, some e, sc, top, X, W, h, c, tk => by
    simp only [chkP] at h
    exact sP_some (oW_ok c (fun z => chkE_ok a z c tk) h)
theorem chkT_ok : ∀ (e : E) {ex : Expr} {sc : Scope} {top : Bool} {X : Cx} {W : WX}, chkT g N sc e ex = true → CxE X g C xp N sc top → Takes X W → PT X ex (TTs X.K xp W C e)
  | .and a b, ex, sc, top, X, W, h, c, tk => by
    simp only [chkT] at h
    split at h
    · simp only [Bool.and_eq_true] at h
      exact (sW_and (tW_ok c (fun z => chkE_ok a z c tk) (fun z => chkT_ok a z c tk) h.1) (tail_and (tW_ok c (fun z => chkE_ok b z c tk) (fun z => chkT_ok b z c tk) h.2))).pt
    · cases h
  | .or a b, ex, sc, top, X, W, h, c, tk => by
    simp only [chkT] at h
    split at h
    · simp only [Bool.and_eq_true] at h
      exact (sW_or (tW_ok c (fun z => chkE_ok a z c tk) (fun z => chkT_ok a z c tk) h.1) (tail_or (tW_ok c (fun z => chkE_ok b z c tk) (fun z => chkT_ok b z c tk) h.2))).pt
    · cases h
  | .not a, ex, sc, top, X, W, h, c, tk => by
    simp only [chkT] at h
    split at h
    · exact sT_not (tW_ok c (fun z => chkE_ok a z c tk) (fun z => chkT_ok a z c tk) h)
    · cases h
  | .cmp o a b, ex, sc, top, X, W, h, c, tk => by
    simp only [chkT] at h
    split at h
    · simp only [Bool.and_eq_true, decide_eq_true_eq, Bool.not_eq_true'] at h
      obtain ⟨⟨⟨rfl, h1⟩, h2⟩, h3⟩ := h
      exact sT_cmp c.c0 (oW_ok c (fun z => chkE_ok a z c tk) h1) (oW_ok c (fun z => chkE_ok b z c tk) h2) h3
    · cases h
  | .chain o p a b d, ex, sc, top, X, W, h, c, tk => by
    simp only [chkT] at h
    split at h
    · simp only [Bool.and_eq_true, decide_eq_true_eq, Bool.not_eq_true'] at h
      obtain ⟨⟨⟨⟨⟨rfl, rfl⟩, h1⟩, h2⟩, h3⟩, h4⟩ := h
      exact sT_chain c.c0 (oW_ok c (fun z => chkE_ok a z c tk) h1) (oW_ok c (fun z => chkE_ok b z c tk) h2) (oW_ok c (fun z => chkE_ok d z c tk) h3) h4
    · cases h
  | .isN a, ex, sc, top, X, W, h, c, tk => by
    simp only [chkT] at h
    split at h
    · exact sT_isN (oW_ok c (fun z => chkE_ok a z c tk) h)
    · cases h
  | .notN a, ex, sc, top, X, W, h, c, tk => by
    simp only [chkT] at h
    split at h
    · exact sT_notN (oW_ok c (fun z => chkE_ok a z c tk) h)
    · cases h
  | .k _, ex, sc, top, X, W, h, c, tk => by cases h
  | .g _, ex, sc, top, X, W, h, c, tk => by cases h
  | .v _, ex, sc, top, X, W, h, c, tk => by cases h
  | .mv _, ex, sc, top, X, W, h, c, tk => by cases h
  | .bo _, ex, sc, top, X, W, h, c, tk => by cases h
  | .io _, ex, sc, top, X, W, h, c, tk => by cases h
  | .tup _, ex, sc, top, X, W, h, c, tk => by cases h
  | .lst _, ex, sc, top, X, W, h, c, tk => by cases h
  | .bin _ _ _, ex, sc, top, X, W, h, c, tk => by cases h
  | .neg _, ex, sc, top, X, W, h, c, tk => by cases h
  | .ite _ _ _, ex, sc, top, X, W, h, c, tk => by cases h
  | .idx _ _, ex, sc, top, X, W, h, c, tk => by cases h
  | .slc _ _ _, ex, sc, top, X, W, h, c, tk => by cases h
  | .call _ _, ex, sc, top, X, W, h, c, tk => by cases h
  | .bi _ _, ex, sc, top, X, W, h, c, tk => by cases h
  | .isi _ _, ex, sc, top, X, W, h, c, tk => by cases h
  | .met _ _ _, ex, sc, top, X, W, h, c, tk => by cases h
  | .isB _ _, ex, sc, top, X, W, h, c, tk => by cases h
  | .rl _ _, ex, sc, top, X, W, h, c, tk => by cases h
  | .ss _, ex, sc, top, X, W, h, c, tk => by cases h
  | .isX _, ex, sc, top, X, W, h, c, tk => by cases h
  | .rng1 _, ex, sc, top, X, W, h, c, tk => by cases h
  | .rng2 _ _, ex, sc, top, X, W, h, c, tk => by cases h
  | .enu _, ex, sc, top, X, W, h, c, tk => by cases h
  | .zp _ _, ex, sc, top, X, W, h, c, tk => by cases h
  | .itr _, ex, sc, top, X, W, h, c, tk => by cases h
  | .lc _ _ _, ex, sc, top, X, W, h, c, tk => by cases h
  | .lci _ _ _ _, ex, sc, top, X, W, h, c, tk => by cases h
  | .lc2 _ _ _ _ _, ex, sc, top, X, W, h, c, tk => by cases h
theorem chkI_ok : ∀ (e : E) {t : Tg} {tg ex : Expr} {sc : Scope} {top : Bool} {X : Cx} {W : WX}, chkI g N sc t e tg ex = true → CxE X g C xp N sc top → Takes X W → PI X tg ex (TIt X.K xp W C t e)
  | .rng1 a, t, tg, ex, sc, top, X, W, h, c, tk => by
    simp only [chkI] at h
    split at h
    · simp only [Bool.and_eq_true, decide_eq_true_eq] at h
      obtain ⟨⟨⟨⟨rfl, h1⟩, h2⟩, h3⟩, h4⟩ := h
      exact i_rng1 (glB_ok h1 c.c0.scope).1 (c.free _ (List.contains_iff_mem.mp h2)) (oW_ok c (fun z => chkE_ok a z c tk) h3) h4
    · cases h
  | .rng2 a b, t, tg, ex, sc, top, X, W, h, c, tk => by
    simp only [chkI] at h
    split at h
    · simp only [Bool.and_eq_true, decide_eq_true_eq] at h
      obtain ⟨⟨⟨⟨⟨⟨rfl, h1⟩, h2⟩, h3⟩, h4⟩, h5⟩, h6⟩ := h
      exact i_rng2 (glB_ok h1 c.c0.scope).1 (c.free _ (List.contains_iff_mem.mp h2)) (oW_ok c (fun z => chkE_ok a z c tk) h3) (oW_ok c (fun z => chkE_ok b z c tk) h5) h4 h6
    · cases h
  | .enu a, t, tg, ex, sc, top, X, W, h, c, tk => by
    simp only [chkI] at h
    split at h
    · simp only [Bool.and_eq_true, decide_eq_true_eq] at h
      obtain ⟨⟨⟨⟨⟨h0, rfl⟩, h1⟩, h2⟩, h3⟩, h4⟩ := h
      cases t with
      | n _ => cases h0
      | t ts => exact i_enu (glB_ok h1 c.c0.scope).1 (c.free _ (List.contains_iff_mem.mp h2)) (oW_ok c (fun z => chkE_ok a z c tk) h3) h4
    · cases h
  | .zp a b, t, tg, ex, sc, top, X, W, h, c, tk => by
    simp only [chkI] at h
    split at h
    · simp only [Bool.and_eq_true, decide_eq_true_eq] at h
      obtain ⟨⟨⟨⟨⟨⟨⟨h0, rfl⟩, h1⟩, h2⟩, h3⟩, h4⟩, h5⟩, h6⟩ := h
      cases t with
      | n _ => cases h0
      | t ts => exact i_zp (glB_ok h1 c.c0.scope).1 (c.free _ (List.contains_iff_mem.mp h2)) (oW_ok c (fun z => chkE_ok a z c tk) h3) (oW_ok c (fun z => chkE_ok b z c tk) h5) h4 h6
    · cases h
  | .itr a, t, tg, ex, sc, top, X, W, h, c, tk => by
    simp only [chkI] at h
    exact i_itr (oW_ok c (fun z => chkE_ok a z c tk) h)
  | .k _, t, tg, ex, sc, top, X, W, h, c, tk => by cases h
  | .g _, t, tg, ex, sc, top, X, W, h, c, tk => by cases h
  | .v _, t, tg, ex, sc, top, X, W, h, c, tk => by cases h
  | .mv _, t, tg, ex, sc, top, X, W, h, c, tk => by cases h
  | .bo _, t, tg, ex, sc, top, X, W, h, c, tk => by cases h
  | .io _, t, tg, ex, sc, top, X, W, h, c, tk => by cases h
  | .tup _, t, tg, ex, sc, top, X, W, h, c, tk => by cases h
  | .lst _, t, tg, ex, sc, top, X, W, h, c, tk => by cases h
  | .bin _ _ _, t, tg, ex, sc, top, X, W, h, c, tk => by cases h
  | .neg _, t, tg, ex, sc, top, X, W, h, c, tk => by cases h
  | .cmp _ _ _, t, tg, ex, sc, top, X, W, h, c, tk => by cases h
  | .chain _ _ _ _ _, t, tg, ex, sc, top, X, W, h, c, tk => by cases h
  | .isN _, t, tg, ex, sc, top, X, W, h, c, tk => by cases h
  | .notN _, t, tg, ex, sc, top, X, W, h, c, tk => by cases h
  | .and _ _, t, tg, ex, sc, top, X, W, h, c, tk => by cases h
  | .or _ _, t, tg, ex, sc, top, X, W, h, c, tk => by cases h
  | .not _, t, tg, ex, sc, top, X, W, h, c, tk => by cases h
  | .ite _ _ _, t, tg, ex, sc, top, X, W, h, c, tk => by cases h
  | .idx _ _, t, tg, ex, sc, top, X, W, h, c, tk => by cases h
  | .slc _ _ _, t, tg, ex, sc, top, X, W, h, c, tk => by cases h
  | .call _ _, t, tg, ex, sc, top, X, W, h, c, tk => by cases h
  | .bi _ _, t, tg, ex, sc, top, X, W, h, c, tk => by cases h
  | .isi _ _, t, tg, ex, sc, top, X, W, h, c, tk => by cases h
  | .met _ _ _, t, tg, ex, sc, top, X, W, h, c, tk => by cases h
  | .isB _ _, t, tg, ex, sc, top, X, W, h, c, tk => by cases h
  | .rl _ _, t, tg, ex, sc, top, X, W, h, c, tk => by cases h
  | .ss _, t, tg, ex, sc, top, X, W, h, c, tk => by cases h
  | .isX _, t, tg, ex, sc, top, X, W, h, c, tk => by cases h
  | .lc _ _ _, t, tg, ex, sc, top, X, W, h, c, tk => by cases h
  | .lci _ _ _ _, t, tg, ex, sc, top, X, W, h, c, tk => by cases h
  | .lc2 _ _ _ _ _, t, tg, ex, sc, top, X, W, h, c, tk => by cases h
end
end
end Ev

/-! Ev18: the check of statements against the text. -/
namespace Ev
open PySem PySem.Spec PyProof.Rows L2
/-- is the pair of names stored from the right -/
def swpB (sc : Scope) (x y : Str) (px py : Pos) (a b : Expr) : Bool :=
  decide (sc.names.lookup x = some .local) && decide (sc.names.lookup y = some .local) && (py.line == px.line) && !(x == y) && !(y == x) && noStar a && noStar b && !([a, b].all (foldedForSure 8)) && !([a, b].all (constantsAlone 8))
/-- no stores from the right -/
def swNo (tg ex : Expr) : Bool := match tg, ex with
  | .Tuple ts _ _, .Tuple vs _ _ => vs.all (foldedForSure 8) || !(ts.length == 2 || ts.length == 3)
  | .List _ _, _ => false
  | _, _ => true
/-- is a comprehension stored at once -/
def swB (sc : Scope) (y : Str) (py : Pos) (scope : Scope) (pos : Pos) : Bool :=
  decide (sc.names.lookup y = some .local) && (py.line == pos.line) && !(scope.names.any fun (n, k) => n == y && (k == .local || k == .cell))
/-- a name that an inner block reads -/
def cellT (sc : Scope) (tg : Expr) : Bool := match tg with
  | .Name y _ => decide (sc.names.lookup y = some .cell)
  | _ => false
theorem swaps_cell {e : Expr} {x : Str} {p : Pos} {l : Nat} {env : PySem.Env} (h : env.scope.names.lookup x = some .cell) : swapsWith e (some (.Name x p)) l env = pure false := by
  have hk : (env.kindOf x == some NameKind.local) = false := by
    unfold Env.kindOf
    rw [h]
    rfl
  unfold swapsWith
  cases e <;> first | rfl | (simp only [hk, Bool.and_false, Bool.false_and])
section
variable {X : Cx} {xp : Xp} {W : WX} {C : Cf} {io : List Nat} {ex : Expr} {a : E} {pos : Pos}
theorem s_setC {i : Nat} {x : Str} {p2 : Pos} (hN : X.N.Nodup) (hi : X.N[i]? = some x) (hx : Loc X.env.scope x) (hf : X.fn x = true ∨ X.env.scope.names.lookup x = some .local) (h : PE X ex (TV X.K xp W C a)) (hc : X.env.scope.names.lookup x = some .cell) : PS X (.Assign [.Name x p2] ex pos) (TSt X.K xp W C io (.asg (.n i) a)) := by
  refine ps_imp (ps_set hN hi hx h (swaps_cell hc) hf) fun D σ H ⟨r, F, A, w, q⟩ => ⟨r, F, A, w, ?_⟩
  simp only [evS] at q
  refine PF.flV q fun u r1 v F1 H1 A1 B s1 w1 rv q1 => ?_
  split at q1
  · rename_i hf
    simp only [bindV] at q1
    split at q1
    · rename_i r2 e
      split at e
      · rename_i hlt
        cases e
        have w1' : Wf X.K F1 H1 σ r1 A1 (B ++ []) := by rw [List.append_nil]; exact w1
        obtain ⟨A', w', m⟩ := w1'.store hlt rv
        exact q1 _ F1 H1 A' (s1.perm (fun p h => h) m) w' (.set fun hio => freeT_no hf i hio (by simp [slT]))
      · cases e
    · exact q1.elim
  · exact q1.elim
end
def kindB (sc : Scope) : Bool := match sc.kind with
  | .function => true
  | _ => false
/-- the names of a chained assignment -/
def chkTs (N : List Str) (sc : Scope) : List Nat → List Expr → Bool
  | [], [] => true
  | i :: is, t :: ts => chkG N sc true (.n i) t && noStar t && chkTs N sc is ts
  | _, _ => false
/-- the suite of an except clause -/
def chkU1 (N : List Str) (sc : Scope) : S → Stmt → Bool
  | .asg (.n i) (.k d), st => match st with
    | .Assign [.Name x _] (.Constant c _ _) _ => decide (N[i]? = some x) && locB true sc x && constB d c
    | _ => false
  | .ret (.k d), st => match st with
    | .Return (some (.Constant c _ _)) _ => constB d c
    | _ => false
  | .pass, st => match st with
    | .Pass _ => true
    | _ => false
  | _, _ => false
def chkU (N : List Str) (sc : Scope) : List S → List Stmt → Bool
  | [], [] => true
  | s :: ss, t :: ts => chkU1 N sc s t && chkU N sc ss ts
  | _, _ => false
def chkHs (g : Gc) (N : List Str) (sc : Scope) : List (Nat × List S) → List ExceptHandler → Bool
  | [], [] => true
  | (c, ss) :: hs, h :: hds => (match h with
    | .ExceptHandler (some (.Name x _)) none (b :: suite) _ => decide (g.cls.lookup x = some c) && glB sc x && chkU N sc ss (b :: suite)
    | _ => false) && chkHs g N sc hs hds
  | _, _ => false
/-- the suite of except .. as n -/
def chkA1 (g : Gc) (N : List Str) (sc : Scope) (i : Nat) (n : Str) : S → Stmt → Bool
  | .asg (.n j) (.isX h), st => match st with
    | .Assign [.Name y _] (.Call (.Name f _) [.Name m _, .Name T _] [] _) _ => decide (f = "isinstance") && decide (m = n) && nmB N sc i m && decide (N[j]? = some y) && locB true sc y && glB sc f && g.free.contains f && g.ky && glB sc T && (decide (g.cls.lookup T = some h) || (decide (T = "ValueError") && decide (h = 1000) && g.free.contains T))
    | _ => false
  | s, st => chkU1 N sc s st
def chkA (g : Gc) (N : List Str) (sc : Scope) (i : Nat) (n : Str) : List S → List Stmt → Bool
  | [], [] => true
  | s :: ss, t :: ts => chkA1 g N sc i n s t && chkA g N sc i n ss ts
  | _, _ => false
mutual
def chkS (g : Gc) (N : List Str) (sc : Scope) : S → Stmt → Bool
  | .never, _ => true
  | .asg t e, st => match st with
    | .Assign [tg] ex _ => chkG N sc true t tg && ((cellT sc tg && chkE g N sc e ex) || match tg, ex, e with
      | .Name y py, .ListComp el [⟨tg2, iter, [], 0⟩, ⟨tg3, iter3, [], 0⟩] scope p2, .lc2 t2 it t3 it3 elt => chkI g N sc t2 it tg2 iter && blkC N sc scope (ownN N (slT t2 ++ slT t3)) && chkG N (relS scope sc) false t2 tg2 && chkI g N (relS scope sc) t3 it3 tg3 iter3 && chkG N (relS scope sc) false t3 tg3 && chkE g N (relS scope sc) elt el && !isSetE iter && !isSetE iter3 && swB sc y py scope p2
      | .Name y py, .ListComp el [⟨tg2, iter, [], 0⟩] scope p2, .lc t2 it elt => chkI g N sc t2 it tg2 iter && blkC N sc scope (ownN N (slT t2)) && chkG N (relS scope sc) false t2 tg2 && chkE g N (relS scope sc) elt el && !isSetE iter && swB sc y py scope p2
      | .Name y py, .ListComp el [⟨tg2, iter, [cnd], 0⟩] scope p2, .lci t2 it cd elt => chkI g N sc t2 it tg2 iter && blkC N sc scope (ownN N (slT t2)) && chkG N (relS scope sc) false t2 tg2 && tW N (relS scope sc) cd cnd (chkE g N (relS scope sc) cd cnd) (chkT g N (relS scope sc) cd cnd) && chkE g N (relS scope sc) elt el && !isSetE iter && swB sc y py scope p2
      | _, _, _ => chkE g N sc e ex && !isComp ex && swNo tg ex)
    | _ => false
  | .par i j a b, st => match st with
    | .Assign [.Tuple [.Name x px, .Name y py] _ _] (.Tuple [ea, eb] _ _) _ => decide (N[i]? = some x) && decide (N[j]? = some y) && decide (i ≠ j) && chkE g N sc a ea && chkE g N sc b eb && swpB sc x y px py ea eb
    | _ => false
  | .asgs is e, st => match st with
    | .Assign (.Name x px :: t2 :: ts) ex _ => chkTs N sc is (.Name x px :: t2 :: ts) && chkE g N sc e ex
    | _ => false
  | .sto i k e, st => match st with
    | .Assign [.Subscript (.Name x _) ix _] ex _ => nmB N sc i x && plainIxB ix && oW N sc k ix (chkE g N sc k ix) && oW N sc e ex (chkE g N sc e ex)
    | _ => false
  | .aug i o e, st => match st with
    | .AugAssign (.Name x _) op ex _ => decide (op = bop o) && decide (N[i]? = some x) && locB true sc x && oW N sc e ex (chkE g N sc e ex)
    | _ => false
  | .augl i e, st => match st with
    | .AugAssign (.Name x _) .Add ex _ => decide (N[i]? = some x) && locB true sc x && chkE g N sc e ex
    | _ => false
  | .mth m i es, st => match st with
    | .Expr (.Call (.Attribute (.Name x _) nm apos) exs [] cpos) _ => nmB N sc i x && decide (nm = mNm m) && (apos.endLine == cpos.line) && chkOs g N sc es exs && decide (exs.length < 20)
    | _ => false
  | .ex e, st => match st with
    | .Expr ex _ => chkE g N sc e ex && !isComp ex
    | _ => false
  | .ret e, st => match st with
    | .Return (some ex) _ => chkE g N sc e ex
    | _ => false
  | .retN, st => match st with
    | .Return none _ => true
    | _ => false
  | .pass, st => match st with
    | .Pass _ => true
    | .Expr (.Constant (.str _) _ _) _ => true
    | _ => false
  | .brk, st => match st with
    | .Break _ => true
    | _ => false
  | .cont, st => match st with
    | .Continue _ => true
    | _ => false
  | .ife t a b, st => match st with
    | .If c x y _ => tW N sc t c (chkE g N sc t c) (chkT g N sc t c) && chkSs g N sc a x && chkSs g N sc b y
    | _ => false
  | .whl t b, st => match st with
    | .While c x [] _ => tW N sc t c (chkE g N sc t c) (chkT g N sc t c) && chkSs g N sc b x
    | _ => false
  | .forr t it b, st => match st with
    | .For tg iter x [] _ => chkI g N sc t it tg iter && chkG N sc true t tg && chkSs g N sc b x && !isSetE iter
    | _ => false
  | .rais c e, st => match st with
    | .Raise (some (.Call (.Name x _) [ex] [] _)) none _ => decide (g.cls.lookup x = some c) && g.pln.contains c && glB sc x && oW N sc e ex (chkE g N sc e ex) && noStar ex
    | _ => false
  | .tryx b hs, st => match st with
    | .Try x (h :: hds) [] [] _ => chkSs g N sc b x && chkHs g N sc hs (h :: hds)
    | _ => false
  | .trya b k i hs, st => match st with
    | .Try x [.ExceptHandler (some (.Name y _)) (some n) (b0 :: suite) _] [] [] _ => chkSs g N sc b x && decide (g.cls.lookup y = some k) && glB sc y && decide (N[i]? = some n) && decide (sc.names.lookup n = some .local) && chkA g N sc i n hs (b0 :: suite)
    | _ => false
termination_by structural x _ => x
def chkSs (g : Gc) (N : List Str) (sc : Scope) : List S → List Stmt → Bool
  | [], [] => true
  | s :: ss, t :: ts => chkS g N sc s t && chkSs g N sc ss ts
  | _, _ => false
termination_by structural x _ => x
end
section
variable {X : Cx} {g : Gc} {N : List Str} {sc : Scope} {xp : Xp} {W : WX} {C : Cf}
theorem ps_bad {st : Stmt} {io : List Nat} {s : S} (h : ∀ r, evS C io s r = .bad) : PS X st (TSt X.K xp W C io s) := ps_imp ps_never fun D σ H ⟨r, F, A, w, q⟩ => by
  rw [h] at q
  exact q
theorem swNo_ok {tg ex : Expr} {env : PySem.Env} (h : swNo tg ex = true) : swappedStores [tg] ex env = pure none := by
  cases tg with
  | Tuple ts k p =>
    cases ex with
    | Tuple vs k2 p2 =>
      simp only [swNo] at h
      unfold swappedStores
      dsimp only
      split
      · rfl
      · rename_i h1
        simp only [Bool.or_eq_true] at h
        rcases h with h | h
        · split
          · rfl
          · split
            · rfl
            · first
              | rfl
              | (rw [if_pos h]; rfl)
        · exfalso
          apply h1
          rw [h]
          rfl
    | _ => rfl
  | List _ _ => cases h
  | _ => cases ex <;> rfl
theorem swp_ok {x y : Str} {px py pt : Pos} {kt k2 : Nat} {pt2 : Pos} {a b : Expr} (h : swpB sc x y px py a b = true) (e : X.env.scope = sc) (hk : sc.kind = .function) : swappedStores [.Tuple [.Name x px, .Name y py] kt pt] (.Tuple [a, b] k2 pt2) X.env = pure (some [x, y]) := by
  simp only [swpB, Bool.and_eq_true, decide_eq_true_eq, Bool.not_eq_true'] at h
  obtain ⟨⟨⟨⟨⟨⟨⟨⟨h1, h2⟩, h3⟩, h4⟩, h5⟩, h6⟩, h7⟩, h8⟩, h9⟩ := h
  have hb : X.env.blockKind = .function := by unfold Env.blockKind; rw [e, hk]; rfl
  have kx : X.env.kindOf x = some .local := by unfold Env.kindOf; rw [e]; exact h1
  have ky : X.env.kindOf y = some .local := by unfold Env.kindOf; rw [e]; exact h2
  unfold swappedStores
  dsimp only
  split
  · rename_i z
    exfalso
    simp [hb] at z
  · split
    · rename_i z
      exfalso
      simp only [List.any_cons, List.any_nil, Bool.or_false, Bool.or_eq_true] at z
      rcases z with z | z
      · cases a <;> first | (cases z; done) | (cases h6; done)
      · cases b <;> first | (cases z; done) | (cases h7; done)
    · have hl : (px.line == px.line) = true := beq_self_eq_true _
      generalize eq : List.filterMap _ [Expr.Name x px, Expr.Name y py] = nm
      have en : nm = [x, y] := by
        rw [← eq]
        simp only [List.filterMap, List.head?, Option.map, Option.getD, Expr.pos, kx, ky, h3, hl]
        rfl
      rw [en]
      have ee : ([x, y] : List Str).eraseDups = [x, y] := by
        simp [List.eraseDups_cons, h4, h5]
      rw [ee]
      rw [if_neg (by simp)]
      rw [if_neg (by simp only [h8]; decide), if_neg (by simp only [h9]; decide)]
/-- what a def's body stands in -/
structure CxS (X : Cx) (g : Gc) (C : Cf) (xp : Xp) (N : List Str) (sc : Scope) (W : WX) : Prop where
  e : CxE X g C xp N sc true
  tk : Takes X W
  po : PassesOwn (model X.prog X.w) X.A X.env X.xe
  kind : sc.kind = .function
  st : X.stack = X.env :: X.outer
  fr : X.env.frame = some X.env.locals
  cls : ∀ x i, g.cls.lookup x = some i → ∃ CA, X.mg x = some (.ref CA) ∧ xp.cl i = .ref CA ∧ (i ∈ g.pln → PySem.W.excIn X.K CA [.type "ValueError", .type "Exception", .type "BaseException", .type "object"] "ValueError.__new__" = true ∧ PySem.W.keepIn X.K (.ref CA) = true ∧ Raises X (.ref CA) ∧ C.bears i = false)
  sub : SubOk X.K xp C
  kit : g.ky = true → KitOk X.K xp C ∧ xp.cl 1000 = .type "ValueError"
theorem swMany {x : Str} {px : Pos} {t2 : Expr} {ts : List Expr} {ex : Expr} {env : PySem.Env} : swappedStores (.Name x px :: t2 :: ts) ex env = pure none := rfl
theorem chkTs_ok (c : CxS X g C xp N sc W) : ∀ {is : List Nat} {ts : List Expr}, chkTs N sc is ts = true → Tgts X ts is
  | [], [], _ => .nil
  | [], _ :: _, h => by cases h
  | _ :: _, [], h => by cases h
  | i :: is, t :: ts, h => by
    simp only [chkTs, Bool.and_eq_true] at h
    exact .cons (chkG_ok c.e.calm c.e.c0.n c.e.c0.nd c.e.c0.scope c.e.fn h.1.1) h.1.2 (chkTs_ok c h.2)
theorem constB_V {X : Cx} {W : WX} {d : PyData} {k : Const} {n : Nat} {pos : Pos} (h : constB d k = true) : PE X (.Constant k n pos) (TV X.K xp W C (.k d)) := by
  cases d <;> cases k <;> simp only [constB] at h <;> first | (cases h; done) | skip
  · exact sV_con pe_non rfl
  · rw [beq_iff_eq] at h
    subst h
    exact sV_con pe_bl rfl
  · rw [decide_eq_true_eq] at h
    subst h
    exact sV_con pe_int rfl
  · rw [decide_eq_true_eq] at h
    subst h
    exact sV_con pe_str rfl
theorem chkU1_ok {X : Cx} {W' : WX} {io : List Nat} {s : S} {st : Stmt} (hN : X.N = N) (hnd : N.Nodup) (hsc : X.env.scope = sc) (hf : ∀ z, X.fn z = true) (h : chkU1 N sc s st = true) : PS X st (TSt X.K xp W' C io s) := by
  unfold chkU1 at h
  split at h
  · split at h
    · simp only [Bool.and_eq_true, decide_eq_true_eq] at h
      obtain ⟨l1, l2⟩ := locB_ok h.1.2 hsc (fun _ => hf)
      exact s_set (by rw [hN]; exact hnd) (by rw [hN]; exact h.1.1) l1 l2 (constB_V h.2) rfl
    · cases h
  · split at h
    · exact s_ret (constB_V h)
    · cases h
  · split at h
    · exact s_pass
    · cases h
  · cases h
theorem chkU_ok {X : Cx} {W' : WX} {io : List Nat} (hN : X.N = N) (hnd : N.Nodup) (hsc : X.env.scope = sc) (hf : ∀ z, X.fn z = true) : ∀ {ss : List S} {sts : List Stmt}, chkU N sc ss sts = true → PSs X sts (TSts X.K xp W' C io ss)
  | [], [], _ => ss_nil
  | [], _ :: _, h => by cases h
  | _ :: _, [], h => by cases h
  | s :: ss, t :: ts, h => by
    simp only [chkU, Bool.and_eq_true] at h
    exact ss_cons (chkU1_ok hN hnd hsc hf h.1) (chkU_ok hN hnd hsc hf h.2)
theorem chkHs_ok (c : CxS X g C xp N sc W) {io : List Nat} : ∀ {hs : List (Nat × List S)} {hds : List ExceptHandler}, chkHs g N sc hs hds = true → HdsR X xp C io hds hs
  | [], [], _ => .nil
  | [], _ :: _, h => by cases h
  | (_, _) :: _, [], h => by cases h
  | (k, ss) :: hs, h0 :: hds, h => by
    simp only [chkHs, Bool.and_eq_true] at h
    obtain ⟨h1, h2⟩ := h
    split at h1
    · simp only [Bool.and_eq_true, decide_eq_true_eq] at h1
      obtain ⟨⟨g1, g2⟩, g3⟩ := h1
      obtain ⟨CA, q1, q2, _⟩ := c.cls _ _ g1
      obtain ⟨g4, g5⟩ := glB_ok g2 c.e.c0.scope
      exact .cons ⟨g4, g5, .inl (by rw [q2]; exact q1)⟩ (fun a pn => chkU_ok (X := X.suite a pn) c.e.c0.n c.e.c0.nd c.e.c0.scope (c.e.fn rfl) g3) (chkHs_ok c h2)
    · cases h1
theorem chkA1_ok (c : CxS X g C xp N sc W) {io : List Nat} {a : Addr} {oe : Obj} {pn : List (Addr × Obj)} {k i : Nat} {n : Str} {fs : List PyData} (hz : Zc (xp.cl k) none oe) (hf : ∃ vs, oe.data = .fields vs) {s : S} {st : Stmt} (h : chkA1 g N sc i n s st = true) :
    PS (X.suite a ((a, oe) :: pn)) st (JSt X.K xp ⟨C.call, C.G, C.w, C.bears, C.sub, k, fs⟩ io i a s) := by
  unfold chkA1 at h
  split at h
  · split at h
    · simp only [Bool.and_eq_true, decide_eq_true_eq] at h
      obtain ⟨⟨⟨⟨⟨⟨⟨⟨⟨h1, h2⟩, h3⟩, h4⟩, h5⟩, h6⟩, h7⟩, h8⟩, h9⟩, h10⟩ := h
      obtain ⟨l1, l2⟩ := locB_ok h5 c.e.c0.scope (fun _ => c.e.fn rfl)
      simp only [nmB, Bool.and_eq_true, decide_eq_true_eq] at h3
      obtain ⟨v1, v2, v3⟩ := visB_ok h3.2
      obtain ⟨kt, ve⟩ := c.kit h8
      subst h1
      obtain ⟨gi, _⟩ := glB_ok h6 c.e.c0.scope
      obtain ⟨gT, dT⟩ := glB_ok h9 c.e.c0.scope
      refine j_isX hz hf kt (by rw [c.e.c0.n]; exact c.e.c0.nd) (by rw [c.e.c0.n]; exact h4) l1 l2 (pe_var (by show X.N[i]? = _; rw [c.e.c0.n]; exact h3.1) (by show Vis X.env.scope _; rw [c.e.c0.scope]; exact v1) v2 v3) gi (c.e.free _ (List.contains_iff_mem.mp h7)) ?_
      simp only [Bool.or_eq_true, Bool.and_eq_true, decide_eq_true_eq] at h10
      rcases h10 with q | ⟨⟨q1, q2⟩, q3⟩
      · obtain ⟨CA, q4, q5, _⟩ := c.cls _ _ q
        exact ⟨.ref CA, pe_glob gT q4 rfl dT, fun u r => by rw [q5]; exact r⟩
      · subst q1 q2
        exact ⟨.ty "ValueError", pe_bltn gT (c.e.free _ (List.contains_iff_mem.mp q3)) (by decide +kernel) rfl (by decide) dT, fun u r => by rw [ve]; exact r⟩
    · cases h
  · exact j_of (chkU1_ok (X := X.suite a ((a, oe) :: pn)) c.e.c0.n c.e.c0.nd c.e.c0.scope (c.e.fn rfl) h)
theorem chkA_ok (c : CxS X g C xp N sc W) {io : List Nat} {a : Addr} {oe : Obj} {pn : List (Addr × Obj)} {k i : Nat} {n : Str} {fs : List PyData} (hz : Zc (xp.cl k) none oe) (hf : ∃ vs, oe.data = .fields vs) : ∀ {ss : List S} {sts : List Stmt}, chkA g N sc i n ss sts = true →
    PSs (X.suite a ((a, oe) :: pn)) sts (JSts X.K xp ⟨C.call, C.G, C.w, C.bears, C.sub, k, fs⟩ io i a ss)
  | [], [], _ => j_nil
  | [], _ :: _, h => by cases h
  | _ :: _, [], h => by cases h
  | s :: ss, t :: ts, h => by
    simp only [chkA, Bool.and_eq_true] at h
    exact j_cons (chkA1_ok c hz hf h.1) (chkA_ok c hz hf h.2)
/-- the same where a try watches -/
theorem CxS.tr {W' : WX} (c : CxS X g C xp N sc W) (pn : List (Addr × Obj)) (xe : Value → Shared → Prop) (tk : Takes (X.tr pn xe) W') (po : PassesOwn (model X.prog X.w) X.A X.env xe) : CxS (X.tr pn xe) g C xp N sc W' :=
  ⟨⟨⟨c.e.c0.n, c.e.c0.scope, c.e.c0.nd, c.e.c0.hu⟩, c.e.fns, c.e.cons, c.e.free, c.e.calm, c.e.fn⟩, tk, po, c.kind, c.st, c.fr, c.cls, c.sub, c.kit⟩
mutual
theorem chkS_ok : ∀ (s : S) {st : Stmt} {X : Cx} {W : WX} (io : List Nat), chkS g N sc s st = true → CxS X g C xp N sc W → PS X st (TSt X.K xp W C io s)
  | .never, st, X, W, io, h, c => ps_bad fun r => rfl
  | .asg t e, st, X, W, io, h, c => by
    have hnd : X.N.Nodup := by rw [c.e.c0.n]; exact c.e.c0.nd
    simp only [chkS] at h
    split at h
    · rename_i tg ex pos
      simp only [Bool.and_eq_true] at h
      obtain ⟨hg, h⟩ := h
      have pg : PG X tg (TGv X.K t) := chkG_ok c.e.calm c.e.c0.n c.e.c0.nd c.e.c0.scope c.e.fn hg
      rw [Bool.or_eq_true] at h
      rcases h with hcell | h
      · simp only [Bool.and_eq_true] at hcell
        obtain ⟨hcell, h1⟩ := hcell
        have pe := chkE_ok (xp := xp) (C := C) e h1 c.e c.tk
        cases tg with
        | Name y py =>
          simp only [cellT, decide_eq_true_eq] at hcell
          cases t with
          | n i =>
            simp only [chkG, Bool.and_eq_true, decide_eq_true_eq] at hg
            obtain ⟨l1, l2⟩ := locB_ok hg.2 c.e.c0.scope c.e.fn
            exact s_setC hnd (by rw [c.e.c0.n]; exact hg.1) l1 l2 pe (by rw [c.e.c0.scope]; exact hcell)
          | t ts => cases hg
        | _ => cases hcell
      split at h
      · rename_i y py el tg2 iter tg3 iter3 scope p2 t2 it t3 it3 elt
        simp only [Bool.and_eq_true, Bool.not_eq_true'] at h
        obtain ⟨⟨⟨⟨⟨⟨⟨⟨h1, h2⟩, h3⟩, h4⟩, h5⟩, h6⟩, h7⟩, h8⟩, h9⟩ := h
        simp only [swB, Bool.and_eq_true, decide_eq_true_eq, Bool.not_eq_true'] at h9
        cases t with
        | t ts => cases hg
        | n i =>
          simp only [chkG, Bool.and_eq_true, decide_eq_true_eq] at hg
          refine s_setLc2 c.e.calm hnd (by rw [c.e.c0.n]; exact hg.1) (by rw [c.e.c0.scope]; exact h9.1.1) (sw_true (by rw [c.e.c0.scope]; exact c.kind) (by rw [c.e.c0.scope]; exact h9.1.1) h9.1.2 h9.2) (chkI_ok it h1 c.e c.tk) (by rw [c.e.c0.n, c.e.c0.scope]; exact blkOk_by h2) (fun s H D cl fp => ?_) (fun s H D cl fp => ?_) (fun s H D cl fp => ?_) (fun s H D cl fp => ?_) (folded_no h7) (fun env => folded_no h8)
          · exact chkG_ok (X := X.blk s H _ (compEnvC _ cl D X.env) fp) c.e.calm c.e.c0.n c.e.c0.nd (c.e.blk s H D cl fp).c0.scope (fun z => by cases z) h3
          · exact chkI_ok it3 h4 (c.e.blk s H D cl fp) takes0
          · exact chkG_ok (X := X.blk s H _ (compEnvC _ cl D X.env) fp) c.e.calm c.e.c0.n c.e.c0.nd (c.e.blk s H D cl fp).c0.scope (fun z => by cases z) h5
          · exact chkE_ok elt h6 (c.e.blk s H D cl fp) takes0
      · rename_i y py el tg2 iter scope p2 t2 it elt
        simp only [Bool.and_eq_true, Bool.not_eq_true'] at h
        obtain ⟨⟨⟨⟨⟨h1, h2⟩, h3⟩, h4⟩, h5⟩, h6⟩ := h
        simp only [swB, Bool.and_eq_true, decide_eq_true_eq, Bool.not_eq_true'] at h6
        cases t with
        | t ts => cases hg
        | n i =>
          simp only [chkG, Bool.and_eq_true, decide_eq_true_eq] at hg
          refine s_setLc c.e.calm hnd (by rw [c.e.c0.n]; exact hg.1) (by rw [c.e.c0.scope]; exact h6.1.1) (sw_true (by rw [c.e.c0.scope]; exact c.kind) (by rw [c.e.c0.scope]; exact h6.1.1) h6.1.2 h6.2) (chkI_ok it h1 c.e c.tk) (by rw [c.e.c0.n, c.e.c0.scope]; exact blkOk_by h2) (fun s H D cl fp => ?_) (fun s H D cl fp => ?_) (folded_no h5)
          · exact chkG_ok (X := X.blk s H _ (compEnvC _ cl D X.env) fp) c.e.calm c.e.c0.n c.e.c0.nd (c.e.blk s H D cl fp).c0.scope (fun z => by cases z) h3
          · exact chkE_ok elt h4 (c.e.blk s H D cl fp) takes0
      · rename_i y py el tg2 iter cnd scope p2 t2 it cd elt
        simp only [Bool.and_eq_true, Bool.not_eq_true'] at h
        obtain ⟨⟨⟨⟨⟨⟨h1, h2⟩, h3⟩, h7⟩, h4⟩, h5⟩, h6⟩ := h
        simp only [swB, Bool.and_eq_true, decide_eq_true_eq, Bool.not_eq_true'] at h6
        cases t with
        | t ts => cases hg
        | n i =>
          simp only [chkG, Bool.and_eq_true, decide_eq_true_eq] at hg
          refine s_setLci c.e.calm hnd (by rw [c.e.c0.n]; exact hg.1) (by rw [c.e.c0.scope]; exact h6.1.1) (sw_true (by rw [c.e.c0.scope]; exact c.kind) (by rw [c.e.c0.scope]; exact h6.1.1) h6.1.2 h6.2) (chkI_ok it h1 c.e c.tk) (by rw [c.e.c0.n, c.e.c0.scope]; exact blkOk_by h2) (fun s H D cl fp => ?_) (fun s H D cl fp => ?_) (fun s H D cl fp => ?_) (folded_no h5)
          · exact chkG_ok (X := X.blk s H _ (compEnvC _ cl D X.env) fp) c.e.calm c.e.c0.n c.e.c0.nd (c.e.blk s H D cl fp).c0.scope (fun z => by cases z) h3
          · exact tW_ok (c.e.blk s H D cl fp) (fun z => chkE_ok cd z (c.e.blk s H D cl fp) takes0) (fun z => chkT_ok cd z (c.e.blk s H D cl fp) takes0) h7
          · exact chkE_ok elt h4 (c.e.blk s H D cl fp) takes0
      · simp only [Bool.and_eq_true, Bool.not_eq_true'] at h
        obtain ⟨⟨h1, h2⟩, h3⟩ := h
        have pe := chkE_ok (xp := xp) (C := C) e h1 c.e c.tk
        cases t with
        | n i =>
          cases tg <;> first | (cases hg; done) | skip
          simp only [chkG, Bool.and_eq_true, decide_eq_true_eq] at hg
          obtain ⟨l1, l2⟩ := locB_ok hg.2 c.e.c0.scope c.e.fn
          exact s_set hnd (by rw [c.e.c0.n]; exact hg.1) l1 l2 pe h2
        | t ts =>
          refine s_asg pe pg h2 (swNo_ok h3) ?_
          cases tg <;> first | (cases hg; done) | rfl
    · cases h
  | .par i j a b, st, X, W, io, h, c => by
    have hnd : X.N.Nodup := by rw [c.e.c0.n]; exact c.e.c0.nd
    simp only [chkS] at h
    split at h
    · simp only [Bool.and_eq_true, decide_eq_true_eq] at h
      obtain ⟨⟨⟨⟨⟨h1, h2⟩, h3⟩, h4⟩, h5⟩, h6⟩ := h
      have h6' := h6
      simp only [swpB, Bool.and_eq_true, decide_eq_true_eq, Bool.not_eq_true'] at h6'
      obtain ⟨⟨⟨⟨⟨⟨⟨⟨g1, g2⟩, g3⟩, g4⟩, g5⟩, g6⟩, g7⟩, g8⟩, g9⟩ := h6'
      exact s_par c.e.calm hnd (by rw [c.e.c0.n]; exact h1) (by rw [c.e.c0.n]; exact h2) (by rw [c.e.c0.scope]; exact g1) (by rw [c.e.c0.scope]; exact g2) h3 (chkE_ok a h4 c.e c.tk) (chkE_ok b h5 c.e c.tk) g6 g7 (swp_ok h6 c.e.c0.scope c.kind)
    · cases h
  | .asgs is e, st, X, W, io, h, c => by
    simp only [chkS] at h
    split at h
    · simp only [Bool.and_eq_true] at h
      exact s_asgs (chkTs_ok c h.1) ⟨_, _, _, rfl⟩ (chkE_ok e h.2 c.e c.tk) swMany
    · cases h
  | .sto i k e, st, X, W, io, h, c => by
    simp only [chkS] at h
    split at h
    · rename_i x px ix p2 ex pos
      simp only [Bool.and_eq_true] at h
      obtain ⟨⟨⟨h1, h2⟩, h3⟩, h4⟩ := h
      refine s_sto (oW_ok c.e (fun z => chkE_ok e z c.e c.tk) h4) (oW_ok c.e (fun z => chkE_ok k z c.e c.tk) h3) (name_ok c.e h1) (swNo_ok (by cases ex <;> rfl)) rfl fun v => ?_
      cases ix <;> first | (cases h2; done) | rfl
    · cases h
  | .aug i o e, st, X, W, io, h, c => by
    have hnd : X.N.Nodup := by rw [c.e.c0.n]; exact c.e.c0.nd
    simp only [chkS] at h
    split at h
    · simp only [Bool.and_eq_true, decide_eq_true_eq] at h
      obtain ⟨⟨⟨rfl, h1⟩, h2⟩, h3⟩ := h
      obtain ⟨l1, l2⟩ := locB_ok h2 c.e.c0.scope c.e.fn
      exact s_aug hnd (by rw [c.e.c0.n]; exact h1) l1 l2 (oW_ok c.e (fun z => chkE_ok e z c.e c.tk) h3)
    · cases h
  | .augl i e, st, X, W, io, h, c => by
    have hnd : X.N.Nodup := by rw [c.e.c0.n]; exact c.e.c0.nd
    simp only [chkS] at h
    split at h
    · simp only [Bool.and_eq_true, decide_eq_true_eq] at h
      obtain ⟨⟨h1, h2⟩, h3⟩ := h
      obtain ⟨l1, l2⟩ := locB_ok h2 c.e.c0.scope c.e.fn
      exact s_augl hnd (by rw [c.e.c0.n]; exact h1) l1 l2 (chkE_ok e h3 c.e c.tk)
    · cases h
  | .mth m i es, st, X, W, io, h, c => by
    simp only [chkS] at h
    split at h
    · rename_i x px nm apos exs cpos pos
      simp only [Bool.and_eq_true, decide_eq_true_eq] at h
      obtain ⟨⟨⟨⟨h1, rfl⟩, h3⟩, h4⟩, h5⟩ := h
      cases exs with
      | nil =>
        cases es with
        | nil => exact s_mth0 (name_ok c.e h1) rfl h3
        | cons _ _ => cases h4
      | cons ex exs => exact s_mth (name_ok c.e h1) (chkOs_ok es h4 c.e c.tk) rfl (few_ok (chkOs_star h4) h5) h3 (chkOs_star h4)
    · cases h
  | .ex e, st, X, W, io, h, c => by
    simp only [chkS] at h
    split at h
    · simp only [Bool.and_eq_true, Bool.not_eq_true'] at h
      exact s_ex (chkE_ok e h.1 c.e c.tk) h.2
    · cases h
  | .ret e, st, X, W, io, h, c => by
    simp only [chkS] at h
    split at h
    · exact s_ret (chkE_ok e h c.e c.tk)
    · cases h
  | .retN, st, X, W, io, h, c => by
    simp only [chkS] at h
    split at h
    · exact s_retN
    · cases h
  | .pass, st, X, W, io, h, c => by
    simp only [chkS] at h
    split at h
    · exact s_pass
    · exact s_doc
    · cases h
  | .brk, st, X, W, io, h, c => by
    simp only [chkS] at h
    split at h
    · exact s_brk
    · cases h
  | .cont, st, X, W, io, h, c => by
    simp only [chkS] at h
    split at h
    · exact s_cont
    · cases h
  | .ife t a b, st, X, W, io, h, c => by
    simp only [chkS] at h
    split at h
    · simp only [Bool.and_eq_true] at h
      exact s_ife (tW_ok c.e (fun z => chkE_ok t z c.e c.tk) (fun z => chkT_ok t z c.e c.tk) h.1.1) (chkSs_ok a io h.1.2 c) (chkSs_ok b io h.2 c)
    · cases h
  | .whl t b, st, X, W, io, h, c => by
    simp only [chkS] at h
    split at h
    · simp only [Bool.and_eq_true] at h
      exact s_whl c.po (tW_ok c.e (fun z => chkE_ok t z c.e c.tk) (fun z => chkT_ok t z c.e c.tk) h.1) (chkSs_ok b io h.2 c)
    · cases h
  | .forr t it b, st, X, W, io, h, c => by
    simp only [chkS] at h
    split at h
    · simp only [Bool.and_eq_true, Bool.not_eq_true'] at h
      exact s_for c.po c.e.calm (chkI_ok it h.1.1.1 c.e c.tk) (chkG_ok c.e.calm c.e.c0.n c.e.c0.nd c.e.c0.scope c.e.fn h.1.1.2) (fun io => chkSs_ok b io h.1.2 c) (folded_no h.2)
    · cases h
  | .rais k e, st, X, W, io, h, c => by
    simp only [chkS] at h
    split at h
    · simp only [Bool.and_eq_true, decide_eq_true_eq] at h
      obtain ⟨⟨⟨⟨h1, h2⟩, h3⟩, h4⟩, h5⟩ := h
      obtain ⟨CA, q1, q2, q3⟩ := c.cls _ _ h1
      obtain ⟨q4, q5, q6, q7⟩ := q3 (List.contains_iff_mem.mp h2)
      obtain ⟨g1, g2⟩ := glB_ok h3 c.e.c0.scope
      exact s_rais c.e.calm c.tk PySem.F.excBase_ValueError q4 q1 q5 q6 g1 g2 q2 q7 (oW_ok c.e (fun z => chkE_ok e z c.e c.tk) h4) h5
    · cases h
  | .tryx b hs, st, X, W, io, h, c => by
    simp only [chkS] at h
    split at h
    · simp only [Bool.and_eq_true] at h
      exact s_tryx c.st c.fr c.tk c.sub (fun W' pn xe tk po => chkSs_ok b io h.1 (c.tr pn xe tk po)) (chkHs_ok c h.2)
    · cases h
  | .trya b k i hs, st, X, W, io, h, c => by
    simp only [chkS] at h
    split at h
    · simp only [Bool.and_eq_true, decide_eq_true_eq] at h
      obtain ⟨⟨⟨⟨⟨h1, h2⟩, h3⟩, h4⟩, h5⟩, h6⟩ := h
      obtain ⟨CA, q1, q2, _⟩ := c.cls _ _ h2
      obtain ⟨g1, g2⟩ := glB_ok h3 c.e.c0.scope
      exact s_trya c.st c.fr c.tk c.sub (by rw [c.e.c0.n]; exact c.e.c0.nd) (by rw [c.e.c0.n]; exact h4) (by unfold Env.kindOf; rw [c.e.c0.scope]; exact h5) ⟨g1, g2, .inl (by rw [q2]; exact q1)⟩
        (fun W' pn xe tk po => chkSs_ok b io h1 (c.tr pn xe tk po)) (fun a oe pn k fs hz hf => chkA_ok c hz hf h6)
    · cases h
theorem chkSs_ok : ∀ (ss : List S) {sts : List Stmt} {X : Cx} {W : WX} (io : List Nat), chkSs g N sc ss sts = true → CxS X g C xp N sc W → PSs X sts (TSts X.K xp W C io ss)
  | [], [], X, W, io, h, c => ss_nil
  | [], _ :: _, X, W, io, h, c => by cases h
  | _ :: _, [], X, W, io, h, c => by cases h
  | s :: ss, t :: ts, X, W, io, h, c => by
    simp only [chkSs, Bool.and_eq_true] at h
    exact ss_cons (chkS_ok s io h.1 c) (chkSs_ok ss io h.2 c)
end
end
end Ev

/-! Ev19: a whole text; the head; the law's end. -/
namespace Ev
open PySem PySem.Spec PyProof.Rows L2
/-! ### binding -/
theorem lookup_zip {ps : List Str} {us : List Value} : ∀ (n : Str), n ∉ ps → (ps.zip us).lookup n = none := by
  induction ps generalizing us with
  | nil => intro n _; rfl
  | cons p ps ih =>
    intro n h
    simp only [List.mem_cons, not_or] at h
    cases us with
    | nil => rfl
    | cons u us =>
      rw [List.zip_cons_cons, List.lookup_cons]
      have : (n == p) = false := by simpa using h.1
      rw [this]
      exact ih n h.2
theorem filterMap_zip {ps : List Str} {us : List Value} (hn : ps.Nodup) (hl : us.length = ps.length) : (ps.filterMap fun n => ((ps.zip us).lookup n).map (n, ·)) = ps.zip us := by
  induction ps generalizing us with
  | nil => rfl
  | cons p ps ih =>
    cases us with
    | nil => cases hl
    | cons u us =>
      obtain ⟨h1, h2⟩ := List.nodup_cons.mp hn
      have e : (((p :: ps).zip (u :: us)).lookup p) = some u := by
        rw [List.zip_cons_cons, List.lookup_cons, beq_self_eq_true]
      rw [List.filterMap_cons, e]
      show (p, u) :: _ = _
      rw [List.zip_cons_cons]
      congr 1
      refine Eq.trans ?_ (ih h2 (Nat.succ.inj hl))
      have go : ∀ l : List Str, (∀ n ∈ l, n ≠ p) → (l.filterMap fun n => (((p :: ps).zip (u :: us)).lookup n).map (n, ·)) = l.filterMap fun n => ((ps.zip us).lookup n).map (n, ·) := by
        intro l
        induction l with
        | nil => intro _; rfl
        | cons n l ih2 =>
          intro hm
          have e2 : ((p :: ps).zip (u :: us)).lookup n = (ps.zip us).lookup n := by
            rw [List.zip_cons_cons, List.lookup_cons]
            have : (n == p) = false := beq_eq_false_iff_ne.mpr (hm n List.mem_cons_self)
            rw [this]
          rw [List.filterMap_cons, List.filterMap_cons, e2, ih2 fun n hn => hm n (List.mem_cons_of_mem _ hn)]
      exact go ps fun n hm z => h1 (z ▸ hm)
theorem lookup_in {ps : List Str} {us : List Value} (hl : us.length = ps.length) : ∀ n ∈ ps, ((ps.zip us).lookup n).isNone = false := by
  induction ps generalizing us with
  | nil => intro n h; cases h
  | cons p ps ih =>
    intro n h
    cases us with
    | nil => cases hl
    | cons u us =>
      rw [List.zip_cons_cons, List.lookup_cons]
      cases e : n == p with
      | true => rfl
      | false => exact ih (Nat.succ.inj hl) n ((List.mem_cons.mp h).resolve_left fun z => by rw [z, beq_self_eq_true] at e; cases e)
theorem bind_plain {x qual : Str} {args : List Arg} {body : List Stmt} {scope : Scope} {kV doc pm cdv ct : Value} {an : Option Addr} {us : List Value} (hn : (args.map (·.arg)).Nodup) (hl : us.length = (args.map (·.arg)).length) :
    bindArgs (PySem.W.fnOf x qual ⟨[], args, none, [], [], none, []⟩ body scope .none kV doc pm an cdv ct) ⟨us, []⟩ = pure ((args.map (·.arg)).zip us) := by
  unfold bindArgs
  have e0 : seqItems? Value.none = pure none := rfl
  simp only [PySem.W.fnOf, List.map_nil, List.nil_append, List.forIn_nil, pure_bind, List.append_nil, e0, Option.getD_none, List.drop_nil, List.length_nil, Nat.sub_zero, List.zip_nil_right, Nat.zero_sub]
  have h1 : (decide (us.length > (List.map (fun x => x.arg) args).length) && (none : Option Arg).isNone) = false := by
    rw [hl]
    simp
  have h2 : (List.filter (fun n => (List.lookup n ((List.map (fun (x : Arg) => x.arg) args).zip us)).isNone) (List.take (List.map (fun x => x.arg) args).length (List.map (fun x => x.arg) args))) = [] := by
    rw [List.take_length]
    apply List.filter_eq_nil_iff.mpr
    intro n hm
    rw [lookup_in hl n hm]
    exact Bool.false_ne_true
  rw [h1, h2, filterMap_zip hn hl]
  rfl
/-! ### a constant of the text's top -/
mutual
def datB (K : PySem.W.Frag) : PyData → Value → Bool
  | .none, v => match v with
    | .none => true
    | _ => false
  | .bool b, v => match v with
    | .bool c => b == c
    | _ => false
  | .int i, v => match v with
    | .int j _ => decide (i = j)
    | _ => false
  | .str x, v => match v with
    | .str y _ => decide (x = y)
    | _ => false
  | .list ds, v => match v with
    | .ref a => match K.lookup a with
      | some ⟨.type c, none, .seq its _, _⟩ => decide (c = "list") && (decide (its.size ≤ sizeLine) && datBs K ds its.toList)
      | _ => false
    | _ => false
  | .tuple ds, v => match v with
    | .ref a => match K.lookup a with
      | some ⟨.type c, none, .seq its _, _⟩ => decide (c = "tuple") && (decide (its.size ≤ sizeLine) && datBs K ds its.toList)
      | _ => false
    | _ => false
  | .dict _, _ => false
def datBs (K : PySem.W.Frag) : List PyData → List Value → Bool
  | [], [] => true
  | d :: ds, v :: vs => datB K d v && datBs K ds vs
  | _, _ => false
end
mutual
theorem datB_ok {K : PySem.W.Frag} : ∀ {d : PyData} {v : Value}, datB K d v = true → ∃ x : V, RelV x v ∧ ∀ F, Dp K F x d
  | .none, v, h => by
    simp only [datB] at h
    split at h
    · exact ⟨.non, rfl, fun F => .non⟩
    · cases h
  | .bool b, v, h => by
    simp only [datB] at h
    split at h
    · rename_i c
      have e : b = c := by simpa using h
      subst e
      exact ⟨.bl b, rfl, fun F => .bl b⟩
    · cases h
  | .int i, v, h => by
    simp only [datB] at h
    split at h
    · rename_i j t
      have e : i = j := by simpa using h
      subst e
      exact ⟨.int i, ⟨t, rfl⟩, fun F => .int i⟩
    · cases h
  | .str x, v, h => by
    simp only [datB] at h
    split at h
    · rename_i y t
      have e : x = y := by simpa using h
      subst e
      exact ⟨.str x, ⟨t, rfl⟩, fun F => .str x⟩
    · cases h
  | .list ds, v, h => by
    simp only [datB] at h
    split at h
    · rename_i a
      split at h
      · rename_i c its n sl q
        simp only [Bool.and_eq_true, decide_eq_true_eq] at h
        obtain ⟨rfl, h2, h3⟩ := h
        obtain ⟨vs, r, d⟩ := datBs_ok h3
        exact ⟨.ref a, rfl, fun F => .lst (.inr ⟨_, its, n, q, rfl, rfl, rfl, h2, r⟩) (d F)⟩
      · cases h
    · cases h
  | .tuple ds, v, h => by
    simp only [datB] at h
    split at h
    · rename_i a
      split at h
      · rename_i c its n sl q
        simp only [Bool.and_eq_true, decide_eq_true_eq] at h
        obtain ⟨rfl, h2, h3⟩ := h
        obtain ⟨vs, r, d⟩ := datBs_ok h3
        exact ⟨.ref a, rfl, fun F => .tup (.inr ⟨_, its, n, q, rfl, rfl, rfl, h2, r⟩) (d F)⟩
      · cases h
    · cases h
  | .dict _, v, h => by cases h
theorem datBs_ok {K : PySem.W.Frag} : ∀ {ds : List PyData} {vs : List Value}, datBs K ds vs = true → ∃ xs : List V, Vals xs vs ∧ ∀ F, DpAll K F xs ds
  | [], [], _ => ⟨[], .nil, fun F => .nil⟩
  | [], _ :: _, h => by cases h
  | _ :: _, [], h => by cases h
  | d :: ds, v :: vs, h => by
    simp only [datBs, Bool.and_eq_true] at h
    obtain ⟨x, r, a⟩ := datB_ok h.1
    obtain ⟨xs, rs, b⟩ := datBs_ok h.2
    exact ⟨x :: xs, .cons r rs, fun F => .cons (a F) (b F)⟩
end
def datF (K : PySem.W.Frag) (p : Str × PyData) : Bool := match PySem.W.nsIn K mainGlobals p.1 with
  | some (some v) => datB K p.2 v
  | _ => false
theorem datF_ok {K : PySem.W.Frag} {h : Heap} {mg : Str → Option Value} (X : K.In h) (G : h.Ns mainGlobals mg) {x : Str} {d : PyData} (e : datF K (x, d) = true) : ∃ v u, mg x = some u ∧ RelV v u ∧ ∀ F, Dp K F v d := by
  unfold datF at e
  split at e
  · rename_i v q
    obtain ⟨y, r, a⟩ := datB_ok e
    exact ⟨y, v, PySem.W.mg_of X G q, r, a⟩
  · cases e
/-! ### the hook -/
/-- the classes of errors: their names, which are made plainly, who is below whom -/
structure Ec where
  cls : List Str
  pln : List Nat
  rel : List (Nat × Nat × Bool)
  /-- the same with isinstance -/
  kt : List (Nat × Nat × Bool)
def Ec.sub (e : Ec) (c h : Nat) : Option Bool := ((e.rel ++ e.kt).find? fun z => z.1 == c && z.2.1 == h).map (·.2.2)
def Ec.nm (e : Ec) (c : Nat) : Str := e.cls.getD c ""
def Ec.fa (e : Ec) : List He.Fa := e.cls.map He.Fa.glo ++ (e.pln.map fun i => He.Fa.exc (e.nm i)) ++ e.rel.map fun z => He.Fa.exm (e.nm z.1) (e.nm z.2.1) z.2.2
def Ec.clv (e : Ec) (K : PySem.W.Frag) (c : Nat) : Value := if c = 1000 then .type "ValueError" else .ref (He.ga K (e.nm c))
def Ec.xp (e : Ec) (K : PySem.W.Frag) : Xp := ⟨e.clv K, fun _ => ""⟩
def Ec.lo (e : Ec) : Bool := decide (e.cls.length ≤ 1000) && (e.rel.all (fun z => decide (z.1 < 1000) && decide (z.2.1 < 1000)) && e.kt.all fun z => decide (z.1 < 1000))
def excCB (K : PySem.W.Frag) (D : Addr) : Bool :=
  He.eqO (PySem.W.findIn K (.ref D) "__getattribute__") (some (some (.builtin "BaseException.__getattribute__"))) &&
  (He.eqO (PySem.W.findIn K (.ref D) "__getattr__") (some none) &&
  (decide (PySem.W.subIn K (.ref D) (.type "BaseException") = some true) &&
  (PySem.W.hasDictIn K D &&
  (He.eqO (PySem.W.findIn K (.ref D) "__class__") (some (some (.builtin "object.__class__"))) &&
  (He.eqO (PySem.W.specialIn K (.builtin "object.__class__") "__get__") (some (some (.builtin "getset_descriptor.__get__"))) &&
  (decide (PySem.W.takesIn K (.builtin "object.__class__") = some true) &&
  decide (PySem.W.mroIn K D (.type "object") = some true)))))))
theorem excCB_ok {K : PySem.W.Frag} {D : Addr} (h : excCB K D = true) : L2.ExcC K D := by
  simp only [excCB, Bool.and_eq_true, decide_eq_true_eq] at h
  obtain ⟨h1, h2, h3, h4, h5, h6, h7, h8⟩ := h
  exact ⟨He.eqO_ok h1, He.eqO_ok h2, h3, h4, He.eqO_ok h5, He.eqO_ok h6, h7, h8⟩
def ktB (e : Ec) (K : PySem.W.Frag) (z : Nat × Nat × Bool) : Bool := excCB K (He.ga K (e.nm z.1)) && (decide (PySem.W.kitOne K (.ref (He.ga K (e.nm z.1))) (e.clv K z.2.1) = some z.2.2) && decide (PySem.W.exmOne K (.ref (He.ga K (e.nm z.1))) (e.clv K z.2.1) = some z.2.2))
def faOf (fn : List He.DefD) (free : List Str) (ec : Ec) : List He.Fa := (fn.map fun d => He.Fa.glo d.name) ++ (free.map He.Fa.free ++ ec.fa)
abbrev AlX : Type := He.AlD × Bool
def obsX (fn : List He.DefD) (xs : List (Str × PyData)) (free : List Str) (ec : Ec) (K : PySem.W.Frag) : AlX := (He.obsD (faOf fn free ec) fn K, ec.lo && (xs.all (datF K) && ec.kt.all (ktB ec K)))
def obsG (n : Nat) (fn : List He.DefD) (xs : List (Str × PyData)) (free : List Str) (ec : Ec) (g : Addr → Option Obj) : AlX := obsX fn xs free ec (He.frG g (He.asD g n))
def hookX (n : Nat) (fn : List He.DefD) (xs : List (Str × PyData)) (free : List Str) (ec : Ec) : PySem.W.Hook where
  α := AlX
  obs := fun s => obsG n fn xs free ec s.heap.get?
  val := fun _ => (He.valD fn, true)
  says := fun _ h => ∃ K : PySem.W.Frag, K.In h ∧ obsX fn xs free ec K = (He.valD fn, true)
  of := fun _ _ e => ⟨_, He.frG_in, e⟩
  keeps := fun _ _ _ ⟨K, hK, c⟩ k => ⟨K, PySem.W.Frag.In.keeps hK k, c⟩
theorem obsG_eq {n : Nat} {fn : List He.DefD} {xs : List (Str × PyData)} {free : List Str} {ec : Ec} {g : Addr → Option Obj} {s : Shared} (h : ∀ a, g a = s.heap.get? a) : obsG n fn xs free ec g = (hookX n fn xs free ec).obs s := by
  have e : g = s.heap.get? := funext h
  rw [e] <;> rfl
/-! ### the whole text -/
def nodupS : List Str → Bool
  | [] => true
  | x :: xs => !xs.contains x && nodupS xs
theorem nodupS_ok : ∀ {xs : List Str}, nodupS xs = true → xs.Nodup
  | [], _ => List.nodup_nil
  | x :: xs, h => by
    simp only [nodupS, Bool.and_eq_true, Bool.not_eq_true'] at h
    refine List.nodup_cons.mpr ⟨fun m => ?_, nodupS_ok h.2⟩
    rw [List.contains_iff_mem.mpr m] at h
    exact Bool.noConfusion h.1
def fnScB (N ps : List Str) (sc : Scope) : Bool := kindB sc && !sc.isCoroutine && !sc.isGenerator && nodupS N && decide (N.take ps.length = ps) && (ps.all fun x => match sc.names.lookup x with
  | some .local => true
  | some .cell => true
  | _ => false) && sc.names.all fun y => match y.2 with
  | .free => false
  | _ => true
theorem kindB_ok {sc : Scope} (h : kindB sc = true) : sc.kind = .function := by
  unfold kindB at h
  split at h
  · assumption
  · cases h
theorem fnScB_ok {N ps : List Str} {sc : Scope} (h : fnScB N ps sc = true) : FnScope N ps sc := by
  simp only [fnScB, Bool.and_eq_true, Bool.not_eq_true', decide_eq_true_eq] at h
  obtain ⟨⟨⟨⟨⟨⟨h1, h2⟩, h3⟩, h4⟩, h5⟩, h6⟩, h7⟩ := h
  refine ⟨kindB_ok h1, h2, h3, nodupS_ok h4, h5, fun x hx => ?_, fun y hy e => ?_⟩
  · have := all_mem h6 x hx
    split at this
    · exact .inl (by assumption)
    · exact .inr (by assumption)
    · cases this
  · have := all_mem h7 y hy
    rw [e] at this
    cases this
def plainP (ps : List Str) (p : Arguments) : Bool := match p with
  | ⟨[], args, none, [], [], none, []⟩ => decide (args.map (·.arg) = ps)
  | _ => false
def defB (g : Gc) (N ps : List Str) (fe : Fd) (d : He.DefD) : Bool :=
  fnScB N ps d.scope && decide (ps.length = fe.np) && decide (N.length = fe.ns) && plainP ps d.params && d.dfl.isEmpty && d.kwd.isEmpty && decide (d.at_ = (d.name, none)) && chkSs g N d.scope fe.body d.body
def progB (g : Gc) : List He.DefD → List Fd → List (List Str × List Str) → Bool
  | [], [], [] => true
  | d :: ds, fe :: fs, np :: ns => defB g np.1 np.2 fe d && progB g ds fs ns
  | _, _, _ => false
theorem progB_get {g : Gc} : ∀ {ds : List He.DefD} {fs : List Fd} {ns : List (List Str × List Str)} {i : Nat} {d : He.DefD}, progB g ds fs ns = true → ds[i]? = some d → ∃ fe np, fs[i]? = some fe ∧ ns[i]? = some np ∧ defB g np.1 np.2 fe d = true
  | [], _, _, _, _, _, e => by simp at e
  | _ :: _, [], _, _, _, h, _ => by cases h
  | _ :: _, _ :: _, [], _, _, h, _ => by cases h
  | d :: ds, fe :: fs, np :: ns, 0, d', h, e => by
    simp only [progB, Bool.and_eq_true] at h
    simp at e
    subst e
    exact ⟨fe, np, rfl, rfl, h.1⟩
  | d :: ds, fe :: fs, np :: ns, i + 1, d', h, e => by
    simp only [progB, Bool.and_eq_true] at h
    obtain ⟨a, b, c1, c2, c3⟩ := progB_get (i := i) h.2 (by simpa using e)
    exact ⟨a, b, by simpa using c1, by simpa using c2, c3⟩
def gOf (fn : List He.DefD) (xs : List (Str × PyData)) (free : List Str) (ec : Ec) : Gc := ⟨fn.mapIdx fun i d => (d.name, i), xs.mapIdx fun j p => (p.1, j), free, ec.cls.mapIdx fun i x => (x, i), ec.pln, ec.rel.isEmpty⟩
theorem lookup_mem {α β : Type} [BEq α] [LawfulBEq α] {x : α} {y : β} : ∀ {l : List (α × β)}, l.lookup x = some y → (x, y) ∈ l
  | [], h => by cases h
  | (a, b) :: l, h => by
    rw [List.lookup_cons] at h
    split at h
    · rename_i e
      have : x = a := by simpa using e
      subst this
      cases h
      exact List.mem_cons_self
    · exact List.mem_cons_of_mem _ (lookup_mem h)
theorem gOf_fns {fn : List He.DefD} {xs : List (Str × PyData)} {free : List Str} {ec : Ec} {x : Str} {i : Nat} (h : (gOf fn xs free ec).fns.lookup x = some i) : ∃ d, fn[i]? = some d ∧ d.name = x := by
  have := lookup_mem h
  obtain ⟨j, hj, e⟩ := List.mem_mapIdx.mp this
  cases e
  exact ⟨_, List.getElem?_eq_getElem hj, rfl⟩
theorem gOf_cons {fn : List He.DefD} {xs : List (Str × PyData)} {free : List Str} {ec : Ec} {x : Str} {i : Nat} (h : (gOf fn xs free ec).cons.lookup x = some i) : ∃ d, xs[i]? = some (x, d) := by
  have := lookup_mem h
  obtain ⟨j, hj, e⟩ := List.mem_mapIdx.mp this
  cases e
  exact ⟨_, List.getElem?_eq_getElem hj⟩
section
variable {P : Program} {w : World} {K : PySem.W.Frag} {mg : Str → Option Value} {base h : Heap} {fn : List He.DefD} {xs : List (Str × PyData)} {free : List Str} {ec : Ec} {ns : List (List Str × List Str)} {pg : Pg} {xp : Xp}
theorem binds_of {d : He.DefD} {ps : List Str} {f : Addr} {fd : FuncData} (F : FunD K d.name d.qual d.params d.body d.scope [] (d.kws K) f fd) (hp : plainP ps d.params = true) (hn : ps.Nodup) : (∀ us : List Value, us.length = ps.length → ∀ s, BindsTo s fd ⟨us, []⟩ (ps.zip us)) ∧ Binds K fd ps [] := by
  have key : ∀ (kV doc pm : Value) (an : Option Addr) (cdv ct : Value) (us : List Value), us.length = ps.length → bindArgs (PySem.W.fnOf d.name d.qual d.params d.body d.scope .none kV doc pm an cdv ct) ⟨us, []⟩ = pure (ps.zip us) := fun kV doc pm an cdv ct us hl => by
    generalize hpp : d.params = p at hp
    unfold plainP at hp
    split at hp
    · rename_i args
      rw [decide_eq_true_eq] at hp
      subst hp
      exact bind_plain hn hl
    · cases hp
  exact ⟨fun us hl s => FunD.bindsA (ps := ps) F key s us hl, FunD.bindsN F key⟩
theorem prog_ok (X : K.In h) (G : h.Ns mainGlobals mg) (c : obsX fn xs free ec K = (He.valD fn, true)) (chk : progB (gOf fn xs free ec) fn pg.fs ns = true) (hG : pg.G = xs.map (·.2)) (hS : pg.sub = ec.sub) (hB : pg.bears = fun _ => false) (hx0 : xp = ec.xp K) :
    ∀ (k i : Nat) {d : He.DefD} {np : List Str × List Str} {f : Addr} {fd : FuncData}, fn[i]? = some d → ns[i]? = some np → FunD K d.name d.qual d.params d.body d.scope [] [] f fd → FnOk P w K mg base (L2.CX P w) k f fd np.2 (spF K xp (callF pg k i)) := by
  have cD : He.SaysD (faOf fn free ec) fn K := congrArg (fun z : AlX => z.1) c
  have cXX : (ec.lo && (xs.all (datF K) && ec.kt.all (ktB ec K))) = true := congrArg (fun z : AlX => z.2) c
  simp only [Bool.and_eq_true] at cXX
  obtain ⟨cLo, cX, cK⟩ := cXX
  simp only [Ec.lo, Bool.and_eq_true, decide_eq_true_eq] at cLo
  obtain ⟨cL1, cL2, cL3⟩ := cLo
  have clvE : ∀ {i : Nat}, i < 1000 → ec.clv K i = .ref (He.ga K (ec.nm i)) := fun {i} hi => by unfold Ec.clv; rw [if_neg (by omega)]
  have ktE : ∀ {c0 h0 : Nat} {b0 : Bool}, (∃ z ∈ ec.kt, z.1 = c0 ∧ z.2.1 = h0 ∧ z.2.2 = b0) → ec.clv K c0 = .ref (He.ga K (ec.nm c0)) ∧ L2.ExcC K (He.ga K (ec.nm c0)) ∧ PySem.W.kitOne K (.ref (He.ga K (ec.nm c0))) (ec.clv K h0) = some b0 ∧ PySem.W.exmOne K (.ref (He.ga K (ec.nm c0))) (ec.clv K h0) = some b0 := fun {c0 h0 b0} ⟨z, hz, e1, e2, e3⟩ => by
    have := List.all_eq_true.mp cK z hz
    simp only [ktB, Bool.and_eq_true, decide_eq_true_eq] at this
    have lt := List.all_eq_true.mp cL3 z hz
    rw [decide_eq_true_eq] at lt
    subst e1 e2 e3
    exact ⟨clvE lt, excCB_ok this.1, this.2.1, this.2.2⟩
  have facts : ∀ f ∈ faOf fn free ec, f.ok K = true := fun f hf => by
    have c1 := (He.ba (show (((faOf fn free ec).all fun f => f.ok K) && fn.all fun d => d.ok K) = true from congrArg (fun z : He.AlD => z.1) cD)).1
    exact List.all_eq_true.mp c1 f hf
  intro k
  induction k with
  | zero => exact fun i {d np f fd} _ _ _ => fn0
  | succ k ih =>
    intro i d np f fd hd hnp F
    obtain ⟨fe, np', e1, e2, e3⟩ := progB_get chk hd
    rw [hnp] at e2
    cases e2
    simp only [defB, Bool.and_eq_true, decide_eq_true_eq, List.isEmpty_iff] at e3
    obtain ⟨⟨⟨⟨⟨⟨⟨h1, h2⟩, h3⟩, h4⟩, h5⟩, h6⟩, h7⟩, h8⟩ := e3
    have sc := fnScB_ok h1
    refine Ev.fn_ok F sc e1 h2 h3 fun Y W io y1 y2 y3 y4 y5 y6 y7 y8 y9 y10 y11 y12 y13 y14 y15 => ?_
    refine chkSs_ok fe.body io h8 ⟨⟨⟨y6, y7, sc.nd, by have := y10.un; omega⟩, fun x fi hx => ?_, fun x j hx => ?_, fun x hx => ?_, y8, fun _ => y9⟩, y11, y12, sc.kind, y13, y14, fun x i hx => ?_, fun c0 h0 b0 hcb => ?_, fun hky => ?_⟩
    · obtain ⟨d', g1, g2⟩ := gOf_fns hx
      obtain ⟨fe', np', k1, k2, k3⟩ := progB_get chk g1
      simp only [defB, Bool.and_eq_true, decide_eq_true_eq, List.isEmpty_iff] at k3
      obtain ⟨⟨⟨⟨⟨⟨⟨m1, m2⟩, m3⟩, m4⟩, m5⟩, m6⟩, m7⟩, m8⟩ := k3
      obtain ⟨fd', F'⟩ := cD.def_ fi g1
      have F2 : FunD K d'.name d'.qual d'.params d'.body d'.scope [] [] (He.fAd K d'.at_) fd' := by
        have q1 : d'.dvs K = [] := by unfold He.DefD.dvs; rw [m5]; rfl
        have q2 : d'.kws K = [] := by unfold He.DefD.kws; rw [m6]; rfl
        rw [q1, q2] at F'
        exact F'
      have sc' := fnScB_ok m1
      have pn : np'.2.Nodup := by
        have := sc'.pre
        rw [← this]
        exact sc'.nd.sublist (List.take_sublist _ _)
      have gl := He.glo_ok X G (x := d'.name) (facts _ (List.mem_append_left _ (List.mem_map.mpr ⟨d', List.mem_of_getElem? g1, rfl⟩)))
      have ea : He.ga K d'.name = He.fAd K d'.at_ := by rw [m7]; rfl
      subst g2
      rw [ea] at gl
      refine ⟨k, He.fAd K d'.at_, fd', np'.2, ?_, y10, by rw [y4]; exact gl, by rw [y3]; exact F2.kp, by rw [y3]; exact (binds_of (d := d') (by rw [show d'.kws K = [] by unfold He.DefD.kws; rw [m6]; rfl]; exact F2) m4 pn).2⟩
      have := ih fi g1 k2 F2
      rw [y1, y2, y3, y4, y5]
      exact this
    · obtain ⟨d', g1⟩ := gOf_cons hx
      obtain ⟨v, u, q1, q2, q3⟩ := datF_ok X G (all_mem cX _ (List.mem_of_getElem? g1))
      refine ⟨d', v, u, ?_, by rw [y4]; exact q1, q2, by rw [y3]; exact q3⟩
      show pg.G[j]? = some d'
      rw [hG, List.getElem?_map, g1]
      rfl
    · rw [y4]
      exact He.free_ok X G (facts _ (List.mem_append_right _ (List.mem_append_left _ (List.mem_map.mpr ⟨x, hx, rfl⟩))))
    · have hi : ec.cls[i]? = some x := by
        have hm := lookup_mem hx
        obtain ⟨j, hj, e⟩ := List.mem_mapIdx.mp hm
        cases e
        exact List.getElem?_eq_getElem hj
      have hn : ec.nm i = x := by unfold Ec.nm; rw [List.getD_eq_getElem?_getD, hi]; rfl
      have inF : ∀ f ∈ ec.fa, f.ok K = true := fun f hf => facts f (List.mem_append_right _ (List.mem_append_right _ hf))
      have gl := He.glo_ok X G (x := x) (inF _ (List.mem_append_left _ (List.mem_append_left _ (List.mem_map.mpr ⟨x, List.mem_of_getElem? hi, rfl⟩))))
      refine ⟨He.ga K x, by rw [y4]; exact gl, by subst hx0; show ec.clv K i = _; rw [clvE (by have := (List.getElem?_eq_some_iff.mp hi).1; omega), hn], fun hp => ?_⟩
      obtain ⟨e1, e2, e3, e4⟩ := He.exc_ok (inF (He.Fa.exc x) (List.mem_append_left _ (List.mem_append_right _ (List.mem_map.mpr ⟨i, hp, by rw [hn]⟩))))
      rw [y3]
      exact ⟨e1, e2, L2.raises_own (by rw [y3]; exact e3) (by rw [y3]; exact e4), by show pg.bears i = false; rw [hB]⟩
    · have hcb : ec.sub c0 h0 = some b0 := by rw [← hS]; exact hcb
      unfold Ec.sub at hcb
      simp only [Option.map_eq_some_iff] at hcb
      obtain ⟨z, hz, rfl⟩ := hcb
      have hm := List.mem_of_find?_eq_some hz
      have hc2 := List.find?_some hz
      simp only [Bool.and_eq_true, beq_iff_eq] at hc2
      subst hx0
      rcases List.mem_append.mp hm with hm | hm
      · have inF : ∀ f ∈ ec.fa, f.ok K = true := fun f hf => facts f (List.mem_append_right _ (List.mem_append_right _ hf))
        have := He.exm_ok (inF _ (List.mem_append_right _ (List.mem_map.mpr ⟨z, hm, rfl⟩)))
        have lt := List.all_eq_true.mp cL2 z hm
        simp only [Bool.and_eq_true, decide_eq_true_eq] at lt
        rw [y3, ← hc2.1, ← hc2.2]
        show PySem.W.exmOne K (ec.clv K z.1) (ec.clv K z.2.1) = _
        rw [clvE lt.1, clvE lt.2]
        exact this
      · obtain ⟨g1, g2, g3, g4⟩ := ktE ⟨z, hm, hc2.1, hc2.2, rfl⟩
        rw [y3]
        show PySem.W.exmOne K (ec.clv K c0) (ec.clv K h0) = _
        rw [g1]
        exact g4
    · subst hx0
      rw [y3]
      refine ⟨fun c0 h0 b0 hcb => ?_, by show ec.clv K 1000 = _; unfold Ec.clv; rw [if_pos rfl]⟩
      have hcb : ec.sub c0 h0 = some b0 := by rw [← hS]; exact hcb
      unfold Ec.sub at hcb
      simp only [Option.map_eq_some_iff] at hcb
      obtain ⟨z, hz, rfl⟩ := hcb
      have hm := List.mem_of_find?_eq_some hz
      have hc2 := List.find?_some hz
      simp only [Bool.and_eq_true, beq_iff_eq] at hc2
      have hr : ec.rel = [] := List.isEmpty_iff.mp hky
      rw [hr, List.nil_append] at hm
      obtain ⟨g1, g2, g3, g4⟩ := ktE ⟨z, hm, hc2.1, hc2.2, rfl⟩
      exact ⟨_, g1, g2, g3⟩
/-- what is left of a law: its value in the small language -/
theorem sp_law {call : List Rv → FRes} {H : Hp} {a : Addr} {ns : List Int} (h : call [.fr (.list (ns.map .int))] = .ok (.fr (.bool true)) []) (hS : SqL K H a (ns.map V.int)) : spF K xp call [.ref a] H (fun v _ => v = .bl true) fun _ _ _ => False := by
  have hd : DpAll K H (ns.map V.int) (ns.map PyData.int) := by
    induction ns with
    | nil => exact .nil
    | cons n ns ih =>
      clear h hS ih
      generalize n :: ns = l
      induction l with
      | nil => exact .nil
      | cons m l ih => exact .cons (.int m) ih
  refine ⟨H, [.fr (.list (ns.map .int))], [], .cons (B := []) (C := []) (.fr (.lst hS hd)) .nil, List.nodup_nil, (fun p hp => by cases hp), .refl _, rfl, ?_⟩
  rw [h]
  intro x H' F' B As _ _ _ _ rv _
  cases rv with
  | fr d => cases d; rfl
end
/-- the law's end; what a callee may let out may lean on the world -/
theorem walk_ofW {l : PySem.W.OpenLaw} {n k : Nat} {q : Program} {loose : List Str} {XP : (Str → Option Value) → Heap → Prop} {YP : World → Heap → Prop} {d : DefRec} {CX : World → CXT} {x : Str}
    (hn : l.most = some n) (hn2 : n ≤ sizeLine) (hdf : d.params.defaults = []) (hr : Room k callerA)
    (F : ∀ (w : World) (mg : Str → Option Value) (fa : Addr) (h : Heap), YP w h → h.Ns mainGlobals mg → mg d.name = some (.ref fa) →
      ∃ (K : PySem.W.Frag) (fd : FuncData) (sp : Sp), K.In h ∧ (∀ (s : Shared) (u : Value), BindsTo s fd ⟨[u], []⟩ [(x, u)]) ∧
        (∀ (H : Hp) (a : Addr) (ns : List Int), ns.length ≤ n → Only H → SqL K H a (ns.map V.int) → sp [.ref a] H (fun v _ => v = .bl true) fun _ _ _ => False) ∧
        ∀ base : Heap, K.In base → base.Ns mainGlobals mg → FnOk l.prog w K mg base (CX w) k fa fd [x] sp)
    (hCX : ∀ (w : World) (H : Hp) (s : Shared) (e : Value) (s' : Shared), CX w [] H s (fun _ _ _ => False) e s' → False) :
    PySem.W.WalkO q loose XP YP l.row.toRowW d [] (fun f vs => PySem.call f vs) := by
  refine Att.attach_call hn hdf fun w s₀ s₁ mg mb fa o pm cd doc a vs ns G Y ho hd hcd hmg hobj hints hlen hg => ?_
  obtain ⟨K, fd, sp, KX, hb, hsp, hF⟩ := F w mg fa _ Y G.T.g hmg
  exact law_call KX G.T.g G.T.b G.T.builtins G.T.nolimit hg hobj hints (Nat.le_trans hlen hn2) hr hF hb (fun H hO hS => hsp H a ns hlen hO hS) fun H e s' => hCX w H s₁ e s'
theorem cx_no {P : Program} {w : World} {H : Hp} {s : Shared} {e : Value} {s' : Shared} (h : L2.CX P w [] H s (fun _ _ _ => False) e s') : False := by
  obtain ⟨_, _, _, _, _, _, _, _, _, _, _, _, z⟩ := h
  exact z
section
variable {P : Program} {w : World} {K : PySem.W.Frag} {mg : Str → Option Value} {h : Heap} {fn : List He.DefD} {xs : List (Str × PyData)} {free : List Str} {ec : Ec} {ns : List (List Str × List Str)} {pg : Pg} {xp : Xp}
/-- the law's function: its place li, its one parameter x -/
theorem law_fact {li k : Nat} {d : He.DefD} {np : List Str × List Str} {x : Str} {f : Addr} (X : K.In h) (G : h.Ns mainGlobals mg) (c : obsX fn xs free ec K = (He.valD fn, true)) (chk : progB (gOf fn xs free ec) fn pg.fs ns = true) (hG : pg.G = xs.map (·.2)) (hS : pg.sub = ec.sub) (hB : pg.bears = fun _ => false) (hx0 : xp = ec.xp K) (hd : fn[li]? = some d) (hn : ns[li]? = some np) (hx : np.2 = [x]) (hf : mg d.name = some (.ref f)) :
    ∃ fd : FuncData, (∀ (s : Shared) (v : Value), BindsTo s fd ⟨[v], []⟩ [(x, v)]) ∧ ∀ base : Heap, K.In base → base.Ns mainGlobals mg → FnOk P w K mg base (L2.CX P w) k f fd [x] (spF K xp (callF pg k li)) := by
  have cD : He.SaysD (faOf fn free ec) fn K := congrArg (fun z : AlX => z.1) c
  obtain ⟨fe, np', e1, e2, e3⟩ := progB_get chk hd
  rw [hn] at e2
  cases e2
  simp only [defB, Bool.and_eq_true, decide_eq_true_eq, List.isEmpty_iff] at e3
  obtain ⟨⟨⟨⟨⟨⟨⟨h1, h2⟩, h3⟩, h4⟩, h5⟩, h6⟩, h7⟩, h8⟩ := e3
  have sc := fnScB_ok h1
  have q1 : d.dvs K = [] := by unfold He.DefD.dvs; rw [h5]; rfl
  have q2 : d.kws K = [] := by unfold He.DefD.kws; rw [h6]; rfl
  obtain ⟨fd, F⟩ := cD.def_ li hd
  rw [q1, q2] at F
  have pn : np.2.Nodup := by
    have := sc.pre
    rw [← this]
    exact sc.nd.sublist (List.take_sublist _ _)
  have facts : ∀ f ∈ faOf fn free ec, f.ok K = true := fun f hf => by
    have c1 := (He.ba (show (((faOf fn free ec).all fun f => f.ok K) && fn.all fun d => d.ok K) = true from congrArg (fun z : He.AlD => z.1) cD)).1
    exact List.all_eq_true.mp c1 f hf
  have gl := He.glo_ok X G (x := d.name) (facts _ (List.mem_append_left _ (List.mem_map.mpr ⟨d, List.mem_of_getElem? hd, rfl⟩)))
  have ea : He.ga K d.name = He.fAd K d.at_ := by rw [h7]; rfl
  rw [ea, hf] at gl
  have ef : f = He.fAd K d.at_ := by simpa using gl
  subst ef
  have b := (binds_of (d := d) (by rw [q2]; exact F) h4 pn).1
  rw [hx] at b
  refine ⟨fd, fun s v => b [v] rfl s, fun base _ _ => ?_⟩
  have := prog_ok (P := P) (w := w) (base := base) (xp := xp) X G c chk hG hS hB hx0 k li hd hn F
  rw [hx] at this
  exact this
end
end Ev

/-! Ev20: reckoning in the small language. -/
namespace Ev
open PySem L2
section
variable {α β : Type} {a b i j : Int} {r : Rho}
theorem bind_ok {x : α} {f : α → Rho → Res β} : (Res.ok x r).bind f = f x r := rfl
theorem fl_ok {x : α} {f : α → Rho → Fl} : (Res.ok x r).fl f = f x r := rfl
theorem map_ok {x : α} {f : α → β} : (Res.ok x r).map f = .ok (f x) r := rfl
theorem opt_some {x : α} : Res.opt (some x) r = .ok x r := rfl
theorem opt_none : (Res.opt none r : Res α) = .bad := rfl
theorem ite_tt {x y : α} : (if true = true then x else y) = x := rfl
theorem ite_ff {x y : α} : (if false = true then x else y) = y := rfl
theorem cmp_lt : cmpD .lt (.int a) (.int b) = some (decide (a < b)) := by simp [cmpD, ordOk, PySem.W.alike, shal, PyData.depth, PySem.W.dataLt_int]
theorem cmp_gt : cmpD .gt (.int a) (.int b) = some (decide (b < a)) := by simp [cmpD, ordOk, PySem.W.alike, shal, PyData.depth, PySem.W.dataLt_int]
theorem cmp_le : cmpD .le (.int a) (.int b) = some (!decide (b < a)) := by simp [cmpD, ordOk, PySem.W.alike, shal, PyData.depth, PySem.W.dataLt_int]
theorem cmp_ge : cmpD .ge (.int a) (.int b) = some (!decide (a < b)) := by simp [cmpD, ordOk, PySem.W.alike, shal, PyData.depth, PySem.W.dataLt_int]
theorem cmp_eq : cmpD .eq (.int a) (.int b) = some (a == b) := by simp [cmpD, shal, PyData.depth, PyData.eqv]
theorem cmp_ne : cmpD .ne (.int a) (.int b) = some (!(a == b)) := by simp [cmpD, shal, PyData.depth, PyData.eqv]
theorem bin_add : binD .add (.int i) (.int j) = some (.fr (.int (i + j))) := rfl
theorem bin_sub : binD .sub (.int i) (.int j) = some (.fr (.int (i - j))) := rfl
theorem bin_mul (h : mulOk i j = true) : binD .mul (.int i) (.int j) = some (.fr (.int (i * j))) := by simp [binD, h]
theorem bin_mod (h : 0 < j) : binD .mod (.int i) (.int j) = some (.fr (.int (i % j))) := by simp [binD, h]
theorem bin_fdiv (h : divOk j = true) : binD .fdiv (.int i) (.int j) = some (.fr (.int (i / j))) := by simp [binD, h]
theorem mulOk_r (h1 : -(2 ^ 64) < j) (h2 : j < 2 ^ 64) : mulOk i j = true := by
  simp only [mulOk, Bool.or_eq_true, decide_eq_true_eq]
  exact .inl (.inr ⟨h1, h2⟩)
theorem mulOk_l (h1 : -(2 ^ 64) < i) (h2 : i < 2 ^ 64) : mulOk i j = true := by
  simp only [mulOk, Bool.or_eq_true, decide_eq_true_eq]
  exact .inl (.inl ⟨h1, h2⟩)
theorem idx_l {xs : List D} : idxD (.list xs) (.int i) = atI xs i := rfl
theorem idx_t {xs : List D} : idxD (.tuple xs) (.int i) = atI xs i := rfl
theorem at_nat {xs : List α} {k : Nat} {x : α} (h : xs[k]? = some x) : atI xs (k : Int) = some x := by
  unfold atI ixN
  have hk : k < xs.length := (List.getElem?_eq_some_iff.mp h).1
  rw [if_pos (by omega), if_pos (by omega)]
  simpa using h
theorem at_int {xs : List α} {k : Int} {x : α} (h0 : 0 ≤ k) (h : xs[k.toNat]? = some x) : atI xs k = some x := by
  have := at_nat h
  rwa [Int.toNat_of_nonneg h0] at this
end
/-- a loop by an invariant -/
theorem forLoop_inv {t : Tg} {body : Rho → Fl} {ys : List D} (P : Nat → Rho → Prop) (st : ∀ i x r, ys[i]? = some x → P i r → ∃ r1, bindT t x r = some r1 ∧ ∃ r2, (body r1 = .nx r2 ∨ body r1 = .ct r2) ∧ P (i + 1) r2) : ∀ (n i : Nat) (r : Rho), n + i = ys.length → P i r → ∃ r', forLoop t body (ys.drop i) r = .nx r' ∧ P ys.length r'
  | 0, i, r, e, h => by
    have : i = ys.length := by omega
    subst this
    rw [List.drop_eq_nil_of_le (Nat.le_refl _)]
    exact ⟨r, rfl, h⟩
  | n + 1, i, r, e, h => by
    have hlt : i < ys.length := by omega
    obtain ⟨r1, h1, r2, h2, h3⟩ := st i _ r (List.getElem?_eq_getElem hlt) h
    rw [List.drop_eq_getElem_cons hlt]
    obtain ⟨r', g1, g2⟩ := forLoop_inv P st n (i + 1) r2 (by omega) h3
    refine ⟨r', ?_, g2⟩
    simp only [forLoop, h1]
    rcases h2 with h2 | h2 <;> rw [h2] <;> exact g1
theorem forRun_inv {t : Tg} {body : Rho → Fl} {ys : List D} {r : Rho} (P : Nat → Rho → Prop) (h0 : P 0 r) (st : ∀ i x r, ys[i]? = some x → P i r → ∃ r1, bindT t x r = some r1 ∧ ∃ r2, (body r1 = .nx r2 ∨ body r1 = .ct r2) ∧ P (i + 1) r2) {ls : Bool} : ∃ r', forRun t body ⟨ys, [], ls⟩ r = .nx r' ∧ P ys.length r' := by
  obtain ⟨r', g1, g2⟩ := forLoop_inv P st ys.length 0 r (by omega) h0
  refine ⟨r', ?_, g2⟩
  rw [List.drop_zero] at g1
  simp only [forRun, List.all_nil, if_true, wipeR, g1]
  rfl
/-- range(n) -/
theorem range_get {lo hi : Int} {xs : List D} (h : rangeD lo hi = some xs) {i : Nat} {x : D} (hx : xs[i]? = some x) : x = .int (lo + i) ∧ (i : Int) < hi - lo := by
  unfold rangeD at h
  cases h
  rw [List.getElem?_map] at hx
  cases e : (List.range (hi - lo).toNat)[i]? with
  | none => rw [e] at hx; cases hx
  | some k =>
    rw [e] at hx
    cases hx
    obtain ⟨h1, h2⟩ := List.getElem?_eq_some_iff.mp e
    rw [List.getElem_range] at h2
    subst h2
    rw [List.length_range] at h1
    exact ⟨rfl, by omega⟩
theorem range_len {lo hi : Int} {xs : List D} (h : rangeD lo hi = some xs) : xs.length = (hi - lo).toNat := by
  unfold rangeD at h
  cases h
  simp
end Ev

/-! Va1: reckoning by rewriting. -/
namespace Ev
open PySem L2
def Fl.sq (f : Fl) (k : Rho → Fl) : Fl := match f with
  | .nx r => k r
  | f => f
section
variable {α β : Type} {a b i j : Int} {r r1 : Rho} {k : Rho → Fl} {C : Cf} {io : List Nat} {p : Prop} [Decidable p]
theorem sq_nx : (Fl.nx r).sq k = k r := rfl
theorem sq_rt {v : Rv} : (Fl.rt v r).sq k = .rt v r := rfl
theorem sq_bk : (Fl.bk r).sq k = .bk r := rfl
theorem sq_ct : (Fl.ct r).sq k = .ct r := rfl
theorem sq_ex {c : Nat} {fs : List D} : (Fl.ex c fs r).sq k = .ex c fs r := rfl
theorem sq_bad : Fl.bad.sq k = .bad := rfl
theorem sq_ite {x y : Fl} : (if p then x else y).sq k = if p then x.sq k else y.sq k := by split <;> rfl
theorem q_nil : evSs C io [] r = .nx r := rfl
theorem q_cons {s : S} {ss : List S} : evSs C io (s :: ss) r = (evS C io s r).sq (evSs C io ss) := by
  simp only [evSs]
  cases evS C io s r <;> rfl
theorem bind_ex {c : Nat} {fs : List D} {f : α → Rho → Res β} : (Res.ex c fs r).bind f = .ex c fs r := rfl
theorem bind_bad {f : α → Rho → Res β} : (Res.bad : Res α).bind f = .bad := rfl
theorem bind_ite {x y : Res α} {f : α → Rho → Res β} : (if p then x else y).bind f = if p then x.bind f else y.bind f := by split <;> rfl
theorem map_ex {c : Nat} {fs : List D} {f : α → β} : (Res.ex c fs r).map f = .ex c fs r := rfl
theorem map_bad {f : α → β} : (Res.bad : Res α).map f = .bad := rfl
theorem map_ite {x y : Res α} {f : α → β} : (if p then x else y).map f = if p then x.map f else y.map f := by split <;> rfl
theorem fl_ex {c : Nat} {fs : List D} {f : α → Rho → Fl} : (Res.ex c fs r).fl f = .ex c fs r := rfl
theorem fl_bad {f : α → Rho → Fl} : (Res.bad : Res α).fl f = .bad := rfl
theorem fl_ite {x y : Res α} {f : α → Rho → Fl} : (if p then x else y).fl f = if p then x.fl f else y.fl f := by split <;> rfl
theorem ite_okB {x y : Bool} : (if p then Res.ok x r else Res.ok y r) = .ok (if p then x else y) r := by split <;> rfl
theorem ite_okV {x y : Bool} : (if p then Res.ok (Rv.fr (.bool x)) r else Res.ok (Rv.fr (.bool y)) r) = .ok (.fr (.bool (if p then x else y))) r := by split <;> rfl
theorem ite_and {x y : Bool} : (if x = true then y else false) = (x && y) := by cases x <;> rfl
theorem ite_or {x y : Bool} : (if x = true then true else y) = (x || y) := by cases x <;> rfl
/-! calls -/
def finC (lentE : Bool) (ls : List Nat) (r : Rho) (f : FRes) : Res Rv := match f with
  | .ok v outs => if (lentE || (noLR v && outs.all noLR)) && decide (outs.length = ls.length) then .ok v (setAll r ls outs) else .bad
  | .ex c fs outs => if (lentE || outs.all noLR) && decide (outs.length = ls.length) then .ex c fs (setAll r ls outs) else .bad
  | .bad => .bad
def calO (call : Call) (f : Nat) (le : Bool) (ls : List Nat) (r : Rho) : Option (List Rv) → Res Rv
  | some vs => finC le ls r (call f vs)
  | none => .bad
theorem callO_eq {call : Call} {f : Nat} {os : List OV} : callO call f os r = if (nodupB (lentIo os) && (slO os).all (fun i => !(lentIo os).contains i)) = true then calO call f (lent r os).isEmpty (lentIo os) r (hand r os) else .bad := by
  unfold callO
  split
  · cases hand r os with
    | none => rfl
    | some vs =>
      dsimp only [calO]
      cases call f vs <;> rfl
  · rfl
theorem calO_some {call : Call} {f : Nat} {le : Bool} {ls : List Nat} {vs : List Rv} : calO call f le ls r (some vs) = finC le ls r (call f vs) := rfl
theorem finC_ok0 {v : Rv} : finC true [] r (.ok v []) = .ok v r := rfl
theorem finC_ex0 {c : Nat} {fs : List D} : finC true [] r (.ex c fs []) = .ex c fs r := rfl
theorem finC_okI {i : Nat} {v u : Rv} : finC true [i] r (.ok v [u]) = .ok v (r.set i (some u)) := rfl
theorem finC_exI {i c : Nat} {u : Rv} {fs : List D} : finC true [i] r (.ex c fs [u]) = .ex c fs (r.set i (some u)) := rfl
theorem finC_okL {v : Rv} (h : noLR v = true) : finC false [] r (.ok v []) = .ok v r := by simp [finC, h, setAll]
theorem finC_exL {c : Nat} {fs : List D} : finC false [] r (.ex c fs []) = .ex c fs r := rfl
theorem finC_ite {le : Bool} {ls : List Nat} {x y : FRes} : finC le ls r (if p then x else y) = if p then finC le ls r x else finC le ls r y := by split <;> rfl
/-! functions -/
def finF (io : List Nat) (f : Fl) : FRes := match f with
  | .nx r => match outsOf r io with
    | some os => .ok (.fr .none) os
    | none => .bad
  | .rt v r => match outsOf r io with
    | some os => .ok v os
    | none => .bad
  | .ex c fs r => match outsOf r io with
    | some os => .ex c fs os
    | none => .bad
  | _ => .bad
theorem runFn_eq {fd : Fd} {vs : List Rv} : runFn C fd vs = if (decide (vs.length = fd.np) && decide (fd.np ≤ fd.ns) && vs.all okTp) = true then finF (owIx vs 0) (evSs C (owIx vs 0) fd.body (vs.map some ++ List.replicate (fd.ns - vs.length) none)) else .bad := by
  unfold runFn
  split
  · generalize evSs C (owIx vs 0) fd.body (vs.map some ++ List.replicate (fd.ns - vs.length) none) = f
    cases f <;> rfl
  · rfl
theorem finF_nx0 : finF [] (.nx r) = .ok (.fr .none) [] := rfl
theorem finF_rt0 {v : Rv} : finF [] (.rt v r) = .ok v [] := rfl
theorem finF_ex0 {c : Nat} {fs : List D} : finF [] (.ex c fs r) = .ex c fs [] := rfl
theorem finF_ite {x y : Fl} : finF io (if p then x else y) = if p then finF io x else finF io y := by split <;> rfl
theorem le_ii : cmpD .le (.int a) (.int b) = some (decide (a ≤ b)) := by
  rw [cmp_le]
  congr 1
  by_cases h : a ≤ b <;> simp [h] <;> omega
theorem ge_ii : cmpD .ge (.int a) (.int b) = some (decide (b ≤ a)) := by
  rw [cmp_ge]
  congr 1
  by_cases h : b ≤ a <;> simp [h] <;> omega
/-! the equations -/
def ops (f : D → D → Res Rv) : Option D → Option D → Res Rv
  | some d, some e => f d e
  | _, _ => .bad
def op1 {α : Type} (f : D → Res α) : Option D → Res α
  | some d => f d
  | none => .bad
theorem ops_some {f : D → D → Res Rv} {d e : D} : ops f (some d) (some e) = f d e := rfl
theorem op1_some {f : D → Res α} {d : D} : op1 f (some d) = f d := rfl
def andR (x : Res Rv) (r : Rho) : D → Res Rv
  | .bool c => if c then x else .ok (.fr (.bool false)) r
  | _ => .bad
def orR (x : Res Rv) (r : Rho) : D → Res Rv
  | .bool c => if c then .ok (.fr (.bool true)) r else x
  | _ => .bad
theorem andR_b {x : Res Rv} {c : Bool} : andR x r (.bool c) = if c then x else .ok (.fr (.bool false)) r := rfl
theorem orR_b {x : Res Rv} {c : Bool} : orR x r (.bool c) = if c then .ok (.fr (.bool true)) r else x := rfl
def slt (r : Rho) (f : Nat → OV) (i : Nat) : Option (Option Rv) → Res OV
  | some (some _) => .ok (f i) r
  | _ => .bad
theorem slt_some {f : Nat → OV} {i : Nat} {v : Rv} : slt r f i (some (some v)) = .ok (f i) r := rfl
def vsl (r : Rho) (i : Nat) : Option (Option Rv) → Res Rv
  | some (some v) => match v with
    | .fr d => .ok (.fr d) r
    | v => .ok (.fr (fz v)) (r.set i (some (.fr (fz v))))
  | _ => .bad
theorem vsl_fr {i : Nat} {d : D} : vsl r i (some (some (.fr d))) = .ok (.fr d) r := rfl
theorem vsl_ow {i : Nat} {xs : List D} : vsl r i (some (some (.ow (.lst xs)))) = .ok (.fr (.list xs)) (r.set i (some (.fr (.list xs)))) := rfl
def mvl (r : Rho) (i : Nat) : Option (Option Rv) → Res Rv
  | some (some v) => .ok v (r.set i none)
  | _ => .bad
theorem mvl_some {i : Nat} {v : Rv} : mvl r i (some (some v)) = .ok v (r.set i none) := rfl
def vwS : Option (Option Rv) → Option D
  | some (some (.fr d)) => some d
  | some (some (.ow (.lst xs))) => some (.list xs)
  | _ => none
theorem vwS_fr {d : D} : vwS (some (some (.fr d))) = some d := rfl
theorem vwS_ow {xs : List D} : vwS (some (some (.ow (.lst xs)))) = some (.list xs) := rfl
theorem vw_d {d : D} : vw r (.d d) = some d := rfl
theorem vw_sl {i : Nat} : vw r (.sl i) = vwS r[i]? := by
  simp only [vw]
  split <;> simp_all [vwS]
def lstR (r : Rho) : Option (List D) → Res Rv
  | some ds => if lenOk ds.length then .ok (.ow (.lst ds)) r else .bad
  | none => .bad
theorem lstR_some {ds : List D} (h : ds.length ≤ 1000) : lstR r (some ds) = .ok (.ow (.lst ds)) r := by
  have : lenOk ds.length = true := by
    simp only [lenOk, decide_eq_true_eq]
    exact Nat.le_trans h (by decide)
  simp [lstR, this]
def tupR (vs : List Rv) (r : Rho) : Res Rv := if lenOk vs.length then .ok (mkTp vs) r else .bad
theorem tupR_ok {vs : List Rv} (h : vs.length ≤ 1000) : tupR vs r = .ok (mkTp vs) r := by
  have : lenOk vs.length = true := by
    simp only [lenOk, decide_eq_true_eq]
    exact Nat.le_trans h (by decide)
  simp [tupR, this]
variable {x y z : E} {o q : BOp} {co cp : COp} {es : List E} {n : Nat} {d : D}
theorem o_bo {v : Res Rv} : asO (.bo n) v r = slt r .sl n r[n]? := by
  simp only [asO]
  split <;> simp_all [slt]
theorem o_io {v : Res Rv} : asO (.io n) v r = slt r .io n r[n]? := by
  simp only [asO]
  split <;> simp_all [slt]
theorem o_k {v : Res Rv} : asO (.k d) v r = v.map fun v => .d (fz v) := rfl
theorem o_g {v : Res Rv} : asO (.g n) v r = v.map fun v => .d (fz v) := rfl
theorem o_v {v : Res Rv} : asO (.v n) v r = v.map fun v => .d (fz v) := rfl
theorem o_mv {v : Res Rv} : asO (.mv n) v r = v.map fun v => .d (fz v) := rfl
theorem o_tup {v : Res Rv} : asO (.tup es) v r = v.map fun v => .d (fz v) := rfl
theorem o_lst {v : Res Rv} : asO (.lst es) v r = v.map fun v => .d (fz v) := rfl
theorem o_bin {v : Res Rv} : asO (.bin o x y) v r = v.map fun v => .d (fz v) := rfl
theorem o_neg {v : Res Rv} : asO (.neg x) v r = v.map fun v => .d (fz v) := rfl
theorem o_cmp {v : Res Rv} : asO (.cmp co x y) v r = v.map fun v => .d (fz v) := rfl
theorem o_chain {v : Res Rv} : asO (.chain co cp x y z) v r = v.map fun v => .d (fz v) := rfl
theorem o_isN {v : Res Rv} : asO (.isN x) v r = v.map fun v => .d (fz v) := rfl
theorem o_notN {v : Res Rv} : asO (.notN x) v r = v.map fun v => .d (fz v) := rfl
theorem o_and {v : Res Rv} : asO (.and x y) v r = v.map fun v => .d (fz v) := rfl
theorem o_or {v : Res Rv} : asO (.or x y) v r = v.map fun v => .d (fz v) := rfl
theorem o_not {v : Res Rv} : asO (.not x) v r = v.map fun v => .d (fz v) := rfl
theorem o_ite {v : Res Rv} : asO (.ite x y z) v r = v.map fun v => .d (fz v) := rfl
theorem o_idx {v : Res Rv} : asO (.idx x y) v r = v.map fun v => .d (fz v) := rfl
theorem o_slc {lo hi : Option E} {v : Res Rv} : asO (.slc x lo hi) v r = v.map fun v => .d (fz v) := rfl
theorem o_call {v : Res Rv} : asO (.call n es) v r = v.map fun v => .d (fz v) := rfl
theorem o_bi {b : Bi} {v : Res Rv} : asO (.bi b es) v r = v.map fun v => .d (fz v) := rfl
theorem o_isi {t : Ty} {v : Res Rv} : asO (.isi x t) v r = v.map fun v => .d (fz v) := rfl
theorem o_lc {t : Tg} {v : Res Rv} : asO (.lc t x y) v r = v.map fun v => .d (fz v) := rfl
theorem o_lci {t : Tg} {v : Res Rv} : asO (.lci t x y z) v r = v.map fun v => .d (fz v) := rfl
theorem e_k : evE C (.k d) r = .ok (.fr d) r := rfl
theorem e_g : evE C (.g n) r = .opt (C.G[n]?.map .fr) r := rfl
theorem e_v : evE C (.v n) r = vsl r n r[n]? := by
  simp only [evE]
  cases r[n]? with
  | none => rfl
  | some v => cases v with
    | none => rfl
    | some v => cases v <;> rfl
theorem e_mv : evE C (.mv n) r = mvl r n r[n]? := by
  simp only [evE]
  cases r[n]? with
  | none => rfl
  | some v => cases v <;> rfl
theorem e_tup : evE C (.tup es) r = (evVs C es r).bind tupR := rfl
theorem e_lst : evE C (.lst es) r = (evOs C es r).bind fun os r1 => lstR r1 (dsO os) := by
  simp only [evE]
  congr
theorem e_bin : evE C (.bin o x y) r = (asO x (evE C x r) r).bind fun a r1 => (asO y (evE C y r1) r1).bind fun b r2 => ops (fun d e => .opt (binD o d e) r2) (vw r2 a) (vw r2 b) := by
  simp only [evE]
  congr
def negR (r : Rho) : D → Res Rv
  | .int i => .ok (.fr (.int (-i))) r
  | _ => .bad
theorem negR_i : negR r (.int i) = .ok (.fr (.int (-i))) r := rfl
theorem e_neg : evE C (.neg x) r = (asO x (evE C x r) r).bind fun a r1 => op1 (negR r1) (vw r1 a) := by
  simp only [evE]
  congr
  funext a r1
  cases e : vw r1 a with
  | none => rfl
  | some d => cases d <;> rfl
def cmpR (r : Rho) (o : Option Bool) : Res Rv := .opt (o.map fun c => .fr (.bool c)) r
theorem cmpR_some {c : Bool} : cmpR r (some c) = .ok (.fr (.bool c)) r := rfl
theorem e_cmp : evE C (.cmp co x y) r = (asO x (evE C x r) r).bind fun a r1 => (asO y (evE C y r1) r1).bind fun b r2 => ops (fun d e => cmpR r2 (cmpD co d e)) (vw r2 a) (vw r2 b) := by
  simp only [evE]
  congr
def chn (o : Option Bool) (x y : Res Rv) : Res Rv := match o with
  | some true => x
  | some false => y
  | none => .bad
theorem chn_some {c : Bool} {x y : Res Rv} : chn (some c) x y = if c = true then x else y := by cases c <;> rfl
theorem e_chain : evE C (.chain co cp x y z) r = (asO x (evE C x r) r).bind fun a r1 => (asO y (evE C y r1) r1).bind fun b r2 => ops (fun d e => chn (cmpD co d e) ((asO z (evE C z r2) r2).bind fun c r3 => ops (fun e f => cmpR r3 (cmpD cp e f)) (vw r3 b) (vw r3 c)) (.ok (.fr (.bool false)) r2)) (vw r2 a) (vw r2 b) := by
  simp only [evE]
  congr
theorem e_isN : evE C (.isN x) r = (asO x (evE C x r) r).bind fun a r1 => op1 (fun d => .ok (.fr (.bool (isNn d))) r1) (vw r1 a) := by
  simp only [evE]
  congr
theorem e_notN : evE C (.notN x) r = (asO x (evE C x r) r).bind fun a r1 => op1 (fun d => .ok (.fr (.bool (!isNn d))) r1) (vw r1 a) := by
  simp only [evE]
  congr
theorem e_and : evE C (.and x y) r = (asO x (evE C x r) r).bind fun a r1 => op1 (andR (evE C y r1) r1) (vw r1 a) := by
  simp only [evE]
  congr
  funext a r1
  cases vw r1 a with
  | none => rfl
  | some d => cases d <;> rfl
theorem e_or : evE C (.or x y) r = (asO x (evE C x r) r).bind fun a r1 => op1 (orR (evE C y r1) r1) (vw r1 a) := by
  simp only [evE]
  congr
  funext a r1
  cases vw r1 a with
  | none => rfl
  | some d => cases d <;> rfl
theorem t_st {x : Res OV} : (x.bind fun o r1 => Res.opt ((vw r1 o).bind truD) r1) = x.bind fun o r1 => op1 (fun d => .opt (truD d) r1) (vw r1 o) := by
  congr
  funext o r1
  cases vw r1 o <;> rfl
def tsO (x : Res OV) : Res Bool := x.bind fun o r1 => op1 (fun d => .opt (truD d) r1) (vw r1 o)
theorem tsO_eq {x : Res OV} : tsO x = x.bind fun o r1 => op1 (fun d => .opt (truD d) r1) (vw r1 o) := rfl
theorem tst_eq {v : Res Rv} : tstO x v r = tsO (asO x v r) := by
  unfold tstO
  rw [t_st]
  rfl
theorem e_not : evE C (.not x) r = (tsO (asO x (evE C x r) r)).bind fun c r1 => .ok (.fr (.bool (!c))) r1 := by
  simp only [evE, tst_eq]
theorem e_ite : evE C (.ite x y z) r = (tsO (asO x (evE C x r) r)).bind fun c r1 => if c then evE C y r1 else evE C z r1 := by
  simp only [evE, tst_eq]
theorem e_idx : evE C (.idx x y) r = (asO x (evE C x r) r).bind fun a r1 => (asO y (evE C y r1) r1).bind fun b r2 => ops (fun d e => .opt ((idxD d e).map .fr) r2) (vw r2 a) (vw r2 b) := by
  simp only [evE]
  congr
theorem e_slc {lo hi : Option E} : evE C (.slc x lo hi) r = (asO x (evE C x r) r).bind fun a r1 => (evP C lo r1).bind fun l r2 => (evP C hi r2).bind fun h r3 => op1 (fun d => .opt (slcD d l h) r3) (vw r3 a) := by
  simp only [evE]
  congr
theorem p_none : evP C none r = .ok none r := rfl
def intR (r : Rho) : D → Res (Option Int)
  | .int i => .ok (some i) r
  | _ => .bad
theorem intR_i : intR r (.int i) = .ok (some i) r := rfl
theorem p_some : evP C (some x) r = (asO x (evE C x r) r).bind fun a r1 => op1 (intR r1) (vw r1 a) := by
  simp only [evP]
  congr
  funext a r1
  simp only [intV]
  cases vw r1 a with
  | none => rfl
  | some d => cases d <;> rfl
theorem e_call {f : Nat} : evE C (.call f es) r = (evOs C es r).bind fun os r1 => callO C.call f os r1 := rfl
def biR (b : Bi) (r : Rho) : Option (List D) → Res Rv
  | some ds => .opt (biD b ds) r
  | none => .bad
theorem biR_some {b : Bi} {ds : List D} : biR b r (some ds) = .opt (biD b ds) r := rfl
theorem e_bi {b : Bi} : evE C (.bi b es) r = (evOs C es r).bind fun os r1 => biR b r1 (vws r1 os) := by
  simp only [evE]
  congr
theorem vws_nil : vws r [] = some [] := rfl
def consO : Option D → Option (List D) → Option (List D)
  | some d, some ds => some (d :: ds)
  | _, _ => none
theorem consO_some {ds : List D} : consO (some d) (some ds) = some (d :: ds) := rfl
theorem vws_cons {ov : OV} {os : List OV} : vws r (ov :: os) = consO (vw r ov) (vws r os) := by
  simp only [vws]
  cases vw r ov <;> cases vws r os <;> rfl
theorem e_isi {t : Ty} : evE C (.isi x t) r = (asO x (evE C x r) r).bind fun a r1 => op1 (fun d => .ok (.fr (.bool (isiD d t))) r1) (vw r1 a) := by
  simp only [evE]
  congr
theorem e_lc {t : Tg} : evE C (.lc t x y) r = (evI C x r).bind fun m r1 => lcRun t (fun r => .ok true r) (evE C y) m r1 := rfl
theorem e_lci {t : Tg} : evE C (.lci t x y z) r = (evI C x r).bind fun m r1 => lcRun t (fun r => tsO (asO y (evE C y r) r)) (evE C z) m r1 := by
  simp only [evE, tst_eq]
theorem os_nil : evOs C [] r = .ok [] r := rfl
theorem os_cons : evOs C (x :: es) r = (asO x (evE C x r) r).bind fun a r1 => (evOs C es r1).bind fun as r2 => .ok (a :: as) r2 := rfl
theorem vs_nil : evVs C [] r = .ok [] r := rfl
theorem vs_cons : evVs C (x :: es) r = (evE C x r).bind fun a r1 => (evVs C es r1).bind fun as r2 => .ok (a :: as) r2 := rfl
/-! tests -/
theorem t_and : evT C (.and x y) r = (evT C x r).bind fun c r1 => if c then evT C y r1 else .ok false r1 := rfl
theorem t_or : evT C (.or x y) r = (evT C x r).bind fun c r1 => if c then .ok true r1 else evT C y r1 := rfl
theorem t_not : evT C (.not x) r = (evT C x r).bind fun c r1 => .ok (!c) r1 := rfl
theorem t_bo : evT C (.bo n) r = tsO (asO (.bo n) (evE C (.bo n) r) r) := by simp only [evT, tst_eq]
theorem t_v : evT C (.v n) r = tsO (asO (.v n) (evE C (.v n) r) r) := by simp only [evT, tst_eq]
theorem t_k : evT C (.k d) r = tsO (asO (.k d) (evE C (.k d) r) r) := by simp only [evT, tst_eq]
theorem t_bin : evT C (.bin o x y) r = tsO (asO (.bin o x y) (evE C (.bin o x y) r) r) := by simp only [evT, tst_eq]
theorem t_cmp : evT C (.cmp co x y) r = tsO (asO (.cmp co x y) (evE C (.cmp co x y) r) r) := by simp only [evT, tst_eq]
theorem t_chain : evT C (.chain co cp x y z) r = tsO (asO (.chain co cp x y z) (evE C (.chain co cp x y z) r) r) := by simp only [evT, tst_eq]
theorem t_isN : evT C (.isN x) r = tsO (asO (.isN x) (evE C (.isN x) r) r) := by simp only [evT, tst_eq]
theorem t_notN : evT C (.notN x) r = tsO (asO (.notN x) (evE C (.notN x) r) r) := by simp only [evT, tst_eq]
theorem t_idx : evT C (.idx x y) r = tsO (asO (.idx x y) (evE C (.idx x y) r) r) := by simp only [evT, tst_eq]
theorem t_call {f : Nat} : evT C (.call f es) r = tsO (asO (.call f es) (evE C (.call f es) r) r) := by simp only [evT, tst_eq]
theorem t_bi {b : Bi} : evT C (.bi b es) r = tsO (asO (.bi b es) (evE C (.bi b es) r) r) := by simp only [evT, tst_eq]
theorem t_isi {t : Ty} : evT C (.isi x t) r = tsO (asO (.isi x t) (evE C (.isi x t) r) r) := by simp only [evT, tst_eq]
theorem t_lc {t : Tg} : evT C (.lc t x y) r = tsO (asO (.lc t x y) (evE C (.lc t x y) r) r) := by simp only [evT, tst_eq]
theorem t_lci {t : Tg} : evT C (.lci t x y z) r = tsO (asO (.lci t x y z) (evE C (.lci t x y z) r) r) := by simp only [evT, tst_eq]
/-! what is walked -/
def rngR (r : Rho) (x y : D) : Res Itm := match x, y with
  | .int i, .int j => .opt ((rangeD i j).map fun xs => ⟨xs, [], true⟩) r
  | _, _ => .bad
theorem rngR_i {i j : Int} : rngR r (.int i) (.int j) = .opt ((rangeD i j).map fun xs => ⟨xs, [], true⟩) r := rfl
theorem i_rng1' : evI C (.rng1 x) r = (asO x (evE C x r) r).bind fun a r1 => op1 (rngR r1 (.int 0)) (vw r1 a) := by
  simp only [evI]
  congr
  funext a r1
  simp only [intV]
  cases vw r1 a with
  | none => rfl
  | some d => cases d <;> rfl
def ops2 {α : Type} (f : D → D → Res α) : Option D → Option D → Res α
  | some d, some e => f d e
  | _, _ => .bad
theorem ops2_some {f : D → D → Res α} {d e : D} : ops2 f (some d) (some e) = f d e := rfl
theorem i_rng2' : evI C (.rng2 x y) r = (asO x (evE C x r) r).bind fun a r1 => (asO y (evE C y r1) r1).bind fun b r2 => ops2 (rngR r2) (vw r2 a) (vw r2 b) := by
  simp only [evI]
  congr
  funext a r1
  congr
  funext b r2
  simp only [intV]
  cases vw r2 a with
  | none => cases vw r2 b <;> rfl
  | some d => cases vw r2 b with
    | none => cases d <;> rfl
    | some e => cases d <;> cases e <;> rfl
theorem i_enu' : evI C (.enu x) r = (asO x (evE C x r) r).bind fun a r1 => .opt (enuI r1 a) r1 := rfl
theorem i_zp' : evI C (.zp x y) r = (asO x (evE C x r) r).bind fun a r1 => (asO y (evE C y r1) r1).bind fun b r2 => .opt (zpI r2 a b) r2 := rfl
theorem i_itr' : evI C (.itr x) r = (asO x (evE C x r) r).bind fun a r1 => .opt (seqOf r1 a) r1 := rfl
theorem seq_d {d : D} : seqOf r (.d d) = (itemsD d).map fun xs => ⟨xs, [], isLD d⟩ := rfl
def seqS (i : Nat) : Option (Option Rv) → Option Itm
  | some (some (.fr d)) => (itemsD d).map fun xs => ⟨xs, [], isLD d⟩
  | some (some (.ow (.lst xs))) => some ⟨xs, [i], true⟩
  | _ => none
theorem seq_sl {i : Nat} : seqOf r (.sl i) = seqS i r[i]? := by
  simp only [seqOf]
  split <;> simp_all [seqS]
theorem seqS_fr {i : Nat} {d : D} : seqS i (some (some (.fr d))) = (itemsD d).map fun xs => ⟨xs, [], isLD d⟩ := rfl
theorem seqS_ow {i : Nat} {xs : List D} : seqS i (some (some (.ow (.lst xs)))) = some ⟨xs, [i], true⟩ := rfl
/-! statements -/
variable {t : Tg} {s : S} {ss ss2 : List S}
def asgR (io : List Nat) (t : Tg) (v : Rv) (r : Rho) : Fl := if freeT io t then nxO (bindV t v r) else .bad
where nxO : Option Rho → Fl
  | some r => .nx r
  | none => .bad
theorem nxO_some : asgR.nxO (some r) = .nx r := rfl
theorem asgR_eq {v : Rv} (h : freeT io t = true) : asgR io t v r = asgR.nxO (bindV t v r) := by simp [asgR, h]
theorem s_asg' : evS C io (.asg t x) r = (evE C x r).fl (asgR io t) := by
  simp only [evS]
  congr
theorem s_ex' : evS C io (.ex x) r = (evE C x r).fl fun _ r1 => .nx r1 := rfl
theorem s_ret' : evS C io (.ret x) r = (evE C x r).fl fun v r1 => .rt v r1 := rfl
theorem s_retN' : evS C io .retN r = .rt (.fr .none) r := rfl
theorem s_pass' : evS C io .pass r = .nx r := rfl
theorem s_brk' : evS C io .brk r = .bk r := rfl
theorem s_cont' : evS C io .cont r = .ct r := rfl
theorem s_ife' : evS C io (.ife x ss ss2) r = (evT C x r).fl fun c r1 => if c then evSs C io ss r1 else evSs C io ss2 r1 := rfl
theorem s_forr' : evS C io (.forr t x ss) r = (evI C x r).fl fun m r1 => if freeT io t then forRun t (evSs C (io ++ m.sl) ss) m r1 else .bad := rfl
theorem s_whl' : evS C io (.whl x ss) r = whLoop (evT C x) (evSs C io ss) C.w r := rfl
/-- a store -/
def stoR (i : Nat) (r : Rho) (x : OV) (n : D) (c : Option (Option Rv)) : Fl := match x, n, c with
  | .d d, .int n, some (some (.ow (.lst xs))) => match L2.ixN xs.length n with
        | some j => .nx (r.set i (some (.ow (.lst (xs.set j d)))))
        | none => .bad
  | _, _, _ => .bad
def stoN (i : Nat) (r : Rho) (xs : List D) (d : D) : Option Nat → Fl
  | some j => .nx (r.set i (some (.ow (.lst (xs.set j d)))))
  | none => .bad
theorem stoN_some {i j : Nat} {xs : List D} {d : D} : stoN i r xs d (some j) = .nx (r.set i (some (.ow (.lst (xs.set j d))))) := rfl
theorem stoR_eq {i : Nat} {n : Int} {xs : List D} : stoR i r (.d d) (.int n) (some (some (.ow (.lst xs)))) = stoN i r xs d (L2.ixN xs.length n) := by
  simp only [stoR]
  cases ixN xs.length n <;> rfl
def op1F (f : D → Fl) : Option D → Fl
  | some d => f d
  | none => .bad
theorem op1F_some {f : D → Fl} {d : D} : op1F f (some d) = f d := rfl
def hasR : Option (Option Rv) → Bool
  | some (some _) => true
  | _ => false
theorem hasR_some {v : Rv} : hasR (some (some v)) = true := rfl
theorem hasS_eq {i : Nat} : hasS r i = hasR r[i]? := by
  unfold hasS
  split <;> simp_all [hasR]
def ifN (b : Bool) (x : Fl) : Fl := if b then x else .bad
theorem ifN_t {x : Fl} : ifN true x = x := rfl
theorem s_sto' {i : Nat} : evS C io (.sto i y x) r = (asO x (evE C x r) r).fl fun a r1 => ifN (hasR r1[i]?) ((asO y (evE C y r1) r1).fl fun b r2 => op1F (fun n => stoR i r2 a n r2[i]?) (vw r2 b)) := by
  simp only [evS]
  congr
  funext a r1
  rw [hasS_eq]
  cases hasR r1[i]? with
  | false => rfl
  | true =>
    simp only [Bool.not_true, Bool.false_eq_true, if_false, ifN_t]
    congr
    funext b r2
    simp only [intV]
    cases vw r2 b with
    | none => cases a <;> rfl
    | some e =>
      cases e <;> cases a <;> try rfl
      simp only [op1F, stoF, stoR]
      cases r2[i]? with
      | none => rfl
      | some v => cases v with
        | none => rfl
        | some v => cases v with
          | fr _ => rfl
          | tp _ => rfl
          | ow ow => cases ow; rfl
def augR (i : Nat) (o : BOp) (io : List Nat) (r : Rho) (n : D) (c : Option (Option Rv)) : Fl := match n, c with
  | .int n, some (some (.fr (.int m))) => match augD o m n with
      | some z => if !io.contains i then .nx (r.set i (some (.fr (.int z)))) else .bad
      | none => .bad
  | _, _ => .bad
theorem augR_add {i : Nat} {m n : Int} (h : io.contains i = false) : augR i .add io r (.int n) (some (some (.fr (.int m)))) = .nx (r.set i (some (.fr (.int (m + n))))) := by simp [augR, augD]; simpa using h
theorem augR_sub {i : Nat} {m n : Int} (h : io.contains i = false) : augR i .sub io r (.int n) (some (some (.fr (.int m)))) = .nx (r.set i (some (.fr (.int (m - n))))) := by simp [augR, augD]; simpa using h
theorem s_aug' {i : Nat} : evS C io (.aug i o x) r = ifN (hasR r[i]?) ((asO x (evE C x r) r).fl fun a r1 => op1F (fun n => augR i o io r1 n r1[i]?) (vw r1 a)) := by
  simp only [evS]
  rw [hasS_eq]
  cases hasR r[i]? with
  | false => rfl
  | true =>
    simp only [Bool.not_true, Bool.false_eq_true, if_false, ifN_t]
    congr
    funext a r1
    simp only [intV]
    cases vw r1 a with
    | none =>
      simp only [op1F]
      split <;> simp_all
    | some e =>
      simp only [op1F]
      cases r1[i]? with
      | none => cases e <;> rfl
      | some v => cases v with
        | none => cases e <;> rfl
        | some v => cases v with
          | fr d => cases d <;> cases e <;> rfl
          | tp _ => cases e <;> rfl
          | ow ow => cases e <;> rfl
def auglR (i : Nat) (r : Rho) (v : Rv) (c : Option (Option Rv)) : Fl := match v, c with
  | .ow (.lst ys), some (some (.ow (.lst xs))) => if lenOk (xs.length + ys.length) then .nx (r.set i (some (.ow (.lst (xs ++ ys))))) else .bad
  | _, _ => .bad
theorem auglR_eq {i : Nat} {xs ys : List D} (h : lenOk (xs.length + ys.length) = true) : auglR i r (.ow (.lst ys)) (some (some (.ow (.lst xs)))) = .nx (r.set i (some (.ow (.lst (xs ++ ys))))) := by simp [auglR, h]
theorem s_augl' {i : Nat} : evS C io (.augl i x) r = ifN (hasR r[i]?) ((evE C x r).fl fun v r1 => auglR i r1 v r1[i]?) := by
  simp only [evS]
  rw [hasS_eq]
  cases hasR r[i]? with
  | false => rfl
  | true =>
    simp only [Bool.not_true, Bool.false_eq_true, if_false, ifN_t]
    congr
def isOwR : Option (Option Rv) → Bool
  | some (some (.ow _)) => true
  | _ => false
theorem isOwR_ow {w : Ow} : isOwR (some (some (.ow w))) = true := rfl
theorem isOwR_fr {d : D} : isOwR (some (some (.fr d))) = false := rfl
theorem isOwS_eq {i : Nat} : isOwS r i = isOwR r[i]? := by
  unfold isOwS
  split <;> simp_all [isOwR]
def mthR (m : Mt) (i : Nat) (r : Rho) (ds : List D) (c : Option (Option Rv)) : Fl := match c with
  | some (some (.ow (.lst xs))) => mthR.mtO i r (mtD m xs ds)
  | _ => .bad
where mtO (i : Nat) (r : Rho) : Option (List D) → Fl
  | some ys => .nx (r.set i (some (.ow (.lst ys))))
  | none => .bad
theorem mthR_eq {m : Mt} {i : Nat} {ds xs : List D} : mthR m i r ds (some (some (.ow (.lst xs)))) = mthR.mtO i r (mtD m xs ds) := rfl
theorem mtO_some {i : Nat} {ys : List D} : mthR.mtO i r (some ys) = .nx (r.set i (some (.ow (.lst ys)))) := rfl
def opsF (f : List D → Fl) : Option (List D) → Fl
  | some d => f d
  | none => .bad
theorem opsF_some {f : List D → Fl} {ds : List D} : opsF f (some ds) = f ds := rfl
theorem s_mth' {m : Mt} {i : Nat} : evS C io (.mth m i es) r = ifN (isOwR r[i]?) ((evOs C es r).fl fun os r1 => opsF (fun ds => mthR m i r1 ds r1[i]?) (dsO os)) := by
  simp only [evS]
  rw [isOwS_eq]
  cases isOwR r[i]? with
  | false => rfl
  | true =>
    simp only [Bool.not_true, Bool.false_eq_true, if_false, ifN_t]
    congr
    funext os r1
    cases dsO os with
    | none =>
      simp only [opsF]
      split <;> simp_all
    | some ds =>
      simp only [opsF, mthR]
      cases r1[i]? with
      | none => rfl
      | some v => cases v with
        | none => rfl
        | some v => cases v with
          | fr _ => rfl
          | tp _ => rfl
          | ow ow =>
            cases ow with
            | lst xs =>
              show (match mtD m xs ds with
                | some ys => Fl.nx (r1.set i (some (.ow (.lst ys))))
                | none => .bad) = mthR.mtO i r1 (mtD m xs ds)
              cases mtD m xs ds <;> rfl
theorem mt_app {xs : List D} (h : xs.length < sizeLine) : mtD .append xs [d] = some (xs ++ [d]) := by simp [mtD, h]
theorem s_par' {i j : Nat} : evS C io (.par i j x y) r = (evE C x r).fl fun u r1 => (evE C y r1).fl fun v r2 => if (!io.contains i && !io.contains j && decide (i ≠ j) && decide (i < r2.length) && decide (j < r2.length)) = true then .nx ((r2.set i (some u)).set j (some v)) else .bad := rfl
/-! more -/
variable {m : Pm}
theorem o_met {v : Res Rv} : asO (.met m x es) v r = v.map fun v => .d (fz v) := rfl
theorem o_isB {b : Bool} {v : Res Rv} : asO (.isB b x) v r = v.map fun v => .d (fz v) := rfl
theorem o_rl {b : Bool} {v : Res Rv} : asO (.rl b x) v r = v.map fun v => .d (fz v) := rfl
def metR (m : Pm) (r : Rho) : Option D → Option (List D) → Res Rv
  | some d, some ds => .opt ((metD m d ds).map .fr) r
  | _, _ => .bad
theorem metR_some {d : D} {ds : List D} : metR m r (some d) (some ds) = .opt ((metD m d ds).map .fr) r := rfl
theorem e_met : evE C (.met m x es) r = (asO x (evE C x r) r).bind fun a r1 => if pmV m (vw r1 a) = true then (evOs C es r1).bind fun os r2 => metR m r2 (vw r2 a) (vws r2 os) else .bad := by
  simp only [evE]
  congr
theorem pm_lc {xs : List D} : pmV .lcount (some (.list xs)) = true := rfl
theorem pm_tc {xs : List D} : pmV .tcount (some (.tuple xs)) = true := rfl
theorem pm_li {xs : List D} : pmV .lindex (some (.list xs)) = true := rfl
theorem pm_ti {xs : List D} : pmV .tindex (some (.tuple xs)) = true := rfl
def isBR (b : Bool) (r : Rho) : D → Res Rv
  | .bool c => .ok (.fr (.bool (decide (c = b)))) r
  | _ => .bad
theorem isBR_b {b c : Bool} : isBR b r (.bool c) = .ok (.fr (.bool (decide (c = b)))) r := rfl
theorem e_isB {b : Bool} : evE C (.isB b x) r = (asO x (evE C x r) r).bind fun a r1 => op1 (isBR b r1) (vw r1 a) := by
  simp only [evE]
  congr
  funext a r1
  cases vw r1 a with
  | none => rfl
  | some d => cases d <;> rfl
def rlR (b : Bool) (r : Rho) : D → Res Rv
  | .int i => if (decide (i ≤ 1000) && decide (0 ≤ i)) = true then .ok (if b then .fr (.tuple (intsD i)) else .ow (.lst (intsD i))) r else .bad
  | _ => .bad
theorem rlR_t {i : Int} (h1 : i ≤ 1000) (h2 : 0 ≤ i) : rlR true r (.int i) = .ok (.fr (.tuple (intsD i))) r := by simp [rlR, h1, h2]
theorem rlR_f {i : Int} (h1 : i ≤ 1000) (h2 : 0 ≤ i) : rlR false r (.int i) = .ok (.ow (.lst (intsD i))) r := by simp [rlR, h1, h2]
theorem e_rl {b : Bool} : evE C (.rl b x) r = (asO x (evE C x r) r).bind fun a r1 => op1 (rlR b r1) (vw r1 a) := by
  simp only [evE]
  congr
  funext a r1
  simp only [intV]
  cases vw r1 a with
  | none => rfl
  | some d => cases d <;> rfl
theorem o_ss {v : Res Rv} : asO (.ss x) v r = v.map fun v => .d (fz v) := rfl
def ssR (r : Rho) : D → Res Rv
  | .list xs => match intsOf xs with
    | some ns => if decide (ns.length < 64) then .ok (.ow (.lst ((sortU ns).map .int))) r else .bad
    | none => .bad
  | _ => .bad
theorem ssR_l {xs : List D} {ns : List Int} (h : intsOf xs = some ns) (hl : ns.length < 64) : ssR r (.list xs) = .ok (.ow (.lst ((sortU ns).map .int))) r := by simp [ssR, h, hl]
theorem e_ss : evE C (.ss x) r = (asO x (evE C x r) r).bind fun a r1 => op1 (ssR r1) (vw r1 a) := by
  simp only [evE]
  congr
  funext a r1
  cases vw r1 a with
  | none => rfl
  | some d => cases d <;> rfl
theorem t_met : evT C (.met m x es) r = tsO (asO (.met m x es) (evE C (.met m x es) r) r) := by simp only [evT, tst_eq]
theorem t_isB {b : Bool} : evT C (.isB b x) r = tsO (asO (.isB b x) (evE C (.isB b x) r) r) := by simp only [evT, tst_eq]
def raiR (b : Bool) (c : Nat) (r : Rho) (d : D) : Fl := if scal d then .ex c (if b then [d] else []) r else .bad
theorem raiR_s {c : Nat} {s : Str} : raiR false c r (.str s) = .ex c [] r := rfl
theorem s_rais' {c : Nat} : evS C io (.rais c x) r = (asO x (evE C x r) r).fl fun a r1 => op1F (raiR (C.bears c) c r1) (vw r1 a) := by
  simp only [evS]
  congr
/-- what a try does with its body's end -/
def tryR (h : Nat → List D → Rho → Fl) : Fl → Fl
  | .ex c fs r => h c fs r
  | f => f
theorem tryR_nx {h : Nat → List D → Rho → Fl} : tryR h (.nx r) = .nx r := rfl
theorem tryR_rt {h : Nat → List D → Rho → Fl} {v : Rv} : tryR h (.rt v r) = .rt v r := rfl
theorem tryR_ex {h : Nat → List D → Rho → Fl} {c : Nat} {fs : List D} : tryR h (.ex c fs r) = h c fs r := rfl
theorem tryR_ite {h : Nat → List D → Rho → Fl} {f f' : Fl} : tryR h (if p then f else f') = if p then tryR h f else tryR h f' := by split <;> rfl
theorem s_tryx' {b : List S} {hs : List (Nat × List S)} : evS C io (.tryx b hs) r = tryR (fun c fs r1 => pickH C c (.ex c fs r1) (evHs C io hs r1)) (evSs C io b r) := by
  simp only [evS]
  cases evSs C io b r <;> rfl
theorem hs_nil : evHs C io [] r = [] := rfl
theorem hs_cons {c : Nat} {b : List S} {hs : List (Nat × List S)} : evHs C io ((c, b) :: hs) r = (c, evSs C io b r) :: evHs C io hs r := rfl
def pickR (d f : Fl) : Option Bool → Fl
  | some true => noEx f
  | some false => d
  | none => .bad
theorem pick_nil {c : Nat} {d : Fl} : pickH C c d [] = d := rfl
theorem pick_cons {c h : Nat} {d f : Fl} {l : List (Nat × Fl)} : pickH C c d ((h, f) :: l) = pickR (pickH C c d l) f (C.sub c h) := by
  simp only [pickH]
  cases C.sub c h with
  | none => rfl
  | some b => cases b <;> rfl
theorem pickR_t {d f : Fl} : pickR d f (some true) = noEx f := rfl
theorem pickR_f {d f : Fl} : pickR d f (some false) = d := rfl
theorem noEx_nx : noEx (.nx r) = .nx r := rfl
theorem noEx_rt {v : Rv} : noEx (.rt v r) = .rt v r := rfl
def asgsR (io is : List Nat) (v : Rv) (r1 : Rho) : Fl := match v with
    | .fr d => if (scal d && is.all (fun i => !io.contains i && decide (i < r1.length))) = true then .nx (setN r1 v is) else .bad
    | _ => .bad
theorem s_asgs' {is : List Nat} : evS C io (.asgs is x) r = (evE C x r).fl fun v r1 => asgsR io is v r1 := by
  simp only [evS]
  rfl
theorem asgsR_fr {is : List Nat} {d : D} (h : scal d = true) : asgsR io is (.fr d) r = if (is.all fun i => !io.contains i && decide (i < r.length)) = true then .nx (setN r (.fr d) is) else .bad := by simp [asgsR, h]
theorem cmp_eq_s {s t : Str} : cmpD .eq (.str s) (.str t) = some (decide (s = t)) := by
  simp only [cmpD, shal, PyData.depth, PyData.eqv]
  simp
  by_cases h : s = t <;> simp [h]
theorem cmp_ne_s {s t : Str} : cmpD .ne (.str s) (.str t) = some (!decide (s = t)) := by
  simp only [cmpD, shal, PyData.depth, PyData.eqv]
  simp
  by_cases h : s = t <;> simp [h]
theorem cn_call {g : List D} {w : Nat} {b : Nat → Bool} {u : Nat → Nat → Option Bool} {c : Call} {k : Nat} {fs : List D} : (Cf.mk c g w b u k fs).call = c := rfl
theorem cn_G {g : List D} {w : Nat} {b : Nat → Bool} {u : Nat → Nat → Option Bool} {c : Call} {k : Nat} {fs : List D} : (Cf.mk c g w b u k fs).G = g := rfl
theorem cn_w {g : List D} {w : Nat} {b : Nat → Bool} {u : Nat → Nat → Option Bool} {c : Call} {k : Nat} {fs : List D} : (Cf.mk c g w b u k fs).w = w := rfl
theorem cn_b {g : List D} {w : Nat} {b : Nat → Bool} {u : Nat → Nat → Option Bool} {c : Call} {k : Nat} {fs : List D} : (Cf.mk c g w b u k fs).bears = b := rfl
theorem cn_s {g : List D} {w : Nat} {b : Nat → Bool} {u : Nat → Nat → Option Bool} {c : Call} {k : Nat} {fs : List D} : (Cf.mk c g w b u k fs).sub = u := rfl
theorem isi_int_int {i : Int} : isiD (.int i) .int = true := rfl
theorem isi_int_bool {i : Int} : isiD (.int i) .bool = false := rfl
theorem isi_int_str {i : Int} : isiD (.int i) .str = false := rfl
theorem isi_int_tuple {i : Int} : isiD (.int i) .tuple = false := rfl
theorem isi_int_list {i : Int} : isiD (.int i) .list = false := rfl
theorem isi_bool_int {b : Bool} : isiD (.bool b) .int = true := rfl
theorem isi_bool_bool {b : Bool} : isiD (.bool b) .bool = true := rfl
theorem isi_bool_str {b : Bool} : isiD (.bool b) .str = false := rfl
theorem isi_bool_tuple {b : Bool} : isiD (.bool b) .tuple = false := rfl
theorem isi_bool_list {b : Bool} : isiD (.bool b) .list = false := rfl
theorem isi_str_int {s : Str} : isiD (.str s) .int = false := rfl
theorem isi_str_bool {s : Str} : isiD (.str s) .bool = false := rfl
theorem isi_str_str {s : Str} : isiD (.str s) .str = true := rfl
theorem isi_str_tuple {s : Str} : isiD (.str s) .tuple = false := rfl
theorem isi_str_list {s : Str} : isiD (.str s) .list = false := rfl
theorem isi_tuple_int {xs : List D} : isiD (.tuple xs) .int = false := rfl
theorem isi_tuple_bool {xs : List D} : isiD (.tuple xs) .bool = false := rfl
theorem isi_tuple_str {xs : List D} : isiD (.tuple xs) .str = false := rfl
theorem isi_tuple_tuple {xs : List D} : isiD (.tuple xs) .tuple = true := rfl
theorem isi_tuple_list {xs : List D} : isiD (.tuple xs) .list = false := rfl
theorem isi_list_int {xs : List D} : isiD (.list xs) .int = false := rfl
theorem isi_list_bool {xs : List D} : isiD (.list xs) .bool = false := rfl
theorem isi_list_str {xs : List D} : isiD (.list xs) .str = false := rfl
theorem isi_list_tuple {xs : List D} : isiD (.list xs) .tuple = false := rfl
theorem isi_list_list {xs : List D} : isiD (.list xs) .list = true := rfl
theorem isi_none_int : isiD .none .int = false := rfl
theorem isi_none_bool : isiD .none .bool = false := rfl
theorem isi_none_str : isiD .none .str = false := rfl
theorem isi_none_tuple : isiD .none .tuple = false := rfl
theorem isi_none_list : isiD .none .list = false := rfl
theorem tru_b {b : Bool} : truD (.bool b) = some b := rfl
theorem tru_i {i : Int} : truD (.int i) = some (i != 0) := rfl
theorem tru_l {xs : List D} : truD (.list xs) = some (!xs.isEmpty) := rfl
theorem tru_t {xs : List D} : truD (.tuple xs) = some (!xs.isEmpty) := rfl
theorem tru_n : truD .none = some false := rfl
theorem non_n : isNn .none = true := rfl
theorem non_int {i : Int} : isNn (.int i) = false := rfl
theorem non_bool {b : Bool} : isNn (.bool b) = false := rfl
theorem non_str {s : Str} : isNn (.str s) = false := rfl
theorem non_tuple {xs : List D} : isNn (.tuple xs) = false := rfl
theorem non_list {xs : List D} : isNn (.list xs) = false := rfl
theorem bi_1 {b : Bi} {d : D} : biD b [d] = bi1 b d := rfl
theorem bi_2 {b : Bi} {d e : D} : biD b [d, e] = bi2 b d e := rfl
theorem bi_len_l {xs : List D} : bi1 .len (.list xs) = some (.fr (.int xs.length)) := rfl
theorem bi_len_t {xs : List D} : bi1 .len (.tuple xs) = some (.fr (.int xs.length)) := rfl
theorem bi_abs {i : Int} : bi1 .abs (.int i) = some (.fr (.int (if i < 0 then -i else i))) := rfl
theorem bi_int {i : Int} : bi1 .int (.int i) = some (.fr (.int i)) := rfl
theorem bi_intb {b : Bool} : bi1 .int (.bool b) = some (.fr (.int (if b then 1 else 0))) := rfl
theorem bi_max2 {i j : Int} : bi2 .max2 (.int i) (.int j) = some (.fr (.int (max i j))) := by simp only [bi2, Int.max_def]; by_cases h : j > i <;> simp [h] <;> omega
theorem bi_min2 {i j : Int} : bi2 .min2 (.int i) (.int j) = some (.fr (.int (min i j))) := by simp only [bi2, Int.min_def]; by_cases h : j < i <;> simp [h] <;> omega
theorem bi_tup_l {xs : List D} : bi1 .tuple (.list xs) = some (.fr (.tuple xs)) := rfl
theorem bi_tup_t {xs : List D} : bi1 .tuple (.tuple xs) = some (.fr (.tuple xs)) := rfl
theorem bi_lst_l {xs : List D} : bi1 .list (.list xs) = some (.ow (.lst xs)) := rfl
theorem bi_lst_t {xs : List D} : bi1 .list (.tuple xs) = some (.ow (.lst xs)) := rfl
theorem itm_l {xs : List D} : itemsD (.list xs) = some xs := rfl
theorem itm_t {xs : List D} : itemsD (.tuple xs) = some xs := rfl
theorem isL_l {xs : List D} : isLD (.list xs) = true := rfl
theorem isL_t {xs : List D} : isLD (.tuple xs) = false := rfl
theorem ho_d {r : Rho} {d : D} : handO r (.d d) = some (.fr d) := rfl
def hoS : Option (Option Rv) → Option Rv
  | some (some (.fr d)) => some (.fr d)
  | some (some (.ow (.lst xs))) => some (.fr (.list xs))
  | _ => none
theorem hoS_fr {d : D} : hoS (some (some (.fr d))) = some (.fr d) := rfl
theorem hoS_ow {xs : List D} : hoS (some (some (.ow (.lst xs)))) = some (.fr (.list xs)) := rfl
theorem ho_sl {r : Rho} {i : Nat} : handO r (.sl i) = hoS r[i]? := by
  simp only [handO]
  split <;> simp_all [hoS]
def hoI : Option (Option Rv) → Option Rv
  | some (some (.ow o)) => some (.ow o)
  | _ => none
theorem hoI_ow {o : Ow} : hoI (some (some (.ow o))) = some (.ow o) := rfl
theorem ho_io {r : Rho} {i : Nat} : handO r (.io i) = hoI r[i]? := by
  simp only [handO]
  split <;> simp_all [hoI]
def consV : Option Rv → Option (List Rv) → Option (List Rv)
  | some v, some vs => some (v :: vs)
  | _, _ => none
theorem consV_some {v : Rv} {vs : List Rv} : consV (some v) (some vs) = some (v :: vs) := rfl
theorem hand_nil {r : Rho} : hand r [] = some [] := rfl
theorem hand_cons {r : Rho} {o : OV} {os : List OV} : hand r (o :: os) = consV (handO r o) (hand r os) := by
  simp only [hand]
  cases handO r o <;> cases hand r os <;> rfl
theorem fz_fr {d : D} : fz (.fr d) = d := rfl
theorem fz_ow {xs : List D} : fz (.ow (.lst xs)) = .list xs := rfl
theorem mkTp_fr {rs : List Rv} {ds : List D} (h : allFr rs = some ds) : mkTp rs = .fr (.tuple ds) := by simp [mkTp, h]
def mkT (rs : List Rv) : Option (List D) → Rv
  | some ds => .fr (.tuple ds)
  | none => .tp rs
theorem mkTp_eq {rs : List Rv} : mkTp rs = mkT rs (allFr rs) := by
  unfold mkTp mkT
  cases allFr rs <;> rfl
theorem mkT_some {rs : List Rv} {ds : List D} : mkT rs (some ds) = .fr (.tuple ds) := rfl
theorem fr_n {io : List Nat} {i : Nat} : freeT io (.n i) = !io.contains i := by simp [freeT, slT]
theorem fr_t {io : List Nat} {ts : List Tg} : freeT io (.t ts) = (slTs ts).all fun i => !io.contains i := rfl
theorem okTp_fr {d : D} : okTp (.fr d) = true := rfl
theorem okTp_ow {o : Ow} : okTp (.ow o) = true := rfl
def outO : Option (Option Rv) → Option (List Rv) → Option (List Rv)
  | some (some v), some vs => match v with
      | .tp _ => none
      | _ => some (v :: vs)
  | _, _ => none
theorem outO_ow {o : Ow} {vs : List Rv} : outO (some (some (.ow o))) (some vs) = some (.ow o :: vs) := rfl
theorem outsOf_nil {r : Rho} : outsOf r [] = some [] := rfl
theorem outsOf_cons {r : Rho} {i : Nat} {is : List Nat} : outsOf r (i :: is) = outO r[i]? (outsOf r is) := by
  simp only [outsOf]
  cases r[i]? with
  | none => rfl
  | some v => cases v with
    | none => rfl
    | some v => cases outsOf r is <;> cases v <;> rfl
def finO (f : List Rv → FRes) : Option (List Rv) → FRes
  | some os => f os
  | none => .bad
theorem finO_some {f : List Rv → FRes} {os : List Rv} : finO f (some os) = f os := rfl
theorem finF_nx {io : List Nat} {r : Rho} : finF io (.nx r) = finO (.ok (.fr .none)) (outsOf r io) := by simp only [finF]; cases outsOf r io <;> rfl
theorem finF_rt {io : List Nat} {r : Rho} {v : Rv} : finF io (.rt v r) = finO (.ok v) (outsOf r io) := by simp only [finF]; cases outsOf r io <;> rfl
theorem finF_ex {io : List Nat} {r : Rho} {c : Nat} {fs : List D} : finF io (.ex c fs r) = finO (.ex c fs) (outsOf r io) := by simp only [finF]; cases outsOf r io <;> rfl

theorem at_i0 {xs : List α} : atI xs 0 = xs[0]? := by
  unfold atI ixN
  cases xs <;> simp
theorem at_n {xs : List α} {k : Nat} : atI xs (k : Int) = xs[k]? := by
  unfold atI ixN
  rw [if_pos (by omega)]
  by_cases h : k < xs.length
  · rw [if_pos (by omega)]; simp
  · rw [if_neg (by omega)]; simp; omega
theorem at_l {xs : List α} {k : Nat} : atI xs (OfNat.ofNat (k + 1)) = xs[k + 1]? := at_n (k := k + 1)
theorem at_1 {xs : List α} : atI xs 1 = xs[1]? := at_n (k := 1)
theorem at_2 {xs : List α} : atI xs 2 = xs[2]? := at_n (k := 2)
theorem at_3 {xs : List α} : atI xs 3 = xs[3]? := at_n (k := 3)
theorem at_4 {xs : List α} : atI xs 4 = xs[4]? := at_n (k := 4)
theorem at_5 {xs : List α} : atI xs 5 = xs[5]? := at_n (k := 5)
theorem at_6 {xs : List α} : atI xs 6 = xs[6]? := at_n (k := 6)
theorem at_7 {xs : List α} : atI xs 7 = xs[7]? := at_n (k := 7)
theorem at_8 {xs : List α} : atI xs 8 = xs[8]? := at_n (k := 8)
/-- a body that gives True -/
def Tr (x : Fl) : Prop := ∃ r, x = .rt (.fr (.bool true)) r
theorem tr_nx {C : Cf} {io : List Nat} {s : S} {ss : List S} {r r1 : Rho} (h : evS C io s r = .nx r1) (g : Tr (evSs C io ss r1)) : Tr (evSs C io (s :: ss) r) := by
  rw [q_cons, h]
  exact g
theorem tr_ex {C : Cf} {io : List Nat} {s : S} {ss : List S} {r : Rho} (P : Rho → Prop) (h : ∃ r1, evS C io s r = .nx r1 ∧ P r1) (g : ∀ r1, P r1 → Tr (evSs C io ss r1)) : Tr (evSs C io (s :: ss) r) := by
  obtain ⟨r1, h1, h2⟩ := h
  exact tr_nx h1 (g _ h2)
theorem tr_rt {C : Cf} {io : List Nat} {s : S} {ss : List S} {r r1 : Rho} (h : evS C io s r = .rt (.fr (.bool true)) r1) : Tr (evSs C io (s :: ss) r) := by
  rw [q_cons, h]
  exact ⟨_, rfl⟩
theorem tr_fin {C : Cf} {fd : Fd} {a : D} (h1 : fd.np = 1) (h2 : 1 ≤ fd.ns) (h : Tr (evSs C [] fd.body (some (.fr a) :: List.replicate (fd.ns - 1) none))) : runFn C fd [.fr a] = .ok (.fr (.bool true)) [] := by
  obtain ⟨r, h⟩ := h
  rw [runFn_eq]
  simp only [h1, List.length_cons, List.length_nil, Nat.zero_add, decide_true, List.all_cons, List.all_nil, okTp, Bool.and_true, Bool.true_and, owIx, List.map_cons, List.map_nil]
  rw [if_pos (by simpa using h2)]
  show finF [] (evSs C [] fd.body (some (.fr a) :: List.replicate (fd.ns - 1) none)) = _
  rw [h]
  rfl
end
end Ev

/-! Va2: loops as functions. -/
namespace Ev
open PySem PySem.Spec L2
theorem lcLoop_filter {t : Tg} {c : Rho → Res Bool} {elt : Rho → Res Rv} {p : D → Bool} {f : D → D} {r : Rho} : ∀ {xs acc : List D}, (∀ x ∈ xs, ∃ r1, bindT t x r = some r1 ∧ c r1 = .ok (p x) r1 ∧ (p x = true → ∃ v, elt r1 = .ok v r1 ∧ fz v = f x) ∧ wipeR r1 (slT t) = r) →
    acc.length + xs.length ≤ sizeLine → lcLoop t c elt xs r acc = .ok (acc ++ (xs.filter p).map f) r
  | [], acc, _, _ => by simp [lcLoop]
  | x :: xs, acc, h, hl => by
    obtain ⟨r1, h1, h2, h3, h4⟩ := h x List.mem_cons_self
    simp only [List.length_cons] at hl
    simp only [lcLoop, h1, h2, bind_ok]
    cases hp : p x with
    | true =>
      obtain ⟨v, h5, h6⟩ := h3 hp
      simp only [if_true, h5, bind_ok, if_pos (show acc.length < sizeLine by omega), h4, h6]
      rw [lcLoop_filter (fun y hy => h y (List.mem_cons_of_mem _ hy)) (by simp; omega)]
      simp [List.filter_cons, hp]
    | false =>
      simp only [Bool.false_eq_true, if_false, h4]
      rw [lcLoop_filter (fun y hy => h y (List.mem_cons_of_mem _ hy)) (by omega)]
      simp [List.filter_cons, hp]
/-- a comprehension over what is not lent -/
theorem lcRun_filter {t : Tg} {c : Rho → Res Bool} {elt : Rho → Res Rv} {r : Rho} {xs : List D} {ls : Bool} (p : D → Bool) (f : D → D) (h : ∀ x ∈ xs, ∃ r1, bindT t x (wipeR r (slT t)) = some r1 ∧ c r1 = .ok (p x) r1 ∧ (p x = true → ∃ v, elt r1 = .ok v r1 ∧ fz v = f x) ∧ wipeR r1 (slT t) = wipeR r (slT t))
    (hl : xs.length ≤ sizeLine) (hn : noOwn r (slT t) = true) (hb : backR r (wipeR r (slT t)) (slT t) = r) : lcRun t c elt ⟨xs, [], ls⟩ r = .ok (.ow (.lst ((xs.filter p).map f))) r := by
  unfold lcRun
  simp only [hn, List.all_nil, Bool.and_self, if_true]
  rw [show wipeR (wipeR r []) (slT t) = wipeR r (slT t) from rfl, lcLoop_filter h (by simpa using hl)]
  simp only [List.nil_append, hb]
  rfl
theorem lcRun_map {t : Tg} {elt : Rho → Res Rv} {r : Rho} {xs : List D} {ls : Bool} (f : D → D) (h : ∀ x ∈ xs, ∃ r1, bindT t x (wipeR r (slT t)) = some r1 ∧ (∃ v, elt r1 = .ok v r1 ∧ fz v = f x) ∧ wipeR r1 (slT t) = wipeR r (slT t))
    (hl : xs.length ≤ sizeLine) (hn : noOwn r (slT t) = true) (hb : backR r (wipeR r (slT t)) (slT t) = r) : lcRun t (fun r => .ok true r) elt ⟨xs, [], ls⟩ r = .ok (.ow (.lst (xs.map f))) r := by
  rw [lcRun_filter (fun _ => true) f (fun x hx => by obtain ⟨r1, h1, h2, h3⟩ := h x hx; exact ⟨r1, h1, rfl, fun _ => h2, h3⟩) hl hn hb]
  rw [List.filter_eq_self.mpr (fun _ _ => rfl)]
theorem rangeD_eq {i j : Int} : rangeD i j = some ((List.range (j - i).toNat).map fun (k : Nat) => .int (i + k)) := rfl
theorem whLoop_t {c : Rho → Res Bool} {body : Rho → Fl} {n : Nat} {r r1 r2 : Rho} (h : c r = .ok true r1) (hb : body r1 = .nx r2) : whLoop c body (n + 1) r = whLoop c body n r2 := by
  simp only [whLoop, h, fl_ok, if_true, hb]
theorem whLoop_f {c : Rho → Res Bool} {body : Rho → Fl} {n : Nat} {r r1 : Rho} (h : c r = .ok false r1) : whLoop c body (n + 1) r = .nx r1 := by
  simp only [whLoop, h, fl_ok, Bool.false_eq_true, if_false]
theorem forLoop_nil {t : Tg} {body : Rho → Fl} {r : Rho} : forLoop t body [] r = .nx r := rfl
theorem forLoop_nx {t : Tg} {body : Rho → Fl} {x : D} {xs : List D} {r r1 r2 : Rho} (h : bindT t x r = some r1) (hb : body r1 = .nx r2) : forLoop t body (x :: xs) r = forLoop t body xs r2 := by
  simp only [forLoop, h, hb]
theorem forLoop_ct {t : Tg} {body : Rho → Fl} {x : D} {xs : List D} {r r1 r2 : Rho} (h : bindT t x r = some r1) (hb : body r1 = .ct r2) : forLoop t body (x :: xs) r = forLoop t body xs r2 := by
  simp only [forLoop, h, hb]
theorem forLoop_bk {t : Tg} {body : Rho → Fl} {x : D} {xs : List D} {r r1 r2 : Rho} (h : bindT t x r = some r1) (hb : body r1 = .bk r2) : forLoop t body (x :: xs) r = .nx r2 := by
  simp only [forLoop, h, hb]
theorem forLoop_rt {t : Tg} {body : Rho → Fl} {x : D} {xs : List D} {r r1 r2 : Rho} {v : Rv} (h : bindT t x r = some r1) (hb : body r1 = .rt v r2) : forLoop t body (x :: xs) r = .rt v r2 := by
  simp only [forLoop, h, hb]
theorem forRun_0 {t : Tg} {body : Rho → Fl} {xs : List D} {ls : Bool} {r : Rho} : forRun t body ⟨xs, [], ls⟩ r = (forLoop t body xs r).map fun r' => r' := rfl
theorem flmap_nx {f : Rho → Rho} {r : Rho} : (Fl.nx r).map f = .nx (f r) := rfl
theorem flmap_rt {f : Rho → Rho} {r : Rho} {v : Rv} : (Fl.rt v r).map f = .rt v (f r) := rfl
theorem lstR_0 {r : Rho} : lstR r (some []) = .ok (.ow (.lst [])) r := lstR_some (by simp)
theorem lstR_1 {r : Rho} {x0 : D} : lstR r (some [x0]) = .ok (.ow (.lst [x0])) r := lstR_some (by simp)
theorem tupR_1 {r : Rho} {x0 : Rv} : tupR [x0] r = .ok (mkTp [x0]) r := tupR_ok (by simp)
theorem lstR_2 {r : Rho} {x0 x1 : D} : lstR r (some [x0, x1]) = .ok (.ow (.lst [x0, x1])) r := lstR_some (by simp)
theorem tupR_2 {r : Rho} {x0 x1 : Rv} : tupR [x0, x1] r = .ok (mkTp [x0, x1]) r := tupR_ok (by simp)
theorem lstR_3 {r : Rho} {x0 x1 x2 : D} : lstR r (some [x0, x1, x2]) = .ok (.ow (.lst [x0, x1, x2])) r := lstR_some (by simp)
theorem tupR_3 {r : Rho} {x0 x1 x2 : Rv} : tupR [x0, x1, x2] r = .ok (mkTp [x0, x1, x2]) r := tupR_ok (by simp)
theorem lstR_4 {r : Rho} {x0 x1 x2 x3 : D} : lstR r (some [x0, x1, x2, x3]) = .ok (.ow (.lst [x0, x1, x2, x3])) r := lstR_some (by simp)
theorem tupR_4 {r : Rho} {x0 x1 x2 x3 : Rv} : tupR [x0, x1, x2, x3] r = .ok (mkTp [x0, x1, x2, x3]) r := tupR_ok (by simp)
theorem lstR_5 {r : Rho} {x0 x1 x2 x3 x4 : D} : lstR r (some [x0, x1, x2, x3, x4]) = .ok (.ow (.lst [x0, x1, x2, x3, x4])) r := lstR_some (by simp)
theorem tupR_5 {r : Rho} {x0 x1 x2 x3 x4 : Rv} : tupR [x0, x1, x2, x3, x4] r = .ok (mkTp [x0, x1, x2, x3, x4]) r := tupR_ok (by simp)
theorem lstR_6 {r : Rho} {x0 x1 x2 x3 x4 x5 : D} : lstR r (some [x0, x1, x2, x3, x4, x5]) = .ok (.ow (.lst [x0, x1, x2, x3, x4, x5])) r := lstR_some (by simp)
theorem tupR_6 {r : Rho} {x0 x1 x2 x3 x4 x5 : Rv} : tupR [x0, x1, x2, x3, x4, x5] r = .ok (mkTp [x0, x1, x2, x3, x4, x5]) r := tupR_ok (by simp)
theorem lstR_7 {r : Rho} {x0 x1 x2 x3 x4 x5 x6 : D} : lstR r (some [x0, x1, x2, x3, x4, x5, x6]) = .ok (.ow (.lst [x0, x1, x2, x3, x4, x5, x6])) r := lstR_some (by simp)
theorem tupR_7 {r : Rho} {x0 x1 x2 x3 x4 x5 x6 : Rv} : tupR [x0, x1, x2, x3, x4, x5, x6] r = .ok (mkTp [x0, x1, x2, x3, x4, x5, x6]) r := tupR_ok (by simp)
theorem lstR_8 {r : Rho} {x0 x1 x2 x3 x4 x5 x6 x7 : D} : lstR r (some [x0, x1, x2, x3, x4, x5, x6, x7]) = .ok (.ow (.lst [x0, x1, x2, x3, x4, x5, x6, x7])) r := lstR_some (by simp)
theorem lstR_9 {r : Rho} {x0 x1 x2 x3 x4 x5 x6 x7 x8 : D} : lstR r (some [x0, x1, x2, x3, x4, x5, x6, x7, x8]) = .ok (.ow (.lst [x0, x1, x2, x3, x4, x5, x6, x7, x8])) r := lstR_some (by simp)
theorem s_trya' {C : Cf} {io : List Nat} {b h : List S} {k i : Nat} {r : Rho} : evS C io (.trya b k i h) r = tryR (fun c fs r1 => if (io.contains i || !fs.isEmpty || !decide (i < r1.length)) = true then .bad else pickA (C.sub c k) ((evSs ⟨C.call, C.G, C.w, C.bears, C.sub, c, fs⟩ (i :: io) h (r1.set i none)).map fun r' => r'.set i none) (.ex c fs r1)) (evSs C io b r) := by
  simp only [evS]
  cases evSs C io b r <;> rfl
theorem pickA_t {f d : Fl} : pickA (some true) f d = noEx f := rfl
theorem pickA_f {f d : Fl} : pickA (some false) f d = d := rfl
theorem e_isX {C : Cf} {h : Nat} {r : Rho} : evE C (.isX h) r = .opt ((C.sub C.cur h).map fun b => .fr (.bool b)) r := by
  simp only [evE]
  cases C.sub C.cur h <;> rfl
theorem cn_cur {c : Call} {g : List D} {w : Nat} {b : Nat → Bool} {u : Nat → Nat → Option Bool} {k : Nat} {fs : List D} : (Cf.mk c g w b u k fs).cur = k := rfl
theorem cmp_ne_b {a b : Bool} : cmpD .ne (.bool a) (.bool b) = some (!(a == b)) := by cases a <;> cases b <;> rfl
theorem cmp_eq_b {a b : Bool} : cmpD .eq (.bool a) (.bool b) = some (a == b) := by cases a <;> cases b <;> rfl
theorem finC_okLi {r : Rho} {i : Int} : finC false [] r (.ok (.fr (.int i)) []) = .ok (.fr (.int i)) r := finC_okL rfl
theorem finC_okLb {r : Rho} {b : Bool} : finC false [] r (.ok (.fr (.bool b)) []) = .ok (.fr (.bool b)) r := finC_okL rfl
theorem finC_okLs {r : Rho} {s : Str} : finC false [] r (.ok (.fr (.str s)) []) = .ok (.fr (.str s)) r := finC_okL rfl
theorem finC_okLn {r : Rho} : finC false [] r (.ok (.fr .none) []) = .ok (.fr .none) r := finC_okL rfl
theorem bears_f {w : Nat} {g : List D} {u : Nat → Nat → Option Bool} {c : Call} {k i : Nat} {fs : List D} : (Cf.mk c g w (fun _ => false) u k fs).bears i = false := rfl
end Ev

namespace Lawk03
open PySem PySem.Spec PyProof.Rows L2 Ev
/-! the text: its defs as data -/
def top (i : Nat) : Stmt := PySem.Challenge.pw_lanescounted_k03_marks_moved_by_ranges.main.body.getD i (.Pass ⟨0, 0, 0, 0⟩)
def d0 : He.DefD := ⟨("is_integer", none), "is_integer", "is_integer", defArgs (top 9), defBody (top 9), defScope (top 9), [], []⟩
def d1 : He.DefD := ⟨("need_kind", none), "need_kind", "need_kind", defArgs (top 10), defBody (top 10), defScope (top 10), [], []⟩
def d2 : He.DefD := ⟨("need_count", none), "need_count", "need_count", defArgs (top 11), defBody (top 11), defScope (top 11), [], []⟩
def d3 : He.DefD := ⟨("need_size", none), "need_size", "need_size", defArgs (top 12), defBody (top 12), defScope (top 12), [], []⟩
def d4 : He.DefD := ⟨("need_counts_of", none), "need_counts_of", "need_counts_of", defArgs (top 13), defBody (top 13), defScope (top 13), [], []⟩
def d5 : He.DefD := ⟨("common_multiple", none), "common_multiple", "common_multiple", defArgs (top 14), defBody (top 14), defScope (top 14), [], []⟩
def d6 : He.DefD := ⟨("stretch_end", none), "stretch_end", "stretch_end", defArgs (top 15), defBody (top 15), defScope (top 15), [], []⟩
def d7 : He.DefD := ⟨("moved_stretches", none), "moved_stretches", "moved_stretches", defArgs (top 16), defBody (top 16), defScope (top 16), [], []⟩
def d8 : He.DefD := ⟨("count_moved", none), "count_moved", "count_moved", defArgs (top 17), defBody (top 17), defScope (top 17), [], []⟩
def d9 : He.DefD := ⟨("first_moved", none), "first_moved", "first_moved", defArgs (top 18), defBody (top 18), defScope (top 18), [], []⟩
def d10 : He.DefD := ⟨("_law_source", none), "_law_source", "_law_source", defArgs (top 20), defBody (top 20), defScope (top 20), [], []⟩
def d11 : He.DefD := ⟨("_law_draw", none), "_law_draw", "_law_draw", defArgs (top 21), defBody (top 21), defScope (top 21), [], []⟩
def d12 : He.DefD := ⟨("_law_great", none), "_law_great", "_law_great", defArgs (top 22), defBody (top 22), defScope (top 22), [], []⟩
def d13 : He.DefD := ⟨("_law_integer", none), "_law_integer", "_law_integer", defArgs (top 23), defBody (top 23), defScope (top 23), [], []⟩
def d14 : He.DefD := ⟨("_law_parts", none), "_law_parts", "_law_parts", defArgs (top 24), defBody (top 24), defScope (top 24), [], []⟩
def d15 : He.DefD := ⟨("law", none), "law", "law", defArgs (top 25), defBody (top 25), defScope (top 25), [], []⟩
def fn : List He.DefD := ([d0, d1, d2, d3, d4, d5, d6, d7, d8, d9, d10, d11, d12, d13, d14] : List He.DefD) ++ ([d15] : List He.DefD)
def xs : List (Str × PyData) := ([("MOST_LANES", (.int 100000000000000000000)), ("MOST_MARKS", (.int 10000000000000000000000000000000000000000)), ("MOST_RANGES", (.int 1000))] : List (Str × PyData))
def free : List Str := (["bool", "int", "isinstance", "len", "list", "min", "range", "set", "sorted", "str", "sum"] : List Str)
/-! the same in the small language -/
abbrev F_is_integer : Nat := 0
abbrev F_need_kind : Nat := 1
abbrev F_need_count : Nat := 2
abbrev F_need_size : Nat := 3
abbrev F_need_counts_of : Nat := 4
abbrev F_common_multiple : Nat := 5
abbrev F_stretch_end : Nat := 6
abbrev F_moved_stretches : Nat := 7
abbrev F_count_moved : Nat := 8
abbrev F_first_moved : Nat := 9
abbrev F_law_source : Nat := 10
abbrev F_law_draw : Nat := 11
abbrev F_law_great : Nat := 12
abbrev F_law_integer : Nat := 13
abbrev F_law_parts : Nat := 14
abbrev F_law : Nat := 15
/-- is_integer(thing, low, high); slots: 0 thing, 1 low, 2 high -/
def b_is_integer : List S :=
    [.ret (.and (.isi (.bo 0) .int) (.and (.not (.isi (.bo 0) .bool)) (.chain .le .le (.bo 1) (.bo 0) (.bo 2))))]
def f_is_integer : Fd := ⟨3, 3, b_is_integer⟩
/-- need_kind(kind); slots: 0 kind -/
def b_need_kind : List S :=
    [.ife (.or (.not (.isi (.bo 0) .str)) (.cmp .nmem (.bo 0) (.tup [(.k (.str "rest")), (.k (.str "ranges"))])))
      [.rais 1 (.k (.str "kind must be rest or ranges"))]
      []]
def f_need_kind : Fd := ⟨1, 1, b_need_kind⟩
/-- need_count(count, most); slots: 0 count, 1 most -/
def b_need_count : List S :=
    [.ife (.not (.call F_is_integer [(.v 0), (.k (.int 1)), (.v 1)]))
      [.rais 2 (.k (.str "count is out of range"))]
      []]
def f_need_count : Fd := ⟨2, 2, b_need_count⟩
/-- need_size(size); slots: 0 size -/
def b_need_size : List S :=
    [.ife (.not (.call F_is_integer [(.v 0), (.k (.int 1)), (.g 1)]))
      [.rais 3 (.k (.str "size is out of range"))]
      []]
def f_need_size : Fd := ⟨1, 1, b_need_size⟩
/-- need_counts_of(kind, before, after, size); slots: 0 kind, 1 before, 2 after, 3 size, 4 most -/
def b_need_counts_of : List S :=
    [.ex (.call F_need_kind [(.v 0)]),
    .asg (.n 4) (.ite (.cmp .eq (.bo 0) (.k (.str "ranges"))) (.g 2) (.g 0)),
    .ex (.call F_need_count [(.v 1), (.v 4)]),
    .ex (.call F_need_count [(.v 2), (.v 4)]),
    .ex (.call F_need_size [(.v 3)])]
def f_need_counts_of : Fd := ⟨4, 5, b_need_counts_of⟩
/-- common_multiple(one, other); slots: 0 one, 1 other, 2 a, 3 b -/
def b_common_multiple_1 : List S :=
    [.par 2 3 (.v 3) (.bin .mod (.bi .int [(.bo 2)]) (.bo 3))]
def b_common_multiple : List S :=
    [.par 2 3 (.v 0) (.v 1),
    .whl (.bo 3) b_common_multiple_1,
    .ret (.bin .mul (.bin .fdiv (.bo 0) (.bo 2)) (.bo 1))]
def f_common_multiple : Fd := ⟨2, 4, b_common_multiple⟩
/-- stretch_end(lane, count, size); slots: 0 lane, 1 count, 2 size -/
def b_stretch_end : List S :=
    [.ret (.neg (.bin .fdiv (.neg (.bin .mul (.bin .add (.bo 0) (.k (.int 1))) (.bo 2))) (.bo 1)))]
def f_stretch_end : Fd := ⟨3, 3, b_stretch_end⟩
/-- moved_stretches(before, after, size); slots: 0 before, 1 after, 2 size, 3 rows, 4 mark, 5 one, 6 other, 7 end -/
def b_moved_stretches_1 : List S :=
    [.asg (.n 5) (.bin .fdiv (.bin .mul (.bo 4) (.bo 0)) (.bo 2)),
    .asg (.n 6) (.bin .fdiv (.bin .mul (.bo 4) (.bo 1)) (.bo 2)),
    .asg (.n 7) (.bi .min2 [(.call F_stretch_end [(.v 5), (.v 0), (.v 2)]), (.call F_stretch_end [(.v 6), (.v 1), (.v 2)])]),
    .ife (.cmp .ne (.bo 5) (.bo 6))
      [.mth .append 3 [(.tup [(.v 4), (.v 7)])]]
      [],
    .asg (.n 4) (.v 7)]
def b_moved_stretches : List S :=
    [.asg (.n 3) (.lst []),
    .asg (.n 4) (.k (.int 0)),
    .whl (.cmp .lt (.bo 4) (.bo 2)) b_moved_stretches_1,
    .ret (.mv 3)]
def f_moved_stretches : Fd := ⟨3, 8, b_moved_stretches⟩
/-- count_moved(kind, before, after, size); slots: 0 kind, 1 before, 2 after, 3 size, 4 turn, 5 least, 6 first, 7 end -/
def b_count_moved : List S :=
    [.ex (.call F_need_counts_of [(.v 0), (.v 1), (.v 2), (.v 3)]),
    .ife (.cmp .eq (.bo 0) (.k (.str "ranges")))
      [.ret (.bi .sum [(.lc (.t [(.n 6), (.n 7)]) (.itr (.call F_moved_stretches [(.v 1), (.v 2), (.v 3)])) (.bin .sub (.bo 7) (.bo 6)))])]
      [],
    .asg (.n 4) (.call F_common_multiple [(.v 1), (.v 2)]),
    .asg (.n 5) (.bi .min2 [(.bo 1), (.bo 2)]),
    .ret (.bin .sub (.bin .sub (.bo 3) (.bin .mul (.bin .fdiv (.bo 3) (.bo 4)) (.bo 5))) (.bi .min2 [(.bin .mod (.bi .int [(.bo 3)]) (.bo 4)), (.bo 5)]))]
def f_count_moved : Fd := ⟨4, 8, b_count_moved⟩
/-- first_moved(kind, before, after, size); slots: 0 kind, 1 before, 2 after, 3 size, 4 least, 5 rows -/
def b_first_moved : List S :=
    [.ex (.call F_need_counts_of [(.v 0), (.v 1), (.v 2), (.v 3)]),
    .ife (.cmp .eq (.bo 1) (.bo 2))
      [.ret (.k .none)]
      [],
    .ife (.cmp .eq (.bo 0) (.k (.str "ranges")))
      [.asg (.n 5) (.call F_moved_stretches [(.v 1), (.v 2), (.v 3)]),
      .ret (.ite (.bo 5) (.idx (.idx (.bo 5) (.k (.int 0))) (.k (.int 0))) (.k .none))]
      [],
    .asg (.n 4) (.bi .min2 [(.bo 1), (.bo 2)]),
    .ret (.ite (.cmp .lt (.bo 4) (.bo 3)) (.v 4) (.k .none))]
def f_first_moved : Fd := ⟨4, 6, b_first_moved⟩
/-- _law_source(_law_script); slots: 0 _law_script -/
def b_law_source : List S :=
    [.ret (.lst [(.bi .list [(.bo 0)]), (.k (.int 0)), (.k (.int 1)), (.k (.int 0))])]
def f_law_source : Fd := ⟨1, 1, b_law_source⟩
/-- _law_draw(_law_source_here, _law_limit); slots: 0 _law_source_here, 1 _law_limit, 2 _law_mixed, 3 _law_cell, 4 _law_digit -/
def b_law_draw : List S :=
    [.ife (.and (.cmp .lt (.idx (.bo 0) (.k (.int 1))) (.bo 1)) (.idx (.bo 0) (.k (.int 0))))
      [.asg (.n 3) (.idx (.idx (.bo 0) (.k (.int 0))) (.k (.int 0))),
      .sto 0 (.k (.int 0)) (.slc (.idx (.bo 0) (.k (.int 0))) (some (.k (.int 1))) none),
      .ife (.cmp .ge (.bo 3) (.bin .pow (.k (.int 10)) (.k (.int 18))))
        [.sto 0 (.k (.int 1)) (.v 3)]
        [.sto 0 (.k (.int 2)) (.bin .mod (.bi .int [(.bin .add (.bin .add (.bin .mul (.idx (.bo 0) (.k (.int 2))) (.k (.int 48271))) (.bin .mul (.bo 3) (.k (.int 69621)))) (.k (.int 7)))]) (.k (.int 2147483647)))]]
      [],
    .ife (.cmp .ge (.idx (.bo 0) (.k (.int 1))) (.bo 1))
      [.asg (.n 4) (.bin .mod (.bi .int [(.idx (.bo 0) (.k (.int 1)))]) (.bo 1)),
      .sto 0 (.k (.int 1)) (.bin .fdiv (.idx (.bo 0) (.k (.int 1))) (.bo 1)),
      .ret (.mv 4)]
      [],
    .sto 0 (.k (.int 3)) (.bin .add (.idx (.bo 0) (.k (.int 3))) (.k (.int 1))),
    .asg (.n 2) (.bin .mod (.bi .int [(.bin .add (.idx (.bo 0) (.k (.int 2))) (.bin .mul (.idx (.bo 0) (.k (.int 3))) (.k (.int 40692))))]) (.k (.int 2147483399))),
    .ret (.bin .mod (.bin .mod (.bi .int [(.bin .add (.bin .add (.bin .mul (.bo 2) (.bo 2)) (.bin .mul (.idx (.bo 0) (.k (.int 3))) (.k (.int 3791)))) (.idx (.bo 0) (.k (.int 2))))]) (.k (.int 2147483647))) (.bo 1))]
def f_law_draw : Fd := ⟨2, 5, b_law_draw⟩
/-- _law_great(_law_source_here, _law_limit); slots: 0 _law_source_here, 1 _law_limit, 2 _law_total, 3 _law_k -/
def b_law_great_1 : List S :=
    [.asg (.n 2) (.bin .add (.bin .mul (.bo 2) (.bin .pow (.k (.int 10)) (.k (.int 9)))) (.call F_law_draw [(.io 0), (.bin .pow (.k (.int 10)) (.k (.int 9)))]))]
def b_law_great : List S :=
    [.asg (.n 2) (.k (.int 0)),
    .forr (.n 3) (.rng1 (.k (.int 5))) b_law_great_1,
    .ret (.bin .mod (.bi .int [(.bo 2)]) (.bo 1))]
def f_law_great : Fd := ⟨2, 4, b_law_great⟩
/-- _law_integer(_law_found); slots: 0 _law_found -/
def b_law_integer : List S :=
    [.ret (.and (.isi (.bo 0) .int) (.not (.isi (.bo 0) .bool)))]
def f_law_integer : Fd := ⟨1, 1, b_law_integer⟩
/-- _law_parts(_law_before, _law_after, _law_size); slots: 0 _law_before, 1 _law_after, 2 _law_size, 3 _law_ends, 4 _law_k -/
def b_law_parts : List S :=
    [.asg (.n 3) (.lc (.n 4) (.rng1 (.bin .add (.bo 0) (.k (.int 1)))) (.neg (.bin .fdiv (.neg (.bin .mul (.bo 4) (.bo 2))) (.bo 0)))),
    .asg (.n 3) (.bin .add (.bo 3) (.lc (.n 4) (.rng1 (.bin .add (.bo 1) (.k (.int 1)))) (.neg (.bin .fdiv (.neg (.bin .mul (.bo 4) (.bo 2))) (.bo 1))))),
    .asg (.n 3) (.ss (.bo 3)),
    .ret (.lc (.n 4) (.rng1 (.bin .sub (.bi .len [(.bo 3)]) (.k (.int 1)))) (.tup [(.idx (.bo 3) (.bo 4)), (.idx (.bo 3) (.bin .add (.bo 4) (.k (.int 1))))]))]
def f_law_parts : Fd := ⟨3, 5, b_law_parts⟩
/-- law(_law_script); slots: 0 _law_script, 1 _law_source_here, 2 _law_way, 3 _law_before, 4 _law_after, 5 _law_size, 6 _law_rows, 7 _law_due, 8 _law_found, 9 _law_least, 10 _law_parts_here, 11 _law_row, 12 _law_mark -/
def b_law : List S :=
    [.asg (.n 1) (.call F_law_source [(.v 0)]),
    .asg (.n 2) (.call F_law_draw [(.io 1), (.k (.int 4))]),
    .asg (.n 3) (.bin .add (.k (.int 1)) (.call F_law_draw [(.io 1), (.k (.int 12))])),
    .asg (.n 4) (.bin .add (.k (.int 1)) (.call F_law_draw [(.io 1), (.k (.int 12))])),
    .asg (.n 5) (.bin .add (.k (.int 1)) (.call F_law_great [(.io 1), (.bin .pow (.k (.int 10)) (.k (.int 40)))])),
    .ife (.cmp .eq (.bo 2) (.k (.int 1)))
      [.asg (.n 4) (.v 3)]
      [],
    .ife (.cmp .ge (.bo 2) (.k (.int 2)))
      [.asg (.n 3) (.bin .add (.k (.int 1)) (.call F_law_draw [(.io 1), (.k (.int 1000))])),
      .asg (.n 4) (.bin .add (.k (.int 1)) (.call F_law_draw [(.io 1), (.k (.int 1000))])),
      .asg (.n 5) (.bin .add (.k (.int 1)) (.call F_law_draw [(.io 1), (.k (.int 120))])),
      .asg (.n 10) (.lc (.n 12) (.rng1 (.bo 5)) (.tup [(.v 12), (.bin .add (.bo 12) (.k (.int 1)))]))]
      [.asg (.n 10) (.call F_law_parts [(.v 3), (.v 4), (.v 5)])],
    .asg (.n 6) (.lci (.n 11) (.itr (.v 10)) (.cmp .ne (.bin .fdiv (.bin .mul (.idx (.bo 11) (.k (.int 0))) (.bo 3)) (.bo 5)) (.bin .fdiv (.bin .mul (.idx (.bo 11) (.k (.int 0))) (.bo 4)) (.bo 5))) (.v 11)),
    .asg (.n 7) (.bi .sum [(.lc (.n 11) (.itr (.v 6)) (.bin .sub (.idx (.bo 11) (.k (.int 1))) (.idx (.bo 11) (.k (.int 0)))))]),
    .asg (.n 8) (.call F_count_moved [(.k (.str "ranges")), (.v 3), (.v 4), (.v 5)]),
    .asg (.n 9) (.call F_first_moved [(.k (.str "ranges")), (.v 3), (.v 4), (.v 5)]),
    .ife (.or (.not (.call F_law_integer [(.v 8)])) (.or (.cmp .ne (.bo 8) (.bo 7)) (.cmp .ne (.call F_count_moved [(.k (.str "ranges")), (.v 4), (.v 3), (.v 5)]) (.bo 7))))
      [.ret (.k (.bool false))]
      [],
    .ife (.not (.bo 6))
      [.ret (.isN (.bo 9))]
      [],
    .ret (.and (.call F_law_integer [(.v 9)]) (.cmp .eq (.bo 9) (.idx (.idx (.bo 6) (.k (.int 0))) (.k (.int 0)))))]
def f_law : Fd := ⟨1, 13, b_law⟩
def fs : List Fd := ([f_is_integer, f_need_kind, f_need_count, f_need_size, f_need_counts_of, f_common_multiple, f_stretch_end, f_moved_stretches, f_count_moved, f_first_moved, f_law_source, f_law_draw, f_law_great, f_law_integer, f_law_parts] : List Fd) ++ ([f_law] : List Fd)
def ns : List (List Str × List Str) := ([(["thing", "low", "high"], ["thing", "low", "high"]), (["kind"], ["kind"]), (["count", "most"], ["count", "most"]), (["size"], ["size"]), (["kind", "before", "after", "size", "most"], ["kind", "before", "after", "size"]), (["one", "other", "a", "b"], ["one", "other"]), (["lane", "count", "size"], ["lane", "count", "size"]), (["before", "after", "size", "rows", "mark", "one", "other", "end"], ["before", "after", "size"]), (["kind", "before", "after", "size", "turn", "least", "first", "end"], ["kind", "before", "after", "size"]), (["kind", "before", "after", "size", "least", "rows"], ["kind", "before", "after", "size"]), (["_law_script"], ["_law_script"]), (["_law_source_here", "_law_limit", "_law_mixed", "_law_cell", "_law_digit"], ["_law_source_here", "_law_limit"]), (["_law_source_here", "_law_limit", "_law_total", "_law_k"], ["_law_source_here", "_law_limit"]), (["_law_found"], ["_law_found"]), (["_law_before", "_law_after", "_law_size", "_law_ends", "_law_k"], ["_law_before", "_law_after", "_law_size"])] : List (List Str × List Str)) ++ ([(["_law_script", "_law_source_here", "_law_way", "_law_before", "_law_after", "_law_size", "_law_rows", "_law_due", "_law_found", "_law_least", "_law_parts_here", "_law_row", "_law_mark"], ["_law_script"])] : List (List Str × List Str))
def ec : Ec := ⟨(["LaneError", "BadKind", "BadCount", "BadSize"] : List Str), [0, 1, 2, 3], ([] : List (Nat × Nat × Bool)), ([] : List (Nat × Nat × Bool))⟩
def pg : Pg := ⟨fs, xs.map (·.2), fun _ => false, ec.sub, 1000000000000000000000000000000000000000000000000000000000000⟩
abbrev Cn (n : Nat) : Cf := ⟨callF pg n, pg.G, pg.w, pg.bears, pg.sub, 0, []⟩
theorem u_is_integer {n : Nat} {vs : List Rv} : callF pg (n + 1) F_is_integer vs = runFn (Cn n) f_is_integer vs := rfl
theorem u_need_kind {n : Nat} {vs : List Rv} : callF pg (n + 1) F_need_kind vs = runFn (Cn n) f_need_kind vs := rfl
theorem u_need_count {n : Nat} {vs : List Rv} : callF pg (n + 1) F_need_count vs = runFn (Cn n) f_need_count vs := rfl
theorem u_need_size {n : Nat} {vs : List Rv} : callF pg (n + 1) F_need_size vs = runFn (Cn n) f_need_size vs := rfl
theorem u_need_counts_of {n : Nat} {vs : List Rv} : callF pg (n + 1) F_need_counts_of vs = runFn (Cn n) f_need_counts_of vs := rfl
theorem u_common_multiple {n : Nat} {vs : List Rv} : callF pg (n + 1) F_common_multiple vs = runFn (Cn n) f_common_multiple vs := rfl
theorem u_stretch_end {n : Nat} {vs : List Rv} : callF pg (n + 1) F_stretch_end vs = runFn (Cn n) f_stretch_end vs := rfl
theorem u_moved_stretches {n : Nat} {vs : List Rv} : callF pg (n + 1) F_moved_stretches vs = runFn (Cn n) f_moved_stretches vs := rfl
theorem u_count_moved {n : Nat} {vs : List Rv} : callF pg (n + 1) F_count_moved vs = runFn (Cn n) f_count_moved vs := rfl
theorem u_first_moved {n : Nat} {vs : List Rv} : callF pg (n + 1) F_first_moved vs = runFn (Cn n) f_first_moved vs := rfl
theorem u_law_source {n : Nat} {vs : List Rv} : callF pg (n + 1) F_law_source vs = runFn (Cn n) f_law_source vs := rfl
theorem u_law_draw {n : Nat} {vs : List Rv} : callF pg (n + 1) F_law_draw vs = runFn (Cn n) f_law_draw vs := rfl
theorem u_law_great {n : Nat} {vs : List Rv} : callF pg (n + 1) F_law_great vs = runFn (Cn n) f_law_great vs := rfl
theorem u_law_integer {n : Nat} {vs : List Rv} : callF pg (n + 1) F_law_integer vs = runFn (Cn n) f_law_integer vs := rfl
theorem u_law_parts {n : Nat} {vs : List Rv} : callF pg (n + 1) F_law_parts vs = runFn (Cn n) f_law_parts vs := rfl
theorem u_law {n : Nat} {vs : List Rv} : callF pg (n + 1) F_law vs = runFn (Cn n) f_law vs := rfl
theorem c0 : defB (gOf fn xs free ec) ["thing", "low", "high"] ["thing", "low", "high"] f_is_integer d0 = true := by kernel_rfl
theorem c1 : defB (gOf fn xs free ec) ["kind"] ["kind"] f_need_kind d1 = true := by kernel_rfl
theorem c2 : defB (gOf fn xs free ec) ["count", "most"] ["count", "most"] f_need_count d2 = true := by kernel_rfl
theorem c3 : defB (gOf fn xs free ec) ["size"] ["size"] f_need_size d3 = true := by kernel_rfl
theorem c4 : defB (gOf fn xs free ec) ["kind", "before", "after", "size", "most"] ["kind", "before", "after", "size"] f_need_counts_of d4 = true := by kernel_rfl
theorem c5 : defB (gOf fn xs free ec) ["one", "other", "a", "b"] ["one", "other"] f_common_multiple d5 = true := by kernel_rfl
theorem c6 : defB (gOf fn xs free ec) ["lane", "count", "size"] ["lane", "count", "size"] f_stretch_end d6 = true := by kernel_rfl
theorem c7 : defB (gOf fn xs free ec) ["before", "after", "size", "rows", "mark", "one", "other", "end"] ["before", "after", "size"] f_moved_stretches d7 = true := by kernel_rfl
theorem c8 : defB (gOf fn xs free ec) ["kind", "before", "after", "size", "turn", "least", "first", "end"] ["kind", "before", "after", "size"] f_count_moved d8 = true := by kernel_rfl
theorem c9 : defB (gOf fn xs free ec) ["kind", "before", "after", "size", "least", "rows"] ["kind", "before", "after", "size"] f_first_moved d9 = true := by kernel_rfl
theorem c10 : defB (gOf fn xs free ec) ["_law_script"] ["_law_script"] f_law_source d10 = true := by kernel_rfl
theorem c11 : defB (gOf fn xs free ec) ["_law_source_here", "_law_limit", "_law_mixed", "_law_cell", "_law_digit"] ["_law_source_here", "_law_limit"] f_law_draw d11 = true := by kernel_rfl
theorem c12 : defB (gOf fn xs free ec) ["_law_source_here", "_law_limit", "_law_total", "_law_k"] ["_law_source_here", "_law_limit"] f_law_great d12 = true := by kernel_rfl
theorem c13 : defB (gOf fn xs free ec) ["_law_found"] ["_law_found"] f_law_integer d13 = true := by kernel_rfl
theorem c14 : defB (gOf fn xs free ec) ["_law_before", "_law_after", "_law_size", "_law_ends", "_law_k"] ["_law_before", "_law_after", "_law_size"] f_law_parts d14 = true := by kernel_rfl
theorem c15 : defB (gOf fn xs free ec) ["_law_script", "_law_source_here", "_law_way", "_law_before", "_law_after", "_law_size", "_law_rows", "_law_due", "_law_found", "_law_least", "_law_parts_here", "_law_row", "_law_mark"] ["_law_script"] f_law d15 = true := by kernel_rfl
theorem chk : progB (gOf fn xs free ec) fn pg.fs ns = true := by kernel_rfl
abbrev R : PySem.W.OpenRow := PySem.W.OpenLaw.row PySem.Challenge.rw_lanescounted_k03_marks_moved_by_ranges
abbrev hk : PySem.W.Hook := hookX 4 fn xs free ec
def ob (s : PySem.W.SharedT) : AlX := obsG 4 fn xs free ec (HandSHeadRun.getT s)
theorem ob_eq (s : PySem.W.SharedT) : ob s = hk.obs s.abs := obsG_eq (HandSHeadRun.getT_eq s)
def loose : List PySem.Str := (["LaneError", "BadKind", "BadCount", "BadSize", "MOST_LANES", "MOST_MARKS", "MOST_RANGES", "is_integer", "need_kind", "need_count", "need_size", "need_counts_of", "common_multiple", "stretch_end", "moved_stretches"] : List PySem.Str) ++ (["count_moved", "first_moved", "_law_source", "_law_draw", "_law_great", "_law_integer", "_law_parts"] : List PySem.Str)
theorem run (w : World) : HandSHeadRun.RunEq R (PySem.W.view R.prog [25]) hk ob 2000 loose w := by
  intro os
  kernel_rfl
def LawVal : Prop := ∀ zs : List Int, zs.length ≤ 63 → callF pg 30 15 [.fr (.list (zs.map .int))] = .ok (.fr (.bool true)) []
theorem holds_of (hv : LawVal) : PySem.Challenge.rw_lanescounted_k03_marks_moved_by_ranges.Holds := by
  w_on; o_law
  refine HandSHeadRun.head_any (r := PySem.W.OpenLaw.row PySem.Challenge.rw_lanescounted_k03_marks_moved_by_ranges) (q := PySem.W.view (PySem.W.OpenLaw.row PySem.Challenge.rw_lanescounted_k03_marks_moved_by_ranges).prog [25]) (H := hk) (ob := ob) (M := 2000) (loose := loose) (d := HandSHeadRun.topDef (PySem.W.OpenLaw.row PySem.Challenge.rw_lanescounted_k03_marks_moved_by_ranges).prog 25) (kwd := []) ob_eq
    (by kernel_rfl) (fun s => by kernel_rfl) run (by kernel_rfl) (by kernel_rfl) (by kernel_rfl) (by rfl) (by first | assumption | decide +kernel) (by decide +kernel) ⟨rfl, rfl, rfl, rfl, rfl, by decide +kernel⟩ ?hw ?hc
  case hw => w_witness2
  case hc =>
    refine walk_ofW (l := PySem.Challenge.rw_lanescounted_k03_marks_moved_by_ranges) (n := 63) (k := 30) (x := "_law_script") (CX := fun w => L2.CX (PySem.Challenge.rw_lanescounted_k03_marks_moved_by_ranges).prog w) rfl (by decide) (by kernel_rfl) ⟨rfl, by decide, by decide⟩ ?F (fun _ _ _ _ _ z => cx_no z)
    intro w mg fa h Y G hmg0
    obtain ⟨K, KX, c⟩ := Y
    have hmg : mg ("law" : PySem.Str) = some (.ref fa) := by
      have e : (HandSHeadRun.topDef (PySem.W.OpenLaw.row PySem.Challenge.rw_lanescounted_k03_marks_moved_by_ranges).prog 25).name = ("law" : PySem.Str) := by kernel_rfl
      rw [← e]
      exact hmg0
    obtain ⟨fd, hb, hF⟩ := law_fact (P := (PySem.Challenge.rw_lanescounted_k03_marks_moved_by_ranges).prog) (w := w) (pg := pg) (ns := ns) (xp := ec.xp K) (li := 15) (k := 30) (d := d15) (x := "_law_script") KX G c chk rfl rfl rfl rfl rfl rfl rfl hmg
    exact ⟨K, fd, _, KX, hb, fun H a zs hl _ hS => sp_law (hv zs hl) hS, hF⟩
end Lawk03

namespace Lawk03
open PySem L2 Ev
/-- the source of draws -/
def Src (src : List PyData) : Prop := ∃ (zs : List Int) (m b n : Int), src = [.list (zs.map .int), .int m, .int b, .int n]
theorem p1018 : binD .pow (.int 10) (.int 18) = some (.fr (.int 1000000000000000000)) := by kernel_rfl
theorem p109 : binD .pow (.int 10) (.int 9) = some (.fr (.int 1000000000)) := by kernel_rfl
theorem p1020 : binD .pow (.int 10) (.int 20) = some (.fr (.int 100000000000000000000)) := by kernel_rfl
theorem p1040 : binD .pow (.int 10) (.int 40) = some (.fr (.int 10000000000000000000000000000000000000000)) := by kernel_rfl
theorem i40 : ixN 4 0 = some 0 := rfl
theorem i41 : ixN 4 1 = some 1 := rfl
theorem i42 : ixN 4 2 = some 2 := rfl
theorem i43 : ixN 4 3 = some 3 := rfl
theorem cut1 {z : PyData} {zs : List PyData} : cutD (z :: zs) (some 1) none = zs := by
  show List.take _ (List.drop _ (z :: zs)) = _
  have e1 : HT.sIx (z :: zs).length 0 (some 1) = 1 := by simp [HT.sIx]
  have e2 : HT.sIx (z :: zs).length ((z :: zs).length) none = zs.length + 1 := rfl
  rw [e1, e2, List.drop_one, List.tail_cons]
  exact List.take_of_length_le (by simp)
theorem slc_l {xs : List PyData} {lo hi : Option Int} : slcD (.list xs) lo hi = some (.ow (.lst (cutD xs lo hi))) := rfl
theorem slc_t {xs : List PyData} {lo hi : Option Int} : slcD (.tuple xs) lo hi = some (.fr (.tuple (cutD xs lo hi))) := rfl
theorem draw_first {C : Cf} {zs : List Int} {m b n lim : Int} {x2 x3 x4 : Option Rv} : ∃ src x3', Src src ∧ evS C [0] (b_law_draw.headD .pass) [some (.ow (.lst [.list (zs.map .int), .int m, .int b, .int n])), some (.fr (.int lim)), x2, x3, x4] = .nx [some (.ow (.lst src)), some (.fr (.int lim)), x2, x3', x4] := by
  cases h1 : decide (m < lim) with
  | false => exact ⟨_, x3, ⟨zs, m, b, n, rfl⟩, by simp -implicitDefEqProofs only [o_ss, e_ss, finC_okLi, finC_okLb, finC_okLs, finC_okLn, s_trya', pickA_t, pickA_f, e_isX, cn_cur, cmp_ne_b, cmp_eq_b, flmap_nx, flmap_rt, lstR_0, lstR_1, tupR_1, lstR_2, tupR_2, lstR_3, tupR_3, lstR_4, tupR_4, lstR_5, tupR_5, lstR_6, tupR_6, lstR_7, tupR_7, lstR_8, lstR_9, o_met, o_isB, o_rl, metR_some, e_met, pm_lc, pm_tc, pm_li, pm_ti, isBR_b, e_isB, e_rl, t_met, t_isB, raiR_s, s_rais', tryR_nx, tryR_rt, tryR_ex, tryR_ite, s_tryx', hs_nil, hs_cons, pick_nil, pick_cons, pickR_t, pickR_f, noEx_nx, noEx_rt, s_asgs', asgsR_fr, cn_b, cn_s, setN, q_nil, q_cons, sq_nx, sq_rt, sq_bk, sq_ct, sq_ex, sq_ite, bind_ok, bind_ex, bind_ite, fl_ok, fl_ex, fl_ite, map_ok, map_ex, map_ite, opt_some, ite_okB, ite_okV, ite_and, ite_or, ops_some, op1_some, ops2_some, op1F_some, opsF_some, andR_b, orR_b, slt_some, vsl_fr, vsl_ow, mvl_some, vwS_fr, vwS_ow, vw_d, vw_sl, tsO_eq, chn_some, cmpR_some, negR_i, intR_i, biR_some, consO_some, vws_nil, vws_cons, o_bo, o_io, o_k, o_g, o_v, o_mv, o_tup, o_lst, o_bin, o_neg, o_cmp, o_chain, o_isN, o_notN, o_and, o_or, o_not, o_ite, o_idx, o_slc, o_call, o_bi, o_isi, o_lc, o_lci, e_k, e_g, e_v, e_mv, e_tup, e_lst, e_bin, e_neg, e_cmp, e_chain, e_isN, e_notN, e_and, e_or, e_not, e_ite, e_idx, e_slc, e_call, e_bi, e_isi, e_lc, e_lci, p_none, p_some, os_nil, os_cons, vs_nil, vs_cons, t_and, t_or, t_not, t_bo, t_v, t_k, t_bin, t_cmp, t_chain, t_isN, t_notN, t_idx, t_call, t_bi, t_isi, t_lc, t_lci, i_rng1', i_rng2', i_enu', i_zp', i_itr', seq_sl, seqS_fr, seqS_ow, rngR_i, s_asg', s_ex', s_ret', s_retN', s_pass', s_brk', s_cont', s_ife', s_forr', s_sto', s_aug', s_augl', s_mth', s_par', asgR_eq, nxO_some, stoR_eq, stoN_some, hasR_some, ifN_t, augR_add, augR_sub, isOwR_ow, isOwR_fr, mthR_eq, mtO_some, isOwS_eq, cmp_eq_s, cmp_ne_s, cmp_gt, cmp_lt, le_ii, ge_ii, cmp_eq, cmp_ne, List.getElem?_cons_succ, List.getElem?_cons_zero, Option.map_some, Option.bind_some, Bool.not_false, Bool.not_true, Bool.not_not, Bool.or_true, Bool.true_or, Bool.or_false, Bool.false_or, Bool.and_false, Bool.false_and, dsO, idx_l, idx_t, bin_add, bin_sub, slT, slTs, List.contains_nil, List.contains_cons, bindV, bindT, bindTs, List.set_cons_succ, List.set_cons_zero, if_true, if_false, Bool.false_eq_true, List.all_cons, List.all_nil, Bool.and_true, Bool.true_and, decide_true, decide_false, List.length_cons, List.length_nil, Nat.reduceAdd, Nat.reduceLT, callO_eq, calO_some, nodupB, lentIo, lent, slO, List.isEmpty_nil, List.isEmpty_cons, finC_ok0, finC_ex0, finC_okI, finC_exI, finC_exL, finC_ite, allFr, at_i0, at_1, at_2, at_3, at_4, at_5, at_6, at_7, at_8, at_n, Nat.reduceBEq, Bool.or_self, cn_call, cn_G, cn_w, seq_d, isi_int_int, isi_int_bool, isi_int_str, isi_int_tuple, isi_int_list, isi_bool_int, isi_bool_bool, isi_bool_str, isi_bool_tuple, isi_bool_list, isi_str_int, isi_str_bool, isi_str_str, isi_str_tuple, isi_str_list, isi_tuple_int, isi_tuple_bool, isi_tuple_str, isi_tuple_tuple, isi_tuple_list, isi_list_int, isi_list_bool, isi_list_str, isi_list_tuple, isi_list_list, isi_none_int, isi_none_bool, isi_none_str, isi_none_tuple, isi_none_list, tru_b, tru_i, tru_l, tru_t, tru_n, non_n, non_int, non_bool, non_str, non_tuple, non_list, bi_1, bi_2, bi_len_l, bi_len_t, bi_abs, bi_int, bi_intb, bi_max2, bi_min2, bi_tup_l, bi_tup_t, bi_lst_l, bi_lst_t, itm_l, itm_t, isL_l, isL_t, ho_d, hoS_fr, hoS_ow, ho_sl, hoI_ow, ho_io, consV_some, hand_nil, hand_cons, fz_fr, fz_ow, mkTp_eq, mkT_some, fr_n, fr_t, okTp_fr, okTp_ow, outO_ow, outsOf_nil, outsOf_cons, finO_some, finF_nx, finF_rt, finF_ex, b_law_draw, List.headD, h1]⟩
  | true =>
    cases zs with
    | nil => exact ⟨_, x3, ⟨[], m, b, n, rfl⟩, by simp -implicitDefEqProofs only [o_ss, e_ss, finC_okLi, finC_okLb, finC_okLs, finC_okLn, s_trya', pickA_t, pickA_f, e_isX, cn_cur, cmp_ne_b, cmp_eq_b, flmap_nx, flmap_rt, lstR_0, lstR_1, tupR_1, lstR_2, tupR_2, lstR_3, tupR_3, lstR_4, tupR_4, lstR_5, tupR_5, lstR_6, tupR_6, lstR_7, tupR_7, lstR_8, lstR_9, o_met, o_isB, o_rl, metR_some, e_met, pm_lc, pm_tc, pm_li, pm_ti, isBR_b, e_isB, e_rl, t_met, t_isB, raiR_s, s_rais', tryR_nx, tryR_rt, tryR_ex, tryR_ite, s_tryx', hs_nil, hs_cons, pick_nil, pick_cons, pickR_t, pickR_f, noEx_nx, noEx_rt, s_asgs', asgsR_fr, cn_b, cn_s, setN, q_nil, q_cons, sq_nx, sq_rt, sq_bk, sq_ct, sq_ex, sq_ite, bind_ok, bind_ex, bind_ite, fl_ok, fl_ex, fl_ite, map_ok, map_ex, map_ite, opt_some, ite_okB, ite_okV, ite_and, ite_or, ops_some, op1_some, ops2_some, op1F_some, opsF_some, andR_b, orR_b, slt_some, vsl_fr, vsl_ow, mvl_some, vwS_fr, vwS_ow, vw_d, vw_sl, tsO_eq, chn_some, cmpR_some, negR_i, intR_i, biR_some, consO_some, vws_nil, vws_cons, o_bo, o_io, o_k, o_g, o_v, o_mv, o_tup, o_lst, o_bin, o_neg, o_cmp, o_chain, o_isN, o_notN, o_and, o_or, o_not, o_ite, o_idx, o_slc, o_call, o_bi, o_isi, o_lc, o_lci, e_k, e_g, e_v, e_mv, e_tup, e_lst, e_bin, e_neg, e_cmp, e_chain, e_isN, e_notN, e_and, e_or, e_not, e_ite, e_idx, e_slc, e_call, e_bi, e_isi, e_lc, e_lci, p_none, p_some, os_nil, os_cons, vs_nil, vs_cons, t_and, t_or, t_not, t_bo, t_v, t_k, t_bin, t_cmp, t_chain, t_isN, t_notN, t_idx, t_call, t_bi, t_isi, t_lc, t_lci, i_rng1', i_rng2', i_enu', i_zp', i_itr', seq_sl, seqS_fr, seqS_ow, rngR_i, s_asg', s_ex', s_ret', s_retN', s_pass', s_brk', s_cont', s_ife', s_forr', s_sto', s_aug', s_augl', s_mth', s_par', asgR_eq, nxO_some, stoR_eq, stoN_some, hasR_some, ifN_t, augR_add, augR_sub, isOwR_ow, isOwR_fr, mthR_eq, mtO_some, isOwS_eq, cmp_eq_s, cmp_ne_s, cmp_gt, cmp_lt, le_ii, ge_ii, cmp_eq, cmp_ne, List.getElem?_cons_succ, List.getElem?_cons_zero, Option.map_some, Option.bind_some, Bool.not_false, Bool.not_true, Bool.not_not, Bool.or_true, Bool.true_or, Bool.or_false, Bool.false_or, Bool.and_false, Bool.false_and, dsO, idx_l, idx_t, bin_add, bin_sub, slT, slTs, List.contains_nil, List.contains_cons, bindV, bindT, bindTs, List.set_cons_succ, List.set_cons_zero, if_true, if_false, Bool.false_eq_true, List.all_cons, List.all_nil, Bool.and_true, Bool.true_and, decide_true, decide_false, List.length_cons, List.length_nil, Nat.reduceAdd, Nat.reduceLT, callO_eq, calO_some, nodupB, lentIo, lent, slO, List.isEmpty_nil, List.isEmpty_cons, finC_ok0, finC_ex0, finC_okI, finC_exI, finC_exL, finC_ite, allFr, at_i0, at_1, at_2, at_3, at_4, at_5, at_6, at_7, at_8, at_n, Nat.reduceBEq, Bool.or_self, cn_call, cn_G, cn_w, seq_d, isi_int_int, isi_int_bool, isi_int_str, isi_int_tuple, isi_int_list, isi_bool_int, isi_bool_bool, isi_bool_str, isi_bool_tuple, isi_bool_list, isi_str_int, isi_str_bool, isi_str_str, isi_str_tuple, isi_str_list, isi_tuple_int, isi_tuple_bool, isi_tuple_str, isi_tuple_tuple, isi_tuple_list, isi_list_int, isi_list_bool, isi_list_str, isi_list_tuple, isi_list_list, isi_none_int, isi_none_bool, isi_none_str, isi_none_tuple, isi_none_list, tru_b, tru_i, tru_l, tru_t, tru_n, non_n, non_int, non_bool, non_str, non_tuple, non_list, bi_1, bi_2, bi_len_l, bi_len_t, bi_abs, bi_int, bi_intb, bi_max2, bi_min2, bi_tup_l, bi_tup_t, bi_lst_l, bi_lst_t, itm_l, itm_t, isL_l, isL_t, ho_d, hoS_fr, hoS_ow, ho_sl, hoI_ow, ho_io, consV_some, hand_nil, hand_cons, fz_fr, fz_ow, mkTp_eq, mkT_some, fr_n, fr_t, okTp_fr, okTp_ow, outO_ow, outsOf_nil, outsOf_cons, finO_some, finF_nx, finF_rt, finF_ex, b_law_draw, List.headD, h1, List.map_nil]⟩
    | cons z zs =>
      cases h2 : decide (1000000000000000000 ≤ z) with
      | true => exact ⟨_, some (.fr (.int z)), ⟨zs, z, b, n, rfl⟩, by simp -implicitDefEqProofs only [o_ss, e_ss, finC_okLi, finC_okLb, finC_okLs, finC_okLn, s_trya', pickA_t, pickA_f, e_isX, cn_cur, cmp_ne_b, cmp_eq_b, flmap_nx, flmap_rt, lstR_0, lstR_1, tupR_1, lstR_2, tupR_2, lstR_3, tupR_3, lstR_4, tupR_4, lstR_5, tupR_5, lstR_6, tupR_6, lstR_7, tupR_7, lstR_8, lstR_9, o_met, o_isB, o_rl, metR_some, e_met, pm_lc, pm_tc, pm_li, pm_ti, isBR_b, e_isB, e_rl, t_met, t_isB, raiR_s, s_rais', tryR_nx, tryR_rt, tryR_ex, tryR_ite, s_tryx', hs_nil, hs_cons, pick_nil, pick_cons, pickR_t, pickR_f, noEx_nx, noEx_rt, s_asgs', asgsR_fr, cn_b, cn_s, setN, q_nil, q_cons, sq_nx, sq_rt, sq_bk, sq_ct, sq_ex, sq_ite, bind_ok, bind_ex, bind_ite, fl_ok, fl_ex, fl_ite, map_ok, map_ex, map_ite, opt_some, ite_okB, ite_okV, ite_and, ite_or, ops_some, op1_some, ops2_some, op1F_some, opsF_some, andR_b, orR_b, slt_some, vsl_fr, vsl_ow, mvl_some, vwS_fr, vwS_ow, vw_d, vw_sl, tsO_eq, chn_some, cmpR_some, negR_i, intR_i, biR_some, consO_some, vws_nil, vws_cons, o_bo, o_io, o_k, o_g, o_v, o_mv, o_tup, o_lst, o_bin, o_neg, o_cmp, o_chain, o_isN, o_notN, o_and, o_or, o_not, o_ite, o_idx, o_slc, o_call, o_bi, o_isi, o_lc, o_lci, e_k, e_g, e_v, e_mv, e_tup, e_lst, e_bin, e_neg, e_cmp, e_chain, e_isN, e_notN, e_and, e_or, e_not, e_ite, e_idx, e_slc, e_call, e_bi, e_isi, e_lc, e_lci, p_none, p_some, os_nil, os_cons, vs_nil, vs_cons, t_and, t_or, t_not, t_bo, t_v, t_k, t_bin, t_cmp, t_chain, t_isN, t_notN, t_idx, t_call, t_bi, t_isi, t_lc, t_lci, i_rng1', i_rng2', i_enu', i_zp', i_itr', seq_sl, seqS_fr, seqS_ow, rngR_i, s_asg', s_ex', s_ret', s_retN', s_pass', s_brk', s_cont', s_ife', s_forr', s_sto', s_aug', s_augl', s_mth', s_par', asgR_eq, nxO_some, stoR_eq, stoN_some, hasR_some, ifN_t, augR_add, augR_sub, isOwR_ow, isOwR_fr, mthR_eq, mtO_some, isOwS_eq, cmp_eq_s, cmp_ne_s, cmp_gt, cmp_lt, le_ii, ge_ii, cmp_eq, cmp_ne, List.getElem?_cons_succ, List.getElem?_cons_zero, Option.map_some, Option.bind_some, Bool.not_false, Bool.not_true, Bool.not_not, Bool.or_true, Bool.true_or, Bool.or_false, Bool.false_or, Bool.and_false, Bool.false_and, dsO, idx_l, idx_t, bin_add, bin_sub, slT, slTs, List.contains_nil, List.contains_cons, bindV, bindT, bindTs, List.set_cons_succ, List.set_cons_zero, if_true, if_false, Bool.false_eq_true, List.all_cons, List.all_nil, Bool.and_true, Bool.true_and, decide_true, decide_false, List.length_cons, List.length_nil, Nat.reduceAdd, Nat.reduceLT, callO_eq, calO_some, nodupB, lentIo, lent, slO, List.isEmpty_nil, List.isEmpty_cons, finC_ok0, finC_ex0, finC_okI, finC_exI, finC_exL, finC_ite, allFr, at_i0, at_1, at_2, at_3, at_4, at_5, at_6, at_7, at_8, at_n, Nat.reduceBEq, Bool.or_self, cn_call, cn_G, cn_w, seq_d, isi_int_int, isi_int_bool, isi_int_str, isi_int_tuple, isi_int_list, isi_bool_int, isi_bool_bool, isi_bool_str, isi_bool_tuple, isi_bool_list, isi_str_int, isi_str_bool, isi_str_str, isi_str_tuple, isi_str_list, isi_tuple_int, isi_tuple_bool, isi_tuple_str, isi_tuple_tuple, isi_tuple_list, isi_list_int, isi_list_bool, isi_list_str, isi_list_tuple, isi_list_list, isi_none_int, isi_none_bool, isi_none_str, isi_none_tuple, isi_none_list, tru_b, tru_i, tru_l, tru_t, tru_n, non_n, non_int, non_bool, non_str, non_tuple, non_list, bi_1, bi_2, bi_len_l, bi_len_t, bi_abs, bi_int, bi_intb, bi_max2, bi_min2, bi_tup_l, bi_tup_t, bi_lst_l, bi_lst_t, itm_l, itm_t, isL_l, isL_t, ho_d, hoS_fr, hoS_ow, ho_sl, hoI_ow, ho_io, consV_some, hand_nil, hand_cons, fz_fr, fz_ow, mkTp_eq, mkT_some, fr_n, fr_t, okTp_fr, okTp_ow, outO_ow, outsOf_nil, outsOf_cons, finO_some, finF_nx, finF_rt, finF_ex, b_law_draw, List.headD, h1, h2, List.map_cons, p1018, slc_l, cut1, i40, i41, i42, i43]⟩
      | false =>
        have m1 : mulOk b 48271 = true := mulOk_r (by decide) (by decide)
        have m2 : mulOk z 69621 = true := mulOk_r (by decide) (by decide)
        have d8 : (0 : Int) < 2147483647 := by decide
        exact ⟨_, some (.fr (.int z)), ⟨zs, m, (b * 48271 + z * 69621 + 7) % 2147483647, n, rfl⟩, by simp -implicitDefEqProofs only [o_ss, e_ss, finC_okLi, finC_okLb, finC_okLs, finC_okLn, s_trya', pickA_t, pickA_f, e_isX, cn_cur, cmp_ne_b, cmp_eq_b, flmap_nx, flmap_rt, lstR_0, lstR_1, tupR_1, lstR_2, tupR_2, lstR_3, tupR_3, lstR_4, tupR_4, lstR_5, tupR_5, lstR_6, tupR_6, lstR_7, tupR_7, lstR_8, lstR_9, o_met, o_isB, o_rl, metR_some, e_met, pm_lc, pm_tc, pm_li, pm_ti, isBR_b, e_isB, e_rl, t_met, t_isB, raiR_s, s_rais', tryR_nx, tryR_rt, tryR_ex, tryR_ite, s_tryx', hs_nil, hs_cons, pick_nil, pick_cons, pickR_t, pickR_f, noEx_nx, noEx_rt, s_asgs', asgsR_fr, cn_b, cn_s, setN, q_nil, q_cons, sq_nx, sq_rt, sq_bk, sq_ct, sq_ex, sq_ite, bind_ok, bind_ex, bind_ite, fl_ok, fl_ex, fl_ite, map_ok, map_ex, map_ite, opt_some, ite_okB, ite_okV, ite_and, ite_or, ops_some, op1_some, ops2_some, op1F_some, opsF_some, andR_b, orR_b, slt_some, vsl_fr, vsl_ow, mvl_some, vwS_fr, vwS_ow, vw_d, vw_sl, tsO_eq, chn_some, cmpR_some, negR_i, intR_i, biR_some, consO_some, vws_nil, vws_cons, o_bo, o_io, o_k, o_g, o_v, o_mv, o_tup, o_lst, o_bin, o_neg, o_cmp, o_chain, o_isN, o_notN, o_and, o_or, o_not, o_ite, o_idx, o_slc, o_call, o_bi, o_isi, o_lc, o_lci, e_k, e_g, e_v, e_mv, e_tup, e_lst, e_bin, e_neg, e_cmp, e_chain, e_isN, e_notN, e_and, e_or, e_not, e_ite, e_idx, e_slc, e_call, e_bi, e_isi, e_lc, e_lci, p_none, p_some, os_nil, os_cons, vs_nil, vs_cons, t_and, t_or, t_not, t_bo, t_v, t_k, t_bin, t_cmp, t_chain, t_isN, t_notN, t_idx, t_call, t_bi, t_isi, t_lc, t_lci, i_rng1', i_rng2', i_enu', i_zp', i_itr', seq_sl, seqS_fr, seqS_ow, rngR_i, s_asg', s_ex', s_ret', s_retN', s_pass', s_brk', s_cont', s_ife', s_forr', s_sto', s_aug', s_augl', s_mth', s_par', asgR_eq, nxO_some, stoR_eq, stoN_some, hasR_some, ifN_t, augR_add, augR_sub, isOwR_ow, isOwR_fr, mthR_eq, mtO_some, isOwS_eq, cmp_eq_s, cmp_ne_s, cmp_gt, cmp_lt, le_ii, ge_ii, cmp_eq, cmp_ne, List.getElem?_cons_succ, List.getElem?_cons_zero, Option.map_some, Option.bind_some, Bool.not_false, Bool.not_true, Bool.not_not, Bool.or_true, Bool.true_or, Bool.or_false, Bool.false_or, Bool.and_false, Bool.false_and, dsO, idx_l, idx_t, bin_add, bin_sub, slT, slTs, List.contains_nil, List.contains_cons, bindV, bindT, bindTs, List.set_cons_succ, List.set_cons_zero, if_true, if_false, Bool.false_eq_true, List.all_cons, List.all_nil, Bool.and_true, Bool.true_and, decide_true, decide_false, List.length_cons, List.length_nil, Nat.reduceAdd, Nat.reduceLT, callO_eq, calO_some, nodupB, lentIo, lent, slO, List.isEmpty_nil, List.isEmpty_cons, finC_ok0, finC_ex0, finC_okI, finC_exI, finC_exL, finC_ite, allFr, at_i0, at_1, at_2, at_3, at_4, at_5, at_6, at_7, at_8, at_n, Nat.reduceBEq, Bool.or_self, cn_call, cn_G, cn_w, seq_d, isi_int_int, isi_int_bool, isi_int_str, isi_int_tuple, isi_int_list, isi_bool_int, isi_bool_bool, isi_bool_str, isi_bool_tuple, isi_bool_list, isi_str_int, isi_str_bool, isi_str_str, isi_str_tuple, isi_str_list, isi_tuple_int, isi_tuple_bool, isi_tuple_str, isi_tuple_tuple, isi_tuple_list, isi_list_int, isi_list_bool, isi_list_str, isi_list_tuple, isi_list_list, isi_none_int, isi_none_bool, isi_none_str, isi_none_tuple, isi_none_list, tru_b, tru_i, tru_l, tru_t, tru_n, non_n, non_int, non_bool, non_str, non_tuple, non_list, bi_1, bi_2, bi_len_l, bi_len_t, bi_abs, bi_int, bi_intb, bi_max2, bi_min2, bi_tup_l, bi_tup_t, bi_lst_l, bi_lst_t, itm_l, itm_t, isL_l, isL_t, ho_d, hoS_fr, hoS_ow, ho_sl, hoI_ow, ho_io, consV_some, hand_nil, hand_cons, fz_fr, fz_ow, mkTp_eq, mkT_some, fr_n, fr_t, okTp_fr, okTp_ow, outO_ow, outsOf_nil, outsOf_cons, finO_some, finF_nx, finF_rt, finF_ex, b_law_draw, List.headD, h1, h2, List.map_cons, p1018, slc_l, cut1, i40, i41, i42, i43, bin_mul m1, bin_mul m2, bin_mod d8]⟩
theorem draw_ok {k : Nat} {src : List PyData} {lim : Int} (hs : Src src) (h0 : 0 < lim) (hd : divOk lim = true) : ∃ src' v, Src src' ∧ 0 ≤ v ∧ v < lim ∧ callF pg (k + 1) F_law_draw [.ow (.lst src), .fr (.int lim)] = .ok (.fr (.int v)) [.ow (.lst src')] := by
  obtain ⟨zs, m, b, n, rfl⟩ := hs
  obtain ⟨src, x3, ⟨zs', m', b', n', rfl⟩, g1⟩ := draw_first (C := Cn k) (zs := zs) (m := m) (b := b) (n := n) (lim := lim) (x2 := none) (x3 := none) (x4 := none)
  have hv : ∀ z : Int, 0 ≤ z % lim ∧ z % lim < lim := fun z => ⟨Int.emod_nonneg z (by omega), Int.emod_lt_of_pos z h0⟩
  simp only [b_law_draw, List.headD] at g1
  cases h1 : decide (lim ≤ m') with
  | true =>
    refine ⟨[.list (zs'.map .int), .int (m' / lim), .int b', .int n'], m' % lim, ⟨zs', _, b', n', rfl⟩, (hv _).1, (hv _).2, ?_⟩
    simp -implicitDefEqProofs only [u_law_draw, f_law_draw, b_law_draw, runFn_eq, finF_ite, owIx, List.map_cons, List.map_nil, List.replicate, List.cons_append, List.nil_append, Bool.and_self, Nat.le_refl, Nat.reduceSub, Nat.reduceLeDiff, o_ss, e_ss, finC_okLi, finC_okLb, finC_okLs, finC_okLn, s_trya', pickA_t, pickA_f, e_isX, cn_cur, cmp_ne_b, cmp_eq_b, flmap_nx, flmap_rt, lstR_0, lstR_1, tupR_1, lstR_2, tupR_2, lstR_3, tupR_3, lstR_4, tupR_4, lstR_5, tupR_5, lstR_6, tupR_6, lstR_7, tupR_7, lstR_8, lstR_9, o_met, o_isB, o_rl, metR_some, e_met, pm_lc, pm_tc, pm_li, pm_ti, isBR_b, e_isB, e_rl, t_met, t_isB, raiR_s, s_rais', tryR_nx, tryR_rt, tryR_ex, tryR_ite, s_tryx', hs_nil, hs_cons, pick_nil, pick_cons, pickR_t, pickR_f, noEx_nx, noEx_rt, s_asgs', asgsR_fr, cn_b, cn_s, setN, q_nil, q_cons, sq_nx, sq_rt, sq_bk, sq_ct, sq_ex, sq_ite, bind_ok, bind_ex, bind_ite, fl_ok, fl_ex, fl_ite, map_ok, map_ex, map_ite, opt_some, ite_okB, ite_okV, ite_and, ite_or, ops_some, op1_some, ops2_some, op1F_some, opsF_some, andR_b, orR_b, slt_some, vsl_fr, vsl_ow, mvl_some, vwS_fr, vwS_ow, vw_d, vw_sl, tsO_eq, chn_some, cmpR_some, negR_i, intR_i, biR_some, consO_some, vws_nil, vws_cons, o_bo, o_io, o_k, o_g, o_v, o_mv, o_tup, o_lst, o_bin, o_neg, o_cmp, o_chain, o_isN, o_notN, o_and, o_or, o_not, o_ite, o_idx, o_slc, o_call, o_bi, o_isi, o_lc, o_lci, e_k, e_g, e_v, e_mv, e_tup, e_lst, e_bin, e_neg, e_cmp, e_chain, e_isN, e_notN, e_and, e_or, e_not, e_ite, e_idx, e_slc, e_call, e_bi, e_isi, e_lc, e_lci, p_none, p_some, os_nil, os_cons, vs_nil, vs_cons, t_and, t_or, t_not, t_bo, t_v, t_k, t_bin, t_cmp, t_chain, t_isN, t_notN, t_idx, t_call, t_bi, t_isi, t_lc, t_lci, i_rng1', i_rng2', i_enu', i_zp', i_itr', seq_sl, seqS_fr, seqS_ow, rngR_i, s_asg', s_ex', s_ret', s_retN', s_pass', s_brk', s_cont', s_ife', s_forr', s_sto', s_aug', s_augl', s_mth', s_par', asgR_eq, nxO_some, stoR_eq, stoN_some, hasR_some, ifN_t, augR_add, augR_sub, isOwR_ow, isOwR_fr, mthR_eq, mtO_some, isOwS_eq, cmp_eq_s, cmp_ne_s, cmp_gt, cmp_lt, le_ii, ge_ii, cmp_eq, cmp_ne, List.getElem?_cons_succ, List.getElem?_cons_zero, Option.map_some, Option.bind_some, Bool.not_false, Bool.not_true, Bool.not_not, Bool.or_true, Bool.true_or, Bool.or_false, Bool.false_or, Bool.and_false, Bool.false_and, dsO, idx_l, idx_t, bin_add, bin_sub, slT, slTs, List.contains_nil, List.contains_cons, bindV, bindT, bindTs, List.set_cons_succ, List.set_cons_zero, if_true, if_false, Bool.false_eq_true, List.all_cons, List.all_nil, Bool.and_true, Bool.true_and, decide_true, decide_false, List.length_cons, List.length_nil, Nat.reduceAdd, Nat.reduceLT, callO_eq, calO_some, nodupB, lentIo, lent, slO, List.isEmpty_nil, List.isEmpty_cons, finC_ok0, finC_ex0, finC_okI, finC_exI, finC_exL, finC_ite, allFr, at_i0, at_1, at_2, at_3, at_4, at_5, at_6, at_7, at_8, at_n, Nat.reduceBEq, Bool.or_self, cn_call, cn_G, cn_w, seq_d, isi_int_int, isi_int_bool, isi_int_str, isi_int_tuple, isi_int_list, isi_bool_int, isi_bool_bool, isi_bool_str, isi_bool_tuple, isi_bool_list, isi_str_int, isi_str_bool, isi_str_str, isi_str_tuple, isi_str_list, isi_tuple_int, isi_tuple_bool, isi_tuple_str, isi_tuple_tuple, isi_tuple_list, isi_list_int, isi_list_bool, isi_list_str, isi_list_tuple, isi_list_list, isi_none_int, isi_none_bool, isi_none_str, isi_none_tuple, isi_none_list, tru_b, tru_i, tru_l, tru_t, tru_n, non_n, non_int, non_bool, non_str, non_tuple, non_list, bi_1, bi_2, bi_len_l, bi_len_t, bi_abs, bi_int, bi_intb, bi_max2, bi_min2, bi_tup_l, bi_tup_t, bi_lst_l, bi_lst_t, itm_l, itm_t, isL_l, isL_t, ho_d, hoS_fr, hoS_ow, ho_sl, hoI_ow, ho_io, consV_some, hand_nil, hand_cons, fz_fr, fz_ow, mkTp_eq, mkT_some, fr_n, fr_t, okTp_fr, okTp_ow, outO_ow, outsOf_nil, outsOf_cons, finO_some, finF_nx, finF_rt, finF_ex, g1, h1, bin_mod h0, bin_fdiv hd, i41]
  | false =>
    have d1 : (0 : Int) < 2147483399 := by decide
    have d2 : (0 : Int) < 2147483647 := by decide
    have m1 : ∀ x, mulOk x 40692 = true := fun x => mulOk_r (by decide) (by decide)
    have m2 : ∀ x, mulOk x 3791 = true := fun x => mulOk_r (by decide) (by decide)
    have m3 : ∀ x : Int, mulOk (x % 2147483399) (x % 2147483399) = true := fun x => mulOk_l (by have := Int.emod_nonneg x (show (2147483399 : Int) ≠ 0 by decide); omega) (by have := Int.emod_lt_of_pos x d1; omega)
    refine ⟨[.list (zs'.map .int), .int m', .int b', .int (n' + 1)], _, ⟨zs', _, b', n' + 1, rfl⟩, (hv (((b' + (n' + 1) * 40692) % 2147483399 * ((b' + (n' + 1) * 40692) % 2147483399) + (n' + 1) * 3791 + b') % 2147483647)).1, (hv _).2, ?_⟩
    simp -implicitDefEqProofs only [u_law_draw, f_law_draw, b_law_draw, runFn_eq, finF_ite, owIx, List.map_cons, List.map_nil, List.replicate, List.cons_append, List.nil_append, Bool.and_self, Nat.le_refl, Nat.reduceSub, Nat.reduceLeDiff, o_ss, e_ss, finC_okLi, finC_okLb, finC_okLs, finC_okLn, s_trya', pickA_t, pickA_f, e_isX, cn_cur, cmp_ne_b, cmp_eq_b, flmap_nx, flmap_rt, lstR_0, lstR_1, tupR_1, lstR_2, tupR_2, lstR_3, tupR_3, lstR_4, tupR_4, lstR_5, tupR_5, lstR_6, tupR_6, lstR_7, tupR_7, lstR_8, lstR_9, o_met, o_isB, o_rl, metR_some, e_met, pm_lc, pm_tc, pm_li, pm_ti, isBR_b, e_isB, e_rl, t_met, t_isB, raiR_s, s_rais', tryR_nx, tryR_rt, tryR_ex, tryR_ite, s_tryx', hs_nil, hs_cons, pick_nil, pick_cons, pickR_t, pickR_f, noEx_nx, noEx_rt, s_asgs', asgsR_fr, cn_b, cn_s, setN, q_nil, q_cons, sq_nx, sq_rt, sq_bk, sq_ct, sq_ex, sq_ite, bind_ok, bind_ex, bind_ite, fl_ok, fl_ex, fl_ite, map_ok, map_ex, map_ite, opt_some, ite_okB, ite_okV, ite_and, ite_or, ops_some, op1_some, ops2_some, op1F_some, opsF_some, andR_b, orR_b, slt_some, vsl_fr, vsl_ow, mvl_some, vwS_fr, vwS_ow, vw_d, vw_sl, tsO_eq, chn_some, cmpR_some, negR_i, intR_i, biR_some, consO_some, vws_nil, vws_cons, o_bo, o_io, o_k, o_g, o_v, o_mv, o_tup, o_lst, o_bin, o_neg, o_cmp, o_chain, o_isN, o_notN, o_and, o_or, o_not, o_ite, o_idx, o_slc, o_call, o_bi, o_isi, o_lc, o_lci, e_k, e_g, e_v, e_mv, e_tup, e_lst, e_bin, e_neg, e_cmp, e_chain, e_isN, e_notN, e_and, e_or, e_not, e_ite, e_idx, e_slc, e_call, e_bi, e_isi, e_lc, e_lci, p_none, p_some, os_nil, os_cons, vs_nil, vs_cons, t_and, t_or, t_not, t_bo, t_v, t_k, t_bin, t_cmp, t_chain, t_isN, t_notN, t_idx, t_call, t_bi, t_isi, t_lc, t_lci, i_rng1', i_rng2', i_enu', i_zp', i_itr', seq_sl, seqS_fr, seqS_ow, rngR_i, s_asg', s_ex', s_ret', s_retN', s_pass', s_brk', s_cont', s_ife', s_forr', s_sto', s_aug', s_augl', s_mth', s_par', asgR_eq, nxO_some, stoR_eq, stoN_some, hasR_some, ifN_t, augR_add, augR_sub, isOwR_ow, isOwR_fr, mthR_eq, mtO_some, isOwS_eq, cmp_eq_s, cmp_ne_s, cmp_gt, cmp_lt, le_ii, ge_ii, cmp_eq, cmp_ne, List.getElem?_cons_succ, List.getElem?_cons_zero, Option.map_some, Option.bind_some, Bool.not_false, Bool.not_true, Bool.not_not, Bool.or_true, Bool.true_or, Bool.or_false, Bool.false_or, Bool.and_false, Bool.false_and, dsO, idx_l, idx_t, bin_add, bin_sub, slT, slTs, List.contains_nil, List.contains_cons, bindV, bindT, bindTs, List.set_cons_succ, List.set_cons_zero, if_true, if_false, Bool.false_eq_true, List.all_cons, List.all_nil, Bool.and_true, Bool.true_and, decide_true, decide_false, List.length_cons, List.length_nil, Nat.reduceAdd, Nat.reduceLT, callO_eq, calO_some, nodupB, lentIo, lent, slO, List.isEmpty_nil, List.isEmpty_cons, finC_ok0, finC_ex0, finC_okI, finC_exI, finC_exL, finC_ite, allFr, at_i0, at_1, at_2, at_3, at_4, at_5, at_6, at_7, at_8, at_n, Nat.reduceBEq, Bool.or_self, cn_call, cn_G, cn_w, seq_d, isi_int_int, isi_int_bool, isi_int_str, isi_int_tuple, isi_int_list, isi_bool_int, isi_bool_bool, isi_bool_str, isi_bool_tuple, isi_bool_list, isi_str_int, isi_str_bool, isi_str_str, isi_str_tuple, isi_str_list, isi_tuple_int, isi_tuple_bool, isi_tuple_str, isi_tuple_tuple, isi_tuple_list, isi_list_int, isi_list_bool, isi_list_str, isi_list_tuple, isi_list_list, isi_none_int, isi_none_bool, isi_none_str, isi_none_tuple, isi_none_list, tru_b, tru_i, tru_l, tru_t, tru_n, non_n, non_int, non_bool, non_str, non_tuple, non_list, bi_1, bi_2, bi_len_l, bi_len_t, bi_abs, bi_int, bi_intb, bi_max2, bi_min2, bi_tup_l, bi_tup_t, bi_lst_l, bi_lst_t, itm_l, itm_t, isL_l, isL_t, ho_d, hoS_fr, hoS_ow, ho_sl, hoI_ow, ho_io, consV_some, hand_nil, hand_cons, fz_fr, fz_ow, mkTp_eq, mkT_some, fr_n, fr_t, okTp_fr, okTp_ow, outO_ow, outsOf_nil, outsOf_cons, finO_some, finF_nx, finF_rt, finF_ex, g1, h1, bin_mod h0, bin_mod d1, bin_mod d2, bin_mul (m1 _), bin_mul (m2 _), bin_mul (m3 _), i43]

theorem range_some {n : Nat} : rangeD 0 (n : Int) = some ((List.range n).map fun (i : Nat) => .int (0 + i)) := by
  simp [rangeD]
theorem range5 : rangeD 0 5 = some ((List.range 5).map fun (i : Nat) => PyData.int (0 + i)) := range_some (n := 5)
theorem great_ok {k : Nat} {src : List PyData} {lim : Int} (hs : Src src) (h0 : 0 < lim) : ∃ src' v, Src src' ∧ 0 ≤ v ∧ v < lim ∧ callF pg (k + 2) F_law_great [.ow (.lst src), .fr (.int lim)] = .ok (.fr (.int v)) [.ow (.lst src')] := by
  obtain ⟨r', g1, src', tot, x3, g2, g3⟩ := forRun_inv (t := .n 3) (body := evSs (Cn (k + 1)) [0] b_law_great_1) (ys := (List.range 5).map fun (i : Nat) => PyData.int (0 + i)) (r := [some (.ow (.lst src)), some (.fr (.int lim)), some (.fr (.int 0)), none]) (ls := true)
    (fun _ r => ∃ (src : List PyData) (tot : Int) (x3 : Option Rv), r = [some (.ow (.lst src)), some (.fr (.int lim)), some (.fr (.int tot)), x3] ∧ Src src) ⟨src, 0, none, rfl, hs⟩ (fun i x r hx ⟨src, tot, x3, e, hs⟩ => by
      subst e
      refine ⟨_, rfl, ?_⟩
      obtain ⟨src2, v, hs2, v0, v1, hc⟩ := draw_ok (k := k) (lim := 1000000000) hs (by decide) (by kernel_rfl)
      have m1 : mulOk tot 1000000000 = true := mulOk_r (by decide) (by decide)
      refine ⟨_, .inl (by simp -implicitDefEqProofs only [o_ss, e_ss, finC_okLi, finC_okLb, finC_okLs, finC_okLn, s_trya', pickA_t, pickA_f, e_isX, cn_cur, cmp_ne_b, cmp_eq_b, flmap_nx, flmap_rt, lstR_0, lstR_1, tupR_1, lstR_2, tupR_2, lstR_3, tupR_3, lstR_4, tupR_4, lstR_5, tupR_5, lstR_6, tupR_6, lstR_7, tupR_7, lstR_8, lstR_9, o_met, o_isB, o_rl, metR_some, e_met, pm_lc, pm_tc, pm_li, pm_ti, isBR_b, e_isB, e_rl, t_met, t_isB, raiR_s, s_rais', tryR_nx, tryR_rt, tryR_ex, tryR_ite, s_tryx', hs_nil, hs_cons, pick_nil, pick_cons, pickR_t, pickR_f, noEx_nx, noEx_rt, s_asgs', asgsR_fr, cn_b, cn_s, setN, q_nil, q_cons, sq_nx, sq_rt, sq_bk, sq_ct, sq_ex, sq_ite, bind_ok, bind_ex, bind_ite, fl_ok, fl_ex, fl_ite, map_ok, map_ex, map_ite, opt_some, ite_okB, ite_okV, ite_and, ite_or, ops_some, op1_some, ops2_some, op1F_some, opsF_some, andR_b, orR_b, slt_some, vsl_fr, vsl_ow, mvl_some, vwS_fr, vwS_ow, vw_d, vw_sl, tsO_eq, chn_some, cmpR_some, negR_i, intR_i, biR_some, consO_some, vws_nil, vws_cons, o_bo, o_io, o_k, o_g, o_v, o_mv, o_tup, o_lst, o_bin, o_neg, o_cmp, o_chain, o_isN, o_notN, o_and, o_or, o_not, o_ite, o_idx, o_slc, o_call, o_bi, o_isi, o_lc, o_lci, e_k, e_g, e_v, e_mv, e_tup, e_lst, e_bin, e_neg, e_cmp, e_chain, e_isN, e_notN, e_and, e_or, e_not, e_ite, e_idx, e_slc, e_call, e_bi, e_isi, e_lc, e_lci, p_none, p_some, os_nil, os_cons, vs_nil, vs_cons, t_and, t_or, t_not, t_bo, t_v, t_k, t_bin, t_cmp, t_chain, t_isN, t_notN, t_idx, t_call, t_bi, t_isi, t_lc, t_lci, i_rng1', i_rng2', i_enu', i_zp', i_itr', seq_sl, seqS_fr, seqS_ow, rngR_i, s_asg', s_ex', s_ret', s_retN', s_pass', s_brk', s_cont', s_ife', s_forr', s_sto', s_aug', s_augl', s_mth', s_par', asgR_eq, nxO_some, stoR_eq, stoN_some, hasR_some, ifN_t, augR_add, augR_sub, isOwR_ow, isOwR_fr, mthR_eq, mtO_some, isOwS_eq, cmp_eq_s, cmp_ne_s, cmp_gt, cmp_lt, le_ii, ge_ii, cmp_eq, cmp_ne, List.getElem?_cons_succ, List.getElem?_cons_zero, Option.map_some, Option.bind_some, Bool.not_false, Bool.not_true, Bool.not_not, Bool.or_true, Bool.true_or, Bool.or_false, Bool.false_or, Bool.and_false, Bool.false_and, dsO, idx_l, idx_t, bin_add, bin_sub, slT, slTs, List.contains_nil, List.contains_cons, bindV, bindT, bindTs, List.set_cons_succ, List.set_cons_zero, if_true, if_false, Bool.false_eq_true, List.all_cons, List.all_nil, Bool.and_true, Bool.true_and, decide_true, decide_false, List.length_cons, List.length_nil, Nat.reduceAdd, Nat.reduceLT, callO_eq, calO_some, nodupB, lentIo, lent, slO, List.isEmpty_nil, List.isEmpty_cons, finC_ok0, finC_ex0, finC_okI, finC_exI, finC_exL, finC_ite, allFr, at_i0, at_1, at_2, at_3, at_4, at_5, at_6, at_7, at_8, at_n, Nat.reduceBEq, Bool.or_self, cn_call, cn_G, cn_w, seq_d, isi_int_int, isi_int_bool, isi_int_str, isi_int_tuple, isi_int_list, isi_bool_int, isi_bool_bool, isi_bool_str, isi_bool_tuple, isi_bool_list, isi_str_int, isi_str_bool, isi_str_str, isi_str_tuple, isi_str_list, isi_tuple_int, isi_tuple_bool, isi_tuple_str, isi_tuple_tuple, isi_tuple_list, isi_list_int, isi_list_bool, isi_list_str, isi_list_tuple, isi_list_list, isi_none_int, isi_none_bool, isi_none_str, isi_none_tuple, isi_none_list, tru_b, tru_i, tru_l, tru_t, tru_n, non_n, non_int, non_bool, non_str, non_tuple, non_list, bi_1, bi_2, bi_len_l, bi_len_t, bi_abs, bi_int, bi_intb, bi_max2, bi_min2, bi_tup_l, bi_tup_t, bi_lst_l, bi_lst_t, itm_l, itm_t, isL_l, isL_t, ho_d, hoS_fr, hoS_ow, ho_sl, hoI_ow, ho_io, consV_some, hand_nil, hand_cons, fz_fr, fz_ow, mkTp_eq, mkT_some, fr_n, fr_t, okTp_fr, okTp_ow, outO_ow, outsOf_nil, outsOf_cons, finO_some, finF_nx, finF_rt, finF_ex, b_law_great_1, p109, bin_mul m1, hc]; rfl), src2, _, _, rfl, hs2⟩)
  subst g2
  refine ⟨src', tot % lim, g3, Int.emod_nonneg _ (by omega), Int.emod_lt_of_pos _ h0, ?_⟩
  simp -implicitDefEqProofs only [u_law_great, f_law_great, b_law_great, runFn_eq, finF_ite, owIx, List.map_cons, List.map_nil, List.replicate, List.cons_append, List.nil_append, Bool.and_self, Nat.le_refl, Nat.reduceSub, Nat.reduceLeDiff, o_ss, e_ss, finC_okLi, finC_okLb, finC_okLs, finC_okLn, s_trya', pickA_t, pickA_f, e_isX, cn_cur, cmp_ne_b, cmp_eq_b, flmap_nx, flmap_rt, lstR_0, lstR_1, tupR_1, lstR_2, tupR_2, lstR_3, tupR_3, lstR_4, tupR_4, lstR_5, tupR_5, lstR_6, tupR_6, lstR_7, tupR_7, lstR_8, lstR_9, o_met, o_isB, o_rl, metR_some, e_met, pm_lc, pm_tc, pm_li, pm_ti, isBR_b, e_isB, e_rl, t_met, t_isB, raiR_s, s_rais', tryR_nx, tryR_rt, tryR_ex, tryR_ite, s_tryx', hs_nil, hs_cons, pick_nil, pick_cons, pickR_t, pickR_f, noEx_nx, noEx_rt, s_asgs', asgsR_fr, cn_b, cn_s, setN, q_nil, q_cons, sq_nx, sq_rt, sq_bk, sq_ct, sq_ex, sq_ite, bind_ok, bind_ex, bind_ite, fl_ok, fl_ex, fl_ite, map_ok, map_ex, map_ite, opt_some, ite_okB, ite_okV, ite_and, ite_or, ops_some, op1_some, ops2_some, op1F_some, opsF_some, andR_b, orR_b, slt_some, vsl_fr, vsl_ow, mvl_some, vwS_fr, vwS_ow, vw_d, vw_sl, tsO_eq, chn_some, cmpR_some, negR_i, intR_i, biR_some, consO_some, vws_nil, vws_cons, o_bo, o_io, o_k, o_g, o_v, o_mv, o_tup, o_lst, o_bin, o_neg, o_cmp, o_chain, o_isN, o_notN, o_and, o_or, o_not, o_ite, o_idx, o_slc, o_call, o_bi, o_isi, o_lc, o_lci, e_k, e_g, e_v, e_mv, e_tup, e_lst, e_bin, e_neg, e_cmp, e_chain, e_isN, e_notN, e_and, e_or, e_not, e_ite, e_idx, e_slc, e_call, e_bi, e_isi, e_lc, e_lci, p_none, p_some, os_nil, os_cons, vs_nil, vs_cons, t_and, t_or, t_not, t_bo, t_v, t_k, t_bin, t_cmp, t_chain, t_isN, t_notN, t_idx, t_call, t_bi, t_isi, t_lc, t_lci, i_rng1', i_rng2', i_enu', i_zp', i_itr', seq_sl, seqS_fr, seqS_ow, rngR_i, s_asg', s_ex', s_ret', s_retN', s_pass', s_brk', s_cont', s_ife', s_forr', s_sto', s_aug', s_augl', s_mth', s_par', asgR_eq, nxO_some, stoR_eq, stoN_some, hasR_some, ifN_t, augR_add, augR_sub, isOwR_ow, isOwR_fr, mthR_eq, mtO_some, isOwS_eq, cmp_eq_s, cmp_ne_s, cmp_gt, cmp_lt, le_ii, ge_ii, cmp_eq, cmp_ne, List.getElem?_cons_succ, List.getElem?_cons_zero, Option.map_some, Option.bind_some, Bool.not_false, Bool.not_true, Bool.not_not, Bool.or_true, Bool.true_or, Bool.or_false, Bool.false_or, Bool.and_false, Bool.false_and, dsO, idx_l, idx_t, bin_add, bin_sub, slT, slTs, List.contains_nil, List.contains_cons, bindV, bindT, bindTs, List.set_cons_succ, List.set_cons_zero, if_true, if_false, Bool.false_eq_true, List.all_cons, List.all_nil, Bool.and_true, Bool.true_and, decide_true, decide_false, List.length_cons, List.length_nil, Nat.reduceAdd, Nat.reduceLT, callO_eq, calO_some, nodupB, lentIo, lent, slO, List.isEmpty_nil, List.isEmpty_cons, finC_ok0, finC_ex0, finC_okI, finC_exI, finC_exL, finC_ite, allFr, at_i0, at_1, at_2, at_3, at_4, at_5, at_6, at_7, at_8, at_n, Nat.reduceBEq, Bool.or_self, cn_call, cn_G, cn_w, seq_d, isi_int_int, isi_int_bool, isi_int_str, isi_int_tuple, isi_int_list, isi_bool_int, isi_bool_bool, isi_bool_str, isi_bool_tuple, isi_bool_list, isi_str_int, isi_str_bool, isi_str_str, isi_str_tuple, isi_str_list, isi_tuple_int, isi_tuple_bool, isi_tuple_str, isi_tuple_tuple, isi_tuple_list, isi_list_int, isi_list_bool, isi_list_str, isi_list_tuple, isi_list_list, isi_none_int, isi_none_bool, isi_none_str, isi_none_tuple, isi_none_list, tru_b, tru_i, tru_l, tru_t, tru_n, non_n, non_int, non_bool, non_str, non_tuple, non_list, bi_1, bi_2, bi_len_l, bi_len_t, bi_abs, bi_int, bi_intb, bi_max2, bi_min2, bi_tup_l, bi_tup_t, bi_lst_l, bi_lst_t, itm_l, itm_t, isL_l, isL_t, ho_d, hoS_fr, hoS_ow, ho_sl, hoI_ow, ho_io, consV_some, hand_nil, hand_cons, fz_fr, fz_ow, mkTp_eq, mkT_some, fr_n, fr_t, okTp_fr, okTp_ow, outO_ow, outsOf_nil, outsOf_cons, finO_some, finF_nx, finF_rt, finF_ex, range5, List.append_nil, g1, bin_mod h0]

theorem big_mul {m c : Int} (m0 : 0 ≤ m) (m1 : m ≤ 10000000000000000000000000000000000000000) (c0 : 0 ≤ c) (c1 : c ≤ 10000000000000000000000000000000000000000) : mulOk m c = true := by
  simp only [mulOk, Bool.or_eq_true, decide_eq_true_eq]
  refine .inr ⟨?_, ?_⟩ <;> omega
theorem big_div {c : Int} (c0 : 0 < c) (c1 : c ≤ 10000000000000000000000000000000000000000) : divOk c = true := by
  simp only [divOk, decide_eq_true_eq]
  omega
theorem sl24 : sizeLine = 16777216 := rfl
theorem pgw : pg.w = 1000000000000000000000000000000000000000000000000000000000000 := rfl

/-- marks below n that lie in unlike lanes -/
def cU (b a z : Int) : Nat → Int
  | 0 => 0
  | k + 1 => cU b a z k + if (k : Int) * b / z ≠ (k : Int) * a / z then 1 else 0
theorem cU_run {b a z : Int} {u : Prop} [Decidable u] {k0 : Nat} : ∀ k : Nat, (∀ i : Nat, i < k → (((k0 + i : Nat) : Int) * b / z ≠ ((k0 + i : Nat) : Int) * a / z ↔ u)) → cU b a z (k0 + k) = cU b a z k0 + if u then (k : Int) else 0
  | 0, _ => by simp
  | k + 1, h => by
    have ih := cU_run k fun i hi => h i (by omega)
    have hk := h k (by omega)
    show cU b a z (k0 + k) + (if ((k0 + k : Nat) : Int) * b / z ≠ ((k0 + k : Nat) : Int) * a / z then (1 : Int) else 0) = _
    rw [ih]
    by_cases hu : u
    · rw [if_pos hu, if_pos hu, if_pos (hk.mpr hu)]
      omega
    · rw [if_neg hu, if_neg hu, if_neg (fun q => hu (hk.mp q))]
      omega
/-- where a lane ends -/
def se (lane count size : Int) : Int := -((-((lane + 1) * size)) / count)
theorem se_ge {lane count size : Int} (c0 : 0 < count) : (lane + 1) * size ≤ se lane count size * count := by
  have := Int.ediv_mul_le (-((lane + 1) * size)) (show count ≠ 0 by omega)
  unfold se
  rw [Int.neg_mul]
  omega
theorem se_lt {lane count size : Int} (c0 : 0 < count) : (se lane count size - 1) * count < (lane + 1) * size := by
  have := Int.lt_ediv_add_one_mul_self (-((lane + 1) * size)) c0
  unfold se
  generalize (lane + 1) * size = x at *
  generalize (-x) / count = q at *
  rw [Int.add_mul, Int.one_mul] at this
  rw [Int.sub_mul, Int.neg_mul, Int.one_mul]
  omega
section
variable {b z mark m : Int}
theorem div_lo (z0 : 0 < z) : mark * b / z * z ≤ mark * b := Int.ediv_mul_le _ (by omega)
theorem div_hi (z0 : 0 < z) : mark * b < (mark * b / z + 1) * z := Int.lt_ediv_add_one_mul_self _ z0
/-- the lane's end lies behind -/
theorem se_gt (b0 : 0 < b) (z0 : 0 < z) : mark < se (mark * b / z) b z := by
  have h1 := se_ge (lane := mark * b / z) (size := z) b0
  have h2 := div_hi (mark := mark) (b := b) z0
  exact Int.lt_of_mul_lt_mul_right (Int.lt_of_lt_of_le h2 h1) (by omega)
theorem lane_lt (b0 : 0 < b) (z0 : 0 < z) (h : mark < z) : mark * b / z < b := by
  apply Int.ediv_lt_of_lt_mul z0
  rw [Int.mul_comm b z]
  exact Int.mul_lt_mul_of_pos_right h b0
theorem lane_ge (b0 : 0 < b) (z0 : 0 < z) (h : 0 ≤ mark) : 0 ≤ mark * b / z := Int.ediv_nonneg (Int.mul_nonneg h (by omega)) (by omega)
theorem se_le (b0 : 0 < b) (z0 : 0 < z) (h : mark < z) : se (mark * b / z) b z ≤ z := by
  have h1 := se_lt (lane := mark * b / z) (size := z) b0
  have h2 := lane_lt b0 z0 h
  have h3 : (mark * b / z + 1) * z ≤ b * z := Int.mul_le_mul_of_nonneg_right (by omega) (by omega)
  have h4 : (se (mark * b / z) b z - 1) * b < z * b := by
    rw [Int.mul_comm z b]
    omega
  have := Int.lt_of_mul_lt_mul_right h4 (by omega)
  omega
/-- within it the lane is the same -/
theorem lane_same (b0 : 0 < b) (z0 : 0 < z) (h1 : mark ≤ m) (h2 : m < se (mark * b / z) b z) : m * b / z = mark * b / z := by
  have h3 := se_lt (lane := mark * b / z) (size := z) b0
  have h4 : m * b ≤ (se (mark * b / z) b z - 1) * b := Int.mul_le_mul_of_nonneg_right (by omega) (by omega)
  have h5 : m * b / z < mark * b / z + 1 := Int.ediv_lt_of_lt_mul z0 (by omega)
  have h6 : mark * b / z ≤ m * b / z := Int.ediv_le_ediv z0 (Int.mul_le_mul_of_nonneg_right h1 (by omega))
  omega
theorem lane_mono (b0 : 0 < b) (z0 : 0 < z) (h1 : mark ≤ m) : mark * b / z ≤ m * b / z := Int.ediv_le_ediv z0 (Int.mul_le_mul_of_nonneg_right h1 (by omega))
theorem lane_next (b0 : 0 < b) (z0 : 0 < z) (h : se (mark * b / z) b z ≤ m) : mark * b / z + 1 ≤ m * b / z := by
  have h1 := se_ge (lane := mark * b / z) (size := z) b0
  have h2 : se (mark * b / z) b z * b ≤ m * b := Int.mul_le_mul_of_nonneg_right h (by omega)
  exact (Int.le_ediv_iff_mul_le z0).mpr (Int.le_trans h1 h2)
end
def sumR (rows : List (Int × Int)) : Int := (rows.map fun p => p.2 - p.1).sum
theorem sumR_app {xs : List (Int × Int)} {p : Int × Int} : sumR (xs ++ [p]) = sumR xs + (p.2 - p.1) := by
  simp [sumR, List.sum_append]
def unl (b a z m : Int) : Prop := m * b / z ≠ m * a / z
/-- what the rows so far tell -/
def Row (b a z mark : Int) (rows : List (Int × Int)) : Prop := (rows.length : Int) ≤ mark * b / z + mark * a / z ∧ sumR rows = cU b a z mark.toNat ∧ match rows with
  | [] => ∀ m, 0 ≤ m → m < mark → ¬unl b a z m
  | p :: _ => 0 ≤ p.1 ∧ p.1 < mark ∧ unl b a z p.1 ∧ ∀ m, 0 ≤ m → m < p.1 → ¬unl b a z m
theorem row_step {b a z mark : Int} {rows : List (Int × Int)} (b0 : 0 < b) (a0 : 0 < a) (z0 : 0 < z) (m0 : 0 ≤ mark) (e : Int) (he : e = min (se (mark * b / z) b z) (se (mark * a / z) a z)) (h : Row b a z mark rows) :
    Row b a z e (if mark * b / z ≠ mark * a / z then rows ++ [(mark, e)] else rows) := by
  obtain ⟨h1, h2, h3⟩ := h
  have g1 := se_gt (mark := mark) b0 z0
  have g2 := se_gt (mark := mark) a0 z0
  have lt : mark < e := by omega
  have n1 := lane_mono b0 z0 (Int.le_of_lt lt)
  have n2 := lane_mono a0 z0 (Int.le_of_lt lt)
  have n3 : mark * b / z + mark * a / z + 1 ≤ e * b / z + e * a / z := by
    by_cases hc : se (mark * b / z) b z ≤ se (mark * a / z) a z
    · have := lane_next (m := e) b0 z0 (mark := mark) (by omega)
      omega
    · have := lane_next (m := e) a0 z0 (mark := mark) (by omega)
      omega
  have same : ∀ m, mark ≤ m → m < e → (unl b a z m ↔ mark * b / z ≠ mark * a / z) := fun m k1 k2 => by
    unfold unl
    rw [lane_same b0 z0 k1 (by omega), lane_same a0 z0 k1 (by omega)]
  have cu : cU b a z e.toNat = cU b a z mark.toNat + if mark * b / z ≠ mark * a / z then e - mark else 0 := by
    have := cU_run (b := b) (a := a) (z := z) (u := mark * b / z ≠ mark * a / z) (k0 := mark.toNat) (e - mark).toNat fun i hi => by
      have e1 : ((mark.toNat + i : Nat) : Int) = mark + i := by omega
      rw [e1]
      exact same (mark + i) (by omega) (by omega)
    have e2 : mark.toNat + (e - mark).toNat = e.toNat := by omega
    have e3 : (((e - mark).toNat : Nat) : Int) = e - mark := by omega
    rw [e2, e3] at this
    exact this
  by_cases hu : mark * b / z ≠ mark * a / z
  · rw [if_pos hu] at cu ⊢
    refine ⟨by simp; omega, by rw [sumR_app, h2, cu], ?_⟩
    cases rows with
    | nil =>
      refine ⟨m0, lt, (same mark (Int.le_refl _) lt).mpr hu, h3⟩
    | cons p rest =>
      exact ⟨h3.1, by have := h3.2.1; omega, h3.2.2⟩
  · rw [if_neg hu] at cu ⊢
    refine ⟨by omega, by rw [h2, cu]; omega, ?_⟩
    cases rows with
    | nil =>
      intro m k1 k2
      by_cases hm : m < mark
      · exact h3 m k1 hm
      · exact fun q => hu ((same m (by omega) k2).mp q)
    | cons p rest =>
      exact ⟨h3.1, by have := h3.2.1; omega, h3.2.2⟩

/-- parts from m to z, in each of which the marks are alike -/
def PartL (b a z : Int) : Int → List (Int × Int) → Prop
  | m, [] => m = z
  | m, p :: ps => p.1 = m ∧ m < p.2 ∧ (∀ i, m ≤ i → i < p.2 → (unl b a z i ↔ unl b a z m)) ∧ PartL b a z p.2 ps
def unlB (b a z : Int) (p : Int × Int) : Bool := !(p.1 * b / z == p.1 * a / z)
theorem unlB_iff {b a z : Int} {p : Int × Int} : unlB b a z p = true ↔ unl b a z p.1 := by
  simp [unlB, unl]
theorem part_le {b a z : Int} : ∀ {ps : List (Int × Int)} {m : Int}, PartL b a z m ps → m ≤ z
  | [], m, h => Int.le_of_eq h
  | p :: ps, m, h => by
    have := part_le h.2.2.2
    have := h.2.1
    omega
theorem part_sum {b a z : Int} : ∀ {ps : List (Int × Int)} {m : Int}, 0 ≤ m → PartL b a z m ps → cU b a z z.toNat = cU b a z m.toNat + sumR (ps.filter (unlB b a z))
  | [], m, h0, h => by
    have h : m = z := h
    subst h
    simp [sumR]
  | p :: ps, m, h0, h => by
    obtain ⟨h1, h2, h3, h4⟩ := h
    rw [part_sum (by omega) h4]
    have := cU_run (b := b) (a := a) (z := z) (u := m * b / z ≠ m * a / z) (k0 := m.toNat) (p.2 - m).toNat fun i hi => by
      have e1 : ((m.toNat + i : Nat) : Int) = m + i := by omega
      rw [e1]
      exact h3 (m + i) (by omega) (by omega)
    have e2 : m.toNat + (p.2 - m).toNat = p.2.toNat := by omega
    have e3 : (((p.2 - m).toNat : Nat) : Int) = p.2 - m := by omega
    rw [e2, e3] at this
    rw [this, List.filter_cons]
    by_cases hu : m * b / z ≠ m * a / z
    · rw [if_pos hu, if_pos (unlB_iff.mpr (by rw [h1]; exact hu))]
      simp only [sumR, List.map_cons, List.sum_cons]
      omega
    · rw [if_neg hu, if_neg (fun q => hu (by have := unlB_iff.mp q; rwa [h1] at this))]
      omega
/-- the first unlike mark from m on -/
def FirstU (b a z m : Int) : Option Int → Prop
  | none => ∀ i, m ≤ i → i < z → ¬unl b a z i
  | some f => m ≤ f ∧ f < z ∧ unl b a z f ∧ ∀ i, m ≤ i → i < f → ¬unl b a z i
theorem firstU_uniq {b a z m : Int} : ∀ {o1 o2 : Option Int}, FirstU b a z m o1 → FirstU b a z m o2 → o1 = o2
  | none, none, _, _ => rfl
  | none, some f, h1, h2 => absurd h2.2.2.1 (h1 f h2.1 h2.2.1)
  | some f, none, h1, h2 => absurd h1.2.2.1 (h2 f h1.1 h1.2.1)
  | some f, some g, h1, h2 => by
    have a1 : ¬ f < g := fun q => h2.2.2.2 f h1.1 q h1.2.2.1
    have a2 : ¬ g < f := fun q => h1.2.2.2 g h2.1 q h2.2.2.1
    rw [show f = g by omega]
theorem part_first {b a z : Int} : ∀ {ps : List (Int × Int)} {m : Int}, PartL b a z m ps → FirstU b a z m ((ps.filter (unlB b a z)).head?.map (·.1))
  | [], m, h => by
    have h : m = z := h
    intro i h1 h2
    omega
  | p :: ps, m, h => by
    obtain ⟨h1, h2, h3, h4⟩ := h
    have le := part_le h4
    rw [List.filter_cons]
    by_cases hu : unl b a z m
    · rw [if_pos (unlB_iff.mpr (by rw [h1]; exact hu))]
      show FirstU b a z m (some p.1)
      rw [h1]
      exact ⟨Int.le_refl _, by omega, hu, fun i q1 q2 => by omega⟩
    · rw [if_neg (fun q => hu (by have := unlB_iff.mp q; rwa [h1] at this))]
      have ih := part_first h4
      revert ih
      cases (ps.filter (unlB b a z)).head?.map (·.1) with
      | none =>
        intro ih i q1 q2
        by_cases hi : i < p.2
        · exact fun q => hu ((h3 i q1 hi).mp q)
        · exact ih i (by omega) q2
      | some f =>
        intro ih
        refine ⟨by have := ih.1; omega, ih.2.1, ih.2.2.1, fun i q1 q2 => ?_⟩
        by_cases hi : i < p.2
        · exact fun q => hu ((h3 i q1 hi).mp q)
        · exact ih.2.2.2 i (by omega) q2
theorem cU_comm {b a z : Int} : ∀ k : Nat, cU b a z k = cU a b z k
  | 0 => rfl
  | k + 1 => by
    simp only [cU, cU_comm k]
    congr 1
    by_cases h : (k : Int) * b / z = (k : Int) * a / z
    · rw [if_neg (fun q => q h), if_neg (fun q => q h.symm)]
    · rw [if_pos h, if_pos (fun q => h q.symm)]
/-- mark by mark -/
def ones (m : Int) : Nat → List (Int × Int)
  | 0 => []
  | k + 1 => (m, m + 1) :: ones (m + 1) k
theorem ones_part {b a z : Int} : ∀ (k : Nat) {m : Int}, m + k = z → PartL b a z m (ones m k)
  | 0, m, h => by
    show m = z
    omega
  | k + 1, m, h => ⟨rfl, by omega, fun i q1 q2 => by rw [show i = m by omega], ones_part k (by omega)⟩
theorem ones_eq : ∀ (k : Nat) (m : Int), ones m k = (List.range k).map fun (i : Nat) => (m + (i : Int), m + (i : Int) + 1)
  | 0, m => rfl
  | k + 1, m => by
    rw [List.range_succ_eq_map, List.map_cons, List.map_map, ones, ones_eq k (m + 1)]
    simp only [List.cons.injEq, List.map_inj_left, Function.comp]
    refine ⟨by simp, fun i _ => ?_⟩
    rw [Prod.mk.injEq]
    constructor <;> (push_cast; omega)
/-- neighbours -/
def nb : List Int → List (Int × Int)
  | x :: y :: r => (x, y) :: nb (y :: r)
  | _ => []
theorem nb_eq : ∀ (es : List Int), nb es = (List.range (es.length - 1)).map fun i => (es.getD i 0, es.getD (i + 1) 0)
  | [] => rfl
  | [x] => rfl
  | x :: y :: r => by
    have ih := nb_eq (y :: r)
    simp only [List.length_cons, Nat.add_sub_cancel] at ih ⊢
    rw [nb, ih, List.range_succ_eq_map, List.map_cons, List.map_map]
    rfl
/-- ends of lanes -/
def eL (c z : Int) : List Int := (List.range (c + 1).toNat).map fun (k : Nat) => -((-((k : Int) * z)) / c)
theorem ceil_ge {x c : Int} (c0 : 0 < c) : x ≤ -((-x) / c) * c := by
  have := Int.ediv_mul_le (-x) (show c ≠ 0 by omega)
  rw [Int.neg_mul]
  omega
theorem ceil_le {x c m : Int} (c0 : 0 < c) (h : x ≤ m * c) : -((-x) / c) ≤ m := by
  have h1 : -m ≤ (-x) / c := (Int.le_ediv_iff_mul_le c0).mpr (by rw [Int.neg_mul]; omega)
  omega
theorem eL_floor {c z : Int} {es : List Int} {x y i : Int} (c0 : 0 < c) (z0 : 0 < z) (hsub : ∀ e ∈ eL c z, e ∈ es) (H : ∀ e ∈ es, e ≤ x ∨ y ≤ e) (x0 : 0 ≤ x) (h1 : x ≤ i) (h2 : i < y) (h3 : i < z) : i * c / z = x * c / z := by
  have l0 := lane_ge (b := c) (mark := i) c0 z0 (by omega)
  have l1 := lane_lt (b := c) (mark := i) c0 z0 h3
  have lo := div_lo (b := c) (mark := i) z0
  have cle : -((-(i * c / z * z)) / c) ≤ i := ceil_le c0 lo
  have mem : -((-(i * c / z * z)) / c) ∈ es := hsub _ (List.mem_map.mpr ⟨(i * c / z).toNat, List.mem_range.mpr (by omega), by rw [show (((i * c / z).toNat : Nat) : Int) = i * c / z by omega]⟩)
  have lex : -((-(i * c / z * z)) / c) ≤ x := (H _ mem).resolve_right (by omega)
  have g1 := ceil_ge (x := i * c / z * z) c0
  have g2 : -((-(i * c / z * z)) / c) * c ≤ x * c := Int.mul_le_mul_of_nonneg_right lex (by omega)
  have g3 : i * c / z ≤ x * c / z := (Int.le_ediv_iff_mul_le z0).mpr (by omega)
  have g4 := lane_mono (b := c) c0 z0 h1
  omega
theorem nb_part {b a z : Int} {full : List Int} (b0 : 0 < b) (a0 : 0 < a) (z0 : 0 < z) (hb : ∀ e ∈ eL b z, e ∈ full) (ha : ∀ e ∈ eL a z, e ∈ full) : ∀ (x : Int) (r : List Int), (x :: r).Pairwise (· < ·) → (∀ e ∈ full, e ≤ x ∨ e ∈ r) → (∀ e ∈ x :: r, 0 ≤ e ∧ e ≤ z) → z ∈ x :: r → PartL b a z x (nb (x :: r))
  | x, [], _, _, _, hz => by
    show x = z
    rcases List.mem_cons.mp hz with h | h
    · exact h.symm
    · cases h
  | x, y :: r, hp, hf, hr, hz => by
    obtain ⟨p1, p2⟩ := List.pairwise_cons.mp hp
    obtain ⟨p3, p4⟩ := List.pairwise_cons.mp p2
    have xy := p1 y List.mem_cons_self
    have yz := (hr y (List.mem_cons_of_mem _ List.mem_cons_self)).2
    have H : ∀ e ∈ full, e ≤ x ∨ y ≤ e := fun e he => by
      rcases hf e he with h | h
      · exact .inl h
      · rcases List.mem_cons.mp h with rfl | h
        · exact .inr (Int.le_refl _)
        · exact .inr (Int.le_of_lt (p3 e h))
    refine ⟨rfl, xy, fun i q1 q2 => ?_, nb_part b0 a0 z0 hb ha y r p2 (fun e he => ?_) (fun e he => hr e (List.mem_cons_of_mem _ he)) ?_⟩
    · unfold unl
      have x0 := (hr x List.mem_cons_self).1
      rw [eL_floor b0 z0 hb H x0 q1 q2 (by omega), eL_floor a0 z0 ha H x0 q1 q2 (by omega)]
    · rcases hf e he with h | h
      · exact .inl (by omega)
      · rcases List.mem_cons.mp h with rfl | h
        · exact .inl (Int.le_refl _)
        · exact .inr h
    · rcases List.mem_cons.mp hz with h | h
      · omega
      · exact h
theorem eL_rng {c z e : Int} (c0 : 0 < c) (z0 : 0 < z) (h : e ∈ eL c z) : 0 ≤ e ∧ e ≤ z := by
  obtain ⟨k, hk, rfl⟩ := List.mem_map.mp h
  have hk2 := List.mem_range.mp hk
  constructor
  · have h0 : (0 : Int) ≤ (k : Int) * z := Int.mul_nonneg (by omega) (by omega)
    have h1 : (-((k : Int) * z)) / c ≤ 0 := by
      have := Int.ediv_mul_le (-((k : Int) * z)) (show c ≠ 0 by omega)
      by_cases hq : (-((k : Int) * z)) / c ≤ 0
      · exact hq
      · have h2 : 1 * c ≤ (-((k : Int) * z)) / c * c := Int.mul_le_mul_of_nonneg_right (by omega) (by omega)
        omega
    omega
  · refine ceil_le c0 ?_
    rw [Int.mul_comm z c]
    exact Int.mul_le_mul_of_nonneg_right (by omega) (by omega)
theorem eL_mem {c z : Int} (c0 : 0 < c) : 0 ∈ eL c z ∧ z ∈ eL c z := by
  constructor
  · exact List.mem_map.mpr ⟨0, List.mem_range.mpr (by omega), by simp⟩
  · refine List.mem_map.mpr ⟨c.toNat, List.mem_range.mpr (by omega), ?_⟩
    rw [show ((c.toNat : Nat) : Int) = c by omega, ← Int.mul_neg, Int.mul_ediv_cancel_left _ (by omega), Int.neg_neg]
theorem ends_part {b a z : Int} (b0 : 0 < b) (a0 : 0 < a) (z0 : 0 < z) : PartL b a z 0 (nb (sortU (eL b z ++ eL a z))) := by
  have hm : ∀ {e}, e ∈ sortU (eL b z ++ eL a z) ↔ e ∈ eL b z ∨ e ∈ eL a z := fun {e} => by rw [mem_sortU, List.mem_append]
  have hp := lt_sortU (l := eL b z ++ eL a z)
  have hr : ∀ e ∈ sortU (eL b z ++ eL a z), 0 ≤ e ∧ e ≤ z := fun e he => (hm.mp he).elim (eL_rng b0 z0) (eL_rng a0 z0)
  have h0 : (0 : Int) ∈ sortU (eL b z ++ eL a z) := hm.mpr (.inl (eL_mem b0).1)
  have hz : z ∈ sortU (eL b z ++ eL a z) := hm.mpr (.inl (eL_mem b0).2)
  have hb : ∀ e ∈ eL b z, e ∈ sortU (eL b z ++ eL a z) := fun e he => hm.mpr (.inl he)
  have ha : ∀ e ∈ eL a z, e ∈ sortU (eL b z ++ eL a z) := fun e he => hm.mpr (.inr he)
  generalize sortU (eL b z ++ eL a z) = full at *
  cases full with
  | nil => cases h0
  | cons x r =>
    have x0 : x = 0 := by
      have h1 := (hr x List.mem_cons_self).1
      rcases List.mem_cons.mp h0 with h | h
      · exact h.symm
      · have := (List.pairwise_cons.mp hp).1 0 h
        omega
    subst x0
    exact nb_part b0 a0 z0 hb ha 0 r hp (fun e he => (List.mem_cons.mp he).imp (fun h => Int.le_of_eq h) id) hr hz

theorem stretch_end_eq {n : Nat} {lane count size : Int} (l0 : 0 ≤ lane) (l1 : lane < 10000000000000000000000000000000000000000) (c0 : 0 < count) (c1 : count ≤ 10000000000000000000000000000000000000000) (s0 : 0 ≤ size) (s1 : size ≤ 10000000000000000000000000000000000000000) :
    callF pg (n + 1) F_stretch_end [.fr (.int lane), .fr (.int count), .fr (.int size)] = .ok (.fr (.int (se lane count size))) [] := by
  have m1 : mulOk (lane + 1) size = true := big_mul (by omega) (by omega) s0 s1
  simp -implicitDefEqProofs only [u_stretch_end, f_stretch_end, b_stretch_end, runFn_eq, finF_ite, owIx, List.map_cons, List.map_nil, List.replicate, List.cons_append, List.nil_append, Bool.and_self, Nat.le_refl, Nat.reduceSub, Nat.reduceLeDiff, o_ss, e_ss, finC_okLi, finC_okLb, finC_okLs, finC_okLn, s_trya', pickA_t, pickA_f, e_isX, cn_cur, cmp_ne_b, cmp_eq_b, flmap_nx, flmap_rt, lstR_0, lstR_1, tupR_1, lstR_2, tupR_2, lstR_3, tupR_3, lstR_4, tupR_4, lstR_5, tupR_5, lstR_6, tupR_6, lstR_7, tupR_7, lstR_8, lstR_9, o_met, o_isB, o_rl, metR_some, e_met, pm_lc, pm_tc, pm_li, pm_ti, isBR_b, e_isB, e_rl, t_met, t_isB, raiR_s, s_rais', tryR_nx, tryR_rt, tryR_ex, tryR_ite, s_tryx', hs_nil, hs_cons, pick_nil, pick_cons, pickR_t, pickR_f, noEx_nx, noEx_rt, s_asgs', asgsR_fr, cn_b, cn_s, setN, q_nil, q_cons, sq_nx, sq_rt, sq_bk, sq_ct, sq_ex, sq_ite, bind_ok, bind_ex, bind_ite, fl_ok, fl_ex, fl_ite, map_ok, map_ex, map_ite, opt_some, ite_okB, ite_okV, ite_and, ite_or, ops_some, op1_some, ops2_some, op1F_some, opsF_some, andR_b, orR_b, slt_some, vsl_fr, vsl_ow, mvl_some, vwS_fr, vwS_ow, vw_d, vw_sl, tsO_eq, chn_some, cmpR_some, negR_i, intR_i, biR_some, consO_some, vws_nil, vws_cons, o_bo, o_io, o_k, o_g, o_v, o_mv, o_tup, o_lst, o_bin, o_neg, o_cmp, o_chain, o_isN, o_notN, o_and, o_or, o_not, o_ite, o_idx, o_slc, o_call, o_bi, o_isi, o_lc, o_lci, e_k, e_g, e_v, e_mv, e_tup, e_lst, e_bin, e_neg, e_cmp, e_chain, e_isN, e_notN, e_and, e_or, e_not, e_ite, e_idx, e_slc, e_call, e_bi, e_isi, e_lc, e_lci, p_none, p_some, os_nil, os_cons, vs_nil, vs_cons, t_and, t_or, t_not, t_bo, t_v, t_k, t_bin, t_cmp, t_chain, t_isN, t_notN, t_idx, t_call, t_bi, t_isi, t_lc, t_lci, i_rng1', i_rng2', i_enu', i_zp', i_itr', seq_sl, seqS_fr, seqS_ow, rngR_i, s_asg', s_ex', s_ret', s_retN', s_pass', s_brk', s_cont', s_ife', s_forr', s_sto', s_aug', s_augl', s_mth', s_par', asgR_eq, nxO_some, stoR_eq, stoN_some, hasR_some, ifN_t, augR_add, augR_sub, isOwR_ow, isOwR_fr, mthR_eq, mtO_some, isOwS_eq, cmp_eq_s, cmp_ne_s, cmp_gt, cmp_lt, le_ii, ge_ii, cmp_eq, cmp_ne, List.getElem?_cons_succ, List.getElem?_cons_zero, Option.map_some, Option.bind_some, Bool.not_false, Bool.not_true, Bool.not_not, Bool.or_true, Bool.true_or, Bool.or_false, Bool.false_or, Bool.and_false, Bool.false_and, dsO, idx_l, idx_t, bin_add, bin_sub, slT, slTs, List.contains_nil, List.contains_cons, bindV, bindT, bindTs, List.set_cons_succ, List.set_cons_zero, if_true, if_false, Bool.false_eq_true, List.all_cons, List.all_nil, Bool.and_true, Bool.true_and, decide_true, decide_false, List.length_cons, List.length_nil, Nat.reduceAdd, Nat.reduceLT, callO_eq, calO_some, nodupB, lentIo, lent, slO, List.isEmpty_nil, List.isEmpty_cons, finC_ok0, finC_ex0, finC_okI, finC_exI, finC_exL, finC_ite, allFr, at_i0, at_1, at_2, at_3, at_4, at_5, at_6, at_7, at_8, at_n, Nat.reduceBEq, Bool.or_self, cn_call, cn_G, cn_w, seq_d, isi_int_int, isi_int_bool, isi_int_str, isi_int_tuple, isi_int_list, isi_bool_int, isi_bool_bool, isi_bool_str, isi_bool_tuple, isi_bool_list, isi_str_int, isi_str_bool, isi_str_str, isi_str_tuple, isi_str_list, isi_tuple_int, isi_tuple_bool, isi_tuple_str, isi_tuple_tuple, isi_tuple_list, isi_list_int, isi_list_bool, isi_list_str, isi_list_tuple, isi_list_list, isi_none_int, isi_none_bool, isi_none_str, isi_none_tuple, isi_none_list, tru_b, tru_i, tru_l, tru_t, tru_n, non_n, non_int, non_bool, non_str, non_tuple, non_list, bi_1, bi_2, bi_len_l, bi_len_t, bi_abs, bi_int, bi_intb, bi_max2, bi_min2, bi_tup_l, bi_tup_t, bi_lst_l, bi_lst_t, itm_l, itm_t, isL_l, isL_t, ho_d, hoS_fr, hoS_ow, ho_sl, hoI_ow, ho_io, consV_some, hand_nil, hand_cons, fz_fr, fz_ow, mkTp_eq, mkT_some, fr_n, fr_t, okTp_fr, okTp_ow, outO_ow, outsOf_nil, outsOf_cons, finO_some, finF_nx, finF_rt, finF_ex, bin_mul m1, bin_fdiv (big_div c0 c1), se]
def rowD (p : Int × Int) : D := .tuple [.int p.1, .int p.2]
theorem ms_loop {n0 : Nat} {b a z : Int} (b0 : 0 < b) (b1 : b ≤ 1000) (a0 : 0 < a) (a1 : a ≤ 1000) (z0 : 0 < z) (z1 : z ≤ 10000000000000000000000000000000000000000) : ∀ (n : Nat) (mark : Int) (rows : List (Int × Int)) (x5 x6 x7 : Option Rv), 0 ≤ mark → mark ≤ z → (z - mark).toNat < n → Row b a z mark rows →
    ∃ rows' x5' x6' x7', whLoop (evT (Cn (n0 + 1)) (.cmp .lt (.bo 4) (.bo 2))) (evSs (Cn (n0 + 1)) [] b_moved_stretches_1) n [some (.fr (.int b)), some (.fr (.int a)), some (.fr (.int z)), some (.ow (.lst (rows.map rowD))), some (.fr (.int mark)), x5, x6, x7] =
      .nx [some (.fr (.int b)), some (.fr (.int a)), some (.fr (.int z)), some (.ow (.lst (rows'.map rowD))), some (.fr (.int z)), x5', x6', x7'] ∧ Row b a z z rows'
  | 0, mark, rows, x5, x6, x7, m0, m1, hn, hR => by omega
  | n + 1, mark, rows, x5, x6, x7, m0, m1, hn, hR => by
    by_cases hm : mark < z
    · have hm' : decide (mark < z) = true := by rw [decide_eq_true_eq]; exact hm
      have o0 := lane_ge (mark := mark) b0 z0 m0
      have o1 := lane_lt b0 z0 hm
      have t0 := lane_ge (mark := mark) a0 z0 m0
      have t1 := lane_lt a0 z0 hm
      have g1 := se_gt (mark := mark) b0 z0
      have g2 := se_gt (mark := mark) a0 z0
      have g3 := se_le b0 z0 hm
      have g4 := se_le a0 z0 hm
      have mm1 : mulOk mark b = true := big_mul m0 (by omega) (by omega) (by omega)
      have mm2 : mulOk mark a = true := big_mul m0 (by omega) (by omega) (by omega)
      have s1 := stretch_end_eq (n := n0) (lane := mark * b / z) (count := b) (size := z) o0 (by omega) b0 (by omega) (by omega) z1
      have s2 := stretch_end_eq (n := n0) (lane := mark * a / z) (count := a) (size := z) t0 (by omega) a0 (by omega) (by omega) z1
      have st := row_step b0 a0 z0 m0 _ rfl hR
      have hlen : (rows.map rowD).length < sizeLine := by
        rw [sl24, List.length_map]
        have := hR.1
        omega
      by_cases hu : mark * b / z = mark * a / z
      · rw [if_neg (fun q => q hu)] at st
        have hu' : (mark * b / z == mark * a / z) = true := by rw [beq_iff_eq]; exact hu
        obtain ⟨rows', x5', x6', x7', e, hR'⟩ := ms_loop (n0 := n0) b0 b1 a0 a1 z0 z1 n _ rows (some (.fr (.int (mark * b / z)))) (some (.fr (.int (mark * a / z)))) (some (.fr (.int (min (se (mark * b / z) b z) (se (mark * a / z) a z))))) (by omega) (by omega) (by omega) st
        refine ⟨rows', x5', x6', x7', (whLoop_t (r1 := [some (.fr (.int b)), some (.fr (.int a)), some (.fr (.int z)), some (.ow (.lst (rows.map rowD))), some (.fr (.int mark)), x5, x6, x7]) ?_ ?_).trans e, hR'⟩
        · simp -implicitDefEqProofs only [o_ss, e_ss, finC_okLi, finC_okLb, finC_okLs, finC_okLn, s_trya', pickA_t, pickA_f, e_isX, cn_cur, cmp_ne_b, cmp_eq_b, flmap_nx, flmap_rt, lstR_0, lstR_1, tupR_1, lstR_2, tupR_2, lstR_3, tupR_3, lstR_4, tupR_4, lstR_5, tupR_5, lstR_6, tupR_6, lstR_7, tupR_7, lstR_8, lstR_9, o_met, o_isB, o_rl, metR_some, e_met, pm_lc, pm_tc, pm_li, pm_ti, isBR_b, e_isB, e_rl, t_met, t_isB, raiR_s, s_rais', tryR_nx, tryR_rt, tryR_ex, tryR_ite, s_tryx', hs_nil, hs_cons, pick_nil, pick_cons, pickR_t, pickR_f, noEx_nx, noEx_rt, s_asgs', asgsR_fr, cn_b, cn_s, setN, q_nil, q_cons, sq_nx, sq_rt, sq_bk, sq_ct, sq_ex, sq_ite, bind_ok, bind_ex, bind_ite, fl_ok, fl_ex, fl_ite, map_ok, map_ex, map_ite, opt_some, ite_okB, ite_okV, ite_and, ite_or, ops_some, op1_some, ops2_some, op1F_some, opsF_some, andR_b, orR_b, slt_some, vsl_fr, vsl_ow, mvl_some, vwS_fr, vwS_ow, vw_d, vw_sl, tsO_eq, chn_some, cmpR_some, negR_i, intR_i, biR_some, consO_some, vws_nil, vws_cons, o_bo, o_io, o_k, o_g, o_v, o_mv, o_tup, o_lst, o_bin, o_neg, o_cmp, o_chain, o_isN, o_notN, o_and, o_or, o_not, o_ite, o_idx, o_slc, o_call, o_bi, o_isi, o_lc, o_lci, e_k, e_g, e_v, e_mv, e_tup, e_lst, e_bin, e_neg, e_cmp, e_chain, e_isN, e_notN, e_and, e_or, e_not, e_ite, e_idx, e_slc, e_call, e_bi, e_isi, e_lc, e_lci, p_none, p_some, os_nil, os_cons, vs_nil, vs_cons, t_and, t_or, t_not, t_bo, t_v, t_k, t_bin, t_cmp, t_chain, t_isN, t_notN, t_idx, t_call, t_bi, t_isi, t_lc, t_lci, i_rng1', i_rng2', i_enu', i_zp', i_itr', seq_sl, seqS_fr, seqS_ow, rngR_i, s_asg', s_ex', s_ret', s_retN', s_pass', s_brk', s_cont', s_ife', s_forr', s_sto', s_aug', s_augl', s_mth', s_par', asgR_eq, nxO_some, stoR_eq, stoN_some, hasR_some, ifN_t, augR_add, augR_sub, isOwR_ow, isOwR_fr, mthR_eq, mtO_some, isOwS_eq, cmp_eq_s, cmp_ne_s, cmp_gt, cmp_lt, le_ii, ge_ii, cmp_eq, cmp_ne, List.getElem?_cons_succ, List.getElem?_cons_zero, Option.map_some, Option.bind_some, Bool.not_false, Bool.not_true, Bool.not_not, Bool.or_true, Bool.true_or, Bool.or_false, Bool.false_or, Bool.and_false, Bool.false_and, dsO, idx_l, idx_t, bin_add, bin_sub, slT, slTs, List.contains_nil, List.contains_cons, bindV, bindT, bindTs, List.set_cons_succ, List.set_cons_zero, if_true, if_false, Bool.false_eq_true, List.all_cons, List.all_nil, Bool.and_true, Bool.true_and, decide_true, decide_false, List.length_cons, List.length_nil, Nat.reduceAdd, Nat.reduceLT, callO_eq, calO_some, nodupB, lentIo, lent, slO, List.isEmpty_nil, List.isEmpty_cons, finC_ok0, finC_ex0, finC_okI, finC_exI, finC_exL, finC_ite, allFr, at_i0, at_1, at_2, at_3, at_4, at_5, at_6, at_7, at_8, at_n, Nat.reduceBEq, Bool.or_self, cn_call, cn_G, cn_w, seq_d, isi_int_int, isi_int_bool, isi_int_str, isi_int_tuple, isi_int_list, isi_bool_int, isi_bool_bool, isi_bool_str, isi_bool_tuple, isi_bool_list, isi_str_int, isi_str_bool, isi_str_str, isi_str_tuple, isi_str_list, isi_tuple_int, isi_tuple_bool, isi_tuple_str, isi_tuple_tuple, isi_tuple_list, isi_list_int, isi_list_bool, isi_list_str, isi_list_tuple, isi_list_list, isi_none_int, isi_none_bool, isi_none_str, isi_none_tuple, isi_none_list, tru_b, tru_i, tru_l, tru_t, tru_n, non_n, non_int, non_bool, non_str, non_tuple, non_list, bi_1, bi_2, bi_len_l, bi_len_t, bi_abs, bi_int, bi_intb, bi_max2, bi_min2, bi_tup_l, bi_tup_t, bi_lst_l, bi_lst_t, itm_l, itm_t, isL_l, isL_t, ho_d, hoS_fr, hoS_ow, ho_sl, hoI_ow, ho_io, consV_some, hand_nil, hand_cons, fz_fr, fz_ow, mkTp_eq, mkT_some, fr_n, fr_t, okTp_fr, okTp_ow, outO_ow, outsOf_nil, outsOf_cons, finO_some, finF_nx, finF_rt, finF_ex, hm']
        · simp -implicitDefEqProofs only [o_ss, e_ss, finC_okLi, finC_okLb, finC_okLs, finC_okLn, s_trya', pickA_t, pickA_f, e_isX, cn_cur, cmp_ne_b, cmp_eq_b, flmap_nx, flmap_rt, lstR_0, lstR_1, tupR_1, lstR_2, tupR_2, lstR_3, tupR_3, lstR_4, tupR_4, lstR_5, tupR_5, lstR_6, tupR_6, lstR_7, tupR_7, lstR_8, lstR_9, o_met, o_isB, o_rl, metR_some, e_met, pm_lc, pm_tc, pm_li, pm_ti, isBR_b, e_isB, e_rl, t_met, t_isB, raiR_s, s_rais', tryR_nx, tryR_rt, tryR_ex, tryR_ite, s_tryx', hs_nil, hs_cons, pick_nil, pick_cons, pickR_t, pickR_f, noEx_nx, noEx_rt, s_asgs', asgsR_fr, cn_b, cn_s, setN, q_nil, q_cons, sq_nx, sq_rt, sq_bk, sq_ct, sq_ex, sq_ite, bind_ok, bind_ex, bind_ite, fl_ok, fl_ex, fl_ite, map_ok, map_ex, map_ite, opt_some, ite_okB, ite_okV, ite_and, ite_or, ops_some, op1_some, ops2_some, op1F_some, opsF_some, andR_b, orR_b, slt_some, vsl_fr, vsl_ow, mvl_some, vwS_fr, vwS_ow, vw_d, vw_sl, tsO_eq, chn_some, cmpR_some, negR_i, intR_i, biR_some, consO_some, vws_nil, vws_cons, o_bo, o_io, o_k, o_g, o_v, o_mv, o_tup, o_lst, o_bin, o_neg, o_cmp, o_chain, o_isN, o_notN, o_and, o_or, o_not, o_ite, o_idx, o_slc, o_call, o_bi, o_isi, o_lc, o_lci, e_k, e_g, e_v, e_mv, e_tup, e_lst, e_bin, e_neg, e_cmp, e_chain, e_isN, e_notN, e_and, e_or, e_not, e_ite, e_idx, e_slc, e_call, e_bi, e_isi, e_lc, e_lci, p_none, p_some, os_nil, os_cons, vs_nil, vs_cons, t_and, t_or, t_not, t_bo, t_v, t_k, t_bin, t_cmp, t_chain, t_isN, t_notN, t_idx, t_call, t_bi, t_isi, t_lc, t_lci, i_rng1', i_rng2', i_enu', i_zp', i_itr', seq_sl, seqS_fr, seqS_ow, rngR_i, s_asg', s_ex', s_ret', s_retN', s_pass', s_brk', s_cont', s_ife', s_forr', s_sto', s_aug', s_augl', s_mth', s_par', asgR_eq, nxO_some, stoR_eq, stoN_some, hasR_some, ifN_t, augR_add, augR_sub, isOwR_ow, isOwR_fr, mthR_eq, mtO_some, isOwS_eq, cmp_eq_s, cmp_ne_s, cmp_gt, cmp_lt, le_ii, ge_ii, cmp_eq, cmp_ne, List.getElem?_cons_succ, List.getElem?_cons_zero, Option.map_some, Option.bind_some, Bool.not_false, Bool.not_true, Bool.not_not, Bool.or_true, Bool.true_or, Bool.or_false, Bool.false_or, Bool.and_false, Bool.false_and, dsO, idx_l, idx_t, bin_add, bin_sub, slT, slTs, List.contains_nil, List.contains_cons, bindV, bindT, bindTs, List.set_cons_succ, List.set_cons_zero, if_true, if_false, Bool.false_eq_true, List.all_cons, List.all_nil, Bool.and_true, Bool.true_and, decide_true, decide_false, List.length_cons, List.length_nil, Nat.reduceAdd, Nat.reduceLT, callO_eq, calO_some, nodupB, lentIo, lent, slO, List.isEmpty_nil, List.isEmpty_cons, finC_ok0, finC_ex0, finC_okI, finC_exI, finC_exL, finC_ite, allFr, at_i0, at_1, at_2, at_3, at_4, at_5, at_6, at_7, at_8, at_n, Nat.reduceBEq, Bool.or_self, cn_call, cn_G, cn_w, seq_d, isi_int_int, isi_int_bool, isi_int_str, isi_int_tuple, isi_int_list, isi_bool_int, isi_bool_bool, isi_bool_str, isi_bool_tuple, isi_bool_list, isi_str_int, isi_str_bool, isi_str_str, isi_str_tuple, isi_str_list, isi_tuple_int, isi_tuple_bool, isi_tuple_str, isi_tuple_tuple, isi_tuple_list, isi_list_int, isi_list_bool, isi_list_str, isi_list_tuple, isi_list_list, isi_none_int, isi_none_bool, isi_none_str, isi_none_tuple, isi_none_list, tru_b, tru_i, tru_l, tru_t, tru_n, non_n, non_int, non_bool, non_str, non_tuple, non_list, bi_1, bi_2, bi_len_l, bi_len_t, bi_abs, bi_int, bi_intb, bi_max2, bi_min2, bi_tup_l, bi_tup_t, bi_lst_l, bi_lst_t, itm_l, itm_t, isL_l, isL_t, ho_d, hoS_fr, hoS_ow, ho_sl, hoI_ow, ho_io, consV_some, hand_nil, hand_cons, fz_fr, fz_ow, mkTp_eq, mkT_some, fr_n, fr_t, okTp_fr, okTp_ow, outO_ow, outsOf_nil, outsOf_cons, finO_some, finF_nx, finF_rt, finF_ex, b_moved_stretches_1, bin_mul mm1, bin_mul mm2, bin_fdiv (big_div z0 z1), s1, s2, hu']
      · rw [if_pos hu] at st
        have hu' : (mark * b / z == mark * a / z) = false := by rw [beq_eq_false_iff_ne]; exact hu
        obtain ⟨rows', x5', x6', x7', e, hR'⟩ := ms_loop (n0 := n0) b0 b1 a0 a1 z0 z1 n _ (rows ++ [(mark, min (se (mark * b / z) b z) (se (mark * a / z) a z))]) (some (.fr (.int (mark * b / z)))) (some (.fr (.int (mark * a / z)))) (some (.fr (.int (min (se (mark * b / z) b z) (se (mark * a / z) a z))))) (by omega) (by omega) (by omega) st
        refine ⟨rows', x5', x6', x7', (whLoop_t (r1 := [some (.fr (.int b)), some (.fr (.int a)), some (.fr (.int z)), some (.ow (.lst (rows.map rowD))), some (.fr (.int mark)), x5, x6, x7]) ?_ ?_).trans e, hR'⟩
        · simp -implicitDefEqProofs only [o_ss, e_ss, finC_okLi, finC_okLb, finC_okLs, finC_okLn, s_trya', pickA_t, pickA_f, e_isX, cn_cur, cmp_ne_b, cmp_eq_b, flmap_nx, flmap_rt, lstR_0, lstR_1, tupR_1, lstR_2, tupR_2, lstR_3, tupR_3, lstR_4, tupR_4, lstR_5, tupR_5, lstR_6, tupR_6, lstR_7, tupR_7, lstR_8, lstR_9, o_met, o_isB, o_rl, metR_some, e_met, pm_lc, pm_tc, pm_li, pm_ti, isBR_b, e_isB, e_rl, t_met, t_isB, raiR_s, s_rais', tryR_nx, tryR_rt, tryR_ex, tryR_ite, s_tryx', hs_nil, hs_cons, pick_nil, pick_cons, pickR_t, pickR_f, noEx_nx, noEx_rt, s_asgs', asgsR_fr, cn_b, cn_s, setN, q_nil, q_cons, sq_nx, sq_rt, sq_bk, sq_ct, sq_ex, sq_ite, bind_ok, bind_ex, bind_ite, fl_ok, fl_ex, fl_ite, map_ok, map_ex, map_ite, opt_some, ite_okB, ite_okV, ite_and, ite_or, ops_some, op1_some, ops2_some, op1F_some, opsF_some, andR_b, orR_b, slt_some, vsl_fr, vsl_ow, mvl_some, vwS_fr, vwS_ow, vw_d, vw_sl, tsO_eq, chn_some, cmpR_some, negR_i, intR_i, biR_some, consO_some, vws_nil, vws_cons, o_bo, o_io, o_k, o_g, o_v, o_mv, o_tup, o_lst, o_bin, o_neg, o_cmp, o_chain, o_isN, o_notN, o_and, o_or, o_not, o_ite, o_idx, o_slc, o_call, o_bi, o_isi, o_lc, o_lci, e_k, e_g, e_v, e_mv, e_tup, e_lst, e_bin, e_neg, e_cmp, e_chain, e_isN, e_notN, e_and, e_or, e_not, e_ite, e_idx, e_slc, e_call, e_bi, e_isi, e_lc, e_lci, p_none, p_some, os_nil, os_cons, vs_nil, vs_cons, t_and, t_or, t_not, t_bo, t_v, t_k, t_bin, t_cmp, t_chain, t_isN, t_notN, t_idx, t_call, t_bi, t_isi, t_lc, t_lci, i_rng1', i_rng2', i_enu', i_zp', i_itr', seq_sl, seqS_fr, seqS_ow, rngR_i, s_asg', s_ex', s_ret', s_retN', s_pass', s_brk', s_cont', s_ife', s_forr', s_sto', s_aug', s_augl', s_mth', s_par', asgR_eq, nxO_some, stoR_eq, stoN_some, hasR_some, ifN_t, augR_add, augR_sub, isOwR_ow, isOwR_fr, mthR_eq, mtO_some, isOwS_eq, cmp_eq_s, cmp_ne_s, cmp_gt, cmp_lt, le_ii, ge_ii, cmp_eq, cmp_ne, List.getElem?_cons_succ, List.getElem?_cons_zero, Option.map_some, Option.bind_some, Bool.not_false, Bool.not_true, Bool.not_not, Bool.or_true, Bool.true_or, Bool.or_false, Bool.false_or, Bool.and_false, Bool.false_and, dsO, idx_l, idx_t, bin_add, bin_sub, slT, slTs, List.contains_nil, List.contains_cons, bindV, bindT, bindTs, List.set_cons_succ, List.set_cons_zero, if_true, if_false, Bool.false_eq_true, List.all_cons, List.all_nil, Bool.and_true, Bool.true_and, decide_true, decide_false, List.length_cons, List.length_nil, Nat.reduceAdd, Nat.reduceLT, callO_eq, calO_some, nodupB, lentIo, lent, slO, List.isEmpty_nil, List.isEmpty_cons, finC_ok0, finC_ex0, finC_okI, finC_exI, finC_exL, finC_ite, allFr, at_i0, at_1, at_2, at_3, at_4, at_5, at_6, at_7, at_8, at_n, Nat.reduceBEq, Bool.or_self, cn_call, cn_G, cn_w, seq_d, isi_int_int, isi_int_bool, isi_int_str, isi_int_tuple, isi_int_list, isi_bool_int, isi_bool_bool, isi_bool_str, isi_bool_tuple, isi_bool_list, isi_str_int, isi_str_bool, isi_str_str, isi_str_tuple, isi_str_list, isi_tuple_int, isi_tuple_bool, isi_tuple_str, isi_tuple_tuple, isi_tuple_list, isi_list_int, isi_list_bool, isi_list_str, isi_list_tuple, isi_list_list, isi_none_int, isi_none_bool, isi_none_str, isi_none_tuple, isi_none_list, tru_b, tru_i, tru_l, tru_t, tru_n, non_n, non_int, non_bool, non_str, non_tuple, non_list, bi_1, bi_2, bi_len_l, bi_len_t, bi_abs, bi_int, bi_intb, bi_max2, bi_min2, bi_tup_l, bi_tup_t, bi_lst_l, bi_lst_t, itm_l, itm_t, isL_l, isL_t, ho_d, hoS_fr, hoS_ow, ho_sl, hoI_ow, ho_io, consV_some, hand_nil, hand_cons, fz_fr, fz_ow, mkTp_eq, mkT_some, fr_n, fr_t, okTp_fr, okTp_ow, outO_ow, outsOf_nil, outsOf_cons, finO_some, finF_nx, finF_rt, finF_ex, hm']
        · simp -implicitDefEqProofs only [o_ss, e_ss, finC_okLi, finC_okLb, finC_okLs, finC_okLn, s_trya', pickA_t, pickA_f, e_isX, cn_cur, cmp_ne_b, cmp_eq_b, flmap_nx, flmap_rt, lstR_0, lstR_1, tupR_1, lstR_2, tupR_2, lstR_3, tupR_3, lstR_4, tupR_4, lstR_5, tupR_5, lstR_6, tupR_6, lstR_7, tupR_7, lstR_8, lstR_9, o_met, o_isB, o_rl, metR_some, e_met, pm_lc, pm_tc, pm_li, pm_ti, isBR_b, e_isB, e_rl, t_met, t_isB, raiR_s, s_rais', tryR_nx, tryR_rt, tryR_ex, tryR_ite, s_tryx', hs_nil, hs_cons, pick_nil, pick_cons, pickR_t, pickR_f, noEx_nx, noEx_rt, s_asgs', asgsR_fr, cn_b, cn_s, setN, q_nil, q_cons, sq_nx, sq_rt, sq_bk, sq_ct, sq_ex, sq_ite, bind_ok, bind_ex, bind_ite, fl_ok, fl_ex, fl_ite, map_ok, map_ex, map_ite, opt_some, ite_okB, ite_okV, ite_and, ite_or, ops_some, op1_some, ops2_some, op1F_some, opsF_some, andR_b, orR_b, slt_some, vsl_fr, vsl_ow, mvl_some, vwS_fr, vwS_ow, vw_d, vw_sl, tsO_eq, chn_some, cmpR_some, negR_i, intR_i, biR_some, consO_some, vws_nil, vws_cons, o_bo, o_io, o_k, o_g, o_v, o_mv, o_tup, o_lst, o_bin, o_neg, o_cmp, o_chain, o_isN, o_notN, o_and, o_or, o_not, o_ite, o_idx, o_slc, o_call, o_bi, o_isi, o_lc, o_lci, e_k, e_g, e_v, e_mv, e_tup, e_lst, e_bin, e_neg, e_cmp, e_chain, e_isN, e_notN, e_and, e_or, e_not, e_ite, e_idx, e_slc, e_call, e_bi, e_isi, e_lc, e_lci, p_none, p_some, os_nil, os_cons, vs_nil, vs_cons, t_and, t_or, t_not, t_bo, t_v, t_k, t_bin, t_cmp, t_chain, t_isN, t_notN, t_idx, t_call, t_bi, t_isi, t_lc, t_lci, i_rng1', i_rng2', i_enu', i_zp', i_itr', seq_sl, seqS_fr, seqS_ow, rngR_i, s_asg', s_ex', s_ret', s_retN', s_pass', s_brk', s_cont', s_ife', s_forr', s_sto', s_aug', s_augl', s_mth', s_par', asgR_eq, nxO_some, stoR_eq, stoN_some, hasR_some, ifN_t, augR_add, augR_sub, isOwR_ow, isOwR_fr, mthR_eq, mtO_some, isOwS_eq, cmp_eq_s, cmp_ne_s, cmp_gt, cmp_lt, le_ii, ge_ii, cmp_eq, cmp_ne, List.getElem?_cons_succ, List.getElem?_cons_zero, Option.map_some, Option.bind_some, Bool.not_false, Bool.not_true, Bool.not_not, Bool.or_true, Bool.true_or, Bool.or_false, Bool.false_or, Bool.and_false, Bool.false_and, dsO, idx_l, idx_t, bin_add, bin_sub, slT, slTs, List.contains_nil, List.contains_cons, bindV, bindT, bindTs, List.set_cons_succ, List.set_cons_zero, if_true, if_false, Bool.false_eq_true, List.all_cons, List.all_nil, Bool.and_true, Bool.true_and, decide_true, decide_false, List.length_cons, List.length_nil, Nat.reduceAdd, Nat.reduceLT, callO_eq, calO_some, nodupB, lentIo, lent, slO, List.isEmpty_nil, List.isEmpty_cons, finC_ok0, finC_ex0, finC_okI, finC_exI, finC_exL, finC_ite, allFr, at_i0, at_1, at_2, at_3, at_4, at_5, at_6, at_7, at_8, at_n, Nat.reduceBEq, Bool.or_self, cn_call, cn_G, cn_w, seq_d, isi_int_int, isi_int_bool, isi_int_str, isi_int_tuple, isi_int_list, isi_bool_int, isi_bool_bool, isi_bool_str, isi_bool_tuple, isi_bool_list, isi_str_int, isi_str_bool, isi_str_str, isi_str_tuple, isi_str_list, isi_tuple_int, isi_tuple_bool, isi_tuple_str, isi_tuple_tuple, isi_tuple_list, isi_list_int, isi_list_bool, isi_list_str, isi_list_tuple, isi_list_list, isi_none_int, isi_none_bool, isi_none_str, isi_none_tuple, isi_none_list, tru_b, tru_i, tru_l, tru_t, tru_n, non_n, non_int, non_bool, non_str, non_tuple, non_list, bi_1, bi_2, bi_len_l, bi_len_t, bi_abs, bi_int, bi_intb, bi_max2, bi_min2, bi_tup_l, bi_tup_t, bi_lst_l, bi_lst_t, itm_l, itm_t, isL_l, isL_t, ho_d, hoS_fr, hoS_ow, ho_sl, hoI_ow, ho_io, consV_some, hand_nil, hand_cons, fz_fr, fz_ow, mkTp_eq, mkT_some, fr_n, fr_t, okTp_fr, okTp_ow, outO_ow, outsOf_nil, outsOf_cons, finO_some, finF_nx, finF_rt, finF_ex, b_moved_stretches_1, bin_mul mm1, bin_mul mm2, bin_fdiv (big_div z0 z1), s1, s2, hu', mt_app hlen, List.map_append, List.map_cons, List.map_nil, rowD]
    · have e : mark = z := by omega
      subst e
      refine ⟨rows, x5, x6, x7, whLoop_f ?_, hR⟩
      have hm' : decide (mark < mark) = false := by rw [decide_eq_false_iff_not]; exact hm
      simp -implicitDefEqProofs only [o_ss, e_ss, finC_okLi, finC_okLb, finC_okLs, finC_okLn, s_trya', pickA_t, pickA_f, e_isX, cn_cur, cmp_ne_b, cmp_eq_b, flmap_nx, flmap_rt, lstR_0, lstR_1, tupR_1, lstR_2, tupR_2, lstR_3, tupR_3, lstR_4, tupR_4, lstR_5, tupR_5, lstR_6, tupR_6, lstR_7, tupR_7, lstR_8, lstR_9, o_met, o_isB, o_rl, metR_some, e_met, pm_lc, pm_tc, pm_li, pm_ti, isBR_b, e_isB, e_rl, t_met, t_isB, raiR_s, s_rais', tryR_nx, tryR_rt, tryR_ex, tryR_ite, s_tryx', hs_nil, hs_cons, pick_nil, pick_cons, pickR_t, pickR_f, noEx_nx, noEx_rt, s_asgs', asgsR_fr, cn_b, cn_s, setN, q_nil, q_cons, sq_nx, sq_rt, sq_bk, sq_ct, sq_ex, sq_ite, bind_ok, bind_ex, bind_ite, fl_ok, fl_ex, fl_ite, map_ok, map_ex, map_ite, opt_some, ite_okB, ite_okV, ite_and, ite_or, ops_some, op1_some, ops2_some, op1F_some, opsF_some, andR_b, orR_b, slt_some, vsl_fr, vsl_ow, mvl_some, vwS_fr, vwS_ow, vw_d, vw_sl, tsO_eq, chn_some, cmpR_some, negR_i, intR_i, biR_some, consO_some, vws_nil, vws_cons, o_bo, o_io, o_k, o_g, o_v, o_mv, o_tup, o_lst, o_bin, o_neg, o_cmp, o_chain, o_isN, o_notN, o_and, o_or, o_not, o_ite, o_idx, o_slc, o_call, o_bi, o_isi, o_lc, o_lci, e_k, e_g, e_v, e_mv, e_tup, e_lst, e_bin, e_neg, e_cmp, e_chain, e_isN, e_notN, e_and, e_or, e_not, e_ite, e_idx, e_slc, e_call, e_bi, e_isi, e_lc, e_lci, p_none, p_some, os_nil, os_cons, vs_nil, vs_cons, t_and, t_or, t_not, t_bo, t_v, t_k, t_bin, t_cmp, t_chain, t_isN, t_notN, t_idx, t_call, t_bi, t_isi, t_lc, t_lci, i_rng1', i_rng2', i_enu', i_zp', i_itr', seq_sl, seqS_fr, seqS_ow, rngR_i, s_asg', s_ex', s_ret', s_retN', s_pass', s_brk', s_cont', s_ife', s_forr', s_sto', s_aug', s_augl', s_mth', s_par', asgR_eq, nxO_some, stoR_eq, stoN_some, hasR_some, ifN_t, augR_add, augR_sub, isOwR_ow, isOwR_fr, mthR_eq, mtO_some, isOwS_eq, cmp_eq_s, cmp_ne_s, cmp_gt, cmp_lt, le_ii, ge_ii, cmp_eq, cmp_ne, List.getElem?_cons_succ, List.getElem?_cons_zero, Option.map_some, Option.bind_some, Bool.not_false, Bool.not_true, Bool.not_not, Bool.or_true, Bool.true_or, Bool.or_false, Bool.false_or, Bool.and_false, Bool.false_and, dsO, idx_l, idx_t, bin_add, bin_sub, slT, slTs, List.contains_nil, List.contains_cons, bindV, bindT, bindTs, List.set_cons_succ, List.set_cons_zero, if_true, if_false, Bool.false_eq_true, List.all_cons, List.all_nil, Bool.and_true, Bool.true_and, decide_true, decide_false, List.length_cons, List.length_nil, Nat.reduceAdd, Nat.reduceLT, callO_eq, calO_some, nodupB, lentIo, lent, slO, List.isEmpty_nil, List.isEmpty_cons, finC_ok0, finC_ex0, finC_okI, finC_exI, finC_exL, finC_ite, allFr, at_i0, at_1, at_2, at_3, at_4, at_5, at_6, at_7, at_8, at_n, Nat.reduceBEq, Bool.or_self, cn_call, cn_G, cn_w, seq_d, isi_int_int, isi_int_bool, isi_int_str, isi_int_tuple, isi_int_list, isi_bool_int, isi_bool_bool, isi_bool_str, isi_bool_tuple, isi_bool_list, isi_str_int, isi_str_bool, isi_str_str, isi_str_tuple, isi_str_list, isi_tuple_int, isi_tuple_bool, isi_tuple_str, isi_tuple_tuple, isi_tuple_list, isi_list_int, isi_list_bool, isi_list_str, isi_list_tuple, isi_list_list, isi_none_int, isi_none_bool, isi_none_str, isi_none_tuple, isi_none_list, tru_b, tru_i, tru_l, tru_t, tru_n, non_n, non_int, non_bool, non_str, non_tuple, non_list, bi_1, bi_2, bi_len_l, bi_len_t, bi_abs, bi_int, bi_intb, bi_max2, bi_min2, bi_tup_l, bi_tup_t, bi_lst_l, bi_lst_t, itm_l, itm_t, isL_l, isL_t, ho_d, hoS_fr, hoS_ow, ho_sl, hoI_ow, ho_io, consV_some, hand_nil, hand_cons, fz_fr, fz_ow, mkTp_eq, mkT_some, fr_n, fr_t, okTp_fr, okTp_ow, outO_ow, outsOf_nil, outsOf_cons, finO_some, finF_nx, finF_rt, finF_ex, hm']
theorem moved_stretches_eq {n : Nat} {b a z : Int} (b0 : 0 < b) (b1 : b ≤ 1000) (a0 : 0 < a) (a1 : a ≤ 1000) (z0 : 0 < z) (z1 : z ≤ 10000000000000000000000000000000000000000) : ∃ rows : List (Int × Int), Row b a z z rows ∧ callF pg (n + 2) F_moved_stretches [.fr (.int b), .fr (.int a), .fr (.int z)] = .ok (.ow (.lst (rows.map rowD))) [] := by
  obtain ⟨rows, x5, x6, x7, e, hR⟩ := ms_loop (n0 := n) b0 b1 a0 a1 z0 z1 pg.w 0 [] none none none (Int.le_refl _) (by omega) (by rw [pgw]; omega) ⟨by simp, rfl, fun m k1 k2 => by omega⟩
  refine ⟨rows, hR, ?_⟩
  have h0 : ([] : List PyData).length ≤ 1000 := by simp
  simp only [List.map_nil] at e
  simp -implicitDefEqProofs only [u_moved_stretches, f_moved_stretches, b_moved_stretches, runFn_eq, finF_ite, owIx, List.map_cons, List.map_nil, List.replicate, List.cons_append, List.nil_append, Bool.and_self, Nat.le_refl, Nat.reduceSub, Nat.reduceLeDiff, o_ss, e_ss, finC_okLi, finC_okLb, finC_okLs, finC_okLn, s_trya', pickA_t, pickA_f, e_isX, cn_cur, cmp_ne_b, cmp_eq_b, flmap_nx, flmap_rt, lstR_0, lstR_1, tupR_1, lstR_2, tupR_2, lstR_3, tupR_3, lstR_4, tupR_4, lstR_5, tupR_5, lstR_6, tupR_6, lstR_7, tupR_7, lstR_8, lstR_9, o_met, o_isB, o_rl, metR_some, e_met, pm_lc, pm_tc, pm_li, pm_ti, isBR_b, e_isB, e_rl, t_met, t_isB, raiR_s, s_rais', tryR_nx, tryR_rt, tryR_ex, tryR_ite, s_tryx', hs_nil, hs_cons, pick_nil, pick_cons, pickR_t, pickR_f, noEx_nx, noEx_rt, s_asgs', asgsR_fr, cn_b, cn_s, setN, q_nil, q_cons, sq_nx, sq_rt, sq_bk, sq_ct, sq_ex, sq_ite, bind_ok, bind_ex, bind_ite, fl_ok, fl_ex, fl_ite, map_ok, map_ex, map_ite, opt_some, ite_okB, ite_okV, ite_and, ite_or, ops_some, op1_some, ops2_some, op1F_some, opsF_some, andR_b, orR_b, slt_some, vsl_fr, vsl_ow, mvl_some, vwS_fr, vwS_ow, vw_d, vw_sl, tsO_eq, chn_some, cmpR_some, negR_i, intR_i, biR_some, consO_some, vws_nil, vws_cons, o_bo, o_io, o_k, o_g, o_v, o_mv, o_tup, o_lst, o_bin, o_neg, o_cmp, o_chain, o_isN, o_notN, o_and, o_or, o_not, o_ite, o_idx, o_slc, o_call, o_bi, o_isi, o_lc, o_lci, e_k, e_g, e_v, e_mv, e_tup, e_lst, e_bin, e_neg, e_cmp, e_chain, e_isN, e_notN, e_and, e_or, e_not, e_ite, e_idx, e_slc, e_call, e_bi, e_isi, e_lc, e_lci, p_none, p_some, os_nil, os_cons, vs_nil, vs_cons, t_and, t_or, t_not, t_bo, t_v, t_k, t_bin, t_cmp, t_chain, t_isN, t_notN, t_idx, t_call, t_bi, t_isi, t_lc, t_lci, i_rng1', i_rng2', i_enu', i_zp', i_itr', seq_sl, seqS_fr, seqS_ow, rngR_i, s_asg', s_ex', s_ret', s_retN', s_pass', s_brk', s_cont', s_ife', s_forr', s_sto', s_aug', s_augl', s_mth', s_par', asgR_eq, nxO_some, stoR_eq, stoN_some, hasR_some, ifN_t, augR_add, augR_sub, isOwR_ow, isOwR_fr, mthR_eq, mtO_some, isOwS_eq, cmp_eq_s, cmp_ne_s, cmp_gt, cmp_lt, le_ii, ge_ii, cmp_eq, cmp_ne, List.getElem?_cons_succ, List.getElem?_cons_zero, Option.map_some, Option.bind_some, Bool.not_false, Bool.not_true, Bool.not_not, Bool.or_true, Bool.true_or, Bool.or_false, Bool.false_or, Bool.and_false, Bool.false_and, dsO, idx_l, idx_t, bin_add, bin_sub, slT, slTs, List.contains_nil, List.contains_cons, bindV, bindT, bindTs, List.set_cons_succ, List.set_cons_zero, if_true, if_false, Bool.false_eq_true, List.all_cons, List.all_nil, Bool.and_true, Bool.true_and, decide_true, decide_false, List.length_cons, List.length_nil, Nat.reduceAdd, Nat.reduceLT, callO_eq, calO_some, nodupB, lentIo, lent, slO, List.isEmpty_nil, List.isEmpty_cons, finC_ok0, finC_ex0, finC_okI, finC_exI, finC_exL, finC_ite, allFr, at_i0, at_1, at_2, at_3, at_4, at_5, at_6, at_7, at_8, at_n, Nat.reduceBEq, Bool.or_self, cn_call, cn_G, cn_w, seq_d, isi_int_int, isi_int_bool, isi_int_str, isi_int_tuple, isi_int_list, isi_bool_int, isi_bool_bool, isi_bool_str, isi_bool_tuple, isi_bool_list, isi_str_int, isi_str_bool, isi_str_str, isi_str_tuple, isi_str_list, isi_tuple_int, isi_tuple_bool, isi_tuple_str, isi_tuple_tuple, isi_tuple_list, isi_list_int, isi_list_bool, isi_list_str, isi_list_tuple, isi_list_list, isi_none_int, isi_none_bool, isi_none_str, isi_none_tuple, isi_none_list, tru_b, tru_i, tru_l, tru_t, tru_n, non_n, non_int, non_bool, non_str, non_tuple, non_list, bi_1, bi_2, bi_len_l, bi_len_t, bi_abs, bi_int, bi_intb, bi_max2, bi_min2, bi_tup_l, bi_tup_t, bi_lst_l, bi_lst_t, itm_l, itm_t, isL_l, isL_t, ho_d, hoS_fr, hoS_ow, ho_sl, hoI_ow, ho_io, consV_some, hand_nil, hand_cons, fz_fr, fz_ow, mkTp_eq, mkT_some, fr_n, fr_t, okTp_fr, okTp_ow, outO_ow, outsOf_nil, outsOf_cons, finO_some, finF_nx, finF_rt, finF_ex, s_whl', e, lstR_some h0]
theorem intsOf_int : ∀ (xs : List Int), intsOf (xs.map .int) = some xs
  | [] => rfl
  | x :: xs => by simp [intsOf, intsOf_int xs]
theorem sumD_int (xs : List Int) : bi1 .sum (.list (xs.map .int)) = some (.fr (.int xs.sum)) := by
  simp only [bi1, intsOf_int, Option.map_some]
/-- end less first, of all rows -/
theorem diff_e {n : Nat} {b a z : Int} {rows : List (Int × Int)} {x4 x5 : Option Rv} (hl : rows.length ≤ 16777216) {call : E} (hc : evE (Cn n) call [some (.fr (.str "ranges")), some (.fr (.int b)), some (.fr (.int a)), some (.fr (.int z)), x4, x5, none, none] = .ok (.ow (.lst (rows.map rowD))) [some (.fr (.str "ranges")), some (.fr (.int b)), some (.fr (.int a)), some (.fr (.int z)), x4, x5, none, none])
    (ho : ∀ v r, asO call v r = v.map fun v => .d (fz v)) :
    evE (Cn n) (.lc (.t [(.n 6), (.n 7)]) (.itr call) (.bin .sub (.bo 7) (.bo 6))) [some (.fr (.str "ranges")), some (.fr (.int b)), some (.fr (.int a)), some (.fr (.int z)), x4, x5, none, none] =
    .ok (.ow (.lst ((rows.map fun p => p.2 - p.1).map .int))) [some (.fr (.str "ranges")), some (.fr (.int b)), some (.fr (.int a)), some (.fr (.int z)), x4, x5, none, none] := by
  rw [e_lc, i_itr', hc, ho]
  simp only [map_ok, fz_ow, bind_ok, seq_d, itm_l, Option.map_some, opt_some, isL_l]
  rw [lcRun_map (fun d => match d with | .tuple [.int x, .int y] => .int (y - x) | d => d) ?_ (by rw [sl24, List.length_map]; exact hl) rfl rfl]
  · simp [List.map_map, rowD, Function.comp_def]
  · intro x hx
    obtain ⟨p, _, rfl⟩ := List.mem_map.mp hx
    exact ⟨[some (.fr (.str "ranges")), some (.fr (.int b)), some (.fr (.int a)), some (.fr (.int z)), x4, x5, some (.fr (.int p.1)), some (.fr (.int p.2))], rfl, ⟨_, rfl, rfl⟩, rfl⟩

theorem src_ok {k : Nat} {zs : List Int} : ∃ src, Src src ∧ callF pg (k + 1) F_law_source [.fr (.list (zs.map .int))] = .ok (.ow (.lst src)) [] := by
  refine ⟨_, ⟨zs, 0, 1, 0, rfl⟩, ?_⟩
  simp -implicitDefEqProofs only [u_law_source, f_law_source, b_law_source, runFn_eq, finF_ite, owIx, List.map_cons, List.map_nil, List.replicate, List.cons_append, List.nil_append, Bool.and_self, Nat.le_refl, Nat.reduceSub, Nat.reduceLeDiff, o_ss, e_ss, finC_okLi, finC_okLb, finC_okLs, finC_okLn, s_trya', pickA_t, pickA_f, e_isX, cn_cur, cmp_ne_b, cmp_eq_b, flmap_nx, flmap_rt, lstR_0, lstR_1, tupR_1, lstR_2, tupR_2, lstR_3, tupR_3, lstR_4, tupR_4, lstR_5, tupR_5, lstR_6, tupR_6, lstR_7, tupR_7, lstR_8, lstR_9, o_met, o_isB, o_rl, metR_some, e_met, pm_lc, pm_tc, pm_li, pm_ti, isBR_b, e_isB, e_rl, t_met, t_isB, raiR_s, s_rais', tryR_nx, tryR_rt, tryR_ex, tryR_ite, s_tryx', hs_nil, hs_cons, pick_nil, pick_cons, pickR_t, pickR_f, noEx_nx, noEx_rt, s_asgs', asgsR_fr, cn_b, cn_s, setN, q_nil, q_cons, sq_nx, sq_rt, sq_bk, sq_ct, sq_ex, sq_ite, bind_ok, bind_ex, bind_ite, fl_ok, fl_ex, fl_ite, map_ok, map_ex, map_ite, opt_some, ite_okB, ite_okV, ite_and, ite_or, ops_some, op1_some, ops2_some, op1F_some, opsF_some, andR_b, orR_b, slt_some, vsl_fr, vsl_ow, mvl_some, vwS_fr, vwS_ow, vw_d, vw_sl, tsO_eq, chn_some, cmpR_some, negR_i, intR_i, biR_some, consO_some, vws_nil, vws_cons, o_bo, o_io, o_k, o_g, o_v, o_mv, o_tup, o_lst, o_bin, o_neg, o_cmp, o_chain, o_isN, o_notN, o_and, o_or, o_not, o_ite, o_idx, o_slc, o_call, o_bi, o_isi, o_lc, o_lci, e_k, e_g, e_v, e_mv, e_tup, e_lst, e_bin, e_neg, e_cmp, e_chain, e_isN, e_notN, e_and, e_or, e_not, e_ite, e_idx, e_slc, e_call, e_bi, e_isi, e_lc, e_lci, p_none, p_some, os_nil, os_cons, vs_nil, vs_cons, t_and, t_or, t_not, t_bo, t_v, t_k, t_bin, t_cmp, t_chain, t_isN, t_notN, t_idx, t_call, t_bi, t_isi, t_lc, t_lci, i_rng1', i_rng2', i_enu', i_zp', i_itr', seq_sl, seqS_fr, seqS_ow, rngR_i, s_asg', s_ex', s_ret', s_retN', s_pass', s_brk', s_cont', s_ife', s_forr', s_sto', s_aug', s_augl', s_mth', s_par', asgR_eq, nxO_some, stoR_eq, stoN_some, hasR_some, ifN_t, augR_add, augR_sub, isOwR_ow, isOwR_fr, mthR_eq, mtO_some, isOwS_eq, cmp_eq_s, cmp_ne_s, cmp_gt, cmp_lt, le_ii, ge_ii, cmp_eq, cmp_ne, List.getElem?_cons_succ, List.getElem?_cons_zero, Option.map_some, Option.bind_some, Bool.not_false, Bool.not_true, Bool.not_not, Bool.or_true, Bool.true_or, Bool.or_false, Bool.false_or, Bool.and_false, Bool.false_and, dsO, idx_l, idx_t, bin_add, bin_sub, slT, slTs, List.contains_nil, List.contains_cons, bindV, bindT, bindTs, List.set_cons_succ, List.set_cons_zero, if_true, if_false, Bool.false_eq_true, List.all_cons, List.all_nil, Bool.and_true, Bool.true_and, decide_true, decide_false, List.length_cons, List.length_nil, Nat.reduceAdd, Nat.reduceLT, callO_eq, calO_some, nodupB, lentIo, lent, slO, List.isEmpty_nil, List.isEmpty_cons, finC_ok0, finC_ex0, finC_okI, finC_exI, finC_exL, finC_ite, allFr, at_i0, at_1, at_2, at_3, at_4, at_5, at_6, at_7, at_8, at_n, Nat.reduceBEq, Bool.or_self, cn_call, cn_G, cn_w, seq_d, isi_int_int, isi_int_bool, isi_int_str, isi_int_tuple, isi_int_list, isi_bool_int, isi_bool_bool, isi_bool_str, isi_bool_tuple, isi_bool_list, isi_str_int, isi_str_bool, isi_str_str, isi_str_tuple, isi_str_list, isi_tuple_int, isi_tuple_bool, isi_tuple_str, isi_tuple_tuple, isi_tuple_list, isi_list_int, isi_list_bool, isi_list_str, isi_list_tuple, isi_list_list, isi_none_int, isi_none_bool, isi_none_str, isi_none_tuple, isi_none_list, tru_b, tru_i, tru_l, tru_t, tru_n, non_n, non_int, non_bool, non_str, non_tuple, non_list, bi_1, bi_2, bi_len_l, bi_len_t, bi_abs, bi_int, bi_intb, bi_max2, bi_min2, bi_tup_l, bi_tup_t, bi_lst_l, bi_lst_t, itm_l, itm_t, isL_l, isL_t, ho_d, hoS_fr, hoS_ow, ho_sl, hoI_ow, ho_io, consV_some, hand_nil, hand_cons, fz_fr, fz_ow, mkTp_eq, mkT_some, fr_n, fr_t, okTp_fr, okTp_ow, outO_ow, outsOf_nil, outsOf_cons, finO_some, finF_nx, finF_rt, finF_ex]
theorem is_integer_eq {n : Nat} {x lo hi : Int} : callF pg (n + 1) F_is_integer [.fr (.int x), .fr (.int lo), .fr (.int hi)] = .ok (.fr (.bool (decide (lo ≤ x) && decide (x ≤ hi)))) [] := by
  simp -implicitDefEqProofs only [u_is_integer, f_is_integer, b_is_integer, runFn_eq, finF_ite, owIx, List.map_cons, List.map_nil, List.replicate, List.cons_append, List.nil_append, Bool.and_self, Nat.le_refl, Nat.reduceSub, Nat.reduceLeDiff, o_ss, e_ss, finC_okLi, finC_okLb, finC_okLs, finC_okLn, s_trya', pickA_t, pickA_f, e_isX, cn_cur, cmp_ne_b, cmp_eq_b, flmap_nx, flmap_rt, lstR_0, lstR_1, tupR_1, lstR_2, tupR_2, lstR_3, tupR_3, lstR_4, tupR_4, lstR_5, tupR_5, lstR_6, tupR_6, lstR_7, tupR_7, lstR_8, lstR_9, o_met, o_isB, o_rl, metR_some, e_met, pm_lc, pm_tc, pm_li, pm_ti, isBR_b, e_isB, e_rl, t_met, t_isB, raiR_s, s_rais', tryR_nx, tryR_rt, tryR_ex, tryR_ite, s_tryx', hs_nil, hs_cons, pick_nil, pick_cons, pickR_t, pickR_f, noEx_nx, noEx_rt, s_asgs', asgsR_fr, cn_b, cn_s, setN, q_nil, q_cons, sq_nx, sq_rt, sq_bk, sq_ct, sq_ex, sq_ite, bind_ok, bind_ex, bind_ite, fl_ok, fl_ex, fl_ite, map_ok, map_ex, map_ite, opt_some, ite_okB, ite_okV, ite_and, ite_or, ops_some, op1_some, ops2_some, op1F_some, opsF_some, andR_b, orR_b, slt_some, vsl_fr, vsl_ow, mvl_some, vwS_fr, vwS_ow, vw_d, vw_sl, tsO_eq, chn_some, cmpR_some, negR_i, intR_i, biR_some, consO_some, vws_nil, vws_cons, o_bo, o_io, o_k, o_g, o_v, o_mv, o_tup, o_lst, o_bin, o_neg, o_cmp, o_chain, o_isN, o_notN, o_and, o_or, o_not, o_ite, o_idx, o_slc, o_call, o_bi, o_isi, o_lc, o_lci, e_k, e_g, e_v, e_mv, e_tup, e_lst, e_bin, e_neg, e_cmp, e_chain, e_isN, e_notN, e_and, e_or, e_not, e_ite, e_idx, e_slc, e_call, e_bi, e_isi, e_lc, e_lci, p_none, p_some, os_nil, os_cons, vs_nil, vs_cons, t_and, t_or, t_not, t_bo, t_v, t_k, t_bin, t_cmp, t_chain, t_isN, t_notN, t_idx, t_call, t_bi, t_isi, t_lc, t_lci, i_rng1', i_rng2', i_enu', i_zp', i_itr', seq_sl, seqS_fr, seqS_ow, rngR_i, s_asg', s_ex', s_ret', s_retN', s_pass', s_brk', s_cont', s_ife', s_forr', s_sto', s_aug', s_augl', s_mth', s_par', asgR_eq, nxO_some, stoR_eq, stoN_some, hasR_some, ifN_t, augR_add, augR_sub, isOwR_ow, isOwR_fr, mthR_eq, mtO_some, isOwS_eq, cmp_eq_s, cmp_ne_s, cmp_gt, cmp_lt, le_ii, ge_ii, cmp_eq, cmp_ne, List.getElem?_cons_succ, List.getElem?_cons_zero, Option.map_some, Option.bind_some, Bool.not_false, Bool.not_true, Bool.not_not, Bool.or_true, Bool.true_or, Bool.or_false, Bool.false_or, Bool.and_false, Bool.false_and, dsO, idx_l, idx_t, bin_add, bin_sub, slT, slTs, List.contains_nil, List.contains_cons, bindV, bindT, bindTs, List.set_cons_succ, List.set_cons_zero, if_true, if_false, Bool.false_eq_true, List.all_cons, List.all_nil, Bool.and_true, Bool.true_and, decide_true, decide_false, List.length_cons, List.length_nil, Nat.reduceAdd, Nat.reduceLT, callO_eq, calO_some, nodupB, lentIo, lent, slO, List.isEmpty_nil, List.isEmpty_cons, finC_ok0, finC_ex0, finC_okI, finC_exI, finC_exL, finC_ite, allFr, at_i0, at_1, at_2, at_3, at_4, at_5, at_6, at_7, at_8, at_n, Nat.reduceBEq, Bool.or_self, cn_call, cn_G, cn_w, seq_d, isi_int_int, isi_int_bool, isi_int_str, isi_int_tuple, isi_int_list, isi_bool_int, isi_bool_bool, isi_bool_str, isi_bool_tuple, isi_bool_list, isi_str_int, isi_str_bool, isi_str_str, isi_str_tuple, isi_str_list, isi_tuple_int, isi_tuple_bool, isi_tuple_str, isi_tuple_tuple, isi_tuple_list, isi_list_int, isi_list_bool, isi_list_str, isi_list_tuple, isi_list_list, isi_none_int, isi_none_bool, isi_none_str, isi_none_tuple, isi_none_list, tru_b, tru_i, tru_l, tru_t, tru_n, non_n, non_int, non_bool, non_str, non_tuple, non_list, bi_1, bi_2, bi_len_l, bi_len_t, bi_abs, bi_int, bi_intb, bi_max2, bi_min2, bi_tup_l, bi_tup_t, bi_lst_l, bi_lst_t, itm_l, itm_t, isL_l, isL_t, ho_d, hoS_fr, hoS_ow, ho_sl, hoI_ow, ho_io, consV_some, hand_nil, hand_cons, fz_fr, fz_ow, mkTp_eq, mkT_some, fr_n, fr_t, okTp_fr, okTp_ow, outO_ow, outsOf_nil, outsOf_cons, finO_some, finF_nx, finF_rt, finF_ex]
theorem law_integer_eq {n : Nat} {x : Int} : callF pg (n + 1) F_law_integer [.fr (.int x)] = .ok (.fr (.bool true)) [] := by
  simp -implicitDefEqProofs only [u_law_integer, f_law_integer, b_law_integer, runFn_eq, finF_ite, owIx, List.map_cons, List.map_nil, List.replicate, List.cons_append, List.nil_append, Bool.and_self, Nat.le_refl, Nat.reduceSub, Nat.reduceLeDiff, o_ss, e_ss, finC_okLi, finC_okLb, finC_okLs, finC_okLn, s_trya', pickA_t, pickA_f, e_isX, cn_cur, cmp_ne_b, cmp_eq_b, flmap_nx, flmap_rt, lstR_0, lstR_1, tupR_1, lstR_2, tupR_2, lstR_3, tupR_3, lstR_4, tupR_4, lstR_5, tupR_5, lstR_6, tupR_6, lstR_7, tupR_7, lstR_8, lstR_9, o_met, o_isB, o_rl, metR_some, e_met, pm_lc, pm_tc, pm_li, pm_ti, isBR_b, e_isB, e_rl, t_met, t_isB, raiR_s, s_rais', tryR_nx, tryR_rt, tryR_ex, tryR_ite, s_tryx', hs_nil, hs_cons, pick_nil, pick_cons, pickR_t, pickR_f, noEx_nx, noEx_rt, s_asgs', asgsR_fr, cn_b, cn_s, setN, q_nil, q_cons, sq_nx, sq_rt, sq_bk, sq_ct, sq_ex, sq_ite, bind_ok, bind_ex, bind_ite, fl_ok, fl_ex, fl_ite, map_ok, map_ex, map_ite, opt_some, ite_okB, ite_okV, ite_and, ite_or, ops_some, op1_some, ops2_some, op1F_some, opsF_some, andR_b, orR_b, slt_some, vsl_fr, vsl_ow, mvl_some, vwS_fr, vwS_ow, vw_d, vw_sl, tsO_eq, chn_some, cmpR_some, negR_i, intR_i, biR_some, consO_some, vws_nil, vws_cons, o_bo, o_io, o_k, o_g, o_v, o_mv, o_tup, o_lst, o_bin, o_neg, o_cmp, o_chain, o_isN, o_notN, o_and, o_or, o_not, o_ite, o_idx, o_slc, o_call, o_bi, o_isi, o_lc, o_lci, e_k, e_g, e_v, e_mv, e_tup, e_lst, e_bin, e_neg, e_cmp, e_chain, e_isN, e_notN, e_and, e_or, e_not, e_ite, e_idx, e_slc, e_call, e_bi, e_isi, e_lc, e_lci, p_none, p_some, os_nil, os_cons, vs_nil, vs_cons, t_and, t_or, t_not, t_bo, t_v, t_k, t_bin, t_cmp, t_chain, t_isN, t_notN, t_idx, t_call, t_bi, t_isi, t_lc, t_lci, i_rng1', i_rng2', i_enu', i_zp', i_itr', seq_sl, seqS_fr, seqS_ow, rngR_i, s_asg', s_ex', s_ret', s_retN', s_pass', s_brk', s_cont', s_ife', s_forr', s_sto', s_aug', s_augl', s_mth', s_par', asgR_eq, nxO_some, stoR_eq, stoN_some, hasR_some, ifN_t, augR_add, augR_sub, isOwR_ow, isOwR_fr, mthR_eq, mtO_some, isOwS_eq, cmp_eq_s, cmp_ne_s, cmp_gt, cmp_lt, le_ii, ge_ii, cmp_eq, cmp_ne, List.getElem?_cons_succ, List.getElem?_cons_zero, Option.map_some, Option.bind_some, Bool.not_false, Bool.not_true, Bool.not_not, Bool.or_true, Bool.true_or, Bool.or_false, Bool.false_or, Bool.and_false, Bool.false_and, dsO, idx_l, idx_t, bin_add, bin_sub, slT, slTs, List.contains_nil, List.contains_cons, bindV, bindT, bindTs, List.set_cons_succ, List.set_cons_zero, if_true, if_false, Bool.false_eq_true, List.all_cons, List.all_nil, Bool.and_true, Bool.true_and, decide_true, decide_false, List.length_cons, List.length_nil, Nat.reduceAdd, Nat.reduceLT, callO_eq, calO_some, nodupB, lentIo, lent, slO, List.isEmpty_nil, List.isEmpty_cons, finC_ok0, finC_ex0, finC_okI, finC_exI, finC_exL, finC_ite, allFr, at_i0, at_1, at_2, at_3, at_4, at_5, at_6, at_7, at_8, at_n, Nat.reduceBEq, Bool.or_self, cn_call, cn_G, cn_w, seq_d, isi_int_int, isi_int_bool, isi_int_str, isi_int_tuple, isi_int_list, isi_bool_int, isi_bool_bool, isi_bool_str, isi_bool_tuple, isi_bool_list, isi_str_int, isi_str_bool, isi_str_str, isi_str_tuple, isi_str_list, isi_tuple_int, isi_tuple_bool, isi_tuple_str, isi_tuple_tuple, isi_tuple_list, isi_list_int, isi_list_bool, isi_list_str, isi_list_tuple, isi_list_list, isi_none_int, isi_none_bool, isi_none_str, isi_none_tuple, isi_none_list, tru_b, tru_i, tru_l, tru_t, tru_n, non_n, non_int, non_bool, non_str, non_tuple, non_list, bi_1, bi_2, bi_len_l, bi_len_t, bi_abs, bi_int, bi_intb, bi_max2, bi_min2, bi_tup_l, bi_tup_t, bi_lst_l, bi_lst_t, itm_l, itm_t, isL_l, isL_t, ho_d, hoS_fr, hoS_ow, ho_sl, hoI_ow, ho_io, consV_some, hand_nil, hand_cons, fz_fr, fz_ow, mkTp_eq, mkT_some, fr_n, fr_t, okTp_fr, okTp_ow, outO_ow, outsOf_nil, outsOf_cons, finO_some, finF_nx, finF_rt, finF_ex]
theorem need_count_eq {n : Nat} {x hi : Int} (h1 : 1 ≤ x) (h2 : x ≤ hi) : callF pg (n + 2) F_need_count [.fr (.int x), .fr (.int hi)] = .ok (.fr .none) [] := by
  simp -implicitDefEqProofs only [u_need_count, f_need_count, b_need_count, runFn_eq, finF_ite, owIx, List.map_cons, List.map_nil, List.replicate, List.cons_append, List.nil_append, Bool.and_self, Nat.le_refl, Nat.reduceSub, Nat.reduceLeDiff, o_ss, e_ss, finC_okLi, finC_okLb, finC_okLs, finC_okLn, s_trya', pickA_t, pickA_f, e_isX, cn_cur, cmp_ne_b, cmp_eq_b, flmap_nx, flmap_rt, lstR_0, lstR_1, tupR_1, lstR_2, tupR_2, lstR_3, tupR_3, lstR_4, tupR_4, lstR_5, tupR_5, lstR_6, tupR_6, lstR_7, tupR_7, lstR_8, lstR_9, o_met, o_isB, o_rl, metR_some, e_met, pm_lc, pm_tc, pm_li, pm_ti, isBR_b, e_isB, e_rl, t_met, t_isB, raiR_s, s_rais', tryR_nx, tryR_rt, tryR_ex, tryR_ite, s_tryx', hs_nil, hs_cons, pick_nil, pick_cons, pickR_t, pickR_f, noEx_nx, noEx_rt, s_asgs', asgsR_fr, cn_b, cn_s, setN, q_nil, q_cons, sq_nx, sq_rt, sq_bk, sq_ct, sq_ex, sq_ite, bind_ok, bind_ex, bind_ite, fl_ok, fl_ex, fl_ite, map_ok, map_ex, map_ite, opt_some, ite_okB, ite_okV, ite_and, ite_or, ops_some, op1_some, ops2_some, op1F_some, opsF_some, andR_b, orR_b, slt_some, vsl_fr, vsl_ow, mvl_some, vwS_fr, vwS_ow, vw_d, vw_sl, tsO_eq, chn_some, cmpR_some, negR_i, intR_i, biR_some, consO_some, vws_nil, vws_cons, o_bo, o_io, o_k, o_g, o_v, o_mv, o_tup, o_lst, o_bin, o_neg, o_cmp, o_chain, o_isN, o_notN, o_and, o_or, o_not, o_ite, o_idx, o_slc, o_call, o_bi, o_isi, o_lc, o_lci, e_k, e_g, e_v, e_mv, e_tup, e_lst, e_bin, e_neg, e_cmp, e_chain, e_isN, e_notN, e_and, e_or, e_not, e_ite, e_idx, e_slc, e_call, e_bi, e_isi, e_lc, e_lci, p_none, p_some, os_nil, os_cons, vs_nil, vs_cons, t_and, t_or, t_not, t_bo, t_v, t_k, t_bin, t_cmp, t_chain, t_isN, t_notN, t_idx, t_call, t_bi, t_isi, t_lc, t_lci, i_rng1', i_rng2', i_enu', i_zp', i_itr', seq_sl, seqS_fr, seqS_ow, rngR_i, s_asg', s_ex', s_ret', s_retN', s_pass', s_brk', s_cont', s_ife', s_forr', s_sto', s_aug', s_augl', s_mth', s_par', asgR_eq, nxO_some, stoR_eq, stoN_some, hasR_some, ifN_t, augR_add, augR_sub, isOwR_ow, isOwR_fr, mthR_eq, mtO_some, isOwS_eq, cmp_eq_s, cmp_ne_s, cmp_gt, cmp_lt, le_ii, ge_ii, cmp_eq, cmp_ne, List.getElem?_cons_succ, List.getElem?_cons_zero, Option.map_some, Option.bind_some, Bool.not_false, Bool.not_true, Bool.not_not, Bool.or_true, Bool.true_or, Bool.or_false, Bool.false_or, Bool.and_false, Bool.false_and, dsO, idx_l, idx_t, bin_add, bin_sub, slT, slTs, List.contains_nil, List.contains_cons, bindV, bindT, bindTs, List.set_cons_succ, List.set_cons_zero, if_true, if_false, Bool.false_eq_true, List.all_cons, List.all_nil, Bool.and_true, Bool.true_and, decide_true, decide_false, List.length_cons, List.length_nil, Nat.reduceAdd, Nat.reduceLT, callO_eq, calO_some, nodupB, lentIo, lent, slO, List.isEmpty_nil, List.isEmpty_cons, finC_ok0, finC_ex0, finC_okI, finC_exI, finC_exL, finC_ite, allFr, at_i0, at_1, at_2, at_3, at_4, at_5, at_6, at_7, at_8, at_n, Nat.reduceBEq, Bool.or_self, cn_call, cn_G, cn_w, seq_d, isi_int_int, isi_int_bool, isi_int_str, isi_int_tuple, isi_int_list, isi_bool_int, isi_bool_bool, isi_bool_str, isi_bool_tuple, isi_bool_list, isi_str_int, isi_str_bool, isi_str_str, isi_str_tuple, isi_str_list, isi_tuple_int, isi_tuple_bool, isi_tuple_str, isi_tuple_tuple, isi_tuple_list, isi_list_int, isi_list_bool, isi_list_str, isi_list_tuple, isi_list_list, isi_none_int, isi_none_bool, isi_none_str, isi_none_tuple, isi_none_list, tru_b, tru_i, tru_l, tru_t, tru_n, non_n, non_int, non_bool, non_str, non_tuple, non_list, bi_1, bi_2, bi_len_l, bi_len_t, bi_abs, bi_int, bi_intb, bi_max2, bi_min2, bi_tup_l, bi_tup_t, bi_lst_l, bi_lst_t, itm_l, itm_t, isL_l, isL_t, ho_d, hoS_fr, hoS_ow, ho_sl, hoI_ow, ho_io, consV_some, hand_nil, hand_cons, fz_fr, fz_ow, mkTp_eq, mkT_some, fr_n, fr_t, okTp_fr, okTp_ow, outO_ow, outsOf_nil, outsOf_cons, finO_some, finF_nx, finF_rt, finF_ex, is_integer_eq, h1, h2]
theorem g0 : pg.G[0]? = some (.int (100000000000000000000 : Int)) := rfl
theorem g1 : pg.G[1]? = some (.int (10000000000000000000000000000000000000000 : Int)) := rfl
theorem g2 : pg.G[2]? = some (.int 1000) := rfl
theorem need_size_eq {n : Nat} {x : Int} (h1 : 1 ≤ x) (h2 : x ≤ (10000000000000000000000000000000000000000 : Int)) : callF pg (n + 2) F_need_size [.fr (.int x)] = .ok (.fr .none) [] := by
  simp -implicitDefEqProofs only [u_need_size, f_need_size, b_need_size, runFn_eq, finF_ite, owIx, List.map_cons, List.map_nil, List.replicate, List.cons_append, List.nil_append, Bool.and_self, Nat.le_refl, Nat.reduceSub, Nat.reduceLeDiff, o_ss, e_ss, finC_okLi, finC_okLb, finC_okLs, finC_okLn, s_trya', pickA_t, pickA_f, e_isX, cn_cur, cmp_ne_b, cmp_eq_b, flmap_nx, flmap_rt, lstR_0, lstR_1, tupR_1, lstR_2, tupR_2, lstR_3, tupR_3, lstR_4, tupR_4, lstR_5, tupR_5, lstR_6, tupR_6, lstR_7, tupR_7, lstR_8, lstR_9, o_met, o_isB, o_rl, metR_some, e_met, pm_lc, pm_tc, pm_li, pm_ti, isBR_b, e_isB, e_rl, t_met, t_isB, raiR_s, s_rais', tryR_nx, tryR_rt, tryR_ex, tryR_ite, s_tryx', hs_nil, hs_cons, pick_nil, pick_cons, pickR_t, pickR_f, noEx_nx, noEx_rt, s_asgs', asgsR_fr, cn_b, cn_s, setN, q_nil, q_cons, sq_nx, sq_rt, sq_bk, sq_ct, sq_ex, sq_ite, bind_ok, bind_ex, bind_ite, fl_ok, fl_ex, fl_ite, map_ok, map_ex, map_ite, opt_some, ite_okB, ite_okV, ite_and, ite_or, ops_some, op1_some, ops2_some, op1F_some, opsF_some, andR_b, orR_b, slt_some, vsl_fr, vsl_ow, mvl_some, vwS_fr, vwS_ow, vw_d, vw_sl, tsO_eq, chn_some, cmpR_some, negR_i, intR_i, biR_some, consO_some, vws_nil, vws_cons, o_bo, o_io, o_k, o_g, o_v, o_mv, o_tup, o_lst, o_bin, o_neg, o_cmp, o_chain, o_isN, o_notN, o_and, o_or, o_not, o_ite, o_idx, o_slc, o_call, o_bi, o_isi, o_lc, o_lci, e_k, e_g, e_v, e_mv, e_tup, e_lst, e_bin, e_neg, e_cmp, e_chain, e_isN, e_notN, e_and, e_or, e_not, e_ite, e_idx, e_slc, e_call, e_bi, e_isi, e_lc, e_lci, p_none, p_some, os_nil, os_cons, vs_nil, vs_cons, t_and, t_or, t_not, t_bo, t_v, t_k, t_bin, t_cmp, t_chain, t_isN, t_notN, t_idx, t_call, t_bi, t_isi, t_lc, t_lci, i_rng1', i_rng2', i_enu', i_zp', i_itr', seq_sl, seqS_fr, seqS_ow, rngR_i, s_asg', s_ex', s_ret', s_retN', s_pass', s_brk', s_cont', s_ife', s_forr', s_sto', s_aug', s_augl', s_mth', s_par', asgR_eq, nxO_some, stoR_eq, stoN_some, hasR_some, ifN_t, augR_add, augR_sub, isOwR_ow, isOwR_fr, mthR_eq, mtO_some, isOwS_eq, cmp_eq_s, cmp_ne_s, cmp_gt, cmp_lt, le_ii, ge_ii, cmp_eq, cmp_ne, List.getElem?_cons_succ, List.getElem?_cons_zero, Option.map_some, Option.bind_some, Bool.not_false, Bool.not_true, Bool.not_not, Bool.or_true, Bool.true_or, Bool.or_false, Bool.false_or, Bool.and_false, Bool.false_and, dsO, idx_l, idx_t, bin_add, bin_sub, slT, slTs, List.contains_nil, List.contains_cons, bindV, bindT, bindTs, List.set_cons_succ, List.set_cons_zero, if_true, if_false, Bool.false_eq_true, List.all_cons, List.all_nil, Bool.and_true, Bool.true_and, decide_true, decide_false, List.length_cons, List.length_nil, Nat.reduceAdd, Nat.reduceLT, callO_eq, calO_some, nodupB, lentIo, lent, slO, List.isEmpty_nil, List.isEmpty_cons, finC_ok0, finC_ex0, finC_okI, finC_exI, finC_exL, finC_ite, allFr, at_i0, at_1, at_2, at_3, at_4, at_5, at_6, at_7, at_8, at_n, Nat.reduceBEq, Bool.or_self, cn_call, cn_G, cn_w, seq_d, isi_int_int, isi_int_bool, isi_int_str, isi_int_tuple, isi_int_list, isi_bool_int, isi_bool_bool, isi_bool_str, isi_bool_tuple, isi_bool_list, isi_str_int, isi_str_bool, isi_str_str, isi_str_tuple, isi_str_list, isi_tuple_int, isi_tuple_bool, isi_tuple_str, isi_tuple_tuple, isi_tuple_list, isi_list_int, isi_list_bool, isi_list_str, isi_list_tuple, isi_list_list, isi_none_int, isi_none_bool, isi_none_str, isi_none_tuple, isi_none_list, tru_b, tru_i, tru_l, tru_t, tru_n, non_n, non_int, non_bool, non_str, non_tuple, non_list, bi_1, bi_2, bi_len_l, bi_len_t, bi_abs, bi_int, bi_intb, bi_max2, bi_min2, bi_tup_l, bi_tup_t, bi_lst_l, bi_lst_t, itm_l, itm_t, isL_l, isL_t, ho_d, hoS_fr, hoS_ow, ho_sl, hoI_ow, ho_io, consV_some, hand_nil, hand_cons, fz_fr, fz_ow, mkTp_eq, mkT_some, fr_n, fr_t, okTp_fr, okTp_ow, outO_ow, outsOf_nil, outsOf_cons, finO_some, finF_nx, finF_rt, finF_ex, is_integer_eq, h1, h2, g1]
theorem kind_ok {n : Nat} : callF pg (n + 1) F_need_kind [.fr (.str "ranges")] = .ok (.fr .none) [] := rfl
theorem rg : decide ((("ranges" : String) : Str) = "ranges") = true := by decide
theorem need_counts_eq {n : Nat} {b a z : Int} (b1 : 1 ≤ b) (b2 : b ≤ 1000) (a1 : 1 ≤ a) (a2 : a ≤ 1000) (z1 : 1 ≤ z) (z2 : z ≤ (10000000000000000000000000000000000000000 : Int)) :
    callF pg (n + 3) F_need_counts_of [.fr (.str "ranges"), .fr (.int b), .fr (.int a), .fr (.int z)] = .ok (.fr .none) [] := by
  simp -implicitDefEqProofs only [u_need_counts_of, f_need_counts_of, b_need_counts_of, runFn_eq, finF_ite, owIx, List.map_cons, List.map_nil, List.replicate, List.cons_append, List.nil_append, Bool.and_self, Nat.le_refl, Nat.reduceSub, Nat.reduceLeDiff, o_ss, e_ss, finC_okLi, finC_okLb, finC_okLs, finC_okLn, s_trya', pickA_t, pickA_f, e_isX, cn_cur, cmp_ne_b, cmp_eq_b, flmap_nx, flmap_rt, lstR_0, lstR_1, tupR_1, lstR_2, tupR_2, lstR_3, tupR_3, lstR_4, tupR_4, lstR_5, tupR_5, lstR_6, tupR_6, lstR_7, tupR_7, lstR_8, lstR_9, o_met, o_isB, o_rl, metR_some, e_met, pm_lc, pm_tc, pm_li, pm_ti, isBR_b, e_isB, e_rl, t_met, t_isB, raiR_s, s_rais', tryR_nx, tryR_rt, tryR_ex, tryR_ite, s_tryx', hs_nil, hs_cons, pick_nil, pick_cons, pickR_t, pickR_f, noEx_nx, noEx_rt, s_asgs', asgsR_fr, cn_b, cn_s, setN, q_nil, q_cons, sq_nx, sq_rt, sq_bk, sq_ct, sq_ex, sq_ite, bind_ok, bind_ex, bind_ite, fl_ok, fl_ex, fl_ite, map_ok, map_ex, map_ite, opt_some, ite_okB, ite_okV, ite_and, ite_or, ops_some, op1_some, ops2_some, op1F_some, opsF_some, andR_b, orR_b, slt_some, vsl_fr, vsl_ow, mvl_some, vwS_fr, vwS_ow, vw_d, vw_sl, tsO_eq, chn_some, cmpR_some, negR_i, intR_i, biR_some, consO_some, vws_nil, vws_cons, o_bo, o_io, o_k, o_g, o_v, o_mv, o_tup, o_lst, o_bin, o_neg, o_cmp, o_chain, o_isN, o_notN, o_and, o_or, o_not, o_ite, o_idx, o_slc, o_call, o_bi, o_isi, o_lc, o_lci, e_k, e_g, e_v, e_mv, e_tup, e_lst, e_bin, e_neg, e_cmp, e_chain, e_isN, e_notN, e_and, e_or, e_not, e_ite, e_idx, e_slc, e_call, e_bi, e_isi, e_lc, e_lci, p_none, p_some, os_nil, os_cons, vs_nil, vs_cons, t_and, t_or, t_not, t_bo, t_v, t_k, t_bin, t_cmp, t_chain, t_isN, t_notN, t_idx, t_call, t_bi, t_isi, t_lc, t_lci, i_rng1', i_rng2', i_enu', i_zp', i_itr', seq_sl, seqS_fr, seqS_ow, rngR_i, s_asg', s_ex', s_ret', s_retN', s_pass', s_brk', s_cont', s_ife', s_forr', s_sto', s_aug', s_augl', s_mth', s_par', asgR_eq, nxO_some, stoR_eq, stoN_some, hasR_some, ifN_t, augR_add, augR_sub, isOwR_ow, isOwR_fr, mthR_eq, mtO_some, isOwS_eq, cmp_eq_s, cmp_ne_s, cmp_gt, cmp_lt, le_ii, ge_ii, cmp_eq, cmp_ne, List.getElem?_cons_succ, List.getElem?_cons_zero, Option.map_some, Option.bind_some, Bool.not_false, Bool.not_true, Bool.not_not, Bool.or_true, Bool.true_or, Bool.or_false, Bool.false_or, Bool.and_false, Bool.false_and, dsO, idx_l, idx_t, bin_add, bin_sub, slT, slTs, List.contains_nil, List.contains_cons, bindV, bindT, bindTs, List.set_cons_succ, List.set_cons_zero, if_true, if_false, Bool.false_eq_true, List.all_cons, List.all_nil, Bool.and_true, Bool.true_and, decide_true, decide_false, List.length_cons, List.length_nil, Nat.reduceAdd, Nat.reduceLT, callO_eq, calO_some, nodupB, lentIo, lent, slO, List.isEmpty_nil, List.isEmpty_cons, finC_ok0, finC_ex0, finC_okI, finC_exI, finC_exL, finC_ite, allFr, at_i0, at_1, at_2, at_3, at_4, at_5, at_6, at_7, at_8, at_n, Nat.reduceBEq, Bool.or_self, cn_call, cn_G, cn_w, seq_d, isi_int_int, isi_int_bool, isi_int_str, isi_int_tuple, isi_int_list, isi_bool_int, isi_bool_bool, isi_bool_str, isi_bool_tuple, isi_bool_list, isi_str_int, isi_str_bool, isi_str_str, isi_str_tuple, isi_str_list, isi_tuple_int, isi_tuple_bool, isi_tuple_str, isi_tuple_tuple, isi_tuple_list, isi_list_int, isi_list_bool, isi_list_str, isi_list_tuple, isi_list_list, isi_none_int, isi_none_bool, isi_none_str, isi_none_tuple, isi_none_list, tru_b, tru_i, tru_l, tru_t, tru_n, non_n, non_int, non_bool, non_str, non_tuple, non_list, bi_1, bi_2, bi_len_l, bi_len_t, bi_abs, bi_int, bi_intb, bi_max2, bi_min2, bi_tup_l, bi_tup_t, bi_lst_l, bi_lst_t, itm_l, itm_t, isL_l, isL_t, ho_d, hoS_fr, hoS_ow, ho_sl, hoI_ow, ho_io, consV_some, hand_nil, hand_cons, fz_fr, fz_ow, mkTp_eq, mkT_some, fr_n, fr_t, okTp_fr, okTp_ow, outO_ow, outsOf_nil, outsOf_cons, finO_some, finF_nx, finF_rt, finF_ex, kind_ok, need_count_eq b1 b2, need_count_eq a1 a2, need_size_eq z1 z2, rg, g0, g2]
theorem row_len {b a z : Int} {rows : List (Int × Int)} (b1 : b ≤ 1000) (a1 : a ≤ 1000) (z0 : 1 ≤ z) (hR : Row b a z z rows) : rows.length ≤ 16777216 := by
  have := hR.1
  have e1 : z * b / z = b := Int.mul_ediv_cancel_left _ (by omega)
  have e2 : z * a / z = a := Int.mul_ediv_cancel_left _ (by omega)
  omega
theorem count_moved_eq {n : Nat} {b a z : Int} (b1 : 1 ≤ b) (b2 : b ≤ 1000) (a1 : 1 ≤ a) (a2 : a ≤ 1000) (z1 : 1 ≤ z) (z2 : z ≤ (10000000000000000000000000000000000000000 : Int)) :
    callF pg (n + 4) F_count_moved [.fr (.str "ranges"), .fr (.int b), .fr (.int a), .fr (.int z)] = .ok (.fr (.int (cU b a z z.toNat))) [] := by
  obtain ⟨rows, hR, cm⟩ := moved_stretches_eq (n := n + 1) (b := b) (a := a) (z := z) (by omega) b2 (by omega) a2 (by omega) z2
  have de := diff_e (n := n + 3) (b := b) (a := a) (z := z) (rows := rows) (x4 := none) (x5 := none) (row_len b2 a2 z1 hR) (call := .call F_moved_stretches [(.v 1), (.v 2), (.v 3)]) (by simp -implicitDefEqProofs only [o_ss, e_ss, finC_okLi, finC_okLb, finC_okLs, finC_okLn, s_trya', pickA_t, pickA_f, e_isX, cn_cur, cmp_ne_b, cmp_eq_b, flmap_nx, flmap_rt, lstR_0, lstR_1, tupR_1, lstR_2, tupR_2, lstR_3, tupR_3, lstR_4, tupR_4, lstR_5, tupR_5, lstR_6, tupR_6, lstR_7, tupR_7, lstR_8, lstR_9, o_met, o_isB, o_rl, metR_some, e_met, pm_lc, pm_tc, pm_li, pm_ti, isBR_b, e_isB, e_rl, t_met, t_isB, raiR_s, s_rais', tryR_nx, tryR_rt, tryR_ex, tryR_ite, s_tryx', hs_nil, hs_cons, pick_nil, pick_cons, pickR_t, pickR_f, noEx_nx, noEx_rt, s_asgs', asgsR_fr, cn_b, cn_s, setN, q_nil, q_cons, sq_nx, sq_rt, sq_bk, sq_ct, sq_ex, sq_ite, bind_ok, bind_ex, bind_ite, fl_ok, fl_ex, fl_ite, map_ok, map_ex, map_ite, opt_some, ite_okB, ite_okV, ite_and, ite_or, ops_some, op1_some, ops2_some, op1F_some, opsF_some, andR_b, orR_b, slt_some, vsl_fr, vsl_ow, mvl_some, vwS_fr, vwS_ow, vw_d, vw_sl, tsO_eq, chn_some, cmpR_some, negR_i, intR_i, biR_some, consO_some, vws_nil, vws_cons, o_bo, o_io, o_k, o_g, o_v, o_mv, o_tup, o_lst, o_bin, o_neg, o_cmp, o_chain, o_isN, o_notN, o_and, o_or, o_not, o_ite, o_idx, o_slc, o_call, o_bi, o_isi, o_lc, o_lci, e_k, e_g, e_v, e_mv, e_tup, e_lst, e_bin, e_neg, e_cmp, e_chain, e_isN, e_notN, e_and, e_or, e_not, e_ite, e_idx, e_slc, e_call, e_bi, e_isi, e_lc, e_lci, p_none, p_some, os_nil, os_cons, vs_nil, vs_cons, t_and, t_or, t_not, t_bo, t_v, t_k, t_bin, t_cmp, t_chain, t_isN, t_notN, t_idx, t_call, t_bi, t_isi, t_lc, t_lci, i_rng1', i_rng2', i_enu', i_zp', i_itr', seq_sl, seqS_fr, seqS_ow, rngR_i, s_asg', s_ex', s_ret', s_retN', s_pass', s_brk', s_cont', s_ife', s_forr', s_sto', s_aug', s_augl', s_mth', s_par', asgR_eq, nxO_some, stoR_eq, stoN_some, hasR_some, ifN_t, augR_add, augR_sub, isOwR_ow, isOwR_fr, mthR_eq, mtO_some, isOwS_eq, cmp_eq_s, cmp_ne_s, cmp_gt, cmp_lt, le_ii, ge_ii, cmp_eq, cmp_ne, List.getElem?_cons_succ, List.getElem?_cons_zero, Option.map_some, Option.bind_some, Bool.not_false, Bool.not_true, Bool.not_not, Bool.or_true, Bool.true_or, Bool.or_false, Bool.false_or, Bool.and_false, Bool.false_and, dsO, idx_l, idx_t, bin_add, bin_sub, slT, slTs, List.contains_nil, List.contains_cons, bindV, bindT, bindTs, List.set_cons_succ, List.set_cons_zero, if_true, if_false, Bool.false_eq_true, List.all_cons, List.all_nil, Bool.and_true, Bool.true_and, decide_true, decide_false, List.length_cons, List.length_nil, Nat.reduceAdd, Nat.reduceLT, callO_eq, calO_some, nodupB, lentIo, lent, slO, List.isEmpty_nil, List.isEmpty_cons, finC_ok0, finC_ex0, finC_okI, finC_exI, finC_exL, finC_ite, allFr, at_i0, at_1, at_2, at_3, at_4, at_5, at_6, at_7, at_8, at_n, Nat.reduceBEq, Bool.or_self, cn_call, cn_G, cn_w, seq_d, isi_int_int, isi_int_bool, isi_int_str, isi_int_tuple, isi_int_list, isi_bool_int, isi_bool_bool, isi_bool_str, isi_bool_tuple, isi_bool_list, isi_str_int, isi_str_bool, isi_str_str, isi_str_tuple, isi_str_list, isi_tuple_int, isi_tuple_bool, isi_tuple_str, isi_tuple_tuple, isi_tuple_list, isi_list_int, isi_list_bool, isi_list_str, isi_list_tuple, isi_list_list, isi_none_int, isi_none_bool, isi_none_str, isi_none_tuple, isi_none_list, tru_b, tru_i, tru_l, tru_t, tru_n, non_n, non_int, non_bool, non_str, non_tuple, non_list, bi_1, bi_2, bi_len_l, bi_len_t, bi_abs, bi_int, bi_intb, bi_max2, bi_min2, bi_tup_l, bi_tup_t, bi_lst_l, bi_lst_t, itm_l, itm_t, isL_l, isL_t, ho_d, hoS_fr, hoS_ow, ho_sl, hoI_ow, ho_io, consV_some, hand_nil, hand_cons, fz_fr, fz_ow, mkTp_eq, mkT_some, fr_n, fr_t, okTp_fr, okTp_ow, outO_ow, outsOf_nil, outsOf_cons, finO_some, finF_nx, finF_rt, finF_ex, cm]) (fun v r => rfl)
  have e : cU b a z z.toNat = (rows.map fun p => p.2 - p.1).sum := hR.2.1.symm
  rw [e]
  simp -implicitDefEqProofs only [u_count_moved, f_count_moved, b_count_moved, runFn_eq, finF_ite, owIx, List.map_cons, List.map_nil, List.replicate, List.cons_append, List.nil_append, Bool.and_self, Nat.le_refl, Nat.reduceSub, Nat.reduceLeDiff, o_ss, e_ss, finC_okLi, finC_okLb, finC_okLs, finC_okLn, s_trya', pickA_t, pickA_f, e_isX, cn_cur, cmp_ne_b, cmp_eq_b, flmap_nx, flmap_rt, lstR_0, lstR_1, tupR_1, lstR_2, tupR_2, lstR_3, tupR_3, lstR_4, tupR_4, lstR_5, tupR_5, lstR_6, tupR_6, lstR_7, tupR_7, lstR_8, lstR_9, o_met, o_isB, o_rl, metR_some, e_met, pm_lc, pm_tc, pm_li, pm_ti, isBR_b, e_isB, e_rl, t_met, t_isB, raiR_s, s_rais', tryR_nx, tryR_rt, tryR_ex, tryR_ite, s_tryx', hs_nil, hs_cons, pick_nil, pick_cons, pickR_t, pickR_f, noEx_nx, noEx_rt, s_asgs', asgsR_fr, cn_b, cn_s, setN, q_nil, q_cons, sq_nx, sq_rt, sq_bk, sq_ct, sq_ex, sq_ite, bind_ok, bind_ex, bind_ite, fl_ok, fl_ex, fl_ite, map_ok, map_ex, map_ite, opt_some, ite_okB, ite_okV, ite_and, ite_or, ops_some, op1_some, ops2_some, op1F_some, opsF_some, andR_b, orR_b, slt_some, vsl_fr, vsl_ow, mvl_some, vwS_fr, vwS_ow, vw_d, vw_sl, tsO_eq, chn_some, cmpR_some, negR_i, intR_i, biR_some, consO_some, vws_nil, vws_cons, o_bo, o_io, o_k, o_g, o_v, o_mv, o_tup, o_lst, o_bin, o_neg, o_cmp, o_chain, o_isN, o_notN, o_and, o_or, o_not, o_ite, o_idx, o_slc, o_call, o_bi, o_isi, o_lc, o_lci, e_k, e_g, e_v, e_mv, e_tup, e_lst, e_bin, e_neg, e_cmp, e_chain, e_isN, e_notN, e_and, e_or, e_not, e_ite, e_idx, e_slc, e_call, e_bi, e_isi, p_none, p_some, os_nil, os_cons, vs_nil, vs_cons, t_and, t_or, t_not, t_bo, t_v, t_k, t_bin, t_cmp, t_chain, t_isN, t_notN, t_idx, t_call, t_bi, t_isi, t_lc, t_lci, i_rng1', i_rng2', i_enu', i_zp', i_itr', seq_sl, seqS_fr, seqS_ow, rngR_i, s_asg', s_ex', s_ret', s_retN', s_pass', s_brk', s_cont', s_ife', s_forr', s_sto', s_aug', s_augl', s_mth', s_par', asgR_eq, nxO_some, stoR_eq, stoN_some, hasR_some, ifN_t, augR_add, augR_sub, isOwR_ow, isOwR_fr, mthR_eq, mtO_some, isOwS_eq, cmp_eq_s, cmp_ne_s, cmp_gt, cmp_lt, le_ii, ge_ii, cmp_eq, cmp_ne, List.getElem?_cons_succ, List.getElem?_cons_zero, Option.map_some, Option.bind_some, Bool.not_false, Bool.not_true, Bool.not_not, Bool.or_true, Bool.true_or, Bool.or_false, Bool.false_or, Bool.and_false, Bool.false_and, dsO, idx_l, idx_t, bin_add, bin_sub, slT, slTs, List.contains_nil, List.contains_cons, bindV, bindT, bindTs, List.set_cons_succ, List.set_cons_zero, if_true, if_false, Bool.false_eq_true, List.all_cons, List.all_nil, Bool.and_true, Bool.true_and, decide_true, decide_false, List.length_cons, List.length_nil, Nat.reduceAdd, Nat.reduceLT, callO_eq, calO_some, nodupB, lentIo, lent, slO, List.isEmpty_nil, List.isEmpty_cons, finC_ok0, finC_ex0, finC_okI, finC_exI, finC_exL, finC_ite, allFr, at_i0, at_1, at_2, at_3, at_4, at_5, at_6, at_7, at_8, at_n, Nat.reduceBEq, Bool.or_self, cn_call, cn_G, cn_w, seq_d, isi_int_int, isi_int_bool, isi_int_str, isi_int_tuple, isi_int_list, isi_bool_int, isi_bool_bool, isi_bool_str, isi_bool_tuple, isi_bool_list, isi_str_int, isi_str_bool, isi_str_str, isi_str_tuple, isi_str_list, isi_tuple_int, isi_tuple_bool, isi_tuple_str, isi_tuple_tuple, isi_tuple_list, isi_list_int, isi_list_bool, isi_list_str, isi_list_tuple, isi_list_list, isi_none_int, isi_none_bool, isi_none_str, isi_none_tuple, isi_none_list, tru_b, tru_i, tru_l, tru_t, tru_n, non_n, non_int, non_bool, non_str, non_tuple, non_list, bi_1, bi_2, bi_len_l, bi_len_t, bi_abs, bi_int, bi_intb, bi_max2, bi_min2, bi_tup_l, bi_tup_t, bi_lst_l, bi_lst_t, itm_l, itm_t, isL_l, isL_t, ho_d, hoS_fr, hoS_ow, ho_sl, hoI_ow, ho_io, consV_some, hand_nil, hand_cons, fz_fr, fz_ow, mkTp_eq, mkT_some, fr_n, fr_t, okTp_fr, okTp_ow, outO_ow, outsOf_nil, outsOf_cons, finO_some, finF_nx, finF_rt, finF_ex, need_counts_eq b1 b2 a1 a2 z1 z2, rg, de, sumD_int]
theorem row_first {b a z : Int} {rows : List (Int × Int)} (h : Row b a z z rows) : FirstU b a z 0 (rows.head?.map (·.1)) := by
  obtain ⟨_, _, h3⟩ := h
  cases rows with
  | nil => exact fun i q1 q2 => h3 i q1 q2
  | cons p r => exact ⟨h3.1, h3.2.1, h3.2.2.1, h3.2.2.2⟩
def optD : Option Int → D
  | none => .none
  | some i => .int i
theorem first_moved_eq {n : Nat} {b a z : Int} {o : Option Int} (b1 : 1 ≤ b) (b2 : b ≤ 1000) (a1 : 1 ≤ a) (a2 : a ≤ 1000) (z1 : 1 ≤ z) (z2 : z ≤ (10000000000000000000000000000000000000000 : Int)) (ho : FirstU b a z 0 o) :
    callF pg (n + 4) F_first_moved [.fr (.str "ranges"), .fr (.int b), .fr (.int a), .fr (.int z)] = .ok (.fr (optD o)) [] := by
  cases h : (b == a) with
  | true =>
    have e : b = a := by rwa [beq_iff_eq] at h
    have ho2 : o = none := firstU_uniq ho (fun i _ _ q => q (by rw [e]))
    subst ho2
    simp -implicitDefEqProofs only [u_first_moved, f_first_moved, b_first_moved, runFn_eq, finF_ite, owIx, List.map_cons, List.map_nil, List.replicate, List.cons_append, List.nil_append, Bool.and_self, Nat.le_refl, Nat.reduceSub, Nat.reduceLeDiff, o_ss, e_ss, finC_okLi, finC_okLb, finC_okLs, finC_okLn, s_trya', pickA_t, pickA_f, e_isX, cn_cur, cmp_ne_b, cmp_eq_b, flmap_nx, flmap_rt, lstR_0, lstR_1, tupR_1, lstR_2, tupR_2, lstR_3, tupR_3, lstR_4, tupR_4, lstR_5, tupR_5, lstR_6, tupR_6, lstR_7, tupR_7, lstR_8, lstR_9, o_met, o_isB, o_rl, metR_some, e_met, pm_lc, pm_tc, pm_li, pm_ti, isBR_b, e_isB, e_rl, t_met, t_isB, raiR_s, s_rais', tryR_nx, tryR_rt, tryR_ex, tryR_ite, s_tryx', hs_nil, hs_cons, pick_nil, pick_cons, pickR_t, pickR_f, noEx_nx, noEx_rt, s_asgs', asgsR_fr, cn_b, cn_s, setN, q_nil, q_cons, sq_nx, sq_rt, sq_bk, sq_ct, sq_ex, sq_ite, bind_ok, bind_ex, bind_ite, fl_ok, fl_ex, fl_ite, map_ok, map_ex, map_ite, opt_some, ite_okB, ite_okV, ite_and, ite_or, ops_some, op1_some, ops2_some, op1F_some, opsF_some, andR_b, orR_b, slt_some, vsl_fr, vsl_ow, mvl_some, vwS_fr, vwS_ow, vw_d, vw_sl, tsO_eq, chn_some, cmpR_some, negR_i, intR_i, biR_some, consO_some, vws_nil, vws_cons, o_bo, o_io, o_k, o_g, o_v, o_mv, o_tup, o_lst, o_bin, o_neg, o_cmp, o_chain, o_isN, o_notN, o_and, o_or, o_not, o_ite, o_idx, o_slc, o_call, o_bi, o_isi, o_lc, o_lci, e_k, e_g, e_v, e_mv, e_tup, e_lst, e_bin, e_neg, e_cmp, e_chain, e_isN, e_notN, e_and, e_or, e_not, e_ite, e_idx, e_slc, e_call, e_bi, e_isi, e_lc, e_lci, p_none, p_some, os_nil, os_cons, vs_nil, vs_cons, t_and, t_or, t_not, t_bo, t_v, t_k, t_bin, t_cmp, t_chain, t_isN, t_notN, t_idx, t_call, t_bi, t_isi, t_lc, t_lci, i_rng1', i_rng2', i_enu', i_zp', i_itr', seq_sl, seqS_fr, seqS_ow, rngR_i, s_asg', s_ex', s_ret', s_retN', s_pass', s_brk', s_cont', s_ife', s_forr', s_sto', s_aug', s_augl', s_mth', s_par', asgR_eq, nxO_some, stoR_eq, stoN_some, hasR_some, ifN_t, augR_add, augR_sub, isOwR_ow, isOwR_fr, mthR_eq, mtO_some, isOwS_eq, cmp_eq_s, cmp_ne_s, cmp_gt, cmp_lt, le_ii, ge_ii, cmp_eq, cmp_ne, List.getElem?_cons_succ, List.getElem?_cons_zero, Option.map_some, Option.bind_some, Bool.not_false, Bool.not_true, Bool.not_not, Bool.or_true, Bool.true_or, Bool.or_false, Bool.false_or, Bool.and_false, Bool.false_and, dsO, idx_l, idx_t, bin_add, bin_sub, slT, slTs, List.contains_nil, List.contains_cons, bindV, bindT, bindTs, List.set_cons_succ, List.set_cons_zero, if_true, if_false, Bool.false_eq_true, List.all_cons, List.all_nil, Bool.and_true, Bool.true_and, decide_true, decide_false, List.length_cons, List.length_nil, Nat.reduceAdd, Nat.reduceLT, callO_eq, calO_some, nodupB, lentIo, lent, slO, List.isEmpty_nil, List.isEmpty_cons, finC_ok0, finC_ex0, finC_okI, finC_exI, finC_exL, finC_ite, allFr, at_i0, at_1, at_2, at_3, at_4, at_5, at_6, at_7, at_8, at_n, Nat.reduceBEq, Bool.or_self, cn_call, cn_G, cn_w, seq_d, isi_int_int, isi_int_bool, isi_int_str, isi_int_tuple, isi_int_list, isi_bool_int, isi_bool_bool, isi_bool_str, isi_bool_tuple, isi_bool_list, isi_str_int, isi_str_bool, isi_str_str, isi_str_tuple, isi_str_list, isi_tuple_int, isi_tuple_bool, isi_tuple_str, isi_tuple_tuple, isi_tuple_list, isi_list_int, isi_list_bool, isi_list_str, isi_list_tuple, isi_list_list, isi_none_int, isi_none_bool, isi_none_str, isi_none_tuple, isi_none_list, tru_b, tru_i, tru_l, tru_t, tru_n, non_n, non_int, non_bool, non_str, non_tuple, non_list, bi_1, bi_2, bi_len_l, bi_len_t, bi_abs, bi_int, bi_intb, bi_max2, bi_min2, bi_tup_l, bi_tup_t, bi_lst_l, bi_lst_t, itm_l, itm_t, isL_l, isL_t, ho_d, hoS_fr, hoS_ow, ho_sl, hoI_ow, ho_io, consV_some, hand_nil, hand_cons, fz_fr, fz_ow, mkTp_eq, mkT_some, fr_n, fr_t, okTp_fr, okTp_ow, outO_ow, outsOf_nil, outsOf_cons, finO_some, finF_nx, finF_rt, finF_ex, need_counts_eq b1 b2 a1 a2 z1 z2, h, optD]
  | false =>
    obtain ⟨rows, hR, cm⟩ := moved_stretches_eq (n := n + 1) (b := b) (a := a) (z := z) (by omega) b2 (by omega) a2 (by omega) z2
    have e := firstU_uniq ho (row_first hR)
    subst e
    cases rows with
    | nil => simp -implicitDefEqProofs only [u_first_moved, f_first_moved, b_first_moved, runFn_eq, finF_ite, owIx, List.map_cons, List.map_nil, List.replicate, List.cons_append, List.nil_append, Bool.and_self, Nat.le_refl, Nat.reduceSub, Nat.reduceLeDiff, o_ss, e_ss, finC_okLi, finC_okLb, finC_okLs, finC_okLn, s_trya', pickA_t, pickA_f, e_isX, cn_cur, cmp_ne_b, cmp_eq_b, flmap_nx, flmap_rt, lstR_0, lstR_1, tupR_1, lstR_2, tupR_2, lstR_3, tupR_3, lstR_4, tupR_4, lstR_5, tupR_5, lstR_6, tupR_6, lstR_7, tupR_7, lstR_8, lstR_9, o_met, o_isB, o_rl, metR_some, e_met, pm_lc, pm_tc, pm_li, pm_ti, isBR_b, e_isB, e_rl, t_met, t_isB, raiR_s, s_rais', tryR_nx, tryR_rt, tryR_ex, tryR_ite, s_tryx', hs_nil, hs_cons, pick_nil, pick_cons, pickR_t, pickR_f, noEx_nx, noEx_rt, s_asgs', asgsR_fr, cn_b, cn_s, setN, q_nil, q_cons, sq_nx, sq_rt, sq_bk, sq_ct, sq_ex, sq_ite, bind_ok, bind_ex, bind_ite, fl_ok, fl_ex, fl_ite, map_ok, map_ex, map_ite, opt_some, ite_okB, ite_okV, ite_and, ite_or, ops_some, op1_some, ops2_some, op1F_some, opsF_some, andR_b, orR_b, slt_some, vsl_fr, vsl_ow, mvl_some, vwS_fr, vwS_ow, vw_d, vw_sl, tsO_eq, chn_some, cmpR_some, negR_i, intR_i, biR_some, consO_some, vws_nil, vws_cons, o_bo, o_io, o_k, o_g, o_v, o_mv, o_tup, o_lst, o_bin, o_neg, o_cmp, o_chain, o_isN, o_notN, o_and, o_or, o_not, o_ite, o_idx, o_slc, o_call, o_bi, o_isi, o_lc, o_lci, e_k, e_g, e_v, e_mv, e_tup, e_lst, e_bin, e_neg, e_cmp, e_chain, e_isN, e_notN, e_and, e_or, e_not, e_ite, e_idx, e_slc, e_call, e_bi, e_isi, e_lc, e_lci, p_none, p_some, os_nil, os_cons, vs_nil, vs_cons, t_and, t_or, t_not, t_bo, t_v, t_k, t_bin, t_cmp, t_chain, t_isN, t_notN, t_idx, t_call, t_bi, t_isi, t_lc, t_lci, i_rng1', i_rng2', i_enu', i_zp', i_itr', seq_sl, seqS_fr, seqS_ow, rngR_i, s_asg', s_ex', s_ret', s_retN', s_pass', s_brk', s_cont', s_ife', s_forr', s_sto', s_aug', s_augl', s_mth', s_par', asgR_eq, nxO_some, stoR_eq, stoN_some, hasR_some, ifN_t, augR_add, augR_sub, isOwR_ow, isOwR_fr, mthR_eq, mtO_some, isOwS_eq, cmp_eq_s, cmp_ne_s, cmp_gt, cmp_lt, le_ii, ge_ii, cmp_eq, cmp_ne, List.getElem?_cons_succ, List.getElem?_cons_zero, Option.map_some, Option.bind_some, Bool.not_false, Bool.not_true, Bool.not_not, Bool.or_true, Bool.true_or, Bool.or_false, Bool.false_or, Bool.and_false, Bool.false_and, dsO, idx_l, idx_t, bin_add, bin_sub, slT, slTs, List.contains_nil, List.contains_cons, bindV, bindT, bindTs, List.set_cons_succ, List.set_cons_zero, if_true, if_false, Bool.false_eq_true, List.all_cons, List.all_nil, Bool.and_true, Bool.true_and, decide_true, decide_false, List.length_cons, List.length_nil, Nat.reduceAdd, Nat.reduceLT, callO_eq, calO_some, nodupB, lentIo, lent, slO, List.isEmpty_nil, List.isEmpty_cons, finC_ok0, finC_ex0, finC_okI, finC_exI, finC_exL, finC_ite, allFr, at_i0, at_1, at_2, at_3, at_4, at_5, at_6, at_7, at_8, at_n, Nat.reduceBEq, Bool.or_self, cn_call, cn_G, cn_w, seq_d, isi_int_int, isi_int_bool, isi_int_str, isi_int_tuple, isi_int_list, isi_bool_int, isi_bool_bool, isi_bool_str, isi_bool_tuple, isi_bool_list, isi_str_int, isi_str_bool, isi_str_str, isi_str_tuple, isi_str_list, isi_tuple_int, isi_tuple_bool, isi_tuple_str, isi_tuple_tuple, isi_tuple_list, isi_list_int, isi_list_bool, isi_list_str, isi_list_tuple, isi_list_list, isi_none_int, isi_none_bool, isi_none_str, isi_none_tuple, isi_none_list, tru_b, tru_i, tru_l, tru_t, tru_n, non_n, non_int, non_bool, non_str, non_tuple, non_list, bi_1, bi_2, bi_len_l, bi_len_t, bi_abs, bi_int, bi_intb, bi_max2, bi_min2, bi_tup_l, bi_tup_t, bi_lst_l, bi_lst_t, itm_l, itm_t, isL_l, isL_t, ho_d, hoS_fr, hoS_ow, ho_sl, hoI_ow, ho_io, consV_some, hand_nil, hand_cons, fz_fr, fz_ow, mkTp_eq, mkT_some, fr_n, fr_t, okTp_fr, okTp_ow, outO_ow, outsOf_nil, outsOf_cons, finO_some, finF_nx, finF_rt, finF_ex, need_counts_eq b1 b2 a1 a2 z1 z2, h, rg, cm, List.map_nil, List.head?, optD, Option.map_none]
    | cons p rest => simp -implicitDefEqProofs only [u_first_moved, f_first_moved, b_first_moved, runFn_eq, finF_ite, owIx, List.map_cons, List.map_nil, List.replicate, List.cons_append, List.nil_append, Bool.and_self, Nat.le_refl, Nat.reduceSub, Nat.reduceLeDiff, o_ss, e_ss, finC_okLi, finC_okLb, finC_okLs, finC_okLn, s_trya', pickA_t, pickA_f, e_isX, cn_cur, cmp_ne_b, cmp_eq_b, flmap_nx, flmap_rt, lstR_0, lstR_1, tupR_1, lstR_2, tupR_2, lstR_3, tupR_3, lstR_4, tupR_4, lstR_5, tupR_5, lstR_6, tupR_6, lstR_7, tupR_7, lstR_8, lstR_9, o_met, o_isB, o_rl, metR_some, e_met, pm_lc, pm_tc, pm_li, pm_ti, isBR_b, e_isB, e_rl, t_met, t_isB, raiR_s, s_rais', tryR_nx, tryR_rt, tryR_ex, tryR_ite, s_tryx', hs_nil, hs_cons, pick_nil, pick_cons, pickR_t, pickR_f, noEx_nx, noEx_rt, s_asgs', asgsR_fr, cn_b, cn_s, setN, q_nil, q_cons, sq_nx, sq_rt, sq_bk, sq_ct, sq_ex, sq_ite, bind_ok, bind_ex, bind_ite, fl_ok, fl_ex, fl_ite, map_ok, map_ex, map_ite, opt_some, ite_okB, ite_okV, ite_and, ite_or, ops_some, op1_some, ops2_some, op1F_some, opsF_some, andR_b, orR_b, slt_some, vsl_fr, vsl_ow, mvl_some, vwS_fr, vwS_ow, vw_d, vw_sl, tsO_eq, chn_some, cmpR_some, negR_i, intR_i, biR_some, consO_some, vws_nil, vws_cons, o_bo, o_io, o_k, o_g, o_v, o_mv, o_tup, o_lst, o_bin, o_neg, o_cmp, o_chain, o_isN, o_notN, o_and, o_or, o_not, o_ite, o_idx, o_slc, o_call, o_bi, o_isi, o_lc, o_lci, e_k, e_g, e_v, e_mv, e_tup, e_lst, e_bin, e_neg, e_cmp, e_chain, e_isN, e_notN, e_and, e_or, e_not, e_ite, e_idx, e_slc, e_call, e_bi, e_isi, e_lc, e_lci, p_none, p_some, os_nil, os_cons, vs_nil, vs_cons, t_and, t_or, t_not, t_bo, t_v, t_k, t_bin, t_cmp, t_chain, t_isN, t_notN, t_idx, t_call, t_bi, t_isi, t_lc, t_lci, i_rng1', i_rng2', i_enu', i_zp', i_itr', seq_sl, seqS_fr, seqS_ow, rngR_i, s_asg', s_ex', s_ret', s_retN', s_pass', s_brk', s_cont', s_ife', s_forr', s_sto', s_aug', s_augl', s_mth', s_par', asgR_eq, nxO_some, stoR_eq, stoN_some, hasR_some, ifN_t, augR_add, augR_sub, isOwR_ow, isOwR_fr, mthR_eq, mtO_some, isOwS_eq, cmp_eq_s, cmp_ne_s, cmp_gt, cmp_lt, le_ii, ge_ii, cmp_eq, cmp_ne, List.getElem?_cons_succ, List.getElem?_cons_zero, Option.map_some, Option.bind_some, Bool.not_false, Bool.not_true, Bool.not_not, Bool.or_true, Bool.true_or, Bool.or_false, Bool.false_or, Bool.and_false, Bool.false_and, dsO, idx_l, idx_t, bin_add, bin_sub, slT, slTs, List.contains_nil, List.contains_cons, bindV, bindT, bindTs, List.set_cons_succ, List.set_cons_zero, if_true, if_false, Bool.false_eq_true, List.all_cons, List.all_nil, Bool.and_true, Bool.true_and, decide_true, decide_false, List.length_cons, List.length_nil, Nat.reduceAdd, Nat.reduceLT, callO_eq, calO_some, nodupB, lentIo, lent, slO, List.isEmpty_nil, List.isEmpty_cons, finC_ok0, finC_ex0, finC_okI, finC_exI, finC_exL, finC_ite, allFr, at_i0, at_1, at_2, at_3, at_4, at_5, at_6, at_7, at_8, at_n, Nat.reduceBEq, Bool.or_self, cn_call, cn_G, cn_w, seq_d, isi_int_int, isi_int_bool, isi_int_str, isi_int_tuple, isi_int_list, isi_bool_int, isi_bool_bool, isi_bool_str, isi_bool_tuple, isi_bool_list, isi_str_int, isi_str_bool, isi_str_str, isi_str_tuple, isi_str_list, isi_tuple_int, isi_tuple_bool, isi_tuple_str, isi_tuple_tuple, isi_tuple_list, isi_list_int, isi_list_bool, isi_list_str, isi_list_tuple, isi_list_list, isi_none_int, isi_none_bool, isi_none_str, isi_none_tuple, isi_none_list, tru_b, tru_i, tru_l, tru_t, tru_n, non_n, non_int, non_bool, non_str, non_tuple, non_list, bi_1, bi_2, bi_len_l, bi_len_t, bi_abs, bi_int, bi_intb, bi_max2, bi_min2, bi_tup_l, bi_tup_t, bi_lst_l, bi_lst_t, itm_l, itm_t, isL_l, isL_t, ho_d, hoS_fr, hoS_ow, ho_sl, hoI_ow, ho_io, consV_some, hand_nil, hand_cons, fz_fr, fz_ow, mkTp_eq, mkT_some, fr_n, fr_t, okTp_fr, okTp_ow, outO_ow, outsOf_nil, outsOf_cons, finO_some, finF_nx, finF_rt, finF_ex, need_counts_eq b1 b2 a1 a2 z1 z2, h, rg, cm, List.map_cons, rowD, List.head?, optD]
/-! the law's own parts -/
theorem ends_e {n : Nat} {b a z c : Int} {x3 : Option Rv} {j : Nat} (c0 : 0 < c) (c1 : c ≤ 12) (z0 : 0 < z) (z1 : z ≤ (10000000000000000000000000000000000000000 : Int)) (hj : [some (.fr (.int b)), some (.fr (.int a)), some (.fr (.int z))][j]? = some (some (Rv.fr (.int c)))) (hj2 : j = 0 ∨ j = 1) :
    evE (Cn n) (.lc (.n 4) (.rng1 (.bin .add (.bo j) (.k (.int 1)))) (.neg (.bin .fdiv (.neg (.bin .mul (.bo 4) (.bo 2))) (.bo j)))) [some (.fr (.int b)), some (.fr (.int a)), some (.fr (.int z)), x3, none] =
    .ok (.ow (.lst ((eL c z).map .int))) [some (.fr (.int b)), some (.fr (.int a)), some (.fr (.int z)), x3, none] := by
  rw [e_lc]
  have h1 : evI (Cn n) (.rng1 (.bin .add (.bo j) (.k (.int 1)))) [some (.fr (.int b)), some (.fr (.int a)), some (.fr (.int z)), x3, none] = .ok ⟨(List.range (c + 1 - 0).toNat).map fun (k : Nat) => .int (0 + k), [], true⟩ [some (.fr (.int b)), some (.fr (.int a)), some (.fr (.int z)), x3, none] := by
    rcases hj2 with rfl | rfl <;> (simp at hj; subst hj; simp -implicitDefEqProofs only [o_ss, e_ss, finC_okLi, finC_okLb, finC_okLs, finC_okLn, s_trya', pickA_t, pickA_f, e_isX, cn_cur, cmp_ne_b, cmp_eq_b, flmap_nx, flmap_rt, lstR_0, lstR_1, tupR_1, lstR_2, tupR_2, lstR_3, tupR_3, lstR_4, tupR_4, lstR_5, tupR_5, lstR_6, tupR_6, lstR_7, tupR_7, lstR_8, lstR_9, o_met, o_isB, o_rl, metR_some, e_met, pm_lc, pm_tc, pm_li, pm_ti, isBR_b, e_isB, e_rl, t_met, t_isB, raiR_s, s_rais', tryR_nx, tryR_rt, tryR_ex, tryR_ite, s_tryx', hs_nil, hs_cons, pick_nil, pick_cons, pickR_t, pickR_f, noEx_nx, noEx_rt, s_asgs', asgsR_fr, cn_b, cn_s, setN, q_nil, q_cons, sq_nx, sq_rt, sq_bk, sq_ct, sq_ex, sq_ite, bind_ok, bind_ex, bind_ite, fl_ok, fl_ex, fl_ite, map_ok, map_ex, map_ite, opt_some, ite_okB, ite_okV, ite_and, ite_or, ops_some, op1_some, ops2_some, op1F_some, opsF_some, andR_b, orR_b, slt_some, vsl_fr, vsl_ow, mvl_some, vwS_fr, vwS_ow, vw_d, vw_sl, tsO_eq, chn_some, cmpR_some, negR_i, intR_i, biR_some, consO_some, vws_nil, vws_cons, o_bo, o_io, o_k, o_g, o_v, o_mv, o_tup, o_lst, o_bin, o_neg, o_cmp, o_chain, o_isN, o_notN, o_and, o_or, o_not, o_ite, o_idx, o_slc, o_call, o_bi, o_isi, o_lc, o_lci, e_k, e_g, e_v, e_mv, e_tup, e_lst, e_bin, e_neg, e_cmp, e_chain, e_isN, e_notN, e_and, e_or, e_not, e_ite, e_idx, e_slc, e_call, e_bi, e_isi, e_lc, e_lci, p_none, p_some, os_nil, os_cons, vs_nil, vs_cons, t_and, t_or, t_not, t_bo, t_v, t_k, t_bin, t_cmp, t_chain, t_isN, t_notN, t_idx, t_call, t_bi, t_isi, t_lc, t_lci, i_rng1', i_rng2', i_enu', i_zp', i_itr', seq_sl, seqS_fr, seqS_ow, rngR_i, s_asg', s_ex', s_ret', s_retN', s_pass', s_brk', s_cont', s_ife', s_forr', s_sto', s_aug', s_augl', s_mth', s_par', asgR_eq, nxO_some, stoR_eq, stoN_some, hasR_some, ifN_t, augR_add, augR_sub, isOwR_ow, isOwR_fr, mthR_eq, mtO_some, isOwS_eq, cmp_eq_s, cmp_ne_s, cmp_gt, cmp_lt, le_ii, ge_ii, cmp_eq, cmp_ne, List.getElem?_cons_succ, List.getElem?_cons_zero, Option.map_some, Option.bind_some, Bool.not_false, Bool.not_true, Bool.not_not, Bool.or_true, Bool.true_or, Bool.or_false, Bool.false_or, Bool.and_false, Bool.false_and, dsO, idx_l, idx_t, bin_add, bin_sub, slT, slTs, List.contains_nil, List.contains_cons, bindV, bindT, bindTs, List.set_cons_succ, List.set_cons_zero, if_true, if_false, Bool.false_eq_true, List.all_cons, List.all_nil, Bool.and_true, Bool.true_and, decide_true, decide_false, List.length_cons, List.length_nil, Nat.reduceAdd, Nat.reduceLT, callO_eq, calO_some, nodupB, lentIo, lent, slO, List.isEmpty_nil, List.isEmpty_cons, finC_ok0, finC_ex0, finC_okI, finC_exI, finC_exL, finC_ite, allFr, at_i0, at_1, at_2, at_3, at_4, at_5, at_6, at_7, at_8, at_n, Nat.reduceBEq, Bool.or_self, cn_call, cn_G, cn_w, seq_d, isi_int_int, isi_int_bool, isi_int_str, isi_int_tuple, isi_int_list, isi_bool_int, isi_bool_bool, isi_bool_str, isi_bool_tuple, isi_bool_list, isi_str_int, isi_str_bool, isi_str_str, isi_str_tuple, isi_str_list, isi_tuple_int, isi_tuple_bool, isi_tuple_str, isi_tuple_tuple, isi_tuple_list, isi_list_int, isi_list_bool, isi_list_str, isi_list_tuple, isi_list_list, isi_none_int, isi_none_bool, isi_none_str, isi_none_tuple, isi_none_list, tru_b, tru_i, tru_l, tru_t, tru_n, non_n, non_int, non_bool, non_str, non_tuple, non_list, bi_1, bi_2, bi_len_l, bi_len_t, bi_abs, bi_int, bi_intb, bi_max2, bi_min2, bi_tup_l, bi_tup_t, bi_lst_l, bi_lst_t, itm_l, itm_t, isL_l, isL_t, ho_d, hoS_fr, hoS_ow, ho_sl, hoI_ow, ho_io, consV_some, hand_nil, hand_cons, fz_fr, fz_ow, mkTp_eq, mkT_some, fr_n, fr_t, okTp_fr, okTp_ow, outO_ow, outsOf_nil, outsOf_cons, finO_some, finF_nx, finF_rt, finF_ex, rangeD_eq])
  rw [h1, bind_ok, lcRun_map (fun d => match d with | .int k => .int (-((-(k * z)) / c)) | d => d) ?_ (by rw [sl24]; simp; omega) rfl rfl]
  · rw [List.map_map, eL, List.map_map, Int.sub_zero]
    congr 2
    refine congrArg Ow.lst (List.map_congr_left fun k _ => ?_)
    show PyData.int (-((-((0 + (k : Int)) * z)) / c)) = _
    rw [Int.zero_add]
    rfl
  · intro x hx
    obtain ⟨k, hk, rfl⟩ := List.mem_map.mp hx
    have hk2 := List.mem_range.mp hk
    have m1 : mulOk (0 + (k : Int)) z = true := big_mul (by omega) (by omega) (by omega) z1
    refine ⟨[some (.fr (.int b)), some (.fr (.int a)), some (.fr (.int z)), x3, some (.fr (.int (0 + k)))], rfl, ⟨.fr (.int (-((-((0 + (k : Int)) * z)) / c))), ?_, rfl⟩, rfl⟩
    rcases hj2 with rfl | rfl <;> (simp at hj; subst hj; simp -implicitDefEqProofs only [o_ss, e_ss, finC_okLi, finC_okLb, finC_okLs, finC_okLn, s_trya', pickA_t, pickA_f, e_isX, cn_cur, cmp_ne_b, cmp_eq_b, flmap_nx, flmap_rt, lstR_0, lstR_1, tupR_1, lstR_2, tupR_2, lstR_3, tupR_3, lstR_4, tupR_4, lstR_5, tupR_5, lstR_6, tupR_6, lstR_7, tupR_7, lstR_8, lstR_9, o_met, o_isB, o_rl, metR_some, e_met, pm_lc, pm_tc, pm_li, pm_ti, isBR_b, e_isB, e_rl, t_met, t_isB, raiR_s, s_rais', tryR_nx, tryR_rt, tryR_ex, tryR_ite, s_tryx', hs_nil, hs_cons, pick_nil, pick_cons, pickR_t, pickR_f, noEx_nx, noEx_rt, s_asgs', asgsR_fr, cn_b, cn_s, setN, q_nil, q_cons, sq_nx, sq_rt, sq_bk, sq_ct, sq_ex, sq_ite, bind_ok, bind_ex, bind_ite, fl_ok, fl_ex, fl_ite, map_ok, map_ex, map_ite, opt_some, ite_okB, ite_okV, ite_and, ite_or, ops_some, op1_some, ops2_some, op1F_some, opsF_some, andR_b, orR_b, slt_some, vsl_fr, vsl_ow, mvl_some, vwS_fr, vwS_ow, vw_d, vw_sl, tsO_eq, chn_some, cmpR_some, negR_i, intR_i, biR_some, consO_some, vws_nil, vws_cons, o_bo, o_io, o_k, o_g, o_v, o_mv, o_tup, o_lst, o_bin, o_neg, o_cmp, o_chain, o_isN, o_notN, o_and, o_or, o_not, o_ite, o_idx, o_slc, o_call, o_bi, o_isi, o_lc, o_lci, e_k, e_g, e_v, e_mv, e_tup, e_lst, e_bin, e_neg, e_cmp, e_chain, e_isN, e_notN, e_and, e_or, e_not, e_ite, e_idx, e_slc, e_call, e_bi, e_isi, e_lc, e_lci, p_none, p_some, os_nil, os_cons, vs_nil, vs_cons, t_and, t_or, t_not, t_bo, t_v, t_k, t_bin, t_cmp, t_chain, t_isN, t_notN, t_idx, t_call, t_bi, t_isi, t_lc, t_lci, i_rng1', i_rng2', i_enu', i_zp', i_itr', seq_sl, seqS_fr, seqS_ow, rngR_i, s_asg', s_ex', s_ret', s_retN', s_pass', s_brk', s_cont', s_ife', s_forr', s_sto', s_aug', s_augl', s_mth', s_par', asgR_eq, nxO_some, stoR_eq, stoN_some, hasR_some, ifN_t, augR_add, augR_sub, isOwR_ow, isOwR_fr, mthR_eq, mtO_some, isOwS_eq, cmp_eq_s, cmp_ne_s, cmp_gt, cmp_lt, le_ii, ge_ii, cmp_eq, cmp_ne, List.getElem?_cons_succ, List.getElem?_cons_zero, Option.map_some, Option.bind_some, Bool.not_false, Bool.not_true, Bool.not_not, Bool.or_true, Bool.true_or, Bool.or_false, Bool.false_or, Bool.and_false, Bool.false_and, dsO, idx_l, idx_t, bin_add, bin_sub, slT, slTs, List.contains_nil, List.contains_cons, bindV, bindT, bindTs, List.set_cons_succ, List.set_cons_zero, if_true, if_false, Bool.false_eq_true, List.all_cons, List.all_nil, Bool.and_true, Bool.true_and, decide_true, decide_false, List.length_cons, List.length_nil, Nat.reduceAdd, Nat.reduceLT, callO_eq, calO_some, nodupB, lentIo, lent, slO, List.isEmpty_nil, List.isEmpty_cons, finC_ok0, finC_ex0, finC_okI, finC_exI, finC_exL, finC_ite, allFr, at_i0, at_1, at_2, at_3, at_4, at_5, at_6, at_7, at_8, at_n, Nat.reduceBEq, Bool.or_self, cn_call, cn_G, cn_w, seq_d, isi_int_int, isi_int_bool, isi_int_str, isi_int_tuple, isi_int_list, isi_bool_int, isi_bool_bool, isi_bool_str, isi_bool_tuple, isi_bool_list, isi_str_int, isi_str_bool, isi_str_str, isi_str_tuple, isi_str_list, isi_tuple_int, isi_tuple_bool, isi_tuple_str, isi_tuple_tuple, isi_tuple_list, isi_list_int, isi_list_bool, isi_list_str, isi_list_tuple, isi_list_list, isi_none_int, isi_none_bool, isi_none_str, isi_none_tuple, isi_none_list, tru_b, tru_i, tru_l, tru_t, tru_n, non_n, non_int, non_bool, non_str, non_tuple, non_list, bi_1, bi_2, bi_len_l, bi_len_t, bi_abs, bi_int, bi_intb, bi_max2, bi_min2, bi_tup_l, bi_tup_t, bi_lst_l, bi_lst_t, itm_l, itm_t, isL_l, isL_t, ho_d, hoS_fr, hoS_ow, ho_sl, hoI_ow, ho_io, consV_some, hand_nil, hand_cons, fz_fr, fz_ow, mkTp_eq, mkT_some, fr_n, fr_t, okTp_fr, okTp_ow, outO_ow, outsOf_nil, outsOf_cons, finO_some, finF_nx, finF_rt, finF_ex, bin_mul m1, bin_fdiv (big_div c0 (by omega))])
theorem bin_addl {xs ys : List D} (h : xs.length + ys.length ≤ 16777216) : binD .add (.list xs) (.list ys) = some (.ow (.lst (xs ++ ys))) := by
  simp [binD, lenOk, sl24, h]
theorem nb_e {n : Nat} {x0 x1 x2 : Option Rv} {es : List Int} (hl : es.length ≤ 1000) (h1 : 1 ≤ es.length) :
    evE (Cn n) (.lc (.n 4) (.rng1 (.bin .sub (.bi .len [(.bo 3)]) (.k (.int 1)))) (.tup [(.idx (.bo 3) (.bo 4)), (.idx (.bo 3) (.bin .add (.bo 4) (.k (.int 1))))])) [x0, x1, x2, some (.ow (.lst (es.map .int))), none] =
    .ok (.ow (.lst ((nb es).map rowD))) [x0, x1, x2, some (.ow (.lst (es.map .int))), none] := by
  rw [e_lc]
  have hr : evI (Cn n) (.rng1 (.bin .sub (.bi .len [(.bo 3)]) (.k (.int 1)))) [x0, x1, x2, some (.ow (.lst (es.map .int))), none] = .ok ⟨(List.range ((((es.map PyData.int).length : Nat) : Int) - 1 - 0).toNat).map fun (k : Nat) => .int (0 + k), [], true⟩ [x0, x1, x2, some (.ow (.lst (es.map .int))), none] := by
    simp -implicitDefEqProofs only [o_ss, e_ss, finC_okLi, finC_okLb, finC_okLs, finC_okLn, s_trya', pickA_t, pickA_f, e_isX, cn_cur, cmp_ne_b, cmp_eq_b, flmap_nx, flmap_rt, lstR_0, lstR_1, tupR_1, lstR_2, tupR_2, lstR_3, tupR_3, lstR_4, tupR_4, lstR_5, tupR_5, lstR_6, tupR_6, lstR_7, tupR_7, lstR_8, lstR_9, o_met, o_isB, o_rl, metR_some, e_met, pm_lc, pm_tc, pm_li, pm_ti, isBR_b, e_isB, e_rl, t_met, t_isB, raiR_s, s_rais', tryR_nx, tryR_rt, tryR_ex, tryR_ite, s_tryx', hs_nil, hs_cons, pick_nil, pick_cons, pickR_t, pickR_f, noEx_nx, noEx_rt, s_asgs', asgsR_fr, cn_b, cn_s, setN, q_nil, q_cons, sq_nx, sq_rt, sq_bk, sq_ct, sq_ex, sq_ite, bind_ok, bind_ex, bind_ite, fl_ok, fl_ex, fl_ite, map_ok, map_ex, map_ite, opt_some, ite_okB, ite_okV, ite_and, ite_or, ops_some, op1_some, ops2_some, op1F_some, opsF_some, andR_b, orR_b, slt_some, vsl_fr, vsl_ow, mvl_some, vwS_fr, vwS_ow, vw_d, vw_sl, tsO_eq, chn_some, cmpR_some, negR_i, intR_i, biR_some, consO_some, vws_nil, vws_cons, o_bo, o_io, o_k, o_g, o_v, o_mv, o_tup, o_lst, o_bin, o_neg, o_cmp, o_chain, o_isN, o_notN, o_and, o_or, o_not, o_ite, o_idx, o_slc, o_call, o_bi, o_isi, o_lc, o_lci, e_k, e_g, e_v, e_mv, e_tup, e_lst, e_bin, e_neg, e_cmp, e_chain, e_isN, e_notN, e_and, e_or, e_not, e_ite, e_idx, e_slc, e_call, e_bi, e_isi, e_lc, e_lci, p_none, p_some, os_nil, os_cons, vs_nil, vs_cons, t_and, t_or, t_not, t_bo, t_v, t_k, t_bin, t_cmp, t_chain, t_isN, t_notN, t_idx, t_call, t_bi, t_isi, t_lc, t_lci, i_rng1', i_rng2', i_enu', i_zp', i_itr', seq_sl, seqS_fr, seqS_ow, rngR_i, s_asg', s_ex', s_ret', s_retN', s_pass', s_brk', s_cont', s_ife', s_forr', s_sto', s_aug', s_augl', s_mth', s_par', asgR_eq, nxO_some, stoR_eq, stoN_some, hasR_some, ifN_t, augR_add, augR_sub, isOwR_ow, isOwR_fr, mthR_eq, mtO_some, isOwS_eq, cmp_eq_s, cmp_ne_s, cmp_gt, cmp_lt, le_ii, ge_ii, cmp_eq, cmp_ne, List.getElem?_cons_succ, List.getElem?_cons_zero, Option.map_some, Option.bind_some, Bool.not_false, Bool.not_true, Bool.not_not, Bool.or_true, Bool.true_or, Bool.or_false, Bool.false_or, Bool.and_false, Bool.false_and, dsO, idx_l, idx_t, bin_add, bin_sub, slT, slTs, List.contains_nil, List.contains_cons, bindV, bindT, bindTs, List.set_cons_succ, List.set_cons_zero, if_true, if_false, Bool.false_eq_true, List.all_cons, List.all_nil, Bool.and_true, Bool.true_and, decide_true, decide_false, List.length_cons, List.length_nil, Nat.reduceAdd, Nat.reduceLT, callO_eq, calO_some, nodupB, lentIo, lent, slO, List.isEmpty_nil, List.isEmpty_cons, finC_ok0, finC_ex0, finC_okI, finC_exI, finC_exL, finC_ite, allFr, at_i0, at_1, at_2, at_3, at_4, at_5, at_6, at_7, at_8, at_n, Nat.reduceBEq, Bool.or_self, cn_call, cn_G, cn_w, seq_d, isi_int_int, isi_int_bool, isi_int_str, isi_int_tuple, isi_int_list, isi_bool_int, isi_bool_bool, isi_bool_str, isi_bool_tuple, isi_bool_list, isi_str_int, isi_str_bool, isi_str_str, isi_str_tuple, isi_str_list, isi_tuple_int, isi_tuple_bool, isi_tuple_str, isi_tuple_tuple, isi_tuple_list, isi_list_int, isi_list_bool, isi_list_str, isi_list_tuple, isi_list_list, isi_none_int, isi_none_bool, isi_none_str, isi_none_tuple, isi_none_list, tru_b, tru_i, tru_l, tru_t, tru_n, non_n, non_int, non_bool, non_str, non_tuple, non_list, bi_1, bi_2, bi_len_l, bi_len_t, bi_abs, bi_int, bi_intb, bi_max2, bi_min2, bi_tup_l, bi_tup_t, bi_lst_l, bi_lst_t, itm_l, itm_t, isL_l, isL_t, ho_d, hoS_fr, hoS_ow, ho_sl, hoI_ow, ho_io, consV_some, hand_nil, hand_cons, fz_fr, fz_ow, mkTp_eq, mkT_some, fr_n, fr_t, okTp_fr, okTp_ow, outO_ow, outsOf_nil, outsOf_cons, finO_some, finF_nx, finF_rt, finF_ex, rangeD_eq]
  rw [hr, bind_ok, lcRun_map (fun d => match d with | .int k => rowD (es.getD k.toNat 0, es.getD (k.toNat + 1) 0) | d => d) ?_ (by rw [sl24]; simp; omega) rfl rfl]
  · rw [List.map_map, nb_eq, List.map_map]
    have e : ((((es.map PyData.int).length : Nat) : Int) - 1 - 0).toNat = es.length - 1 := by rw [List.length_map]; omega
    rw [e]
    congr 2
    refine congrArg Ow.lst (List.map_congr_left fun k _ => ?_)
    show rowD (es.getD (0 + (k : Int)).toNat 0, es.getD ((0 + (k : Int)).toNat + 1) 0) = _
    rw [show (0 + (k : Int)).toNat = k by omega]
    rfl
  · intro x hx
    obtain ⟨k, hk, rfl⟩ := List.mem_map.mp hx
    have hk2 := List.mem_range.mp hk
    rw [List.length_map] at hk2
    have a1 : atI (es.map PyData.int) (0 + (k : Int)) = some (.int (es.getD k 0)) := by
      rw [Int.zero_add, at_n, List.getElem?_map, List.getElem?_eq_getElem (by omega), List.getD_eq_getElem?_getD, List.getElem?_eq_getElem (by omega)]
      rfl
    have a2 : atI (es.map PyData.int) (0 + (k : Int) + 1) = some (.int (es.getD (k + 1) 0)) := by
      have e : (0 + (k : Int) + 1) = ((k + 1 : Nat) : Int) := by omega
      rw [e, at_n, List.getElem?_map, List.getElem?_eq_getElem (by omega), List.getD_eq_getElem?_getD, List.getElem?_eq_getElem (by omega)]
      rfl
    refine ⟨[x0, x1, x2, some (.ow (.lst (es.map .int))), some (.fr (.int (0 + k)))], rfl, ⟨.fr (.tuple [.int (es.getD k 0), .int (es.getD (k + 1) 0)]), ?_, ?_⟩, rfl⟩
    · simp -implicitDefEqProofs only [o_ss, e_ss, finC_okLi, finC_okLb, finC_okLs, finC_okLn, s_trya', pickA_t, pickA_f, e_isX, cn_cur, cmp_ne_b, cmp_eq_b, flmap_nx, flmap_rt, lstR_0, lstR_1, tupR_1, lstR_2, tupR_2, lstR_3, tupR_3, lstR_4, tupR_4, lstR_5, tupR_5, lstR_6, tupR_6, lstR_7, tupR_7, lstR_8, lstR_9, o_met, o_isB, o_rl, metR_some, e_met, pm_lc, pm_tc, pm_li, pm_ti, isBR_b, e_isB, e_rl, t_met, t_isB, raiR_s, s_rais', tryR_nx, tryR_rt, tryR_ex, tryR_ite, s_tryx', hs_nil, hs_cons, pick_nil, pick_cons, pickR_t, pickR_f, noEx_nx, noEx_rt, s_asgs', asgsR_fr, cn_b, cn_s, setN, q_nil, q_cons, sq_nx, sq_rt, sq_bk, sq_ct, sq_ex, sq_ite, bind_ok, bind_ex, bind_ite, fl_ok, fl_ex, fl_ite, map_ok, map_ex, map_ite, opt_some, ite_okB, ite_okV, ite_and, ite_or, ops_some, op1_some, ops2_some, op1F_some, opsF_some, andR_b, orR_b, slt_some, vsl_fr, vsl_ow, mvl_some, vwS_fr, vwS_ow, vw_d, vw_sl, tsO_eq, chn_some, cmpR_some, negR_i, intR_i, biR_some, consO_some, vws_nil, vws_cons, o_bo, o_io, o_k, o_g, o_v, o_mv, o_tup, o_lst, o_bin, o_neg, o_cmp, o_chain, o_isN, o_notN, o_and, o_or, o_not, o_ite, o_idx, o_slc, o_call, o_bi, o_isi, o_lc, o_lci, e_k, e_g, e_v, e_mv, e_tup, e_lst, e_bin, e_neg, e_cmp, e_chain, e_isN, e_notN, e_and, e_or, e_not, e_ite, e_idx, e_slc, e_call, e_bi, e_isi, e_lc, e_lci, p_none, p_some, os_nil, os_cons, vs_nil, vs_cons, t_and, t_or, t_not, t_bo, t_v, t_k, t_bin, t_cmp, t_chain, t_isN, t_notN, t_idx, t_call, t_bi, t_isi, t_lc, t_lci, i_rng1', i_rng2', i_enu', i_zp', i_itr', seq_sl, seqS_fr, seqS_ow, rngR_i, s_asg', s_ex', s_ret', s_retN', s_pass', s_brk', s_cont', s_ife', s_forr', s_sto', s_aug', s_augl', s_mth', s_par', asgR_eq, nxO_some, stoR_eq, stoN_some, hasR_some, ifN_t, augR_add, augR_sub, isOwR_ow, isOwR_fr, mthR_eq, mtO_some, isOwS_eq, cmp_eq_s, cmp_ne_s, cmp_gt, cmp_lt, le_ii, ge_ii, cmp_eq, cmp_ne, List.getElem?_cons_succ, List.getElem?_cons_zero, Option.map_some, Option.bind_some, Bool.not_false, Bool.not_true, Bool.not_not, Bool.or_true, Bool.true_or, Bool.or_false, Bool.false_or, Bool.and_false, Bool.false_and, dsO, idx_l, idx_t, bin_add, bin_sub, slT, slTs, List.contains_nil, List.contains_cons, bindV, bindT, bindTs, List.set_cons_succ, List.set_cons_zero, if_true, if_false, Bool.false_eq_true, List.all_cons, List.all_nil, Bool.and_true, Bool.true_and, decide_true, decide_false, List.length_cons, List.length_nil, Nat.reduceAdd, Nat.reduceLT, callO_eq, calO_some, nodupB, lentIo, lent, slO, List.isEmpty_nil, List.isEmpty_cons, finC_ok0, finC_ex0, finC_okI, finC_exI, finC_exL, finC_ite, allFr, at_i0, at_1, at_2, at_3, at_4, at_5, at_6, at_7, at_8, at_n, Nat.reduceBEq, Bool.or_self, cn_call, cn_G, cn_w, seq_d, isi_int_int, isi_int_bool, isi_int_str, isi_int_tuple, isi_int_list, isi_bool_int, isi_bool_bool, isi_bool_str, isi_bool_tuple, isi_bool_list, isi_str_int, isi_str_bool, isi_str_str, isi_str_tuple, isi_str_list, isi_tuple_int, isi_tuple_bool, isi_tuple_str, isi_tuple_tuple, isi_tuple_list, isi_list_int, isi_list_bool, isi_list_str, isi_list_tuple, isi_list_list, isi_none_int, isi_none_bool, isi_none_str, isi_none_tuple, isi_none_list, tru_b, tru_i, tru_l, tru_t, tru_n, non_n, non_int, non_bool, non_str, non_tuple, non_list, bi_1, bi_2, bi_len_l, bi_len_t, bi_abs, bi_int, bi_intb, bi_max2, bi_min2, bi_tup_l, bi_tup_t, bi_lst_l, bi_lst_t, itm_l, itm_t, isL_l, isL_t, ho_d, hoS_fr, hoS_ow, ho_sl, hoI_ow, ho_io, consV_some, hand_nil, hand_cons, fz_fr, fz_ow, mkTp_eq, mkT_some, fr_n, fr_t, okTp_fr, okTp_ow, outO_ow, outsOf_nil, outsOf_cons, finO_some, finF_nx, finF_rt, finF_ex, a1, a2]
    · have e : (0 + (k : Int)).toNat = k := by omega
      simp only [fz_fr, rowD, e]
theorem parts_eq {n : Nat} {b a z : Int} (b0 : 1 ≤ b) (b1 : b ≤ 12) (a0 : 1 ≤ a) (a1 : a ≤ 12) (z0 : 1 ≤ z) (z1 : z ≤ (10000000000000000000000000000000000000000 : Int)) : callF pg (n + 1) F_law_parts [.fr (.int b), .fr (.int a), .fr (.int z)] = .ok (.ow (.lst ((nb (sortU (eL b z ++ eL a z))).map rowD))) [] := by
  have e1 := ends_e (n := n) (b := b) (a := a) (z := z) (c := b) (x3 := none) (j := 0) (by omega) b1 (by omega) z1 rfl (.inl rfl)
  have e2 := ends_e (n := n) (b := b) (a := a) (z := z) (c := a) (x3 := some (.ow (.lst ((eL b z).map .int)))) (j := 1) (by omega) a1 (by omega) z1 rfl (.inr rfl)
  have l1 : (eL b z).length ≤ 13 := by simp [eL]; omega
  have l2 : (eL a z).length ≤ 13 := by simp [eL]; omega
  have bl := bin_addl (xs := (eL b z).map .int) (ys := (eL a z).map .int) (by rw [List.length_map, List.length_map]; omega)
  have io : intsOf ((eL b z).map PyData.int ++ (eL a z).map PyData.int) = some (eL b z ++ eL a z) := by rw [← List.map_append, intsOf_int]
  have sl := ssR_l (r := [some (.fr (.int b)), some (.fr (.int a)), some (.fr (.int z)), some (.ow (.lst ((eL b z).map .int ++ (eL a z).map .int))), none]) io (by rw [List.length_append]; omega)
  have hsl : ∀ l : List Int, (sortU l).length ≤ l.length := by
    intro l
    induction l with
    | nil => exact Nat.le_refl _
    | cons x l ih =>
      have : ∀ m : List Int, (insU x m).length ≤ m.length + 1 := by
        intro m
        induction m with
        | nil => simp [insU]
        | cons y ys ih =>
          simp only [insU]
          split
          · simp
          · split <;> simp <;> omega
      have := this (sortU l)
      simp only [sortU, List.length_cons]
      omega
  have l3 := hsl (eL b z ++ eL a z)
  rw [List.length_append] at l3
  have l4 : 1 ≤ (sortU (eL b z ++ eL a z)).length := List.length_pos_of_mem (mem_sortU.mpr (List.mem_append_left _ (eL_mem (c := b) (z := z) (by omega)).1))
  have ne := nb_e (n := n) (x0 := some (.fr (.int b))) (x1 := some (.fr (.int a))) (x2 := some (.fr (.int z))) (es := sortU (eL b z ++ eL a z)) (by omega) l4
  simp -implicitDefEqProofs only [u_law_parts, f_law_parts, b_law_parts, runFn_eq, finF_ite, owIx, List.map_cons, List.map_nil, List.replicate, List.cons_append, List.nil_append, Bool.and_self, Nat.le_refl, Nat.reduceSub, Nat.reduceLeDiff, o_ss, e_ss, finC_okLi, finC_okLb, finC_okLs, finC_okLn, s_trya', pickA_t, pickA_f, e_isX, cn_cur, cmp_ne_b, cmp_eq_b, flmap_nx, flmap_rt, lstR_0, lstR_1, tupR_1, lstR_2, tupR_2, lstR_3, tupR_3, lstR_4, tupR_4, lstR_5, tupR_5, lstR_6, tupR_6, lstR_7, tupR_7, lstR_8, lstR_9, o_met, o_isB, o_rl, metR_some, e_met, pm_lc, pm_tc, pm_li, pm_ti, isBR_b, e_isB, e_rl, t_met, t_isB, raiR_s, s_rais', tryR_nx, tryR_rt, tryR_ex, tryR_ite, s_tryx', hs_nil, hs_cons, pick_nil, pick_cons, pickR_t, pickR_f, noEx_nx, noEx_rt, s_asgs', asgsR_fr, cn_b, cn_s, setN, q_nil, q_cons, sq_nx, sq_rt, sq_bk, sq_ct, sq_ex, sq_ite, bind_ok, bind_ex, bind_ite, fl_ok, fl_ex, fl_ite, map_ok, map_ex, map_ite, opt_some, ite_okB, ite_okV, ite_and, ite_or, ops_some, op1_some, ops2_some, op1F_some, opsF_some, andR_b, orR_b, slt_some, vsl_fr, vsl_ow, mvl_some, vwS_fr, vwS_ow, vw_d, vw_sl, tsO_eq, chn_some, cmpR_some, negR_i, intR_i, biR_some, consO_some, vws_nil, vws_cons, o_bo, o_io, o_k, o_g, o_v, o_mv, o_tup, o_lst, o_bin, o_neg, o_cmp, o_chain, o_isN, o_notN, o_and, o_or, o_not, o_ite, o_idx, o_slc, o_call, o_bi, o_isi, o_lc, o_lci, e_k, e_g, e_v, e_mv, e_tup, e_lst, e_bin, e_neg, e_cmp, e_chain, e_isN, e_notN, e_and, e_or, e_not, e_ite, e_idx, e_slc, e_call, e_bi, e_isi, p_none, p_some, os_nil, os_cons, vs_nil, vs_cons, t_and, t_or, t_not, t_bo, t_v, t_k, t_bin, t_cmp, t_chain, t_isN, t_notN, t_idx, t_call, t_bi, t_isi, t_lc, t_lci, i_rng1', i_rng2', i_enu', i_zp', i_itr', seq_sl, seqS_fr, seqS_ow, rngR_i, s_asg', s_ex', s_ret', s_retN', s_pass', s_brk', s_cont', s_ife', s_forr', s_sto', s_aug', s_augl', s_mth', s_par', asgR_eq, nxO_some, stoR_eq, stoN_some, hasR_some, ifN_t, augR_add, augR_sub, isOwR_ow, isOwR_fr, mthR_eq, mtO_some, isOwS_eq, cmp_eq_s, cmp_ne_s, cmp_gt, cmp_lt, le_ii, ge_ii, cmp_eq, cmp_ne, List.getElem?_cons_succ, List.getElem?_cons_zero, Option.map_some, Option.bind_some, Bool.not_false, Bool.not_true, Bool.not_not, Bool.or_true, Bool.true_or, Bool.or_false, Bool.false_or, Bool.and_false, Bool.false_and, dsO, idx_l, idx_t, bin_add, bin_sub, slT, slTs, List.contains_nil, List.contains_cons, bindV, bindT, bindTs, List.set_cons_succ, List.set_cons_zero, if_true, if_false, Bool.false_eq_true, List.all_cons, List.all_nil, Bool.and_true, Bool.true_and, decide_true, decide_false, List.length_cons, List.length_nil, Nat.reduceAdd, Nat.reduceLT, callO_eq, calO_some, nodupB, lentIo, lent, slO, List.isEmpty_nil, List.isEmpty_cons, finC_ok0, finC_ex0, finC_okI, finC_exI, finC_exL, finC_ite, allFr, at_i0, at_1, at_2, at_3, at_4, at_5, at_6, at_7, at_8, at_n, Nat.reduceBEq, Bool.or_self, cn_call, cn_G, cn_w, seq_d, isi_int_int, isi_int_bool, isi_int_str, isi_int_tuple, isi_int_list, isi_bool_int, isi_bool_bool, isi_bool_str, isi_bool_tuple, isi_bool_list, isi_str_int, isi_str_bool, isi_str_str, isi_str_tuple, isi_str_list, isi_tuple_int, isi_tuple_bool, isi_tuple_str, isi_tuple_tuple, isi_tuple_list, isi_list_int, isi_list_bool, isi_list_str, isi_list_tuple, isi_list_list, isi_none_int, isi_none_bool, isi_none_str, isi_none_tuple, isi_none_list, tru_b, tru_i, tru_l, tru_t, tru_n, non_n, non_int, non_bool, non_str, non_tuple, non_list, bi_1, bi_2, bi_len_l, bi_len_t, bi_abs, bi_int, bi_intb, bi_max2, bi_min2, bi_tup_l, bi_tup_t, bi_lst_l, bi_lst_t, itm_l, itm_t, isL_l, isL_t, ho_d, hoS_fr, hoS_ow, ho_sl, hoI_ow, ho_io, consV_some, hand_nil, hand_cons, fz_fr, fz_ow, mkTp_eq, mkT_some, fr_n, fr_t, okTp_fr, okTp_ow, outO_ow, outsOf_nil, outsOf_cons, finO_some, finF_nx, finF_rt, finF_ex, e1, e2, bl, sl, ne]
theorem part_mem {b a z : Int} : ∀ {ps : List (Int × Int)} {m : Int}, PartL b a z m ps → ∀ p ∈ ps, m ≤ p.1 ∧ p.1 ≤ z
  | [], _, _ => fun p hp => by cases hp
  | q :: ps, m, h => fun p hp => by
    obtain ⟨h1, h2, h3, h4⟩ := h
    have le := part_le h4
    rcases List.mem_cons.mp hp with rfl | hp
    · omega
    · have := part_mem h4 p hp
      omega
theorem ones_e {n : Nat} {x0 x1 x2 x3 x4 x6 x7 x8 x9 x10 x11 : Option Rv} {z : Int} (z0 : 1 ≤ z) (z1 : z ≤ 120) :
    evE (Cn n) (.lc (.n 12) (.rng1 (.bo 5)) (.tup [(.v 12), (.bin .add (.bo 12) (.k (.int 1)))])) [x0, x1, x2, x3, x4, some (.fr (.int z)), x6, x7, x8, x9, x10, x11, none] =
    .ok (.ow (.lst ((ones 0 z.toNat).map rowD))) [x0, x1, x2, x3, x4, some (.fr (.int z)), x6, x7, x8, x9, x10, x11, none] := by
  rw [e_lc]
  have hr : evI (Cn n) (.rng1 (.bo 5)) [x0, x1, x2, x3, x4, some (.fr (.int z)), x6, x7, x8, x9, x10, x11, none] = .ok ⟨(List.range (z - 0).toNat).map fun (k : Nat) => .int (0 + k), [], true⟩ [x0, x1, x2, x3, x4, some (.fr (.int z)), x6, x7, x8, x9, x10, x11, none] := by
    simp -implicitDefEqProofs only [o_ss, e_ss, finC_okLi, finC_okLb, finC_okLs, finC_okLn, s_trya', pickA_t, pickA_f, e_isX, cn_cur, cmp_ne_b, cmp_eq_b, flmap_nx, flmap_rt, lstR_0, lstR_1, tupR_1, lstR_2, tupR_2, lstR_3, tupR_3, lstR_4, tupR_4, lstR_5, tupR_5, lstR_6, tupR_6, lstR_7, tupR_7, lstR_8, lstR_9, o_met, o_isB, o_rl, metR_some, e_met, pm_lc, pm_tc, pm_li, pm_ti, isBR_b, e_isB, e_rl, t_met, t_isB, raiR_s, s_rais', tryR_nx, tryR_rt, tryR_ex, tryR_ite, s_tryx', hs_nil, hs_cons, pick_nil, pick_cons, pickR_t, pickR_f, noEx_nx, noEx_rt, s_asgs', asgsR_fr, cn_b, cn_s, setN, q_nil, q_cons, sq_nx, sq_rt, sq_bk, sq_ct, sq_ex, sq_ite, bind_ok, bind_ex, bind_ite, fl_ok, fl_ex, fl_ite, map_ok, map_ex, map_ite, opt_some, ite_okB, ite_okV, ite_and, ite_or, ops_some, op1_some, ops2_some, op1F_some, opsF_some, andR_b, orR_b, slt_some, vsl_fr, vsl_ow, mvl_some, vwS_fr, vwS_ow, vw_d, vw_sl, tsO_eq, chn_some, cmpR_some, negR_i, intR_i, biR_some, consO_some, vws_nil, vws_cons, o_bo, o_io, o_k, o_g, o_v, o_mv, o_tup, o_lst, o_bin, o_neg, o_cmp, o_chain, o_isN, o_notN, o_and, o_or, o_not, o_ite, o_idx, o_slc, o_call, o_bi, o_isi, o_lc, o_lci, e_k, e_g, e_v, e_mv, e_tup, e_lst, e_bin, e_neg, e_cmp, e_chain, e_isN, e_notN, e_and, e_or, e_not, e_ite, e_idx, e_slc, e_call, e_bi, e_isi, e_lc, e_lci, p_none, p_some, os_nil, os_cons, vs_nil, vs_cons, t_and, t_or, t_not, t_bo, t_v, t_k, t_bin, t_cmp, t_chain, t_isN, t_notN, t_idx, t_call, t_bi, t_isi, t_lc, t_lci, i_rng1', i_rng2', i_enu', i_zp', i_itr', seq_sl, seqS_fr, seqS_ow, rngR_i, s_asg', s_ex', s_ret', s_retN', s_pass', s_brk', s_cont', s_ife', s_forr', s_sto', s_aug', s_augl', s_mth', s_par', asgR_eq, nxO_some, stoR_eq, stoN_some, hasR_some, ifN_t, augR_add, augR_sub, isOwR_ow, isOwR_fr, mthR_eq, mtO_some, isOwS_eq, cmp_eq_s, cmp_ne_s, cmp_gt, cmp_lt, le_ii, ge_ii, cmp_eq, cmp_ne, List.getElem?_cons_succ, List.getElem?_cons_zero, Option.map_some, Option.bind_some, Bool.not_false, Bool.not_true, Bool.not_not, Bool.or_true, Bool.true_or, Bool.or_false, Bool.false_or, Bool.and_false, Bool.false_and, dsO, idx_l, idx_t, bin_add, bin_sub, slT, slTs, List.contains_nil, List.contains_cons, bindV, bindT, bindTs, List.set_cons_succ, List.set_cons_zero, if_true, if_false, Bool.false_eq_true, List.all_cons, List.all_nil, Bool.and_true, Bool.true_and, decide_true, decide_false, List.length_cons, List.length_nil, Nat.reduceAdd, Nat.reduceLT, callO_eq, calO_some, nodupB, lentIo, lent, slO, List.isEmpty_nil, List.isEmpty_cons, finC_ok0, finC_ex0, finC_okI, finC_exI, finC_exL, finC_ite, allFr, at_i0, at_1, at_2, at_3, at_4, at_5, at_6, at_7, at_8, at_n, Nat.reduceBEq, Bool.or_self, cn_call, cn_G, cn_w, seq_d, isi_int_int, isi_int_bool, isi_int_str, isi_int_tuple, isi_int_list, isi_bool_int, isi_bool_bool, isi_bool_str, isi_bool_tuple, isi_bool_list, isi_str_int, isi_str_bool, isi_str_str, isi_str_tuple, isi_str_list, isi_tuple_int, isi_tuple_bool, isi_tuple_str, isi_tuple_tuple, isi_tuple_list, isi_list_int, isi_list_bool, isi_list_str, isi_list_tuple, isi_list_list, isi_none_int, isi_none_bool, isi_none_str, isi_none_tuple, isi_none_list, tru_b, tru_i, tru_l, tru_t, tru_n, non_n, non_int, non_bool, non_str, non_tuple, non_list, bi_1, bi_2, bi_len_l, bi_len_t, bi_abs, bi_int, bi_intb, bi_max2, bi_min2, bi_tup_l, bi_tup_t, bi_lst_l, bi_lst_t, itm_l, itm_t, isL_l, isL_t, ho_d, hoS_fr, hoS_ow, ho_sl, hoI_ow, ho_io, consV_some, hand_nil, hand_cons, fz_fr, fz_ow, mkTp_eq, mkT_some, fr_n, fr_t, okTp_fr, okTp_ow, outO_ow, outsOf_nil, outsOf_cons, finO_some, finF_nx, finF_rt, finF_ex, rangeD_eq]
  rw [hr, bind_ok, lcRun_map (fun d => match d with | .int k => rowD (k, k + 1) | d => d) ?_ (by rw [sl24]; simp; omega) rfl rfl]
  · rw [List.map_map, ones_eq, List.map_map, Int.sub_zero]
    rfl
  · intro x hx
    obtain ⟨k, hk, rfl⟩ := List.mem_map.mp hx
    refine ⟨[x0, x1, x2, x3, x4, some (.fr (.int z)), x6, x7, x8, x9, x10, x11, some (.fr (.int (0 + k)))], rfl, ⟨.fr (.tuple [.int (0 + k), .int (0 + k + 1)]), ?_, rfl⟩, rfl⟩
    simp -implicitDefEqProofs only [o_ss, e_ss, finC_okLi, finC_okLb, finC_okLs, finC_okLn, s_trya', pickA_t, pickA_f, e_isX, cn_cur, cmp_ne_b, cmp_eq_b, flmap_nx, flmap_rt, lstR_0, lstR_1, tupR_1, lstR_2, tupR_2, lstR_3, tupR_3, lstR_4, tupR_4, lstR_5, tupR_5, lstR_6, tupR_6, lstR_7, tupR_7, lstR_8, lstR_9, o_met, o_isB, o_rl, metR_some, e_met, pm_lc, pm_tc, pm_li, pm_ti, isBR_b, e_isB, e_rl, t_met, t_isB, raiR_s, s_rais', tryR_nx, tryR_rt, tryR_ex, tryR_ite, s_tryx', hs_nil, hs_cons, pick_nil, pick_cons, pickR_t, pickR_f, noEx_nx, noEx_rt, s_asgs', asgsR_fr, cn_b, cn_s, setN, q_nil, q_cons, sq_nx, sq_rt, sq_bk, sq_ct, sq_ex, sq_ite, bind_ok, bind_ex, bind_ite, fl_ok, fl_ex, fl_ite, map_ok, map_ex, map_ite, opt_some, ite_okB, ite_okV, ite_and, ite_or, ops_some, op1_some, ops2_some, op1F_some, opsF_some, andR_b, orR_b, slt_some, vsl_fr, vsl_ow, mvl_some, vwS_fr, vwS_ow, vw_d, vw_sl, tsO_eq, chn_some, cmpR_some, negR_i, intR_i, biR_some, consO_some, vws_nil, vws_cons, o_bo, o_io, o_k, o_g, o_v, o_mv, o_tup, o_lst, o_bin, o_neg, o_cmp, o_chain, o_isN, o_notN, o_and, o_or, o_not, o_ite, o_idx, o_slc, o_call, o_bi, o_isi, o_lc, o_lci, e_k, e_g, e_v, e_mv, e_tup, e_lst, e_bin, e_neg, e_cmp, e_chain, e_isN, e_notN, e_and, e_or, e_not, e_ite, e_idx, e_slc, e_call, e_bi, e_isi, e_lc, e_lci, p_none, p_some, os_nil, os_cons, vs_nil, vs_cons, t_and, t_or, t_not, t_bo, t_v, t_k, t_bin, t_cmp, t_chain, t_isN, t_notN, t_idx, t_call, t_bi, t_isi, t_lc, t_lci, i_rng1', i_rng2', i_enu', i_zp', i_itr', seq_sl, seqS_fr, seqS_ow, rngR_i, s_asg', s_ex', s_ret', s_retN', s_pass', s_brk', s_cont', s_ife', s_forr', s_sto', s_aug', s_augl', s_mth', s_par', asgR_eq, nxO_some, stoR_eq, stoN_some, hasR_some, ifN_t, augR_add, augR_sub, isOwR_ow, isOwR_fr, mthR_eq, mtO_some, isOwS_eq, cmp_eq_s, cmp_ne_s, cmp_gt, cmp_lt, le_ii, ge_ii, cmp_eq, cmp_ne, List.getElem?_cons_succ, List.getElem?_cons_zero, Option.map_some, Option.bind_some, Bool.not_false, Bool.not_true, Bool.not_not, Bool.or_true, Bool.true_or, Bool.or_false, Bool.false_or, Bool.and_false, Bool.false_and, dsO, idx_l, idx_t, bin_add, bin_sub, slT, slTs, List.contains_nil, List.contains_cons, bindV, bindT, bindTs, List.set_cons_succ, List.set_cons_zero, if_true, if_false, Bool.false_eq_true, List.all_cons, List.all_nil, Bool.and_true, Bool.true_and, decide_true, decide_false, List.length_cons, List.length_nil, Nat.reduceAdd, Nat.reduceLT, callO_eq, calO_some, nodupB, lentIo, lent, slO, List.isEmpty_nil, List.isEmpty_cons, finC_ok0, finC_ex0, finC_okI, finC_exI, finC_exL, finC_ite, allFr, at_i0, at_1, at_2, at_3, at_4, at_5, at_6, at_7, at_8, at_n, Nat.reduceBEq, Bool.or_self, cn_call, cn_G, cn_w, seq_d, isi_int_int, isi_int_bool, isi_int_str, isi_int_tuple, isi_int_list, isi_bool_int, isi_bool_bool, isi_bool_str, isi_bool_tuple, isi_bool_list, isi_str_int, isi_str_bool, isi_str_str, isi_str_tuple, isi_str_list, isi_tuple_int, isi_tuple_bool, isi_tuple_str, isi_tuple_tuple, isi_tuple_list, isi_list_int, isi_list_bool, isi_list_str, isi_list_tuple, isi_list_list, isi_none_int, isi_none_bool, isi_none_str, isi_none_tuple, isi_none_list, tru_b, tru_i, tru_l, tru_t, tru_n, non_n, non_int, non_bool, non_str, non_tuple, non_list, bi_1, bi_2, bi_len_l, bi_len_t, bi_abs, bi_int, bi_intb, bi_max2, bi_min2, bi_tup_l, bi_tup_t, bi_lst_l, bi_lst_t, itm_l, itm_t, isL_l, isL_t, ho_d, hoS_fr, hoS_ow, ho_sl, hoI_ow, ho_io, consV_some, hand_nil, hand_cons, fz_fr, fz_ow, mkTp_eq, mkT_some, fr_n, fr_t, okTp_fr, okTp_ow, outO_ow, outsOf_nil, outsOf_cons, finO_some, finF_nx, finF_rt, finF_ex]
def pR (b a z : Int) : D → Bool
  | .tuple [.int x, .int y] => unlB b a z (x, y)
  | _ => false
theorem rows_e {n : Nat} {x0 x1 x2 x6 x7 x8 x9 : Option Rv} {b a z : Int} {ps : List (Int × Int)} (b1 : 1 ≤ b) (b2 : b ≤ 1000) (a1 : 1 ≤ a) (a2 : a ≤ 1000) (z1 : 1 ≤ z) (z2 : z ≤ (10000000000000000000000000000000000000000 : Int)) (hl : ps.length ≤ 16777216) (hp : PartL b a z 0 ps) :
    evE (Cn n) (.lci (.n 11) (.itr (.v 10)) (.cmp .ne (.bin .fdiv (.bin .mul (.idx (.bo 11) (.k (.int 0))) (.bo 3)) (.bo 5)) (.bin .fdiv (.bin .mul (.idx (.bo 11) (.k (.int 0))) (.bo 4)) (.bo 5))) (.v 11)) [x0, x1, x2, some (.fr (.int b)), some (.fr (.int a)), some (.fr (.int z)), x6, x7, x8, x9, some (.ow (.lst (ps.map rowD))), none, none] =
    .ok (.ow (.lst ((ps.filter (unlB b a z)).map rowD))) [x0, x1, x2, some (.fr (.int b)), some (.fr (.int a)), some (.fr (.int z)), x6, x7, x8, x9, some (.fr (.list (ps.map rowD))), none, none] := by
  rw [e_lci]
  have hr : evI (Cn n) (.itr (.v 10)) [x0, x1, x2, some (.fr (.int b)), some (.fr (.int a)), some (.fr (.int z)), x6, x7, x8, x9, some (.ow (.lst (ps.map rowD))), none, none] = .ok ⟨ps.map rowD, [], true⟩ [x0, x1, x2, some (.fr (.int b)), some (.fr (.int a)), some (.fr (.int z)), x6, x7, x8, x9, some (.fr (.list (ps.map rowD))), none, none] := by
    simp -implicitDefEqProofs only [o_ss, e_ss, finC_okLi, finC_okLb, finC_okLs, finC_okLn, s_trya', pickA_t, pickA_f, e_isX, cn_cur, cmp_ne_b, cmp_eq_b, flmap_nx, flmap_rt, lstR_0, lstR_1, tupR_1, lstR_2, tupR_2, lstR_3, tupR_3, lstR_4, tupR_4, lstR_5, tupR_5, lstR_6, tupR_6, lstR_7, tupR_7, lstR_8, lstR_9, o_met, o_isB, o_rl, metR_some, e_met, pm_lc, pm_tc, pm_li, pm_ti, isBR_b, e_isB, e_rl, t_met, t_isB, raiR_s, s_rais', tryR_nx, tryR_rt, tryR_ex, tryR_ite, s_tryx', hs_nil, hs_cons, pick_nil, pick_cons, pickR_t, pickR_f, noEx_nx, noEx_rt, s_asgs', asgsR_fr, cn_b, cn_s, setN, q_nil, q_cons, sq_nx, sq_rt, sq_bk, sq_ct, sq_ex, sq_ite, bind_ok, bind_ex, bind_ite, fl_ok, fl_ex, fl_ite, map_ok, map_ex, map_ite, opt_some, ite_okB, ite_okV, ite_and, ite_or, ops_some, op1_some, ops2_some, op1F_some, opsF_some, andR_b, orR_b, slt_some, vsl_fr, vsl_ow, mvl_some, vwS_fr, vwS_ow, vw_d, vw_sl, tsO_eq, chn_some, cmpR_some, negR_i, intR_i, biR_some, consO_some, vws_nil, vws_cons, o_bo, o_io, o_k, o_g, o_v, o_mv, o_tup, o_lst, o_bin, o_neg, o_cmp, o_chain, o_isN, o_notN, o_and, o_or, o_not, o_ite, o_idx, o_slc, o_call, o_bi, o_isi, o_lc, o_lci, e_k, e_g, e_v, e_mv, e_tup, e_lst, e_bin, e_neg, e_cmp, e_chain, e_isN, e_notN, e_and, e_or, e_not, e_ite, e_idx, e_slc, e_call, e_bi, e_isi, e_lc, e_lci, p_none, p_some, os_nil, os_cons, vs_nil, vs_cons, t_and, t_or, t_not, t_bo, t_v, t_k, t_bin, t_cmp, t_chain, t_isN, t_notN, t_idx, t_call, t_bi, t_isi, t_lc, t_lci, i_rng1', i_rng2', i_enu', i_zp', i_itr', seq_sl, seqS_fr, seqS_ow, rngR_i, s_asg', s_ex', s_ret', s_retN', s_pass', s_brk', s_cont', s_ife', s_forr', s_sto', s_aug', s_augl', s_mth', s_par', asgR_eq, nxO_some, stoR_eq, stoN_some, hasR_some, ifN_t, augR_add, augR_sub, isOwR_ow, isOwR_fr, mthR_eq, mtO_some, isOwS_eq, cmp_eq_s, cmp_ne_s, cmp_gt, cmp_lt, le_ii, ge_ii, cmp_eq, cmp_ne, List.getElem?_cons_succ, List.getElem?_cons_zero, Option.map_some, Option.bind_some, Bool.not_false, Bool.not_true, Bool.not_not, Bool.or_true, Bool.true_or, Bool.or_false, Bool.false_or, Bool.and_false, Bool.false_and, dsO, idx_l, idx_t, bin_add, bin_sub, slT, slTs, List.contains_nil, List.contains_cons, bindV, bindT, bindTs, List.set_cons_succ, List.set_cons_zero, if_true, if_false, Bool.false_eq_true, List.all_cons, List.all_nil, Bool.and_true, Bool.true_and, decide_true, decide_false, List.length_cons, List.length_nil, Nat.reduceAdd, Nat.reduceLT, callO_eq, calO_some, nodupB, lentIo, lent, slO, List.isEmpty_nil, List.isEmpty_cons, finC_ok0, finC_ex0, finC_okI, finC_exI, finC_exL, finC_ite, allFr, at_i0, at_1, at_2, at_3, at_4, at_5, at_6, at_7, at_8, at_n, Nat.reduceBEq, Bool.or_self, cn_call, cn_G, cn_w, seq_d, isi_int_int, isi_int_bool, isi_int_str, isi_int_tuple, isi_int_list, isi_bool_int, isi_bool_bool, isi_bool_str, isi_bool_tuple, isi_bool_list, isi_str_int, isi_str_bool, isi_str_str, isi_str_tuple, isi_str_list, isi_tuple_int, isi_tuple_bool, isi_tuple_str, isi_tuple_tuple, isi_tuple_list, isi_list_int, isi_list_bool, isi_list_str, isi_list_tuple, isi_list_list, isi_none_int, isi_none_bool, isi_none_str, isi_none_tuple, isi_none_list, tru_b, tru_i, tru_l, tru_t, tru_n, non_n, non_int, non_bool, non_str, non_tuple, non_list, bi_1, bi_2, bi_len_l, bi_len_t, bi_abs, bi_int, bi_intb, bi_max2, bi_min2, bi_tup_l, bi_tup_t, bi_lst_l, bi_lst_t, itm_l, itm_t, isL_l, isL_t, ho_d, hoS_fr, hoS_ow, ho_sl, hoI_ow, ho_io, consV_some, hand_nil, hand_cons, fz_fr, fz_ow, mkTp_eq, mkT_some, fr_n, fr_t, okTp_fr, okTp_ow, outO_ow, outsOf_nil, outsOf_cons, finO_some, finF_nx, finF_rt, finF_ex]
  rw [hr, bind_ok, lcRun_filter (pR b a z) (fun x => x) ?_ (by rw [sl24, List.length_map]; exact hl) rfl rfl]
  · rw [List.map_id', List.filter_map]
    rfl
  · intro x hx
    obtain ⟨p, hq, rfl⟩ := List.mem_map.mp hx
    obtain ⟨q1, q2⟩ := part_mem hp p hq
    have m1 : mulOk p.1 b = true := big_mul (by omega) (by omega) (by omega) (by omega)
    have m2 : mulOk p.1 a = true := big_mul (by omega) (by omega) (by omega) (by omega)
    refine ⟨[x0, x1, x2, some (.fr (.int b)), some (.fr (.int a)), some (.fr (.int z)), x6, x7, x8, x9, some (.fr (.list (ps.map rowD))), some (.fr (rowD p)), none], rfl, ?_, fun _ => ⟨_, rfl, rfl⟩, rfl⟩
    simp -implicitDefEqProofs only [o_ss, e_ss, finC_okLi, finC_okLb, finC_okLs, finC_okLn, s_trya', pickA_t, pickA_f, e_isX, cn_cur, cmp_ne_b, cmp_eq_b, flmap_nx, flmap_rt, lstR_0, lstR_1, tupR_1, lstR_2, tupR_2, lstR_3, tupR_3, lstR_4, tupR_4, lstR_5, tupR_5, lstR_6, tupR_6, lstR_7, tupR_7, lstR_8, lstR_9, o_met, o_isB, o_rl, metR_some, e_met, pm_lc, pm_tc, pm_li, pm_ti, isBR_b, e_isB, e_rl, t_met, t_isB, raiR_s, s_rais', tryR_nx, tryR_rt, tryR_ex, tryR_ite, s_tryx', hs_nil, hs_cons, pick_nil, pick_cons, pickR_t, pickR_f, noEx_nx, noEx_rt, s_asgs', asgsR_fr, cn_b, cn_s, setN, q_nil, q_cons, sq_nx, sq_rt, sq_bk, sq_ct, sq_ex, sq_ite, bind_ok, bind_ex, bind_ite, fl_ok, fl_ex, fl_ite, map_ok, map_ex, map_ite, opt_some, ite_okB, ite_okV, ite_and, ite_or, ops_some, op1_some, ops2_some, op1F_some, opsF_some, andR_b, orR_b, slt_some, vsl_fr, vsl_ow, mvl_some, vwS_fr, vwS_ow, vw_d, vw_sl, tsO_eq, chn_some, cmpR_some, negR_i, intR_i, biR_some, consO_some, vws_nil, vws_cons, o_bo, o_io, o_k, o_g, o_v, o_mv, o_tup, o_lst, o_bin, o_neg, o_cmp, o_chain, o_isN, o_notN, o_and, o_or, o_not, o_ite, o_idx, o_slc, o_call, o_bi, o_isi, o_lc, o_lci, e_k, e_g, e_v, e_mv, e_tup, e_lst, e_bin, e_neg, e_cmp, e_chain, e_isN, e_notN, e_and, e_or, e_not, e_ite, e_idx, e_slc, e_call, e_bi, e_isi, e_lc, e_lci, p_none, p_some, os_nil, os_cons, vs_nil, vs_cons, t_and, t_or, t_not, t_bo, t_v, t_k, t_bin, t_cmp, t_chain, t_isN, t_notN, t_idx, t_call, t_bi, t_isi, t_lc, t_lci, i_rng1', i_rng2', i_enu', i_zp', i_itr', seq_sl, seqS_fr, seqS_ow, rngR_i, s_asg', s_ex', s_ret', s_retN', s_pass', s_brk', s_cont', s_ife', s_forr', s_sto', s_aug', s_augl', s_mth', s_par', asgR_eq, nxO_some, stoR_eq, stoN_some, hasR_some, ifN_t, augR_add, augR_sub, isOwR_ow, isOwR_fr, mthR_eq, mtO_some, isOwS_eq, cmp_eq_s, cmp_ne_s, cmp_gt, cmp_lt, le_ii, ge_ii, cmp_eq, cmp_ne, List.getElem?_cons_succ, List.getElem?_cons_zero, Option.map_some, Option.bind_some, Bool.not_false, Bool.not_true, Bool.not_not, Bool.or_true, Bool.true_or, Bool.or_false, Bool.false_or, Bool.and_false, Bool.false_and, dsO, idx_l, idx_t, bin_add, bin_sub, slT, slTs, List.contains_nil, List.contains_cons, bindV, bindT, bindTs, List.set_cons_succ, List.set_cons_zero, if_true, if_false, Bool.false_eq_true, List.all_cons, List.all_nil, Bool.and_true, Bool.true_and, decide_true, decide_false, List.length_cons, List.length_nil, Nat.reduceAdd, Nat.reduceLT, callO_eq, calO_some, nodupB, lentIo, lent, slO, List.isEmpty_nil, List.isEmpty_cons, finC_ok0, finC_ex0, finC_okI, finC_exI, finC_exL, finC_ite, allFr, at_i0, at_1, at_2, at_3, at_4, at_5, at_6, at_7, at_8, at_n, Nat.reduceBEq, Bool.or_self, cn_call, cn_G, cn_w, seq_d, isi_int_int, isi_int_bool, isi_int_str, isi_int_tuple, isi_int_list, isi_bool_int, isi_bool_bool, isi_bool_str, isi_bool_tuple, isi_bool_list, isi_str_int, isi_str_bool, isi_str_str, isi_str_tuple, isi_str_list, isi_tuple_int, isi_tuple_bool, isi_tuple_str, isi_tuple_tuple, isi_tuple_list, isi_list_int, isi_list_bool, isi_list_str, isi_list_tuple, isi_list_list, isi_none_int, isi_none_bool, isi_none_str, isi_none_tuple, isi_none_list, tru_b, tru_i, tru_l, tru_t, tru_n, non_n, non_int, non_bool, non_str, non_tuple, non_list, bi_1, bi_2, bi_len_l, bi_len_t, bi_abs, bi_int, bi_intb, bi_max2, bi_min2, bi_tup_l, bi_tup_t, bi_lst_l, bi_lst_t, itm_l, itm_t, isL_l, isL_t, ho_d, hoS_fr, hoS_ow, ho_sl, hoI_ow, ho_io, consV_some, hand_nil, hand_cons, fz_fr, fz_ow, mkTp_eq, mkT_some, fr_n, fr_t, okTp_fr, okTp_ow, outO_ow, outsOf_nil, outsOf_cons, finO_some, finF_nx, finF_rt, finF_ex, rowD, bin_mul m1, bin_mul m2, bin_fdiv (big_div (show 0 < z by omega) z2)]
    rfl
theorem sum_e {n : Nat} {x0 x1 x2 x3 x4 x5 x7 x8 x9 x10 : Option Rv} {qs : List (Int × Int)} (hl : qs.length ≤ 16777216) :
    evE (Cn n) (.lc (.n 11) (.itr (.v 6)) (.bin .sub (.idx (.bo 11) (.k (.int 1))) (.idx (.bo 11) (.k (.int 0))))) [x0, x1, x2, x3, x4, x5, some (.ow (.lst (qs.map rowD))), x7, x8, x9, x10, none, none] =
    .ok (.ow (.lst ((qs.map fun p => p.2 - p.1).map .int))) [x0, x1, x2, x3, x4, x5, some (.fr (.list (qs.map rowD))), x7, x8, x9, x10, none, none] := by
  rw [e_lc]
  have hr : evI (Cn n) (.itr (.v 6)) [x0, x1, x2, x3, x4, x5, some (.ow (.lst (qs.map rowD))), x7, x8, x9, x10, none, none] = .ok ⟨qs.map rowD, [], true⟩ [x0, x1, x2, x3, x4, x5, some (.fr (.list (qs.map rowD))), x7, x8, x9, x10, none, none] := by
    simp -implicitDefEqProofs only [o_ss, e_ss, finC_okLi, finC_okLb, finC_okLs, finC_okLn, s_trya', pickA_t, pickA_f, e_isX, cn_cur, cmp_ne_b, cmp_eq_b, flmap_nx, flmap_rt, lstR_0, lstR_1, tupR_1, lstR_2, tupR_2, lstR_3, tupR_3, lstR_4, tupR_4, lstR_5, tupR_5, lstR_6, tupR_6, lstR_7, tupR_7, lstR_8, lstR_9, o_met, o_isB, o_rl, metR_some, e_met, pm_lc, pm_tc, pm_li, pm_ti, isBR_b, e_isB, e_rl, t_met, t_isB, raiR_s, s_rais', tryR_nx, tryR_rt, tryR_ex, tryR_ite, s_tryx', hs_nil, hs_cons, pick_nil, pick_cons, pickR_t, pickR_f, noEx_nx, noEx_rt, s_asgs', asgsR_fr, cn_b, cn_s, setN, q_nil, q_cons, sq_nx, sq_rt, sq_bk, sq_ct, sq_ex, sq_ite, bind_ok, bind_ex, bind_ite, fl_ok, fl_ex, fl_ite, map_ok, map_ex, map_ite, opt_some, ite_okB, ite_okV, ite_and, ite_or, ops_some, op1_some, ops2_some, op1F_some, opsF_some, andR_b, orR_b, slt_some, vsl_fr, vsl_ow, mvl_some, vwS_fr, vwS_ow, vw_d, vw_sl, tsO_eq, chn_some, cmpR_some, negR_i, intR_i, biR_some, consO_some, vws_nil, vws_cons, o_bo, o_io, o_k, o_g, o_v, o_mv, o_tup, o_lst, o_bin, o_neg, o_cmp, o_chain, o_isN, o_notN, o_and, o_or, o_not, o_ite, o_idx, o_slc, o_call, o_bi, o_isi, o_lc, o_lci, e_k, e_g, e_v, e_mv, e_tup, e_lst, e_bin, e_neg, e_cmp, e_chain, e_isN, e_notN, e_and, e_or, e_not, e_ite, e_idx, e_slc, e_call, e_bi, e_isi, e_lc, e_lci, p_none, p_some, os_nil, os_cons, vs_nil, vs_cons, t_and, t_or, t_not, t_bo, t_v, t_k, t_bin, t_cmp, t_chain, t_isN, t_notN, t_idx, t_call, t_bi, t_isi, t_lc, t_lci, i_rng1', i_rng2', i_enu', i_zp', i_itr', seq_sl, seqS_fr, seqS_ow, rngR_i, s_asg', s_ex', s_ret', s_retN', s_pass', s_brk', s_cont', s_ife', s_forr', s_sto', s_aug', s_augl', s_mth', s_par', asgR_eq, nxO_some, stoR_eq, stoN_some, hasR_some, ifN_t, augR_add, augR_sub, isOwR_ow, isOwR_fr, mthR_eq, mtO_some, isOwS_eq, cmp_eq_s, cmp_ne_s, cmp_gt, cmp_lt, le_ii, ge_ii, cmp_eq, cmp_ne, List.getElem?_cons_succ, List.getElem?_cons_zero, Option.map_some, Option.bind_some, Bool.not_false, Bool.not_true, Bool.not_not, Bool.or_true, Bool.true_or, Bool.or_false, Bool.false_or, Bool.and_false, Bool.false_and, dsO, idx_l, idx_t, bin_add, bin_sub, slT, slTs, List.contains_nil, List.contains_cons, bindV, bindT, bindTs, List.set_cons_succ, List.set_cons_zero, if_true, if_false, Bool.false_eq_true, List.all_cons, List.all_nil, Bool.and_true, Bool.true_and, decide_true, decide_false, List.length_cons, List.length_nil, Nat.reduceAdd, Nat.reduceLT, callO_eq, calO_some, nodupB, lentIo, lent, slO, List.isEmpty_nil, List.isEmpty_cons, finC_ok0, finC_ex0, finC_okI, finC_exI, finC_exL, finC_ite, allFr, at_i0, at_1, at_2, at_3, at_4, at_5, at_6, at_7, at_8, at_n, Nat.reduceBEq, Bool.or_self, cn_call, cn_G, cn_w, seq_d, isi_int_int, isi_int_bool, isi_int_str, isi_int_tuple, isi_int_list, isi_bool_int, isi_bool_bool, isi_bool_str, isi_bool_tuple, isi_bool_list, isi_str_int, isi_str_bool, isi_str_str, isi_str_tuple, isi_str_list, isi_tuple_int, isi_tuple_bool, isi_tuple_str, isi_tuple_tuple, isi_tuple_list, isi_list_int, isi_list_bool, isi_list_str, isi_list_tuple, isi_list_list, isi_none_int, isi_none_bool, isi_none_str, isi_none_tuple, isi_none_list, tru_b, tru_i, tru_l, tru_t, tru_n, non_n, non_int, non_bool, non_str, non_tuple, non_list, bi_1, bi_2, bi_len_l, bi_len_t, bi_abs, bi_int, bi_intb, bi_max2, bi_min2, bi_tup_l, bi_tup_t, bi_lst_l, bi_lst_t, itm_l, itm_t, isL_l, isL_t, ho_d, hoS_fr, hoS_ow, ho_sl, hoI_ow, ho_io, consV_some, hand_nil, hand_cons, fz_fr, fz_ow, mkTp_eq, mkT_some, fr_n, fr_t, okTp_fr, okTp_ow, outO_ow, outsOf_nil, outsOf_cons, finO_some, finF_nx, finF_rt, finF_ex]
  rw [hr, bind_ok, lcRun_map (fun d => match d with | .tuple [.int x, .int y] => .int (y - x) | d => d) ?_ (by rw [sl24, List.length_map]; exact hl) rfl rfl]
  · simp [List.map_map, rowD, Function.comp_def]
  · intro x hx
    obtain ⟨p, hq, rfl⟩ := List.mem_map.mp hx
    refine ⟨[x0, x1, x2, x3, x4, x5, some (.fr (.list (qs.map rowD))), x7, x8, x9, x10, some (.fr (rowD p)), none], rfl, ⟨.fr (.int (p.2 - p.1)), ?_, rfl⟩, rfl⟩
    simp -implicitDefEqProofs only [o_ss, e_ss, finC_okLi, finC_okLb, finC_okLs, finC_okLn, s_trya', pickA_t, pickA_f, e_isX, cn_cur, cmp_ne_b, cmp_eq_b, flmap_nx, flmap_rt, lstR_0, lstR_1, tupR_1, lstR_2, tupR_2, lstR_3, tupR_3, lstR_4, tupR_4, lstR_5, tupR_5, lstR_6, tupR_6, lstR_7, tupR_7, lstR_8, lstR_9, o_met, o_isB, o_rl, metR_some, e_met, pm_lc, pm_tc, pm_li, pm_ti, isBR_b, e_isB, e_rl, t_met, t_isB, raiR_s, s_rais', tryR_nx, tryR_rt, tryR_ex, tryR_ite, s_tryx', hs_nil, hs_cons, pick_nil, pick_cons, pickR_t, pickR_f, noEx_nx, noEx_rt, s_asgs', asgsR_fr, cn_b, cn_s, setN, q_nil, q_cons, sq_nx, sq_rt, sq_bk, sq_ct, sq_ex, sq_ite, bind_ok, bind_ex, bind_ite, fl_ok, fl_ex, fl_ite, map_ok, map_ex, map_ite, opt_some, ite_okB, ite_okV, ite_and, ite_or, ops_some, op1_some, ops2_some, op1F_some, opsF_some, andR_b, orR_b, slt_some, vsl_fr, vsl_ow, mvl_some, vwS_fr, vwS_ow, vw_d, vw_sl, tsO_eq, chn_some, cmpR_some, negR_i, intR_i, biR_some, consO_some, vws_nil, vws_cons, o_bo, o_io, o_k, o_g, o_v, o_mv, o_tup, o_lst, o_bin, o_neg, o_cmp, o_chain, o_isN, o_notN, o_and, o_or, o_not, o_ite, o_idx, o_slc, o_call, o_bi, o_isi, o_lc, o_lci, e_k, e_g, e_v, e_mv, e_tup, e_lst, e_bin, e_neg, e_cmp, e_chain, e_isN, e_notN, e_and, e_or, e_not, e_ite, e_idx, e_slc, e_call, e_bi, e_isi, e_lc, e_lci, p_none, p_some, os_nil, os_cons, vs_nil, vs_cons, t_and, t_or, t_not, t_bo, t_v, t_k, t_bin, t_cmp, t_chain, t_isN, t_notN, t_idx, t_call, t_bi, t_isi, t_lc, t_lci, i_rng1', i_rng2', i_enu', i_zp', i_itr', seq_sl, seqS_fr, seqS_ow, rngR_i, s_asg', s_ex', s_ret', s_retN', s_pass', s_brk', s_cont', s_ife', s_forr', s_sto', s_aug', s_augl', s_mth', s_par', asgR_eq, nxO_some, stoR_eq, stoN_some, hasR_some, ifN_t, augR_add, augR_sub, isOwR_ow, isOwR_fr, mthR_eq, mtO_some, isOwS_eq, cmp_eq_s, cmp_ne_s, cmp_gt, cmp_lt, le_ii, ge_ii, cmp_eq, cmp_ne, List.getElem?_cons_succ, List.getElem?_cons_zero, Option.map_some, Option.bind_some, Bool.not_false, Bool.not_true, Bool.not_not, Bool.or_true, Bool.true_or, Bool.or_false, Bool.false_or, Bool.and_false, Bool.false_and, dsO, idx_l, idx_t, bin_add, bin_sub, slT, slTs, List.contains_nil, List.contains_cons, bindV, bindT, bindTs, List.set_cons_succ, List.set_cons_zero, if_true, if_false, Bool.false_eq_true, List.all_cons, List.all_nil, Bool.and_true, Bool.true_and, decide_true, decide_false, List.length_cons, List.length_nil, Nat.reduceAdd, Nat.reduceLT, callO_eq, calO_some, nodupB, lentIo, lent, slO, List.isEmpty_nil, List.isEmpty_cons, finC_ok0, finC_ex0, finC_okI, finC_exI, finC_exL, finC_ite, allFr, at_i0, at_1, at_2, at_3, at_4, at_5, at_6, at_7, at_8, at_n, Nat.reduceBEq, Bool.or_self, cn_call, cn_G, cn_w, seq_d, isi_int_int, isi_int_bool, isi_int_str, isi_int_tuple, isi_int_list, isi_bool_int, isi_bool_bool, isi_bool_str, isi_bool_tuple, isi_bool_list, isi_str_int, isi_str_bool, isi_str_str, isi_str_tuple, isi_str_list, isi_tuple_int, isi_tuple_bool, isi_tuple_str, isi_tuple_tuple, isi_tuple_list, isi_list_int, isi_list_bool, isi_list_str, isi_list_tuple, isi_list_list, isi_none_int, isi_none_bool, isi_none_str, isi_none_tuple, isi_none_list, tru_b, tru_i, tru_l, tru_t, tru_n, non_n, non_int, non_bool, non_str, non_tuple, non_list, bi_1, bi_2, bi_len_l, bi_len_t, bi_abs, bi_int, bi_intb, bi_max2, bi_min2, bi_tup_l, bi_tup_t, bi_lst_l, bi_lst_t, itm_l, itm_t, isL_l, isL_t, ho_d, hoS_fr, hoS_ow, ho_sl, hoI_ow, ho_io, consV_some, hand_nil, hand_cons, fz_fr, fz_ow, mkTp_eq, mkT_some, fr_n, fr_t, okTp_fr, okTp_ow, outO_ow, outsOf_nil, outsOf_cons, finO_some, finF_nx, finF_rt, finF_ex, rowD]
theorem dr {src : List PyData} (hs : Src src) (L : Int) (h0 : 0 < L) (hd : divOk L = true) : ∃ src' v, Src src' ∧ 0 ≤ v ∧ v < L ∧ callF pg 29 F_law_draw [.ow (.lst src), .fr (.int L)] = .ok (.fr (.int v)) [.ow (.lst src')] := draw_ok (k := 28) hs h0 hd
theorem ones_len : ∀ (k : Nat) (m : Int), (ones m k).length = k
  | 0, _ => rfl
  | k + 1, m => by rw [ones, List.length_cons, ones_len k]
theorem nb_len {es : List Int} : (nb es).length = es.length - 1 := by rw [nb_eq, List.length_map, List.length_range]
theorem insU_len {x : Int} : ∀ m : List Int, (insU x m).length ≤ m.length + 1
  | [] => by simp [insU]
  | y :: ys => by
    simp only [insU]
    split
    · simp
    · split
      · simp
      · simp only [List.length_cons]
        have := insU_len (x := x) ys
        omega
theorem sortU_len : ∀ l : List Int, (sortU l).length ≤ l.length
  | [] => Nat.le_refl _
  | x :: l => by
    have := insU_len (x := x) (sortU l)
    have := sortU_len l
    simp only [sortU, List.length_cons]
    omega
theorem law_ok : LawVal := by
  intro zs hz
  refine (u_law (n := 29)).trans (tr_fin rfl (by decide) ?_)
  show Tr (evSs (Cn 29) [] b_law [_, none, none, none, none, none, none, none, none, none, none, none, none])
  unfold b_law
  obtain ⟨s0, S0, c0⟩ := src_ok (k := 28) (zs := zs)
  refine tr_nx (by simp -implicitDefEqProofs only [o_ss, e_ss, finC_okLi, finC_okLb, finC_okLs, finC_okLn, s_trya', pickA_t, pickA_f, e_isX, cn_cur, cmp_ne_b, cmp_eq_b, flmap_nx, flmap_rt, lstR_0, lstR_1, tupR_1, lstR_2, tupR_2, lstR_3, tupR_3, lstR_4, tupR_4, lstR_5, tupR_5, lstR_6, tupR_6, lstR_7, tupR_7, lstR_8, lstR_9, o_met, o_isB, o_rl, metR_some, e_met, pm_lc, pm_tc, pm_li, pm_ti, isBR_b, e_isB, e_rl, t_met, t_isB, raiR_s, s_rais', tryR_nx, tryR_rt, tryR_ex, tryR_ite, s_tryx', hs_nil, hs_cons, pick_nil, pick_cons, pickR_t, pickR_f, noEx_nx, noEx_rt, s_asgs', asgsR_fr, cn_b, cn_s, setN, q_nil, q_cons, sq_nx, sq_rt, sq_bk, sq_ct, sq_ex, sq_ite, bind_ok, bind_ex, bind_ite, fl_ok, fl_ex, fl_ite, map_ok, map_ex, map_ite, opt_some, ite_okB, ite_okV, ite_and, ite_or, ops_some, op1_some, ops2_some, op1F_some, opsF_some, andR_b, orR_b, slt_some, vsl_fr, vsl_ow, mvl_some, vwS_fr, vwS_ow, vw_d, vw_sl, tsO_eq, chn_some, cmpR_some, negR_i, intR_i, biR_some, consO_some, vws_nil, vws_cons, o_bo, o_io, o_k, o_g, o_v, o_mv, o_tup, o_lst, o_bin, o_neg, o_cmp, o_chain, o_isN, o_notN, o_and, o_or, o_not, o_ite, o_idx, o_slc, o_call, o_bi, o_isi, o_lc, o_lci, e_k, e_g, e_v, e_mv, e_tup, e_lst, e_bin, e_neg, e_cmp, e_chain, e_isN, e_notN, e_and, e_or, e_not, e_ite, e_idx, e_slc, e_call, e_bi, e_isi, e_lc, e_lci, p_none, p_some, os_nil, os_cons, vs_nil, vs_cons, t_and, t_or, t_not, t_bo, t_v, t_k, t_bin, t_cmp, t_chain, t_isN, t_notN, t_idx, t_call, t_bi, t_isi, t_lc, t_lci, i_rng1', i_rng2', i_enu', i_zp', i_itr', seq_sl, seqS_fr, seqS_ow, rngR_i, s_asg', s_ex', s_ret', s_retN', s_pass', s_brk', s_cont', s_ife', s_forr', s_sto', s_aug', s_augl', s_mth', s_par', asgR_eq, nxO_some, stoR_eq, stoN_some, hasR_some, ifN_t, augR_add, augR_sub, isOwR_ow, isOwR_fr, mthR_eq, mtO_some, isOwS_eq, cmp_eq_s, cmp_ne_s, cmp_gt, cmp_lt, le_ii, ge_ii, cmp_eq, cmp_ne, List.getElem?_cons_succ, List.getElem?_cons_zero, Option.map_some, Option.bind_some, Bool.not_false, Bool.not_true, Bool.not_not, Bool.or_true, Bool.true_or, Bool.or_false, Bool.false_or, Bool.and_false, Bool.false_and, dsO, idx_l, idx_t, bin_add, bin_sub, slT, slTs, List.contains_nil, List.contains_cons, bindV, bindT, bindTs, List.set_cons_succ, List.set_cons_zero, if_true, if_false, Bool.false_eq_true, List.all_cons, List.all_nil, Bool.and_true, Bool.true_and, decide_true, decide_false, List.length_cons, List.length_nil, Nat.reduceAdd, Nat.reduceLT, callO_eq, calO_some, nodupB, lentIo, lent, slO, List.isEmpty_nil, List.isEmpty_cons, finC_ok0, finC_ex0, finC_okI, finC_exI, finC_exL, finC_ite, allFr, at_i0, at_1, at_2, at_3, at_4, at_5, at_6, at_7, at_8, at_n, Nat.reduceBEq, Bool.or_self, cn_call, cn_G, cn_w, seq_d, isi_int_int, isi_int_bool, isi_int_str, isi_int_tuple, isi_int_list, isi_bool_int, isi_bool_bool, isi_bool_str, isi_bool_tuple, isi_bool_list, isi_str_int, isi_str_bool, isi_str_str, isi_str_tuple, isi_str_list, isi_tuple_int, isi_tuple_bool, isi_tuple_str, isi_tuple_tuple, isi_tuple_list, isi_list_int, isi_list_bool, isi_list_str, isi_list_tuple, isi_list_list, isi_none_int, isi_none_bool, isi_none_str, isi_none_tuple, isi_none_list, tru_b, tru_i, tru_l, tru_t, tru_n, non_n, non_int, non_bool, non_str, non_tuple, non_list, bi_1, bi_2, bi_len_l, bi_len_t, bi_abs, bi_int, bi_intb, bi_max2, bi_min2, bi_tup_l, bi_tup_t, bi_lst_l, bi_lst_t, itm_l, itm_t, isL_l, isL_t, ho_d, hoS_fr, hoS_ow, ho_sl, hoI_ow, ho_io, consV_some, hand_nil, hand_cons, fz_fr, fz_ow, mkTp_eq, mkT_some, fr_n, fr_t, okTp_fr, okTp_ow, outO_ow, outsOf_nil, outsOf_cons, finO_some, finF_nx, finF_rt, finF_ex, c0] <;> rfl) ?_
  obtain ⟨s1, w, S1, w1, w2, c1⟩ := dr S0 4 (by decide) (by kernel_rfl)
  refine tr_nx (by simp -implicitDefEqProofs only [o_ss, e_ss, finC_okLi, finC_okLb, finC_okLs, finC_okLn, s_trya', pickA_t, pickA_f, e_isX, cn_cur, cmp_ne_b, cmp_eq_b, flmap_nx, flmap_rt, lstR_0, lstR_1, tupR_1, lstR_2, tupR_2, lstR_3, tupR_3, lstR_4, tupR_4, lstR_5, tupR_5, lstR_6, tupR_6, lstR_7, tupR_7, lstR_8, lstR_9, o_met, o_isB, o_rl, metR_some, e_met, pm_lc, pm_tc, pm_li, pm_ti, isBR_b, e_isB, e_rl, t_met, t_isB, raiR_s, s_rais', tryR_nx, tryR_rt, tryR_ex, tryR_ite, s_tryx', hs_nil, hs_cons, pick_nil, pick_cons, pickR_t, pickR_f, noEx_nx, noEx_rt, s_asgs', asgsR_fr, cn_b, cn_s, setN, q_nil, q_cons, sq_nx, sq_rt, sq_bk, sq_ct, sq_ex, sq_ite, bind_ok, bind_ex, bind_ite, fl_ok, fl_ex, fl_ite, map_ok, map_ex, map_ite, opt_some, ite_okB, ite_okV, ite_and, ite_or, ops_some, op1_some, ops2_some, op1F_some, opsF_some, andR_b, orR_b, slt_some, vsl_fr, vsl_ow, mvl_some, vwS_fr, vwS_ow, vw_d, vw_sl, tsO_eq, chn_some, cmpR_some, negR_i, intR_i, biR_some, consO_some, vws_nil, vws_cons, o_bo, o_io, o_k, o_g, o_v, o_mv, o_tup, o_lst, o_bin, o_neg, o_cmp, o_chain, o_isN, o_notN, o_and, o_or, o_not, o_ite, o_idx, o_slc, o_call, o_bi, o_isi, o_lc, o_lci, e_k, e_g, e_v, e_mv, e_tup, e_lst, e_bin, e_neg, e_cmp, e_chain, e_isN, e_notN, e_and, e_or, e_not, e_ite, e_idx, e_slc, e_call, e_bi, e_isi, e_lc, e_lci, p_none, p_some, os_nil, os_cons, vs_nil, vs_cons, t_and, t_or, t_not, t_bo, t_v, t_k, t_bin, t_cmp, t_chain, t_isN, t_notN, t_idx, t_call, t_bi, t_isi, t_lc, t_lci, i_rng1', i_rng2', i_enu', i_zp', i_itr', seq_sl, seqS_fr, seqS_ow, rngR_i, s_asg', s_ex', s_ret', s_retN', s_pass', s_brk', s_cont', s_ife', s_forr', s_sto', s_aug', s_augl', s_mth', s_par', asgR_eq, nxO_some, stoR_eq, stoN_some, hasR_some, ifN_t, augR_add, augR_sub, isOwR_ow, isOwR_fr, mthR_eq, mtO_some, isOwS_eq, cmp_eq_s, cmp_ne_s, cmp_gt, cmp_lt, le_ii, ge_ii, cmp_eq, cmp_ne, List.getElem?_cons_succ, List.getElem?_cons_zero, Option.map_some, Option.bind_some, Bool.not_false, Bool.not_true, Bool.not_not, Bool.or_true, Bool.true_or, Bool.or_false, Bool.false_or, Bool.and_false, Bool.false_and, dsO, idx_l, idx_t, bin_add, bin_sub, slT, slTs, List.contains_nil, List.contains_cons, bindV, bindT, bindTs, List.set_cons_succ, List.set_cons_zero, if_true, if_false, Bool.false_eq_true, List.all_cons, List.all_nil, Bool.and_true, Bool.true_and, decide_true, decide_false, List.length_cons, List.length_nil, Nat.reduceAdd, Nat.reduceLT, callO_eq, calO_some, nodupB, lentIo, lent, slO, List.isEmpty_nil, List.isEmpty_cons, finC_ok0, finC_ex0, finC_okI, finC_exI, finC_exL, finC_ite, allFr, at_i0, at_1, at_2, at_3, at_4, at_5, at_6, at_7, at_8, at_n, Nat.reduceBEq, Bool.or_self, cn_call, cn_G, cn_w, seq_d, isi_int_int, isi_int_bool, isi_int_str, isi_int_tuple, isi_int_list, isi_bool_int, isi_bool_bool, isi_bool_str, isi_bool_tuple, isi_bool_list, isi_str_int, isi_str_bool, isi_str_str, isi_str_tuple, isi_str_list, isi_tuple_int, isi_tuple_bool, isi_tuple_str, isi_tuple_tuple, isi_tuple_list, isi_list_int, isi_list_bool, isi_list_str, isi_list_tuple, isi_list_list, isi_none_int, isi_none_bool, isi_none_str, isi_none_tuple, isi_none_list, tru_b, tru_i, tru_l, tru_t, tru_n, non_n, non_int, non_bool, non_str, non_tuple, non_list, bi_1, bi_2, bi_len_l, bi_len_t, bi_abs, bi_int, bi_intb, bi_max2, bi_min2, bi_tup_l, bi_tup_t, bi_lst_l, bi_lst_t, itm_l, itm_t, isL_l, isL_t, ho_d, hoS_fr, hoS_ow, ho_sl, hoI_ow, ho_io, consV_some, hand_nil, hand_cons, fz_fr, fz_ow, mkTp_eq, mkT_some, fr_n, fr_t, okTp_fr, okTp_ow, outO_ow, outsOf_nil, outsOf_cons, finO_some, finF_nx, finF_rt, finF_ex, c1] <;> rfl) ?_
  obtain ⟨s2, v2, S2, a2, b2, c2⟩ := dr S1 12 (by decide) (by kernel_rfl)
  refine tr_nx (by simp -implicitDefEqProofs only [o_ss, e_ss, finC_okLi, finC_okLb, finC_okLs, finC_okLn, s_trya', pickA_t, pickA_f, e_isX, cn_cur, cmp_ne_b, cmp_eq_b, flmap_nx, flmap_rt, lstR_0, lstR_1, tupR_1, lstR_2, tupR_2, lstR_3, tupR_3, lstR_4, tupR_4, lstR_5, tupR_5, lstR_6, tupR_6, lstR_7, tupR_7, lstR_8, lstR_9, o_met, o_isB, o_rl, metR_some, e_met, pm_lc, pm_tc, pm_li, pm_ti, isBR_b, e_isB, e_rl, t_met, t_isB, raiR_s, s_rais', tryR_nx, tryR_rt, tryR_ex, tryR_ite, s_tryx', hs_nil, hs_cons, pick_nil, pick_cons, pickR_t, pickR_f, noEx_nx, noEx_rt, s_asgs', asgsR_fr, cn_b, cn_s, setN, q_nil, q_cons, sq_nx, sq_rt, sq_bk, sq_ct, sq_ex, sq_ite, bind_ok, bind_ex, bind_ite, fl_ok, fl_ex, fl_ite, map_ok, map_ex, map_ite, opt_some, ite_okB, ite_okV, ite_and, ite_or, ops_some, op1_some, ops2_some, op1F_some, opsF_some, andR_b, orR_b, slt_some, vsl_fr, vsl_ow, mvl_some, vwS_fr, vwS_ow, vw_d, vw_sl, tsO_eq, chn_some, cmpR_some, negR_i, intR_i, biR_some, consO_some, vws_nil, vws_cons, o_bo, o_io, o_k, o_g, o_v, o_mv, o_tup, o_lst, o_bin, o_neg, o_cmp, o_chain, o_isN, o_notN, o_and, o_or, o_not, o_ite, o_idx, o_slc, o_call, o_bi, o_isi, o_lc, o_lci, e_k, e_g, e_v, e_mv, e_tup, e_lst, e_bin, e_neg, e_cmp, e_chain, e_isN, e_notN, e_and, e_or, e_not, e_ite, e_idx, e_slc, e_call, e_bi, e_isi, e_lc, e_lci, p_none, p_some, os_nil, os_cons, vs_nil, vs_cons, t_and, t_or, t_not, t_bo, t_v, t_k, t_bin, t_cmp, t_chain, t_isN, t_notN, t_idx, t_call, t_bi, t_isi, t_lc, t_lci, i_rng1', i_rng2', i_enu', i_zp', i_itr', seq_sl, seqS_fr, seqS_ow, rngR_i, s_asg', s_ex', s_ret', s_retN', s_pass', s_brk', s_cont', s_ife', s_forr', s_sto', s_aug', s_augl', s_mth', s_par', asgR_eq, nxO_some, stoR_eq, stoN_some, hasR_some, ifN_t, augR_add, augR_sub, isOwR_ow, isOwR_fr, mthR_eq, mtO_some, isOwS_eq, cmp_eq_s, cmp_ne_s, cmp_gt, cmp_lt, le_ii, ge_ii, cmp_eq, cmp_ne, List.getElem?_cons_succ, List.getElem?_cons_zero, Option.map_some, Option.bind_some, Bool.not_false, Bool.not_true, Bool.not_not, Bool.or_true, Bool.true_or, Bool.or_false, Bool.false_or, Bool.and_false, Bool.false_and, dsO, idx_l, idx_t, bin_add, bin_sub, slT, slTs, List.contains_nil, List.contains_cons, bindV, bindT, bindTs, List.set_cons_succ, List.set_cons_zero, if_true, if_false, Bool.false_eq_true, List.all_cons, List.all_nil, Bool.and_true, Bool.true_and, decide_true, decide_false, List.length_cons, List.length_nil, Nat.reduceAdd, Nat.reduceLT, callO_eq, calO_some, nodupB, lentIo, lent, slO, List.isEmpty_nil, List.isEmpty_cons, finC_ok0, finC_ex0, finC_okI, finC_exI, finC_exL, finC_ite, allFr, at_i0, at_1, at_2, at_3, at_4, at_5, at_6, at_7, at_8, at_n, Nat.reduceBEq, Bool.or_self, cn_call, cn_G, cn_w, seq_d, isi_int_int, isi_int_bool, isi_int_str, isi_int_tuple, isi_int_list, isi_bool_int, isi_bool_bool, isi_bool_str, isi_bool_tuple, isi_bool_list, isi_str_int, isi_str_bool, isi_str_str, isi_str_tuple, isi_str_list, isi_tuple_int, isi_tuple_bool, isi_tuple_str, isi_tuple_tuple, isi_tuple_list, isi_list_int, isi_list_bool, isi_list_str, isi_list_tuple, isi_list_list, isi_none_int, isi_none_bool, isi_none_str, isi_none_tuple, isi_none_list, tru_b, tru_i, tru_l, tru_t, tru_n, non_n, non_int, non_bool, non_str, non_tuple, non_list, bi_1, bi_2, bi_len_l, bi_len_t, bi_abs, bi_int, bi_intb, bi_max2, bi_min2, bi_tup_l, bi_tup_t, bi_lst_l, bi_lst_t, itm_l, itm_t, isL_l, isL_t, ho_d, hoS_fr, hoS_ow, ho_sl, hoI_ow, ho_io, consV_some, hand_nil, hand_cons, fz_fr, fz_ow, mkTp_eq, mkT_some, fr_n, fr_t, okTp_fr, okTp_ow, outO_ow, outsOf_nil, outsOf_cons, finO_some, finF_nx, finF_rt, finF_ex, c2] <;> rfl) ?_
  obtain ⟨s3, v3, S3, a3, b3, c3⟩ := dr S2 12 (by decide) (by kernel_rfl)
  refine tr_nx (by simp -implicitDefEqProofs only [o_ss, e_ss, finC_okLi, finC_okLb, finC_okLs, finC_okLn, s_trya', pickA_t, pickA_f, e_isX, cn_cur, cmp_ne_b, cmp_eq_b, flmap_nx, flmap_rt, lstR_0, lstR_1, tupR_1, lstR_2, tupR_2, lstR_3, tupR_3, lstR_4, tupR_4, lstR_5, tupR_5, lstR_6, tupR_6, lstR_7, tupR_7, lstR_8, lstR_9, o_met, o_isB, o_rl, metR_some, e_met, pm_lc, pm_tc, pm_li, pm_ti, isBR_b, e_isB, e_rl, t_met, t_isB, raiR_s, s_rais', tryR_nx, tryR_rt, tryR_ex, tryR_ite, s_tryx', hs_nil, hs_cons, pick_nil, pick_cons, pickR_t, pickR_f, noEx_nx, noEx_rt, s_asgs', asgsR_fr, cn_b, cn_s, setN, q_nil, q_cons, sq_nx, sq_rt, sq_bk, sq_ct, sq_ex, sq_ite, bind_ok, bind_ex, bind_ite, fl_ok, fl_ex, fl_ite, map_ok, map_ex, map_ite, opt_some, ite_okB, ite_okV, ite_and, ite_or, ops_some, op1_some, ops2_some, op1F_some, opsF_some, andR_b, orR_b, slt_some, vsl_fr, vsl_ow, mvl_some, vwS_fr, vwS_ow, vw_d, vw_sl, tsO_eq, chn_some, cmpR_some, negR_i, intR_i, biR_some, consO_some, vws_nil, vws_cons, o_bo, o_io, o_k, o_g, o_v, o_mv, o_tup, o_lst, o_bin, o_neg, o_cmp, o_chain, o_isN, o_notN, o_and, o_or, o_not, o_ite, o_idx, o_slc, o_call, o_bi, o_isi, o_lc, o_lci, e_k, e_g, e_v, e_mv, e_tup, e_lst, e_bin, e_neg, e_cmp, e_chain, e_isN, e_notN, e_and, e_or, e_not, e_ite, e_idx, e_slc, e_call, e_bi, e_isi, e_lc, e_lci, p_none, p_some, os_nil, os_cons, vs_nil, vs_cons, t_and, t_or, t_not, t_bo, t_v, t_k, t_bin, t_cmp, t_chain, t_isN, t_notN, t_idx, t_call, t_bi, t_isi, t_lc, t_lci, i_rng1', i_rng2', i_enu', i_zp', i_itr', seq_sl, seqS_fr, seqS_ow, rngR_i, s_asg', s_ex', s_ret', s_retN', s_pass', s_brk', s_cont', s_ife', s_forr', s_sto', s_aug', s_augl', s_mth', s_par', asgR_eq, nxO_some, stoR_eq, stoN_some, hasR_some, ifN_t, augR_add, augR_sub, isOwR_ow, isOwR_fr, mthR_eq, mtO_some, isOwS_eq, cmp_eq_s, cmp_ne_s, cmp_gt, cmp_lt, le_ii, ge_ii, cmp_eq, cmp_ne, List.getElem?_cons_succ, List.getElem?_cons_zero, Option.map_some, Option.bind_some, Bool.not_false, Bool.not_true, Bool.not_not, Bool.or_true, Bool.true_or, Bool.or_false, Bool.false_or, Bool.and_false, Bool.false_and, dsO, idx_l, idx_t, bin_add, bin_sub, slT, slTs, List.contains_nil, List.contains_cons, bindV, bindT, bindTs, List.set_cons_succ, List.set_cons_zero, if_true, if_false, Bool.false_eq_true, List.all_cons, List.all_nil, Bool.and_true, Bool.true_and, decide_true, decide_false, List.length_cons, List.length_nil, Nat.reduceAdd, Nat.reduceLT, callO_eq, calO_some, nodupB, lentIo, lent, slO, List.isEmpty_nil, List.isEmpty_cons, finC_ok0, finC_ex0, finC_okI, finC_exI, finC_exL, finC_ite, allFr, at_i0, at_1, at_2, at_3, at_4, at_5, at_6, at_7, at_8, at_n, Nat.reduceBEq, Bool.or_self, cn_call, cn_G, cn_w, seq_d, isi_int_int, isi_int_bool, isi_int_str, isi_int_tuple, isi_int_list, isi_bool_int, isi_bool_bool, isi_bool_str, isi_bool_tuple, isi_bool_list, isi_str_int, isi_str_bool, isi_str_str, isi_str_tuple, isi_str_list, isi_tuple_int, isi_tuple_bool, isi_tuple_str, isi_tuple_tuple, isi_tuple_list, isi_list_int, isi_list_bool, isi_list_str, isi_list_tuple, isi_list_list, isi_none_int, isi_none_bool, isi_none_str, isi_none_tuple, isi_none_list, tru_b, tru_i, tru_l, tru_t, tru_n, non_n, non_int, non_bool, non_str, non_tuple, non_list, bi_1, bi_2, bi_len_l, bi_len_t, bi_abs, bi_int, bi_intb, bi_max2, bi_min2, bi_tup_l, bi_tup_t, bi_lst_l, bi_lst_t, itm_l, itm_t, isL_l, isL_t, ho_d, hoS_fr, hoS_ow, ho_sl, hoI_ow, ho_io, consV_some, hand_nil, hand_cons, fz_fr, fz_ow, mkTp_eq, mkT_some, fr_n, fr_t, okTp_fr, okTp_ow, outO_ow, outsOf_nil, outsOf_cons, finO_some, finF_nx, finF_rt, finF_ex, c3] <;> rfl) ?_
  obtain ⟨s4, v4, S4, a4, b4, c4⟩ := great_ok (k := 27) (lim := 10000000000000000000000000000000000000000) S3 (by decide)
  refine tr_nx (by simp -implicitDefEqProofs only [o_ss, e_ss, finC_okLi, finC_okLb, finC_okLs, finC_okLn, s_trya', pickA_t, pickA_f, e_isX, cn_cur, cmp_ne_b, cmp_eq_b, flmap_nx, flmap_rt, lstR_0, lstR_1, tupR_1, lstR_2, tupR_2, lstR_3, tupR_3, lstR_4, tupR_4, lstR_5, tupR_5, lstR_6, tupR_6, lstR_7, tupR_7, lstR_8, lstR_9, o_met, o_isB, o_rl, metR_some, e_met, pm_lc, pm_tc, pm_li, pm_ti, isBR_b, e_isB, e_rl, t_met, t_isB, raiR_s, s_rais', tryR_nx, tryR_rt, tryR_ex, tryR_ite, s_tryx', hs_nil, hs_cons, pick_nil, pick_cons, pickR_t, pickR_f, noEx_nx, noEx_rt, s_asgs', asgsR_fr, cn_b, cn_s, setN, q_nil, q_cons, sq_nx, sq_rt, sq_bk, sq_ct, sq_ex, sq_ite, bind_ok, bind_ex, bind_ite, fl_ok, fl_ex, fl_ite, map_ok, map_ex, map_ite, opt_some, ite_okB, ite_okV, ite_and, ite_or, ops_some, op1_some, ops2_some, op1F_some, opsF_some, andR_b, orR_b, slt_some, vsl_fr, vsl_ow, mvl_some, vwS_fr, vwS_ow, vw_d, vw_sl, tsO_eq, chn_some, cmpR_some, negR_i, intR_i, biR_some, consO_some, vws_nil, vws_cons, o_bo, o_io, o_k, o_g, o_v, o_mv, o_tup, o_lst, o_bin, o_neg, o_cmp, o_chain, o_isN, o_notN, o_and, o_or, o_not, o_ite, o_idx, o_slc, o_call, o_bi, o_isi, o_lc, o_lci, e_k, e_g, e_v, e_mv, e_tup, e_lst, e_bin, e_neg, e_cmp, e_chain, e_isN, e_notN, e_and, e_or, e_not, e_ite, e_idx, e_slc, e_call, e_bi, e_isi, e_lc, e_lci, p_none, p_some, os_nil, os_cons, vs_nil, vs_cons, t_and, t_or, t_not, t_bo, t_v, t_k, t_bin, t_cmp, t_chain, t_isN, t_notN, t_idx, t_call, t_bi, t_isi, t_lc, t_lci, i_rng1', i_rng2', i_enu', i_zp', i_itr', seq_sl, seqS_fr, seqS_ow, rngR_i, s_asg', s_ex', s_ret', s_retN', s_pass', s_brk', s_cont', s_ife', s_forr', s_sto', s_aug', s_augl', s_mth', s_par', asgR_eq, nxO_some, stoR_eq, stoN_some, hasR_some, ifN_t, augR_add, augR_sub, isOwR_ow, isOwR_fr, mthR_eq, mtO_some, isOwS_eq, cmp_eq_s, cmp_ne_s, cmp_gt, cmp_lt, le_ii, ge_ii, cmp_eq, cmp_ne, List.getElem?_cons_succ, List.getElem?_cons_zero, Option.map_some, Option.bind_some, Bool.not_false, Bool.not_true, Bool.not_not, Bool.or_true, Bool.true_or, Bool.or_false, Bool.false_or, Bool.and_false, Bool.false_and, dsO, idx_l, idx_t, bin_add, bin_sub, slT, slTs, List.contains_nil, List.contains_cons, bindV, bindT, bindTs, List.set_cons_succ, List.set_cons_zero, if_true, if_false, Bool.false_eq_true, List.all_cons, List.all_nil, Bool.and_true, Bool.true_and, decide_true, decide_false, List.length_cons, List.length_nil, Nat.reduceAdd, Nat.reduceLT, callO_eq, calO_some, nodupB, lentIo, lent, slO, List.isEmpty_nil, List.isEmpty_cons, finC_ok0, finC_ex0, finC_okI, finC_exI, finC_exL, finC_ite, allFr, at_i0, at_1, at_2, at_3, at_4, at_5, at_6, at_7, at_8, at_n, Nat.reduceBEq, Bool.or_self, cn_call, cn_G, cn_w, seq_d, isi_int_int, isi_int_bool, isi_int_str, isi_int_tuple, isi_int_list, isi_bool_int, isi_bool_bool, isi_bool_str, isi_bool_tuple, isi_bool_list, isi_str_int, isi_str_bool, isi_str_str, isi_str_tuple, isi_str_list, isi_tuple_int, isi_tuple_bool, isi_tuple_str, isi_tuple_tuple, isi_tuple_list, isi_list_int, isi_list_bool, isi_list_str, isi_list_tuple, isi_list_list, isi_none_int, isi_none_bool, isi_none_str, isi_none_tuple, isi_none_list, tru_b, tru_i, tru_l, tru_t, tru_n, non_n, non_int, non_bool, non_str, non_tuple, non_list, bi_1, bi_2, bi_len_l, bi_len_t, bi_abs, bi_int, bi_intb, bi_max2, bi_min2, bi_tup_l, bi_tup_t, bi_lst_l, bi_lst_t, itm_l, itm_t, isL_l, isL_t, ho_d, hoS_fr, hoS_ow, ho_sl, hoI_ow, ho_io, consV_some, hand_nil, hand_cons, fz_fr, fz_ow, mkTp_eq, mkT_some, fr_n, fr_t, okTp_fr, okTp_ow, outO_ow, outsOf_nil, outsOf_cons, finO_some, finF_nx, finF_rt, finF_ex, c4, p1040] <;> rfl) ?_
  refine tr_ex (fun r => ∃ (b a : Int), 1 ≤ b ∧ b ≤ 12 ∧ 1 ≤ a ∧ a ≤ 12 ∧ r = [some (.fr (.list (zs.map .int))), some (.ow (.lst s4)), some (.fr (.int w)), some (.fr (.int b)), some (.fr (.int a)), some (.fr (.int (1 + v4))), none, none, none, none, none, none, none]) ?_ ?_
  · cases hw : (w == 1) with
    | true => exact ⟨_, by simp -implicitDefEqProofs only [o_ss, e_ss, finC_okLi, finC_okLb, finC_okLs, finC_okLn, s_trya', pickA_t, pickA_f, e_isX, cn_cur, cmp_ne_b, cmp_eq_b, flmap_nx, flmap_rt, lstR_0, lstR_1, tupR_1, lstR_2, tupR_2, lstR_3, tupR_3, lstR_4, tupR_4, lstR_5, tupR_5, lstR_6, tupR_6, lstR_7, tupR_7, lstR_8, lstR_9, o_met, o_isB, o_rl, metR_some, e_met, pm_lc, pm_tc, pm_li, pm_ti, isBR_b, e_isB, e_rl, t_met, t_isB, raiR_s, s_rais', tryR_nx, tryR_rt, tryR_ex, tryR_ite, s_tryx', hs_nil, hs_cons, pick_nil, pick_cons, pickR_t, pickR_f, noEx_nx, noEx_rt, s_asgs', asgsR_fr, cn_b, cn_s, setN, q_nil, q_cons, sq_nx, sq_rt, sq_bk, sq_ct, sq_ex, sq_ite, bind_ok, bind_ex, bind_ite, fl_ok, fl_ex, fl_ite, map_ok, map_ex, map_ite, opt_some, ite_okB, ite_okV, ite_and, ite_or, ops_some, op1_some, ops2_some, op1F_some, opsF_some, andR_b, orR_b, slt_some, vsl_fr, vsl_ow, mvl_some, vwS_fr, vwS_ow, vw_d, vw_sl, tsO_eq, chn_some, cmpR_some, negR_i, intR_i, biR_some, consO_some, vws_nil, vws_cons, o_bo, o_io, o_k, o_g, o_v, o_mv, o_tup, o_lst, o_bin, o_neg, o_cmp, o_chain, o_isN, o_notN, o_and, o_or, o_not, o_ite, o_idx, o_slc, o_call, o_bi, o_isi, o_lc, o_lci, e_k, e_g, e_v, e_mv, e_tup, e_lst, e_bin, e_neg, e_cmp, e_chain, e_isN, e_notN, e_and, e_or, e_not, e_ite, e_idx, e_slc, e_call, e_bi, e_isi, e_lc, e_lci, p_none, p_some, os_nil, os_cons, vs_nil, vs_cons, t_and, t_or, t_not, t_bo, t_v, t_k, t_bin, t_cmp, t_chain, t_isN, t_notN, t_idx, t_call, t_bi, t_isi, t_lc, t_lci, i_rng1', i_rng2', i_enu', i_zp', i_itr', seq_sl, seqS_fr, seqS_ow, rngR_i, s_asg', s_ex', s_ret', s_retN', s_pass', s_brk', s_cont', s_ife', s_forr', s_sto', s_aug', s_augl', s_mth', s_par', asgR_eq, nxO_some, stoR_eq, stoN_some, hasR_some, ifN_t, augR_add, augR_sub, isOwR_ow, isOwR_fr, mthR_eq, mtO_some, isOwS_eq, cmp_eq_s, cmp_ne_s, cmp_gt, cmp_lt, le_ii, ge_ii, cmp_eq, cmp_ne, List.getElem?_cons_succ, List.getElem?_cons_zero, Option.map_some, Option.bind_some, Bool.not_false, Bool.not_true, Bool.not_not, Bool.or_true, Bool.true_or, Bool.or_false, Bool.false_or, Bool.and_false, Bool.false_and, dsO, idx_l, idx_t, bin_add, bin_sub, slT, slTs, List.contains_nil, List.contains_cons, bindV, bindT, bindTs, List.set_cons_succ, List.set_cons_zero, if_true, if_false, Bool.false_eq_true, List.all_cons, List.all_nil, Bool.and_true, Bool.true_and, decide_true, decide_false, List.length_cons, List.length_nil, Nat.reduceAdd, Nat.reduceLT, callO_eq, calO_some, nodupB, lentIo, lent, slO, List.isEmpty_nil, List.isEmpty_cons, finC_ok0, finC_ex0, finC_okI, finC_exI, finC_exL, finC_ite, allFr, at_i0, at_1, at_2, at_3, at_4, at_5, at_6, at_7, at_8, at_n, Nat.reduceBEq, Bool.or_self, cn_call, cn_G, cn_w, seq_d, isi_int_int, isi_int_bool, isi_int_str, isi_int_tuple, isi_int_list, isi_bool_int, isi_bool_bool, isi_bool_str, isi_bool_tuple, isi_bool_list, isi_str_int, isi_str_bool, isi_str_str, isi_str_tuple, isi_str_list, isi_tuple_int, isi_tuple_bool, isi_tuple_str, isi_tuple_tuple, isi_tuple_list, isi_list_int, isi_list_bool, isi_list_str, isi_list_tuple, isi_list_list, isi_none_int, isi_none_bool, isi_none_str, isi_none_tuple, isi_none_list, tru_b, tru_i, tru_l, tru_t, tru_n, non_n, non_int, non_bool, non_str, non_tuple, non_list, bi_1, bi_2, bi_len_l, bi_len_t, bi_abs, bi_int, bi_intb, bi_max2, bi_min2, bi_tup_l, bi_tup_t, bi_lst_l, bi_lst_t, itm_l, itm_t, isL_l, isL_t, ho_d, hoS_fr, hoS_ow, ho_sl, hoI_ow, ho_io, consV_some, hand_nil, hand_cons, fz_fr, fz_ow, mkTp_eq, mkT_some, fr_n, fr_t, okTp_fr, okTp_ow, outO_ow, outsOf_nil, outsOf_cons, finO_some, finF_nx, finF_rt, finF_ex, hw] <;> rfl, 1 + v2, 1 + v2, by omega, by omega, by omega, by omega, rfl⟩
    | false => exact ⟨_, by simp -implicitDefEqProofs only [o_ss, e_ss, finC_okLi, finC_okLb, finC_okLs, finC_okLn, s_trya', pickA_t, pickA_f, e_isX, cn_cur, cmp_ne_b, cmp_eq_b, flmap_nx, flmap_rt, lstR_0, lstR_1, tupR_1, lstR_2, tupR_2, lstR_3, tupR_3, lstR_4, tupR_4, lstR_5, tupR_5, lstR_6, tupR_6, lstR_7, tupR_7, lstR_8, lstR_9, o_met, o_isB, o_rl, metR_some, e_met, pm_lc, pm_tc, pm_li, pm_ti, isBR_b, e_isB, e_rl, t_met, t_isB, raiR_s, s_rais', tryR_nx, tryR_rt, tryR_ex, tryR_ite, s_tryx', hs_nil, hs_cons, pick_nil, pick_cons, pickR_t, pickR_f, noEx_nx, noEx_rt, s_asgs', asgsR_fr, cn_b, cn_s, setN, q_nil, q_cons, sq_nx, sq_rt, sq_bk, sq_ct, sq_ex, sq_ite, bind_ok, bind_ex, bind_ite, fl_ok, fl_ex, fl_ite, map_ok, map_ex, map_ite, opt_some, ite_okB, ite_okV, ite_and, ite_or, ops_some, op1_some, ops2_some, op1F_some, opsF_some, andR_b, orR_b, slt_some, vsl_fr, vsl_ow, mvl_some, vwS_fr, vwS_ow, vw_d, vw_sl, tsO_eq, chn_some, cmpR_some, negR_i, intR_i, biR_some, consO_some, vws_nil, vws_cons, o_bo, o_io, o_k, o_g, o_v, o_mv, o_tup, o_lst, o_bin, o_neg, o_cmp, o_chain, o_isN, o_notN, o_and, o_or, o_not, o_ite, o_idx, o_slc, o_call, o_bi, o_isi, o_lc, o_lci, e_k, e_g, e_v, e_mv, e_tup, e_lst, e_bin, e_neg, e_cmp, e_chain, e_isN, e_notN, e_and, e_or, e_not, e_ite, e_idx, e_slc, e_call, e_bi, e_isi, e_lc, e_lci, p_none, p_some, os_nil, os_cons, vs_nil, vs_cons, t_and, t_or, t_not, t_bo, t_v, t_k, t_bin, t_cmp, t_chain, t_isN, t_notN, t_idx, t_call, t_bi, t_isi, t_lc, t_lci, i_rng1', i_rng2', i_enu', i_zp', i_itr', seq_sl, seqS_fr, seqS_ow, rngR_i, s_asg', s_ex', s_ret', s_retN', s_pass', s_brk', s_cont', s_ife', s_forr', s_sto', s_aug', s_augl', s_mth', s_par', asgR_eq, nxO_some, stoR_eq, stoN_some, hasR_some, ifN_t, augR_add, augR_sub, isOwR_ow, isOwR_fr, mthR_eq, mtO_some, isOwS_eq, cmp_eq_s, cmp_ne_s, cmp_gt, cmp_lt, le_ii, ge_ii, cmp_eq, cmp_ne, List.getElem?_cons_succ, List.getElem?_cons_zero, Option.map_some, Option.bind_some, Bool.not_false, Bool.not_true, Bool.not_not, Bool.or_true, Bool.true_or, Bool.or_false, Bool.false_or, Bool.and_false, Bool.false_and, dsO, idx_l, idx_t, bin_add, bin_sub, slT, slTs, List.contains_nil, List.contains_cons, bindV, bindT, bindTs, List.set_cons_succ, List.set_cons_zero, if_true, if_false, Bool.false_eq_true, List.all_cons, List.all_nil, Bool.and_true, Bool.true_and, decide_true, decide_false, List.length_cons, List.length_nil, Nat.reduceAdd, Nat.reduceLT, callO_eq, calO_some, nodupB, lentIo, lent, slO, List.isEmpty_nil, List.isEmpty_cons, finC_ok0, finC_ex0, finC_okI, finC_exI, finC_exL, finC_ite, allFr, at_i0, at_1, at_2, at_3, at_4, at_5, at_6, at_7, at_8, at_n, Nat.reduceBEq, Bool.or_self, cn_call, cn_G, cn_w, seq_d, isi_int_int, isi_int_bool, isi_int_str, isi_int_tuple, isi_int_list, isi_bool_int, isi_bool_bool, isi_bool_str, isi_bool_tuple, isi_bool_list, isi_str_int, isi_str_bool, isi_str_str, isi_str_tuple, isi_str_list, isi_tuple_int, isi_tuple_bool, isi_tuple_str, isi_tuple_tuple, isi_tuple_list, isi_list_int, isi_list_bool, isi_list_str, isi_list_tuple, isi_list_list, isi_none_int, isi_none_bool, isi_none_str, isi_none_tuple, isi_none_list, tru_b, tru_i, tru_l, tru_t, tru_n, non_n, non_int, non_bool, non_str, non_tuple, non_list, bi_1, bi_2, bi_len_l, bi_len_t, bi_abs, bi_int, bi_intb, bi_max2, bi_min2, bi_tup_l, bi_tup_t, bi_lst_l, bi_lst_t, itm_l, itm_t, isL_l, isL_t, ho_d, hoS_fr, hoS_ow, ho_sl, hoI_ow, ho_io, consV_some, hand_nil, hand_cons, fz_fr, fz_ow, mkTp_eq, mkT_some, fr_n, fr_t, okTp_fr, okTp_ow, outO_ow, outsOf_nil, outsOf_cons, finO_some, finF_nx, finF_rt, finF_ex, hw] <;> rfl, 1 + v2, 1 + v3, by omega, by omega, by omega, by omega, rfl⟩
  rintro r1 ⟨b, a, hb1, hb2, ha1, ha2, rfl⟩
  refine tr_ex (fun r => ∃ (s : List PyData) (b a z : Int) (ps : List (Int × Int)), 1 ≤ b ∧ b ≤ 1000 ∧ 1 ≤ a ∧ a ≤ 1000 ∧ 1 ≤ z ∧ z ≤ (10000000000000000000000000000000000000000 : Int) ∧ ps.length ≤ 16777216 ∧ PartL b a z 0 ps ∧
    r = [some (.fr (.list (zs.map .int))), some (.ow (.lst s)), some (.fr (.int w)), some (.fr (.int b)), some (.fr (.int a)), some (.fr (.int z)), none, none, none, none, some (.ow (.lst (ps.map rowD))), none, none]) ?_ ?_
  · cases hw : decide (2 ≤ w) with
    | true =>
      obtain ⟨s5, v5, S5, a5, b5, c5⟩ := dr S4 1000 (by decide) (by kernel_rfl)
      obtain ⟨s6, v6, S6, a6, b6, c6⟩ := dr S5 1000 (by decide) (by kernel_rfl)
      obtain ⟨s7, v7, S7, a7, b7, c7⟩ := dr S6 120 (by decide) (by kernel_rfl)
      refine ⟨_, by simp -implicitDefEqProofs only [o_ss, e_ss, finC_okLi, finC_okLb, finC_okLs, finC_okLn, s_trya', pickA_t, pickA_f, e_isX, cn_cur, cmp_ne_b, cmp_eq_b, flmap_nx, flmap_rt, lstR_0, lstR_1, tupR_1, lstR_2, tupR_2, lstR_3, tupR_3, lstR_4, tupR_4, lstR_5, tupR_5, lstR_6, tupR_6, lstR_7, tupR_7, lstR_8, lstR_9, o_met, o_isB, o_rl, metR_some, e_met, pm_lc, pm_tc, pm_li, pm_ti, isBR_b, e_isB, e_rl, t_met, t_isB, raiR_s, s_rais', tryR_nx, tryR_rt, tryR_ex, tryR_ite, s_tryx', hs_nil, hs_cons, pick_nil, pick_cons, pickR_t, pickR_f, noEx_nx, noEx_rt, s_asgs', asgsR_fr, cn_b, cn_s, setN, q_nil, q_cons, sq_nx, sq_rt, sq_bk, sq_ct, sq_ex, sq_ite, bind_ok, bind_ex, bind_ite, fl_ok, fl_ex, fl_ite, map_ok, map_ex, map_ite, opt_some, ite_okB, ite_okV, ite_and, ite_or, ops_some, op1_some, ops2_some, op1F_some, opsF_some, andR_b, orR_b, slt_some, vsl_fr, vsl_ow, mvl_some, vwS_fr, vwS_ow, vw_d, vw_sl, tsO_eq, chn_some, cmpR_some, negR_i, intR_i, biR_some, consO_some, vws_nil, vws_cons, o_bo, o_io, o_k, o_g, o_v, o_mv, o_tup, o_lst, o_bin, o_neg, o_cmp, o_chain, o_isN, o_notN, o_and, o_or, o_not, o_ite, o_idx, o_slc, o_call, o_bi, o_isi, o_lc, o_lci, e_k, e_g, e_v, e_mv, e_tup, e_lst, e_bin, e_neg, e_cmp, e_chain, e_isN, e_notN, e_and, e_or, e_not, e_ite, e_idx, e_slc, e_call, e_bi, e_isi, p_none, p_some, os_nil, os_cons, vs_nil, vs_cons, t_and, t_or, t_not, t_bo, t_v, t_k, t_bin, t_cmp, t_chain, t_isN, t_notN, t_idx, t_call, t_bi, t_isi, t_lc, t_lci, i_rng1', i_rng2', i_enu', i_zp', i_itr', seq_sl, seqS_fr, seqS_ow, rngR_i, s_asg', s_ex', s_ret', s_retN', s_pass', s_brk', s_cont', s_ife', s_forr', s_sto', s_aug', s_augl', s_mth', s_par', asgR_eq, nxO_some, stoR_eq, stoN_some, hasR_some, ifN_t, augR_add, augR_sub, isOwR_ow, isOwR_fr, mthR_eq, mtO_some, isOwS_eq, cmp_eq_s, cmp_ne_s, cmp_gt, cmp_lt, le_ii, ge_ii, cmp_eq, cmp_ne, List.getElem?_cons_succ, List.getElem?_cons_zero, Option.map_some, Option.bind_some, Bool.not_false, Bool.not_true, Bool.not_not, Bool.or_true, Bool.true_or, Bool.or_false, Bool.false_or, Bool.and_false, Bool.false_and, dsO, idx_l, idx_t, bin_add, bin_sub, slT, slTs, List.contains_nil, List.contains_cons, bindV, bindT, bindTs, List.set_cons_succ, List.set_cons_zero, if_true, if_false, Bool.false_eq_true, List.all_cons, List.all_nil, Bool.and_true, Bool.true_and, decide_true, decide_false, List.length_cons, List.length_nil, Nat.reduceAdd, Nat.reduceLT, callO_eq, calO_some, nodupB, lentIo, lent, slO, List.isEmpty_nil, List.isEmpty_cons, finC_ok0, finC_ex0, finC_okI, finC_exI, finC_exL, finC_ite, allFr, at_i0, at_1, at_2, at_3, at_4, at_5, at_6, at_7, at_8, at_n, Nat.reduceBEq, Bool.or_self, cn_call, cn_G, cn_w, seq_d, isi_int_int, isi_int_bool, isi_int_str, isi_int_tuple, isi_int_list, isi_bool_int, isi_bool_bool, isi_bool_str, isi_bool_tuple, isi_bool_list, isi_str_int, isi_str_bool, isi_str_str, isi_str_tuple, isi_str_list, isi_tuple_int, isi_tuple_bool, isi_tuple_str, isi_tuple_tuple, isi_tuple_list, isi_list_int, isi_list_bool, isi_list_str, isi_list_tuple, isi_list_list, isi_none_int, isi_none_bool, isi_none_str, isi_none_tuple, isi_none_list, tru_b, tru_i, tru_l, tru_t, tru_n, non_n, non_int, non_bool, non_str, non_tuple, non_list, bi_1, bi_2, bi_len_l, bi_len_t, bi_abs, bi_int, bi_intb, bi_max2, bi_min2, bi_tup_l, bi_tup_t, bi_lst_l, bi_lst_t, itm_l, itm_t, isL_l, isL_t, ho_d, hoS_fr, hoS_ow, ho_sl, hoI_ow, ho_io, consV_some, hand_nil, hand_cons, fz_fr, fz_ow, mkTp_eq, mkT_some, fr_n, fr_t, okTp_fr, okTp_ow, outO_ow, outsOf_nil, outsOf_cons, finO_some, finF_nx, finF_rt, finF_ex, hw, c5, c6, c7, ones_e (z := 1 + v7) (by omega) (by omega)] <;> rfl, s7, 1 + v5, 1 + v6, 1 + v7, _, by omega, by omega, by omega, by omega, by omega, by omega, ?_, ones_part (1 + v7).toNat (by omega), rfl⟩
      rw [ones_len]
      omega
    | false =>
      have pe := parts_eq (n := 28) (b := b) (a := a) (z := 1 + v4) hb1 hb2 ha1 ha2 (by omega) (by omega)
      refine ⟨_, by simp -implicitDefEqProofs only [o_ss, e_ss, finC_okLi, finC_okLb, finC_okLs, finC_okLn, s_trya', pickA_t, pickA_f, e_isX, cn_cur, cmp_ne_b, cmp_eq_b, flmap_nx, flmap_rt, lstR_0, lstR_1, tupR_1, lstR_2, tupR_2, lstR_3, tupR_3, lstR_4, tupR_4, lstR_5, tupR_5, lstR_6, tupR_6, lstR_7, tupR_7, lstR_8, lstR_9, o_met, o_isB, o_rl, metR_some, e_met, pm_lc, pm_tc, pm_li, pm_ti, isBR_b, e_isB, e_rl, t_met, t_isB, raiR_s, s_rais', tryR_nx, tryR_rt, tryR_ex, tryR_ite, s_tryx', hs_nil, hs_cons, pick_nil, pick_cons, pickR_t, pickR_f, noEx_nx, noEx_rt, s_asgs', asgsR_fr, cn_b, cn_s, setN, q_nil, q_cons, sq_nx, sq_rt, sq_bk, sq_ct, sq_ex, sq_ite, bind_ok, bind_ex, bind_ite, fl_ok, fl_ex, fl_ite, map_ok, map_ex, map_ite, opt_some, ite_okB, ite_okV, ite_and, ite_or, ops_some, op1_some, ops2_some, op1F_some, opsF_some, andR_b, orR_b, slt_some, vsl_fr, vsl_ow, mvl_some, vwS_fr, vwS_ow, vw_d, vw_sl, tsO_eq, chn_some, cmpR_some, negR_i, intR_i, biR_some, consO_some, vws_nil, vws_cons, o_bo, o_io, o_k, o_g, o_v, o_mv, o_tup, o_lst, o_bin, o_neg, o_cmp, o_chain, o_isN, o_notN, o_and, o_or, o_not, o_ite, o_idx, o_slc, o_call, o_bi, o_isi, o_lc, o_lci, e_k, e_g, e_v, e_mv, e_tup, e_lst, e_bin, e_neg, e_cmp, e_chain, e_isN, e_notN, e_and, e_or, e_not, e_ite, e_idx, e_slc, e_call, e_bi, e_isi, e_lc, e_lci, p_none, p_some, os_nil, os_cons, vs_nil, vs_cons, t_and, t_or, t_not, t_bo, t_v, t_k, t_bin, t_cmp, t_chain, t_isN, t_notN, t_idx, t_call, t_bi, t_isi, t_lc, t_lci, i_rng1', i_rng2', i_enu', i_zp', i_itr', seq_sl, seqS_fr, seqS_ow, rngR_i, s_asg', s_ex', s_ret', s_retN', s_pass', s_brk', s_cont', s_ife', s_forr', s_sto', s_aug', s_augl', s_mth', s_par', asgR_eq, nxO_some, stoR_eq, stoN_some, hasR_some, ifN_t, augR_add, augR_sub, isOwR_ow, isOwR_fr, mthR_eq, mtO_some, isOwS_eq, cmp_eq_s, cmp_ne_s, cmp_gt, cmp_lt, le_ii, ge_ii, cmp_eq, cmp_ne, List.getElem?_cons_succ, List.getElem?_cons_zero, Option.map_some, Option.bind_some, Bool.not_false, Bool.not_true, Bool.not_not, Bool.or_true, Bool.true_or, Bool.or_false, Bool.false_or, Bool.and_false, Bool.false_and, dsO, idx_l, idx_t, bin_add, bin_sub, slT, slTs, List.contains_nil, List.contains_cons, bindV, bindT, bindTs, List.set_cons_succ, List.set_cons_zero, if_true, if_false, Bool.false_eq_true, List.all_cons, List.all_nil, Bool.and_true, Bool.true_and, decide_true, decide_false, List.length_cons, List.length_nil, Nat.reduceAdd, Nat.reduceLT, callO_eq, calO_some, nodupB, lentIo, lent, slO, List.isEmpty_nil, List.isEmpty_cons, finC_ok0, finC_ex0, finC_okI, finC_exI, finC_exL, finC_ite, allFr, at_i0, at_1, at_2, at_3, at_4, at_5, at_6, at_7, at_8, at_n, Nat.reduceBEq, Bool.or_self, cn_call, cn_G, cn_w, seq_d, isi_int_int, isi_int_bool, isi_int_str, isi_int_tuple, isi_int_list, isi_bool_int, isi_bool_bool, isi_bool_str, isi_bool_tuple, isi_bool_list, isi_str_int, isi_str_bool, isi_str_str, isi_str_tuple, isi_str_list, isi_tuple_int, isi_tuple_bool, isi_tuple_str, isi_tuple_tuple, isi_tuple_list, isi_list_int, isi_list_bool, isi_list_str, isi_list_tuple, isi_list_list, isi_none_int, isi_none_bool, isi_none_str, isi_none_tuple, isi_none_list, tru_b, tru_i, tru_l, tru_t, tru_n, non_n, non_int, non_bool, non_str, non_tuple, non_list, bi_1, bi_2, bi_len_l, bi_len_t, bi_abs, bi_int, bi_intb, bi_max2, bi_min2, bi_tup_l, bi_tup_t, bi_lst_l, bi_lst_t, itm_l, itm_t, isL_l, isL_t, ho_d, hoS_fr, hoS_ow, ho_sl, hoI_ow, ho_io, consV_some, hand_nil, hand_cons, fz_fr, fz_ow, mkTp_eq, mkT_some, fr_n, fr_t, okTp_fr, okTp_ow, outO_ow, outsOf_nil, outsOf_cons, finO_some, finF_nx, finF_rt, finF_ex, hw, pe] <;> rfl, s4, b, a, 1 + v4, _, hb1, by omega, ha1, by omega, by omega, by omega, ?_, ends_part (by omega) (by omega) (by omega), rfl⟩
      have l1 : (eL b (1 + v4)).length ≤ 13 := by simp [eL]; omega
      have l2 : (eL a (1 + v4)).length ≤ 13 := by simp [eL]; omega
      have l3 := sortU_len (eL b (1 + v4) ++ eL a (1 + v4))
      rw [List.length_append] at l3
      rw [nb_len]
      omega
  clear hb1 hb2 ha1 ha2
  rintro r1 ⟨s, b, a, z, ps, hb1, hb2, ha1, ha2, z1, z2, hl, hP, rfl⟩
  refine tr_nx (by simp -implicitDefEqProofs only [o_ss, e_ss, finC_okLi, finC_okLb, finC_okLs, finC_okLn, s_trya', pickA_t, pickA_f, e_isX, cn_cur, cmp_ne_b, cmp_eq_b, flmap_nx, flmap_rt, lstR_0, lstR_1, tupR_1, lstR_2, tupR_2, lstR_3, tupR_3, lstR_4, tupR_4, lstR_5, tupR_5, lstR_6, tupR_6, lstR_7, tupR_7, lstR_8, lstR_9, o_met, o_isB, o_rl, metR_some, e_met, pm_lc, pm_tc, pm_li, pm_ti, isBR_b, e_isB, e_rl, t_met, t_isB, raiR_s, s_rais', tryR_nx, tryR_rt, tryR_ex, tryR_ite, s_tryx', hs_nil, hs_cons, pick_nil, pick_cons, pickR_t, pickR_f, noEx_nx, noEx_rt, s_asgs', asgsR_fr, cn_b, cn_s, setN, q_nil, q_cons, sq_nx, sq_rt, sq_bk, sq_ct, sq_ex, sq_ite, bind_ok, bind_ex, bind_ite, fl_ok, fl_ex, fl_ite, map_ok, map_ex, map_ite, opt_some, ite_okB, ite_okV, ite_and, ite_or, ops_some, op1_some, ops2_some, op1F_some, opsF_some, andR_b, orR_b, slt_some, vsl_fr, vsl_ow, mvl_some, vwS_fr, vwS_ow, vw_d, vw_sl, tsO_eq, chn_some, cmpR_some, negR_i, intR_i, biR_some, consO_some, vws_nil, vws_cons, o_bo, o_io, o_k, o_g, o_v, o_mv, o_tup, o_lst, o_bin, o_neg, o_cmp, o_chain, o_isN, o_notN, o_and, o_or, o_not, o_ite, o_idx, o_slc, o_call, o_bi, o_isi, o_lc, o_lci, e_k, e_g, e_v, e_mv, e_tup, e_lst, e_bin, e_neg, e_cmp, e_chain, e_isN, e_notN, e_and, e_or, e_not, e_ite, e_idx, e_slc, e_call, e_bi, e_isi, p_none, p_some, os_nil, os_cons, vs_nil, vs_cons, t_and, t_or, t_not, t_bo, t_v, t_k, t_bin, t_cmp, t_chain, t_isN, t_notN, t_idx, t_call, t_bi, t_isi, t_lc, t_lci, i_rng1', i_rng2', i_enu', i_zp', i_itr', seq_sl, seqS_fr, seqS_ow, rngR_i, s_asg', s_ex', s_ret', s_retN', s_pass', s_brk', s_cont', s_ife', s_forr', s_sto', s_aug', s_augl', s_mth', s_par', asgR_eq, nxO_some, stoR_eq, stoN_some, hasR_some, ifN_t, augR_add, augR_sub, isOwR_ow, isOwR_fr, mthR_eq, mtO_some, isOwS_eq, cmp_eq_s, cmp_ne_s, cmp_gt, cmp_lt, le_ii, ge_ii, cmp_eq, cmp_ne, List.getElem?_cons_succ, List.getElem?_cons_zero, Option.map_some, Option.bind_some, Bool.not_false, Bool.not_true, Bool.not_not, Bool.or_true, Bool.true_or, Bool.or_false, Bool.false_or, Bool.and_false, Bool.false_and, dsO, idx_l, idx_t, bin_add, bin_sub, slT, slTs, List.contains_nil, List.contains_cons, bindV, bindT, bindTs, List.set_cons_succ, List.set_cons_zero, if_true, if_false, Bool.false_eq_true, List.all_cons, List.all_nil, Bool.and_true, Bool.true_and, decide_true, decide_false, List.length_cons, List.length_nil, Nat.reduceAdd, Nat.reduceLT, callO_eq, calO_some, nodupB, lentIo, lent, slO, List.isEmpty_nil, List.isEmpty_cons, finC_ok0, finC_ex0, finC_okI, finC_exI, finC_exL, finC_ite, allFr, at_i0, at_1, at_2, at_3, at_4, at_5, at_6, at_7, at_8, at_n, Nat.reduceBEq, Bool.or_self, cn_call, cn_G, cn_w, seq_d, isi_int_int, isi_int_bool, isi_int_str, isi_int_tuple, isi_int_list, isi_bool_int, isi_bool_bool, isi_bool_str, isi_bool_tuple, isi_bool_list, isi_str_int, isi_str_bool, isi_str_str, isi_str_tuple, isi_str_list, isi_tuple_int, isi_tuple_bool, isi_tuple_str, isi_tuple_tuple, isi_tuple_list, isi_list_int, isi_list_bool, isi_list_str, isi_list_tuple, isi_list_list, isi_none_int, isi_none_bool, isi_none_str, isi_none_tuple, isi_none_list, tru_b, tru_i, tru_l, tru_t, tru_n, non_n, non_int, non_bool, non_str, non_tuple, non_list, bi_1, bi_2, bi_len_l, bi_len_t, bi_abs, bi_int, bi_intb, bi_max2, bi_min2, bi_tup_l, bi_tup_t, bi_lst_l, bi_lst_t, itm_l, itm_t, isL_l, isL_t, ho_d, hoS_fr, hoS_ow, ho_sl, hoI_ow, ho_io, consV_some, hand_nil, hand_cons, fz_fr, fz_ow, mkTp_eq, mkT_some, fr_n, fr_t, okTp_fr, okTp_ow, outO_ow, outsOf_nil, outsOf_cons, finO_some, finF_nx, finF_rt, finF_ex, rows_e hb1 hb2 ha1 ha2 z1 z2 hl hP] <;> rfl) ?_
  have hl2 : (ps.filter (unlB b a z)).length ≤ 16777216 := Nat.le_trans (List.length_filter_le _ _) hl
  have hsum := part_sum (Int.le_refl 0) hP
  have hfst := part_first hP
  have e0 : cU b a z (0 : Int).toNat = 0 := rfl
  rw [e0, Int.zero_add] at hsum
  generalize ps.filter (unlB b a z) = qs at *
  refine tr_nx (by simp -implicitDefEqProofs only [o_ss, e_ss, finC_okLi, finC_okLb, finC_okLs, finC_okLn, s_trya', pickA_t, pickA_f, e_isX, cn_cur, cmp_ne_b, cmp_eq_b, flmap_nx, flmap_rt, lstR_0, lstR_1, tupR_1, lstR_2, tupR_2, lstR_3, tupR_3, lstR_4, tupR_4, lstR_5, tupR_5, lstR_6, tupR_6, lstR_7, tupR_7, lstR_8, lstR_9, o_met, o_isB, o_rl, metR_some, e_met, pm_lc, pm_tc, pm_li, pm_ti, isBR_b, e_isB, e_rl, t_met, t_isB, raiR_s, s_rais', tryR_nx, tryR_rt, tryR_ex, tryR_ite, s_tryx', hs_nil, hs_cons, pick_nil, pick_cons, pickR_t, pickR_f, noEx_nx, noEx_rt, s_asgs', asgsR_fr, cn_b, cn_s, setN, q_nil, q_cons, sq_nx, sq_rt, sq_bk, sq_ct, sq_ex, sq_ite, bind_ok, bind_ex, bind_ite, fl_ok, fl_ex, fl_ite, map_ok, map_ex, map_ite, opt_some, ite_okB, ite_okV, ite_and, ite_or, ops_some, op1_some, ops2_some, op1F_some, opsF_some, andR_b, orR_b, slt_some, vsl_fr, vsl_ow, mvl_some, vwS_fr, vwS_ow, vw_d, vw_sl, tsO_eq, chn_some, cmpR_some, negR_i, intR_i, biR_some, consO_some, vws_nil, vws_cons, o_bo, o_io, o_k, o_g, o_v, o_mv, o_tup, o_lst, o_bin, o_neg, o_cmp, o_chain, o_isN, o_notN, o_and, o_or, o_not, o_ite, o_idx, o_slc, o_call, o_bi, o_isi, o_lc, o_lci, e_k, e_g, e_v, e_mv, e_tup, e_lst, e_bin, e_neg, e_cmp, e_chain, e_isN, e_notN, e_and, e_or, e_not, e_ite, e_idx, e_slc, e_call, e_bi, e_isi, p_none, p_some, os_nil, os_cons, vs_nil, vs_cons, t_and, t_or, t_not, t_bo, t_v, t_k, t_bin, t_cmp, t_chain, t_isN, t_notN, t_idx, t_call, t_bi, t_isi, t_lc, t_lci, i_rng1', i_rng2', i_enu', i_zp', i_itr', seq_sl, seqS_fr, seqS_ow, rngR_i, s_asg', s_ex', s_ret', s_retN', s_pass', s_brk', s_cont', s_ife', s_forr', s_sto', s_aug', s_augl', s_mth', s_par', asgR_eq, nxO_some, stoR_eq, stoN_some, hasR_some, ifN_t, augR_add, augR_sub, isOwR_ow, isOwR_fr, mthR_eq, mtO_some, isOwS_eq, cmp_eq_s, cmp_ne_s, cmp_gt, cmp_lt, le_ii, ge_ii, cmp_eq, cmp_ne, List.getElem?_cons_succ, List.getElem?_cons_zero, Option.map_some, Option.bind_some, Bool.not_false, Bool.not_true, Bool.not_not, Bool.or_true, Bool.true_or, Bool.or_false, Bool.false_or, Bool.and_false, Bool.false_and, dsO, idx_l, idx_t, bin_add, bin_sub, slT, slTs, List.contains_nil, List.contains_cons, bindV, bindT, bindTs, List.set_cons_succ, List.set_cons_zero, if_true, if_false, Bool.false_eq_true, List.all_cons, List.all_nil, Bool.and_true, Bool.true_and, decide_true, decide_false, List.length_cons, List.length_nil, Nat.reduceAdd, Nat.reduceLT, callO_eq, calO_some, nodupB, lentIo, lent, slO, List.isEmpty_nil, List.isEmpty_cons, finC_ok0, finC_ex0, finC_okI, finC_exI, finC_exL, finC_ite, allFr, at_i0, at_1, at_2, at_3, at_4, at_5, at_6, at_7, at_8, at_n, Nat.reduceBEq, Bool.or_self, cn_call, cn_G, cn_w, seq_d, isi_int_int, isi_int_bool, isi_int_str, isi_int_tuple, isi_int_list, isi_bool_int, isi_bool_bool, isi_bool_str, isi_bool_tuple, isi_bool_list, isi_str_int, isi_str_bool, isi_str_str, isi_str_tuple, isi_str_list, isi_tuple_int, isi_tuple_bool, isi_tuple_str, isi_tuple_tuple, isi_tuple_list, isi_list_int, isi_list_bool, isi_list_str, isi_list_tuple, isi_list_list, isi_none_int, isi_none_bool, isi_none_str, isi_none_tuple, isi_none_list, tru_b, tru_i, tru_l, tru_t, tru_n, non_n, non_int, non_bool, non_str, non_tuple, non_list, bi_1, bi_2, bi_len_l, bi_len_t, bi_abs, bi_int, bi_intb, bi_max2, bi_min2, bi_tup_l, bi_tup_t, bi_lst_l, bi_lst_t, itm_l, itm_t, isL_l, isL_t, ho_d, hoS_fr, hoS_ow, ho_sl, hoI_ow, ho_io, consV_some, hand_nil, hand_cons, fz_fr, fz_ow, mkTp_eq, mkT_some, fr_n, fr_t, okTp_fr, okTp_ow, outO_ow, outsOf_nil, outsOf_cons, finO_some, finF_nx, finF_rt, finF_ex, sum_e hl2, sumD_int] <;> rfl) ?_
  have c1 := count_moved_eq (n := 25) hb1 hb2 ha1 ha2 z1 z2
  have c2 := count_moved_eq (n := 25) ha1 ha2 hb1 hb2 z1 z2
  have f1 := first_moved_eq (n := 25) hb1 hb2 ha1 ha2 z1 z2 hfst
  rw [← cU_comm] at c2
  have es : (qs.map fun p => p.2 - p.1).sum = cU b a z z.toNat := hsum.symm
  rw [es]
  refine tr_nx (by simp -implicitDefEqProofs only [o_ss, e_ss, finC_okLi, finC_okLb, finC_okLs, finC_okLn, s_trya', pickA_t, pickA_f, e_isX, cn_cur, cmp_ne_b, cmp_eq_b, flmap_nx, flmap_rt, lstR_0, lstR_1, tupR_1, lstR_2, tupR_2, lstR_3, tupR_3, lstR_4, tupR_4, lstR_5, tupR_5, lstR_6, tupR_6, lstR_7, tupR_7, lstR_8, lstR_9, o_met, o_isB, o_rl, metR_some, e_met, pm_lc, pm_tc, pm_li, pm_ti, isBR_b, e_isB, e_rl, t_met, t_isB, raiR_s, s_rais', tryR_nx, tryR_rt, tryR_ex, tryR_ite, s_tryx', hs_nil, hs_cons, pick_nil, pick_cons, pickR_t, pickR_f, noEx_nx, noEx_rt, s_asgs', asgsR_fr, cn_b, cn_s, setN, q_nil, q_cons, sq_nx, sq_rt, sq_bk, sq_ct, sq_ex, sq_ite, bind_ok, bind_ex, bind_ite, fl_ok, fl_ex, fl_ite, map_ok, map_ex, map_ite, opt_some, ite_okB, ite_okV, ite_and, ite_or, ops_some, op1_some, ops2_some, op1F_some, opsF_some, andR_b, orR_b, slt_some, vsl_fr, vsl_ow, mvl_some, vwS_fr, vwS_ow, vw_d, vw_sl, tsO_eq, chn_some, cmpR_some, negR_i, intR_i, biR_some, consO_some, vws_nil, vws_cons, o_bo, o_io, o_k, o_g, o_v, o_mv, o_tup, o_lst, o_bin, o_neg, o_cmp, o_chain, o_isN, o_notN, o_and, o_or, o_not, o_ite, o_idx, o_slc, o_call, o_bi, o_isi, o_lc, o_lci, e_k, e_g, e_v, e_mv, e_tup, e_lst, e_bin, e_neg, e_cmp, e_chain, e_isN, e_notN, e_and, e_or, e_not, e_ite, e_idx, e_slc, e_call, e_bi, e_isi, e_lc, e_lci, p_none, p_some, os_nil, os_cons, vs_nil, vs_cons, t_and, t_or, t_not, t_bo, t_v, t_k, t_bin, t_cmp, t_chain, t_isN, t_notN, t_idx, t_call, t_bi, t_isi, t_lc, t_lci, i_rng1', i_rng2', i_enu', i_zp', i_itr', seq_sl, seqS_fr, seqS_ow, rngR_i, s_asg', s_ex', s_ret', s_retN', s_pass', s_brk', s_cont', s_ife', s_forr', s_sto', s_aug', s_augl', s_mth', s_par', asgR_eq, nxO_some, stoR_eq, stoN_some, hasR_some, ifN_t, augR_add, augR_sub, isOwR_ow, isOwR_fr, mthR_eq, mtO_some, isOwS_eq, cmp_eq_s, cmp_ne_s, cmp_gt, cmp_lt, le_ii, ge_ii, cmp_eq, cmp_ne, List.getElem?_cons_succ, List.getElem?_cons_zero, Option.map_some, Option.bind_some, Bool.not_false, Bool.not_true, Bool.not_not, Bool.or_true, Bool.true_or, Bool.or_false, Bool.false_or, Bool.and_false, Bool.false_and, dsO, idx_l, idx_t, bin_add, bin_sub, slT, slTs, List.contains_nil, List.contains_cons, bindV, bindT, bindTs, List.set_cons_succ, List.set_cons_zero, if_true, if_false, Bool.false_eq_true, List.all_cons, List.all_nil, Bool.and_true, Bool.true_and, decide_true, decide_false, List.length_cons, List.length_nil, Nat.reduceAdd, Nat.reduceLT, callO_eq, calO_some, nodupB, lentIo, lent, slO, List.isEmpty_nil, List.isEmpty_cons, finC_ok0, finC_ex0, finC_okI, finC_exI, finC_exL, finC_ite, allFr, at_i0, at_1, at_2, at_3, at_4, at_5, at_6, at_7, at_8, at_n, Nat.reduceBEq, Bool.or_self, cn_call, cn_G, cn_w, seq_d, isi_int_int, isi_int_bool, isi_int_str, isi_int_tuple, isi_int_list, isi_bool_int, isi_bool_bool, isi_bool_str, isi_bool_tuple, isi_bool_list, isi_str_int, isi_str_bool, isi_str_str, isi_str_tuple, isi_str_list, isi_tuple_int, isi_tuple_bool, isi_tuple_str, isi_tuple_tuple, isi_tuple_list, isi_list_int, isi_list_bool, isi_list_str, isi_list_tuple, isi_list_list, isi_none_int, isi_none_bool, isi_none_str, isi_none_tuple, isi_none_list, tru_b, tru_i, tru_l, tru_t, tru_n, non_n, non_int, non_bool, non_str, non_tuple, non_list, bi_1, bi_2, bi_len_l, bi_len_t, bi_abs, bi_int, bi_intb, bi_max2, bi_min2, bi_tup_l, bi_tup_t, bi_lst_l, bi_lst_t, itm_l, itm_t, isL_l, isL_t, ho_d, hoS_fr, hoS_ow, ho_sl, hoI_ow, ho_io, consV_some, hand_nil, hand_cons, fz_fr, fz_ow, mkTp_eq, mkT_some, fr_n, fr_t, okTp_fr, okTp_ow, outO_ow, outsOf_nil, outsOf_cons, finO_some, finF_nx, finF_rt, finF_ex, c1] <;> rfl) ?_
  refine tr_nx (by simp -implicitDefEqProofs only [o_ss, e_ss, finC_okLi, finC_okLb, finC_okLs, finC_okLn, s_trya', pickA_t, pickA_f, e_isX, cn_cur, cmp_ne_b, cmp_eq_b, flmap_nx, flmap_rt, lstR_0, lstR_1, tupR_1, lstR_2, tupR_2, lstR_3, tupR_3, lstR_4, tupR_4, lstR_5, tupR_5, lstR_6, tupR_6, lstR_7, tupR_7, lstR_8, lstR_9, o_met, o_isB, o_rl, metR_some, e_met, pm_lc, pm_tc, pm_li, pm_ti, isBR_b, e_isB, e_rl, t_met, t_isB, raiR_s, s_rais', tryR_nx, tryR_rt, tryR_ex, tryR_ite, s_tryx', hs_nil, hs_cons, pick_nil, pick_cons, pickR_t, pickR_f, noEx_nx, noEx_rt, s_asgs', asgsR_fr, cn_b, cn_s, setN, q_nil, q_cons, sq_nx, sq_rt, sq_bk, sq_ct, sq_ex, sq_ite, bind_ok, bind_ex, bind_ite, fl_ok, fl_ex, fl_ite, map_ok, map_ex, map_ite, opt_some, ite_okB, ite_okV, ite_and, ite_or, ops_some, op1_some, ops2_some, op1F_some, opsF_some, andR_b, orR_b, slt_some, vsl_fr, vsl_ow, mvl_some, vwS_fr, vwS_ow, vw_d, vw_sl, tsO_eq, chn_some, cmpR_some, negR_i, intR_i, biR_some, consO_some, vws_nil, vws_cons, o_bo, o_io, o_k, o_g, o_v, o_mv, o_tup, o_lst, o_bin, o_neg, o_cmp, o_chain, o_isN, o_notN, o_and, o_or, o_not, o_ite, o_idx, o_slc, o_call, o_bi, o_isi, o_lc, o_lci, e_k, e_g, e_v, e_mv, e_tup, e_lst, e_bin, e_neg, e_cmp, e_chain, e_isN, e_notN, e_and, e_or, e_not, e_ite, e_idx, e_slc, e_call, e_bi, e_isi, e_lc, e_lci, p_none, p_some, os_nil, os_cons, vs_nil, vs_cons, t_and, t_or, t_not, t_bo, t_v, t_k, t_bin, t_cmp, t_chain, t_isN, t_notN, t_idx, t_call, t_bi, t_isi, t_lc, t_lci, i_rng1', i_rng2', i_enu', i_zp', i_itr', seq_sl, seqS_fr, seqS_ow, rngR_i, s_asg', s_ex', s_ret', s_retN', s_pass', s_brk', s_cont', s_ife', s_forr', s_sto', s_aug', s_augl', s_mth', s_par', asgR_eq, nxO_some, stoR_eq, stoN_some, hasR_some, ifN_t, augR_add, augR_sub, isOwR_ow, isOwR_fr, mthR_eq, mtO_some, isOwS_eq, cmp_eq_s, cmp_ne_s, cmp_gt, cmp_lt, le_ii, ge_ii, cmp_eq, cmp_ne, List.getElem?_cons_succ, List.getElem?_cons_zero, Option.map_some, Option.bind_some, Bool.not_false, Bool.not_true, Bool.not_not, Bool.or_true, Bool.true_or, Bool.or_false, Bool.false_or, Bool.and_false, Bool.false_and, dsO, idx_l, idx_t, bin_add, bin_sub, slT, slTs, List.contains_nil, List.contains_cons, bindV, bindT, bindTs, List.set_cons_succ, List.set_cons_zero, if_true, if_false, Bool.false_eq_true, List.all_cons, List.all_nil, Bool.and_true, Bool.true_and, decide_true, decide_false, List.length_cons, List.length_nil, Nat.reduceAdd, Nat.reduceLT, callO_eq, calO_some, nodupB, lentIo, lent, slO, List.isEmpty_nil, List.isEmpty_cons, finC_ok0, finC_ex0, finC_okI, finC_exI, finC_exL, finC_ite, allFr, at_i0, at_1, at_2, at_3, at_4, at_5, at_6, at_7, at_8, at_n, Nat.reduceBEq, Bool.or_self, cn_call, cn_G, cn_w, seq_d, isi_int_int, isi_int_bool, isi_int_str, isi_int_tuple, isi_int_list, isi_bool_int, isi_bool_bool, isi_bool_str, isi_bool_tuple, isi_bool_list, isi_str_int, isi_str_bool, isi_str_str, isi_str_tuple, isi_str_list, isi_tuple_int, isi_tuple_bool, isi_tuple_str, isi_tuple_tuple, isi_tuple_list, isi_list_int, isi_list_bool, isi_list_str, isi_list_tuple, isi_list_list, isi_none_int, isi_none_bool, isi_none_str, isi_none_tuple, isi_none_list, tru_b, tru_i, tru_l, tru_t, tru_n, non_n, non_int, non_bool, non_str, non_tuple, non_list, bi_1, bi_2, bi_len_l, bi_len_t, bi_abs, bi_int, bi_intb, bi_max2, bi_min2, bi_tup_l, bi_tup_t, bi_lst_l, bi_lst_t, itm_l, itm_t, isL_l, isL_t, ho_d, hoS_fr, hoS_ow, ho_sl, hoI_ow, ho_io, consV_some, hand_nil, hand_cons, fz_fr, fz_ow, mkTp_eq, mkT_some, fr_n, fr_t, okTp_fr, okTp_ow, outO_ow, outsOf_nil, outsOf_cons, finO_some, finF_nx, finF_rt, finF_ex, f1] <;> rfl) ?_
  refine tr_nx (by simp -implicitDefEqProofs only [o_ss, e_ss, finC_okLi, finC_okLb, finC_okLs, finC_okLn, s_trya', pickA_t, pickA_f, e_isX, cn_cur, cmp_ne_b, cmp_eq_b, flmap_nx, flmap_rt, lstR_0, lstR_1, tupR_1, lstR_2, tupR_2, lstR_3, tupR_3, lstR_4, tupR_4, lstR_5, tupR_5, lstR_6, tupR_6, lstR_7, tupR_7, lstR_8, lstR_9, o_met, o_isB, o_rl, metR_some, e_met, pm_lc, pm_tc, pm_li, pm_ti, isBR_b, e_isB, e_rl, t_met, t_isB, raiR_s, s_rais', tryR_nx, tryR_rt, tryR_ex, tryR_ite, s_tryx', hs_nil, hs_cons, pick_nil, pick_cons, pickR_t, pickR_f, noEx_nx, noEx_rt, s_asgs', asgsR_fr, cn_b, cn_s, setN, q_nil, q_cons, sq_nx, sq_rt, sq_bk, sq_ct, sq_ex, sq_ite, bind_ok, bind_ex, bind_ite, fl_ok, fl_ex, fl_ite, map_ok, map_ex, map_ite, opt_some, ite_okB, ite_okV, ite_and, ite_or, ops_some, op1_some, ops2_some, op1F_some, opsF_some, andR_b, orR_b, slt_some, vsl_fr, vsl_ow, mvl_some, vwS_fr, vwS_ow, vw_d, vw_sl, tsO_eq, chn_some, cmpR_some, negR_i, intR_i, biR_some, consO_some, vws_nil, vws_cons, o_bo, o_io, o_k, o_g, o_v, o_mv, o_tup, o_lst, o_bin, o_neg, o_cmp, o_chain, o_isN, o_notN, o_and, o_or, o_not, o_ite, o_idx, o_slc, o_call, o_bi, o_isi, o_lc, o_lci, e_k, e_g, e_v, e_mv, e_tup, e_lst, e_bin, e_neg, e_cmp, e_chain, e_isN, e_notN, e_and, e_or, e_not, e_ite, e_idx, e_slc, e_call, e_bi, e_isi, e_lc, e_lci, p_none, p_some, os_nil, os_cons, vs_nil, vs_cons, t_and, t_or, t_not, t_bo, t_v, t_k, t_bin, t_cmp, t_chain, t_isN, t_notN, t_idx, t_call, t_bi, t_isi, t_lc, t_lci, i_rng1', i_rng2', i_enu', i_zp', i_itr', seq_sl, seqS_fr, seqS_ow, rngR_i, s_asg', s_ex', s_ret', s_retN', s_pass', s_brk', s_cont', s_ife', s_forr', s_sto', s_aug', s_augl', s_mth', s_par', asgR_eq, nxO_some, stoR_eq, stoN_some, hasR_some, ifN_t, augR_add, augR_sub, isOwR_ow, isOwR_fr, mthR_eq, mtO_some, isOwS_eq, cmp_eq_s, cmp_ne_s, cmp_gt, cmp_lt, le_ii, ge_ii, cmp_eq, cmp_ne, List.getElem?_cons_succ, List.getElem?_cons_zero, Option.map_some, Option.bind_some, Bool.not_false, Bool.not_true, Bool.not_not, Bool.or_true, Bool.true_or, Bool.or_false, Bool.false_or, Bool.and_false, Bool.false_and, dsO, idx_l, idx_t, bin_add, bin_sub, slT, slTs, List.contains_nil, List.contains_cons, bindV, bindT, bindTs, List.set_cons_succ, List.set_cons_zero, if_true, if_false, Bool.false_eq_true, List.all_cons, List.all_nil, Bool.and_true, Bool.true_and, decide_true, decide_false, List.length_cons, List.length_nil, Nat.reduceAdd, Nat.reduceLT, callO_eq, calO_some, nodupB, lentIo, lent, slO, List.isEmpty_nil, List.isEmpty_cons, finC_ok0, finC_ex0, finC_okI, finC_exI, finC_exL, finC_ite, allFr, at_i0, at_1, at_2, at_3, at_4, at_5, at_6, at_7, at_8, at_n, Nat.reduceBEq, Bool.or_self, cn_call, cn_G, cn_w, seq_d, isi_int_int, isi_int_bool, isi_int_str, isi_int_tuple, isi_int_list, isi_bool_int, isi_bool_bool, isi_bool_str, isi_bool_tuple, isi_bool_list, isi_str_int, isi_str_bool, isi_str_str, isi_str_tuple, isi_str_list, isi_tuple_int, isi_tuple_bool, isi_tuple_str, isi_tuple_tuple, isi_tuple_list, isi_list_int, isi_list_bool, isi_list_str, isi_list_tuple, isi_list_list, isi_none_int, isi_none_bool, isi_none_str, isi_none_tuple, isi_none_list, tru_b, tru_i, tru_l, tru_t, tru_n, non_n, non_int, non_bool, non_str, non_tuple, non_list, bi_1, bi_2, bi_len_l, bi_len_t, bi_abs, bi_int, bi_intb, bi_max2, bi_min2, bi_tup_l, bi_tup_t, bi_lst_l, bi_lst_t, itm_l, itm_t, isL_l, isL_t, ho_d, hoS_fr, hoS_ow, ho_sl, hoI_ow, ho_io, consV_some, hand_nil, hand_cons, fz_fr, fz_ow, mkTp_eq, mkT_some, fr_n, fr_t, okTp_fr, okTp_ow, outO_ow, outsOf_nil, outsOf_cons, finO_some, finF_nx, finF_rt, finF_ex, law_integer_eq, c2, beq_self_eq_true] <;> rfl) ?_
  cases qs with
  | nil => refine tr_rt (r1 := _) (by simp -implicitDefEqProofs only [o_ss, e_ss, finC_okLi, finC_okLb, finC_okLs, finC_okLn, s_trya', pickA_t, pickA_f, e_isX, cn_cur, cmp_ne_b, cmp_eq_b, flmap_nx, flmap_rt, lstR_0, lstR_1, tupR_1, lstR_2, tupR_2, lstR_3, tupR_3, lstR_4, tupR_4, lstR_5, tupR_5, lstR_6, tupR_6, lstR_7, tupR_7, lstR_8, lstR_9, o_met, o_isB, o_rl, metR_some, e_met, pm_lc, pm_tc, pm_li, pm_ti, isBR_b, e_isB, e_rl, t_met, t_isB, raiR_s, s_rais', tryR_nx, tryR_rt, tryR_ex, tryR_ite, s_tryx', hs_nil, hs_cons, pick_nil, pick_cons, pickR_t, pickR_f, noEx_nx, noEx_rt, s_asgs', asgsR_fr, cn_b, cn_s, setN, q_nil, q_cons, sq_nx, sq_rt, sq_bk, sq_ct, sq_ex, sq_ite, bind_ok, bind_ex, bind_ite, fl_ok, fl_ex, fl_ite, map_ok, map_ex, map_ite, opt_some, ite_okB, ite_okV, ite_and, ite_or, ops_some, op1_some, ops2_some, op1F_some, opsF_some, andR_b, orR_b, slt_some, vsl_fr, vsl_ow, mvl_some, vwS_fr, vwS_ow, vw_d, vw_sl, tsO_eq, chn_some, cmpR_some, negR_i, intR_i, biR_some, consO_some, vws_nil, vws_cons, o_bo, o_io, o_k, o_g, o_v, o_mv, o_tup, o_lst, o_bin, o_neg, o_cmp, o_chain, o_isN, o_notN, o_and, o_or, o_not, o_ite, o_idx, o_slc, o_call, o_bi, o_isi, o_lc, o_lci, e_k, e_g, e_v, e_mv, e_tup, e_lst, e_bin, e_neg, e_cmp, e_chain, e_isN, e_notN, e_and, e_or, e_not, e_ite, e_idx, e_slc, e_call, e_bi, e_isi, e_lc, e_lci, p_none, p_some, os_nil, os_cons, vs_nil, vs_cons, t_and, t_or, t_not, t_bo, t_v, t_k, t_bin, t_cmp, t_chain, t_isN, t_notN, t_idx, t_call, t_bi, t_isi, t_lc, t_lci, i_rng1', i_rng2', i_enu', i_zp', i_itr', seq_sl, seqS_fr, seqS_ow, rngR_i, s_asg', s_ex', s_ret', s_retN', s_pass', s_brk', s_cont', s_ife', s_forr', s_sto', s_aug', s_augl', s_mth', s_par', asgR_eq, nxO_some, stoR_eq, stoN_some, hasR_some, ifN_t, augR_add, augR_sub, isOwR_ow, isOwR_fr, mthR_eq, mtO_some, isOwS_eq, cmp_eq_s, cmp_ne_s, cmp_gt, cmp_lt, le_ii, ge_ii, cmp_eq, cmp_ne, List.getElem?_cons_succ, List.getElem?_cons_zero, Option.map_some, Option.bind_some, Bool.not_false, Bool.not_true, Bool.not_not, Bool.or_true, Bool.true_or, Bool.or_false, Bool.false_or, Bool.and_false, Bool.false_and, dsO, idx_l, idx_t, bin_add, bin_sub, slT, slTs, List.contains_nil, List.contains_cons, bindV, bindT, bindTs, List.set_cons_succ, List.set_cons_zero, if_true, if_false, Bool.false_eq_true, List.all_cons, List.all_nil, Bool.and_true, Bool.true_and, decide_true, decide_false, List.length_cons, List.length_nil, Nat.reduceAdd, Nat.reduceLT, callO_eq, calO_some, nodupB, lentIo, lent, slO, List.isEmpty_nil, List.isEmpty_cons, finC_ok0, finC_ex0, finC_okI, finC_exI, finC_exL, finC_ite, allFr, at_i0, at_1, at_2, at_3, at_4, at_5, at_6, at_7, at_8, at_n, Nat.reduceBEq, Bool.or_self, cn_call, cn_G, cn_w, seq_d, isi_int_int, isi_int_bool, isi_int_str, isi_int_tuple, isi_int_list, isi_bool_int, isi_bool_bool, isi_bool_str, isi_bool_tuple, isi_bool_list, isi_str_int, isi_str_bool, isi_str_str, isi_str_tuple, isi_str_list, isi_tuple_int, isi_tuple_bool, isi_tuple_str, isi_tuple_tuple, isi_tuple_list, isi_list_int, isi_list_bool, isi_list_str, isi_list_tuple, isi_list_list, isi_none_int, isi_none_bool, isi_none_str, isi_none_tuple, isi_none_list, tru_b, tru_i, tru_l, tru_t, tru_n, non_n, non_int, non_bool, non_str, non_tuple, non_list, bi_1, bi_2, bi_len_l, bi_len_t, bi_abs, bi_int, bi_intb, bi_max2, bi_min2, bi_tup_l, bi_tup_t, bi_lst_l, bi_lst_t, itm_l, itm_t, isL_l, isL_t, ho_d, hoS_fr, hoS_ow, ho_sl, hoI_ow, ho_io, consV_some, hand_nil, hand_cons, fz_fr, fz_ow, mkTp_eq, mkT_some, fr_n, fr_t, okTp_fr, okTp_ow, outO_ow, outsOf_nil, outsOf_cons, finO_some, finF_nx, finF_rt, finF_ex, List.map_nil, List.head?, Option.map_none, optD] <;> rfl)
  | cons q r =>
    refine tr_nx (by simp -implicitDefEqProofs only [o_ss, e_ss, finC_okLi, finC_okLb, finC_okLs, finC_okLn, s_trya', pickA_t, pickA_f, e_isX, cn_cur, cmp_ne_b, cmp_eq_b, flmap_nx, flmap_rt, lstR_0, lstR_1, tupR_1, lstR_2, tupR_2, lstR_3, tupR_3, lstR_4, tupR_4, lstR_5, tupR_5, lstR_6, tupR_6, lstR_7, tupR_7, lstR_8, lstR_9, o_met, o_isB, o_rl, metR_some, e_met, pm_lc, pm_tc, pm_li, pm_ti, isBR_b, e_isB, e_rl, t_met, t_isB, raiR_s, s_rais', tryR_nx, tryR_rt, tryR_ex, tryR_ite, s_tryx', hs_nil, hs_cons, pick_nil, pick_cons, pickR_t, pickR_f, noEx_nx, noEx_rt, s_asgs', asgsR_fr, cn_b, cn_s, setN, q_nil, q_cons, sq_nx, sq_rt, sq_bk, sq_ct, sq_ex, sq_ite, bind_ok, bind_ex, bind_ite, fl_ok, fl_ex, fl_ite, map_ok, map_ex, map_ite, opt_some, ite_okB, ite_okV, ite_and, ite_or, ops_some, op1_some, ops2_some, op1F_some, opsF_some, andR_b, orR_b, slt_some, vsl_fr, vsl_ow, mvl_some, vwS_fr, vwS_ow, vw_d, vw_sl, tsO_eq, chn_some, cmpR_some, negR_i, intR_i, biR_some, consO_some, vws_nil, vws_cons, o_bo, o_io, o_k, o_g, o_v, o_mv, o_tup, o_lst, o_bin, o_neg, o_cmp, o_chain, o_isN, o_notN, o_and, o_or, o_not, o_ite, o_idx, o_slc, o_call, o_bi, o_isi, o_lc, o_lci, e_k, e_g, e_v, e_mv, e_tup, e_lst, e_bin, e_neg, e_cmp, e_chain, e_isN, e_notN, e_and, e_or, e_not, e_ite, e_idx, e_slc, e_call, e_bi, e_isi, e_lc, e_lci, p_none, p_some, os_nil, os_cons, vs_nil, vs_cons, t_and, t_or, t_not, t_bo, t_v, t_k, t_bin, t_cmp, t_chain, t_isN, t_notN, t_idx, t_call, t_bi, t_isi, t_lc, t_lci, i_rng1', i_rng2', i_enu', i_zp', i_itr', seq_sl, seqS_fr, seqS_ow, rngR_i, s_asg', s_ex', s_ret', s_retN', s_pass', s_brk', s_cont', s_ife', s_forr', s_sto', s_aug', s_augl', s_mth', s_par', asgR_eq, nxO_some, stoR_eq, stoN_some, hasR_some, ifN_t, augR_add, augR_sub, isOwR_ow, isOwR_fr, mthR_eq, mtO_some, isOwS_eq, cmp_eq_s, cmp_ne_s, cmp_gt, cmp_lt, le_ii, ge_ii, cmp_eq, cmp_ne, List.getElem?_cons_succ, List.getElem?_cons_zero, Option.map_some, Option.bind_some, Bool.not_false, Bool.not_true, Bool.not_not, Bool.or_true, Bool.true_or, Bool.or_false, Bool.false_or, Bool.and_false, Bool.false_and, dsO, idx_l, idx_t, bin_add, bin_sub, slT, slTs, List.contains_nil, List.contains_cons, bindV, bindT, bindTs, List.set_cons_succ, List.set_cons_zero, if_true, if_false, Bool.false_eq_true, List.all_cons, List.all_nil, Bool.and_true, Bool.true_and, decide_true, decide_false, List.length_cons, List.length_nil, Nat.reduceAdd, Nat.reduceLT, callO_eq, calO_some, nodupB, lentIo, lent, slO, List.isEmpty_nil, List.isEmpty_cons, finC_ok0, finC_ex0, finC_okI, finC_exI, finC_exL, finC_ite, allFr, at_i0, at_1, at_2, at_3, at_4, at_5, at_6, at_7, at_8, at_n, Nat.reduceBEq, Bool.or_self, cn_call, cn_G, cn_w, seq_d, isi_int_int, isi_int_bool, isi_int_str, isi_int_tuple, isi_int_list, isi_bool_int, isi_bool_bool, isi_bool_str, isi_bool_tuple, isi_bool_list, isi_str_int, isi_str_bool, isi_str_str, isi_str_tuple, isi_str_list, isi_tuple_int, isi_tuple_bool, isi_tuple_str, isi_tuple_tuple, isi_tuple_list, isi_list_int, isi_list_bool, isi_list_str, isi_list_tuple, isi_list_list, isi_none_int, isi_none_bool, isi_none_str, isi_none_tuple, isi_none_list, tru_b, tru_i, tru_l, tru_t, tru_n, non_n, non_int, non_bool, non_str, non_tuple, non_list, bi_1, bi_2, bi_len_l, bi_len_t, bi_abs, bi_int, bi_intb, bi_max2, bi_min2, bi_tup_l, bi_tup_t, bi_lst_l, bi_lst_t, itm_l, itm_t, isL_l, isL_t, ho_d, hoS_fr, hoS_ow, ho_sl, hoI_ow, ho_io, consV_some, hand_nil, hand_cons, fz_fr, fz_ow, mkTp_eq, mkT_some, fr_n, fr_t, okTp_fr, okTp_ow, outO_ow, outsOf_nil, outsOf_cons, finO_some, finF_nx, finF_rt, finF_ex, List.map_cons] <;> rfl) ?_
    refine tr_rt (r1 := _) (by simp -implicitDefEqProofs only [o_ss, e_ss, finC_okLi, finC_okLb, finC_okLs, finC_okLn, s_trya', pickA_t, pickA_f, e_isX, cn_cur, cmp_ne_b, cmp_eq_b, flmap_nx, flmap_rt, lstR_0, lstR_1, tupR_1, lstR_2, tupR_2, lstR_3, tupR_3, lstR_4, tupR_4, lstR_5, tupR_5, lstR_6, tupR_6, lstR_7, tupR_7, lstR_8, lstR_9, o_met, o_isB, o_rl, metR_some, e_met, pm_lc, pm_tc, pm_li, pm_ti, isBR_b, e_isB, e_rl, t_met, t_isB, raiR_s, s_rais', tryR_nx, tryR_rt, tryR_ex, tryR_ite, s_tryx', hs_nil, hs_cons, pick_nil, pick_cons, pickR_t, pickR_f, noEx_nx, noEx_rt, s_asgs', asgsR_fr, cn_b, cn_s, setN, q_nil, q_cons, sq_nx, sq_rt, sq_bk, sq_ct, sq_ex, sq_ite, bind_ok, bind_ex, bind_ite, fl_ok, fl_ex, fl_ite, map_ok, map_ex, map_ite, opt_some, ite_okB, ite_okV, ite_and, ite_or, ops_some, op1_some, ops2_some, op1F_some, opsF_some, andR_b, orR_b, slt_some, vsl_fr, vsl_ow, mvl_some, vwS_fr, vwS_ow, vw_d, vw_sl, tsO_eq, chn_some, cmpR_some, negR_i, intR_i, biR_some, consO_some, vws_nil, vws_cons, o_bo, o_io, o_k, o_g, o_v, o_mv, o_tup, o_lst, o_bin, o_neg, o_cmp, o_chain, o_isN, o_notN, o_and, o_or, o_not, o_ite, o_idx, o_slc, o_call, o_bi, o_isi, o_lc, o_lci, e_k, e_g, e_v, e_mv, e_tup, e_lst, e_bin, e_neg, e_cmp, e_chain, e_isN, e_notN, e_and, e_or, e_not, e_ite, e_idx, e_slc, e_call, e_bi, e_isi, e_lc, e_lci, p_none, p_some, os_nil, os_cons, vs_nil, vs_cons, t_and, t_or, t_not, t_bo, t_v, t_k, t_bin, t_cmp, t_chain, t_isN, t_notN, t_idx, t_call, t_bi, t_isi, t_lc, t_lci, i_rng1', i_rng2', i_enu', i_zp', i_itr', seq_sl, seqS_fr, seqS_ow, rngR_i, s_asg', s_ex', s_ret', s_retN', s_pass', s_brk', s_cont', s_ife', s_forr', s_sto', s_aug', s_augl', s_mth', s_par', asgR_eq, nxO_some, stoR_eq, stoN_some, hasR_some, ifN_t, augR_add, augR_sub, isOwR_ow, isOwR_fr, mthR_eq, mtO_some, isOwS_eq, cmp_eq_s, cmp_ne_s, cmp_gt, cmp_lt, le_ii, ge_ii, cmp_eq, cmp_ne, List.getElem?_cons_succ, List.getElem?_cons_zero, Option.map_some, Option.bind_some, Bool.not_false, Bool.not_true, Bool.not_not, Bool.or_true, Bool.true_or, Bool.or_false, Bool.false_or, Bool.and_false, Bool.false_and, dsO, idx_l, idx_t, bin_add, bin_sub, slT, slTs, List.contains_nil, List.contains_cons, bindV, bindT, bindTs, List.set_cons_succ, List.set_cons_zero, if_true, if_false, Bool.false_eq_true, List.all_cons, List.all_nil, Bool.and_true, Bool.true_and, decide_true, decide_false, List.length_cons, List.length_nil, Nat.reduceAdd, Nat.reduceLT, callO_eq, calO_some, nodupB, lentIo, lent, slO, List.isEmpty_nil, List.isEmpty_cons, finC_ok0, finC_ex0, finC_okI, finC_exI, finC_exL, finC_ite, allFr, at_i0, at_1, at_2, at_3, at_4, at_5, at_6, at_7, at_8, at_n, Nat.reduceBEq, Bool.or_self, cn_call, cn_G, cn_w, seq_d, isi_int_int, isi_int_bool, isi_int_str, isi_int_tuple, isi_int_list, isi_bool_int, isi_bool_bool, isi_bool_str, isi_bool_tuple, isi_bool_list, isi_str_int, isi_str_bool, isi_str_str, isi_str_tuple, isi_str_list, isi_tuple_int, isi_tuple_bool, isi_tuple_str, isi_tuple_tuple, isi_tuple_list, isi_list_int, isi_list_bool, isi_list_str, isi_list_tuple, isi_list_list, isi_none_int, isi_none_bool, isi_none_str, isi_none_tuple, isi_none_list, tru_b, tru_i, tru_l, tru_t, tru_n, non_n, non_int, non_bool, non_str, non_tuple, non_list, bi_1, bi_2, bi_len_l, bi_len_t, bi_abs, bi_int, bi_intb, bi_max2, bi_min2, bi_tup_l, bi_tup_t, bi_lst_l, bi_lst_t, itm_l, itm_t, isL_l, isL_t, ho_d, hoS_fr, hoS_ow, ho_sl, hoI_ow, ho_io, consV_some, hand_nil, hand_cons, fz_fr, fz_ow, mkTp_eq, mkT_some, fr_n, fr_t, okTp_fr, okTp_ow, outO_ow, outsOf_nil, outsOf_cons, finO_some, finF_nx, finF_rt, finF_ex, List.map_cons, List.head?, optD, rowD, law_integer_eq, beq_self_eq_true] <;> rfl)
theorem holds : PySem.Challenge.rw_lanescounted_k03_marks_moved_by_ranges.Holds := holds_of law_ok
end Lawk03

theorem PySem.Challenge.cw_lanescounted_k03_marks_moved_by_ranges_holds : PySem.Challenge.rw_lanescounted_k03_marks_moved_by_ranges.Holds :=
  Lawk03.holds
#print axioms PySem.Challenge.cw_lanescounted_k03_marks_moved_by_ranges_holds
