import PyProof.Rows.All
import Wide.All
import OpenK.AllK
import Wide.FinOn
import PyProof.ListMulRoad
import PyProof.FactsAll.tuple_2
import KE.KRevSl
import HandS.ForMost
import HandS.TupAny
import HandS.TupMul
import HandS.Style
import HandS.SetFor
import HandS.Strs
import HandS.Conv
import KE.KDictKeyed
import KE.KDictOf
import KE.KDictDisplayH
import KE.KDictWalk
import KE.KDictZip
import HandS.Zip
import KE.GoesEnum
import KE.KTurns
import HandS.Zip0
import HandS.IsInst
import HandS.Flow
import HandS.Iter
import HandS.Comp
import HandS.Dict
import HandS.List
import HandS.Words
import HandS.WordsExc
import HandS.Defaults
import PySem.Challenge.RW_drycells_k34_whole_false_forgings_by_all
import HandS.Steps
import HandS.Exc
import HandS.ExcOwn
import HandS.ExcIs
import HandS.HeadHook1
import HandS.Head0
import HandS.Head1
import HandS.Head2
import HandS.HeadEnd
import HandS.HeadHook2
import HandS.HeadHook4
set_option Elab.async false
set_option linter.all false
set_option maxRecDepth 100000
set_option maxHeartbeats 4000000
/-! ## R1 -/
namespace DK
open PySem PySem.Spec PyProof.Rows L2
/-! ### tuple * 0, tuple * 1 -/
theorem tuple_mul0 (l : Addr) (items : Array Value) (n : Nat) (dd : Option Addr) (sl : Array (Option Value)) (u : Tok) (he : items.isEmpty = false) :
    Meets (Builtin.«tuple.__mul__» ⟨[.ref l, .int 0 u], []⟩) (fun _ R s => s.heap.get? l = some { cls := .type "tuple", dict := dd, data := .seq items n, slots := sl } ∧
      R (.ok (.ret (Value.ref s.heap.objs.size))) { s with heap := s.heap.push { cls := Value.type "tuple", data := Data.seq #[] }, toks := s.toks }) :=
  .of_wp fun prog w A R s h => by
    obtain ⟨hp, g, d, tk, os⟩ := s
    obtain ⟨hl, h⟩ := h
    have f1 := AutoSeq1.idx_int
    wp_walk using wpAny_loadPart' hl
    repeat (first
      | (refine wpAny_ite_false (decide_eq_false (by rw [he]; decide)) ?_; wp_walk using wpAny_loadPart' hl)
      | (refine wpAny_ite_false (by decide) ?_; wp_walk using wpAny_loadPart' hl)
      | (refine wpAny_ite_true (by decide) ?_; wp_walk using wpAny_loadPart' hl))
    exact ⟨_, rfl, h⟩
theorem tuple_mul1 (l : Addr) (items : Array Value) (n : Nat) (dd : Option Addr) (sl : Array (Option Value)) (u : Tok) :
    Meets (Builtin.«tuple.__mul__» ⟨[.ref l, .int 1 u], []⟩) (fun _ R s => s.heap.get? l = some { cls := .type "tuple", dict := dd, data := .seq items n, slots := sl } ∧
      R (.ok (.ret (Value.ref l))) s) :=
  .of_wp fun prog w A R s h => by
    obtain ⟨hp, g, d, tk, os⟩ := s
    obtain ⟨hl, h⟩ := h
    have f1 := AutoSeq1.idx_int
    wp_walk using wpAny_loadPart' hl
    repeat (first
      | (refine wpAny_ite_false (by decide) ?_; wp_walk using wpAny_loadPart' hl)
      | (refine wpAny_ite_true (decide_eq_true (by rw [Bool.or_comm]; rfl)) ?_; wp_walk using wpAny_loadPart' hl)
      | (refine wpAny_ite_true (by decide) ?_; wp_walk using wpAny_loadPart' hl))
    exact ⟨_, rfl, h⟩
/-- t * k, t not empty, k from 0 -/
def rRepA (K : PySem.W.Frag) : R2 := fun x y H Q => ∃ l k xs, x = .ref l ∧ y = .int k ∧ SqT K H l xs ∧ xs ≠ [] ∧ 0 ≤ k ∧ k ≤ 1000 ∧ xs.length ≤ 1000 ∧
  (k = 1 → Q (.ref l) H) ∧ (k ≠ 1 → ∀ p, H p = none → Q (.ref p) (upd H p (.tup (List.replicate k.toNat xs).flatten)))
section
variable {X : Cx}
theorem op_repA : OpR X (binaryOp .Mult) (rRepA X.K) := by
  intro pins s σ H x y v u Q I rx ry h
  obtain ⟨l, k, xs, ex, ey, hT, hne, h0, h1, hz, q1, q2⟩ := h
  by_cases k2 : 2 ≤ k
  · exact op_repT pins s σ H x y v u Q I rx ry ⟨l, k, xs, ex, ey, hT, hne, k2, h1, hz, q2 (by omega)⟩
  subst ex ey
  cases rx
  obtain ⟨t, rfl⟩ := ry
  obtain ⟨its, r, ⟨⟨cls, dd, data, sl⟩, ho, hc, n, hd⟩, hs⟩ := I.tuple hT
  simp only at hc hd
  subst hc hd
  have hn : its ≠ [] := fun e => hne (by
    rw [e] at r
    cases r
    rfl)
  have hi : its.toArray.isEmpty = false := by
    cases its with
    | nil => exact absurd rfl hn
    | cons a b => rfl
  rcases (show k = 0 ∨ k = 1 by omega) with e | e
  · subst e
    refine wpAny_binaryOp_repeat_ref (T := "tuple") (U := "int") (by decide) ⟨_, ho, rfl⟩ (fun s' => typeIs_int s' 0 t) noFill_tuple_mul F.fills_int_mul F.slot_int_rmul repeat_tuple F.slot_int_index.lookup
      (call_meets F.slot_int_rmul (typeIs_int s 0 t) F.entry_int_rmul (F.args_int_rmul_2 _ _) (int_rmul_tuple 0 t l its.toArray n dd sl)
        ⟨ho, rfl, ⟨_, ho, rfl⟩, call_meets F.slot_tuple_mul ⟨_, ho, rfl⟩ F.entry_tuple_mul (F.args_tuple_mul_2 _ _) (tuple_mul0 l its.toArray n dd sl t hi) ⟨ho, ?_⟩⟩)
    exact ⟨.ref s.heap.objs.size, _, I.laid (t' := s.toks) (o := .tup []) (fun b ob q => Heap.get?_push_of_some _ q) (Nat.le_refl _) ⟨Nat.zero_le _, [], .nil, IsTup.new _ _⟩, rfl, q2 (by decide) _ (I.hok.fresh (Nat.le_refl _))⟩
  · subst e
    refine wpAny_binaryOp_repeat_ref (T := "tuple") (U := "int") (by decide) ⟨_, ho, rfl⟩ (fun s' => typeIs_int s' 1 t) noFill_tuple_mul F.fills_int_mul F.slot_int_rmul repeat_tuple F.slot_int_index.lookup
      (call_meets F.slot_int_rmul (typeIs_int s 1 t) F.entry_int_rmul (F.args_int_rmul_2 _ _) (int_rmul_tuple 1 t l its.toArray n dd sl)
        ⟨ho, rfl, ⟨_, ho, rfl⟩, call_meets F.slot_tuple_mul ⟨_, ho, rfl⟩ F.entry_tuple_mul (F.args_tuple_mul_2 _ _) (tuple_mul1 l its.toArray n dd sl t) ⟨ho, ?_⟩⟩)
    exact ⟨.ref l, H, I, rfl, q1 rfl⟩
end
/-! ### any(t) of a tuple of ints -/
theorem truth_ints {prog : Program} {w : World} {A : Around} {ns : List Int} {its : List Value} (e : IntsAre its ns) :
    TruthOf prog w A (fun i v => its.toArray[i]? = some v) (fun i => ns.getD i 0 != 0) := fun i v s Q E hv hq => by
  have hv' : its[i]? = some v := by simpa using hv
  obtain ⟨t, e'⟩ := PyProof.Rows.IntsAre.int_at e i v hv'
  subst e'
  exact truthy_int hq
theorem anyI_range : ∀ ns : List Int, (List.range ns.length).any (fun i => ns.getD i 0 != 0) = ns.any (fun x => x != 0)
  | [] => rfl
  | b :: bs => by
    rw [List.length_cons, List.range_succ_eq_map, List.any_cons, List.any_map, List.any_cons, ← anyI_range bs]
    rfl
def rAnyI (K : PySem.W.Frag) : List V → Hp → VK → Prop := fun vs H Q => ∃ (a : Addr) (ns : List Int), vs = [V.ref a] ∧ SqT K H a (ns.map V.int) ∧ Q (.bl (ns.any (fun x => x != 0))) H
theorem iter_anyT {prog : Program} {w : World} {A : Around} {E : Value → Shared → Prop} {s : Shared} {l : Addr} {items : Array Value} {Q : Value → Shared → Prop} (hl : s.heap.IsTuple l items)
    (h : ∀ s₂ : Shared, s₂ = { s with heap := s.heap.push { cls := .type "tuple_iterator", data := .fields #[.ref l, .int 0 0] } } →
      (s₂.heap.IsTupleIter s.heap.objs.size l 0 ∧ s₂.heap.IsTuple l items) → l ≠ s.heap.objs.size → Q (.ref s.heap.objs.size) s₂) : wpAny (model prog w) A (pyIter (.ref l)) Q E s := by
  refine wpAny_pyIter_tuple hl ?_
  refine h _ rfl ⟨⟨_, Heap.get?_push_size _ rfl, rfl, rfl⟩, hl.push _⟩ ?_
  obtain ⟨o, ho, _⟩ := hl
  exact Nat.ne_of_lt (Heap.lt_size ho)
section
variable {X : Cx}
theorem cr_anyI (hc : X.calm = true) : CallR X (.builtin "any") (rAnyI X.K) := by
  intro pins s σ H vs us Q I r h
  obtain ⟨a, ns, rfl, hs, q⟩ := h
  obtain ⟨its, rv, hl, _⟩ := I.tuple hs
  rw [Vals.ref1 r]
  have hb := rv.ints
  refine call_any_walk (iter_anyT hl fun s₂ e2 st hne => ?_)
  subst e2
  refine ⟨_, _, _, _, _, _, _, rfl, Walks.tuple (A := X.A.in1) (I.ok.hd hc) _ a hne its.toArray, st, truth_ints hb, fun h' tk hk => ?_⟩
  refine ⟨.bl _, H, I.kept fun b o eo => hk b o (fun hmem => ?_) (Heap.get?_push_of_some _ eo), ?_, q⟩
  · rcases List.mem_cons.mp hmem with e1 | hmem
    · exact absurd (e1 ▸ Heap.lt_size eo) (Nat.lt_irrefl _)
    · cases hmem
  · show Value.bool _ = Value.bool _
    rw [← anyI_range, List.size_toArray, hb.length]
/-! ### t.count(k) of a tuple of ints -/
def rCntT (K : PySem.W.Frag) : V → List V → Hp → VK → Prop := fun x xs H Q => ∃ (p : Addr) (ns : List Int) (k : Int), x = .ref p ∧ xs = [.int k] ∧ SqT K H p (ns.map V.int) ∧ Q (.int (ns.count k : Nat)) H
theorem mt_tcount : MtR X "tuple.count" (rCntT X.K) := by
  intro pins s σ H x xs v us Q I rx rxs h
  obtain ⟨p, ns, k, rfl, rfl, hs, q⟩ := h
  cases rx
  obtain ⟨u, rfl, ru⟩ := rxs.one
  obtain ⟨t, rfl⟩ := ru
  obtain ⟨its, rv, ⟨⟨cls, dd, data, sl⟩, ho, hc, n, hd⟩, hlen⟩ := I.tuple hs
  simp only at hc hd
  subst hc hd
  have hi := rv.ints
  refine call_meets PySem.F.slot_tuple_count ⟨_, ho, rfl⟩ PySem.F.entry_tuple_count (PySem.F.args_tuple_count_2 _ _)
    (SeqAt.tuple_countAt p its.toArray n dd sl (.int k t) (eqk k)) ⟨ho, fun y hy => (eqk_gives hi y (by simpa using hy)).at _ _, ?_⟩
  have ec : its.toArray.toList.countP (eqk k) = ns.count k := eqk_count hi
  refine ⟨.int (ns.count k : Nat), H, I.tok _, ⟨s.toks, ?_⟩, q⟩
  show Value.int ((its.toArray.toList.countP (eqk k) : Nat) : Int) s.toks = Value.int ((ns.count k : Nat) : Int) s.toks
  rw [ec]
/-- t.count(e), t a tracked tuple of ints -/
def tCntT (K : PySem.W.Frag) (to : TE) (t : TA) : TE := fun σ H Q => to σ H fun x H1 => (∃ a xs, x = V.ref a ∧ H1 a = some (.tup xs)) ∧ t σ H1 fun xs H2 => rCntT K x xs H2 Q
end
end DK

/-! ## R2 -/
namespace DK
open PySem PySem.Spec PyProof.Rows L2
section
variable {P : Program} {w : World} {A : Around} {E : Value → Shared → Prop} {s : Shared}
theorem call_set_lstI {l : Addr} {items : Array Value} (ns : List Int) {Q : Value → Shared → Prop} (hh : A.handled = none) (hl : s.heap.IsList l items) (hit : IntsAre items.toList ns) (hb : ns.length + 1 < scanBound)
    (h : ∀ (h' : Heap) (tk c : Nat), SetR w h' s.heap.objs.size (fun j => decide (j ∈ ns)) c → c ≤ ns.length → (∀ b o, s.heap.get? b = some o → h'.get? b = some o) → Q (.ref s.heap.objs.size) { s with heap := h', toks := tk }) :
    wpAny (model P w) A (call (.type "set") [.ref l]) Q E s := by
  have hisz : items.size = ns.length := by
    have q := IntsAre.length hit
    rw [Array.length_toList] at q
    exact q
  obtain ⟨c, tl, hmro⟩ := F.called_set.mro
  have hmade := F.called_set.made
  have hsub := F.called_set.sub
  refine wpAny_call (codeAny_of_tree ?_)
  show wpAny _ _ (callAny (.type "set") _) _ _ _
  refine wpAny_pure ⟨Code.quiet_builtin _ (by decide +kernel), codeAny_builtin F.entry_type_call ?_⟩
  rw [Around.under_plain (weight_type_call_type "set" [.ref l] []) rfl]
  have h1 := F.called_set.notType
  have h2 := F.called_set.canCreate
  have hct := F.typeCall_set_1 (.ref l)
  repeat (any_goals (first | assumption | wp_step))

  refine codeAny_mono (code_set_led1 (.ref l) (E := E) (Q₁ := fun obj s₁ => obj = .ref s.heap.objs.size ∧ s₁ = { s with heap := s.heap.push { cls := .type "set", dict := none, data := .set #[] 0 (.fresh 0 0 (!w.params.followText "set-order")) } }) ⟨rfl, rfl⟩) fun r s₁ hr => ?_
  cases r with
  | error e => exact hr
  | ok fl =>
    cases fl with
    | ret obj =>
      obtain ⟨rfl, rfl⟩ := hr
      have hS : (s.heap.push { cls := .type "set", dict := none, data := .set #[] 0 (.fresh 0 0 (!w.params.followText "set-order")) }).get? s.heap.objs.size = some { cls := .type "set", dict := none, data := .set #[] 0 (.fresh 0 0 (!w.params.followText "set-order")) } := Heap.get?_push_size _ rfl
      have hT : Shared.TypeIs { s with heap := s.heap.push { cls := .type "set", dict := none, data := .set #[] 0 (.fresh 0 0 (!w.params.followText "set-order")) } } (.ref s.heap.objs.size) "set" := ⟨_, hS, rfl⟩
      have hli := F.called_set.init.lookup
      have hbi := F.called_set.init.bind (.ref s.heap.objs.size)
      repeat (any_goals (first | assumption | wp_step))

      refine codeAny_mono (codeAny_call_builtin (R := wants (fun r s₂ => r = .none ∧ ∃ h' tk c, s₂ = { s with heap := h', toks := tk } ∧ SetR w h' s.heap.objs.size (fun j => decide (j ∈ ns)) c ∧ c ≤ ns.length ∧
          (∀ b o, s.heap.get? b = some o → h'.get? b = some o)) E) F.called_set.init.plain F.entry_set_init (check_set_init_1 hT ?_)) fun r₂ s₂ hr₂ => ?_
      · obtain ⟨ol, hol, hcl, nl, hdl⟩ := hl
        obtain ⟨ocls, odict, odata, oslots⟩ := ol
        simp only at hcl hdl
        subst hcl; subst hdl
        have hol' : (s.heap.push { cls := .type "set", dict := none, data := .set #[] 0 (.fresh 0 0 (!w.params.followText "set-order")) }).get? l = some { cls := .type "list", dict := odict, data := .seq items nl, slots := oslots } := Heap.get?_push_of_some _ hol
        have hsls := F.sub_list_set
        have hslf := F.sub_list_frozenset
        have hne : (Value.type "list" == Value.type "dict") = false := by decide
        have hl1 : (s.heap.push { cls := .type "set", dict := none, data := .set #[] 0 (.fresh 0 0 (!w.params.followText "set-order")) }).IsList l items := ⟨_, hol', rfl, nl, rfl⟩
        unfold Builtin.«set.__init__» noKeywords Builtin.Frozenset.updateFrom
        generalize hPI : pyIter = PI
        wp_walk
        subst hPI

        refine wpAny_pyIter_list hl1 ?_
        refine wpAny_bind (wpAny_runValue ?_)
        have hlS : l < s.heap.objs.size := Heap.lt_size hol
        have hh3 : A.in1.in1.in1.handled = none := by simp [hh]
        have hz1 : (s.heap.push { cls := .type "set", dict := none, data := .set #[] 0 (.fresh 0 0 (!w.params.followText "set-order")) }).objs.size = s.heap.objs.size + 1 := Heap.size_push ..
        have hneI : l ≠ (s.heap.push { cls := .type "set", dict := none, data := .set #[] 0 (.fresh 0 0 (!w.params.followText "set-order")) }).objs.size := by
          rw [Heap.size_push]; exact Nat.ne_of_lt (Nat.lt_succ_of_lt hlS)
        have hSf : s.heap.objs.size ∉ [(s.heap.push { cls := .type "set", dict := none, data := .set #[] 0 (.fresh 0 0 (!w.params.followText "set-order")) }).objs.size, l] := by
          rw [Heap.size_push]; simp only [List.mem_cons, List.mem_singleton, List.not_mem_nil, or_false, not_or]
          exact ⟨Nat.ne_of_lt (Nat.lt_succ_self _), Nat.ne_of_gt hlS⟩
        have hval : ∀ (i : Nat) (v : Value), items[i]? = some v → ∃ k t, ns[i]? = some k ∧ v = .int k t := fun i v hv => by
          have hi : i < ns.length := by rw [← hisz]; exact (Array.getElem?_eq_some_iff.mp hv).1
          obtain ⟨t, e⟩ := PyProof.Rows.IntsAre.int_at hit i v (by rw [Array.getElem?_toList]; exact hv)
          refine ⟨ns[i], t, List.getElem?_eq_getElem hi, ?_⟩
          rw [e, List.getD_eq_getElem?_getD, List.getElem?_eq_getElem hi] <;> rfl
        refine set_update_ints ((Walks.list hh3 _ l hneI items).toS) s.heap.objs.size
          hSf ns hisz hb hval (items.size - 0) 0 _ (by omega) (Nat.zero_le _)
          ⟨⟨_, Heap.get?_push_size _ rfl, rfl, rfl⟩, (hl1.push _)⟩ ?hS0 ?hR
        case hS0 =>
          have hget : ((s.heap.push { cls := .type "set", dict := none, data := .set #[] 0 (.fresh 0 0 (!w.params.followText "set-order")) }).push { cls := .type "list_iterator", data := .fields #[.ref l, .int 0 0] }).get? s.heap.objs.size
              = some { cls := .type "set", dict := none, data := .set #[] 0 (.fresh 0 0 (!w.params.followText "set-order")) } := Heap.get?_push_of_some _ hS
          exact ⟨0, Nat.le_refl 0, setR_new_at hget⟩
        case hR =>
          intro s' c' hm hc' hS'
          obtain ⟨h', g2, d', tk', os'⟩ := s'
          have eg : g2 = s.gens := hm.gens
          have ed : d' = s.drawn := hm.drawn
          have eo : os' = s.os := hm.os
          subst eg; subst ed; subst eo
          show wpAny _ _ _ _ _ _
          refine wpAny_pure ?_
          show wpAny _ _ (ret Value.none) _ _ _
          rw [hisz] at hc'
          refine wpAny_pure ⟨rfl, h', tk', c', rfl, hS', hc', fun b o e => ?_⟩
          have hb0 : b < s.heap.objs.size := Heap.lt_size e
          have hb1 : b ≠ s.heap.objs.size := Nat.ne_of_lt hb0
          have hb2 : b ≠ (s.heap.push { cls := .type "set", dict := none, data := .set #[] 0 (.fresh 0 0 (!w.params.followText "set-order")) }).objs.size := by
            rw [Heap.size_push]; exact Nat.ne_of_lt (Nat.lt_succ_of_lt hb0)
          exact hm.heap b o (by simp only [List.mem_cons, List.mem_singleton, List.not_mem_nil, or_false, not_or]; exact ⟨hb1, hb2⟩) (Heap.get?_push_of_some _ (Heap.get?_push_of_some _ e))

      · cases r₂ with
        | error e => exact hr₂
        | ok fl₂ =>
          cases fl₂ with
          | ret r =>
            obtain ⟨rfl, h', tk, c', rfl, hS', hc', hk'⟩ := hr₂
            repeat (any_goals (first | assumption | wp_step))
            exact h _ _ _ hS' hc' hk'
          | _ => exact hr₂.elim
    | _ => exact hr.elim

end
section
variable {X : Cx}
/-- set(xs) of a list of ints: a set by SetO -/
def rSetL (K : PySem.W.Frag) (w : World) : List V → Hp → VK → Prop := fun vs H Q => ∃ (a : Addr) (ns : List Int), vs = [V.ref a] ∧ SqL K H a (ns.map V.int) ∧ ns.length ≤ 1000 ∧
  ∀ (p : Addr) (c : Nat), c ≤ ns.length → H p = none → Q (.ref p) (upd H p (SetO w p (fun j => decide (j ∈ ns)) c))
theorem cr_setL (hc : X.calm = true) : CallR X (.type "set") (rSetL X.K X.w) := by
  intro pins s σ H vs us Q I r h
  obtain ⟨a, ns, rfl, hs, hz, q⟩ := h
  obtain ⟨its, rv, hl, _⟩ := I.list hs
  rw [Vals.ref1 r]
  refine call_set_lstI ns (I.ok.hd hc) hl.isList (by simpa using rv.ints) (Nat.lt_of_le_of_lt (Nat.succ_le_succ hz) (by decide +kernel)) fun h' tk c hR hcl hk => ?_
  exact ⟨.ref s.heap.objs.size, _, I.laid (t' := tk) (o := SetO X.w s.heap.objs.size (fun j => decide (j ∈ ns)) c) hk (Nat.le_refl _) (setO_new hR), rfl, q _ c hcl (I.hok.fresh (Nat.le_refl _))⟩
/-! ### t[::-1] -/
theorem fm_congr {α β : Type} {f g : α → Option β} : ∀ l : List α, (∀ k ∈ l, f k = g k) → l.filterMap f = l.filterMap g
  | [], _ => rfl
  | a :: l, h => by
    rw [List.filterMap_cons, List.filterMap_cons, h a List.mem_cons_self, fm_congr l fun k hk => h k (List.mem_cons_of_mem _ hk)]
theorem rev_pick (xs : Array Value) : ((List.range xs.size).filterMap fun (k : Nat) => xs[(((xs.size : Int) - 1) + (k : Int) * (-1)).toNat]?) = xs.toList.reverse := by
  have h := PySem.W.krv_all xs
  have e := PySem.W.krv_range xs.size
  rw [← h, ← List.filterMap_reverse, ← e, List.filterMap_map]
  refine fm_congr _ fun k hk => ?_
  have := List.mem_range.mp hk
  show xs[(((xs.size : Int) - 1) + (k : Int) * (-1)).toNat]? = xs[xs.size - 1 - k]?
  rw [show (((xs.size : Int) - 1) + (k : Int) * (-1)).toNat = xs.size - 1 - k by omega]
theorem adjust_back (n : Nat) : Builtin.Slice.sliceAdjust none none (-1) (n : Int) = ((n : Int) - 1, -1) := by
  first
  | rfl
  | simp [Builtin.Slice.sliceAdjust]
theorem places_back (n : Nat) : Builtin.Slice.slicePlaces ((n : Int) - 1) (-1) (-1) = n := by
  unfold Builtin.Slice.slicePlaces
  by_cases h : (n : Int) - 1 > -1
  · rw [if_neg (by decide), if_pos h, show (- -1 : Int) = 1 by decide, Int.ediv_one]
    omega
  · rw [if_neg (by decide), if_neg h]
    omega
theorem getItem_tuple_back {prog : Program} {w : World} {A : Around} {E : Value → Shared → Prop} {s : Shared} {t sl : Addr} {items : Array Value} {vl vu vs : Value} {Q : Value → Shared → Prop} (ht : IsTup s.heap t items) (hs : s.heap.IsSliceOf sl vl vu vs)
    (pl : IsPart vl none) (pu : IsPart vu none) (ps : IsPart vs (some (-1)))
    (h : Q (.ref s.heap.objs.size) { s with heap := s.heap.push { cls := .type "tuple", data := .seq items.toList.reverse.toArray } }) (hsz : items.size ≤ sizeLine) : wpAny (model prog w) A (getItem (.ref t) (.ref sl)) Q E s := by
  have htake : sizeOk (.seq items.toList.reverse.toArray) := by
    show items.toList.reverse.toArray.size ≤ sizeLine
    simpa using hsz
  obtain ⟨os, hos, hcs, hds⟩ := id hs
  have hTs : s.TypeIs (.ref sl) "slice" := ⟨os, hos, hcs⟩
  unfold getItem
  try with_reducible refine wpAny_holding ?_
  first | refine wpAny_bind (wpAny_pure ?_) | skip
  refine wpAny_bind (wpAny_sequenceKey ht.typeIs (by decide) ?_)
  refine wpAny_bind (wpAny_callSpecial?_slot (name := Str.ofString "__getitem__") ht.typeIs PyProof.Rows.slot_tuple_getitem
    (wpAny_call_entry PyProof.Rows.slot_tuple_getitem ht.typeIs entry_tuple_getitem ?_ (args_tuple_getitem _ _)))
  show wpAny _ _ (Builtin.Tuple.tupleItemsOf (.ref t) >>= _) _ _ s
  refine wpAny_bind (tupleItemsOf_ ht ?_)
  refine wpAny_bind (wpAny_typeOf hTs ?_)
  rw [if_pos (by decide)]
  unfold Builtin.Slice.sliceApplied Builtin.Slice.sliceFields
  refine wpAny_bind (wpAny_bind (wpAny_bind (wpAny_field hos hds (x := vl) rfl (wpAny_bind (wpAny_field hos hds (x := vu) rfl (wpAny_bind (wpAny_field hos hds (x := vs) rfl (wpAny_pure ?_))))))))
  refine wpAny_bind (HT.slicePart_ ps ?_)
  show wpAny _ _ (if ((-1 : Int) == 0) = true then _ else _) _ _ s
  rw [if_neg (by decide)]
  refine wpAny_bind (HT.slicePart_ pl (wpAny_bind (HT.slicePart_ pu (wpAny_bind (wpAny_pure ?_)))))
  show wpAny _ _ (match Builtin.Slice.sliceAdjust none none (-1) (items.size : Int) with | (lo, hi) => pure (lo, (-1 : Int), Builtin.Slice.slicePlaces lo hi (-1))) _ _ s
  rw [adjust_back]
  show wpAny _ _ (pure ((items.size : Int) - 1, (-1 : Int), Builtin.Slice.slicePlaces ((items.size : Int) - 1) (-1) (-1))) _ _ s
  rw [places_back]
  refine wpAny_pure ?_
  show wpAny _ _ (if (((items.size : Int) - 1) == 0 && (-1 : Int) == 1 && items.size == items.size) = true then _ else _) _ _ s
  rw [if_neg (by rw [show ((-1 : Int) == 1) = false from rfl, Bool.and_false, Bool.false_and]; decide), rev_pick]
  first
    | exact wpAny_bind (m := Builtin.Tuple.tupleExact _) (wpAny_newObj_type (wpAny_pure ⟨_, rfl, wpAny_pure h⟩) htake)
    | exact wpAny_bind (m := Builtin.Tuple.tupleExact _) (wpAny_newObj_type (wpAny_bind (wpAny_pure (wpAny_pure ⟨_, rfl, wpAny_pure h⟩))) htake)
    | exact wpAny_bind (wpAny_bind (m := Builtin.Tuple.tupleExact _) (wpAny_newObj_type (wpAny_pure (wpAny_pure ⟨_, rfl, wpAny_pure h⟩)) htake))
    | exact wpAny_bind (wpAny_bind (m := Builtin.Tuple.tupleExact _) (wpAny_newObj_type (wpAny_pure ⟨_, rfl, wpAny_pure h⟩) htake))
def tRevT (K : PySem.W.Frag) (te : TE) : TE := fun σ H Q => te σ H fun x H1 => ∃ a xs, x = .ref a ∧ SqT K H1 a xs ∧ ∀ p, H1 p = none → Q (.ref p) (upd H1 p (.tup xs.reverse))
theorem pe_revT {e : Expr} {te : TE} {k : Nat} {p1 p2 p3 pos : Pos} (he : PE X e te) : PE X (.Subscript e (.Slice none none (some (.UnaryOp .USub (.Constant (.int 1) k p1) p2)) p3) pos) (tRevT X.K te) := by
  refine ⟨fun pins s σ H Q I h => ?_⟩
  refine Subscript_ (thn (he.run pins s σ H _ I h) fun v s1 ⟨x, H1, I1, r1, q1⟩ => ?_)
  obtain ⟨a, xs, ex, hx, q⟩ := q1
  subst ex
  cases r1
  have hst : PO X (some (.UnaryOp .USub (.Constant (.int 1) k p1) p2)) (tPart (tUn (rU fun i => .int (-i)) (tC (.int 1)))) := po_some (pe_un un_neg pe_int)
  refine wpAny_Slice (thn (po_none.run pins s1 σ H1 (fun o H2 => o = none ∧ H2 = H1) I1 ⟨rfl, rfl⟩) fun vl s2 ⟨l, H2, I2, pl, el, e2⟩ => ?_)
  subst el e2
  refine thn (po_none.run pins s2 σ H2 (fun o H3 => o = none ∧ H3 = H2) I2 ⟨rfl, rfl⟩) fun vu s3 ⟨u, H3, I3, pu, eu, e3⟩ => ?_
  subst eu e3
  refine thn (hst.run pins s3 σ H3 (fun o H4 => o = some (-1) ∧ H4 = H3) I3 ⟨1, rfl, -1, rfl, rfl, rfl⟩) fun vs s4 ⟨o, H4, I4, ps, eo, e4⟩ => ?_
  subst eo e4
  have I5 : Inv X pins σ H4 { s4 with heap := s4.heap.push { cls := .type "slice", data := .fields #[vl, vu, vs] } } := I4.kept (t' := s4.toks) fun b ob q => Heap.get?_push_of_some _ q
  obtain ⟨its, r, ht, hz⟩ := I5.tuple hx
  have hlen := r.length
  show wpAny (model X.prog X.w) X.A (subscriptTail e (.Slice none none (some (.UnaryOp .USub (.Constant (.int 1) k p1) p2)) p3) (.ref a) (.ref s4.heap.objs.size)) (EP X pins σ Q) X.xe { s4 with heap := s4.heap.push { cls := .type "slice", data := .fields #[vl, vu, vs] } }
  refine tail_any (ops := [.ref a, .ref s4.heap.objs.size]) ht.typeIs PyProof.Rows.slot_tuple_getitem.lookup ?_ (by with_unfolding_all rfl)
  refine getItem_tuple_back ht (Heap.IsSliceOf.new _ vl vu vs) pl pu ps ?_ (by rw [List.size_toArray]; omega)
  refine ⟨.ref _, _, I5.laid (t' := s4.toks) (o := .tup xs.reverse) (fun b ob q => Heap.get?_push_of_some _ q) (Nat.le_refl _) ?_, rfl, q _ (I5.hok.fresh (Nat.le_refl _))⟩
  exact ⟨by rw [List.length_reverse]; exact hz, _, r.reverse, ⟨_, Heap.get?_push_size _ rfl, rfl, _, rfl⟩⟩
/-! ### whichever of two walks -/
theorem pi_or {tg e : Expr} {w1 w2 : TI} (h1 : PI X tg e w1) (h2 : PI X tg e w2) : PI X tg e (fun σ H R => w1 σ H R ∨ w2 σ H R) :=
  ⟨fun pins s σ H R I h => h.elim (h1.run pins s σ H R I) (h2.run pins s σ H R I)⟩
/-! ### tuples whose object is known: no dict of its own -/
def TXO (a : Addr) (xs : List V) : HO := .ext fun h => ∃ its : List Value, Vals xs its ∧ h.get? a = some { cls := .type "tuple", data := .seq its.toArray }
theorem txo_new {P : Program} {w : World} {H : Hp} {h : Heap} {a : Addr} {xs : List V} {its : List Value} (r : Vals xs its) (e : h.get? a = some { cls := .type "tuple", data := .seq its.toArray }) : ObjOk P w H h a (TXO a xs) :=
  ⟨⟨its, r, e⟩, ⟨_, e⟩, fun h1 h2 ⟨i, ri, ei⟩ k => ⟨i, ri, k _ ei⟩⟩
theorem txo_get {pins : List (Addr × Obj)} {σ : L2.St} {H : Hp} {s : Shared} {a : Addr} {xs : List V} (I : Inv X pins σ H s) (ha : H a = some (TXO a xs)) : ∃ its : List Value, Vals xs its ∧ s.heap.get? a = some { cls := .type "tuple", data := .seq its.toArray } :=
  (I.hok a _ ha).1
def tTupX (t : TA) : TE := fun σ H Q => t σ H fun xs H1 => xs.length ≤ sizeLine ∧ ∀ p, H1 p = none → Q (.ref p) (upd H1 p (TXO p xs))
theorem pe_tupX {es : List Expr} {t : TA} {pos : Pos} {x1} (h : PA X es t) : PE X (.Tuple es x1 pos) (tTupX t) := by
  refine ⟨fun pins s σ H Q I hq => ?_⟩
  refine wpAny_Tuple_spliced (thn (h.run pos pins s σ H _ I hq) fun us s1 ⟨xs, H1, I1, r, z, q⟩ => ⟨by rw [← r.length]; exact z, ?_⟩)
  have hf : H1 s1.heap.objs.size = none := I1.hok.fresh (Nat.le_refl _)
  exact ⟨.ref s1.heap.objs.size, _, I1.laid (t' := s1.toks) (o := TXO s1.heap.objs.size xs) (fun b u e => Heap.get?_push_of_some _ e) (Nat.le_refl _) (txo_new r (Heap.get?_push_size _ rfl)), rfl, q _ hf⟩
def rCatX : R2 := fun x y H Q => ∃ a b xs ys, x = .ref a ∧ y = .ref b ∧ H a = some (TXO a xs) ∧ H b = some (TXO b ys) ∧ ys ≠ [] ∧ xs.length + ys.length ≤ sizeLine ∧
  (xs = [] → Q (.ref b) H) ∧ (xs ≠ [] → ∀ p, H p = none → Q (.ref p) (upd H p (TXO p (xs ++ ys))))
theorem op_catX : OpR X (binaryOp .Add) rCatX := by
  intro pins s σ H x y v u Q I rx ry h
  obtain ⟨a, b, xs, ys, rfl, rfl, ha, hb, hy, hz, q0, q2⟩ := h
  cases rx
  cases ry
  obtain ⟨its, r1, e1⟩ := txo_get I ha
  obtain ⟨its2, r2, e2⟩ := txo_get I hb
  have p1 : IsTup s.heap a its.toArray := ⟨_, e1, rfl, _, rfl⟩
  have p2 : IsTup s.heap b its2.toArray := ⟨_, e2, rfl, _, rfl⟩
  by_cases hx : xs = []
  · subst hx
    cases r1
    exact cat_tup0 p1 p2 ⟨.ref b, H, I, rfl, q0 rfl⟩
  · have hn : its ≠ [] := fun e => hx (r1.nil_iff.mp e)
    have hn2 : its2 ≠ [] := fun e => hy (r2.nil_iff.mp e)
    refine HT.cat_tup p1 p2 hn (fun e => absurd e hn2) (fun _ => ?_) (by rw [← r1.length, ← r2.length]; exact hz)
    exact ⟨.ref s.heap.objs.size, _, I.laid (t' := s.toks) (o := TXO s.heap.objs.size (xs ++ ys)) (fun b ob q => Heap.get?_push_of_some _ q) (Nat.le_refl _) (txo_new (r1.append r2) (Heap.get?_push_size _ rfl)), rfl, q2 hx _ (I.hok.fresh (Nat.le_refl _))⟩
theorem call_len_X : CallR X (.builtin "len") (fun xs H Q => ∃ p ys, xs = [.ref p] ∧ H p = some (TXO p ys) ∧ ys.length ≤ sizeLine ∧ Q (.int ys.length) H) := by
  intro pins s σ H xs us Q I r h
  obtain ⟨p, ys, rfl, hq, hz, q⟩ := h
  obtain ⟨u, rfl, rx⟩ := vals1 r
  cases rx
  have hn := line63
  obtain ⟨its, r', e1⟩ := txo_get I hq
  have hlen := r'.length
  have pl : IsTup s.heap p its.toArray := ⟨_, e1, rfl, _, rfl⟩
  exact len_tuple pl (by simp only [List.size_toArray] <;> omega) ⟨.int ys.length, H, I.tok _, ⟨s.toks + 1, by rw [List.size_toArray, hlen]⟩, q⟩
def rCntX : V → List V → Hp → VK → Prop := fun x xs H Q => ∃ (p : Addr) (ns : List Int) (k : Int), x = .ref p ∧ xs = [.int k] ∧ H p = some (TXO p (ns.map V.int)) ∧ Q (.int (ns.count k : Nat)) H
theorem mt_countX : MtR X "tuple.count" rCntX := by
  intro pins s σ H x xs v us Q I rx rxs h
  obtain ⟨p, ns, k, rfl, rfl, hs, q⟩ := h
  cases rx
  obtain ⟨u, rfl, ru⟩ := rxs.one
  obtain ⟨t, rfl⟩ := ru
  obtain ⟨its, rv, ho⟩ := txo_get I hs
  have hi := rv.ints
  refine call_meets PySem.F.slot_tuple_count ⟨_, ho, rfl⟩ PySem.F.entry_tuple_count (PySem.F.args_tuple_count_2 _ _)
    (SeqAt.tuple_countAt p its.toArray 0 none #[] (.int k t) (eqk k)) ⟨ho, fun y hy => (eqk_gives hi y (by simpa using hy)).at _ _, ?_⟩
  have ec : its.toArray.toList.countP (eqk k) = ns.count k := eqk_count hi
  refine ⟨.int (ns.count k : Nat), H, I.tok _, ⟨s.toks, ?_⟩, q⟩
  show Value.int ((its.toArray.toList.countP (eqk k) : Nat) : Int) s.toks = Value.int ((ns.count k : Nat) : Int) s.toks
  rw [ec]
/-- t.count(e) -/
def tCntX (to : TE) (t : TA) : TE := fun σ H Q => to σ H fun x H1 => (∃ a xs, x = V.ref a ∧ H1 a = some (TXO a xs)) ∧ t σ H1 fun xs H2 => rCntX x xs H2 Q
theorem pe_countX {o e : Expr} {es : List Expr} {to : TE} {t : TA} {apos cpos : Pos} (ho : PE X o to) (ha : PA X (e :: es) t)
    (hb : attributeBase o "count" X.env (eval o X.env) = eval o X.env := by rfl)
    (hfew : ((backTo cpos (starEach (e :: es) X.env)).all (fun x => !x.1) && (backToKw cpos (keywordEach [] X.env)).all (fun x => x.1.isSome)
      && decide ((e :: es).length + ([] : List Keyword).length + (if ([] : List Keyword).isEmpty then 0 else 1) < 30)) = true := by rfl)
    (hline : (apos.endLine == cpos.line) = true := by rfl) (hs : starEach (e :: es) X.env = (false, eval e X.env) :: starEach es X.env := by rfl) (hpl : (backTo cpos (starEach es X.env)).any (·.1) = false := by rfl) :
    PE X (.Call (.Attribute o "count" apos) (e :: es) [] cpos) (tCntX to t) := by
  refine ⟨fun pins s σ H Q I h => ?_⟩
  refine wpAny_Call_method_late hb hfew hline rfl (thn (ho.run pins s σ H _ I h) fun v s1 ⟨x, H1, I1, r1, ty, q1⟩ => ?_)
  obtain ⟨a, xs, rfl, hka⟩ := ty
  obtain ⟨its, rv, e1⟩ := txo_get I1 hka
  cases r1
  refine ⟨"tuple", "tuple.count", PySem.F.plainAttrs_tuple, PySem.F.slot_tuple_count, PySem.F.type_tuple_count, ⟨_, e1, rfl⟩, fun b eb => by cases eb; exact ⟨_, e1, rfl⟩, ?_⟩
  have hA := ha.run cpos pins s1 σ H1 _ I1 q1
  rw [hs] at hA ⊢
  refine Calls.callWith_builtin (by show (false || (backTo cpos (starEach es X.env)).any (·.1)) = false; rw [hpl] <;> rfl) (Calls.evalArgs_plain ?_)
  exact thn hA fun us s2 ⟨vs, H2, I2, r2, q2⟩ => mt_countX pins s2 σ H2 (.ref a) vs (.ref a) us Q I2 rfl r2 q2
end
end DK

/-! ## R3 -/
namespace DK
open PySem PySem.Spec PyProof.Rows L2
/-! ### a dict whose keys are pairs of tuples of ints -/
abbrev Kp := List Int × List Int
def nkey (p : Kp) : NestedKey := .tup [.tup (p.1.map NestedKey.num), .tup (p.2.map NestedKey.num)]
theorem num_inj : ∀ {a b : List Int}, a.map NestedKey.num = b.map NestedKey.num → a = b
  | [], [], _ => rfl
  | [], _ :: _, h => by cases h
  | _ :: _, [], h => by cases h
  | x :: a, y :: b, h => by
    rw [List.map_cons, List.map_cons] at h
    injection h with h1 h2
    injection h1 with h1
    rw [h1, num_inj h2]
theorem nkey_inj {p q : Kp} (h : nkey p = nkey q) : p = q := by
  unfold nkey at h
  injection h with h
  injection h with h1 h
  injection h with h2 _
  injection h1 with h1
  injection h2 with h2
  exact Prod.ext (num_inj h1) (num_inj h2)
theorem depth_nums : ∀ a : List Int, NestedKey.depthAll (a.map NestedKey.num) = 0
  | [] => rfl
  | x :: a => by
    show max (NestedKey.depth (.num x)) (NestedKey.depthAll (a.map NestedKey.num)) = 0
    rw [depth_nums a]
    rfl
theorem depth_nkey (p : Kp) : (nkey p).depth ≤ 8 := by
  show max (NestedKey.depthAll (p.1.map NestedKey.num) + 1) (max (NestedKey.depthAll (p.2.map NestedKey.num) + 1) 0) + 1 ≤ 8
  rw [depth_nums, depth_nums]
  decide
/-- at a stands the key p -/
def KeyAt (H : Hp) (a : Addr) (p : Kp) : Prop := ∃ a1 a2, H a = some (.tup [.ref a1, .ref a2]) ∧ H a1 = some (.tup (p.1.map V.int)) ∧ H a2 = some (.tup (p.2.map V.int))
theorem KeyAt.mono {B H : Hp} {a : Addr} {p : Kp} (e : Same B H) (k : KeyAt B a p) : KeyAt H a p :=
  let ⟨a1, a2, h, h1, h2⟩ := k; ⟨a1, a2, e _ _ h, e _ _ h1, e _ _ h2⟩
/-- the dict's own object, known -/
def dO (d : Addr) (o : Obj) : HO := .ext fun h => h.get? d = some o
theorem dO_new {P : Program} {w : World} {H : Hp} {h : Heap} {d : Addr} {o : Obj} (e : h.get? d = some o) : ObjOk P w H h d (dO d o) := ⟨e, ⟨_, e⟩, fun _ _ e1 k => k _ e1⟩
def DR (B : Hp) : List (Kp × V) → List (NestedKey × Addr × Value) → Prop := Paired fun p q => q.1 = nkey p.1 ∧ KeyAt B q.2.1 p.1 ∧ RelV p.2 q.2.2
/-- what the dict's object holds: the keys' tuples stand in B -/
def DE (P : Program) (w : World) (B : Hp) (o : Obj) (kvs : List (Kp × V)) : Prop :=
  ∃ (es : Array DictEntry) (ep : Nat) (xs : List (NestedKey × Addr × Value)), o.ExactDict ∧ o.data = .dict es ep ∧ es.toList = xs.map (entryOfKey (nestedKind P w)) ∧ (xs.map (·.1)).Nodup ∧ DR B kvs xs
theorem DR.mono {B H : Hp} (e : Same B H) : ∀ {kvs : List (Kp × V)} {xs : List (NestedKey × Addr × Value)}, DR B kvs xs → DR H kvs xs
  | _, _, .nil => .nil
  | _, _, .cons ⟨h1, h2, h3⟩ r => .cons ⟨h1, h2.mono e, h3⟩ (DR.mono e r)
theorem DE.mono {P : Program} {w : World} {B H : Hp} {o : Obj} {kvs : List (Kp × V)} (e : Same B H) (h : DE P w B o kvs) : DE P w H o kvs :=
  let ⟨es, ep, xs, h1, h2, h3, h4, h5⟩ := h; ⟨es, ep, xs, h1, h2, h3, h4, h5.mono e⟩
/-! ### plain look-ups and stores -/
def atN {α : Type} (kvs : List (Kp × α)) (p : Kp) : Option α := (kvs.find? fun kv => decide (kv.1 = p)).map (·.2)
def putN {α : Type} (kvs : List (Kp × α)) (p : Kp) (v : α) : List (Kp × α) := if (atN kvs p).isSome then kvs.map (fun kv => if kv.1 = p then (kv.1, v) else kv) else kvs ++ [(p, v)]
theorem atN_cons {α : Type} (q : Kp × α) (kvs : List (Kp × α)) (p : Kp) : atN (q :: kvs) p = if q.1 = p then some q.2 else atN kvs p := by
  unfold atN
  rw [List.find?_cons]
  by_cases h : q.1 = p
  · rw [if_pos h, decide_eq_true h]
    rfl
  · rw [if_neg h, decide_eq_false h]
theorem atKey_cons (q : NestedKey × Addr × Value) (xs : List (NestedKey × Addr × Value)) (k : NestedKey) : atKey (q :: xs) k = if q.1 = k then some q.2 else atKey xs k := by
  unfold atKey
  rw [List.find?_cons]
  by_cases h : q.1 = k
  · rw [if_pos h, decide_eq_true h]
    rfl
  · rw [if_neg h, decide_eq_false h]
theorem dr_at {B : Hp} {p : Kp} : ∀ {kvs : List (Kp × V)} {xs : List (NestedKey × Addr × Value)}, DR B kvs xs →
    (atN kvs p = none ∧ atKey xs (nkey p) = none) ∨ ∃ v a u, atN kvs p = some v ∧ atKey xs (nkey p) = some (a, u) ∧ RelV v u
  | _, _, .nil => .inl ⟨rfl, rfl⟩
  | q :: kvs, y :: xs, .cons ⟨h1, h2, h3⟩ r => by
    rw [atN_cons, atKey_cons, h1]
    by_cases e : q.1 = p
    · rw [if_pos e, if_pos (congrArg nkey e)]
      exact .inr ⟨q.2, y.2.1, y.2.2, rfl, rfl, h3⟩
    · rw [if_neg e, if_neg fun z => e (nkey_inj z)]
      exact dr_at r
theorem dr_map {B : Hp} {p : Kp} {v : V} {u : Value} (rv : RelV v u) : ∀ {kvs : List (Kp × V)} {xs : List (NestedKey × Addr × Value)}, DR B kvs xs →
    DR B (kvs.map fun kv => if kv.1 = p then (kv.1, v) else kv) (xs.map (putAt (nkey p) u))
  | _, _, .nil => .nil
  | q :: kvs, y :: xs, .cons ⟨h1, h2, h3⟩ r => by
    rw [List.map_cons, List.map_cons]
    refine .cons ?_ (dr_map rv r)
    unfold putAt
    by_cases e : q.1 = p
    · rw [if_pos e, if_pos (by rw [h1, e])]
      exact ⟨h1, h2, rv⟩
    · rw [if_neg e, if_neg fun z => e (nkey_inj (h1.symm.trans z))]
      exact ⟨h1, h2, h3⟩
theorem dr_put {B : Hp} {p : Kp} {a : Addr} {v : V} {u : Value} (ka : KeyAt B a p) (rv : RelV v u) {kvs : List (Kp × V)} {xs : List (NestedKey × Addr × Value)} (r : DR B kvs xs) : DR B (putN kvs p v) (storedH xs (nkey p) a u) := by
  unfold putN storedH
  rcases dr_at (p := p) r with ⟨h1, h2⟩ | ⟨v0, a0, u0, h1, h2, h3⟩
  · rw [h1, h2]
    rw [if_neg (by decide), if_neg (by decide)]
    exact Paired.snoc r ⟨rfl, ka, rv⟩
  · rw [h1, h2, if_pos (show (some v0).isSome = true from rfl), if_pos (show (some (a0, u0)).isSome = true from rfl)]
    exact dr_map rv r
section
variable {X : Cx} {pins : List (Addr × Obj)} {σ : L2.St} {H B : Hp} {s : Shared}
theorem nums_of : ∀ {ns : List Int} {us : List Value} {h : Heap}, Vals (ns.map V.int) us → NestedAll h (ns.map NestedKey.num) us
  | [], _, _, r => by
    cases r
    exact .nil
  | n :: ns, _, h, r => by
    cases r with
    | cons r1 r2 =>
      obtain ⟨t, rfl⟩ := r1
      exact .cons (.int _ _) (nums_of r2)
theorem row_key (I : Inv X pins σ H s) {a : Addr} {ns : List Int} (h : H a = some (.tup (ns.map V.int))) : NestedIs s.heap (.tup (ns.map NestedKey.num)) (.ref a) := by
  obtain ⟨its, r, ⟨o, ho, hc, n, hd⟩, _⟩ := I.tuple (SqT.of h)
  exact .tup ho hc hd (nums_of r)
theorem key_is (I : Inv X pins σ H s) {a : Addr} {p : Kp} (k : KeyAt H a p) : (nestedKind X.prog X.w).is s.heap (nkey p) a := by
  obtain ⟨a1, a2, h, h1, h2⟩ := k
  obtain ⟨its, r, ⟨o, ho, hc, n, hd⟩, _⟩ := I.tuple (SqT.of h)
  cases r with
  | cons r1 r =>
    cases r with
    | cons r2 r =>
      cases r
      cases r1
      cases r2
      exact ⟨.tup ho hc hd (.cons (row_key I h1) (.cons (row_key I h2) .nil)), depth_nkey p⟩
theorem key_type (I : Inv X pins σ H s) {a : Addr} {p : Kp} (k : KeyAt H a p) : s.TypeIs (.ref a) "tuple" := by
  obtain ⟨a1, a2, h, _, _⟩ := k
  obtain ⟨its, r, ⟨o, ho, hc, n, hd⟩, _⟩ := I.tuple (SqT.of h)
  exact ⟨o, ho, hc⟩
theorem dr_is (I : Inv X pins σ H s) : ∀ {kvs : List (Kp × V)} {xs : List (NestedKey × Addr × Value)}, DR H kvs xs → ∀ x ∈ xs, (nestedKind X.prog X.w).is s.heap x.1 x.2.1 ∧ s.TypeIs (.ref x.2.1) "tuple"
  | _, _, .nil, x, hx => nomatch hx
  | _, _, .cons ⟨h1, h2, h3⟩ r, x, hx => by
    rcases List.mem_cons.mp hx with e | e
    · subst e
      rw [h1]
      exact ⟨key_is I h2, key_type I h2⟩
    · exact dr_is I r x e
theorem do_get (I : Inv X pins σ H s) {d : Addr} {o : Obj} (h : H d = some (dO d o)) : s.heap.get? d = some o := (I.hok d _ h).1
theorem de_heap (I : Inv X pins σ H s) (e : Same B H) {d : Addr} {o : Obj} {kvs : List (Kp × V)} (h : H d = some (dO d o)) (D : DE X.prog X.w B o kvs) :
    ∃ xs, s.heap.DictOfH (nestedKind X.prog X.w) d xs ∧ DR B kvs xs := by
  obtain ⟨es, ep, xs, h1, h2, h3, h4, h5⟩ := D
  exact ⟨xs, ⟨o, es, ep, do_get I h, h1, h2, h3, fun x hx => (dr_is I (h5.mono e) x hx).1, h4⟩, h5⟩
theorem de_of {P : Program} {w : World} {h' : Heap} {d : Addr} {xs : List (NestedKey × Addr × Value)} {kvs : List (Kp × V)} (D : h'.DictOfH (nestedKind P w) d xs) (r : DR B kvs xs) : ∃ o, h'.get? d = some o ∧ DE P w B o kvs := by
  obtain ⟨o, es, ep, ho, h1, h2, h3, _, h4⟩ := D
  exact ⟨o, ho, es, ep, xs, h1, h2, h3, h4, r⟩
theorem room_in1 {A : Around} (hu : A.units + 9 < cLine) : (nestedKind X.prog X.w).room A.in1 := by
  show A.units + 1 + 8 < cLine
  omega
/-! ### the readings -/
/-- at d stands a dict with kvs, its keys' tuples in B -/
def ND (P : Program) (w : World) (B H : Hp) (d : Addr) (kvs : List (Kp × V)) : Prop := ∃ o, H d = some (dO d o) ∧ (d == sysModules) = false ∧ kvs.length ≤ 100000 ∧ DE P w B o kvs
def rNotInN (P : Program) (w : World) : R2 := fun x y H Q => ∃ B a d p kvs, x = .ref a ∧ y = .ref d ∧ Same B H ∧ KeyAt B a p ∧ ND P w B H d kvs ∧ Q (.bl (!(atN kvs p).isSome)) H
theorem dr_some {p : Kp} {kvs : List (Kp × V)} {xs : List (NestedKey × Addr × Value)} (r : DR B kvs xs) : (atKey xs (nkey p)).isSome = (atN kvs p).isSome := by
  rcases dr_at (p := p) r with ⟨h1, h2⟩ | ⟨v0, a0, u0, h1, h2, h3⟩
  · rw [h1, h2]
    rfl
  · rw [h1, h2]
    rfl
theorem op_notInN (hu : X.A.units + 9 < cLine) : OpR X (compareOp .NotIn) (rNotInN X.prog X.w) := by
  intro pins s σ H x y v u Q I rx ry h
  obtain ⟨B, a, d, p, kvs, rfl, rfl, e, ka, ⟨o, ho, lo, _, D⟩, q⟩ := h
  cases rx
  cases ry
  obtain ⟨xs, hx, r⟩ := de_heap I e ho D
  refine notIn_keyed (knd := nestedKind X.prog X.w) (room_in1 (X := X) hu) (key_is I (ka.mono e)) lo ⟨xs, hx, rfl⟩ ?_
  refine ⟨.bl (!(atN kvs p).isSome), H, I.tok _, ?_, q⟩
  show Value.bool _ = Value.bool _
  rw [valueAt_pairsH, Option.isSome_map, dr_some r]
def rIxN (P : Program) (w : World) : R2 := fun x y H Q => ∃ B a d p kvs v, x = .ref d ∧ y = .ref a ∧ Same B H ∧ KeyAt B a p ∧ ND P w B H d kvs ∧ atN kvs p = some v ∧ Q v H
theorem ix_N (hu : X.A.units + 9 < cLine) : IxR X (rIxN X.prog X.w) := by
  intro value slice pins s σ H x y v u Q I rx ry h hs
  obtain ⟨B, a, d, p, kvs, z, rfl, rfl, e, ka, ⟨o, ho, lo, _, D⟩, hz, q⟩ := h
  cases rx
  cases ry
  obtain ⟨xs, hx, r⟩ := de_heap I e ho D
  rcases dr_at (p := p) r with ⟨h1, h2⟩ | ⟨v0, a0, u0, h1, h2, h3⟩
  · rw [h1] at hz
    cases hz
  · obtain rfl : v0 = z := Option.some.inj (h1.symm.trans hz)
    exact tail_any hx.typeIs PySem.F.slot_dict_getitem.lookup (wpAny_getItem_heap (room_in1 (X := X) hu) (key_is I (ka.mono e)) hx h2 ⟨v0, H, I.tok _, h3, q⟩) hs
def rSetN (P : Program) (w : World) : V → V → V → Hp → (Hp → Prop) → Prop := fun o i v H Q => ∃ B a d p kvs, o = .ref d ∧ i = .ref a ∧ Same B H ∧ KeyAt B a p ∧ ND P w B H d kvs ∧ ∀ o', DE P w B o' (putN kvs p v) → Q (upd H d (dO d o'))
theorem dr_len {kvs : List (Kp × V)} {xs : List (NestedKey × Addr × Value)} (r : DR B kvs xs) : kvs.length = xs.length := Paired.length r
theorem set_N (hu : X.A.units + 9 < cLine) : PSet X (rSetN X.prog X.w) := by
  intro pins s σ H ov iv v o i u Q I ro ri rv h
  obtain ⟨B, a, d, p, kvs, rfl, rfl, e, ka, ⟨ob, ho, lo, hz, D⟩, q⟩ := h
  cases ro
  cases ri
  obtain ⟨xs, hx, r⟩ := de_heap I e ho D
  refine wpAny_setItem_heap (room_in1 (X := X) hu) (key_is I (ka.mono e)) hx (fun h' hd' hs => ?_) (by rw [← dr_len r, sizeLine_eq]; omega)
  obtain ⟨o', ho', D'⟩ := de_of hd' (dr_put ka rv r)
  exact ⟨_, d_write (ob := dO d o') I (by rw [ho]; exact True.intro) hs ⟨_, ho'⟩ (dO_new ho'), q o' D'⟩
/-! ### dict(d) -/
def hashN (w : World) (p : Kp) : Int := (nkey p).hash w
def rCopyN (P : Program) (w : World) : List V → Hp → VK → Prop := fun vs H Q => ∃ B d kvs, vs = [.ref d] ∧ Same B H ∧ ND P w B H d kvs ∧ (kvs.map fun p => hashN w p.1).Nodup ∧ ∀ p o', H p = none → (p == sysModules) = false → DE P w B o' kvs → Q (.ref p) (upd H p (dO p o'))
theorem dr_hash {kvs : List (Kp × V)} {xs : List (NestedKey × Addr × Value)} (P : Program) (w : World) (r : DR B kvs xs) : (xs.map fun x => (nestedKind P w).hash x.1) = kvs.map fun p => hashN w p.1 := by
  induction r with
  | nil => rfl
  | cons h r ih => rw [List.map_cons, List.map_cons, ih, h.1]; rfl
theorem call_dictH {prog : Program} {w : World} {A : Around} {E : Value → Shared → Prop} {s : Shared} {o : Addr} {more : List (NestedKey × Addr × Value)} {Q : Value → Shared → Prop} (hu : A.units + 20 < cLine) (hoS : (o == sysModules) = false)
    (ho : s.heap.DictOfH (nestedKind prog w) o more) (hap : (∀ x ∈ more, s.TypeIs (.ref x.2.1) "tuple") ∧ (more.map fun x => (nestedKind prog w).hash x.1).Nodup) (hsz : more.length ≤ sizeLine)
    (h : ∀ h', h'.DictOfH (nestedKind prog w) s.heap.objs.size more → Heap.SameBut s.heap.objs.size (s.heap.push { cls := .type "dict", data := .dict #[] }) h' → Q (.ref s.heap.objs.size) { s with heap := h' }) :
    wpAny (model prog w) A (call (.type "dict") [.ref o]) Q E s := by
  refine callType_codes (Q₁ := fun obj s₁ => obj = .ref s.heap.objs.size ∧ s₁ = { s with heap := s.heap.push { cls := .type "dict", data := .dict #[] } }) F.kt_called_dict (F.kt_typeCall_dict_1 _) F.entry_dict_init (kt_code_dict_new _ ⟨rfl, rfl⟩) ?_
  rintro obj s₁ ⟨rfl, rfl⟩
  have hnew : (s.heap.push { cls := .type "dict", data := .dict #[] }).DictOfH (nestedKind prog w) s.heap.objs.size [] := Heap.DictOfH.new s.heap
  have kp : ∀ b ob, s.heap.get? b = some ob → (s.heap.push { cls := .type "dict", data := .dict #[] }).get? b = some ob := fun b ob q => Heap.get?_push_of_some _ q
  have ho' : (s.heap.push { cls := .type "dict", data := .dict #[] }).DictOfH (nestedKind prog w) o more := by
    obtain ⟨oo, es, ep, a, b, c, d, e, f⟩ := ho
    exact ⟨oo, es, ep, kp _ _ a, b, c, d, fun x hx => nestedKind_stays.stays (fun b ob vs n q _ => kp b ob q) (e x hx), f⟩
  have hn : (more.map (·.1)).Nodup := ho.nodup
  have hdo : s.heap.objs.size ≠ o := by
    obtain ⟨_, _, _, hg, _⟩ := ho
    exact fun e => absurd (Heap.lt_size hg) (by rw [e]; exact Nat.lt_irrefl _)
  refine ⟨hnew.typeIs, F.args_dict_init_2 _ _, ?_⟩
  unfold Builtin.«dict.__init__»
  refine wpAny_bind ?_
  unfold Builtin.Dict.selfAndRest
  refine wpAny_bind (wpAny_notOrdered_dict hnew.typeIs ?_)
  show wpAny _ _ (pure (s.heap.objs.size, [Value.ref o])) _ _ _
  refine wpAny_pure ?_
  show wpAny _ _ (Builtin.Dict.updateFrom "dict.__init__" s.heap.objs.size (.ref o) [] .none) _ _ _
  unfold Builtin.Dict.updateFrom
  refine wpAny_bind (wpAny_typeOf ho'.typeIs ?_)
  rw [if_neg (by decide)]
  refine wpAny_bind ?_
  unfold Builtin.Dict.merge
  refine wpAny_bind ?_
  unfold Builtin.Dict.readDirectly
  refine wpAny_bind (wpAny_isInstance ho'.typeIs isSubtype_dict_dict ?_)
  simp only [Bool.not_true, Bool.false_eq_true, if_false]
  refine wpAny_bind (wpAny_specialOf ho'.typeIs F.slot_dict_iter.lookup (wpAny_pure ?_))
  simp only [beq_self_eq_true, if_true]
  refine wpAny_bind (wpAny_pure ?_)
  have hap' : ∀ x ∈ more, Shared.TypeIs { s with heap := s.heap.push { cls := .type "dict", data := .dict #[] } } (.ref x.2.1) "tuple" := fun x hx =>
    let ⟨ob, h1, h2⟩ := hap.1 x hx; ⟨ob, kp _ _ h1, h2⟩
  refine wpAny_mergeDict_heap (knd := nestedKind prog w) (hsz := by simpa using hsz) (by first | (show A.units + 1 + 1 + 8 < cLine; omega) | (show A.units + 1 + 1 + 1 + 8 < cLine; omega) | (show A.units + 1 + 8 < cLine; omega)) hdo hoS hnew ho' (.inr ⟨hap', hap.2⟩) fun h' hd' _ hs' => ?_
  show wpAny _ _ (Builtin.Dict.addKeywords s.heap.objs.size [] >>= _) _ _ _
  rw [storedAllH_nil_of_nodup more hn] at hd'
  exact wpAny_bind (wpAny_pure (wpAny_pure ⟨rfl, h h' hd' hs'⟩))
theorem big_mod {n : Addr} (h : sysModules < n) : (n == sysModules) = false := beq_eq_false_iff_ne.mpr (Ne.symm (Nat.ne_of_lt h))
theorem call_copyN (hu : X.A.units + 20 < cLine) : CallR X (.type "dict") (rCopyN X.prog X.w) := by
  intro pins s σ H xs us Q I r h
  obtain ⟨B, d, kvs, rfl, e, ⟨o, ho, lo, hz, D⟩, hn, q⟩ := h
  rw [Vals.ref1 r]
  obtain ⟨ys, hy, rr⟩ := de_heap I e ho D
  refine call_dictH hu lo hy ⟨fun x hx => (dr_is I (rr.mono e) x hx).2, by rw [dr_hash _ _ rr]; exact hn⟩ (by rw [← dr_len rr, sizeLine_eq]; omega) fun h' hd' hs => ?_
  obtain ⟨o', ho', D'⟩ := de_of hd' rr
  have kp : ∀ b ob, s.heap.get? b = some ob → h'.get? b = some ob := fun b ob z => (hs.2 b (Nat.ne_of_lt (Heap.lt_size z))).trans (Heap.get?_push_of_some _ z)
  exact ⟨.ref s.heap.objs.size, _, I.laid (t' := s.toks) (o := dO s.heap.objs.size o') kp (Nat.le_refl _) (dO_new ho'), rfl, q _ o' (I.hok.fresh (Nat.le_refl _)) (big_mod I.big) D'⟩
end
end DK

/-! ## R4 -/
namespace DK
open PySem PySem.Spec PyProof.Rows L2
/-! ### the next of a zip of two tuples, whatever became of the pair it gave out last -/
abbrev ZF (h : Heap) (z TI TO : Addr) (f0 : Value) (f1 : Bool) : Prop :=
  h.get? z = some { cls := .type "zip", dict := none, data := .fields #[f0, .bool f1, .bool false, .ref TI, .ref TO], slots := #[] }
def Outs (f0 : Value) : Prop := f0 = .none ∨ ∃ T : Addr, f0 = rawInt T
section
variable {prog : Program} {w : World} {A : Around} {E : Value → Shared → Prop} {s : Shared}
theorem owned_is {z TI TO : Addr} {f0 : Value} {f1 : Bool} {Q : Bool → Shared → Prop} (hz : ZF s.heap z TI TO f0 f1) (hf : Outs f0) (ht : Q true s)
    (hn : ∀ h' fT, ZF h' z TI TO f0 fT → Heap.SameBut z s.heap h' → Q false { s with heap := h' }) : wpAny (model prog w) A (Builtin.SmallTypes.ownedTupleIsFree (.ref z)) Q E s := by
  rcases hf with rfl | ⟨T, rfl⟩
  · unfold Builtin.SmallTypes.ownedTupleIsFree
    exact wpAny_bind (wpAny_field hz rfl (x := .none) rfl (wpAny_pure ht))
  · cases e : s.heap.get? T with
    | some oT => exact wpAny_tupleHeld_zip hz e fun h' hz' hs' => hn h' true hz' hs'
    | none =>
      unfold Builtin.SmallTypes.ownedTupleIsFree
      refine wpAny_bind (wpAny_field hz rfl (x := rawInt T) rfl ?_)
      show wpAny _ _ (loadIfAlive ((T : Int).toNat) >>= _) _ _ _
      rw [Int.toNat_natCast]
      have load0 : ∀ {Q : Option Obj → Shared → Prop}, Q none s → wpAny (model prog w) A (loadIfAlive T) Q E s := fun {Q} q => by
        have q' : Q (s.heap.get? T) s := by rw [e]; exact q
        exact fun _ _ _ => q'
      refine wpAny_bind (load0 ?_)
      exact wpAny_pure ht
theorem zipF_item {z TI TO i1 i2 l1 l2 : Addr} {k1 k2 : Nat} {xs ys : Array Value} {x y a b f0 : Value} {f1 : Bool} {Q : Value → Shared → Prop} (D : ZipApart z TI TO i1 i2 l1 l2)
    (hz : ZF s.heap z TI TO f0 f1) (hf : Outs f0) (hTI : IsPair s.heap TI (.ref i1) (.ref i2)) (hTO : IsPair s.heap TO a b)
    (h1 : s.heap.IsTupleIter i1 l1 k1) (h2 : s.heap.IsTupleIter i2 l2 k2) (hl1 : s.heap.IsTuple l1 xs) (hl2 : s.heap.IsTuple l2 ys) (hx : xs[k1]? = some x) (hy : ys[k2]? = some y)
    (hQ : ∀ h' g0 g1 a' b', Outs g0 → ZF h' z TI TO g0 g1 → IsPair h' TO a' b' → h'.IsTupleIter i1 l1 (k1 + 1) → h'.IsTupleIter i2 l2 (k2 + 1) → IsPair h' s.heap.objs.size x y → h'.objs.size = s.heap.objs.size + 1 →
      (∀ c o, c ≠ z → c ≠ TO → c ≠ i1 → c ≠ i2 → s.heap.get? c = some o → h'.get? c = some o) → Q (.ref s.heap.objs.size) { s with heap := h' }) :
    wpAny (model prog w) A (Builtin.«zip.__next__» ⟨[.ref z], []⟩) (fun fin s' => ∃ v, fin = .done (.ret v) ∧ Q v s') E s := by
  show wpAny _ _ (field (.ref z) 2 >>= _) _ _ _
  refine wpAny_bind (wpAny_field hz rfl (x := .bool false) rfl ?_)
  show wpAny _ _ (field (.ref z) 3 >>= _) _ _ _
  refine wpAny_bind (wpAny_field hz rfl (x := .ref TI) rfl ?_)
  refine wpAny_bind (wpAny_seqItems hTI rfl ?_)
  show wpAny _ _ (Builtin.SmallTypes.ownedTupleIsFree (.ref z) >>= _) _ _ _
  refine wpAny_bind (owned_is hz hf ?_ fun h₁ fT hz₁ hs₁ => ?_)
  · simp only [if_true]
    refine wpAny_bind (wpAny_rule ?_)
    refine wpAny_bind (wpAny_field hz rfl (x := .ref TO) rfl ?_)
    refine wpAny_bind (wpAny_setField_rec hz (by simp) fun h₁ hz₁ hs₁ => ?_)
    replace hz₁ : ZF h₁ z TI TO .ellipsis f1 := hz₁
    refine wpAny_bind ?_
    simp only [List.zipIdx_cons, List.zipIdx_nil, List.forIn_cons, List.forIn_nil]

    refine wpAny_bind (wpAny_bind (wpAny_onRaise ?_))
    show wpAny _ _ (Builtin.SmallTypes.nextOf (.ref i1) >>= _) _ _ _
    refine wpAny_bind (RZ.nextOf_tuple_item (h1.extBut hs₁.extBut D.i1z) (hl1.extBut hs₁.extBut D.l1z) hx fun h₂ h1₂ hs₂ => wpAny_pure ?_)
    have hTO₂ : IsPair h₂ TO a b := hs₂.extBut _ _ D.TOi1 (hs₁.extBut _ _ D.TOz hTO)
    refine wpAny_bind (wpAny_seqItems hTO₂ rfl ?_)
    refine wpAny_bind (wpAny_updateSeq_pair hTO₂ fun h₃ hTO₃ hs₃ => ?_)
    replace hTO₃ : IsPair h₃ TO x b := hTO₃
    refine wpAny_bind (wpAny_letGo (wpAny_pure ?_))

    refine wpAny_bind (wpAny_bind (wpAny_onRaise ?_))
    show wpAny _ _ (Builtin.SmallTypes.nextOf (.ref i2) >>= _) _ _ _
    refine wpAny_bind (RZ.nextOf_tuple_item (((h2.extBut hs₁.extBut D.i2z).extBut hs₂.extBut D.i12.symm).extBut hs₃.extBut D.TOi2.symm)
      (((hl2.extBut hs₁.extBut D.l2z).extBut hs₂.extBut D.l2i1).extBut hs₃.extBut D.l2TO) hy fun h₄ h2₄ hs₄ => wpAny_pure ?_)
    have hTO₄ : IsPair h₄ TO x b := hs₄.extBut _ _ D.TOi2 hTO₃
    refine wpAny_bind (wpAny_seqItems hTO₄ rfl ?_)
    refine wpAny_bind (wpAny_updateSeq_pair hTO₄ fun h₅ hTO₅ hs₅ => ?_)
    replace hTO₅ : IsPair h₅ TO x y := hTO₅
    refine wpAny_bind (wpAny_letGo (wpAny_pure (wpAny_pure ?_)))

    refine wpAny_bind (wpAny_seqItems hTO₅ rfl ?_)
    refine wpAny_bind (wpAny_newTuple ?_)
    have hsz : h₅.objs.size = s.heap.objs.size := by rw [hs₅.1, hs₄.1, hs₃.1, hs₂.1, hs₁.1]
    have hz₅ : ZF h₅ z TI TO .ellipsis f1 := hs₅.extBut _ _ D.TOz.symm (hs₄.extBut _ _ D.i2z.symm (hs₃.extBut _ _ D.TOz.symm (hs₂.extBut _ _ D.i1z.symm hz₁)))
    have hk₅ : ∀ c o, c ≠ z → c ≠ TO → c ≠ i1 → c ≠ i2 → s.heap.get? c = some o → h₅.get? c = some o := fun c o c1 c2 c3 c4 e =>
      hs₅.extBut _ _ c2 (hs₄.extBut _ _ c4 (hs₃.extBut _ _ c2 (hs₂.extBut _ _ c3 (hs₁.extBut _ _ c1 e))))
    have h1₅ : h₅.IsTupleIter i1 l1 (k1 + 1) := ((h1₂.extBut hs₃.extBut D.TOi1.symm).extBut hs₄.extBut D.i12).extBut hs₅.extBut D.TOi1.symm
    have h2₅ : h₅.IsTupleIter i2 l2 (k2 + 1) := h2₄.extBut hs₅.extBut D.TOi2.symm
    have hzlt : z < h₅.objs.size := Heap.lt_size hz₅
    have hTOlt : TO < h₅.objs.size := Heap.lt_size hTO₅
    have hi1lt : i1 < h₅.objs.size := by obtain ⟨_, e, _⟩ := h1₅; exact Heap.lt_size e
    have hi2lt : i2 < h₅.objs.size := by obtain ⟨_, e, _⟩ := h2₅; exact Heap.lt_size e
    show wpAny _ _ (Builtin.SmallTypes.ownedTupleHandOut (.ref z) (.ref h₅.objs.size) >>= _) _ _ _
    refine wpAny_bind ?_
    unfold Builtin.SmallTypes.ownedTupleHandOut
    have hz₆ : ZF (h₅.push { cls := .type "tuple", data := .seq #[x, y] }) z TI TO .ellipsis f1 := Heap.get?_push_of_some _ hz₅
    refine wpAny_bind (wpAny_setField_rec hz₆ (by simp) fun h₇ hz₇ hs₇ => ?_)
    replace hz₇ : ZF h₇ z TI TO (rawInt h₅.objs.size) f1 := hz₇
    refine wpAny_setField_rec hz₇ (by simp) fun h₈ hz₈ hs₈ => ?_
    replace hz₈ : ZF h₈ z TI TO (rawInt h₅.objs.size) false := hz₈
    have up : ∀ c o, c ≠ z → h₅.get? c = some o → h₈.get? c = some o := fun c o c1 e => hs₈.extBut _ _ c1 (hs₇.extBut _ _ c1 (Heap.get?_push_of_some _ e))
    have hT₈ : IsPair h₈ h₅.objs.size x y := hs₈.extBut _ _ (Nat.ne_of_gt hzlt) (hs₇.extBut _ _ (Nat.ne_of_gt hzlt) (Heap.get?_push_size _ rfl))
    have hz8 : h₈.objs.size = h₅.objs.size + 1 := by rw [hs₈.1, hs₇.1, Heap.size_push]
    rw [hsz] at hz₈ hT₈ hz8
    refine wpAny_pure ⟨_, rfl, ?_⟩
    show Q (.ref h₅.objs.size) _
    rw [hsz]
    exact hQ h₈ _ _ _ _ (.inr ⟨_, rfl⟩) hz₈ (up _ _ D.TOz hTO₅) (h1₅.at fun o e => up _ o D.i1z e) (h2₅.at fun o e => up _ o D.i2z e) hT₈ hz8 fun c o c1 c2 c3 c4 e => up c o c1 (hk₅ c o c1 c2 c3 c4 e)
  · simp only [Bool.false_eq_true, if_false]
    refine wpAny_bind ?_
    rw [← Array.forIn_toList]
    simp only [List.forIn_cons, List.forIn_nil]
    refine wpAny_bind (wpAny_bind (wpAny_holding ?_))
    show wpAny _ _ (Builtin.SmallTypes.nextOf (.ref i1) >>= _) _ _ _
    refine wpAny_bind (RZ.nextOf_tuple_item (s := { s with heap := h₁ }) (h1.extBut hs₁.extBut D.i1z) (hl1.extBut hs₁.extBut D.l1z) hx fun h₂ h1₂ hs₂ => wpAny_pure ?_)
    refine wpAny_pure ?_
    refine wpAny_bind (wpAny_bind (wpAny_holding ?_))
    show wpAny _ _ (Builtin.SmallTypes.nextOf (.ref i2) >>= _) _ _ _
    refine wpAny_bind (RZ.nextOf_tuple_item (s := { s with heap := h₂ }) ((h2.extBut hs₁.extBut D.i2z).extBut hs₂.extBut D.i12.symm) ((hl2.extBut hs₁.extBut D.l2z).extBut hs₂.extBut D.l2i1) hy fun h₃ h2₃ hs₃ => wpAny_pure ?_)
    refine wpAny_pure (wpAny_pure ?_)
    show wpAny _ _ (newTuple [x, y] >>= _) _ _ _
    refine wpAny_bind (wpAny_newTuple ?_)
    have hsz : h₃.objs.size = s.heap.objs.size := by rw [hs₃.1, hs₂.1, hs₁.1]
    have hz₃ : ZF h₃ z TI TO f0 fT := hs₃.extBut _ _ D.i2z.symm (hs₂.extBut _ _ D.i1z.symm hz₁)
    have hk : ∀ c o, c ≠ z → c ≠ i1 → c ≠ i2 → s.heap.get? c = some o → h₃.get? c = some o := fun c o c1 c2 c3 e => hs₃.extBut _ _ c3 (hs₂.extBut _ _ c2 (hs₁.extBut _ _ c1 e))
    have h1₃ : h₃.IsTupleIter i1 l1 (k1 + 1) := h1₂.extBut hs₃.extBut D.i12
    refine wpAny_pure ⟨_, rfl, ?_⟩
    show Q (.ref h₃.objs.size) _
    have hp : IsPair (h₃.push { cls := .type "tuple", data := .seq #[x, y] }) h₃.objs.size x y := Heap.get?_push_size _ rfl
    have hz4 : (h₃.push { cls := .type "tuple", data := .seq #[x, y] }).objs.size = h₃.objs.size + 1 := Heap.size_push ..
    rw [hsz] at hp hz4 ⊢
    exact hQ _ _ _ _ _ hf (Heap.get?_push_of_some _ hz₃) (Heap.get?_push_of_some _ (hs₃.extBut _ _ D.TOi2 (hs₂.extBut _ _ D.TOi1 (hs₁.extBut _ _ D.TOz hTO)))) (h1₃.at fun o e => Heap.get?_push_of_some _ e) (h2₃.at fun o e => Heap.get?_push_of_some _ e) hp hz4 fun c o c1 _ c2 c3 e => Heap.get?_push_of_some _ (hk c o c1 c2 c3 e)
theorem zipF_end {z TI TO i1 i2 l1 l2 : Addr} {k1 k2 : Nat} {xs ys : Array Value} {a b f0 : Value} {f1 : Bool} {Q : Fin → Shared → Prop} (hh : A.handled = none) (D : ZipApart z TI TO i1 i2 l1 l2)
    (hz : ZF s.heap z TI TO f0 f1) (hf : Outs f0) (hTI : IsPair s.heap TI (.ref i1) (.ref i2)) (hTO : IsPair s.heap TO a b)
    (h1 : s.heap.IsTupleIter i1 l1 k1) (h2 : s.heap.IsTupleIter i2 l2 k2) (hl1 : s.heap.IsTuple l1 xs) (hl2 : s.heap.IsTuple l2 ys) (hend : xs[k1]? = none ∨ ys[k2]? = none)
    (hE : ∀ h' e, (∀ c o, c ≠ z → c ≠ TO → c ≠ i1 → c ≠ i2 → s.heap.get? c = some o → h'.get? c = some o) → (∃ o, h'.get? e = some o ∧ o.cls = .type "StopIteration") → E (.ref e) { s with heap := h' }) :
    wpAny (model prog w) A (Builtin.«zip.__next__» ⟨[.ref z], []⟩) Q E s := by
  show wpAny _ _ (field (.ref z) 2 >>= _) _ _ _
  refine wpAny_bind (wpAny_field hz rfl (x := .bool false) rfl ?_)
  show wpAny _ _ (field (.ref z) 3 >>= _) _ _ _
  refine wpAny_bind (wpAny_field hz rfl (x := .ref TI) rfl ?_)
  refine wpAny_bind (wpAny_seqItems hTI rfl ?_)
  show wpAny _ _ (Builtin.SmallTypes.ownedTupleIsFree (.ref z) >>= _) _ _ _
  refine wpAny_bind (owned_is hz hf ?_ fun h₁ fT hz₁ hs₁ => ?_)
  · simp only [if_true]
    refine wpAny_bind (wpAny_rule ?_)
    refine wpAny_bind (wpAny_field hz rfl (x := .ref TO) rfl ?_)
    refine wpAny_bind (wpAny_setField_rec hz (by simp) fun h₁ hz₁ hs₁ => ?_)
    replace hz₁ : ZF h₁ z TI TO .ellipsis f1 := hz₁
    refine wpAny_bind ?_
    simp only [List.zipIdx_cons, List.zipIdx_nil, List.forIn_cons, List.forIn_nil]
    refine wpAny_bind (wpAny_bind (wpAny_onRaise ?_))
    show wpAny _ _ (Builtin.SmallTypes.nextOf (.ref i1) >>= _) _ _ _
    cases hx : xs[k1]? with
    | none =>
      refine wpAny_bind (RZ.nextOf_tuple_end hh (h1.extBut hs₁.extBut D.i1z) (hl1.extBut hs₁.extBut D.l1z) hx fun h₂ e hs₂ he => ?_)
      obtain ⟨oe, hoe, hce⟩ := he
      have hz₂ : ZF h₂ z TI TO .ellipsis f1 := hs₂ _ _ D.i1z.symm hz₁
      have hez : e ≠ z := fun x => by subst x; rw [hz₂] at hoe; cases hoe; simp at hce
      refine wpAny_setField_rec hz₂ (by simp) fun h₃ _ hs₃ => hE h₃ e (fun c o c1 _ c3 _ x => hs₃.extBut _ _ c1 (hs₂ _ _ c3 (hs₁.extBut _ _ c1 x))) ⟨oe, hs₃.extBut _ _ hez hoe, hce⟩
    | some x =>
      have hy : ys[k2]? = none := by rcases hend with h | h; rw [hx] at h; cases h; exact h
      refine wpAny_bind (RZ.nextOf_tuple_item (h1.extBut hs₁.extBut D.i1z) (hl1.extBut hs₁.extBut D.l1z) hx fun h₂ h1₂ hs₂ => wpAny_pure ?_)
      have hTO₂ : IsPair h₂ TO a b := hs₂.extBut _ _ D.TOi1 (hs₁.extBut _ _ D.TOz hTO)
      refine wpAny_bind (wpAny_seqItems hTO₂ rfl ?_)
      refine wpAny_bind (wpAny_updateSeq_pair hTO₂ fun h₃ hTO₃ hs₃ => ?_)
      refine wpAny_bind (wpAny_letGo (wpAny_pure ?_))
      refine wpAny_bind (wpAny_bind (wpAny_onRaise ?_))
      show wpAny _ _ (Builtin.SmallTypes.nextOf (.ref i2) >>= _) _ _ _
      refine wpAny_bind (RZ.nextOf_tuple_end hh (((h2.extBut hs₁.extBut D.i2z).extBut hs₂.extBut D.i12.symm).extBut hs₃.extBut D.TOi2.symm)
        (((hl2.extBut hs₁.extBut D.l2z).extBut hs₂.extBut D.l2i1).extBut hs₃.extBut D.l2TO) hy fun h₄ e hs₄ he => ?_)
      obtain ⟨oe, hoe, hce⟩ := he
      have hz₄ : ZF h₄ z TI TO .ellipsis f1 := hs₄ _ _ D.i2z.symm (hs₃.extBut _ _ D.TOz.symm (hs₂.extBut _ _ D.i1z.symm hz₁))
      have hez : e ≠ z := fun x => by subst x; rw [hz₄] at hoe; cases hoe; simp at hce
      refine wpAny_setField_rec hz₄ (by simp) fun h₅ _ hs₅ => hE h₅ e (fun c o c1 c2 c3 c4 x => hs₅.extBut _ _ c1 (hs₄ _ _ c4 (hs₃.extBut _ _ c2 (hs₂.extBut _ _ c3 (hs₁.extBut _ _ c1 x))))) ⟨oe, hs₅.extBut _ _ hez hoe, hce⟩
  · simp only [Bool.false_eq_true, if_false]
    refine wpAny_bind ?_
    rw [← Array.forIn_toList]
    simp only [List.forIn_cons, List.forIn_nil]
    refine wpAny_bind (wpAny_bind (wpAny_holding ?_))
    show wpAny _ _ (Builtin.SmallTypes.nextOf (.ref i1) >>= _) _ _ _
    cases hx : xs[k1]? with
    | none =>
      refine wpAny_bind (RZ.nextOf_tuple_end (s := { s with heap := h₁ }) hh (h1.extBut hs₁.extBut D.i1z) (hl1.extBut hs₁.extBut D.l1z) hx fun h₂ e hs₂ he => ?_)
      exact hE h₂ e (fun c o c1 _ c2 _ x => hs₂ _ _ c2 (hs₁.extBut _ _ c1 x)) he
    | some x =>
      have hy : ys[k2]? = none := by rcases hend with h | h; rw [hx] at h; cases h; exact h
      refine wpAny_bind (RZ.nextOf_tuple_item (s := { s with heap := h₁ }) (h1.extBut hs₁.extBut D.i1z) (hl1.extBut hs₁.extBut D.l1z) hx fun h₂ h1₂ hs₂ => wpAny_pure ?_)
      refine wpAny_pure ?_
      refine wpAny_bind (wpAny_bind (wpAny_holding ?_))
      show wpAny _ _ (Builtin.SmallTypes.nextOf (.ref i2) >>= _) _ _ _
      refine wpAny_bind (RZ.nextOf_tuple_end (s := { s with heap := h₂ }) hh ((h2.extBut hs₁.extBut D.i2z).extBut hs₂.extBut D.i12.symm) ((hl2.extBut hs₁.extBut D.l2z).extBut hs₂.extBut D.l2i1) hy fun h₃ e hs₃ he => ?_)
      exact hE h₃ e (fun c o c1 _ c2 c3 x => hs₃ _ _ c3 (hs₂.extBut _ _ c2 (hs₁.extBut _ _ c1 x))) he
end
end DK

/-! ## R5 -/
namespace DK
open PySem PySem.Spec PyProof.Rows L2
section
variable {prog : Program} {w : World} {A : Around} {E : Value → Shared → Prop} {s : Shared}
/-! ### enumerate of any iterator: its next by that of the inner one -/
theorem enumG_item {e it : Addr} {c : Int} {old : Value} {R : Value → Heap → Prop} {Q : Value → Shared → Prop} (he : IsEnum s.heap e it c old)
    (hin : ∀ Q' : Value → Shared → Prop, (∀ x h₁, IsEnum h₁ e it c old → R x h₁ → Q' x { s with heap := h₁ }) → wpAny (model prog w) A (Builtin.SmallTypes.nextOf (.ref it)) Q' E s)
    (hQ : ∀ x h₁ h', R x h₁ → IsEnumOut h' e it (c + 1) x h₁.objs.size → h'.get? h₁.objs.size = some { cls := .type "tuple", data := .seq #[.int c s.toks, x] } → h'.objs.size = h₁.objs.size + 1 →
      (∀ b o, b ≠ e → h₁.get? b = some o → h'.get? b = some o) → Q (.ref h₁.objs.size) { s with heap := h', toks := s.toks + 1 }) :
    wpAny (model prog w) A (Builtin.«enumerate.__next__» ⟨[.ref e], []⟩) (fun fin s' => ∃ v, fin = .done (.ret v) ∧ Q v s') E s := by
  obtain ⟨hp, g, d, tk, os⟩ := s
  show wpAny _ _ (field (.ref e) 2 >>= _) _ _ _
  refine wpAny_bind (wpAny_field he rfl (x := .ref it) rfl ?_)
  refine wpAny_bind (hin _ fun x k₁ he₁ hR => ?_)
  show wpAny _ _ (field (.ref e) 3 >>= _) _ _ ⟨k₁, g, d, tk, os⟩
  refine wpAny_bind (wpAny_field he₁ rfl (x := rawInt c) rfl ?_)
  show wpAny _ _ (field (.ref e) 4 >>= _) _ _ ⟨k₁, g, d, tk, os⟩
  refine wpAny_bind (wpAny_field he₁ rfl (x := .none) rfl ?_)
  show wpAny _ _ (mkInt c >>= _) _ _ ⟨k₁, g, d, tk, os⟩
  refine wpAny_bind (wpAny_mkInt ?_)
  show wpAny _ _ (setField (.ref e) 3 (rawInt (c + 1)) >>= _) _ _ ⟨k₁, g, d, tk + 1, os⟩
  refine wpAny_bind (wpAny_setField_rec he₁ (by simp) fun k₂ he₂ hs₂ => ?_)
  replace hs₂ : Heap.SameBut e k₁ k₂ := hs₂
  replace he₂ : IsEnum k₂ e it (c + 1) old := he₂
  show wpAny _ _ (setField (.ref e) 4 .none >>= _) _ _ ⟨k₂, g, d, tk + 1, os⟩
  refine wpAny_bind (wpAny_setField_rec he₂ (by simp) fun k₃ he₃ hs₃ => ?_)
  replace hs₃ : Heap.SameBut e k₂ k₃ := hs₃
  replace he₃ : IsEnum k₃ e it (c + 1) old := he₃
  show wpAny _ _ (newTuple [.int c tk, x] >>= _) _ _ ⟨k₃, g, d, tk + 1, os⟩
  refine wpAny_bind (wpAny_newTuple ?_)
  have he₄ : IsEnum (k₃.push { cls := .type "tuple", data := .seq #[.int c tk, x] }) e it (c + 1) old := Heap.get?_push_of_some _ he₃
  generalize hh₄ : k₃.push { cls := .type "tuple", data := .seq #[.int c tk, x] } = k₄ at he₄
  have hsz : k₃.objs.size = k₁.objs.size := by rw [hs₃.1, hs₂.1]
  have hel : e < k₁.objs.size := Heap.lt_size he₁
  have ht₄ : k₄.get? k₁.objs.size = some { cls := .type "tuple", data := .seq #[.int c tk, x] } := by rw [← hh₄, ← hsz]; exact Heap.get?_push_size _ rfl
  have hz₄ : k₄.objs.size = k₁.objs.size + 1 := by rw [← hh₄, Heap.size_push, hsz]
  have hk₄ : ∀ b o, b ≠ e → k₁.get? b = some o → k₄.get? b = some o := fun b o hbe hb => by
    rw [← hh₄]; exact Heap.get?_push_of_some _ (hs₃.extBut b o hbe (hs₂.extBut b o hbe hb))
  show wpAny _ _ (Builtin.SmallTypes.ownedTupleIsFree (.ref e) >>= _) _ _ ⟨k₄, g, d, tk + 1, os⟩
  rw [hsz]
  clear hh₄ he₃ hs₃ he₂ hs₂ hsz k₃ k₂
  refine wpAny_bind ?_
  unfold Builtin.SmallTypes.ownedTupleIsFree
  refine wpAny_bind (wpAny_field he₄ rfl (x := .none) rfl (wpAny_pure ?_))
  simp only [if_true]
  refine wpAny_bind (wpAny_rule ?_)
  refine wpAny_bind (wpAny_field he₄ rfl (x := old) rfl ?_)
  refine wpAny_bind (wpAny_setField_rec he₄ (by simp) fun k₅ he₅ hs₅ => ?_)
  replace hs₅ : Heap.SameBut e k₄ k₅ := hs₅
  replace he₅ : IsEnum k₅ e it (c + 1) x := he₅
  show wpAny _ _ (Builtin.SmallTypes.ownedTupleHandOut (.ref e) (.ref k₁.objs.size) >>= _) _ _ ⟨k₅, g, d, tk + 1, os⟩
  refine wpAny_bind ?_
  unfold Builtin.SmallTypes.ownedTupleHandOut
  refine wpAny_bind (wpAny_setField_rec he₅ (by simp) fun k₆ he₆ hs₆ => ?_)
  replace hs₆ : Heap.SameBut e k₅ k₆ := hs₆
  replace he₆ : IsEnumOut k₆ e it (c + 1) x k₁.objs.size := he₆
  refine wpAny_setField_rec he₆ (by simp) fun k₇ he₇ hs₇ => ?_
  replace hs₇ : Heap.SameBut e k₆ k₇ := hs₇
  replace he₇ : IsEnumOut k₇ e it (c + 1) x k₁.objs.size := he₇
  refine wpAny_bind (wpAny_letGo (wpAny_pure ⟨_, rfl, hQ x k₁ k₇ hR he₇ ?_ ?_ ?_⟩))
  · exact hs₇.extBut _ _ (Nat.ne_of_gt hel) (hs₆.extBut _ _ (Nat.ne_of_gt hel) (hs₅.extBut _ _ (Nat.ne_of_gt hel) ht₄))
  · rw [hs₇.1, hs₆.1, hs₅.1, hz₄]
  · exact fun b o hbe hb => hs₇.extBut b o hbe (hs₆.extBut b o hbe (hs₅.extBut b o hbe (hk₄ b o hbe hb)))
theorem zip_nextOf {z TI TO : Addr} {f0 : Value} {f1 : Bool} {Q : Value → Shared → Prop} (hz : ZF s.heap z TI TO f0 f1)
    (h : ∀ {A' : Around} {E' : Value → Shared → Prop} {Q' : Value → Shared → Prop}, (∀ v s', Q v s' → Q' v s') → wpAny (model prog w) A' (Builtin.«zip.__next__» ⟨[.ref z], []⟩) (fun fin s' => ∃ v, fin = .done (.ret v) ∧ Q' v s') E' s) :
    wpAny (model prog w) A (Builtin.SmallTypes.nextOf (.ref z)) Q E s := by
  have hT : s.TypeIs (.ref z) "zip" := ⟨_, hz, rfl⟩
  unfold Builtin.SmallTypes.nextOf
  refine wpAny_bind (wpAny_callSpecial?_slot (name := Str.ofString "__next__") hT F.slot_zip_next (wpAny_call_entry F.slot_zip_next hT F.entry_zip_next (h ?_) (F.args_zip_next_1 _)))
  intro v s' q
  exact wpAny_pure q
/-- enumerate(v), v its own iterator -/
theorem meets_enum_self (z : Addr) (Hz : Heap → Prop) (self : ∀ (prog : Program) (w : World) (A : Around) (E : Value → Shared → Prop) (s : Shared) (Q : Value → Shared → Prop), Hz s.heap → Q (.ref z) s → wpAny (model prog w) A (pyIter (.ref z)) Q E s) :
    Meets (Builtin.«enumerate.__new__» ⟨[.type "enumerate", .ref z], []⟩) (fun _ R s => Hz s.heap ∧
      R (.ok (.ret (.ref s.heap.objs.size))) { s with heap := s.heap.push { cls := .type "enumerate", data := .fields #[.none, .bool false, .ref z, rawInt 0, .none, .none] } }) :=
  .of_wp fun prog w A R s h => by
    obtain ⟨hp, g, d, tk, os⟩ := s; obtain ⟨h1, h⟩ := h
    have hsub := sub_enumerate
    have q1 : ∀ {A' : Around} {E : Value → Shared → Prop} {Q : Value → Shared → Prop}, Q (.ref z) ⟨hp, g, d, tk, os⟩ → wpAny (model prog w) A' (pyIter (.ref z)) Q E ⟨hp, g, d, tk, os⟩ :=
      fun q => self prog w _ _ ⟨hp, g, d, tk, os⟩ _ h1 q
    wp_walk using q1
    refine wpAny_stack_any fun st => wpAny_pure ?_
    split
    · rename_i c _ _ _ _ _
      cases (c == Value.type "enumerate")
      · wp_walk using q1
        exact ⟨_, rfl, h⟩
      · wp_walk using q1
        exact ⟨_, rfl, h⟩
    · wp_walk using q1
      exact ⟨_, rfl, h⟩
theorem iter_zipF {z TI TO : Addr} {f0 : Value} {f1 : Bool} {Q : Value → Shared → Prop} (hz : ZF s.heap z TI TO f0 f1) (h : Q (.ref z) s) : wpAny (model prog w) A (pyIter (.ref z)) Q E s := by
  have hT : s.TypeIs (.ref z) "zip" := ⟨_, hz, rfl⟩
  refine wpAny_pyIter_slot hT F.slot_zip_iter (wpAny_call_entry F.slot_zip_iter hT F.entry_zip_iter ?_ (F.args_zip_iter_1 _))
  show wpAny _ _ (ret (.ref z)) _ _ s
  exact wpAny_pure ⟨_, rfl, "zip", _, hT, F.slot_zip_next.lookup, h⟩
theorem call_enum_zip {z TI TO : Addr} {f0 : Value} {f1 : Bool} {Q : Value → Shared → Prop} (hz : ZF s.heap z TI TO f0 f1)
    (h : ∀ h', IsEnum h' s.heap.objs.size z 0 .none → h'.objs.size = s.heap.objs.size + 1 → (∀ b o, s.heap.get? b = some o → h'.get? b = some o) → Q (.ref s.heap.objs.size) { s with heap := h' }) :
    wpAny (model prog w) A (call (.type "enumerate") [.ref z]) Q E s := by
  refine callType_new F.called_enumerate (by decide) (F.typeCall_enumerate_1 _) (F.newCall_enumerate_1 _) (fun obj => F.args_object_init_2 obj _) F.entry_enumerate_new
    (meets_enum_self z (fun h => ZF h z TI TO f0 f1) (fun _ _ _ _ _ _ hz q => iter_zipF hz q)) ⟨hz, ?_⟩
  have he : IsEnum (s.heap.push { cls := .type "enumerate", data := .fields #[.none, .bool false, .ref z, rawInt 0, .none, .none] }) s.heap.objs.size z 0 .none := Heap.get?_push_size _ rfl
  exact ⟨⟨_, he, rfl⟩, h _ he (Heap.size_push ..) fun b o x => Heap.get?_push_of_some _ x⟩
end
/-! ### for i, (x, y) in enumerate(zip(t, u)) -/
def ItE (K : PySem.W.Frag) (a b : Addr) : It :=
  ⟨fun i H => ∃ (xs ys : List V) (x y : V), SqT K H a xs ∧ SqT K H b ys ∧ xs[i]? = some x ∧ ys[i]? = some y,
    fun i H v H' => ∃ (T U : Addr) (x y : V), v = .ref U ∧ H T = none ∧ H U = none ∧ T ≠ U ∧ H' = upd (upd H T (.tup [x, y])) U (.tup [.int (i : Nat), .ref T]) ∧ (∀ xs, SqT K H a xs → xs[i]? = some x) ∧ ∀ ys, SqT K H b ys → ys[i]? = some y,
    fun i H => ∃ xs ys : List V, SqT K H a xs ∧ SqT K H b ys ∧ (xs.length ≤ i ∨ ys.length ≤ i)⟩
theorem turn_enumZ {P : Program} {w : World} {K : PySem.W.Frag} {elts : List Expr} {kk : Nat} {tpos : Pos} {a b e z TI TO i1 i2 : Addr} (D : ZipApart z TI TO i1 i2 a b) (de : e ≠ z ∧ e ≠ TI ∧ e ≠ TO ∧ e ≠ i1 ∧ e ≠ i2) :
    Turn P w K (.Tuple elts kk tpos) (ItE K a b) [e, z, TI, TO, i1, i2] e (fun i h => (∃ old, IsEnum h e z ((i : Nat) : Int) old) ∧ (∃ f0 f1, Outs f0 ∧ ZF h z TI TO f0 f1) ∧ IsPair h TI (.ref i1) (.ref i2) ∧ (∃ x y, IsPair h TO x y) ∧ h.IsTupleIter i1 a i ∧ h.IsTupleIter i2 b i) where
  mem := by simp
  obj := fun i h st c hc => by
    obtain ⟨⟨old, he⟩, ⟨f0, f1, _, hz⟩, hTI, ⟨x, y, hTO⟩, ⟨o1, e1, _, d1⟩, ⟨o2, e2, _, d2⟩⟩ := st
    have e' : c = e ∨ c = z ∨ c = TI ∨ c = TO ∨ c = i1 ∨ c = i2 := by simpa using hc
    rcases e' with q | q | q | q | q | q
    · rw [q]; exact ⟨_, he, fun v q => nomatch q⟩
    · rw [q]; exact ⟨_, hz, fun v q => nomatch q⟩
    · rw [q]; exact ⟨_, hTI, fun v q => nomatch q⟩
    · rw [q]; exact ⟨_, hTO, fun v q => nomatch q⟩
    · rw [q]; exact ⟨o1, e1, fun v q => by rw [d1] at q; cases q⟩
    · rw [q]; exact ⟨o2, e2, fun v q => by rw [d2] at q; cases q⟩
  keep := fun i h h' st k => by
    obtain ⟨⟨old, he⟩, ⟨f0, f1, hf, hz⟩, hTI, ⟨x, y, hTO⟩, h1, h2⟩ := st
    exact ⟨⟨old, k e (by simp) _ he⟩, ⟨f0, f1, hf, k z (by simp) _ hz⟩, k TI (by simp) _ hTI, ⟨x, y, k TO (by simp) _ hTO⟩, h1.at fun o q => k i1 (by simp) o q, h2.at fun o q => k i2 (by simp) o q⟩
  item := by
    intro X hP hw hK hc i pins s σ H E I hf st hg
    subst hP hw hK
    obtain ⟨⟨old, he⟩, ⟨f0, f1, hfo, hz⟩, hTI, ⟨x0, y0, hTO⟩, h1, h2⟩ := st
    obtain ⟨xs, ys, x, y, hqx, hqy, hx, hy⟩ := hg
    obtain ⟨its, rv, p, _⟩ := I.tuple hqx
    obtain ⟨its2, rv2, p2, _⟩ := I.tuple hqy
    obtain ⟨u, hu, ru⟩ := rv.get hx
    obtain ⟨u2, hu2, ru2⟩ := rv2.get hy
    have hT : s.TypeIs (.ref e) "enumerate" := ⟨_, he, rfl⟩
    unfold pyNext
    refine wpAny_bind (wpAny_attempt (wpAny_callSpecial?_slot (name := Str.ofString "__next__") hT F.slot_enumerate_next
      (wpAny_call_entry F.slot_enumerate_next hT F.entry_enumerate_next
        (enumG_item he (R := fun v h₁ => v = .ref s.heap.objs.size ∧ IsPair h₁ s.heap.objs.size u u2 ∧ h₁.objs.size = s.heap.objs.size + 1 ∧ (∃ g0 g1, Outs g0 ∧ ZF h₁ z TI TO g0 g1) ∧ (∃ a' b', IsPair h₁ TO a' b') ∧
            h₁.IsTupleIter i1 a (i + 1) ∧ h₁.IsTupleIter i2 b (i + 1) ∧ ∀ c o, c ≠ z → c ≠ TO → c ≠ i1 → c ≠ i2 → s.heap.get? c = some o → h₁.get? c = some o)
          (fun Q' hq => zip_nextOf hz fun {A' E' Q''} im => zipF_item D hz hfo hTI hTO h1 h2 p p2 (x := u) (y := u2) (by simpa using hu) (by simpa using hu2) fun h' g0 g1 a' b' hg hz' hTO' h1' h2' hN hsz hk =>
            im _ _ (hq _ h' (hk e _ de.1 de.2.2.1 de.2.2.2.1 de.2.2.2.2 he) ⟨rfl, hN, hsz, ⟨g0, g1, hg, hz'⟩, ⟨a', b', hTO'⟩, h1', h2', hk⟩))
          fun v h₁ h' hR ho hT' hz' hk' => ?_) (F.args_enumerate_next_1 _))))
    obtain ⟨rfl, hN, hsz, ⟨g0, g1, hg, hz1⟩, ⟨a', b', hTO'⟩, h1', h2', hk⟩ := hR
    refine wpAny_pure ⟨_, rfl, wpAny_letOwnedTupleGo_enum (s := { s with heap := h', toks := s.toks + 1 }) ho fun h'' he' sb => ?_⟩
    have hel : e < s.heap.objs.size := Heap.lt_size he
    have hel1 : e < h₁.objs.size := by rw [hsz]; exact Nat.lt_succ_of_lt hel
    have up : ∀ c o, c ≠ e → h₁.get? c = some o → h''.get? c = some o := fun c o hc q => (sb.2 c hc).trans (hk' c o hc q)
    have new1 : h''.get? s.heap.objs.size = some { cls := .type "tuple", data := .seq #[u, u2] } := up _ _ (Nat.ne_of_gt hel) hN
    have new2 : h''.get? h₁.objs.size = some { cls := .type "tuple", data := .seq #[.int ((i : Nat) : Int) s.toks, .ref s.heap.objs.size] } := (sb.2 _ (Nat.ne_of_gt hel1)).trans hT'
    have hTU : s.heap.objs.size ≠ h₁.objs.size := by rw [hsz]; exact Nat.ne_of_lt (Nat.lt_succ_self _)
    have hTn : H s.heap.objs.size = none := I.hok.fresh (Nat.le_refl _)
    have hUn : H h₁.objs.size = none := I.hok.fresh (by rw [hsz]; exact Nat.le_succ _)
    have I1 : Inv X pins σ (upd H s.heap.objs.size (.tup [x, y])) { s with heap := h₁ } :=
      I.turnedNew (t' := s.toks) (ch := [e, z, TI, TO, i1, i2]) (fun c o hb q => hk c o (fun q' => hb (by simp [q'])) (fun q' => hb (by simp [q'])) (fun q' => hb (by simp [q'])) (fun q' => hb (by simp [q'])) q) hf (Nat.le_refl _)
        ⟨by show 2 ≤ sizeLine; decide, [u, u2], .cons ru (.cons ru2 .nil), ⟨_, hN, rfl, _, rfl⟩⟩
    have lt6 : ∀ b ∈ [e, z, TI, TO, i1, i2], b < s.heap.objs.size := fun c hcm => by
      have e' : c = e ∨ c = z ∨ c = TI ∨ c = TO ∨ c = i1 ∨ c = i2 := by simpa using hcm
      rcases e' with q | q | q | q | q | q
      · rw [q]; exact hel
      · rw [q]; exact Heap.lt_size hz
      · rw [q]; exact Heap.lt_size hTI
      · rw [q]; exact Heap.lt_size hTO
      · rw [q]; obtain ⟨_, e1, _⟩ := h1; exact Heap.lt_size e1
      · rw [q]; obtain ⟨_, e2, _⟩ := h2; exact Heap.lt_size e2
    have hf1 : ∀ b ∈ [e, z, TI, TO, i1, i2], FpOk X pins (upd H s.heap.objs.size (.tup [x, y])) b := fun b hb => ⟨by
      rw [upd_ne (Nat.ne_of_lt (lt6 b hb))]
      exact (hf b hb).1, (hf b hb).2⟩
    have I2 : Inv X pins σ (upd (upd H s.heap.objs.size (.tup [x, y])) h₁.objs.size (.tup [.int (i : Nat), .ref s.heap.objs.size])) { s with heap := h'', toks := s.toks + 1 } :=
      I1.turnedNew (t' := s.toks + 1) (h' := h'') (ch := [e, z, TI, TO, i1, i2]) (fun c o hb q => up c o (fun q' => hb (by simp [q'])) q) hf1 (Nat.le_refl _)
        ⟨by show 2 ≤ sizeLine; decide, [.int ((i : Nat) : Int) s.toks, .ref s.heap.objs.size], .cons ⟨_, rfl⟩ (.cons rfl .nil), ⟨_, new2, rfl, _, rfl⟩⟩
    refine ⟨.ref h₁.objs.size, _, I2, rfl, ⟨s.heap.objs.size, h₁.objs.size, x, y, rfl, hTn, hUn, hTU, rfl, fun l hl => by rw [I.tuple_inj hl hqx]; exact hx, fun l hl => by rw [I.tuple_inj hl hqy]; exact hy⟩,
      ⟨⟨.ref s.heap.objs.size, ?_⟩, ⟨g0, g1, hg, up _ _ (Ne.symm de.1) hz1⟩, up _ _ (Ne.symm de.2.1) (hk _ _ D.TIz D.TITO D.TIi1 D.TIi2 hTI), ⟨a', b', up _ _ (Ne.symm de.2.2.1) hTO'⟩, h1'.at fun o q => up _ o (Ne.symm de.2.2.2.1) q, h2'.at fun o q => up _ o (Ne.symm de.2.2.2.2) q⟩, fun c hcm => ?_⟩
    · have e1 : ((i + 1 : Nat) : Int) = (i : Int) + 1 := by omega
      rw [e1]
      exact he'
    · rw [upd_ne (Nat.ne_of_lt (Nat.lt_of_lt_of_le (lt6 c hcm) (by rw [hsz]; exact Nat.le_succ _))), upd_ne (Nat.ne_of_lt (lt6 c hcm))]
      exact (hf c hcm).1
  done := by
    intro X hP hw hK hc i pins s σ H E I hf st hg
    subst hP hw hK
    obtain ⟨⟨old, he⟩, ⟨f0, f1, hfo, hz⟩, hTI, ⟨x0, y0, hTO⟩, h1, h2⟩ := st
    obtain ⟨xs, ys, hqx, hqy, hend⟩ := hg
    obtain ⟨its, rv, p, _⟩ := I.tuple hqx
    obtain ⟨its2, rv2, p2, _⟩ := I.tuple hqy
    have l1 := rv.length
    have l2 := rv2.length
    have hn : its.toArray[i]? = none ∨ its2.toArray[i]? = none := by
      rcases hend with q | q
      · exact .inl (by simp; omega)
      · exact .inr (by simp; omega)
    have hT : s.TypeIs (.ref e) "enumerate" := ⟨_, he, rfl⟩
    have hTz : s.TypeIs (.ref z) "zip" := ⟨_, hz, rfl⟩
    unfold pyNext
    refine wpAny_bind (wpAny_attempt (wpAny_callSpecial?_slot (name := Str.ofString "__next__") hT F.slot_enumerate_next
      (wpAny_call_entry F.slot_enumerate_next hT F.entry_enumerate_next ?_ (F.args_enumerate_next_1 _))))
    show wpAny _ _ (field (.ref e) 2 >>= _) _ _ _
    refine wpAny_bind (wpAny_field he rfl (x := .ref z) rfl ?_)
    unfold Builtin.SmallTypes.nextOf
    refine wpAny_bind (wpAny_bind (wpAny_callSpecial?_slot (name := Str.ofString "__next__") hTz F.slot_zip_next (wpAny_call_entry F.slot_zip_next hTz F.entry_zip_next
      (zipF_end (by have := I.ok.hd hc; simpa using this) D hz hfo hTI hTO h1 h2 p p2 hn fun h' x hk hx' => ?_) (F.args_zip_next_1 _))))
    obtain ⟨o, ho, hcl⟩ := hx'
    refine wpAny_bind (wpAny_isInstance (T := "StopIteration") (b := true) ⟨o, ho, hcl⟩ isSubtype_stop ?_)
    refine wpAny_pure ⟨rfl, I.turnedL (t' := s.toks) (ch := [e, z, TI, TO, i1, i2]) (fun c o hb q => hk c o (fun q' => hb (by simp [q'])) (fun q' => hb (by simp [q'])) (fun q' => hb (by simp [q'])) (fun q' => hb (by simp [q'])) q) hf⟩
  self := fun A i s Q E st h => let ⟨⟨_, he⟩, _⟩ := st; wpAny_pyIter_enum he h
def iEnumZ (K : PySem.W.Frag) (ta : TA) : TI := fun σ H R => ta σ H fun vs H1 => ∃ a b xs ys, vs = [.ref a, .ref b] ∧ SqT K H1 a xs ∧ SqT K H1 b ys ∧ R (ItE K a b) H1
theorem enum_apart (n : Nat) : (n + 5 : Nat) ≠ n + 4 ∧ (n + 5 : Nat) ≠ n + 2 ∧ (n + 5 : Nat) ≠ n + 3 ∧ (n + 5 : Nat) ≠ n ∧ (n + 5 : Nat) ≠ n + 1 := by omega
theorem six_le {n c : Nat} (h : c ∈ [n + 5, n + 4, n + 2, n + 3, n, n + 1]) : n ≤ c := by
  have e' : c = n + 5 ∨ c = n + 4 ∨ c = n + 2 ∨ c = n + 3 ∨ c = n ∨ c = n + 1 := by simpa using h
  omega
theorem pi_enumZ {X : Cx} {e e2 : Expr} {ta : TA} {p p2 pos pos2 tpos : Pos} {elts : List Expr} {kk : Nat} (hg : Gl X "enumerate") (hm : X.mg "enumerate" = none) (hg2 : Gl X "zip") (hm2 : X.mg "zip" = none) (ha : PA X [e, e2] ta)
    (hs : starEach [e, e2] X.env = (false, eval e X.env) :: starEach [e2] X.env := by rfl) (hpl : (backTo pos2 (starEach [e2] X.env)).any (·.1) = false := by rfl)
    (na : starEach [.Call (.Name "zip" p2) [e, e2] [] pos2] X.env = (false, eval (.Call (.Name "zip" p2) [e, e2] [] pos2) X.env) :: starEach [] X.env := by rfl) :
    PI X (.Tuple elts kk tpos) (.Call (.Name "enumerate" p) [.Call (.Name "zip" p2) [e, e2] [] pos2] [] pos) (iEnumZ X.K ta) := by
  refine ⟨fun pins s σ H R I h => ?_⟩
  refine Call_ (ld_blt I hg hm boot_enumerate (PyProof.Rows.callWith_type1 (PyProof.Rows.args_cons ?_ na) na rfl))
  refine Call_ (ld_blt I hg2 hm2 PyProof.Rows.boot_zip (PyProof.Rows.callWith_type1 (thn (ha.run pos2 pins s σ H _ I h) fun us s1 ⟨vs, H1, I1, r1, q1⟩ => ?_) hs hpl))
  obtain ⟨a, b, xs, ys, ex, hqx, hqy, q⟩ := q1
  subst ex
  cases r1 with
  | cons r rr =>
    cases rr with
    | cons r' rr =>
      cases rr
      cases r
      cases r'
      obtain ⟨its, rv, p1, _⟩ := I1.tuple hqx
      obtain ⟨its2, rv2, p2, _⟩ := I1.tuple hqy
      obtain ⟨o1, ho1, _⟩ := id p1
      obtain ⟨o2, ho2, _⟩ := id p2
      refine RZ.call_zipT p1 p2 fun h' hz hTI hTO h1 h2 hsz hk => PyProof.Rows.args_nil ?_
      refine call_enum_zip (f0 := .none) (f1 := false) hz fun h'' he hsz2 hk2 => wpAny_pyIter_enum he ?_
      have I2 : Inv X pins σ H1 { s1 with heap := h'' } := I1.kept (t' := s1.toks) fun c o q => hk2 c o (hk c o q)
      have hs5 : h'.objs.size = s1.heap.objs.size + 5 := hsz
      replace he : IsEnum h'' (s1.heap.objs.size + 5) (s1.heap.objs.size + 4) 0 .none := by
        have q := he
        simp only [hs5] at q
        exact q
      have hA : ZipApart (s1.heap.objs.size + 4) (s1.heap.objs.size + 2) (s1.heap.objs.size + 3) s1.heap.objs.size (s1.heap.objs.size + 1) a b := PySem.W.ktu_apart s1.heap.objs.size a b (Heap.lt_size ho1) (Heap.lt_size ho2)
      show PIE X pins σ (.Tuple elts kk tpos) R (.ref h'.objs.size) { s1 with heap := h'' }
      rw [hs5]
      refine ⟨s1.heap.objs.size + 5, [s1.heap.objs.size + 5, s1.heap.objs.size + 4, s1.heap.objs.size + 2, s1.heap.objs.size + 3, s1.heap.objs.size, s1.heap.objs.size + 1], _, _, H1, rfl, I2, turn_enumZ hA (enum_apart s1.heap.objs.size), ?_, fun c hcm => ?_, q⟩
      · exact ⟨⟨.none, he⟩, ⟨.none, false, .inl rfl, hk2 _ _ hz⟩, hk2 _ _ hTI, ⟨_, _, hk2 _ _ hTO⟩, h1.at fun o q => hk2 _ o q, h2.at fun o q => hk2 _ o q⟩
      · have hle := six_le hcm
        exact I1.fpOk hle (I1.hok.fresh hle)
end DK

/-! ## R6 -/
namespace DK
open PySem PySem.Spec PyProof.Rows L2
/-! ### for .. in d.items(), the keys pairs of tuples of ints -/
def ItN (B : Hp) (d : Addr) (o : Obj) (kvs : List (Kp × V)) : It :=
  ⟨fun i H => H d = some (dO d o) ∧ i < kvs.length, fun i H x H' => ∃ (T a : Addr) (p : Kp) (v : V), kvs[i]? = some (p, v) ∧ KeyAt B a p ∧ x = .ref T ∧ H T = none ∧ H' = upd H T (.tup [.ref a, v]), fun i H => H d = some (dO d o) ∧ kvs.length ≤ i⟩
theorem dr_get {B : Hp} : ∀ {kvs : List (Kp × V)} {xs : List (NestedKey × Addr × Value)}, DR B kvs xs → ∀ {i : Nat} {q : Kp × V}, kvs[i]? = some q → ∃ y, xs[i]? = some y ∧ KeyAt B y.2.1 q.1 ∧ RelV q.2 y.2.2
  | _, _, .nil, i, q, h => by simp at h
  | q0 :: kvs, y :: xs, .cons ⟨h1, h2, h3⟩ r, 0, q, h => by
    have e : q0 = q := Option.some.inj h
    subst e
    exact ⟨y, rfl, h2, h3⟩
  | q0 :: kvs, y :: xs, .cons _ r, i + 1, q, h => dr_get r (i := i) h
section
variable {P : Program} {w : World} {K : PySem.W.Frag} {d : Addr} {o : Obj} {B : Hp} {kvs : List (Kp × V)}
theorem turn_itemsN {elts : List Expr} {kk : Nat} {tpos : Pos} {n ep : Nat} {es : Array DictEntry} {xs : List (NestedKey × Addr × Value)} (it : Addr) (hx : o.ExactDict) (hod : o.data = .dict es ep) (hes : es.toList = xs.map (entryOfKey (nestedKind P w))) (r : DR B kvs xs) :
    Turn P w K (.Tuple elts kk tpos) (ItN B d o kvs) [it] it (fun i h => ∃ ok ov, IsItemIter h it d i es.size ep ok ov) where
  mem := by simp
  obj := fun i h st b hb => by
    have e : b = it := by simpa using hb
    subst e
    obtain ⟨ok, ov, e⟩ := st
    exact ⟨_, e, fun v z => nomatch z⟩
  keep := fun i h h' st k => let ⟨ok, ov, e⟩ := st; ⟨ok, ov, k it (by simp) _ e⟩
  item := by
    intro X hP hw hK hc i pins s σ H E I hf st hg
    subst hP hw hK
    obtain ⟨hd, hi⟩ := hg
    have hgd := do_get I hd
    have hm : s.heap.DictRaw d es ep := ⟨o, hgd, hx, hod⟩
    have hsz : es.size = kvs.length := (size_of_entries hes).trans (dr_len r).symm
    obtain ⟨ok, ov, he⟩ := st
    have hlt : it < s.heap.objs.size := Heap.lt_size he
    have hi' : i < es.size := by rw [hsz]; exact hi
    obtain ⟨y, hy, ka, rv⟩ := dr_get r (List.getElem?_eq_getElem hi)
    have hen : es[i]? = some (entryOfKey (nestedKind X.prog X.w) y) := by rw [entry_at hes, hy]; rfl
    have hen' : es[i] = entryOfKey (nestedKind X.prog X.w) y := by
      have q := Array.getElem?_eq_getElem hi'
      rw [hen] at q
      exact (Option.some.inj q).symm
    refine wpAny_pyNext_items_item_raw he hm hi' fun h' ho hT hz hk => ?_
    rw [hen'] at hT ho
    refine ⟨_, rfl, wpAny_letOwnedTupleGo_items (s := { s with heap := h' }) ho fun h'' he' sb => ?_⟩
    have hT2 : h''.get? s.heap.objs.size = some { cls := .type "tuple", data := .seq #[.ref y.2.1, y.2.2] } := (sb.2 _ (Nat.ne_of_gt hlt)).trans hT
    have I1 : Inv X pins σ (upd H s.heap.objs.size (.tup [.ref y.2.1, kvs[i].2])) { s with heap := h'' } :=
      I.turnedNew (t' := s.toks) (ch := [it]) (fun b ob hb e => (sb.2 b (by simpa using hb)).trans (hk b ob (by simpa using hb) e)) hf (Nat.le_refl _)
        ⟨by show 2 ≤ sizeLine; decide, [.ref y.2.1, y.2.2], .cons rfl (.cons rv .nil), ⟨_, hT2, rfl, _, rfl⟩⟩
    refine ⟨.ref s.heap.objs.size, _, I1, rfl, ⟨_, y.2.1, kvs[i].1, kvs[i].2, List.getElem?_eq_getElem hi, ka, rfl, I.hok.fresh (Nat.le_refl _), rfl⟩, ⟨_, _, he'⟩, fun b hb => ?_⟩
    have e : b = it := by simpa using hb
    rw [e, upd_ne (Nat.ne_of_lt hlt)]
    exact (hf it (by simp)).1
  done := by
    intro X hP hw hK hc i pins s σ H E I hf st hg
    subst hP hw hK
    obtain ⟨hd, hi⟩ := hg
    obtain ⟨f0, f1, f2, f3, f4, f5⟩ := hf it (by simp)
    have hm : s.heap.DictRaw d es ep := ⟨o, do_get I hd, hx, hod⟩
    have hsz : es.size = kvs.length := (size_of_entries hes).trans (dr_len r).symm
    obtain ⟨ok, ov, he⟩ := st
    exact wpAny_pyNext_items_end_raw (I.ok.hd hc) he hm (by omega) fun h' eb => ⟨rfl, I.turned (t' := s.toks) (fun b ob hb e => eb b ob hb e) f0 f1 f3 f4 f5⟩
  self := fun A i s Q E st h => let ⟨_, _, e⟩ := st; wpAny_pyIter_itemiter e h
end
def iItemsN (P : Program) (w : World) (td : TE) : TI := fun σ H R => td σ H fun x H1 => ∃ B d o kvs, x = .ref d ∧ H1 d = some (dO d o) ∧ (d == sysModules) = false ∧ DE P w B o kvs ∧ R (ItN B d o kvs) H1
section
variable {X : Cx} {e : Expr} {td : TE} {apos cpos : Pos}
theorem pi_itemsN {elts : List Expr} {kk : Nat} {tpos : Pos} (he : PE X e td) (hbase : attributeBase e "items" X.env (eval e X.env) = eval e X.env := by rfl) (hline : (apos.endLine == cpos.line) = true := by rfl) :
    PI X (.Tuple elts kk tpos) (.Call (.Attribute e "items" apos) [] [] cpos) (iItemsN X.prog X.w td) := by
  refine ⟨fun pins s σ H R I h => ?_⟩
  refine wpAny_Call_method (T := "dict") (id := "dict.items") hbase rfl hline F.plainAttrs_dict F.slot_dict_items F.type_dict_items (thn (he.run pins s σ H _ I h) fun u s1 ⟨x, H1, I1, rx, B, d, o, kvs, ex, hd, hs, D, q⟩ => ?_)
  subst ex
  obtain rfl : u = Value.ref d := rx
  obtain ⟨es, ep, xs, h1, h2, h3, h4, h5⟩ := D
  have hgd := do_get I1 hd
  have hm : s1.heap.DictRaw d es ep := ⟨o, hgd, h1, h2⟩
  refine ⟨hm.typeIs, fun b eb => by cases eb; exact ⟨o, hgd, h1.2.1⟩, ?_⟩
  have I2 : Inv X pins σ H1 { s1 with heap := s1.heap.push { cls := .type "dict_items", data := .fields #[.ref d] } } := I1.kept (t' := s1.toks) fun b ob q => Heap.get?_push_of_some _ q
  have fin : wpAny (model X.prog X.w) X.A (pyIter (.ref s1.heap.objs.size)) (PIE X pins σ (.Tuple elts kk tpos) R) X.xe { s1 with heap := s1.heap.push { cls := .type "dict_items", data := .fields #[.ref d] } } :=
    wpAny_pyIter_items_raw (d := d) ⟨_, Heap.get?_push_size _ rfl, rfl, rfl⟩ (hm.push _) (pi_one (tk := s1.toks) I2 _ (turn_itemsN (n := 0) _ h1 h2 h3 h5) ⟨.none, .none, Heap.get?_push_size _ rfl⟩ q)
  show wpAny _ _ (callWith cpos (.builtin "dict.items") [.ref d] [] []) _ X.xe s1
  exact method_meetsIn F.slot_dict_items F.entry_dict_items rfl (PySem.evalArgs_none ⟨rfl, hm.typeIs, F.args_dict_items_1 _, _, meets_dict_items_raw d hs, ⟨es, ep, hm⟩, fin⟩)
/-! ### {(t, u): v} -/
def dict0 : Obj := { cls := .type "dict", data := .dict #[] }
def tDispN (P : Program) (w : World) (tk tv : TE) : TE := fun σ H Q => ∀ d, H d = none → (d == sysModules) = false → tk σ (upd H d (dO d dict0)) fun x H1 => tv σ H1 fun y H2 =>
  ∃ B a p, x = .ref a ∧ Same B H2 ∧ KeyAt B a p ∧ H2 d = some (dO d dict0) ∧ ∀ o', DE P w B o' [(p, y)] → Q (.ref d) (upd H2 d (dO d o'))
theorem pe_dispN {k v : Expr} {tk tv : TE} {pos : Pos} (hu : X.A.units + 9 < cLine) (hk : PE X k tk) (hv : PE X v tv) : PE X (.Dict [some k] [v] pos) (tDispN X.prog X.w tk tv) := by
  refine ⟨fun pins s σ H Q I q => ?_⟩
  have hn := I.hok.fresh (Nat.le_refl s.heap.objs.size)
  have I1 := I.laid (a := s.heap.objs.size) (o := dO s.heap.objs.size dict0) (h' := s.heap.push dict0) (t' := s.toks) (fun _ _ q => Heap.get?_push_of_some _ q) (Nat.le_refl _) (dO_new (Heap.get?_push_size _ rfl))
  have hps : PPs X pos [some k] [v] [(tk, tv)] := pps_cons hk hv pps_nil
  have step : wpAny (model X.prog X.w) X.A (evalPairs (pairTrees [some k] [v] X.env pos)) (fun vs s₁ => ∃ ps, CarriesH (nestedKind X.prog X.w) s₁.heap vs ps ∧ s₁.heap.DictOfH (nestedKind X.prog X.w) s.heap.objs.size [] ∧
      ∀ h' tk, h'.DictOfH (nestedKind X.prog X.w) s.heap.objs.size (storedAllH [] ps) → Heap.SameBut s.heap.objs.size s₁.heap h' → EP X pins σ Q (.ref s.heap.objs.size) { s₁ with heap := h', toks := tk }) X.xe
      { s with heap := s.heap.push dict0 } := by
    refine thn (hps.run pins _ σ _ (fun ps H3 => match ps with
      | [(x, y)] => ∃ B a p, x = .ref a ∧ Same B H3 ∧ KeyAt B a p ∧ H3 s.heap.objs.size = some (dO s.heap.objs.size dict0) ∧ ∀ o', DE X.prog X.w B o' [(p, y)] → Q (.ref s.heap.objs.size) (upd H3 s.heap.objs.size (dO s.heap.objs.size o'))
      | _ => False) I1 (q s.heap.objs.size hn (big_mod I.big))) fun vs s2 ⟨ps, H3, I3, rel, qq⟩ => ?_
    cases rel with
    | nil => exact qq.elim
    | @cons a' b' l1' l2' r1 rn =>
      cases rn with
      | cons _ _ => exact qq.elim
      | nil =>
        obtain ⟨x, y⟩ := a'
        obtain ⟨bk, bv⟩ := b'
        obtain ⟨B, a, p, ex, sm, ka, hd, q3⟩ := qq
        obtain ⟨rx, ry⟩ := r1
        subst ex
        obtain rfl : bk = Value.ref a := rx
        have hgd := do_get I3 hd
        refine ⟨[(nkey p, a, bv)], ⟨rfl, rfl, key_is I3 (ka.mono sm), trivial⟩, ⟨dict0, #[], 0, hgd, ⟨rfl, rfl, rfl⟩, rfl, rfl, (fun _ z => nomatch z), List.nodup_nil⟩, fun h' tk' hD hs => ?_⟩
        obtain ⟨o', ho', D'⟩ := de_of (B := B) (kvs := [(p, y)]) hD (.cons ⟨rfl, ka, ry⟩ .nil)
        exact ⟨.ref s.heap.objs.size, _, d_write (ob := dO s.heap.objs.size o') (t' := tk') I3 (by rw [hd]; exact True.intro) hs ⟨_, ho'⟩ (dO_new ho'), rfl, q3 o' D'⟩
  have hsh := zip_pairTrees [some k] [v] X.env pos rfl rfl
  rw [arm_eval_Dict, hsh, dictDisplay_pairs (pairTrees [some k] [v] X.env pos) (by
    intro z
    have := pairTrees_length [some k] [v] X.env pos rfl rfl
    rw [z] at this
    cases this) (by rw [pairTrees_length [some k] [v] X.env pos rfl rfl]; show (1 : Nat) < 17; decide)]
  refine wpAny_bind (wpAny_standAt (wpAny_bind ?_))
  refine wpAny_subDictH (knd := nestedKind X.prog X.w) (Q := fun d s' => wpAny (model X.prog X.w) X.A (pure (Value.ref d)) (EP X pins σ Q) X.xe s') (by show X.A.units + 8 < cLine; omega) (by rw [pairTrees_length [some k] [v] X.env pos rfl rfl]; show (1 : Nat) ≤ 15; decide) ?_
  exact thn step fun vs s1 ⟨ps, hc, hD, hq⟩ => ⟨ps, hc, hD, fun h' tk a b => wpAny_pure (hq h' tk a b)⟩
end
end DK

/-! ## R7 -/
namespace DK
open PySem PySem.Spec PyProof.Rows L2
/-! ### enumerate(tuple) -/
theorem meets_enum_tup (l : Addr) (items : Array Value) :
    Meets (Builtin.«enumerate.__new__» ⟨[.type "enumerate", .ref l], []⟩) (fun _ R s => s.heap.IsTuple l items ∧
      R (.ok (.ret (.ref (s.heap.push { cls := .type "tuple_iterator", data := .fields #[.ref l, .int 0 0] }).objs.size)))
        { s with heap := (s.heap.push { cls := .type "tuple_iterator", data := .fields #[.ref l, .int 0 0] }).push { cls := .type "enumerate", data := .fields #[.none, .bool false, .ref s.heap.objs.size, rawInt 0, .none, .none] } }) :=
  .of_wp fun prog w A R s h => by
    obtain ⟨hp, g, d, tk, os⟩ := s; obtain ⟨h1, h⟩ := h
    have hsub := sub_enumerate
    have hL : Heap.IsTuple (Shared.heap ⟨hp, g, d, tk, os⟩) l items := h1
    wp_walk using wpAny_pyIter_tuple hL
    refine wpAny_stack_any fun st => wpAny_pure ?_
    split
    · rename_i c _ _ _ _ _
      cases (c == Value.type "enumerate")
      · wp_walk using wpAny_pyIter_tuple hL
        exact ⟨_, rfl, h⟩
      · wp_walk using wpAny_pyIter_tuple hL
        exact ⟨_, rfl, h⟩
    · wp_walk using wpAny_pyIter_tuple hL
      exact ⟨_, rfl, h⟩
section
variable {prog : Program} {w : World} {A : Around} {E : Value → Shared → Prop} {s : Shared}
theorem call_enum_tup {l : Addr} {items : Array Value} {Q : Value → Shared → Prop} (hL : s.heap.IsTuple l items)
    (h : ∀ h', IsEnum h' (s.heap.objs.size + 1) s.heap.objs.size 0 .none → h'.IsTupleIter s.heap.objs.size l 0 → h'.objs.size = s.heap.objs.size + 2 →
      (∀ b o, s.heap.get? b = some o → h'.get? b = some o) → Q (.ref (s.heap.objs.size + 1)) { s with heap := h' }) :
    wpAny (model prog w) A (call (.type "enumerate") [.ref l]) Q E s := by
  refine callType_new F.called_enumerate (by decide) (F.typeCall_enumerate_1 _) (F.newCall_enumerate_1 _) (fun obj => F.args_object_init_2 obj _) F.entry_enumerate_new
    (meets_enum_tup l items) ⟨hL, ?_⟩
  have hz : (s.heap.push { cls := .type "tuple_iterator", data := .fields #[.ref l, .int 0 0] }).objs.size = s.heap.objs.size + 1 := Heap.size_push ..
  show _ ∧ _
  rw [hz]
  have he : IsEnum ((s.heap.push { cls := .type "tuple_iterator", data := .fields #[.ref l, .int 0 0] }).push
      { cls := .type "enumerate", data := .fields #[.none, .bool false, .ref s.heap.objs.size, rawInt 0, .none, .none] }) (s.heap.objs.size + 1) s.heap.objs.size 0 .none := by
    have := Heap.get?_push_size (s.heap.push { cls := .type "tuple_iterator", data := .fields #[.ref l, .int 0 0] })
      (o := { cls := .type "enumerate", data := .fields #[.none, .bool false, .ref s.heap.objs.size, rawInt 0, .none, .none] }) rfl
    rw [hz] at this; exact this
  refine ⟨⟨_, he, rfl⟩, h _ he ⟨_, Heap.get?_push_of_some _ (Heap.get?_push_size _ rfl), rfl, rfl⟩ (by rw [Heap.size_push, hz]) fun b o x => Heap.get?_push_of_some _ (Heap.get?_push_of_some _ x)⟩
end
/-- the tuple at a, each item in a new pair -/
def ItEt (K : PySem.W.Frag) (a : Addr) : It :=
  ⟨fun i H => ∃ (xs : List V) (x : V), SqT K H a xs ∧ xs[i]? = some x, fun i H v H' => ∃ T x, v = .ref T ∧ H T = none ∧ H' = upd H T (.tup [.int (i : Nat), x]) ∧ ∀ xs, SqT K H a xs → xs[i]? = some x, fun i H => ∃ xs : List V, SqT K H a xs ∧ xs.length ≤ i⟩
theorem turn_enumT {P : Program} {w : World} {K : PySem.W.Frag} {elts : List Expr} {kk : Nat} {tpos : Pos} (a e it : Addr) :
    Turn P w K (.Tuple elts kk tpos) (ItEt K a) [e, it] e (fun i h => (∃ old, IsEnum h e it ((i : Nat) : Int) old) ∧ h.IsTupleIter it a i ∧ e ≠ it) where
  mem := by simp
  obj := fun i h st b hb => by
    obtain ⟨⟨old, he⟩, ⟨o, ho, hc, hd⟩, _⟩ := st
    have e' : b = e ∨ b = it := by simpa using hb
    rcases e' with z | z
    · rw [z]; exact ⟨_, he, fun v q => nomatch q⟩
    · rw [z]; exact ⟨o, ho, fun v q => by rw [hd] at q; cases q⟩
  keep := fun i h h' st k => let ⟨⟨old, he⟩, hi, hne⟩ := st; ⟨⟨old, k e (by simp) _ he⟩, hi.at fun o q => k it (by simp) o q, hne⟩
  item := by
    intro X hP hw hK hc i pins s σ H E I hf st hg
    subst hP hw hK
    obtain ⟨⟨old, he⟩, hit, hne⟩ := st
    obtain ⟨xs, x, hq, hx⟩ := hg
    obtain ⟨its, rv, p, hz⟩ := I.tuple hq
    obtain ⟨u, hu, ru⟩ := rv.get hx
    have hel : e < s.heap.objs.size := Heap.lt_size he
    have hil : it < s.heap.objs.size := by obtain ⟨_, q, _⟩ := hit; exact Heap.lt_size q
    have hT : s.TypeIs (.ref e) "enumerate" := ⟨_, he, rfl⟩
    unfold pyNext
    refine wpAny_bind (wpAny_attempt (wpAny_callSpecial?_slot (name := Str.ofString "__next__") hT F.slot_enumerate_next
      (wpAny_call_entry F.slot_enumerate_next hT F.entry_enumerate_next
        (enumG_item he (R := fun v h₁ => v = u ∧ h₁.IsTupleIter it a (i + 1) ∧ Heap.SameBut it s.heap h₁)
          (fun Q' hq => RZ.nextOf_tuple_item hit p (x := u) (by simpa using hu) fun h' h1' sb => hq _ h' ((sb.2 e hne).trans he) ⟨rfl, h1', sb⟩)
          fun v h₁ h' hR ho hT' hz' hk' => ?_) (F.args_enumerate_next_1 _))))
    obtain ⟨rfl, hit1, sb1⟩ := hR
    have hs1 : h₁.objs.size = s.heap.objs.size := sb1.1
    refine wpAny_pure ⟨_, rfl, wpAny_letOwnedTupleGo_enum (s := { s with heap := h', toks := s.toks + 1 }) ho fun h'' he' sb => ?_⟩
    have up : ∀ c o, c ≠ e → c ≠ it → s.heap.get? c = some o → h''.get? c = some o := fun c o hc hc2 q => (sb.2 c hc).trans (hk' c o hc ((sb1.2 c hc2).trans q))
    have hT2 : h''.get? s.heap.objs.size = some { cls := .type "tuple", data := .seq #[.int ((i : Nat) : Int) s.toks, v] } := by
      rw [← hs1]
      exact (sb.2 _ (by rw [hs1]; exact Nat.ne_of_gt hel)).trans hT'
    have new : ObjOk X.prog X.w (upd H s.heap.objs.size (.tup [.int (i : Nat), x])) h'' s.heap.objs.size (.tup [.int (i : Nat), x]) :=
      ⟨by show 2 ≤ sizeLine; decide, [.int i s.toks, v], .cons ⟨_, rfl⟩ (.cons ru .nil), ⟨_, hT2, rfl, _, rfl⟩⟩
    have I1 : Inv X pins σ (upd H s.heap.objs.size (.tup [.int (i : Nat), x])) { s with heap := h'', toks := s.toks + 1 } :=
      I.turnedNew (ch := [e, it]) (fun b ob hb q => up b ob (fun z => hb (by simp [z])) (fun z => hb (by simp [z])) q) hf (Nat.le_refl _) new
    have eT : (V.ref h₁.objs.size) = .ref s.heap.objs.size := by rw [hs1]
    refine ⟨.ref s.heap.objs.size, _, I1, by rw [hs1]; rfl, ⟨_, x, rfl, I.hok.fresh (Nat.le_refl _), rfl, fun ys hy => by rw [I.tuple_inj hy hq]; exact hx⟩, ⟨⟨v, ?_⟩, (hit1.at fun o q => hk' it o (Ne.symm hne) q).at fun o q => (sb.2 it (Ne.symm hne)).trans q, hne⟩, fun b hb => ?_⟩
    · have e1 : ((i + 1 : Nat) : Int) = (i : Int) + 1 := by omega
      rw [e1]; exact he'
    · have hb' : b < s.heap.objs.size := by
        have e' : b = e ∨ b = it := by simpa using hb
        rcases e' with z | z
        · rw [z]; exact hel
        · rw [z]; exact hil
      rw [upd_ne (Nat.ne_of_lt hb')]
      exact (hf b hb).1
  done := by
    intro X hP hw hK hc i pins s σ H E I hf st hg
    subst hP hw hK
    obtain ⟨⟨old, he⟩, hit, hne⟩ := st
    obtain ⟨xs, hq, hx⟩ := hg
    obtain ⟨its, rv, p, hz⟩ := I.tuple hq
    obtain ⟨f0, f1, f2, f3, f4, f5⟩ := hf it (by simp)
    have hl := rv.length
    have hT : s.TypeIs (.ref e) "enumerate" := ⟨_, he, rfl⟩
    unfold pyNext
    refine wpAny_bind (wpAny_attempt (wpAny_callSpecial?_slot (name := Str.ofString "__next__") hT F.slot_enumerate_next
      (wpAny_call_entry F.slot_enumerate_next hT F.entry_enumerate_next ?_ (F.args_enumerate_next_1 _))))
    show wpAny _ _ (field (.ref e) 2 >>= _) _ _ _
    refine wpAny_bind (wpAny_field he rfl (x := .ref it) rfl ?_)
    refine wpAny_bind (RZ.nextOf_tuple_end (by have := I.ok.hd hc; simpa using this) hit p (by simp; omega) fun h' x eb hx' => ?_)
    obtain ⟨o, ho, hcl⟩ := hx'
    refine wpAny_bind (wpAny_isInstance (T := "StopIteration") (b := true) ⟨o, ho, hcl⟩ isSubtype_stop ?_)
    exact wpAny_pure ⟨rfl, I.turned (t' := s.toks) (fun b o hb q => eb b o hb q) f0 f1 f3 f4 f5⟩
  self := fun A i s Q E st h => let ⟨⟨_, he⟩, _⟩ := st; wpAny_pyIter_enum he h
def iEnumT (K : PySem.W.Frag) (ta : TA) : TI := fun σ H R => ta σ H fun vs H1 => ∃ a xs, vs = [.ref a] ∧ SqT K H1 a xs ∧ R (ItEt K a) H1
theorem pi_enumT {X : Cx} {e : Expr} {ta : TA} {p pos tpos : Pos} {elts : List Expr} {kk : Nat} (hg : Gl X "enumerate") (hm : X.mg "enumerate" = none) (ha : PA X [e] ta) (hs : starEach [e] X.env = [(false, eval e X.env)] := by rfl) :
    PI X (.Tuple elts kk tpos) (.Call (.Name "enumerate" p) [e] [] pos) (iEnumT X.K ta) := by
  refine ⟨fun pins s σ H R I h => ?_⟩
  refine Call_ (ld_blt I hg hm boot_enumerate (PyProof.Rows.callWith_type1 (thn (ha.run pos pins s σ H _ I h) fun us s1 ⟨vs, H1, I1, r1, q1⟩ => ?_) hs rfl))
  obtain ⟨a, xs, ex, hq, q⟩ := q1
  subst ex
  cases r1 with
  | cons r rr =>
    cases rr
    cases r
    obtain ⟨its, rv, p', hz⟩ := I1.tuple hq
    refine call_enum_tup p' fun h' he hit hsz hk => wpAny_pyIter_enum he ?_
    have I2 : Inv X pins σ H1 { s1 with heap := h' } := I1.kept (t' := s1.toks) hk
    refine ⟨s1.heap.objs.size + 1, [s1.heap.objs.size + 1, s1.heap.objs.size], _, _, H1, rfl, I2, turn_enumT a (s1.heap.objs.size + 1) s1.heap.objs.size, ⟨⟨.none, he⟩, hit, Nat.succ_ne_self _⟩, fun b hb => ?_, q⟩
    have e' : b = s1.heap.objs.size + 1 ∨ b = s1.heap.objs.size := by simpa using hb
    have hle : s1.heap.objs.size ≤ b := by
      rcases e' with z | z
      · rw [z]; exact Nat.le_add_right _ _
      · rw [z]; exact Nat.le_refl _
    exact I1.fpOk hle (I1.hok.fresh hle)
end DK

/-! ## G1 -/
namespace DK
open PySem PySem.Spec PyProof.Rows L2
/-! # Data: what a value is, by plain data; slots, states, what is kept -/
abbrev Fg := List (Int × Int)
inductive Dt where
  | non | bl (b : Bool) | int (i : Int) | str (x : Str) | tup (xs : List Dt) | lst (xs : List Dt) | rst (ns : List Int) | dct (kvs : List (Kp × Fg))
def rowD (r : List Int) : Dt := .tup (r.map Dt.int)
def fgD (f : Fg) : Dt := .tup (f.map fun q => .tup [.int q.1, .int q.2])
def keyD (p : Kp) : Dt := .tup [rowD p.1, rowD p.2]
def FgAt (B : Hp) (v : V) (f : Fg) : Prop := ∃ a vs, v = .ref a ∧ B a = some (.tup vs) ∧ Paired (fun (u : V) (q : Int × Int) => ∃ b, u = .ref b ∧ B b = some (.tup [.int q.1, .int q.2])) vs f
def FgAll (B : Hp) : List (Kp × V) → List (Kp × Fg) → Prop := Paired fun p q => p.1 = q.1 ∧ FgAt B p.2 q.2
section
variable (P : Program) (w : World)
mutual
inductive Sd (B : Hp) : V → Dt → Prop
  | non : Sd B .non .non
  | bl (b : Bool) : Sd B (.bl b) (.bl b)
  | int (i : Int) : Sd B (.int i) (.int i)
  | str (x : Str) : Sd B (.str x) (.str x)
  | tup {a : Addr} {xs : List V} {ds : List Dt} : B a = some (.tup xs) → SdA B xs ds → Sd B (.ref a) (.tup ds)
  | lst {a : Addr} {xs : List V} {ds : List Dt} : B a = some (.lst xs) → SdA B xs ds → Sd B (.ref a) (.lst ds)
  | rst {a : Addr} {ns : List Int} : B a = some (TXO a (ns.map V.int)) → Sd B (.ref a) (.rst ns)
  | dct {d : Addr} {o : Obj} {vs : List (Kp × V)} {kvs : List (Kp × Fg)} : B d = some (dO d o) → (d == sysModules) = false → vs.length ≤ 100000 → DE P w B o vs → FgAll B vs kvs → Sd B (.ref d) (.dct kvs)
inductive SdA (B : Hp) : List V → List Dt → Prop
  | nil : SdA B [] []
  | cons {v : V} {vs : List V} {d : Dt} {ds : List Dt} : Sd B v d → SdA B vs ds → SdA B (v :: vs) (d :: ds)
end
end
section
variable {P : Program} {w : World} {B B' H H' : Hp}
theorem FgAt.mono (e : Same B B') {v : V} {f : Fg} (h : FgAt B v f) : FgAt B' v f := by
  obtain ⟨a, vs, rfl, ha, r⟩ := h
  exact ⟨a, vs, rfl, e _ _ ha, L2.Paired.mapP r fun u q ⟨b, e1, e2⟩ => ⟨b, e1, e _ _ e2⟩⟩
theorem FgAll.mono (e : Same B B') {vs : List (Kp × V)} {kvs : List (Kp × Fg)} (h : FgAll B vs kvs) : FgAll B' vs kvs := L2.Paired.mapP h fun p q ⟨h1, h2⟩ => ⟨h1, h2.mono e⟩
mutual
theorem Sd.mono (e : Same B B') : ∀ {d : Dt} {v : V}, Sd P w B v d → Sd P w B' v d
  | _, _, .non => .non
  | _, _, .bl b => .bl b
  | _, _, .int i => .int i
  | _, _, .str x => .str x
  | _, _, .tup h r => .tup (e _ _ h) (SdA.mono e r)
  | _, _, .lst h r => .lst (e _ _ h) (SdA.mono e r)
  | _, _, .rst h => .rst (e _ _ h)
  | _, _, .dct h1 h2 h3 h4 h5 => .dct (e _ _ h1) h2 h3 (h4.mono e) (h5.mono e)
theorem SdA.mono (e : Same B B') : ∀ {ds : List Dt} {vs : List V}, SdA P w B vs ds → SdA P w B' vs ds
  | _, _, .nil => .nil
  | _, _, .cons h r => .cons (Sd.mono e h) (SdA.mono e r)
end
theorem SdA.length : ∀ {ds : List Dt} {vs : List V}, SdA P w B vs ds → vs.length = ds.length
  | _, _, .nil => rfl
  | _, _, .cons _ r => congrArg (· + 1) (SdA.length r)
theorem SdA.get : ∀ {ds : List Dt} {vs : List V} {i : Nat} {v : V}, SdA P w B vs ds → vs[i]? = some v → ∃ d, ds[i]? = some d ∧ Sd P w B v d
  | _, _, _, _, .nil, h => by simp at h
  | d :: ds, v0 :: vs, 0, v, .cons h0 r, h => by
    have e : v0 = v := Option.some.inj h
    subst e
    exact ⟨d, rfl, h0⟩
  | d :: ds, v0 :: vs, i + 1, v, .cons h0 r, h => SdA.get r (i := i) h
theorem SdA.at : ∀ {ds : List Dt} {vs : List V} {i : Nat} {d : Dt}, SdA P w B vs ds → ds[i]? = some d → ∃ v, vs[i]? = some v ∧ Sd P w B v d
  | _, _, _, _, .nil, h => by simp at h
  | d0 :: ds, v0 :: vs, 0, d, .cons h0 r, h => by
    have e : d0 = d := Option.some.inj h
    subst e
    exact ⟨v0, rfl, h0⟩
  | d0 :: ds, v0 :: vs, i + 1, d, .cons h0 r, h => SdA.at r (i := i) h
theorem SdA.append : ∀ {ds es : List Dt} {vs us : List V}, SdA P w B vs ds → SdA P w B us es → SdA P w B (vs ++ us) (ds ++ es)
  | _, _, _, _, .nil, r => r
  | _, _, _, _, .cons h t, r => .cons h (SdA.append t r)
theorem SdA.take : ∀ {ds : List Dt} {vs : List V} (n : Nat), SdA P w B vs ds → SdA P w B (vs.take n) (ds.take n)
  | _, _, 0, _ => .nil
  | _, _, n + 1, .nil => .nil
  | _, _, n + 1, .cons h r => .cons h (SdA.take n r)
theorem SdA.drop : ∀ {ds : List Dt} {vs : List V} (n : Nat), SdA P w B vs ds → SdA P w B (vs.drop n) (ds.drop n)
  | _, _, 0, h => h
  | _, _, n + 1, .nil => .nil
  | _, _, n + 1, .cons h r => SdA.drop n r
theorem SdA.reverse : ∀ {ds : List Dt} {vs : List V}, SdA P w B vs ds → SdA P w B vs.reverse ds.reverse
  | _, _, .nil => .nil
  | _, _, .cons h r => by
    rw [List.reverse_cons, List.reverse_cons]
    exact SdA.append (SdA.reverse r) (.cons h .nil)
theorem SdA.set {d : Dt} {v : V} (h : Sd P w B v d) : ∀ {ds : List Dt} {vs : List V} (i : Nat), SdA P w B vs ds → SdA P w B (vs.set i v) (ds.set i d)
  | _, _, _, .nil => .nil
  | _, _, 0, .cons _ r => .cons h r
  | _, _, i + 1, .cons h0 r => .cons h0 (SdA.set h i r)
theorem SdA.eraseIdx : ∀ {ds : List Dt} {vs : List V} (i : Nat), SdA P w B vs ds → SdA P w B (vs.eraseIdx i) (ds.eraseIdx i)
  | _, _, _, .nil => .nil
  | _, _, 0, .cons _ r => r
  | _, _, i + 1, .cons h0 r => .cons h0 (SdA.eraseIdx i r)
/-- ints -/
theorem sdA_ints : ∀ (ns : List Int), SdA P w B (ns.map V.int) (ns.map Dt.int)
  | [] => .nil
  | n :: ns => .cons (.int n) (sdA_ints ns)
theorem ints_of_sdA : ∀ {ns : List Int} {vs : List V}, SdA P w B vs (ns.map Dt.int) → vs = ns.map V.int
  | [], _, .nil => rfl
  | n :: ns, _, .cons h r => by
    cases h
    rw [ints_of_sdA r]
    rfl
theorem bls_of_sdA : ∀ {bs : List Bool} {vs : List V}, SdA P w B vs (bs.map Dt.bl) → vs = bs.map V.bl
  | [], _, .nil => rfl
  | n :: ns, _, .cons h r => by
    cases h
    rw [bls_of_sdA r]
    rfl
theorem sd_row {v : V} {r : List Int} (h : Sd P w B v (rowD r)) : ∃ a, v = .ref a ∧ B a = some (.tup (r.map V.int)) := by
  cases h with
  | tup h1 h2 =>
    rw [ints_of_sdA h2] at h1
    exact ⟨_, rfl, h1⟩
theorem row_sd {a : Addr} {r : List Int} (h : B a = some (.tup (r.map V.int))) : Sd P w B (.ref a) (rowD r) := .tup h (sdA_ints r)
theorem sd_key {v : V} {p : Kp} (h : Sd P w B v (keyD p)) : ∃ a, v = .ref a ∧ KeyAt B a p := by
  cases h with
  | tup h1 h2 =>
    cases h2 with
    | cons g1 g2 =>
      cases g2 with
      | cons g2 g3 =>
        cases g3
        obtain ⟨a1, rfl, e1⟩ := sd_row g1
        obtain ⟨a2, rfl, e2⟩ := sd_row g2
        exact ⟨_, rfl, a1, a2, h1, e1, e2⟩
theorem key_sd {a : Addr} {p : Kp} (h : KeyAt B a p) : Sd P w B (.ref a) (keyD p) := by
  obtain ⟨a1, a2, h0, h1, h2⟩ := h
  exact .tup h0 (.cons (row_sd h1) (.cons (row_sd h2) .nil))
theorem pairs_sd : ∀ {f : Fg} {vs : List V}, SdA P w B vs (f.map fun q => Dt.tup [.int q.1, .int q.2]) → Paired (fun (u : V) (q : Int × Int) => ∃ b, u = .ref b ∧ B b = some (.tup [.int q.1, .int q.2])) vs f
  | [], _, .nil => .nil
  | q :: f, _, .cons h r => by
    refine .cons ?_ (pairs_sd r)
    cases h with
    | tup h1 h2 =>
      cases h2 with
      | cons g1 g2 =>
        cases g2 with
        | cons g2 g3 =>
          cases g3
          cases g1
          cases g2
          exact ⟨_, rfl, h1⟩
theorem sd_pairs : ∀ {f : Fg} {vs : List V}, Paired (fun (u : V) (q : Int × Int) => ∃ b, u = .ref b ∧ B b = some (.tup [.int q.1, .int q.2])) vs f → SdA P w B vs (f.map fun q => Dt.tup [.int q.1, .int q.2])
  | [], _, .nil => .nil
  | q :: f, _, .cons ⟨b, e, h⟩ r => by
    subst e
    exact .cons (.tup h (.cons (.int _) (.cons (.int _) .nil))) (sd_pairs r)
theorem sd_fg {v : V} {f : Fg} (h : Sd P w B v (fgD f)) : FgAt B v f := by
  cases h with
  | tup h1 h2 => exact ⟨_, _, rfl, h1, pairs_sd h2⟩
theorem fg_sd {v : V} {f : Fg} (h : FgAt B v f) : Sd P w B v (fgD f) := by
  obtain ⟨a, vs, rfl, h1, h2⟩ := h
  exact .tup h1 (sd_pairs h2)
end
/-! ### what is kept -/
/-- from the world (B, H) to (B', H'): t may change -/
def Gw (t : Option Addr) (B H B' H' : Hp) : Prop := Same B B' ∧ Same B' H' ∧ (∀ b o, t ≠ some b → H b = some o → H' b = some o) ∧ ∀ b, H b ≠ none → H' b ≠ none ∧ (B b = none → B' b = none)
theorem Gw.refl {t : Option Addr} {B H : Hp} (e : Same B H) : Gw t B H B H := ⟨Same.refl _, e, fun _ _ _ h => h, fun _ n => ⟨n, fun h => h⟩⟩
theorem Gw.trans {t : Option Addr} {B H B1 H1 B2 H2 : Hp} (a : Gw t B H B1 H1) (b : Gw t B1 H1 B2 H2) : Gw t B H B2 H2 :=
  ⟨a.1.trans b.1, b.2.1, fun c o n h => b.2.2.1 c o n (a.2.2.1 c o n h), fun c n => ⟨(b.2.2.2 c (a.2.2.2 c n).1).1, fun h => (b.2.2.2 c (a.2.2.2 c n).1).2 ((a.2.2.2 c n).2 h)⟩⟩
theorem Gw.some {t : Option Addr} {B H B' H' : Hp} (g : Gw none B H B' H') : Gw t B H B' H' := ⟨g.1, g.2.1, fun b o _ h => g.2.2.1 b o (fun z => nomatch z) h, g.2.2.2⟩
/-- a new object, known from then on -/
theorem Gw.new {t : Option Addr} {B H : Hp} {p : Addr} {o : HO} (e : Same B H) (h : H p = none) : Gw t B H (upd B p o) (upd H p o) := by
  have hb : B p = none := by
    cases z : B p with
    | none => rfl
    | some u => rw [e _ _ z] at h; cases h
  refine ⟨fun b u z => ?_, fun b u z => ?_, fun b u _ z => ?_, fun b n => ?_⟩
  · rw [upd_ne (ne_of_none z hb)]
    exact z
  · by_cases q : b = p
    · rw [q, upd_same] at z ⊢
      exact z
    · rw [upd_ne q] at z ⊢
      exact e _ _ z
  · rw [upd_ne (ne_of_none z h)]
    exact z
  · have q : b ≠ p := fun q => n (by rw [q]; exact h)
    rw [upd_ne q, upd_ne q]
    exact ⟨n, fun z => z⟩
/-- the box of draws at t: three ints, at most n draws so far -/
def TinAt (H : Hp) (t : Option Addr) (n : Nat) : Prop := ∀ tt, t = some tt → ∃ a b c : Int, H tt = some (.lst [.int a, .int b, .int c]) ∧ 0 ≤ a ∧ 0 ≤ b ∧ b < 2 ^ 62 ∧ 0 ≤ c ∧ c ≤ n
structure Anc where
  t : Option Addr
  B0 : Hp
  H0 : Hp
inductive Sl where
  | val (d : Dt) | own (ds : List Dt) | odc (kvs : List (Kp × Fg)) | tin | scr (K : PySem.W.Frag) (ns : List Int)
structure DS where
  ε : List (Option Sl)
  n : Nat
def Hid (A : Anc) (B : Hp) (p : Addr) : Prop := A.H0 p = none ∧ B p = none ∧ A.t ≠ some p
/-- what a slot holds -/
def SlOk (P : Program) (w : World) (A : Anc) (B H : Hp) (o : Option (Option V)) : Sl → Prop
  | .val d => ∃ v, o = some (some v) ∧ Sd P w B v d
  | .own ds => ∃ p vs, o = some (some (.ref p)) ∧ Hid A B p ∧ H p = some (.lst vs) ∧ SdA P w B vs ds
  | .odc kvs => ∃ p ob vs, o = some (some (.ref p)) ∧ Hid A B p ∧ H p = some (dO p ob) ∧ (p == sysModules) = false ∧ vs.length ≤ 100000 ∧ DE P w B ob vs ∧ FgAll B vs kvs
  | .tin => ∃ tt, A.t = some tt ∧ o = some (some (.ref tt))
  | .scr K ns => ∃ a, o = some (some (.ref a)) ∧ A.t ≠ some a ∧ SqL K A.H0 a (ns.map V.int)
/-- slot i's own, changeable thing stands at p -/
def Owns (ε : List (Option Sl)) (σ : L2.St) (i : Nat) (p : Addr) : Prop := σ[i]? = some (some (.ref p)) ∧ ((∃ ds, ε[i]? = some (some (.own ds))) ∨ ∃ kvs, ε[i]? = some (some (.odc kvs)))
structure SW (P : Program) (w : World) (A : Anc) (B H : Hp) (σ : L2.St) (s : DS) : Prop where
  gw : Gw A.t A.B0 A.H0 B H
  len : s.ε.length = σ.length
  tin : TinAt H A.t s.n
  tinB : ∀ tt, A.t = some tt → B tt = none ∧ A.H0 tt ≠ none
  slot : ∀ (i : Nat) (sl : Sl), s.ε[i]? = some (some sl) → SlOk P w A B H (σ[i]?) sl
  apart : ∀ (i j : Nat) (p : Addr), i ≠ j → Owns s.ε σ i p → Owns s.ε σ j p → False
def Own (ε : List (Option Sl)) (σ : L2.St) (p : Addr) : Prop := ∃ i, Owns ε σ i p
/-- what an expression leaves as it was; O, O': the addresses that the slots own -/
structure Mw (A : Anc) (O : Addr → Prop) (B H : Hp) (O' : Addr → Prop) (B' H' : Hp) : Prop where
  same : Same B B'
  fx : ∀ b o, A.t ≠ some b → ¬ O b → H b = some o → H' b = some o
  sub : ∀ b, O' b → O b
  there : ∀ b, H b ≠ none → H' b ≠ none
  hid : ∀ b, H b ≠ none → B b = none → ¬ O b → B' b = none
abbrev Mv (A : Anc) (σ : L2.St) (s : DS) (B H : Hp) (s' : DS) (B' H' : Hp) : Prop := Mw A (Own s.ε σ) B H (Own s'.ε σ) B' H'
theorem Mw.refl {A : Anc} {O : Addr → Prop} {B H : Hp} : Mw A O B H O B H := ⟨Same.refl _, fun _ _ _ _ h => h, fun _ h => h, fun _ h => h, fun _ _ h _ => h⟩
theorem Mw.trans {A : Anc} {O O1 O2 : Addr → Prop} {B H B1 H1 B2 H2 : Hp} (a : Mw A O B H O1 B1 H1) (b : Mw A O1 B1 H1 O2 B2 H2) : Mw A O B H O2 B2 H2 :=
  ⟨a.same.trans b.same, fun c o n h e => b.fx c o n (fun z => h (a.sub c z)) (a.fx c o n h e), fun c z => a.sub c (b.sub c z), fun c z => b.there c (a.there c z),
    fun c n z h => b.hid c (a.there c n) (a.hid c n z h) fun q => h (a.sub c q)⟩
/-- seen from fewer, to fewer -/
theorem Mw.wide {A : Anc} {O O1 O' O1' : Addr → Prop} {B H B' H' : Hp} (a : Mw A O B H O' B' H') (h : ∀ b, O b → O1 b) (h' : ∀ b, O1' b → O1 b) : Mw A O1 B H O1' B' H' :=
  ⟨a.same, fun c o n z e => a.fx c o n (fun q => z (h c q)) e, h', a.there, fun c n z q => a.hid c n z fun y => q (h c y)⟩
section
variable {P : Program} {w : World} {A : Anc} {B H B' H' : Hp} {σ : L2.St} {s s' : DS}
theorem SW.bh (S : SW P w A B H σ s) : Same B H := S.gw.2.1
/-- the world grows, nothing of the slots changes -/
theorem SlOk.grow {o : Option (Option V)} {sl : Sl} (h : SlOk P w A B H o sl) (hH : ∀ p u, A.t ≠ some p → H p = some u → H' p = some u) (hB : Same B B') (hb : ∀ p, H p ≠ none → B p = none → B' p = none) : SlOk P w A B' H' o sl := by
  cases sl with
  | val d =>
    obtain ⟨v, e, h⟩ := h
    exact ⟨v, e, h.mono hB⟩
  | own ds =>
    obtain ⟨p, vs, e, ⟨h1, h2, h3⟩, h4, h5⟩ := h
    exact ⟨p, vs, e, ⟨h1, hb p (by rw [h4]; exact fun z => nomatch z) h2, h3⟩, hH _ _ h3 h4, h5.mono hB⟩
  | odc kvs =>
    obtain ⟨p, ob, vs, e, ⟨h1, h2, h3⟩, h4, h5, h6, h7, h8⟩ := h
    exact ⟨p, ob, vs, e, ⟨h1, hb p (by rw [h4]; exact fun z => nomatch z) h2, h3⟩, hH _ _ h3 h4, h5, h6, h7.mono hB, h8.mono hB⟩
  | tin => exact h
  | scr K ns => exact h
theorem SW.grow (S : SW P w A B H σ s) (g : Gw none B H B' H') : SW P w A B' H' σ s where
  gw := S.gw.trans g.some
  len := S.len
  tin := fun tt e => let ⟨a, b, c, h, r⟩ := S.tin tt e; ⟨a, b, c, g.2.2.1 _ _ (fun z => nomatch z) h, r⟩
  tinB := fun tt e => ⟨(g.2.2.2 tt (by
    obtain ⟨a, b, c, h, _⟩ := S.tin tt e
    rw [h]
    exact fun z => nomatch z)).2 (S.tinB tt e).1, (S.tinB tt e).2⟩
  slot := fun i sl e => (S.slot i sl e).grow (fun p u _ h => g.2.2.1 p u (fun z => nomatch z) h) g.1 fun p n => (g.2.2.2 p n).2
  apart := S.apart
theorem Mw.grow {O : Addr → Prop} (g : Gw none B H B' H') : Mw A O B H O B' H' := ⟨g.1, fun b o _ _ h => g.2.2.1 b o (fun z => nomatch z) h, fun _ h => h, fun b h => (g.2.2.2 b h).1, fun b n h _ => (g.2.2.2 b n).2 h⟩
/-- the box has been drawn from -/
theorem SW.drawn (S : SW P w A B H σ s) (g : Gw A.t B H B' H') {n : Nat} (ht : TinAt H' A.t n) : SW P w A B' H' σ { s with n := n } where
  gw := S.gw.trans g
  len := S.len
  tin := ht
  tinB := fun tt e => ⟨(g.2.2.2 tt (by
    obtain ⟨a, b, c, h, _⟩ := S.tin tt e
    rw [h]
    exact fun z => nomatch z)).2 (S.tinB tt e).1, (S.tinB tt e).2⟩
  slot := fun i sl e => (S.slot i sl e).grow (fun p u n h => g.2.2.1 p u n h) g.1 fun p n => (g.2.2.2 p n).2
  apart := S.apart
theorem Mw.drawn {O : Addr → Prop} (g : Gw A.t B H B' H') : Mw A O B H O B' H' := ⟨g.1, fun b o n _ h => g.2.2.1 b o n h, fun _ h => h, fun b h => (g.2.2.2 b h).1, fun b n h _ => (g.2.2.2 b n).2 h⟩
theorem SW.more (S : SW P w A B H σ s) {n : Nat} (h : s.n ≤ n) : SW P w A B H σ { s with n := n } :=
  { S with tin := fun tt e => let ⟨a, b, c, h1, h2, h3, h4, h5, h6⟩ := S.tin tt e; ⟨a, b, c, h1, h2, h3, h4, h5, by show c ≤ (n : Int); omega⟩ }
end
end DK

/-! ## G2 -/
namespace DK
open PySem PySem.Spec PyProof.Rows L2
/-! # What evaluates to what, over data -/
section
variable (P : Program) (w : World)
/-- te gives a value and a state of which Po holds -/
def EV (te : TE) (s : DS) (Po : Dt → DS → Prop) : Prop := ∀ (A : Anc) (B H : Hp) (σ : L2.St), SW P w A B H σ s → ∀ Q : VK,
  (∀ v B' H' d s', SW P w A B' H' σ s' → Mv A σ s B H s' B' H' → Sd P w B' v d → Po d s' → Q v H') → te σ H Q
/-- te gives a new list that nobody else holds -/
def EVN (te : TE) (s : DS) (Po : List Dt → DS → Prop) : Prop := ∀ (A : Anc) (B H : Hp) (σ : L2.St), SW P w A B H σ s → ∀ Q : VK,
  (∀ p vs B' H' ds s', SW P w A B' H' σ s' → Mv A σ s B H s' B' H' → Hid A B' p → H p = none → H' p = some (.lst vs) → SdA P w B' vs ds → ¬ Own s'.ε σ p → Po ds s' → Q (.ref p) H') → te σ H Q
/-- a new dict -/
def EVK (te : TE) (s : DS) (Po : List (Kp × Fg) → DS → Prop) : Prop := ∀ (A : Anc) (B H : Hp) (σ : L2.St), SW P w A B H σ s → ∀ Q : VK,
  (∀ p o vs B' H' kvs s', SW P w A B' H' σ s' → Mv A σ s B H s' B' H' → Hid A B' p → H p = none → H' p = some (dO p o) → (p == sysModules) = false → vs.length ≤ 100000 → DE P w B' o vs → FgAll B' vs kvs → ¬ Own s'.ε σ p → Po kvs s' → Q (.ref p) H') → te σ H Q
/-- a test -/
def EVT (tt : TT) (s : DS) (Po : Bool → DS → Prop) : Prop := ∀ (A : Anc) (B H : Hp) (σ : L2.St), SW P w A B H σ s → ∀ Q : Bool → Hp → Prop,
  (∀ b B' H' s', SW P w A B' H' σ s' → Mv A σ s B H s' B' H' → Po b s' → Q b H') → tt σ H Q
inductive Ag where
  | v (d : Dt) | tin
def AgOk (A : Anc) (B : Hp) : V → Ag → Prop
  | v, .v d => Sd P w B v d
  | v, .tin => ∃ tt, A.t = some tt ∧ v = .ref tt
abbrev AgA (A : Anc) (B : Hp) : List V → List Ag → Prop := Paired (AgOk P w A B)
def EVA (ta : TA) (s : DS) (Po : List Ag → DS → Prop) : Prop := ∀ (A : Anc) (B H : Hp) (σ : L2.St), SW P w A B H σ s → ∀ Q : List V → Hp → Prop,
  (∀ vs B' H' as s', SW P w A B' H' σ s' → Mv A σ s B H s' B' H' → AgA P w A B' vs as → Po as s' → Q vs H') → ta σ H Q
/-! the plain ones: one value, nothing changed -/
abbrev ED (te : TE) (s : DS) (d : Dt) : Prop := EV P w te s fun d' s' => d' = d ∧ s' = s
abbrev EDN (te : TE) (s : DS) (ds : List Dt) : Prop := EVN P w te s fun d' s' => d' = ds ∧ s' = s
abbrev EDT (tt : TT) (s : DS) (b : Bool) : Prop := EVT P w tt s fun b' s' => b' = b ∧ s' = s
abbrev EDA (ta : TA) (s : DS) (as : List Ag) : Prop := EVA P w ta s fun as' s' => as' = as ∧ s' = s
/-- by values: an operator, a call -/
def RD (r : R2) (x y z : Dt) : Prop := ∀ (B H : Hp) (u v : V), Same B H → Sd P w B u x → Sd P w B v y → ∀ Q : VK, (∀ t B' H', Gw none B H B' H' → Sd P w B' t z → Q t H') → r u v H Q
def RU (r : V → Hp → VK → Prop) (x z : Dt) : Prop := ∀ (B H : Hp) (u : V), Same B H → Sd P w B u x → ∀ Q : VK, (∀ t B' H', Gw none B H B' H' → Sd P w B' t z → Q t H') → r u H Q
def RC (r : List V → Hp → VK → Prop) (xs : List Dt) (z : Dt) : Prop := ∀ (B H : Hp) (vs : List V), Same B H → SdA P w B vs xs → ∀ Q : VK, (∀ t B' H', Gw none B H B' H' → Sd P w B' t z → Q t H') → r vs H Q
end
section
variable {P : Program} {w : World} {K : PySem.W.Frag} {A : Anc} {B H B' H' : Hp} {σ : L2.St} {s s' s1 : DS} {ta tb te tc : TE} {t u : TT} {x y z d : Dt} {r : R2}
theorem EV.imp {Po Po' : Dt → DS → Prop} (h : EV P w te s Po) (i : ∀ d s', Po d s' → Po' d s') : EV P w te s Po' :=
  fun A B H σ S Q q => h A B H σ S Q fun v B' H' d s' S' M D p => q v B' H' d s' S' M D (i d s' p)
theorem EVN.imp {Po Po' : List Dt → DS → Prop} (h : EVN P w te s Po) (i : ∀ d s', Po d s' → Po' d s') : EVN P w te s Po' :=
  fun A B H σ S Q q => h A B H σ S Q fun v vs B' H' d s' S' M a1 a2 a3 a4 a5 p => q v vs B' H' d s' S' M a1 a2 a3 a4 a5 (i d s' p)
theorem EVT.imp {Po Po' : Bool → DS → Prop} (h : EVT P w t s Po) (i : ∀ d s', Po d s' → Po' d s') : EVT P w t s Po' :=
  fun A B H σ S Q q => h A B H σ S Q fun v B' H' s' S' M p => q v B' H' s' S' M (i v s' p)
theorem EVA.imp {ta : TA} {Po Po' : List Ag → DS → Prop} (h : EVA P w ta s Po) (i : ∀ d s', Po d s' → Po' d s') : EVA P w ta s Po' :=
  fun A B H σ S Q q => h A B H σ S Q fun v B' H' d s' S' M D p => q v B' H' d s' S' M D (i d s' p)
theorem ED.to {Po : Dt → DS → Prop} (h : ED P w te s d) (p : Po d s) : EV P w te s Po := h.imp fun _ _ ⟨e1, e2⟩ => by rw [e1, e2]; exact p
theorem EDN.to {ds : List Dt} {Po : List Dt → DS → Prop} (h : EDN P w te s ds) (p : Po ds s) : EVN P w te s Po := h.imp fun _ _ ⟨e1, e2⟩ => by rw [e1, e2]; exact p
theorem EDT.to {b : Bool} {Po : Bool → DS → Prop} (h : EDT P w t s b) (p : Po b s) : EVT P w t s Po := h.imp fun _ _ ⟨e1, e2⟩ => by rw [e1, e2]; exact p
theorem EDA.to {ta : TA} {as : List Ag} {Po : List Ag → DS → Prop} (h : EDA P w ta s as) (p : Po as s) : EVA P w ta s Po := h.imp fun _ _ ⟨e1, e2⟩ => by rw [e1, e2]; exact p
theorem ED.is (h : ED P w te s d) (e : d = z) : ED P w te s z := e ▸ h
theorem EDT.is {b c : Bool} (h : EDT P w t s b) (e : b = c) : EDT P w t s c := e ▸ h
/-! ### names, constants -/
theorem ev_var {i : Nat} {Po : Dt → DS → Prop} (h : s.ε[i]? = some (some (.val d))) (p : Po d s) : EV P w (tVar i) s Po := fun A B H σ S Q q => by
  obtain ⟨v, e, D⟩ := S.slot i _ h
  exact ⟨v, e, q v B H d s S .refl D p⟩
theorem ed_var {i : Nat} (h : s.ε[i]? = some (some (.val d))) : ED P w (tVar i) s d := ev_var h ⟨rfl, rfl⟩
theorem ev_c {v : V} {Po : Dt → DS → Prop} (h : ∀ B, Sd P w B v d) (p : Po d s) : EV P w (tC v) s Po := fun A B H σ S Q q => q v B H d s S .refl (h B) p
theorem ed_int {i : Int} : ED P w (tC (.int i)) s (.int i) := ev_c (fun _ => .int i) ⟨rfl, rfl⟩
theorem ed_bl {b : Bool} : ED P w (tC (.bl b)) s (.bl b) := ev_c (fun _ => .bl b) ⟨rfl, rfl⟩
theorem ed_non : ED P w (tC .non) s .non := ev_c (fun _ => .non) ⟨rfl, rfl⟩
theorem ed_str {x : Str} : ED P w (tC (.str x)) s (.str x) := ev_c (fun _ => .str x) ⟨rfl, rfl⟩
/-! ### operators, calls by values -/
theorem ev_op {Po : Dt → DS → Prop} (h : EV P w ta s fun x s1 => EV P w tb s1 fun y s2 => ∃ z, RD P w r x y z ∧ Po z s2) : EV P w (tOp r ta tb) s Po := fun A B H σ S Q q =>
  h A B H σ S _ fun v B1 H1 x s1 S1 M1 D1 h1 => h1 A B1 H1 σ S1 _ fun v2 B2 H2 y s2 S2 M2 D2 ⟨z, hr, p⟩ =>
    hr B2 H2 v v2 S2.bh (D1.mono M2.same) D2 Q fun t B3 H3 g D3 => q t B3 H3 z s2 (S2.grow g) ((M1.trans M2).trans (.grow g)) D3 p
theorem ed_op (ha : ED P w ta s x) (hb : ED P w tb s y) (hr : RD P w r x y z) : ED P w (tOp r ta tb) s z := ev_op (ha.to (hb.to ⟨z, hr, rfl, rfl⟩))
theorem ev_un {r : V → Hp → VK → Prop} {Po : Dt → DS → Prop} (h : EV P w ta s fun x s1 => ∃ z, RU P w r x z ∧ Po z s1) : EV P w (tUn r ta) s Po := fun A B H σ S Q q =>
  h A B H σ S _ fun v B1 H1 x s1 S1 M1 D1 ⟨z, hr, p⟩ => hr B1 H1 v S1.bh D1 Q fun t B3 H3 g D3 => q t B3 H3 z s1 (S1.grow g) (M1.trans (.grow g)) D3 p
theorem ed_un {r : V → Hp → VK → Prop} (ha : ED P w ta s x) (hr : RU P w r x z) : ED P w (tUn r ta) s z := ev_un (ha.to ⟨z, hr, rfl, rfl⟩)
/-! ### argument lists -/
theorem AgOk.mono {v : V} {a : Ag} (e : Same B B') (h : AgOk P w A B v a) : AgOk P w A B' v a := by
  cases a with
  | v d => exact Sd.mono e h
  | tin => exact h
theorem AgA.mono {vs : List V} {as : List Ag} (e : Same B B') (h : AgA P w A B vs as) : AgA P w A B' vs as := L2.Paired.mapP h fun _ _ q => AgOk.mono e q
theorem eva_nil {Po : List Ag → DS → Prop} (p : Po [] s) : EVA P w tNil s Po := fun A B H σ S Q q => q [] B H [] s S .refl .nil p
theorem eva_cons {tr : TA} {Po : List Ag → DS → Prop} (h : EV P w te s fun d s1 => EVA P w tr s1 fun as s2 => Po (.v d :: as) s2) : EVA P w (tCons te tr) s Po := fun A B H σ S Q q =>
  h A B H σ S _ fun v B1 H1 d s1 S1 M1 D1 h1 => h1 A B1 H1 σ S1 _ fun vs B2 H2 as s2 S2 M2 D2 p => q (v :: vs) B2 H2 (.v d :: as) s2 S2 (M1.trans M2) (.cons (Sd.mono M2.same D1) D2) p
theorem eva_tin {i : Nat} {tr : TA} {Po : List Ag → DS → Prop} (hi : s.ε[i]? = some (some .tin)) (h : EVA P w tr s fun as s2 => Po (.tin :: as) s2) : EVA P w (tCons (tVar i) tr) s Po := fun A B H σ S Q q => by
  obtain ⟨tt, e1, e2⟩ := S.slot i _ hi
  exact ⟨.ref tt, e2, h A B H σ S _ fun vs B2 H2 as s2 S2 M2 D2 p => q (.ref tt :: vs) B2 H2 (.tin :: as) s2 S2 M2 (.cons ⟨tt, e1, rfl⟩ D2) p⟩
theorem eda_nil : EDA P w tNil s [] := eva_nil ⟨rfl, rfl⟩
theorem eda_cons {tr : TA} {as : List Ag} (h : ED P w te s d) (hr : EDA P w tr s as) : EDA P w (tCons te tr) s (.v d :: as) := eva_cons (h.to (hr.to ⟨rfl, rfl⟩))
theorem eda_tin {i : Nat} {tr : TA} {as : List Ag} (hi : s.ε[i]? = some (some .tin)) (hr : EDA P w tr s as) : EDA P w (tCons (tVar i) tr) s (.tin :: as) := eva_tin hi (hr.to ⟨rfl, rfl⟩)
theorem agA_sd {vs : List V} : ∀ {ds : List Dt}, AgA P w A B vs (ds.map Ag.v) → SdA P w B vs ds := by
  intro ds
  induction ds generalizing vs with
  | nil => intro h; cases h; exact .nil
  | cons d ds ih =>
    intro h
    cases h with
    | cons h1 h2 => exact .cons h1 (ih h2)
theorem ev_cb {ta : TA} {r : List V → Hp → VK → Prop} {Po : Dt → DS → Prop} (h : EVA P w ta s fun as s1 => ∃ ds z, as = ds.map Ag.v ∧ RC P w r ds z ∧ Po z s1) : EV P w (tCB r ta) s Po := fun A B H σ S Q q =>
  h A B H σ S _ fun vs B1 H1 as s1 S1 M1 D1 ⟨ds, z, e, hr, p⟩ => hr B1 H1 vs S1.bh (agA_sd (by rw [← e]; exact D1)) Q fun t B3 H3 g D3 => q t B3 H3 z s1 (S1.grow g) (M1.trans (.grow g)) D3 p
theorem ed_cb1 {r : List V → Hp → VK → Prop} (ha : ED P w ta s x) (hr : RC P w r [x] z) : ED P w (tCB r (tCons ta tNil)) s z := ev_cb (eva_cons (ha.to (eva_nil ⟨[x], z, rfl, hr, rfl, rfl⟩)))
theorem ed_cb2 {r : List V → Hp → VK → Prop} (ha : ED P w ta s x) (hb : ED P w tb s y) (hr : RC P w r [x, y] z) : ED P w (tCB r (tCons ta (tCons tb tNil))) s z :=
  ev_cb (eva_cons (ha.to (eva_cons (hb.to (eva_nil ⟨[x, y], z, rfl, hr, rfl, rfl⟩)))))
/-! ### tests and truth -/
theorem evt_test {Po : Bool → DS → Prop} (h : EV P w te s fun d s1 => ∃ b, d = .bl b ∧ Po b s1) : EVT P w (tTest te) s Po := fun A B H σ S Q q =>
  h A B H σ S _ fun v B1 H1 d s1 S1 M1 D1 ⟨b, e, p⟩ => by
    subst e
    cases D1
    exact ⟨b, rfl, q b B1 H1 s1 S1 M1 p⟩
theorem evt_B {Po : Bool → DS → Prop} (h : EV P w te s fun d s1 => ∃ b, d = .bl b ∧ Po b s1) : EVT P w (tB te) s Po := fun A B H σ S Q q =>
  h A B H σ S _ fun v B1 H1 d s1 S1 M1 D1 ⟨b, e, p⟩ => by
    subst e
    cases D1
    exact ⟨b, rfl, q b B1 H1 s1 S1 M1 p⟩
theorem edt_test {b : Bool} (h : ED P w te s (.bl b)) : EDT P w (tTest te) s b := evt_test (h.to ⟨b, rfl, rfl, rfl⟩)
theorem edt_B {b : Bool} (h : ED P w te s (.bl b)) : EDT P w (tB te) s b := evt_B (h.to ⟨b, rfl, rfl, rfl⟩)
theorem evt_and {Po : Bool → DS → Prop} (h : EVT P w t s fun b s1 => if b = true then EVT P w u s1 Po else Po false s1) : EVT P w (tAnd t u) s Po := fun A B H σ S Q q =>
  h A B H σ S _ fun b B1 H1 s1 S1 M1 p => by
    cases b with
    | true => exact p A B1 H1 σ S1 Q fun b B2 H2 s2 S2 M2 p2 => q b B2 H2 s2 S2 (M1.trans M2) p2
    | false => exact q false B1 H1 s1 S1 M1 p
theorem evt_or {Po : Bool → DS → Prop} (h : EVT P w t s fun b s1 => if b = true then Po true s1 else EVT P w u s1 Po) : EVT P w (tOr t u) s Po := fun A B H σ S Q q =>
  h A B H σ S _ fun b B1 H1 s1 S1 M1 p => by
    cases b with
    | false => exact p A B1 H1 σ S1 Q fun b B2 H2 s2 S2 M2 p2 => q b B2 H2 s2 S2 (M1.trans M2) p2
    | true => exact q true B1 H1 s1 S1 M1 p
theorem evt_not {Po : Bool → DS → Prop} (h : EVT P w t s fun b s1 => Po (!b) s1) : EVT P w (tNot t) s Po := fun A B H σ S Q q =>
  h A B H σ S _ fun b B1 H1 s1 S1 M1 p => q (!b) B1 H1 s1 S1 M1 p
theorem edt_and {a b : Bool} (h1 : EDT P w t s a) (h2 : a = true → EDT P w u s b) : EDT P w (tAnd t u) s (a && b) := evt_and (h1.to (by
  cases a with
  | true => rw [if_pos rfl]; exact (h2 rfl).to ⟨rfl, rfl⟩
  | false => rw [if_neg (by decide)]; exact ⟨rfl, rfl⟩))
theorem edt_or {a b : Bool} (h1 : EDT P w t s a) (h2 : a = false → EDT P w u s b) : EDT P w (tOr t u) s (a || b) := evt_or (h1.to (by
  cases a with
  | true => rw [if_pos rfl]; exact ⟨rfl, rfl⟩
  | false => rw [if_neg (by decide)]; exact (h2 rfl).to ⟨rfl, rfl⟩))
theorem edt_not {a : Bool} (h : EDT P w t s a) : EDT P w (tNot t) s (!a) := evt_not (h.to ⟨rfl, rfl⟩)
theorem ev_andV {Po : Dt → DS → Prop} (h : EV P w ta s fun d s1 => ∃ b, d = .bl b ∧ if b = true then EV P w tb s1 Po else Po (.bl false) s1) : EV P w (tAndV ta tb) s Po := fun A B H σ S Q q =>
  h A B H σ S _ fun v B1 H1 d s1 S1 M1 D1 ⟨b, e, p⟩ => by
    subst e
    cases D1
    refine ⟨b, rfl, ?_⟩
    cases b with
    | true => rw [if_pos rfl] at p ⊢; exact p A B1 H1 σ S1 Q fun v B2 H2 d s2 S2 M2 D2 p2 => q v B2 H2 d s2 S2 (M1.trans M2) D2 p2
    | false => rw [if_neg (by decide)] at p ⊢; exact q _ B1 H1 _ s1 S1 M1 (.bl false) p
theorem ed_andV {a b : Bool} (h1 : ED P w ta s (.bl a)) (h2 : a = true → ED P w tb s (.bl b)) : ED P w (tAndV ta tb) s (.bl (a && b)) := ev_andV (h1.to ⟨a, rfl, by
  cases a with
  | true => rw [if_pos rfl]; exact (h2 rfl).to ⟨rfl, rfl⟩
  | false => rw [if_neg (by decide)]; exact ⟨rfl, rfl⟩⟩)
theorem ev_notV {Po : Dt → DS → Prop} (h : EV P w ta s fun d s1 => ∃ b, d = .bl b ∧ Po (.bl (!b)) s1) : EV P w (tNotV ta) s Po := fun A B H σ S Q q =>
  h A B H σ S _ fun v B1 H1 d s1 S1 M1 D1 ⟨b, e, p⟩ => by
    subst e
    cases D1
    exact ⟨b, rfl, q _ B1 H1 _ s1 S1 M1 (.bl (!b)) p⟩
theorem ed_notV {a : Bool} (h : ED P w ta s (.bl a)) : ED P w (tNotV ta) s (.bl (!a)) := ev_notV (h.to ⟨a, rfl, rfl, rfl⟩)
theorem ev_orV {Po : Dt → DS → Prop} (h : EV P w ta s fun d s1 => ∃ b, d = .bl b ∧ if b = true then Po (.bl true) s1 else EV P w tb s1 Po) : EV P w (tOrV ta tb) s Po := fun A B H σ S Q q =>
  h A B H σ S _ fun v B1 H1 d s1 S1 M1 D1 ⟨b, e, p⟩ => by
    subst e
    cases D1
    refine ⟨b, rfl, ?_⟩
    cases b with
    | false => rw [if_neg (by decide)] at p ⊢; exact p A B1 H1 σ S1 Q fun v B2 H2 d s2 S2 M2 D2 p2 => q v B2 H2 d s2 S2 (M1.trans M2) D2 p2
    | true => rw [if_pos rfl] at p ⊢; exact q _ B1 H1 _ s1 S1 M1 (.bl true) p
theorem ed_orV {a b : Bool} (h1 : ED P w ta s (.bl a)) (h2 : a = false → ED P w tb s (.bl b)) : ED P w (tOrV ta tb) s (.bl (a || b)) := ev_orV (h1.to ⟨a, rfl, by
  cases a with
  | true => rw [if_pos rfl]; exact ⟨rfl, rfl⟩
  | false => rw [if_neg (by decide)]; exact (h2 rfl).to ⟨rfl, rfl⟩⟩)
theorem ev_if {Po : Dt → DS → Prop} (h : EVT P w t s fun b s1 => if b = true then EV P w ta s1 Po else EV P w tb s1 Po) : EV P w (tIf t ta tb) s Po := fun A B H σ S Q q =>
  h A B H σ S _ fun b B1 H1 s1 S1 M1 p => by
    cases b with
    | true => rw [if_pos rfl] at p ⊢; exact p A B1 H1 σ S1 Q fun v B2 H2 d s2 S2 M2 D2 p2 => q v B2 H2 d s2 S2 (M1.trans M2) D2 p2
    | false => rw [if_neg (by decide)] at p ⊢; exact p A B1 H1 σ S1 Q fun v B2 H2 d s2 S2 M2 D2 p2 => q v B2 H2 d s2 S2 (M1.trans M2) D2 p2
theorem ed_if {b : Bool} (h : EDT P w t s b) (h1 : b = true → ED P w ta s d) (h2 : b = false → ED P w tb s d) : ED P w (tIf t ta tb) s d := ev_if (h.to (by
  cases b with
  | true => rw [if_pos rfl]; exact (h1 rfl).to ⟨rfl, rfl⟩
  | false => rw [if_neg (by decide)]; exact (h2 rfl).to ⟨rfl, rfl⟩))
/-! ### displays -/
theorem ev_tup {ta : TA} {Po : Dt → DS → Prop} (h : EVA P w ta s fun as s1 => ∃ ds, as = ds.map Ag.v ∧ ds.length ≤ 1000 ∧ Po (.tup ds) s1) : EV P w (tTup ta) s Po := fun A B H σ S Q q =>
  h A B H σ S _ fun vs B1 H1 as s1 S1 M1 D1 ⟨ds, e, hz, p⟩ => by
    have D : SdA P w B1 vs ds := agA_sd (by rw [← e]; exact D1)
    refine ⟨by rw [D.length, sizeLine_eq]; omega, fun a ha => ?_⟩
    have g : Gw none B1 H1 (upd B1 a (.tup vs)) (upd H1 a (.tup vs)) := Gw.new S1.bh ha
    exact q (.ref a) _ _ (.tup ds) s1 (S1.grow g) (M1.trans (.grow g)) (.tup upd_same (D.mono g.1)) p
theorem ed_tup0 : ED P w (tTup tNil) s (.tup []) := ev_tup (eva_nil ⟨[], rfl, by decide, rfl, rfl⟩)
theorem ed_tup1 (h : ED P w ta s x) : ED P w (tTup (tCons ta tNil)) s (.tup [x]) := ev_tup (eva_cons (h.to (eva_nil ⟨[x], rfl, (by show 1 ≤ 1000; decide), rfl, rfl⟩)))
theorem ed_tup2 (h : ED P w ta s x) (h2 : ED P w tb s y) : ED P w (tTup (tCons ta (tCons tb tNil))) s (.tup [x, y]) :=
  ev_tup (eva_cons (h.to (eva_cons (h2.to (eva_nil ⟨[x, y], rfl, (by show 2 ≤ 1000; decide), rfl, rfl⟩)))))
theorem ed_tup3 (h : ED P w ta s x) (h2 : ED P w tb s y) (h3 : ED P w tc s z) : ED P w (tTup (tCons ta (tCons tb (tCons tc tNil)))) s (.tup [x, y, z]) :=
  ev_tup (eva_cons (h.to (eva_cons (h2.to (eva_cons (h3.to (eva_nil ⟨[x, y, z], rfl, (by show 3 ≤ 1000; decide), rfl, rfl⟩)))))))
theorem ed_tupN {ta : TA} {ds : List Dt} (h : EDA P w ta s (ds.map Ag.v)) (hz : ds.length ≤ 1000) : ED P w (tTup ta) s (.tup ds) := ev_tup (h.to ⟨ds, rfl, hz, rfl, rfl⟩)
/-- a new list, from then on a value -/
theorem SW.expose (S : SW P w A B H σ s) {p : Addr} {vs : List V} (hp : Hid A B p) (h : H p = some (.lst vs)) (no : ¬ Own s.ε σ p) : SW P w A (upd B p (.lst vs)) H σ s where
  gw := by
    refine ⟨fun b o e => ?_, fun b o e => ?_, S.gw.2.2.1, fun b n => ⟨(S.gw.2.2.2 b n).1, fun e => ?_⟩⟩
    · have e' := S.gw.1 b o e
      rw [upd_ne (ne_of_none e' hp.2.1)]
      exact e'
    · by_cases q : b = p
      · rw [q, upd_same] at e
        cases e
        rw [q]
        exact h
      · rw [upd_ne q] at e
        exact S.bh _ _ e
    · rw [upd_ne (fun q => n (by rw [q]; exact hp.1))]
      exact (S.gw.2.2.2 b n).2 e
  len := S.len
  tin := S.tin
  tinB := fun tt e => ⟨by rw [upd_ne (fun q => hp.2.2 (by rw [e, q]))]; exact (S.tinB tt e).1, (S.tinB tt e).2⟩
  slot := fun i sl e => by
    have sm : Same B (upd B p (.lst vs)) := fun b o z => by rw [upd_ne (ne_of_none z hp.2.1)]; exact z
    have q := S.slot i sl e
    cases sl with
    | val d =>
      obtain ⟨v, e, h⟩ := q
      exact ⟨v, e, h.mono sm⟩
    | own ds =>
      obtain ⟨a, us, e1, ⟨h1, h2, h3⟩, h4, h5⟩ := q
      have ne : a ≠ p := fun z => no ⟨i, by rw [← z]; exact e1, .inl ⟨ds, e⟩⟩
      exact ⟨a, us, e1, ⟨h1, by rw [upd_ne ne]; exact h2, h3⟩, h4, h5.mono sm⟩
    | odc kvs =>
      obtain ⟨a, ob, us, e1, ⟨h1, h2, h3⟩, h4, h5, h6, h7, h8⟩ := q
      have ne : a ≠ p := fun z => no ⟨i, by rw [← z]; exact e1, .inr ⟨kvs, e⟩⟩
      exact ⟨a, ob, us, e1, ⟨h1, by rw [upd_ne ne]; exact h2, h3⟩, h4, h5, h6, h7.mono sm, h8.mono sm⟩
    | tin => exact q
    | scr K ns => exact q
  apart := S.apart
theorem Mw.expose {O O' : Addr → Prop} {B0 H0 : Hp} (M : Mw A O B0 H0 O' B H) {p : Addr} {vs : List V} (hp : Hid A B p) (h0 : H0 p = none) : Mw A O B0 H0 O' (upd B p (.lst vs)) H where
  same := fun b o e => by
    have e' := M.same b o e
    rw [upd_ne (ne_of_none e' hp.2.1)]
    exact e'
  fx := M.fx
  sub := M.sub
  there := M.there
  hid := fun b n e no => by
    rw [upd_ne (fun q => n (by rw [q]; exact h0))]
    exact M.hid b n e no
theorem ev_of_new {Po : Dt → DS → Prop} (h : EVN P w te s fun ds s1 => Po (.lst ds) s1) : EV P w te s Po := fun A B H σ S Q q =>
  h A B H σ S _ fun p vs B1 H1 ds s1 S1 M1 hp h0 hl D no po => by
    have sm : Same B1 (upd B1 p (.lst vs)) := fun b o z => by rw [upd_ne (ne_of_none z hp.2.1)]; exact z
    exact q (.ref p) _ H1 (.lst ds) s1 (S1.expose hp hl no) (M1.expose hp h0) (.lst upd_same (D.mono sm)) po
theorem ed_of_new {ds : List Dt} (h : EDN P w te s ds) : ED P w te s (.lst ds) := ev_of_new (h.imp fun _ _ ⟨e1, e2⟩ => ⟨by rw [e1], e2⟩)
/-- laying a new list -/
theorem SW.lay (S : SW P w A B H σ s) {p : Addr} (vs : List V) (hp : H p = none) :
    SW P w A B (upd H p (.lst vs)) σ s ∧ Mv A σ s B H s B (upd H p (.lst vs)) ∧ Hid A B p ∧ ¬ Own s.ε σ p := by
  have hb : B p = none := by
    cases z : B p with
    | none => rfl
    | some u => rw [S.bh _ _ z] at hp; cases hp
  have h0 : A.H0 p = none := by
    cases z : A.H0 p with
    | none => rfl
    | some u => exact absurd hp (S.gw.2.2.2 p (by rw [z]; exact fun q => nomatch q)).1
  have ht : A.t ≠ some p := fun e => by
    obtain ⟨a, b, c, h, _⟩ := S.tin p e
    rw [h] at hp
    cases hp
  have g : Gw none B H B (upd H p (.lst vs)) := ⟨Same.refl _, fun b o e => by rw [upd_ne (ne_of_none e hb)]; exact S.bh _ _ e, fun b o _ e => by rw [upd_ne (ne_of_none e hp)]; exact e,
    fun b n => ⟨by rw [upd_ne (fun q => n (by rw [q]; exact hp))]; exact n, fun e => e⟩⟩
  refine ⟨S.grow g, .grow g, ⟨h0, hb, ht⟩, fun ⟨j, e1, e2⟩ => ?_⟩
  rcases e2 with ⟨ds, e⟩ | ⟨kvs, e⟩
  · obtain ⟨a, us, e3, _, h4, _⟩ := S.slot j _ e
    rw [e1] at e3
    cases e3
    rw [h4] at hp
    cases hp
  · obtain ⟨a, ob, us, e3, _, h4, _⟩ := S.slot j _ e
    rw [e1] at e3
    cases e3
    rw [h4] at hp
    cases hp
theorem evn_lst {ta : TA} {Po : List Dt → DS → Prop} (h : EVA P w ta s fun as s1 => ∃ ds, as = ds.map Ag.v ∧ ds.length ≤ 1000 ∧ Po ds s1) : EVN P w (tLst ta) s Po := fun A B H σ S Q q =>
  h A B H σ S _ fun vs B1 H1 as s1 S1 M1 D1 ⟨ds, e, hz, p⟩ => by
    have D : SdA P w B1 vs ds := agA_sd (by rw [← e]; exact D1)
    refine ⟨by rw [D.length, sizeLine_eq]; omega, fun a ha => ?_⟩
    obtain ⟨S2, M2, hd, no⟩ := S1.lay vs ha
    have h0 : H a = none := by
      cases z : H a with
      | none => rfl
      | some u => exact absurd ha (M1.there a (by rw [z]; exact fun q => nomatch q))
    exact q a vs B1 _ ds s1 S2 (M1.trans M2) hd h0 upd_same D no p
theorem edn_lst {ta : TA} {ds : List Dt} (h : EDA P w ta s (ds.map Ag.v)) (hz : ds.length ≤ 1000) : EDN P w (tLst ta) s ds := evn_lst (h.to ⟨ds, rfl, hz, rfl, rfl⟩)
end
end DK

/-! ## G3 -/
namespace DK
open PySem PySem.Spec PyProof.Rows L2
/-! # Operators and calls by data -/
section
variable {P : Program} {w : World} {K : PySem.W.Frag}
theorem rd_I0 {g : Int → Int → V} {i j : Int} {z : Dt} (h : ∀ B, Sd P w B (g i j) z) : RD P w (rI0 g) (.int i) (.int j) z := fun B H u v e h1 h2 Q q => by
  cases h1
  cases h2
  exact ⟨i, j, rfl, rfl, q _ B H (.refl e) (h B)⟩
theorem rd_I {C : Int → Int → Prop} {g : Int → Int → V} {i j : Int} {z : Dt} (hc : C i j) (h : ∀ B, Sd P w B (g i j) z) : RD P w (rI C g) (.int i) (.int j) z := fun B H u v e h1 h2 Q q => by
  cases h1
  cases h2
  exact ⟨i, j, rfl, rfl, hc, q _ B H (.refl e) (h B)⟩
theorem rd_add {i j : Int} : RD P w (rI0 fun i j => .int (i + j)) (.int i) (.int j) (.int (i + j)) := rd_I0 fun _ => .int _
theorem rd_sub {i j : Int} : RD P w (rI0 fun i j => .int (i - j)) (.int i) (.int j) (.int (i - j)) := rd_I0 fun _ => .int _
theorem rd_mul {i j : Int} (h : CMul i j) : RD P w (rI CMul fun i j => .int (i * j)) (.int i) (.int j) (.int (i * j)) := rd_I h fun _ => .int _
theorem rd_mod {i j : Int} (h : 0 < j) : RD P w (rI (fun _ j => 0 < j) fun i j => .int (i % j)) (.int i) (.int j) (.int (i % j)) := rd_I h fun _ => .int _
theorem rd_fdiv {i j : Int} (h : CDiv i j) : RD P w (rI CDiv fun i j => .int (i / j)) (.int i) (.int j) (.int (i / j)) := rd_I h fun _ => .int _
theorem rd_pow {i j : Int} (h : CPow i j) : RD P w (rI CPow fun i j => .int (i ^ j.toNat)) (.int i) (.int j) (.int (i ^ j.toNat)) := rd_I h fun _ => .int _
theorem rd_lt {i j : Int} : RD P w (rI0 fun i j => .bl (decide (i < j))) (.int i) (.int j) (.bl (decide (i < j))) := rd_I0 fun _ => .bl _
theorem rd_le {i j : Int} : RD P w (rI0 fun i j => .bl (decide (i ≤ j))) (.int i) (.int j) (.bl (decide (i ≤ j))) := rd_I0 fun _ => .bl _
theorem rd_gt {i j : Int} : RD P w (rI0 fun i j => .bl (decide (j < i))) (.int i) (.int j) (.bl (decide (j < i))) := rd_I0 fun _ => .bl _
theorem rd_ge {i j : Int} : RD P w (rI0 fun i j => .bl (decide (j ≤ i))) (.int i) (.int j) (.bl (decide (j ≤ i))) := rd_I0 fun _ => .bl _
theorem decide_int {i j : Int} : decide (V.int i = V.int j) = decide (i = j) := by
  by_cases h : i = j
  · rw [h, decide_eq_true rfl, decide_eq_true rfl]
  · rw [decide_eq_false h, decide_eq_false (fun e => h (by injection e))]
theorem rd_eqI {i j : Int} : RD P w rEq (.int i) (.int j) (.bl (decide (i = j))) := fun B H u v e h1 h2 Q q => by
  cases h1
  cases h2
  exact ⟨rfl, q _ B H (.refl e) (by rw [decide_int]; exact .bl _)⟩
theorem rd_neI {i j : Int} : RD P w rNe (.int i) (.int j) (.bl (!decide (i = j))) := fun B H u v e h1 h2 Q q => by
  cases h1
  cases h2
  exact ⟨rfl, q _ B H (.refl e) (by rw [decide_int]; exact .bl _)⟩
/-- None, bools, ints, texts -/
def Dt.sc : Dt → Bool
  | .non => true
  | .bl _ => true
  | .int _ => true
  | .str _ => true
  | _ => false
theorem rd_eqS {d : Dt} (hs : d.sc = true) : RD P w rEq d d (.bl true) := fun B H u v e h1 h2 Q q => by
  cases h1 <;> first | (cases hs; done) | (cases h2; exact ⟨rfl, q _ B H (.refl e) (by rw [decide_eq_true rfl]; exact .bl _)⟩)
theorem rd_eqB {a b : Bool} : RD P w rEq (.bl a) (.bl b) (.bl (a == b)) := fun B H u v e h1 h2 Q q => by
  cases h1
  cases h2
  exact ⟨rfl, q _ B H (.refl e) (by rw [dec_bl]; exact .bl _)⟩
theorem rd_neB {a b : Bool} : RD P w rNe (.bl a) (.bl b) (.bl (!(a == b))) := fun B H u v e h1 h2 Q q => by
  cases h1
  cases h2
  exact ⟨rfl, q _ B H (.refl e) (by rw [dec_bl]; exact .bl _)⟩
def Dt.isN : Dt → Bool
  | .non => true
  | _ => false
theorem isN_v {B : Hp} {u : V} {d : Dt} (h : Sd P w B u d) : decide (u = .non) = d.isN := by
  cases h <;> rfl
theorem rd_isN {d : Dt} : RD P w (fun x y H Q => y = .non ∧ Q (.bl (decide (x = .non))) H) d .non (.bl d.isN) := fun B H u v e h1 h2 Q q => by
  cases h2
  exact ⟨rfl, q _ B H (.refl e) (by rw [isN_v h1]; exact .bl _)⟩
theorem rd_notN {d : Dt} : RD P w (fun x y H Q => y = .non ∧ Q (.bl (!decide (x = .non))) H) d .non (.bl (!d.isN)) := fun B H u v e h1 h2 Q q => by
  cases h2
  exact ⟨rfl, q _ B H (.refl e) (by rw [isN_v h1]; exact .bl _)⟩
/-! ### == of rows, of lists of ints, of tuples of pairs -/
def ipy (ns : List Int) : List PyData := ns.map PyData.int
def ppy (f : Fg) : List PyData := f.map fun q => PyData.tuple [.int q.1, .int q.2]
theorem eqv_ints : ∀ a b : List Int, PyData.eqvAll (ipy a) (ipy b) = decide (a = b)
  | [], [] => by simp [ipy, PyData.eqvAll]
  | [], _ :: _ => by simp [ipy, PyData.eqvAll]
  | _ :: _, [] => by simp [ipy, PyData.eqvAll]
  | x :: a, y :: b => by
    have ih := eqv_ints a b
    unfold ipy at ih ⊢
    rw [List.map_cons, List.map_cons]
    unfold PyData.eqvAll
    rw [ih]
    by_cases h : x = y
    · by_cases h2 : a = b
      · simp [PyData.eqv, h, h2]
      · simp [PyData.eqv, h, h2]
    · simp [PyData.eqv, h]
theorem lay_ints : ∀ a : List Int, PyData.canLayAll0 (ipy a) = true
  | [] => rfl
  | x :: a => by
    show (PyData.canLay0 (.int x) && PyData.canLayAll0 (ipy a)) = true
    rw [lay_ints a]
    rfl
theorem depth_ints : ∀ a : List Int, PyData.depthAll (ipy a) ≤ 1 := by
  intro a
  induction a with
  | nil => simp [ipy, PyData.depthAll]
  | cons x a ih =>
    unfold ipy at ih ⊢
    rw [List.map_cons]
    simp only [PyData.depthAll, PyData.depth]
    omega
theorem eqv_pairs0 : ∀ f : Fg, PyData.eqvAll (ppy f) [] = decide (f = [])
  | [] => by simp [ppy, PyData.eqvAll]
  | _ :: _ => by simp [ppy, PyData.eqvAll]
theorem lay_pairs : ∀ f : Fg, PyData.canLayAll0 (ppy f) = true
  | [] => rfl
  | x :: a => by
    show (PyData.canLay0 (.tuple [.int x.1, .int x.2]) && PyData.canLayAll0 (ppy a)) = true
    rw [lay_pairs a]
    rfl
theorem depth_pairs : ∀ a : Fg, PyData.depthAll (ppy a) ≤ 2 := by
  intro a
  induction a with
  | nil => simp [ppy, PyData.depthAll]
  | cons x a ih =>
    unfold ppy at ih ⊢
    rw [List.map_cons]
    simp only [PyData.depthAll, PyData.depth]
    omega
theorem shaped_of {d : PyData} (h1 : d.canLay0 = true) (h2 : d.depth ≤ 64) : SeqAt.shaped d = true := by
  unfold SeqAt.shaped
  rw [h1, decide_eq_true h2]
  rfl
theorem shaped_row (r : List Int) : SeqAt.shaped (.tuple (ipy r)) = true := shaped_of (lay_ints r) (by
  show PyData.depthAll (ipy r) + 1 ≤ 64
  have := depth_ints r
  omega)
theorem shaped_il (r : List Int) : SeqAt.shaped (.list (ipy r)) = true := shaped_of (lay_ints r) (by
  show PyData.depthAll (ipy r) + 1 ≤ 64
  have := depth_ints r
  omega)
theorem shaped_fg (r : Fg) : SeqAt.shaped (.tuple (ppy r)) = true := shaped_of (lay_pairs r) (by
  show PyData.depthAll (ppy r) + 1 ≤ 64
  have := depth_pairs r
  omega)
theorem dpA_ints {H : Hp} : ∀ r : List Int, DpAll K H (r.map V.int) (ipy r)
  | [] => .nil
  | x :: r => .cons (.int x) (dpA_ints r)
theorem dp_row {B H : Hp} {v : V} {r : List Int} (e : Same B H) (h : Sd P w B v (rowD r)) : Dp K H v (.tuple (ipy r)) := by
  obtain ⟨a, rfl, h1⟩ := sd_row h
  exact .tup (SqT.of (e _ _ h1)) (dpA_ints r)
theorem dp_il {B H : Hp} {v : V} {r : List Int} (e : Same B H) (h : Sd P w B v (.lst (r.map Dt.int))) : Dp K H v (.list (ipy r)) := by
  cases h with
  | lst h1 h2 =>
    rw [ints_of_sdA h2] at h1
    exact .lst (SqL.of (e _ _ h1)) (dpA_ints r)
theorem dp_fg {B H : Hp} {v : V} {f : Fg} (e : Same B H) (h : Sd P w B v (fgD f)) : Dp K H v (.tuple (ppy f)) := by
  obtain ⟨a, vs, rfl, h1, r⟩ := sd_fg h
  refine .tup (SqT.of (e _ _ h1)) ?_
  clear h h1
  induction r with
  | nil => exact .nil
  | cons q r ih =>
    obtain ⟨b, e1, e2⟩ := q
    subst e1
    exact .cons (.tup (SqT.of (e _ _ e2)) (.cons (.int _) (.cons (.int _) .nil))) ih
theorem rd_eqRow {a b : List Int} : RD P w (rEqD K) (rowD a) (rowD b) (.bl (decide (a = b))) := fun B H u v e h1 h2 Q q =>
  ⟨_, _, dp_row e h1, dp_row e h2, shaped_row a, shaped_row b, q _ B H (.refl e) (by
    rw [show PyData.eqv (.tuple (ipy a)) (.tuple (ipy b)) = PyData.eqvAll (ipy a) (ipy b) by simp [PyData.eqv], eqv_ints]
    exact .bl _)⟩
theorem rd_neRow {a b : List Int} : RD P w (rNeD K) (rowD a) (rowD b) (.bl (!decide (a = b))) := fun B H u v e h1 h2 Q q =>
  ⟨_, _, dp_row e h1, dp_row e h2, shaped_row a, shaped_row b, q _ B H (.refl e) (by
    rw [show PyData.eqv (.tuple (ipy a)) (.tuple (ipy b)) = PyData.eqvAll (ipy a) (ipy b) by simp [PyData.eqv], eqv_ints]
    exact .bl _)⟩
theorem rd_eqIl {a b : List Int} : RD P w (rEqD K) (.lst (a.map Dt.int)) (.lst (b.map Dt.int)) (.bl (decide (a = b))) := fun B H u v e h1 h2 Q q =>
  ⟨_, _, dp_il e h1, dp_il e h2, shaped_il a, shaped_il b, q _ B H (.refl e) (by
    rw [show PyData.eqv (.list (ipy a)) (.list (ipy b)) = PyData.eqvAll (ipy a) (ipy b) by simp [PyData.eqv], eqv_ints]
    exact .bl _)⟩
theorem rd_neIl {a b : List Int} : RD P w (rNeD K) (.lst (a.map Dt.int)) (.lst (b.map Dt.int)) (.bl (!decide (a = b))) := fun B H u v e h1 h2 Q q =>
  ⟨_, _, dp_il e h1, dp_il e h2, shaped_il a, shaped_il b, q _ B H (.refl e) (by
    rw [show PyData.eqv (.list (ipy a)) (.list (ipy b)) = PyData.eqvAll (ipy a) (ipy b) by simp [PyData.eqv], eqv_ints]
    exact .bl _)⟩
theorem rd_eqFg0 {f : Fg} : RD P w (rEqD K) (fgD f) (.tup []) (.bl (decide (f = []))) := fun B H u v e h1 h2 Q q =>
  ⟨_, _, dp_fg e h1, dp_row (r := []) e h2, shaped_fg f, shaped_row [], q _ B H (.refl e) (by
    rw [show PyData.eqv (.tuple (ppy f)) (.tuple (ipy [])) = PyData.eqvAll (ppy f) [] by simp [PyData.eqv, ipy], eqv_pairs0]
    exact .bl _)⟩
/-! ### tuples and lists -/
theorem sd_seq {B : Hp} {v : V} {ds : List Dt} (h : Sd P w B v (.tup ds)) : ∃ a vs, v = .ref a ∧ B a = some (.tup vs) ∧ SdA P w B vs ds := by
  cases h with
  | tup h1 h2 => exact ⟨_, _, rfl, h1, h2⟩
theorem sd_lst {B : Hp} {v : V} {ds : List Dt} (h : Sd P w B v (.lst ds)) : ∃ a vs, v = .ref a ∧ B a = some (.lst vs) ∧ SdA P w B vs ds := by
  cases h with
  | lst h1 h2 => exact ⟨_, _, rfl, h1, h2⟩
theorem gw_new {B H : Hp} {p : Addr} {o : HO} (e : Same B H) (h : H p = none) : Gw none B H (upd B p o) (upd H p o) := Gw.new e h
theorem sd_newT {B H : Hp} {p : Addr} {vs : List V} {ds : List Dt} (e : Same B H) (h : H p = none) (r : SdA P w B vs ds) : Sd P w (upd B p (.tup vs)) (.ref p) (.tup ds) :=
  .tup upd_same (r.mono (gw_new (o := .tup vs) e h).1)
theorem sd_newL {B H : Hp} {p : Addr} {vs : List V} {ds : List Dt} (e : Same B H) (h : H p = none) (r : SdA P w B vs ds) : Sd P w (upd B p (.lst vs)) (.ref p) (.lst ds) :=
  .lst upd_same (r.mono (gw_new (o := .lst vs) e h).1)
theorem sdA_rep {B : Hp} {v : V} {d : Dt} (h : Sd P w B v d) : ∀ n : Nat, SdA P w B (List.replicate n [v]).flatten (List.replicate n d)
  | 0 => .nil
  | n + 1 => .cons h (sdA_rep h n)
theorem rd_rep {d : Dt} {k : Int} (h0 : 0 ≤ k) (h1 : k ≤ 1000) : RD P w (rRepA K) (.tup [d]) (.int k) (.tup (List.replicate k.toNat d)) := fun B H u v e g1 g2 Q q => by
  obtain ⟨a, vs, rfl, ha, r⟩ := sd_seq g1
  cases g2
  cases r with
  | cons r1 r2 =>
    cases r2
    refine ⟨a, k, _, rfl, rfl, SqT.of (e _ _ ha), (by simp), h0, h1, (by show 1 ≤ 1000; decide), fun z => ?_, fun _ p hp => ?_⟩
    · subst z
      exact q _ B H (.refl e) g1
    · exact q _ _ _ (gw_new e hp) (sd_newT e hp (sdA_rep r1 _))
theorem rd_repL {d : Dt} {k : Int} (h0 : 0 ≤ k) (h1 : k ≤ 1000) : RD P w rRep (.lst [d]) (.int k) (.lst (List.replicate k.toNat d)) := fun B H u v e g1 g2 Q q => by
  obtain ⟨a, vs, rfl, ha, r⟩ := sd_lst g1
  cases g2
  cases r with
  | cons r1 r2 =>
    cases r2
    refine ⟨a, k, _, rfl, rfl, e _ _ ha, (by omega), (by omega), ?_, fun p hp => ?_⟩
    · rw [sizeLine_eq]
      show 1 * k.toNat ≤ 16777216
      omega
    · exact q _ _ _ (gw_new e hp) (sd_newL e hp (sdA_rep r1 _))
theorem rd_cat {xs ys : List Dt} (hz : xs.length + ys.length ≤ 100000) : RD P w (rCatA K) (.tup xs) (.tup ys) (.tup (xs ++ ys)) := fun B H u v e g1 g2 Q q => by
  obtain ⟨a, us, rfl, ha, r⟩ := sd_seq g1
  obtain ⟨b, vs, rfl, hb, r2⟩ := sd_seq g2
  refine ⟨a, b, us, vs, rfl, rfl, SqT.of (e _ _ ha), SqT.of (e _ _ hb), (by rw [r.length, r2.length, sizeLine_eq]; omega), fun z => ?_, fun _ z => ?_, fun _ _ p hp => ?_⟩
  · subst z
    cases r
    exact q _ B H (.refl e) g2
  · subst z
    cases r2
    rw [List.append_nil] at q
    exact q _ B H (.refl e) g1
  · exact q _ _ _ (gw_new e hp) (sd_newT e hp (r.append r2))
theorem rd_catL {xs ys : List Dt} (hz : xs.length + ys.length ≤ 100000) : RD P w rCat (.lst xs) (.lst ys) (.lst (xs ++ ys)) := fun B H u v e g1 g2 Q q => by
  obtain ⟨a, us, rfl, ha, r⟩ := sd_lst g1
  obtain ⟨b, vs, rfl, hb, r2⟩ := sd_lst g2
  exact ⟨a, b, us, vs, rfl, rfl, e _ _ ha, e _ _ hb, (by rw [r.length, r2.length, sizeLine_eq]; omega), fun p hp => q _ _ _ (gw_new e hp) (sd_newL e hp (r.append r2))⟩
theorem sd_newX {B H : Hp} {p : Addr} {ns : List Int} (e : Same B H) (h : H p = none) : Sd P w (upd B p (TXO p (ns.map V.int))) (.ref p) (.rst ns) := .rst upd_same
theorem rd_catX {xs ys : List Int} (hy : ys ≠ []) (hz : xs.length + ys.length ≤ 100000) : RD P w rCatX (.rst xs) (.rst ys) (.rst (xs ++ ys)) := fun B H u v e g1 g2 Q q => by
  cases g1 with
  | rst h1 =>
    cases g2 with
    | rst h2 =>
      refine ⟨_, _, _, _, rfl, rfl, e _ _ h1, e _ _ h2, (by simpa using hy), (by rw [List.length_map, List.length_map, sizeLine_eq]; omega), fun z => ?_, fun _ p hp => ?_⟩
      · have zx : xs = [] := List.map_eq_nil_iff.mp z
        subst zx
        exact q _ B H (.refl e) (.rst h2)
      · rw [← List.map_append]
        exact q _ _ _ (gw_new e hp) (sd_newX e hp)
theorem rd_ixT {xs : List Dt} {i : Int} {d : Dt} (h : atI xs i = some d) : RD P w (rIx K) (.tup xs) (.int i) d := fun B H u v e g1 g2 Q q => by
  obtain ⟨a, us, rfl, ha, r⟩ := sd_seq g1
  cases g2
  unfold atI at h
  cases hj : ixN xs.length i with
  | none => rw [hj] at h; cases h
  | some j =>
    rw [hj] at h
    obtain ⟨z, hz, D⟩ := r.at (i := j) h
    exact .inr (.inl ⟨a, us, i, z, rfl, rfl, SqT.of (e _ _ ha), (by unfold atI; rw [r.length, hj]; exact hz), q z B H (.refl e) D⟩)
theorem rd_ixL {xs : List Dt} {i : Int} {d : Dt} (h : atI xs i = some d) : RD P w (rIx K) (.lst xs) (.int i) d := fun B H u v e g1 g2 Q q => by
  obtain ⟨a, us, rfl, ha, r⟩ := sd_lst g1
  cases g2
  unfold atI at h
  cases hj : ixN xs.length i with
  | none => rw [hj] at h; cases h
  | some j =>
    rw [hj] at h
    obtain ⟨z, hz, D⟩ := r.at (i := j) h
    exact .inl ⟨a, us, i, z, rfl, rfl, SqL.of (e _ _ ha), (by unfold atI; rw [r.length, hj]; exact hz), q z B H (.refl e) D⟩
/-! ### built-ins -/
theorem sdA1 {B : Hp} {vs : List V} {d : Dt} (h : SdA P w B vs [d]) : ∃ v, vs = [v] ∧ Sd P w B v d := by
  cases h with
  | cons h1 h2 => cases h2; exact ⟨_, rfl, h1⟩
theorem sdA2 {B : Hp} {vs : List V} {d d2 : Dt} (h : SdA P w B vs [d, d2]) : ∃ v v2, vs = [v, v2] ∧ Sd P w B v d ∧ Sd P w B v2 d2 := by
  cases h with
  | cons h1 h2 =>
    cases h2 with
    | cons h2 h3 => cases h3; exact ⟨_, _, rfl, h1, h2⟩
abbrev rLenK (K : PySem.W.Frag) : List V → Hp → VK → Prop := fun xs H Q => ∃ p ys, xs = [.ref p] ∧ (SqL K H p ys ∨ SqT K H p ys) ∧ Q (.int ys.length) H
theorem rc_lenT {xs : List Dt} : RC P w (rLenK K) [.tup xs] (.int xs.length) := fun B H vs e g Q q => by
  obtain ⟨v, rfl, g1⟩ := sdA1 g
  obtain ⟨a, us, rfl, ha, r⟩ := sd_seq g1
  exact ⟨a, us, rfl, .inr (SqT.of (e _ _ ha)), q _ B H (.refl e) (by rw [r.length]; exact .int _)⟩
theorem rc_lenL {xs : List Dt} : RC P w (rLenK K) [.lst xs] (.int xs.length) := fun B H vs e g Q q => by
  obtain ⟨v, rfl, g1⟩ := sdA1 g
  obtain ⟨a, us, rfl, ha, r⟩ := sd_lst g1
  exact ⟨a, us, rfl, .inl (SqL.of (e _ _ ha)), q _ B H (.refl e) (by rw [r.length]; exact .int _)⟩
abbrev rLenX : List V → Hp → VK → Prop := fun xs H Q => ∃ p ys, xs = [.ref p] ∧ H p = some (TXO p ys) ∧ ys.length ≤ sizeLine ∧ Q (.int ys.length) H
theorem rc_lenX {ns : List Int} (hz : ns.length ≤ 100000) : RC P w rLenX [.rst ns] (.int ns.length) := fun B H vs e g Q q => by
  obtain ⟨v, rfl, g1⟩ := sdA1 g
  cases g1 with
  | rst h => exact ⟨_, _, rfl, e _ _ h, (by rw [List.length_map, sizeLine_eq]; omega), q _ B H (.refl e) (by rw [List.length_map]; exact .int _)⟩
abbrev rTupleK (K : PySem.W.Frag) : List V → Hp → VK → Prop := fun xs H Q => ∃ p ys, xs = [.ref p] ∧ ((SqL K H p ys ∧ ∀ l, H l = none → Q (.ref l) (upd H l (.tup ys))) ∨ (SqT K H p ys ∧ Q (.ref p) H))
theorem rc_tuple {xs : List Dt} : RC P w (rTupleK K) [.lst xs] (.tup xs) := fun B H vs e g Q q => by
  obtain ⟨v, rfl, g1⟩ := sdA1 g
  obtain ⟨a, us, rfl, ha, r⟩ := sd_lst g1
  exact ⟨a, us, rfl, .inl ⟨SqL.of (e _ _ ha), fun p hp => q _ _ _ (gw_new e hp) (sd_newT e hp r)⟩⟩
abbrev rInt1 : List V → Hp → VK → Prop := fun xs H Q => (∃ i, xs = [.int i] ∧ Q (.int i) H) ∨ ∃ k, xs = [.bl k] ∧ Q (.int (if k then 1 else 0)) H
theorem rc_int {i : Int} : RC P w rInt1 [.int i] (.int i) := fun B H vs e g Q q => by
  obtain ⟨v, rfl, g1⟩ := sdA1 g
  cases g1
  exact .inl ⟨i, rfl, q _ B H (.refl e) (.int i)⟩
theorem rc_intB {b : Bool} : RC P w rInt1 [.bl b] (.int (if b then 1 else 0)) := fun B H vs e g Q q => by
  obtain ⟨v, rfl, g1⟩ := sdA1 g
  cases g1
  exact .inr ⟨b, rfl, q _ B H (.refl e) (.int _)⟩
theorem rc_abs {i : Int} : RC P w (fun xs H Q => ∃ i, xs = [V.int i] ∧ Q (.int (if i < 0 then -i else i)) H) [.int i] (.int (if i < 0 then -i else i)) := fun B H vs e g Q q => by
  obtain ⟨v, rfl, g1⟩ := sdA1 g
  cases g1
  exact ⟨i, rfl, q _ B H (.refl e) (.int _)⟩
theorem rc_max2 {i j : Int} : RC P w (fun xs H Q => ∃ i j, xs = [V.int i, V.int j] ∧ Q (.int (if j > i then j else i)) H) [.int i, .int j] (.int (if j > i then j else i)) := fun B H vs e g Q q => by
  obtain ⟨v, v2, rfl, g, g2⟩ := sdA2 g
  cases g
  cases g2
  exact ⟨i, j, rfl, q _ B H (.refl e) (.int _)⟩
theorem rc_min2 {i j : Int} : RC P w (fun xs H Q => ∃ i j, xs = [V.int i, V.int j] ∧ Q (.int (if j < i then j else i)) H) [.int i, .int j] (.int (if j < i then j else i)) := fun B H vs e g Q q => by
  obtain ⟨v, v2, rfl, g, g2⟩ := sdA2 g
  cases g
  cases g2
  exact ⟨i, j, rfl, q _ B H (.refl e) (.int _)⟩
theorem rc_minL {ns : List Int} {m : Int} (hm : m ∈ ns) (hle : ∀ y ∈ ns, m ≤ y) : RC P w (rMin K) [.lst (ns.map Dt.int)] (.int m) := fun B H vs e g Q q => by
  obtain ⟨v, rfl, g1⟩ := sdA1 g
  obtain ⟨a, us, rfl, ha, r⟩ := sd_lst g1
  rw [ints_of_sdA r] at ha
  refine ⟨a, ns, rfl, SqL.of (e _ _ ha), List.length_pos_of_mem hm, fun k hk hk2 => ?_⟩
  have ek : k = m := by
    have h1 := hle k hk
    have h2 := hk2 m hm
    omega
  rw [ek]
  exact q _ B H (.refl e) (.int m)
theorem rc_all {bs : List Bool} : RC P w (rAll K) [.lst (bs.map Dt.bl)] (.bl (bs.all id)) := fun B H vs e g Q q => by
  obtain ⟨v, rfl, g1⟩ := sdA1 g
  obtain ⟨a, us, rfl, ha, r⟩ := sd_lst g1
  rw [bls_of_sdA r] at ha
  exact ⟨a, bs, rfl, SqL.of (e _ _ ha), q _ B H (.refl e) (.bl _)⟩
theorem rc_anyI {r : List Int} : RC P w (rAnyI K) [rowD r] (.bl (r.any fun x => x != 0)) := fun B H vs e g Q q => by
  obtain ⟨v, rfl, g1⟩ := sdA1 g
  obtain ⟨a, rfl, h⟩ := sd_row g1
  exact ⟨a, r, rfl, SqT.of (e _ _ h), q _ B H (.refl e) (.bl _)⟩
theorem rc_sorted {ns ms : List Int} (hz : ns.length < 64) (hp : ∀ l : List Int, l.Perm ns → l.Pairwise (· ≤ ·) → l = ms) : RC P w (rSorted K) [.lst (ns.map Dt.int)] (.lst (ms.map Dt.int)) := fun B H vs e g Q q => by
  obtain ⟨v, rfl, g1⟩ := sdA1 g
  obtain ⟨a, us, rfl, ha, r⟩ := sd_lst g1
  rw [ints_of_sdA r] at ha
  refine ⟨a, ns, rfl, SqL.of (e _ _ ha), hz, fun l p h1 h2 hn => ?_⟩
  rw [hp l h1 h2]
  exact q _ _ _ (gw_new e hn) (sd_newL e hn (sdA_ints ms))
end
end DK

/-! ## G4 -/
namespace DK
open PySem PySem.Spec PyProof.Rows L2
/-! # Slots: stored, forgotten, frozen; what a slot owns -/
def DS.put (s : DS) (i : Nat) (sl : Sl) : DS := { s with ε := s.ε.set i (some sl) }
def DS.unk (s : DS) (is : List Nat) : DS := { s with ε := is.foldl (fun ε i => ε.set i none) s.ε }
section
variable {P : Program} {w : World} {A : Anc} {B H B' H' : Hp} {σ σ' : L2.St} {s s' : DS} {i : Nat}
theorem same_new {B : Hp} {p : Addr} {o : HO} (h : B p = none) : Same B (upd B p o) := fun b u z => by rw [upd_ne (ne_of_none z h)]; exact z
/-- fewer slots known -/
theorem SW.sub (S : SW P w A B H σ s) (hl : s'.ε.length = σ'.length) (hn : s'.n = s.n) (h : ∀ (i : Nat) (sl : Sl), s'.ε[i]? = some (some sl) → s.ε[i]? = some (some sl) ∧ σ'[i]? = σ[i]?) : SW P w A B H σ' s' where
  gw := S.gw
  len := hl
  tin := by rw [hn]; exact S.tin
  tinB := S.tinB
  slot := fun i sl e => by
    obtain ⟨e1, e2⟩ := h i sl e
    rw [e2]
    exact S.slot i sl e1
  apart := fun i j p ne a b => by
    have back : ∀ i, Owns s'.ε σ' i p → Owns s.ε σ i p := fun i ⟨a1, a2⟩ => by
      rcases a2 with ⟨ds, e⟩ | ⟨kvs, e⟩
      · exact ⟨by rw [← (h i _ e).2]; exact a1, .inl ⟨ds, (h i _ e).1⟩⟩
      · exact ⟨by rw [← (h i _ e).2]; exact a1, .inr ⟨kvs, (h i _ e).1⟩⟩
    exact S.apart i j p ne (back i a) (back j b)
theorem Own.sub {p : Addr} (h : ∀ (i : Nat) (sl : Sl), s'.ε[i]? = some (some sl) → s.ε[i]? = some (some sl) ∧ σ'[i]? = σ[i]?) (o : Own s'.ε σ' p) : Own s.ε σ p := by
  obtain ⟨i, a1, a2⟩ := o
  rcases a2 with ⟨ds, e⟩ | ⟨kvs, e⟩
  · exact ⟨i, by rw [← (h i _ e).2]; exact a1, .inl ⟨ds, (h i _ e).1⟩⟩
  · exact ⟨i, by rw [← (h i _ e).2]; exact a1, .inr ⟨kvs, (h i _ e).1⟩⟩
theorem unk_get : ∀ (is : List Nat) (ε : List (Option Sl)) (j : Nat) (sl : Sl), (is.foldl (fun ε i => ε.set i none) ε)[j]? = some (some sl) → ε[j]? = some (some sl) ∧ j ∉ is
  | [], ε, j, sl, h => ⟨h, List.not_mem_nil⟩
  | i :: is, ε, j, sl, h => by
    obtain ⟨h1, h2⟩ := unk_get is (ε.set i none) j sl h
    by_cases e : i = j
    · subst e
      rw [List.getElem?_set] at h1
      rw [if_pos rfl] at h1
      split at h1 <;> cases h1
    · rw [List.getElem?_set_ne e] at h1
      exact ⟨h1, fun z => by exact (List.mem_cons.mp z).elim (fun z => e z.symm) h2⟩
theorem unk_len : ∀ (is : List Nat) (ε : List (Option Sl)), (is.foldl (fun ε i => ε.set i none) ε).length = ε.length
  | [], ε => rfl
  | i :: is, ε => by
    show (is.foldl _ (ε.set i none)).length = _
    rw [unk_len is, List.length_set]
/-- slot i gets a value -/
theorem put_get {j : Nat} {sl sl' : Sl} (h : (s.put i sl).ε[j]? = some (some sl')) : (j = i ∧ sl' = sl) ∨ (j ≠ i ∧ s.ε[j]? = some (some sl')) := by
  unfold DS.put at h
  by_cases e : i = j
  · subst e
    rw [List.getElem?_set, if_pos rfl] at h
    split at h
    · exact .inl ⟨rfl, (Option.some.inj (Option.some.inj h)).symm⟩
    · cases h
  · rw [List.getElem?_set_ne e] at h
    exact .inr ⟨fun z => e z.symm, h⟩
theorem Owns.put {v : V} {sl : Sl} {j : Nat} {p : Addr} (h : Owns (s.put i sl).ε (σ.set i (some v)) j p) : (j ≠ i ∧ Owns s.ε σ j p) ∨ (j = i ∧ v = .ref p ∧ ((∃ ds, sl = .own ds) ∨ ∃ kvs, sl = .odc kvs)) := by
  obtain ⟨a1, a2⟩ := h
  have hl : j = i → i < σ.length → v = .ref p := fun e h => by
    subst e
    rw [List.getElem?_set, if_pos rfl, if_pos h] at a1
    exact Option.some.inj (Option.some.inj a1)
  have hlt : j = i → i < σ.length := fun e => by
    subst e
    rw [List.getElem?_set, if_pos rfl] at a1
    split at a1
    · assumption
    · cases a1
  rcases a2 with ⟨ds, e⟩ | ⟨kvs, e⟩
  · rcases put_get e with ⟨e1, e2⟩ | ⟨e1, e2⟩
    · exact .inr ⟨e1, hl e1 (hlt e1), .inl ⟨ds, e2.symm⟩⟩
    · rw [List.getElem?_set_ne (fun z => e1 z.symm)] at a1
      exact .inl ⟨e1, a1, .inl ⟨ds, e2⟩⟩
  · rcases put_get e with ⟨e1, e2⟩ | ⟨e1, e2⟩
    · exact .inr ⟨e1, hl e1 (hlt e1), .inr ⟨kvs, e2.symm⟩⟩
    · rw [List.getElem?_set_ne (fun z => e1 z.symm)] at a1
      exact .inl ⟨e1, a1, .inr ⟨kvs, e2⟩⟩
theorem Own.put_val {v : V} {d : Dt} {p : Addr} (h : Own (s.put i (.val d)).ε (σ.set i (some v)) p) : Own s.ε σ p := by
  obtain ⟨j, h⟩ := h
  rcases h.put with ⟨_, h⟩ | ⟨_, _, ⟨ds, e⟩ | ⟨kvs, e⟩⟩
  · exact ⟨j, h⟩
  · cases e
  · cases e
theorem SW.putSl (S : SW P w A B H σ s) (hi : i < s.ε.length) {v : V} {sl : Sl} (h : SlOk P w A B H (some (some v)) sl) (hn : ∀ p, v = .ref p → ((∃ ds, sl = .own ds) ∨ ∃ kvs, sl = .odc kvs) → ¬ Own s.ε σ p) : SW P w A B H (σ.set i (some v)) (s.put i sl) where
  gw := S.gw
  len := by
    show (s.ε.set i (some sl)).length = _
    rw [List.length_set, List.length_set]
    exact S.len
  tin := S.tin
  tinB := S.tinB
  slot := fun j sl' e => by
    rcases put_get e with ⟨e1, e2⟩ | ⟨e1, e2⟩
    · subst e1
      subst e2
      rw [List.getElem?_set, if_pos rfl, if_pos (by rw [← S.len]; exact hi)]
      exact h
    · rw [List.getElem?_set_ne (fun z => e1 z.symm)]
      exact S.slot j sl' e2
  apart := fun j k p ne a b => by
    rcases a.put with ⟨ha, a⟩ | ⟨ha, a, a'⟩
    · rcases b.put with ⟨hb, b⟩ | ⟨hb, b, b'⟩
      · exact S.apart j k p ne a b
      · exact hn p b b' ⟨j, a⟩
    · rcases b.put with ⟨hb, b⟩ | ⟨hb, b, b'⟩
      · exact hn p a a' ⟨k, b⟩
      · exact ne (ha.trans hb.symm)
theorem SW.put (S : SW P w A B H σ s) (hi : i < s.ε.length) {v : V} {d : Dt} (h : Sd P w B v d) : SW P w A B H (σ.set i (some v)) (s.put i (.val d)) :=
  S.putSl hi ⟨v, rfl, h⟩ fun p _ z => by rcases z with ⟨ds, e⟩ | ⟨kvs, e⟩ <;> cases e
theorem SW.putOwn (S : SW P w A B H σ s) (hi : i < s.ε.length) {p : Addr} {vs : List V} {ds : List Dt} (hp : Hid A B p) (hl : H p = some (.lst vs)) (D : SdA P w B vs ds) (no : ¬ Own s.ε σ p) : SW P w A B H (σ.set i (some (.ref p))) (s.put i (.own ds)) :=
  S.putSl hi ⟨p, vs, rfl, hp, hl, D⟩ fun q e _ => by cases e; exact no
theorem SW.putOdc (S : SW P w A B H σ s) (hi : i < s.ε.length) {p : Addr} {o : Obj} {vs : List (Kp × V)} {kvs : List (Kp × Fg)} (hp : Hid A B p) (hl : H p = some (dO p o)) (h1 : (p == sysModules) = false) (h2 : vs.length ≤ 100000) (h3 : DE P w B o vs) (h4 : FgAll B vs kvs) (no : ¬ Own s.ε σ p) :
    SW P w A B H (σ.set i (some (.ref p))) (s.put i (.odc kvs)) :=
  S.putSl hi ⟨p, o, vs, rfl, hp, hl, h1, h2, h3, h4⟩ fun q e _ => by cases e; exact no
theorem Own.put_own {p q : Addr} {ds : List Dt} (h : Own (s.put i (.own ds)).ε (σ.set i (some (.ref p))) q) : q = p ∨ Own s.ε σ q := by
  obtain ⟨j, h⟩ := h
  rcases h.put with ⟨_, h⟩ | ⟨_, e, _⟩
  · exact .inr ⟨j, h⟩
  · cases e; exact .inl rfl
/-! ### what slot i owns is changed -/
theorem set_self {α : Type} : ∀ {l : List α} {i : Nat} {x : α}, l[i]? = some x → l.set i x = l
  | [], i, x, h => by simp at h
  | a :: l, 0, x, h => by
    have e : a = x := Option.some.inj h
    rw [e]
    rfl
  | a :: l, i + 1, x, h => congrArg (a :: ·) (set_self (l := l) (i := i) h)
theorem put_self {sl : Sl} (h : s.ε[i]? = some (some sl)) : s.put i sl = s := by
  unfold DS.put
  rw [set_self h]
/-- H changes at p alone, which only slot i owns -/
theorem SW.chg (S : SW P w A B H σ s) {p : Addr} (ow : Owns s.ε σ i p) {o : HO} {sl : Sl} (hp : Hid A B p) (h : SlOk P w A B (upd H p o) (σ[i]?) sl) (hk : (∃ ds, sl = .own ds) ∨ ∃ kvs, sl = .odc kvs) : SW P w A B (upd H p o) σ (s.put i sl) ∧ ∀ q, Own (s.put i sl).ε σ q → Own s.ε σ q := by
  have hiσ : i < σ.length := (List.getElem?_eq_some_iff.mp ow.1).1
  have eσ : σ.set i (some (.ref p)) = σ := set_self ow.1
  have own : ∀ j q, Owns (s.put i sl).ε σ j q → Owns s.ε σ j q := fun j q z => by
    have z' : Owns (s.put i sl).ε (σ.set i (some (.ref p))) j q := by rw [eσ]; exact z
    rcases z'.put with ⟨_, y⟩ | ⟨e, y, _⟩
    · exact y
    · cases y
      rw [e]
      exact ow
  refine ⟨⟨⟨S.gw.1, fun b u e => by rw [upd_ne (ne_of_none e hp.2.1)]; exact S.gw.2.1 b u e, fun b u n e => by rw [upd_ne (ne_of_none e hp.1)]; exact S.gw.2.2.1 b u n e, fun b n => ?_⟩, ?_, fun tt e => ?_, S.tinB, fun j sl' e => ?_, fun j k q ne a b => S.apart j k q ne (own j q a) (own k q b)⟩, fun q ⟨j, z⟩ => ⟨j, own j q z⟩⟩
  · have q : b ≠ p := fun q => n (by rw [q]; exact hp.1)
    rw [upd_ne q]
    exact S.gw.2.2.2 b n
  · show (s.ε.set i (some sl)).length = _
    rw [List.length_set]
    exact S.len
  · have q : tt ≠ p := fun q => hp.2.2 (by rw [e, q])
    obtain ⟨a, b, c, h1, r⟩ := S.tin tt e
    exact ⟨a, b, c, by rw [upd_ne q]; exact h1, r⟩
  · rcases put_get e with ⟨e1, e2⟩ | ⟨e1, e2⟩
    · rw [e1, e2]
      exact h
    · have q := S.slot j sl' e2
      cases sl' with
      | val d => exact q
      | own ds =>
        obtain ⟨a, us, f1, f2, f3, f4⟩ := q
        have ne : a ≠ p := fun z => by
          subst z
          exact S.apart j i a e1 ⟨f1, .inl ⟨ds, e2⟩⟩ ow
        exact ⟨a, us, f1, f2, by rw [upd_ne ne]; exact f3, f4⟩
      | odc kvs =>
        obtain ⟨a, ob, us, f1, f2, f3, f4⟩ := q
        have ne : a ≠ p := fun z => by
          subst z
          exact S.apart j i a e1 ⟨f1, .inr ⟨kvs, e2⟩⟩ ow
        exact ⟨a, ob, us, f1, f2, by rw [upd_ne ne]; exact f3, f4⟩
      | tin => exact q
      | scr K ns => exact q
theorem Mw.chg {p : Addr} {o : HO} {O O' : Addr → Prop} (op : O p) (sub : ∀ q, O' q → O q) (hp : H p ≠ none) : Mw A O B H O' B (upd H p o) where
  same := Same.refl _
  fx := fun b u _ n e => by
    have q : b ≠ p := fun q => n (by rw [q]; exact op)
    rw [upd_ne q]
    exact e
  sub := sub
  there := fun b n => by
    by_cases q : b = p
    · rw [q, upd_same]
      exact fun z => nomatch z
    · rw [upd_ne q]
      exact n
  hid := fun b _ e _ => e
/-- the list that slot i owns is written -/
theorem SW.own (S : SW P w A B H σ s) {ds : List Dt} (hi : s.ε[i]? = some (some (.own ds))) : ∃ p vs, σ[i]? = some (some (.ref p)) ∧ Hid A B p ∧ H p = some (.lst vs) ∧ SdA P w B vs ds ∧ Owns s.ε σ i p := by
  obtain ⟨p, vs, e, hp, hl, D⟩ := S.slot i _ hi
  exact ⟨p, vs, e, hp, hl, D, e, .inl ⟨ds, hi⟩⟩
theorem SW.wr (S : SW P w A B H σ s) {p : Addr} {vs : List V} {ds : List Dt} (ow : Owns s.ε σ i p) (hp : Hid A B p) (hl : H p ≠ none) (D : SdA P w B vs ds) : SW P w A B (upd H p (.lst vs)) σ (s.put i (.own ds)) ∧ Mv A σ s B H (s.put i (.own ds)) B (upd H p (.lst vs)) := by
  obtain ⟨S', sub⟩ := S.chg (o := .lst vs) (sl := .own ds) ow hp ⟨p, vs, ow.1, hp, upd_same, D⟩ (.inl ⟨ds, rfl⟩)
  exact ⟨S', Mw.chg ⟨i, ow⟩ sub hl⟩
theorem SW.wrD (S : SW P w A B H σ s) {p : Addr} {o : Obj} {vs : List (Kp × V)} {kvs : List (Kp × Fg)} (ow : Owns s.ε σ i p) (hp : Hid A B p) (hl : H p ≠ none) (h1 : (p == sysModules) = false) (h2 : vs.length ≤ 100000) (h3 : DE P w B o vs) (h4 : FgAll B vs kvs) :
    SW P w A B (upd H p (dO p o)) σ (s.put i (.odc kvs)) ∧ Mv A σ s B H (s.put i (.odc kvs)) B (upd H p (dO p o)) := by
  obtain ⟨S', sub⟩ := S.chg (o := dO p o) (sl := .odc kvs) ow hp ⟨p, o, vs, ow.1, hp, upd_same, h1, h2, h3, h4⟩ (.inr ⟨kvs, rfl⟩)
  exact ⟨S', Mw.chg ⟨i, ow⟩ sub hl⟩
/-! ### what slot i owns becomes a value -/
theorem SW.frz (S : SW P w A B H σ s) {p : Addr} {o : HO} {d : Dt} (ow : Owns s.ε σ i p) (hp : Hid A B p) (hl : H p = some o) (D : ∀ B', Same B B' → B' p = some o → Sd P w B' (.ref p) d) :
    SW P w A (upd B p o) H σ (s.put i (.val d)) ∧ Mv A σ s B H (s.put i (.val d)) (upd B p o) H := by
  have sm : Same B (upd B p o) := same_new hp.2.1
  have hiε : i < s.ε.length := by
    have := (List.getElem?_eq_some_iff.mp ow.1).1
    rw [S.len]
    exact this
  have own : ∀ j q, Owns (s.put i (.val d)).ε σ j q → j ≠ i ∧ Owns s.ε σ j q := fun j q z => by
    have z' : Owns (s.put i (.val d)).ε (σ.set i (some (.ref p))) j q := by rw [set_self ow.1]; exact z
    rcases z'.put with y | ⟨e, y, ⟨ds, w⟩ | ⟨kvs, w⟩⟩
    · exact y
    · cases w
    · cases w
  refine ⟨⟨⟨S.gw.1.trans sm, fun b u e => ?_, S.gw.2.2.1, fun b n => ⟨(S.gw.2.2.2 b n).1, fun e => ?_⟩⟩, ?_, S.tin, fun tt e => ⟨?_, (S.tinB tt e).2⟩, fun j sl' e => ?_, fun j k q ne a b => S.apart j k q ne (own j q a).2 (own k q b).2⟩,
    ⟨sm, fun _ _ _ _ h => h, fun q ⟨j, z⟩ => ⟨j, (own j q z).2⟩, fun _ h => h, fun b n e no => ?_⟩⟩
  · by_cases q : b = p
    · rw [q, upd_same] at e
      cases e
      rw [q]
      exact hl
    · rw [upd_ne q] at e
      exact S.bh _ _ e
  · have q : b ≠ p := fun q => n (by rw [q]; exact hp.1)
    rw [upd_ne q]
    exact (S.gw.2.2.2 b n).2 e
  · show (s.ε.set i _).length = _
    rw [List.length_set]
    exact S.len
  · have q : tt ≠ p := fun q => hp.2.2 (by rw [e, q])
    rw [upd_ne q]
    exact (S.tinB tt e).1
  · rcases put_get e with ⟨e1, e2⟩ | ⟨e1, e2⟩
    · rw [e1, e2]
      exact ⟨.ref p, ow.1, D _ sm upd_same⟩
    · have q := S.slot j sl' e2
      cases sl' with
      | val d =>
        obtain ⟨v, f1, f2⟩ := q
        exact ⟨v, f1, f2.mono sm⟩
      | own ds =>
        obtain ⟨a, us, f1, ⟨g1, g2, g3⟩, f3, f4⟩ := q
        have ne : a ≠ p := fun z => by
          subst z
          exact S.apart j i a e1 ⟨f1, .inl ⟨ds, e2⟩⟩ ow
        exact ⟨a, us, f1, ⟨g1, by rw [upd_ne ne]; exact g2, g3⟩, f3, f4.mono sm⟩
      | odc kvs =>
        obtain ⟨a, ob, us, f1, ⟨g1, g2, g3⟩, f3, f4, f5, f6, f7⟩ := q
        have ne : a ≠ p := fun z => by
          subst z
          exact S.apart j i a e1 ⟨f1, .inr ⟨kvs, e2⟩⟩ ow
        exact ⟨a, ob, us, f1, ⟨g1, by rw [upd_ne ne]; exact g2, g3⟩, f3, f4, f5, f6.mono sm, f7.mono sm⟩
      | tin => exact q
      | scr K ns => exact q
  · have q : b ≠ p := fun q => no (by rw [q]; exact ⟨i, ow⟩)
    rw [upd_ne q]
    exact e
/-- a read that lets go of the list; of the dict -/
theorem ev_frz {Po : Dt → DS → Prop} {ds : List Dt} (h : s.ε[i]? = some (some (.own ds))) (p : Po (.lst ds) (s.put i (.val (.lst ds)))) : EV P w (tVar i) s Po := fun A B H σ S Q q => by
  obtain ⟨a, vs, e, hp, hl, D, ow⟩ := S.own h
  obtain ⟨S', M⟩ := S.frz (d := .lst ds) ow hp hl fun B' sm hb => .lst hb (D.mono sm)
  exact ⟨.ref a, e, q _ _ _ _ _ S' M (.lst upd_same (D.mono (same_new hp.2.1))) p⟩
theorem ev_frzD {Po : Dt → DS → Prop} {kvs : List (Kp × Fg)} (h : s.ε[i]? = some (some (.odc kvs))) (p : Po (.dct kvs) (s.put i (.val (.dct kvs)))) : EV P w (tVar i) s Po := fun A B H σ S Q q => by
  obtain ⟨a, o, vs, e, hp, hl, h1, h2, h3, h4⟩ := S.slot i _ h
  obtain ⟨S', M⟩ := S.frz (d := .dct kvs) ⟨e, .inr ⟨kvs, h⟩⟩ hp hl fun B' sm hb => .dct hb h1 h2 (h3.mono sm) (h4.mono sm)
  exact ⟨.ref a, e, q _ _ _ _ _ S' M (.dct upd_same h1 h2 (h3.mono (same_new hp.2.1)) (h4.mono (same_new hp.2.1))) p⟩
end
end DK

/-! ## G5 -/
namespace DK
open PySem PySem.Spec PyProof.Rows L2
/-! # Own things read, isinstance, walks -/
section
variable {P : Program} {w : World} {K : PySem.W.Frag} {A : Anc} {B H B' H' : Hp} {σ σ' : L2.St} {s s' s1 : DS} {i : Nat} {te ta tb tk : TE}
/-! ### own lists -/
theorem ev_lenOwn {Po : Dt → DS → Prop} {ds : List Dt} (h : s.ε[i]? = some (some (.own ds))) (p : Po (.int ds.length) s) : EV P w (tCB (rLenK K) (tCons (tVar i) tNil)) s Po := fun A B H σ S Q q => by
  obtain ⟨a, vs, e, hp, hl, D, ow⟩ := S.own h
  exact ⟨.ref a, e, a, vs, rfl, .inl (SqL.of hl), q _ B H _ s S .refl (by rw [D.length]; exact .int _) p⟩
theorem ed_lenOwn {ds : List Dt} (h : s.ε[i]? = some (some (.own ds))) : ED P w (tCB (rLenK K) (tCons (tVar i) tNil)) s (.int ds.length) := ev_lenOwn h ⟨rfl, rfl⟩
theorem ev_ixOwn {Po : Dt → DS → Prop} {ds0 : List Dt} (h0 : s.ε[i]? = some (some (.own ds0))) (h : EV P w tb s fun y s1 => ∃ k ds d, y = .int k ∧ s1.ε[i]? = some (some (.own ds)) ∧ atI ds k = some d ∧ Po d s1) : EV P w (tOp (rIx K) (tVar i) tb) s Po := fun A B H σ S Q q => by
  obtain ⟨a, vs, e, hp, hl, D, ow⟩ := S.own h0
  refine ⟨.ref a, e, h A B H σ S _ fun v B1 H1 y s1 S1 M1 D1 ⟨k, ds, d, ey, h1, ha, p⟩ => ?_⟩
  subst ey
  cases D1
  obtain ⟨a', us, e', hp', hl', D', ow'⟩ := S1.own h1
  have ea : a' = a := by rw [e] at e'; injection e' with e'; injection e' with e'; injection e' with e'; exact e'.symm
  subst ea
  unfold atI at ha
  cases hj : ixN ds.length k with
  | none => rw [hj] at ha; cases ha
  | some j =>
    rw [hj] at ha
    obtain ⟨z, hz, Dz⟩ := D'.at (i := j) ha
    exact .inl ⟨a', us, k, z, rfl, rfl, SqL.of hl', (by unfold atI; rw [D'.length, hj]; exact hz), q z B1 H1 d s1 S1 M1 Dz p⟩
/-- own.pop(e) -/
theorem ev_popOwn {Po : Dt → DS → Prop} {ds0 : List Dt} (h0 : s.ε[i]? = some (some (.own ds0))) (h : EV P w tb s fun y s1 => ∃ (k : Int) (j : Nat) (ds : List Dt) (d : Dt), y = .int k ∧ s1.ε[i]? = some (some (.own ds)) ∧ k = j ∧ j < 2 ^ 62 ∧ ds[j]? = some d ∧ Po d (s1.put i (.own (ds.eraseIdx j)))) :
    EV P w (tBM K "list" rPopAt (tVar i) (tCons tb tNil)) s Po := fun A B H σ S Q q => by
  obtain ⟨a, vs, e, hp, hl, D, ow⟩ := S.own h0
  refine ⟨.ref a, e, .inl ⟨rfl, vs, SqL.of hl⟩, h A B H σ S _ fun v B1 H1 y s1 S1 M1 D1 ⟨k, j, ds, d, ey, h1, hk, hj, hd, p⟩ => ?_⟩
  subst ey
  cases D1
  obtain ⟨a', us, e', hp', hl', D', ow'⟩ := S1.own h1
  have ea : a' = a := by rw [e] at e'; injection e' with e'; injection e' with e'; injection e' with e'; exact e'.symm
  subst ea
  obtain ⟨z, hz, Dz⟩ := D'.at hd
  have hlt : j < us.length := (List.getElem?_eq_some_iff.mp hz).1
  obtain ⟨S2, M2⟩ := S1.wr ow' hp' (by rw [hl']; exact fun z => nomatch z) (D'.eraseIdx j)
  refine ⟨a', us, k, j, z, rfl, rfl, hl', (by rw [hk]; omega), (by rw [hk]; omega), ?_, hz, q z _ _ d _ S2 (M1.trans M2) Dz p⟩
  subst hk
  unfold seqIndex?
  simp
  omega
/-! ### own dicts -/
theorem fg_at {p : Kp} {vs : List (Kp × V)} {kvs : List (Kp × Fg)} (r : FgAll B vs kvs) : (atN vs p = none ∧ atN kvs p = none) ∨ ∃ v f, atN vs p = some v ∧ atN kvs p = some f ∧ FgAt B v f := by
  induction r with
  | nil => exact .inl ⟨rfl, rfl⟩
  | @cons q y vs kvs h r ih =>
    rw [atN_cons, atN_cons]
    by_cases e : q.1 = p
    · rw [if_pos e, if_pos (h.1.symm.trans e)]
      exact .inr ⟨_, _, rfl, rfl, h.2⟩
    · rw [if_neg e, if_neg (fun z => e (h.1.trans z))]
      exact ih
theorem fg_some {p : Kp} {vs : List (Kp × V)} {kvs : List (Kp × Fg)} (r : FgAll B vs kvs) : (atN vs p).isSome = (atN kvs p).isSome := by
  rcases fg_at (p := p) r with ⟨h1, h2⟩ | ⟨v, f, h1, h2, _⟩
  · rw [h1, h2]; rfl
  · rw [h1, h2]; rfl
theorem paired_append {α β : Type} {F : α → β → Prop} : ∀ {a : List α} {b : List β} {c : List α} {d : List β}, Paired F a b → Paired F c d → Paired F (a ++ c) (b ++ d)
  | _, _, _, _, .nil, r => r
  | _, _, _, _, .cons h t, r => .cons h (paired_append t r)
theorem fg_over {p : Kp} {v : V} {f : Fg} (hv : FgAt B v f) {vs : List (Kp × V)} {kvs : List (Kp × Fg)} (r : FgAll B vs kvs) :
    FgAll B (vs.map (fun kv => if kv.1 = p then (kv.1, v) else kv)) (kvs.map (fun kv => if kv.1 = p then (kv.1, f) else kv)) := by
  induction r with
  | nil => exact .nil
  | @cons q y vs kvs h r ih =>
    refine .cons ?_ ih
    show (if q.1 = p then (q.1, v) else q).1 = (if y.1 = p then (y.1, f) else y).1 ∧ FgAt B (if q.1 = p then (q.1, v) else q).2 (if y.1 = p then (y.1, f) else y).2
    by_cases e : q.1 = p
    · rw [if_pos e, if_pos (h.1.symm.trans e)]
      exact ⟨h.1, hv⟩
    · rw [if_neg e, if_neg (fun z => e (h.1.trans z))]
      exact h
theorem fg_hash (w : World) {vs : List (Kp × V)} {kvs : List (Kp × Fg)} (r : FgAll B vs kvs) : (vs.map fun p => hashN w p.1) = kvs.map fun p => hashN w p.1 := by
  induction r with
  | nil => rfl
  | cons h r ih => rw [List.map_cons, List.map_cons, ih, h.1]
theorem fg_put {p : Kp} {v : V} {f : Fg} {vs : List (Kp × V)} {kvs : List (Kp × Fg)} (r : FgAll B vs kvs) (hv : FgAt B v f) : FgAll B (putN vs p v) (putN kvs p f) := by
  unfold putN
  rw [fg_some (p := p) r]
  split
  · exact fg_over hv r
  · exact paired_append r (.cons ⟨rfl, hv⟩ .nil)
theorem putN_len {α : Type} {kvs : List (Kp × α)} {p : Kp} {v : α} : (putN kvs p v).length ≤ kvs.length + 1 := by
  unfold putN
  split
  · rw [List.length_map]; omega
  · rw [List.length_append]; exact Nat.le_refl _
theorem SW.odc (S : SW P w A B H σ s) {kvs : List (Kp × Fg)} (hi : s.ε[i]? = some (some (.odc kvs))) : ∃ p o vs, σ[i]? = some (some (.ref p)) ∧ Hid A B p ∧ H p = some (dO p o) ∧ (p == sysModules) = false ∧ vs.length ≤ 100000 ∧ DE P w B o vs ∧ FgAll B vs kvs ∧ Owns s.ε σ i p := by
  obtain ⟨p, o, vs, e, hp, hl, h1, h2, h3, h4⟩ := S.slot i _ hi
  exact ⟨p, o, vs, e, hp, hl, h1, h2, h3, h4, e, .inr ⟨kvs, hi⟩⟩
theorem ev_notInOwn {Po : Dt → DS → Prop} (h : EV P w tk s fun d s1 => ∃ p kvs, d = keyD p ∧ s1.ε[i]? = some (some (.odc kvs)) ∧ Po (.bl (!(atN kvs p).isSome)) s1) : EV P w (tOp (rNotInN P w) tk (tVar i)) s Po := fun A B H σ S Q q =>
  h A B H σ S _ fun v B1 H1 d s1 S1 M1 D1 ⟨p, kvs, ed, hi, po⟩ => by
    subst ed
    obtain ⟨a, rfl, ka⟩ := sd_key D1
    obtain ⟨d, o, vs, e, hp, hl, h1, h2, h3, h4, ow⟩ := S1.odc hi
    exact ⟨.ref d, e, B1, a, d, p, vs, rfl, rfl, S1.bh, ka, ⟨o, hl, h1, h2, h3⟩, q _ B1 H1 _ s1 S1 M1 (by rw [fg_some h4]; exact .bl _) po⟩
theorem ev_ixNOwn {Po : Dt → DS → Prop} {kvs0 : List (Kp × Fg)} (h0 : s.ε[i]? = some (some (.odc kvs0))) (h : EV P w tk s fun d s1 => ∃ p kvs f, d = keyD p ∧ s1.ε[i]? = some (some (.odc kvs)) ∧ atN kvs p = some f ∧ Po (fgD f) s1) : EV P w (tOp (rIxN P w) (tVar i) tk) s Po := fun A B H σ S Q q => by
  obtain ⟨a0, _, _, e0, _⟩ := S.odc h0
  refine ⟨.ref a0, e0, h A B H σ S _ fun v B1 H1 d s1 S1 M1 D1 ⟨p, kvs, f, ed, hi, hf, po⟩ => ?_⟩
  subst ed
  obtain ⟨a, rfl, ka⟩ := sd_key D1
  obtain ⟨d, o, vs, e, hp, hl, h1, h2, h3, h4, ow⟩ := S1.odc hi
  have ea : d = a0 := by rw [e0] at e; injection e with e; injection e with e; injection e with e; exact e.symm
  subst ea
  rcases fg_at (p := p) h4 with ⟨z1, z2⟩ | ⟨v, f', z1, z2, z3⟩
  · rw [z2] at hf
    cases hf
  · rw [z2] at hf
    cases hf
    exact ⟨B1, a, d, p, vs, v, rfl, rfl, S1.bh, ka, ⟨o, hl, h1, h2, h3⟩, z1, q v B1 H1 _ s1 S1 M1 (fg_sd z3) po⟩
/-! ### new dicts -/
theorem SW.layO (S : SW P w A B H σ s) {p : Addr} (o : HO) (hp : H p = none) :
    SW P w A B (upd H p o) σ s ∧ Mv A σ s B H s B (upd H p o) ∧ Hid A B p ∧ ¬ Own s.ε σ p := by
  have hb : B p = none := by
    cases z : B p with
    | none => rfl
    | some u => rw [S.bh _ _ z] at hp; cases hp
  have h0 : A.H0 p = none := by
    cases z : A.H0 p with
    | none => rfl
    | some u => exact absurd hp (S.gw.2.2.2 p (by rw [z]; exact fun q => nomatch q)).1
  have ht : A.t ≠ some p := fun e => by
    obtain ⟨a, b, c, h, _⟩ := S.tin p e
    rw [h] at hp
    cases hp
  have g : Gw none B H B (upd H p o) := ⟨Same.refl _, fun b u e => by rw [upd_ne (ne_of_none e hb)]; exact S.bh _ _ e, fun b u _ e => by rw [upd_ne (ne_of_none e hp)]; exact e,
    fun b n => ⟨by rw [upd_ne (fun q => n (by rw [q]; exact hp))]; exact n, fun e => e⟩⟩
  refine ⟨S.grow g, .grow g, ⟨h0, hb, ht⟩, fun ⟨j, e1, e2⟩ => ?_⟩
  rcases e2 with ⟨ds, e⟩ | ⟨kvs, e⟩
  · obtain ⟨a, us, e3, _, h4, _⟩ := S.slot j _ e
    rw [e1] at e3
    cases e3
    rw [h4] at hp
    cases hp
  · obtain ⟨a, ob, us, e3, _, h4, _⟩ := S.slot j _ e
    rw [e1] at e3
    cases e3
    rw [h4] at hp
    cases hp
theorem SW.fresh0 {s0 : DS} (M : Mv A σ s B H s0 B' H') {p : Addr} (h : H' p = none) : H p = none := by
  cases z : H p with
  | none => rfl
  | some u => exact absurd h (M.there p (by rw [z]; exact fun q => nomatch q))
/-- dict(d) -/
theorem evk_copy {Po : List (Kp × Fg) → DS → Prop} (h : EV P w te s fun d s1 => ∃ kvs, d = .dct kvs ∧ (kvs.map fun p => hashN w p.1).Nodup ∧ Po kvs s1) : EVK P w (tCB (rCopyN P w) (tCons te tNil)) s Po := fun A B H σ S Q q =>
  h A B H σ S _ fun v B1 H1 d s1 S1 M1 D1 ⟨kvs, ed, hn, po⟩ => by
    subst ed
    cases D1 with
    | @dct d o vs _ g1 g2 g3 g4 g5 =>
      have hk := fg_hash w g5
      refine ⟨B1, d, vs, rfl, S1.bh, ⟨o, S1.bh _ _ g1, g2, g3, g4⟩, (by rw [hk]; exact hn), fun p o' hp hs D => ?_⟩
      obtain ⟨S2, M2, hd, no⟩ := S1.layO (dO p o') hp
      exact q p o' vs B1 _ kvs s1 S2 (M1.trans M2) hd (SW.fresh0 M1 hp) upd_same hs g3 D g5 no po
/-- {k: v}, which is let go of at once -/
theorem ev_dispN {Po : Dt → DS → Prop} (h : EV P w tk s fun x s1 => EV P w te s1 fun y s2 => ∃ p f, x = keyD p ∧ y = fgD f ∧ Po (.dct [(p, f)]) s2) : EV P w (tDispN P w tk te) s Po := fun A B H σ S Q q d hd hs => by
  obtain ⟨S1, M1, h1, no1⟩ := S.layO (dO d dict0) hd
  refine h A B _ σ S1 _ fun v B2 H2 x s2 S2 M2 D2 h2 => h2 A B2 H2 σ S2 _ fun v3 B3 H3 y s3 S3 M3 D3 ⟨p, f, ex, ey, po⟩ => ?_
  subst ex
  subst ey
  obtain ⟨a, rfl, ka⟩ := sd_key D2
  have M23 := M2.trans M3
  have k3 : H3 d = some (dO d dict0) := M23.fx d _ h1.2.2 no1 upd_same
  have hB : B3 d = none := M23.hid d (by rw [upd_same]; exact fun z => nomatch z) h1.2.1 no1
  have hf : FgAt B3 v3 f := sd_fg D3
  have noD : ¬ Own s3.ε σ d := fun z => no1 (M23.sub d z)
  refine ⟨B3, a, p, rfl, S3.bh, ka.mono M3.same, k3, fun o' D => ?_⟩
  have hid : Hid A B3 d := ⟨h1.1, hB, h1.2.2⟩
  have sm : Same B3 (upd B3 d (dO d o')) := same_new hB
  have g : Gw A.t A.B0 A.H0 (upd B3 d (dO d o')) (upd H3 d (dO d o')) := by
    refine ⟨S3.gw.1.trans sm, fun b u e => ?_, fun b u n e => ?_, fun b n => ?_⟩
    · by_cases z : b = d
      · rw [z, upd_same] at e ⊢
        exact e
      · rw [upd_ne z] at e ⊢
        exact S3.bh _ _ e
    · rw [upd_ne (ne_of_none e hid.1)]
      exact S3.gw.2.2.1 b u n e
    · have z : b ≠ d := fun z => n (by rw [z]; exact hid.1)
      rw [upd_ne z, upd_ne z]
      exact S3.gw.2.2.2 b n
  have S4 : SW P w A (upd B3 d (dO d o')) (upd H3 d (dO d o')) σ s3 := by
    refine ⟨g, S3.len, fun tt e => ?_, fun tt e => ⟨?_, (S3.tinB tt e).2⟩, fun i sl e => ?_, S3.apart⟩
    · have z : tt ≠ d := fun z => hid.2.2 (by rw [e, z])
      obtain ⟨a, b, c, h1, r⟩ := S3.tin tt e
      exact ⟨a, b, c, by rw [upd_ne z]; exact h1, r⟩
    · have z : tt ≠ d := fun z => hid.2.2 (by rw [e, z])
      rw [upd_ne z]
      exact (S3.tinB tt e).1
    · have y := S3.slot i sl e
      cases sl with
      | val d =>
        obtain ⟨v, f1, f2⟩ := y
        exact ⟨v, f1, f2.mono sm⟩
      | own ds =>
        obtain ⟨a, us, f1, ⟨j1, j2, j3⟩, f3, f4⟩ := y
        have ne : a ≠ d := fun z => noD ⟨i, by rw [← z]; exact f1, .inl ⟨ds, e⟩⟩
        exact ⟨a, us, f1, ⟨j1, by rw [upd_ne ne]; exact j2, j3⟩, by rw [upd_ne ne]; exact f3, f4.mono sm⟩
      | odc kvs =>
        obtain ⟨a, ob, us, f1, ⟨j1, j2, j3⟩, f3, f4, f5, f6, f7⟩ := y
        have ne : a ≠ d := fun z => noD ⟨i, by rw [← z]; exact f1, .inr ⟨kvs, e⟩⟩
        exact ⟨a, ob, us, f1, ⟨j1, by rw [upd_ne ne]; exact j2, j3⟩, by rw [upd_ne ne]; exact f3, f4, f5, f6.mono sm, f7.mono sm⟩
      | tin => exact y
      | scr K ns => exact y
  have M4 : Mv A σ s B H s3 (upd B3 d (dO d o')) (upd H3 d (dO d o')) := by
    have Mx := M1.trans M23
    refine ⟨Mx.same.trans sm, fun b u n o e => ?_, Mx.sub, fun b n => ?_, fun b n e o => ?_⟩
    · rw [upd_ne (ne_of_none e hd)]
      exact Mx.fx b u n o e
    · have z : b ≠ d := fun z => n (by rw [z]; exact hd)
      rw [upd_ne z]
      exact Mx.there b n
    · have z : b ≠ d := fun z => n (by rw [z]; exact hd)
      rw [upd_ne z]
      exact Mx.hid b n e o
  exact q (.ref d) _ _ _ s3 S4 M4 (.dct upd_same hs (by show 1 ≤ 100000; decide) (D.mono sm) (.cons ⟨rfl, hf.mono sm⟩ .nil)) po
/-! ### isinstance -/
def Dt.tyN : Dt → Option String
  | .non => some "NoneType"
  | .bl _ => some "bool"
  | .int _ => some "int"
  | .str _ => some "str"
  | .tup _ => some "tuple"
  | .lst _ => some "list"
  | _ => none
theorem tyx {v : V} {d : Dt} {a : String} (e : Same B H) (h : Sd P w B v d) (ha : d.tyN = some a) : TyX K H v (.type a) := by
  cases h <;> cases ha
  · exact .base .non
  · exact .base (.bl _)
  · exact .base (.int _)
  · exact .base (.str _)
  · exact .base (.tup (e _ _ (by assumption)))
  · exact .base (.lst (e _ _ (by assumption)))
def isTy (d : Dt) (c : String) : Option Bool := d.tyN.bind fun a => kitB a c
theorem ev_isi {c : String} {Po : Dt → DS → Prop} (h : EV P w te s fun d s1 => ∃ r, isTy d c = some r ∧ Po (.bl r) s1) : EV P w (tCB (rIsi K) (tCons te (tCons (tC (.ty c)) tNil))) s Po := fun A B H σ S Q q =>
  h A B H σ S _ fun v B1 H1 d s1 S1 M1 D1 ⟨r, hr, po⟩ => by
    unfold isTy at hr
    cases ha : d.tyN with
    | none => rw [ha] at hr; cases hr
    | some a =>
      rw [ha] at hr
      exact ⟨v, .ty c, _, _, r, rfl, .ty c, tyx S1.bh D1 ha, kit_ty hr, q _ B1 H1 _ s1 S1 M1 (.bl r) po⟩
theorem ed_isi {c : String} {d : Dt} {r : Bool} (h : ED P w te s d) (hr : isTy d c = some r) : ED P w (tCB (rIsi K) (tCons te (tCons (tC (.ty c)) tNil))) s (.bl r) := ev_isi (h.to ⟨r, hr, rfl, rfl⟩)
theorem ev_isiT {c1 c2 : String} {Po : Dt → DS → Prop} (h : EV P w te s fun d s1 => ∃ r1 r2, isTy d c1 = some r1 ∧ isTy d c2 = some r2 ∧ Po (.bl (r1 || r2)) s1) :
    EV P w (tCB (rIsiT K) (tCons te (tCons (tTup (tCons (tC (.ty c1)) (tCons (tC (.ty c2)) tNil))) tNil))) s Po := fun A B H σ S Q q =>
  h A B H σ S _ fun v B1 H1 d s1 S1 M1 D1 ⟨r1, r2, hr1, hr2, po⟩ => by
    unfold isTy at hr1 hr2
    cases ha : d.tyN with
    | none => rw [ha] at hr1; cases hr1
    | some a =>
      rw [ha] at hr1 hr2
      refine ⟨(by show 2 ≤ sizeLine; decide), fun p hp => ?_⟩
      obtain ⟨S2, M2, hd, no⟩ := S1.layO (.tup [.ty c1, .ty c2]) hp
      exact ⟨v, p, [.ty c1, .ty c2], _, [.type c1, .type c2], r1 || r2, rfl, upd_same, .cons (.ty c1) (.cons (.ty c2) .nil), tyx S2.bh D1 ha,
        kitAny_cons (kit_ty hr1) (fun e => kitAny_cons (kit_ty hr2) (fun e2 => by rw [e, e2]; rfl) (fun e2 => by rw [e2, Bool.or_true])) (fun e => by rw [e]; rfl), q _ B1 _ _ s1 S2 (M1.trans M2) (.bl _) po⟩
theorem ed_isiT {c1 c2 : String} {d : Dt} {r1 r2 : Bool} (h : ED P w te s d) (h1 : isTy d c1 = some r1) (h2 : isTy d c2 = some r2) :
    ED P w (tCB (rIsiT K) (tCons te (tCons (tTup (tCons (tC (.ty c1)) (tCons (tC (.ty c2)) tNil))) tNil))) s (.bl (r1 || r2)) := ev_isiT (h.to ⟨r1, r2, h1, h2, rfl, rfl⟩)
end
/-! ### walks -/
structure Wk (P : Program) (w : World) (J : It) (B : Hp) (ds : List Dt) : Prop where
  go : ∀ i Hc, Same B Hc → i < ds.length → J.go i Hc
  stop : ∀ i Hc, Same B Hc → ds.length ≤ i → J.stop i Hc
  yld : ∀ i Bc Hc x H', Same B Bc → Same Bc Hc → i < ds.length → J.yld i Hc x H' → ∃ B' d, Gw none Bc Hc B' H' ∧ ds[i]? = some d ∧ Sd P w B' x d
def EVI (P : Program) (w : World) (wi : TI) (s : DS) (Po : List Dt → DS → Prop) : Prop := ∀ (A : Anc) (B H : Hp) (σ : L2.St), SW P w A B H σ s → ∀ R : It → Hp → Prop,
  (∀ J B' H' ds s', SW P w A B' H' σ s' → Mv A σ s B H s' B' H' → Wk P w J B' ds → Po ds s' → R J H') → wi σ H R
section
variable {P : Program} {w : World} {K : PySem.W.Frag} {A : Anc} {B H B' H' : Hp} {σ σ' : L2.St} {s s' s1 : DS} {i : Nat} {te ta tb tk : TE}
theorem lt_get {α : Type} {l : List α} {i : Nat} (h : i < l.length) : ∃ x, l[i]? = some x := ⟨_, List.getElem?_eq_getElem h⟩
theorem wk_list {a : Addr} {vs : List V} {ds : List Dt} (h : B a = some (.lst vs)) (D : SdA P w B vs ds) : Wk P w (Itl K a) B ds where
  go := fun i Hc e hi => by
    obtain ⟨d, hd⟩ := lt_get hi
    obtain ⟨v, hv, _⟩ := D.at hd
    exact ⟨vs, v, SqL.of (e _ _ h), hv⟩
  stop := fun i Hc e hi => ⟨vs, SqL.of (e _ _ h), by rw [D.length]; exact hi⟩
  yld := fun i Bc Hc x H' e1 e2 hi ⟨eH, hx⟩ => by
    subst eH
    obtain ⟨d, hd, Dx⟩ := D.get (hx vs (SqL.of (e2 _ _ (e1 _ _ h))))
    exact ⟨Bc, d, .refl e2, hd, Dx.mono e1⟩
theorem wk_tup {a : Addr} {vs : List V} {ds : List Dt} (h : B a = some (.tup vs)) (D : SdA P w B vs ds) : Wk P w (Itt K a) B ds where
  go := fun i Hc e hi => by
    obtain ⟨d, hd⟩ := lt_get hi
    obtain ⟨v, hv, _⟩ := D.at hd
    exact ⟨vs, v, SqT.of (e _ _ h), hv⟩
  stop := fun i Hc e hi => ⟨vs, SqT.of (e _ _ h), by rw [D.length]; exact hi⟩
  yld := fun i Bc Hc x H' e1 e2 hi ⟨eH, hx⟩ => by
    subst eH
    obtain ⟨d, hd, Dx⟩ := D.get (hx vs (SqT.of (e2 _ _ (e1 _ _ h))))
    exact ⟨Bc, d, .refl e2, hd, Dx.mono e1⟩
theorem wk_rng {lo : Int} {n : Nat} : Wk P w (Itr lo n) B ((List.range n).map fun k : Nat => Dt.int (lo + k)) where
  go := fun i Hc e hi => by
    have hi' : i < n := by simpa using hi
    exact hi'
  stop := fun i Hc e hi => by
    have hi' : n ≤ i := by simpa using hi
    exact hi'
  yld := fun i Bc Hc x H' e1 e2 hi ⟨eH, hx⟩ => by
    subst eH
    subst hx
    refine ⟨Bc, .int (lo + i), .refl e2, ?_, .int _⟩
    have hi' : i < n := by simpa using hi
    rw [List.getElem?_map, List.getElem?_range hi']
    rfl
def zipD (xs ys : List Dt) : List Dt := (xs.zip ys).map fun p => Dt.tup [p.1, p.2]
theorem zipD_at {xs ys : List Dt} {i : Nat} {x y : Dt} (hx : xs[i]? = some x) (hy : ys[i]? = some y) : (zipD xs ys)[i]? = some (.tup [x, y]) := by
  unfold zipD
  have e : (xs.zip ys)[i]? = some (x, y) := List.getElem?_zip_eq_some.mpr ⟨hx, hy⟩
  rw [List.getElem?_map, e]
  rfl
theorem zipD_lt {xs ys : List Dt} {i : Nat} (h : i < (zipD xs ys).length) : i < xs.length ∧ i < ys.length := by
  unfold zipD at h
  rw [List.length_map, List.length_zip] at h
  omega
theorem zipD_ge {xs ys : List Dt} {i : Nat} (h : (zipD xs ys).length ≤ i) : xs.length ≤ i ∨ ys.length ≤ i := by
  unfold zipD at h
  rw [List.length_map, List.length_zip] at h
  omega
theorem wk_zipT {a b : Addr} {vs us : List V} {xs ys : List Dt} (h : B a = some (.tup vs)) (D : SdA P w B vs xs) (h2 : B b = some (.tup us)) (D2 : SdA P w B us ys) : Wk P w (RZ.ItzT K a b) B (zipD xs ys) where
  go := fun i Hc e hi => by
    obtain ⟨l1, l2⟩ := zipD_lt hi
    obtain ⟨x, hx⟩ := lt_get l1
    obtain ⟨y, hy⟩ := lt_get l2
    obtain ⟨v, hv, _⟩ := D.at hx
    obtain ⟨u, hu, _⟩ := D2.at hy
    exact ⟨vs, us, v, u, SqT.of (e _ _ h), SqT.of (e _ _ h2), hv, hu⟩
  stop := fun i Hc e hi => ⟨vs, us, SqT.of (e _ _ h), SqT.of (e _ _ h2), by rw [D.length, D2.length]; exact zipD_ge hi⟩
  yld := fun i Bc Hc z H' e1 e2 hi ⟨T, x, y, ez, hT, eH, hx, hy⟩ => by
    subst eH
    subst ez
    obtain ⟨d1, hd1, Dx⟩ := D.get (hx vs (SqT.of (e2 _ _ (e1 _ _ h))))
    obtain ⟨d2, hd2, Dy⟩ := D2.get (hy us (SqT.of (e2 _ _ (e1 _ _ h2))))
    have g := gw_new (o := .tup [x, y]) e2 hT
    exact ⟨_, .tup [d1, d2], g, zipD_at hd1 hd2, .tup upd_same (.cons ((Dx.mono e1).mono g.1) (.cons ((Dy.mono e1).mono g.1) .nil))⟩
theorem wk_zipL {a b : Addr} {vs us : List V} {xs ys : List Dt} (h : B a = some (.lst vs)) (D : SdA P w B vs xs) (h2 : B b = some (.lst us)) (D2 : SdA P w B us ys) : Wk P w (Itz K a b) B (zipD xs ys) where
  go := fun i Hc e hi => by
    obtain ⟨l1, l2⟩ := zipD_lt hi
    obtain ⟨x, hx⟩ := lt_get l1
    obtain ⟨y, hy⟩ := lt_get l2
    obtain ⟨v, hv, _⟩ := D.at hx
    obtain ⟨u, hu, _⟩ := D2.at hy
    exact ⟨vs, us, v, u, SqL.of (e _ _ h), SqL.of (e _ _ h2), hv, hu⟩
  stop := fun i Hc e hi => ⟨vs, us, SqL.of (e _ _ h), SqL.of (e _ _ h2), by rw [D.length, D2.length]; exact zipD_ge hi⟩
  yld := fun i Bc Hc z H' e1 e2 hi ⟨T, x, y, ez, hT, eH, hx, hy⟩ => by
    subst eH
    subst ez
    obtain ⟨d1, hd1, Dx⟩ := D.get (hx vs (SqL.of (e2 _ _ (e1 _ _ h))))
    obtain ⟨d2, hd2, Dy⟩ := D2.get (hy us (SqL.of (e2 _ _ (e1 _ _ h2))))
    have g := gw_new (o := .tup [x, y]) e2 hT
    exact ⟨_, .tup [d1, d2], g, zipD_at hd1 hd2, .tup upd_same (.cons ((Dx.mono e1).mono g.1) (.cons ((Dy.mono e1).mono g.1) .nil))⟩
def enumD (xs : List Dt) : List Dt := xs.zipIdx.map fun p => Dt.tup [.int (p.2 : Nat), p.1]
theorem enumD_len {xs : List Dt} : (enumD xs).length = xs.length := by simp [enumD]
theorem enumD_at {xs : List Dt} {i : Nat} {x : Dt} (hx : xs[i]? = some x) : (enumD xs)[i]? = some (.tup [.int (i : Nat), x]) := by
  unfold enumD
  rw [List.getElem?_map, List.getElem?_zipIdx, hx]
  simp
theorem wk_enumL {a : Addr} {vs : List V} {xs : List Dt} (h : B a = some (.lst vs)) (D : SdA P w B vs xs) : Wk P w (Ite K a) B (enumD xs) where
  go := fun i Hc e hi => by
    obtain ⟨d, hd⟩ := lt_get (l := xs) (by rw [enumD_len] at hi; exact hi)
    obtain ⟨v, hv, _⟩ := D.at hd
    exact ⟨vs, v, SqL.of (e _ _ h), hv⟩
  stop := fun i Hc e hi => ⟨vs, SqL.of (e _ _ h), by rw [D.length]; rw [enumD_len] at hi; exact hi⟩
  yld := fun i Bc Hc z H' e1 e2 hi ⟨T, x, ez, hT, eH, hx⟩ => by
    subst eH
    subst ez
    obtain ⟨d1, hd1, Dx⟩ := D.get (hx vs (SqL.of (e2 _ _ (e1 _ _ h))))
    have g := gw_new (o := .tup [.int (i : Nat), x]) e2 hT
    exact ⟨_, .tup [.int (i : Nat), d1], g, enumD_at hd1, .tup upd_same (.cons (.int _) (.cons ((Dx.mono e1).mono g.1) .nil))⟩
theorem wk_enumT {a : Addr} {vs : List V} {xs : List Dt} (h : B a = some (.tup vs)) (D : SdA P w B vs xs) : Wk P w (ItEt K a) B (enumD xs) where
  go := fun i Hc e hi => by
    obtain ⟨d, hd⟩ := lt_get (l := xs) (by rw [enumD_len] at hi; exact hi)
    obtain ⟨v, hv, _⟩ := D.at hd
    exact ⟨vs, v, SqT.of (e _ _ h), hv⟩
  stop := fun i Hc e hi => ⟨vs, SqT.of (e _ _ h), by rw [D.length]; rw [enumD_len] at hi; exact hi⟩
  yld := fun i Bc Hc z H' e1 e2 hi ⟨T, x, ez, hT, eH, hx⟩ => by
    subst eH
    subst ez
    obtain ⟨d1, hd1, Dx⟩ := D.get (hx vs (SqT.of (e2 _ _ (e1 _ _ h))))
    have g := gw_new (o := .tup [.int (i : Nat), x]) e2 hT
    exact ⟨_, .tup [.int (i : Nat), d1], g, enumD_at hd1, .tup upd_same (.cons (.int _) (.cons ((Dx.mono e1).mono g.1) .nil))⟩
theorem wk_enumZ {a b : Addr} {vs us : List V} {xs ys : List Dt} (h : B a = some (.tup vs)) (D : SdA P w B vs xs) (h2 : B b = some (.tup us)) (D2 : SdA P w B us ys) : Wk P w (ItE K a b) B (enumD (zipD xs ys)) where
  go := fun i Hc e hi => by
    obtain ⟨l1, l2⟩ := zipD_lt (by rw [enumD_len] at hi; exact hi)
    obtain ⟨x, hx⟩ := lt_get l1
    obtain ⟨y, hy⟩ := lt_get l2
    obtain ⟨v, hv, _⟩ := D.at hx
    obtain ⟨u, hu, _⟩ := D2.at hy
    exact ⟨vs, us, v, u, SqT.of (e _ _ h), SqT.of (e _ _ h2), hv, hu⟩
  stop := fun i Hc e hi => ⟨vs, us, SqT.of (e _ _ h), SqT.of (e _ _ h2), by rw [D.length, D2.length]; rw [enumD_len] at hi; exact zipD_ge hi⟩
  yld := fun i Bc Hc z H' e1 e2 hi ⟨T, U, x, y, ez, hT, hU, ne, eH, hx, hy⟩ => by
    subst eH
    subst ez
    obtain ⟨d1, hd1, Dx⟩ := D.get (hx vs (SqT.of (e2 _ _ (e1 _ _ h))))
    obtain ⟨d2, hd2, Dy⟩ := D2.get (hy us (SqT.of (e2 _ _ (e1 _ _ h2))))
    have g := gw_new (o := .tup [x, y]) e2 hT
    have g2 := gw_new (o := .tup [.int (i : Nat), .ref T]) g.2.1 (p := U) (by rw [upd_ne (Ne.symm ne)]; exact hU)
    exact ⟨_, .tup [.int (i : Nat), .tup [d1, d2]], g.trans g2, enumD_at (zipD_at hd1 hd2),
      .tup upd_same (.cons (.int _) (.cons (Sd.mono g2.1 (.tup upd_same (.cons ((Dx.mono e1).mono g.1) (.cons ((Dy.mono e1).mono g.1) .nil)))) .nil))⟩
def itemsD (kvs : List (Kp × Fg)) : List Dt := kvs.map fun q => Dt.tup [keyD q.1, fgD q.2]
theorem fgall_get {vs : List (Kp × V)} {kvs : List (Kp × Fg)} (r : FgAll B vs kvs) : ∀ {i : Nat} {p : Kp} {v : V}, vs[i]? = some (p, v) → ∃ f, kvs[i]? = some (p, f) ∧ FgAt B v f := by
  induction r with
  | nil => intro i p v h; simp at h
  | @cons q y vs kvs h r ih =>
    intro i p v e
    cases i with
    | zero =>
      have e' : q = (p, v) := Option.some.inj e
      subst e'
      exact ⟨y.2, (by show some y = some (p, y.2); rw [show p = y.1 from h.1]), h.2⟩
    | succ i => exact ih (i := i) e
theorem wk_items {d : Addr} {o : Obj} {vs : List (Kp × V)} {kvs : List (Kp × Fg)} (h : B d = some (dO d o)) (D : DE P w B o vs) (F : FgAll B vs kvs) : Wk P w (ItN B d o vs) B (itemsD kvs) where
  go := fun i Hc e hi => ⟨e _ _ h, by rw [Paired.length F]; simpa [itemsD] using hi⟩
  stop := fun i Hc e hi => ⟨e _ _ h, by rw [Paired.length F]; simpa [itemsD] using hi⟩
  yld := fun i Bc Hc z H' e1 e2 hi ⟨T, a, p, v, hv, ka, ez, hT, eH⟩ => by
    subst eH
    subst ez
    obtain ⟨f, hf, fa⟩ := fgall_get F hv
    have g := gw_new (o := .tup [.ref a, v]) e2 hT
    refine ⟨_, .tup [keyD p, fgD f], g, ?_, .tup upd_same (.cons (key_sd (ka.mono (e1.trans g.1))) (.cons (fg_sd (fa.mono (e1.trans g.1))) .nil))⟩
    unfold itemsD
    rw [List.getElem?_map, hf]
    rfl
/-! the walks by expressions -/
theorem evi_list {Po : List Dt → DS → Prop} (h : EV P w te s fun d s1 => ∃ ds, d = .lst ds ∧ Po ds s1) : EVI P w (iList K te) s Po := fun A B H σ S R q =>
  h A B H σ S _ fun v B1 H1 d s1 S1 M1 D1 ⟨ds, e, po⟩ => by
    subst e
    obtain ⟨a, us, rfl, ha, D⟩ := sd_lst D1
    exact ⟨a, rfl, ⟨us, SqL.of (S1.bh _ _ ha)⟩, q _ B1 H1 ds s1 S1 M1 (wk_list ha D) po⟩
theorem evi_tup {Po : List Dt → DS → Prop} (h : EV P w te s fun d s1 => ∃ ds, d = .tup ds ∧ Po ds s1) : EVI P w (iTup K te) s Po := fun A B H σ S R q =>
  h A B H σ S _ fun v B1 H1 d s1 S1 M1 D1 ⟨ds, e, po⟩ => by
    subst e
    obtain ⟨a, us, rfl, ha, D⟩ := sd_seq D1
    exact ⟨a, rfl, ⟨us, SqT.of (S1.bh _ _ ha)⟩, q _ B1 H1 ds s1 S1 M1 (wk_tup ha D) po⟩
theorem evi_l {w1 w2 : TI} {Po : List Dt → DS → Prop} (h : EVI P w w1 s Po) : EVI P w (fun σ H R => w1 σ H R ∨ w2 σ H R) s Po := fun A B H σ S R q => .inl (h A B H σ S R q)
theorem evi_r {w1 w2 : TI} {Po : List Dt → DS → Prop} (h : EVI P w w2 s Po) : EVI P w (fun σ H R => w1 σ H R ∨ w2 σ H R) s Po := fun A B H σ S R q => .inr (h A B H σ S R q)
theorem evi_rng1 {Po : List Dt → DS → Prop} (h : EV P w te s fun d s1 => ∃ j : Int, d = .int j ∧ -(2 ^ 62) ≤ j ∧ j < 2 ^ 62 ∧ Po ((List.range j.toNat).map fun k : Nat => Dt.int (0 + k)) s1) : EVI P w (iRng1 (tCons te tNil)) s Po := fun A B H σ S R q =>
  h A B H σ S _ fun v B1 H1 d s1 S1 M1 D1 ⟨j, e, h1, h2, po⟩ => by
    subst e
    cases D1
    exact ⟨j, rfl, h1, h2, q _ B1 H1 _ s1 S1 M1 wk_rng po⟩
theorem evi_rng2 {Po : List Dt → DS → Prop} (h : EV P w ta s fun d s1 => EV P w te s1 fun d2 s2 => ∃ i j : Int, d = .int i ∧ d2 = .int j ∧ (-(2 ^ 62) ≤ i ∧ i < 2 ^ 62 ∧ -(2 ^ 62) ≤ j ∧ j < 2 ^ 62) ∧ Po ((List.range (j - i).toNat).map fun k : Nat => Dt.int (i + k)) s2) : EVI P w (iRng2 (tCons ta (tCons te tNil))) s Po := fun A B H σ S R q =>
  h A B H σ S _ fun v B1 H1 d s1 S1 M1 D1 h1 => h1 A B1 H1 σ S1 _ fun v2 B2 H2 d2 s2 S2 M2 D2 ⟨i, j, e, e2, hb, po⟩ => by
    subst e
    subst e2
    cases D1
    cases D2
    exact ⟨i, j, rfl, hb, q _ B2 H2 _ s2 S2 (M1.trans M2) wk_rng po⟩
theorem evi_zipT {Po : List Dt → DS → Prop} (h : EV P w ta s fun d s1 => EV P w te s1 fun d2 s2 => ∃ xs ys, d = .tup xs ∧ d2 = .tup ys ∧ Po (zipD xs ys) s2) : EVI P w (RZ.iZipA K (tCons ta (tCons te tNil))) s Po := fun A B H σ S R q =>
  h A B H σ S _ fun v B1 H1 d s1 S1 M1 D1 h1 => h1 A B1 H1 σ S1 _ fun v2 B2 H2 d2 s2 S2 M2 D2 ⟨xs, ys, e, e2, po⟩ => by
    subst e
    subst e2
    obtain ⟨a, us, rfl, ha, Da⟩ := sd_seq (D1.mono M2.same)
    obtain ⟨b, vs, rfl, hb, Db⟩ := sd_seq D2
    exact ⟨a, b, us, vs, rfl, .inr ⟨SqT.of (S2.bh _ _ ha), SqT.of (S2.bh _ _ hb), q _ B2 H2 _ s2 S2 (M1.trans M2) (wk_zipT ha Da hb Db) po⟩⟩
theorem evi_zipL {Po : List Dt → DS → Prop} (h : EV P w ta s fun d s1 => EV P w te s1 fun d2 s2 => ∃ xs ys, d = .lst xs ∧ d2 = .lst ys ∧ Po (zipD xs ys) s2) : EVI P w (RZ.iZipA K (tCons ta (tCons te tNil))) s Po := fun A B H σ S R q =>
  h A B H σ S _ fun v B1 H1 d s1 S1 M1 D1 h1 => h1 A B1 H1 σ S1 _ fun v2 B2 H2 d2 s2 S2 M2 D2 ⟨xs, ys, e, e2, po⟩ => by
    subst e
    subst e2
    obtain ⟨a, us, rfl, ha, Da⟩ := sd_lst (D1.mono M2.same)
    obtain ⟨b, vs, rfl, hb, Db⟩ := sd_lst D2
    exact ⟨a, b, us, vs, rfl, .inl ⟨SqL.of (S2.bh _ _ ha), SqL.of (S2.bh _ _ hb), q _ B2 H2 _ s2 S2 (M1.trans M2) (wk_zipL ha Da hb Db) po⟩⟩
theorem evi_enumZ {Po : List Dt → DS → Prop} (h : EV P w ta s fun d s1 => EV P w te s1 fun d2 s2 => ∃ xs ys, d = .tup xs ∧ d2 = .tup ys ∧ Po (enumD (zipD xs ys)) s2) : EVI P w (iEnumZ K (tCons ta (tCons te tNil))) s Po := fun A B H σ S R q =>
  h A B H σ S _ fun v B1 H1 d s1 S1 M1 D1 h1 => h1 A B1 H1 σ S1 _ fun v2 B2 H2 d2 s2 S2 M2 D2 ⟨xs, ys, e, e2, po⟩ => by
    subst e
    subst e2
    obtain ⟨a, us, rfl, ha, Da⟩ := sd_seq (D1.mono M2.same)
    obtain ⟨b, vs, rfl, hb, Db⟩ := sd_seq D2
    exact ⟨a, b, us, vs, rfl, SqT.of (S2.bh _ _ ha), SqT.of (S2.bh _ _ hb), q _ B2 H2 _ s2 S2 (M1.trans M2) (wk_enumZ ha Da hb Db) po⟩
theorem evi_enumL {Po : List Dt → DS → Prop} (h : EV P w te s fun d s1 => ∃ xs, d = .lst xs ∧ Po (enumD xs) s1) : EVI P w (iEnum K (tCons te tNil)) s Po := fun A B H σ S R q =>
  h A B H σ S _ fun v B1 H1 d s1 S1 M1 D1 ⟨xs, e, po⟩ => by
    subst e
    obtain ⟨a, us, rfl, ha, Da⟩ := sd_lst D1
    exact ⟨a, us, rfl, SqL.of (S1.bh _ _ ha), q _ B1 H1 _ s1 S1 M1 (wk_enumL ha Da) po⟩
theorem evi_enumT {Po : List Dt → DS → Prop} (h : EV P w te s fun d s1 => ∃ xs, d = .tup xs ∧ Po (enumD xs) s1) : EVI P w (iEnumT K (tCons te tNil)) s Po := fun A B H σ S R q =>
  h A B H σ S _ fun v B1 H1 d s1 S1 M1 D1 ⟨xs, e, po⟩ => by
    subst e
    obtain ⟨a, us, rfl, ha, Da⟩ := sd_seq D1
    exact ⟨a, us, rfl, SqT.of (S1.bh _ _ ha), q _ B1 H1 _ s1 S1 M1 (wk_enumT ha Da) po⟩
theorem evi_items {Po : List Dt → DS → Prop} (h : EV P w te s fun d s1 => ∃ kvs, d = .dct kvs ∧ Po (itemsD kvs) s1) : EVI P w (iItemsN P w te) s Po := fun A B H σ S R q =>
  h A B H σ S _ fun v B1 H1 d s1 S1 M1 D1 ⟨kvs, e, po⟩ => by
    subst e
    cases D1 with
    | @dct d o vs _ g1 g2 g3 g4 g5 => exact ⟨B1, d, o, vs, rfl, S1.bh _ _ g1, g2, g4, q _ B1 H1 _ s1 S1 M1 (wk_items g1 g4 g5) po⟩
end
end DK

/-! ## G6 -/
namespace DK
open PySem PySem.Spec PyProof.Rows L2
/-! # Targets, comprehensions, statements -/
structure GA (P : Program) (w : World) (g : TG) (d : Dt) (s s' : DS) (is : List Nat) : Prop where
  run : ∀ (A : Anc) (B H : Hp) (σ : L2.St) (v : V), SW P w A B H σ s → Sd P w B v d → ∀ Q : L2.St → Hp → Prop,
    (∀ σ', SW P w A B H σ' s' → (∀ p, Own s'.ε σ' p → Own s.ε σ p) → (∀ i : Nat, i ∉ is → σ'[i]? = σ[i]?) → σ'.length = σ.length → Q σ' H) → g v σ H Q
  keep : ∀ j : Nat, j ∉ is → s'.ε[j]? = s.ε[j]?
  n : s'.n = s.n
structure GAs (P : Program) (w : World) (g : TGs) (ds : List Dt) (s s' : DS) (is : List Nat) : Prop where
  run : ∀ (A : Anc) (B H : Hp) (σ : L2.St) (vs : List V), SW P w A B H σ s → SdA P w B vs ds → ∀ Q : L2.St → Hp → Prop,
    (∀ σ', SW P w A B H σ' s' → (∀ p, Own s'.ε σ' p → Own s.ε σ p) → (∀ i : Nat, i ∉ is → σ'[i]? = σ[i]?) → σ'.length = σ.length → Q σ' H) → g vs σ H Q
  keep : ∀ j : Nat, j ∉ is → s'.ε[j]? = s.ε[j]?
  n : s'.n = s.n
section
variable {P : Program} {w : World} {K : PySem.W.Frag} {A : Anc} {B H B' H' : Hp} {σ σ' : L2.St} {s s' s1 s2 : DS} {i : Nat} {te ta tb tk : TE} {d : Dt} {g : TG} {gs : TGs} {ds : List Dt} {is js : List Nat}
theorem ga_name (hi : i < s.ε.length) : GA P w (gName i) d s (s.put i (.val d)) [i] where
  run := fun A B H σ v S D Q q => q _ (S.put hi D) (fun p => Own.put_val) (fun j hj => List.getElem?_set_ne (fun e => hj (by rw [← e]; exact List.mem_singleton.mpr rfl))) (List.length_set ..)
  keep := fun j hj => List.getElem?_set_ne (fun e => hj (by rw [← e]; exact List.mem_singleton.mpr rfl))
  n := rfl
theorem gas_nil : GAs P w gNil [] s s [] where
  run := fun A B H σ v S D Q q => by
    cases D
    exact ⟨rfl, q σ S (fun _ h => h) (fun _ _ => rfl) rfl⟩
  keep := fun _ _ => rfl
  n := rfl
theorem gas_cons (h1 : GA P w g d s s1 is) (h2 : GAs P w gs ds s1 s2 js) : GAs P w (gCons g gs) (d :: ds) s s2 (is ++ js) where
  run := fun A B H σ vs S D Q q => by
    cases D with
    | cons D1 D2 =>
      exact ⟨_, _, rfl, h1.run A B H σ _ S D1 _ fun σ1 S1 o1 k1 l1 => h2.run A B H σ1 _ S1 D2 _ fun σ2 S2 o2 k2 l2 =>
        q σ2 S2 (fun p z => o1 p (o2 p z)) (fun j hj => (k2 j fun z => hj (List.mem_append.mpr (.inr z))).trans (k1 j fun z => hj (List.mem_append.mpr (.inl z)))) (l2.trans l1)⟩
  keep := fun j hj => (h2.keep j fun z => hj (List.mem_append.mpr (.inr z))).trans (h1.keep j fun z => hj (List.mem_append.mpr (.inl z)))
  n := h2.n.trans h1.n
theorem ga_tup {n : Nat} (hn : ds.length = n) (h : GAs P w gs ds s s1 is) : GA P w (gTup K n gs) (.tup ds) s s1 is where
  run := fun A B H σ v S D Q q => by
    obtain ⟨a, vs, rfl, ha, Da⟩ := sd_seq D
    exact ⟨a, vs, rfl, SqT.of (S.bh _ _ ha), Da.length.trans hn, h.run A B H σ vs S Da Q q⟩
  keep := h.keep
  n := h.n
/-- pairs, triples of names -/
theorem ga_tup2 {i j : Nat} {x y : Dt} (hi : i < s.ε.length) (hj : j < s.ε.length) : GA P w (gTup K 2 (gCons (gName i) (gCons (gName j) gNil))) (.tup [x, y]) s ((s.put i (.val x)).put j (.val y)) [i, j] :=
  ga_tup rfl (gas_cons (ga_name hi) (gas_cons (ga_name (by unfold DS.put; rw [List.length_set]; exact hj)) gas_nil))
theorem put_len {sl : Sl} : (s.put i sl).ε.length = s.ε.length := List.length_set ..
/-! ### wiped slots -/
theorem wipe_none {vs : List Nat} {i : Nat} (h : i ∈ vs) (hi : i < σ.length) : (wipe σ vs)[i]? = some none := by
  induction vs with
  | nil => cases h
  | cons v vs ih =>
    show ((wipe σ vs).set v none)[i]? = some none
    by_cases e : v = i
    · rw [e, List.getElem?_set, if_pos rfl, if_pos (by rw [wipe_length]; exact hi)]
    · rw [List.getElem?_set_ne e]
      rcases List.mem_cons.mp h with z | z
      · exact absurd z.symm e
      · exact ih z
theorem wipe_eq {vs : List Nat} (hl : σ'.length = σ.length) (h : ∀ i : Nat, i ∉ vs → σ'[i]? = (wipe σ vs)[i]?) : wipe σ' vs = wipe σ vs := by
  apply List.ext_getElem?
  intro i
  by_cases hv : i ∈ vs
  · by_cases hi : i < σ.length
    · rw [wipe_none hv hi, wipe_none hv (by rw [hl]; exact hi)]
    · rw [List.getElem?_eq_none (by rw [wipe_length]; omega), List.getElem?_eq_none (by rw [wipe_length]; omega)]
  · rw [wipe_out hv]
    exact h i hv
theorem Mw.upd {O O' : Addr → Prop} {D : Addr} {o : HO} (M : Mw A O B H O' B' H') (h : H D = none) : Mw A O B H O' B' (upd H' D o) where
  same := M.same
  fx := fun b u n no e => by
    rw [upd_ne (ne_of_none e h)]
    exact M.fx b u n no e
  sub := M.sub
  there := fun b n => by
    rw [upd_ne (fun q => n (by rw [q]; exact h))]
    exact M.there b n
  hid := M.hid
/-- something that no slot owns is changed -/
theorem SW.chgHid (S : SW P w A B H σ s) {D : Addr} (hd : Hid A B D) (no : ¬ Own s.ε σ D) (o : HO) : SW P w A B (upd H D o) σ s where
  gw := ⟨S.gw.1, fun b u e => by rw [upd_ne (ne_of_none e hd.2.1)]; exact S.gw.2.1 b u e, fun b u n e => by rw [upd_ne (ne_of_none e hd.1)]; exact S.gw.2.2.1 b u n e, fun b n => by
    rw [upd_ne (fun q => n (by rw [q]; exact hd.1))]
    exact S.gw.2.2.2 b n⟩
  len := S.len
  tin := fun tt e => by
    obtain ⟨a, b, c, h1, r⟩ := S.tin tt e
    exact ⟨a, b, c, by rw [upd_ne (fun q => hd.2.2 (by rw [e, q]))]; exact h1, r⟩
  tinB := S.tinB
  slot := fun i sl e => by
    have y := S.slot i sl e
    cases sl with
    | val d => exact y
    | own ds =>
      obtain ⟨a, us, f1, f2, f3, f4⟩ := y
      exact ⟨a, us, f1, f2, by rw [upd_ne (fun z => no ⟨i, by rw [← z]; exact f1, .inl ⟨ds, e⟩⟩)]; exact f3, f4⟩
    | odc kvs =>
      obtain ⟨a, ob, us, f1, f2, f3, f4⟩ := y
      exact ⟨a, ob, us, f1, f2, by rw [upd_ne (fun z => no ⟨i, by rw [← z]; exact f1, .inr ⟨kvs, e⟩⟩)]; exact f3, f4⟩
    | tin => exact y
    | scr K ns => exact y
  apart := S.apart
/-! ### [elt for tg in iter if ..] -/
theorem evn_lc {wi : TI} {tt : TT} {vs : List Nat} {Po : List Dt → DS → Prop}
    (h : EVI P w wi s fun ds s1 => (∀ i ∈ vs, s1.ε[i]? = some none) ∧ ds.length ≤ 100000 ∧ ∃ I : Nat → List Dt → Nat → Prop, I 0 [] s1.n ∧
      (∀ i acc n d, ds[i]? = some d → I i acc n → ∃ s2 is, GA P w g d { s1 with n := n } s2 is ∧ (∀ j ∈ is, j ∈ vs) ∧
        EVT P w tt s2 fun b s3 => s3.ε = s2.ε ∧ if b = true then EV P w te s3 fun y s4 => s4.ε = s2.ε ∧ I (i + 1) (acc ++ [y]) s4.n else I (i + 1) acc s3.n) ∧
      ∀ acc n, I ds.length acc n → Po acc { s1 with n := n }) : EVN P w (tLc wi g tt te vs) s Po := fun A B H σ S Q q => by
  refine h A B H σ S _ fun J B1 H1 ds s1 S1 M1 wk ⟨hu, hz, I, i0, step, fin⟩ D hD => ?_
  obtain ⟨S2, M2, hd, no⟩ := S1.layO (.lst []) hD
  have out : ∀ (i : Nat) (sl : Sl), s1.ε[i]? = some (some sl) → i ∉ vs := fun i sl e z => by
    rw [hu i z] at e
    cases e
  have toW : ∀ (i : Nat) (sl : Sl), s1.ε[i]? = some (some sl) → s1.ε[i]? = some (some sl) ∧ (wipe σ vs)[i]? = σ[i]? := fun i sl e => ⟨e, wipe_out (out i sl e)⟩
  have ofW : ∀ (i : Nat) (sl : Sl), s1.ε[i]? = some (some sl) → s1.ε[i]? = some (some sl) ∧ σ[i]? = (wipe σ vs)[i]? := fun i sl e => ⟨e, (wipe_out (out i sl e)).symm⟩
  have lenW : s1.ε.length = (wipe σ vs).length := by rw [wipe_length]; exact S1.len
  refine ⟨fun i m Hc => m + i = ds.length ∧ ∃ Bc accV acc n, SW P w A Bc Hc (wipe σ vs) { s1 with n := n } ∧ Mw A (Own s1.ε (wipe σ vs)) B1 H1 (Own s1.ε (wipe σ vs)) Bc Hc ∧ Hid A Bc D ∧ Hc D = some (.lst accV) ∧ SdA P w Bc accV acc ∧ acc.length ≤ i ∧ I i acc n, ?_, ?_⟩
  · refine ⟨ds.length, Nat.add_zero _, B1, [], [], s1.n, S2.sub (s' := { s1 with n := s1.n }) lenW rfl toW, ?_, hd, upd_same, .nil, Nat.le_refl _, i0⟩
    exact Mw.refl.upd hD
  intro i m Hc ⟨hm, Bc, accV, acc, n, S3, M3, hd3, hl3, D3, ha3, i3⟩
  by_cases hi : i < ds.length
  · right
    refine ⟨wk.go i Hc (M3.same.trans S3.bh) hi, fun H' => m - 1 + (i + 1) = ds.length ∧ ∃ Bc accV acc n, SW P w A Bc H' (wipe σ vs) { s1 with n := n } ∧ Mw A (Own s1.ε (wipe σ vs)) B1 H1 (Own s1.ε (wipe σ vs)) Bc H' ∧ Hid A Bc D ∧ H' D = some (.lst accV) ∧ SdA P w Bc accV acc ∧ acc.length ≤ i + 1 ∧ I (i + 1) acc n,
      fun H' N => ⟨m - 1, by omega, N⟩, fun x H' hy => ?_⟩
    obtain ⟨B', d, gx, hdx, Dx⟩ := wk.yld i Bc Hc x H' M3.same S3.bh hi hy
    obtain ⟨s2, is, G, sub, ht⟩ := step i acc n d hdx i3
    have S4 := S3.grow gx
    refine G.run A B' H' _ x S4 Dx _ fun σ2 S5 o5 k5 l5 => ?_
    have e5 : wipe σ2 vs = wipe σ vs := wipe_eq (by rw [l5, wipe_length]) fun j hj => k5 j fun z => hj (sub j z)
    refine ⟨e5, ht A B' H' σ2 S5 _ fun b B6 H6 s6 S6 M6 ⟨e6, p6⟩ => ?_⟩
    have noW : ¬ Own s1.ε (wipe σ vs) D := fun z => no (Own.sub (s' := s1) (s := s1) toW z)
    have no5 : ¬ Own s2.ε σ2 D := fun z => noW (o5 D z)
    have hd4 : Hid A B' D := ⟨hd3.1, (gx.2.2.2 D (by rw [hl3]; exact fun z => nomatch z)).2 hd3.2.1, hd3.2.2⟩
    have hl4 : H' D = some (.lst accV) := gx.2.2.1 _ _ (fun z => nomatch z) hl3
    have hl6 : H6 D = some (.lst accV) := M6.fx D _ hd4.2.2 no5 hl4
    have hd6 : Hid A B6 D := ⟨hd4.1, M6.hid D (by rw [hl4]; exact fun z => nomatch z) hd4.2.1 no5, hd4.2.2⟩
    have back : ∀ (s7 : DS), s7.ε = s2.ε → ∀ (i : Nat) (sl : Sl), s1.ε[i]? = some (some sl) → s7.ε[i]? = some (some sl) ∧ (wipe σ vs)[i]? = σ2[i]? := fun s7 e7 i sl e => by
      have hv := out i sl e
      have nis : i ∉ is := fun z => hv (sub i z)
      exact ⟨by rw [e7, G.keep i nis]; exact e, (k5 i nis).symm⟩
    have MwO : ∀ {Bx Hx : Hp} (s7 : DS), s7.ε = s2.ε → Mw A (Own s2.ε σ2) B' H' (Own s7.ε σ2) Bx Hx → Mw A (Own s1.ε (wipe σ vs)) B1 H1 (Own s1.ε (wipe σ vs)) Bx Hx := fun {Bx Hx} s7 e7 M =>
      (M3.trans (.grow gx)).trans (M.wide o5 (fun _ z => z))
    cases b with
    | false =>
      rw [if_neg (by decide)] at p6 ⊢
      exact ⟨by omega, B6, accV, acc, s6.n, S6.sub lenW rfl (back s6 e6), MwO s6 e6 M6, hd6, hl6, D3.mono (gx.1.trans M6.same), Nat.le_succ_of_le ha3, p6⟩
    | true =>
      rw [if_pos rfl] at p6 ⊢
      refine p6 A B6 H6 σ2 S6 _ fun y B7 H7 d7 s7 S7 M7 D7 ⟨e7, i7⟩ => ?_
      have M67 := M6.trans M7
      have hl7 : H7 D = some (.lst accV) := M67.fx D _ hd4.2.2 no5 hl4
      have hd7 : Hid A B7 D := ⟨hd4.1, M67.hid D (by rw [hl4]; exact fun z => nomatch z) hd4.2.1 no5, hd4.2.2⟩
      refine ⟨accV, hl7, ?_, by omega, B7, accV ++ [y], acc ++ [d7], s7.n, ?_, (MwO s7 e7 M67).upd hD, hd7, upd_same, SdA.append (D3.mono (gx.1.trans M67.same)) (.cons D7 .nil), by rw [List.length_append]; exact Nat.succ_le_succ ha3, i7⟩
      · rw [D3.length, sizeLine_eq]
        omega
      · exact (S7.sub (s' := { s1 with n := s7.n }) lenW rfl (back s7 e7)).chgHid hd7 noW _
  · left
    have hi' : i = ds.length := by omega
    subst hi'
    refine ⟨wk.stop _ Hc (M3.same.trans S3.bh) (Nat.le_refl _), ?_⟩
    have ML : Mv A σ s1 B1 H1 { s1 with n := n } Bc Hc := M3.wide (fun p z => Own.sub (s' := s1) (s := s1) toW z) (fun p z => z)
    exact q D accV Bc Hc acc { s1 with n := n } (S3.sub (s' := { s1 with n := n }) S1.len rfl ofW) (M1.trans ML) hd3 (SW.fresh0 M1 hD) hl3 D3 no (fin acc n i3)
/-- the plain form: each item to a value, no tests, nothing drawn -/
theorem edn_map {wi : TI} {vs : List Nat} {ys : List Dt} (hu : ∀ i ∈ vs, s.ε[i]? = some none) (h : EVI P w wi s fun ds s1 => s1 = s ∧ ds.length ≤ 100000 ∧ ds.length = ys.length ∧
      ∀ (i : Nat) (d : Dt), ds[i]? = some d → ∃ y s2 is, ys[i]? = some y ∧ GA P w g d s s2 is ∧ (∀ j ∈ is, j ∈ vs) ∧ ED P w te s2 y) : EDN P w (tLc wi g tYes te vs) s ys := by
  refine evn_lc fun A B H σ S R q => h A B H σ S R fun J B1 H1 ds s1 S1 M1 wk ⟨e, hz, hl, step⟩ => q J B1 H1 ds s1 S1 M1 wk ⟨by rw [e]; exact hu, hz, fun i acc n => acc = ys.take i ∧ n = s.n, ⟨by simp, by rw [e]⟩, fun i acc n d hd ⟨ea, en⟩ => ?_, fun acc n ⟨ea, en⟩ => ⟨by rw [ea, hl, List.take_length], by rw [e, en]⟩⟩
  obtain ⟨y, s2, is, hy, G, sub, hE⟩ := step i d hd
  have es : ({ s1 with n := n } : DS) = s := by rw [e, en]
  refine ⟨s2, is, by rw [es]; exact G, sub, fun A B H σ S Q q => q true B H s2 S .refl ⟨rfl, ?_⟩⟩
  rw [if_pos rfl]
  refine hE.imp fun d' s' ⟨e1, e2⟩ => ⟨by rw [e2], ?_, by rw [e2, G.n]⟩
  rw [ea, e1, List.take_succ, hy]
  rfl
end
end DK

/-! ## G7 -/
namespace DK
open PySem PySem.Spec PyProof.Rows L2
/-! # Statements -/
/-- what a statement does: N behind it, C at a continue, R at a return -/
def EX (P : Program) (w : World) (ts : TS) (s : DS) (N C : DS → Prop) (R : Dt → DS → Prop) : Prop := ∀ (A : Anc) (B H : Hp) (σ : L2.St), SW P w A B H σ s → ∀ D : Ends,
  (∀ σ' B' H' s', SW P w A B' H' σ' s' → Same B B' → N s' → D.nx σ' H') → (∀ σ' B' H' s', SW P w A B' H' σ' s' → Same B B' → C s' → D.ct σ' H') →
  (∀ v B' H' d σ' s', SW P w A B' H' σ' s' → Sd P w B' v d → R d s' → D.rt v H') → ts D σ H
section
variable {P : Program} {w : World} {K : PySem.W.Frag} {A : Anc} {B H B' H' : Hp} {σ σ' : L2.St} {s s' s1 s2 : DS} {i j : Nat} {te ta tb tk : TE} {d : Dt} {g : TG} {ts tu tv : TS} {N C : DS → Prop} {R : Dt → DS → Prop}
theorem EX.imp {N' C' : DS → Prop} {R' : Dt → DS → Prop} (h : EX P w ts s N C R) (hN : ∀ s', N s' → N' s') (hC : ∀ s', C s' → C' s') (hR : ∀ d s', R d s' → R' d s') : EX P w ts s N' C' R' :=
  fun A B H σ S D n c r => h A B H σ S D (fun σ' B' H' s' S' e p => n σ' B' H' s' S' e (hN s' p)) (fun σ' B' H' s' S' e p => c σ' B' H' s' S' e (hC s' p)) (fun v B' H' d σ' s' S' e p => r v B' H' d σ' s' S' e (hR d s' p))
theorem ex_seq (h : EX P w ts s (fun s1 => EX P w tu s1 N C R) C R) : EX P w (tSeq ts tu) s N C R := fun A B H σ S D n c r =>
  h A B H σ S { D with nx := tu D } (fun σ1 B1 H1 s1 S1 e1 h1 => h1 A B1 H1 σ1 S1 D (fun σ2 B2 H2 s2 S2 e2 p => n σ2 B2 H2 s2 S2 (e1.trans e2) p) (fun σ2 B2 H2 s2 S2 e2 p => c σ2 B2 H2 s2 S2 (e1.trans e2) p) r) c r
theorem ex_next (h : N s) : EX P w tNext s N C R := fun A B H σ S D n c r => n σ B H s S (.refl _) h
theorem ex_cont (h : C s) : EX P w tCont s N C R := fun A B H σ S D n c r => c σ B H s S (.refl _) h
theorem ex_asg (h : EV P w te s fun d s1 => ∃ s2 is, GA P w g d s1 s2 is ∧ N s2) : EX P w (tAsg te g) s N C R := fun A B H σ S D n c r =>
  h A B H σ S _ fun v B1 H1 d s1 S1 M1 D1 ⟨s2, is, G, p⟩ => G.run A B1 H1 σ v S1 D1 _ fun σ2 S2 _ _ _ => n σ2 B1 H1 s2 S2 M1.same p
theorem ex_set (hi : i < s.ε.length) (h : EV P w te s fun d s1 => s1.ε.length = s.ε.length ∧ N (s1.put i (.val d))) : EX P w (tAsg te (gName i)) s N C R :=
  ex_asg (h.imp fun d s1 ⟨l, p⟩ => ⟨_, _, ga_name (by rw [l]; exact hi), p⟩)
theorem ex_setD (hi : i < s.ε.length) (h : ED P w te s d) (p : N (s.put i (.val d))) : EX P w (tAsg te (gName i)) s N C R := ex_set hi (h.to ⟨rfl, p⟩)
theorem ex_setOwn (h : EVN P w te s fun ds s1 => i < s1.ε.length ∧ N (s1.put i (.own ds))) : EX P w (tAsg te (gName i)) s N C R := fun A B H σ S D n c r =>
  h A B H σ S _ fun p vs B1 H1 ds s1 S1 M1 hp h0 hl D1 no ⟨hi, po⟩ => n _ B1 H1 _ (S1.putOwn hi hp hl D1 no) M1.same po
theorem ex_setOdc (h : EVK P w te s fun kvs s1 => i < s1.ε.length ∧ N (s1.put i (.odc kvs))) : EX P w (tAsg te (gName i)) s N C R := fun A B H σ S D n c r =>
  h A B H σ S _ fun p o vs B1 H1 kvs s1 S1 M1 hp h0 hl h1 h2 h3 h4 no ⟨hi, po⟩ => n _ B1 H1 _ (S1.putOdc hi hp hl h1 h2 h3 h4 no) M1.same po
theorem ex_ret (h : EV P w te s R) : EX P w (tRet te) s N C R := fun A B H σ S D n c r => h A B H σ S _ fun v B1 H1 d s1 S1 M1 D1 p => r v B1 H1 d σ s1 S1 D1 p
theorem ex_if {t : TT} (h : EVT P w t s fun b s1 => if b = true then EX P w ts s1 N C R else EX P w tu s1 N C R) : EX P w (tIfS t ts tu) s N C R := fun A B H σ S D n c r =>
  h A B H σ S _ fun b B1 H1 s1 S1 M1 p => by
    cases b with
    | true => rw [if_pos rfl] at p ⊢; exact p A B1 H1 σ S1 D (fun σ2 B2 H2 s2 S2 e2 => n σ2 B2 H2 s2 S2 (M1.same.trans e2)) (fun σ2 B2 H2 s2 S2 e2 => c σ2 B2 H2 s2 S2 (M1.same.trans e2)) r
    | false => rw [if_neg (by decide)] at p ⊢; exact p A B1 H1 σ S1 D (fun σ2 B2 H2 s2 S2 e2 => n σ2 B2 H2 s2 S2 (M1.same.trans e2)) (fun σ2 B2 H2 s2 S2 e2 => c σ2 B2 H2 s2 S2 (M1.same.trans e2)) r
theorem ex_ifD {t : TT} {b : Bool} (h : EDT P w t s b) (h1 : b = true → EX P w ts s N C R) (h2 : b = false → EX P w tu s N C R) : EX P w (tIfS t ts tu) s N C R := ex_if (h.to (by
  cases b with
  | true => rw [if_pos rfl]; exact h1 rfl
  | false => rw [if_neg (by decide)]; exact h2 rfl))
theorem ex_drop (h : EV P w te s fun _ s1 => N s1) : EX P w (tDrop te) s N C R := fun A B H σ S D n c r => h A B H σ S _ fun v B1 H1 d s1 S1 M1 D1 p => n σ B1 H1 s1 S1 M1.same p
/-- own.append(e) -/
theorem ex_app {ds0 : List Dt} (h0 : s.ε[i]? = some (some (.own ds0))) (h : EV P w te s fun d s1 => ∃ ds, s1.ε[i]? = some (some (.own ds)) ∧ ds.length < 100000 ∧ N (s1.put i (.own (ds ++ [d])))) :
    EX P w (tDrop (tBM K "list" rAppend (tVar i) (tCons te tNil))) s N C R := fun A B H σ S D n c r => by
  obtain ⟨a, vs, e, hp, hl, D0, ow⟩ := S.own h0
  refine ⟨.ref a, e, .inl ⟨rfl, vs, SqL.of hl⟩, h A B H σ S _ fun v B1 H1 d s1 S1 M1 D1 ⟨ds, h1, hz, p⟩ => ?_⟩
  obtain ⟨a', us, e', hp', hl', D', ow'⟩ := S1.own h1
  have ea : a' = a := by rw [e] at e'; injection e' with e'; injection e' with e'; injection e' with e'; exact e'.symm
  subst ea
  obtain ⟨S2, M2⟩ := S1.wr ow' hp' (by rw [hl']; exact fun z => nomatch z) (D'.append (.cons D1 .nil))
  exact ⟨a', us, v, rfl, rfl, hl', by rw [D'.length, sizeLine_eq]; omega, n σ _ _ _ S2 (M1.same.trans M2.same) p⟩
/-- own[e] = e' -/
theorem ex_setL (h : EV P w te s fun d s1 => EV P w tb s1 fun y s2 => ∃ (k : Int) (j : Nat) (ds : List Dt), (∃ ds0, s1.ε[i]? = some (some (.own ds0))) ∧ y = .int k ∧ s2.ε[i]? = some (some (.own ds)) ∧ ixN ds.length k = some j ∧ N (s2.put i (.own (ds.set j d)))) (hi : ∃ ds0, s.ε[i]? = some (some (.own ds0)))
    (hk : ∀ (A : Anc) (B H : Hp) (σ : L2.St), SW P w A B H σ s → ∃ a, σ[i]? = some (some (.ref a))) : EX P w (tAsg te (gSub (tVar i) tb L2.rSetL)) s N C R := fun A B H σ S D n c r => by
  obtain ⟨a0, e0⟩ := hk A B H σ S
  refine h A B H σ S _ fun v B1 H1 d s1 S1 M1 D1 h1 => ⟨.ref a0, e0, h1 A B1 H1 σ S1 _ fun v2 B2 H2 y s2 S2 M2 D2 ⟨k, j, ds, _, ey, h2, hj, p⟩ => ?_⟩
  subst ey
  cases D2
  obtain ⟨a', us, e', hp', hl', D', ow'⟩ := S2.own h2
  have ea : a' = a0 := by rw [e0] at e'; injection e' with e'; injection e' with e'; injection e' with e'; exact e'.symm
  subst ea
  obtain ⟨S3, M3⟩ := S2.wr ow' hp' (by rw [hl']; exact fun z => nomatch z) (D'.set (D1.mono M2.same) j)
  exact ⟨a', us, k, j, rfl, rfl, hl', by rw [D'.length]; exact hj, n σ _ _ _ S3 ((M1.same.trans M2.same).trans M3.same) p⟩
theorem ex_setLD {ds : List Dt} {k : Int} {j : Nat} (hi : s.ε[i]? = some (some (.own ds))) (h : ED P w te s d) (h2 : ED P w tb s (.int k)) (hj : ixN ds.length k = some j) (p : N (s.put i (.own (ds.set j d)))) : EX P w (tAsg te (gSub (tVar i) tb L2.rSetL)) s N C R :=
  ex_setL (h.to (h2.to ⟨k, j, ds, ⟨ds, hi⟩, rfl, hi, hj, p⟩)) ⟨ds, hi⟩ fun A B H σ S => let ⟨a, _, e, _⟩ := S.own hi; ⟨a, e⟩
/-- own dict[e] = e' -/
theorem ex_setND {kvs : List (Kp × Fg)} {p : Kp} {f : Fg} (hi : s.ε[i]? = some (some (.odc kvs))) (h : ED P w te s (fgD f)) (h2 : ED P w tk s (keyD p)) (hz : kvs.length < 100000) (hn : N (s.put i (.odc (putN kvs p f)))) : EX P w (tAsg te (gSub (tVar i) tk (rSetN P w))) s N C R := fun A B H σ S D n c r => by
  refine h A B H σ S _ fun v B1 H1 d s1 S1 M1 D1 ⟨e1, e2⟩ => ?_
  subst e1
  subst e2
  obtain ⟨d, o, vs, e, hp, hl, _⟩ := S1.odc hi
  refine ⟨.ref d, e, h2 A B1 H1 σ S1 _ fun v2 B2 H2 y s2 S2 M2 D2 ⟨e3, e4⟩ => ?_⟩
  subst e3
  subst e4
  obtain ⟨a, rfl, ka⟩ := sd_key D2
  obtain ⟨d', o', vs', e', hp', hl', q1, q2, q3, q4, ow⟩ := S2.odc hi
  have ea : d' = d := by rw [e] at e'; injection e' with e'; injection e' with e'; injection e' with e'; exact e'.symm
  subst ea
  have hl4 := Paired.length q4
  refine ⟨B2, a, d', p, vs', rfl, rfl, S2.bh, ka, ⟨o', hl', q1, q2, q3⟩, fun o2 D3 => ?_⟩
  have z : (putN vs' p v).length ≤ 100000 := Nat.le_trans putN_len (by omega)
  obtain ⟨S3, M3⟩ := S2.wrD ow hp' (by rw [hl']; exact fun z => nomatch z) q1 z D3 (fg_put q4 ((sd_fg D1).mono M2.same))
  exact n σ _ _ _ S3 ((M1.same.trans M2.same).trans M3.same) hn
/-! ### a, b = x, y -/
theorem ex_par (hi : i < s.ε.length) (hj : j < s.ε.length) (h : EV P w ta s fun x s1 => EV P w tb s1 fun y s2 => s2.ε.length = s.ε.length ∧ N ((s2.put i (.val x)).put j (.val y))) : EX P w (tPar i j (tCons ta (tCons tb tNil))) s N C R := fun A B H σ S D n c r =>
  h A B H σ S _ fun v B1 H1 x s1 S1 M1 D1 h1 => h1 A B1 H1 σ S1 _ fun u B2 H2 y s2 S2 M2 D2 ⟨l, p⟩ =>
    ⟨v, u, rfl, n _ B2 H2 _ ((S2.put (by rw [l]; exact hi) (D1.mono M2.same)).put (by rw [put_len, l]; exact hj) D2) (M1.same.trans M2.same) p⟩
/-- the second a new list -/
theorem ex_parVN (hi : i < s.ε.length) (hj : j < s.ε.length) (h : EV P w ta s fun x s1 => EVN P w tb s1 fun ds s2 => s2.ε.length = s.ε.length ∧ N ((s2.put i (.val x)).put j (.own ds))) : EX P w (tPar i j (tCons ta (tCons tb tNil))) s N C R := fun A B H σ S D n c r =>
  h A B H σ S _ fun v B1 H1 x s1 S1 M1 D1 h1 => h1 A B1 H1 σ S1 _ fun p us B2 H2 ds s2 S2 M2 hp h0 hl D2 no ⟨l, po⟩ =>
    ⟨v, .ref p, rfl, n _ B2 H2 _ ((S2.put (by rw [l]; exact hi) (D1.mono M2.same)).putOwn (by rw [put_len, l]; exact hj) hp hl D2 fun z => no (Own.put_val z)) (M1.same.trans M2.same) po⟩
/-- both new lists -/
theorem ex_parNN (hi : i < s.ε.length) (hj : j < s.ε.length) (h : EVN P w ta s fun x s1 => EVN P w tb s1 fun ds s2 => s2.ε.length = s.ε.length ∧ N ((s2.put i (.own x)).put j (.own ds))) : EX P w (tPar i j (tCons ta (tCons tb tNil))) s N C R := fun A B H σ S D n c r =>
  h A B H σ S _ fun p us B1 H1 x s1 S1 M1 hp h0 hl D1 no h1 => h1 A B1 H1 σ S1 _ fun p2 us2 B2 H2 ds s2 S2 M2 hp2 h02 hl2 D2 no2 ⟨l, po⟩ => by
    have hl' : H2 p = some (.lst us) := M2.fx p _ hp.2.2 no hl
    have hp' : Hid A B2 p := ⟨hp.1, M2.hid p (by rw [hl]; exact fun z => nomatch z) hp.2.1 no, hp.2.2⟩
    have no' : ¬ Own s2.ε σ p := fun z => no (M2.sub p z)
    have ne : p2 ≠ p := fun z => by rw [z, hl] at h02; cases h02
    exact ⟨.ref p, .ref p2, rfl, n _ B2 H2 _ ((S2.putOwn (by rw [l]; exact hi) hp' hl' (D1.mono M2.same) no').putOwn (by rw [put_len, l]; exact hj) hp2 hl2 D2 fun z => by
      rcases Own.put_own z with z | z
      · exact ne z
      · exact no2 z) (M1.same.trans M2.same) po⟩
/-- the first a new list -/
theorem ex_parNV (hi : i < s.ε.length) (hj : j < s.ε.length) (hij : i ≠ j) (h : EVN P w ta s fun x s1 => EV P w tb s1 fun y s2 => s2.ε.length = s.ε.length ∧ N ((s2.put i (.own x)).put j (.val y))) : EX P w (tPar i j (tCons ta (tCons tb tNil))) s N C R := fun A B H σ S D n c r =>
  h A B H σ S _ fun p us B1 H1 x s1 S1 M1 hp h0 hl D1 no h1 => h1 A B1 H1 σ S1 _ fun u B2 H2 y s2 S2 M2 D2 ⟨l, po⟩ => by
    have hl' : H2 p = some (.lst us) := M2.fx p _ hp.2.2 no hl
    have hp' : Hid A B2 p := ⟨hp.1, M2.hid p (by rw [hl]; exact fun z => nomatch z) hp.2.1 no, hp.2.2⟩
    have no' : ¬ Own s2.ε σ p := fun z => no (M2.sub p z)
    exact ⟨.ref p, u, rfl, n _ B2 H2 _ ((S2.putOwn (by rw [l]; exact hi) hp' hl' (D1.mono M2.same) no').put (by rw [put_len, l]; exact hj) D2) (M1.same.trans M2.same) po⟩
/-! the same by a tuple and its taking apart (names in cells) -/
theorem ex_tupVN (hi : i < s.ε.length) (hj : j < s.ε.length) (h : EV P w ta s fun x s1 => EVN P w tb s1 fun ds s2 => s2.ε.length = s.ε.length ∧ N ((s2.put i (.val x)).put j (.own ds))) : EX P w (tAsg (tTup (tCons ta (tCons tb tNil))) (gTup K 2 (gCons (gName i) (gCons (gName j) gNil)))) s N C R := fun A B H σ S D n c r =>
  h A B H σ S _ fun v B1 H1 x s1 S1 M1 D1 h1 => h1 A B1 H1 σ S1 _ fun p us B2 H2 ds s2 S2 M2 hp h0 hl D2 no ⟨l, po⟩ =>
    ⟨(by show 2 ≤ sizeLine; decide), fun q hq => by
      obtain ⟨S3, M3, _, _⟩ := S2.layO (.tup [v, .ref p]) hq
      have ne : p ≠ q := ne_of_none hl hq
      refine ⟨q, _, rfl, SqT.of upd_same, rfl, _, _, rfl, _, _, rfl, rfl, n _ B2 _ _ ((S3.put (by rw [l]; exact hi) (D1.mono M2.same)).putOwn (by rw [put_len, l]; exact hj) hp ?_ D2 fun z => no (Own.put_val z)) (M1.same.trans M2.same) po⟩
      rw [upd_ne ne]
      exact hl⟩
theorem ex_tupNN (hi : i < s.ε.length) (hj : j < s.ε.length) (h : EVN P w ta s fun x s1 => EVN P w tb s1 fun ds s2 => s2.ε.length = s.ε.length ∧ N ((s2.put i (.own x)).put j (.own ds))) : EX P w (tAsg (tTup (tCons ta (tCons tb tNil))) (gTup K 2 (gCons (gName i) (gCons (gName j) gNil)))) s N C R := fun A B H σ S D n c r =>
  h A B H σ S _ fun p us B1 H1 x s1 S1 M1 hp h0 hl D1 no h1 => h1 A B1 H1 σ S1 _ fun p2 us2 B2 H2 ds s2 S2 M2 hp2 h02 hl2 D2 no2 ⟨l, po⟩ =>
    ⟨(by show 2 ≤ sizeLine; decide), fun q hq => by
      have hl' : H2 p = some (.lst us) := M2.fx p _ hp.2.2 no hl
      have hp' : Hid A B2 p := ⟨hp.1, M2.hid p (by rw [hl]; exact fun z => nomatch z) hp.2.1 no, hp.2.2⟩
      have no' : ¬ Own s2.ε σ p := fun z => no (M2.sub p z)
      have ne : p2 ≠ p := fun z => by rw [z, hl] at h02; cases h02
      obtain ⟨S3, M3, _, _⟩ := S2.layO (.tup [.ref p, .ref p2]) hq
      refine ⟨q, _, rfl, SqT.of upd_same, rfl, _, _, rfl, _, _, rfl, rfl, n _ B2 _ _ ((S3.putOwn (by rw [l]; exact hi) hp' ?_ (D1.mono M2.same) no').putOwn (by rw [put_len, l]; exact hj) hp2 ?_ D2 fun z => by
        rcases Own.put_own z with z | z
        · exact ne z
        · exact no2 z) (M1.same.trans M2.same) po⟩
      · rw [upd_ne (ne_of_none hl' hq)]; exact hl'
      · rw [upd_ne (ne_of_none hl2 hq)]; exact hl2⟩
theorem ex_tupNV (hi : i < s.ε.length) (hj : j < s.ε.length) (h : EVN P w ta s fun x s1 => EV P w tb s1 fun y s2 => s2.ε.length = s.ε.length ∧ N ((s2.put i (.own x)).put j (.val y))) : EX P w (tAsg (tTup (tCons ta (tCons tb tNil))) (gTup K 2 (gCons (gName i) (gCons (gName j) gNil)))) s N C R := fun A B H σ S D n c r =>
  h A B H σ S _ fun p us B1 H1 x s1 S1 M1 hp h0 hl D1 no h1 => h1 A B1 H1 σ S1 _ fun u B2 H2 y s2 S2 M2 D2 ⟨l, po⟩ =>
    ⟨(by show 2 ≤ sizeLine; decide), fun q hq => by
      have hl' : H2 p = some (.lst us) := M2.fx p _ hp.2.2 no hl
      have hp' : Hid A B2 p := ⟨hp.1, M2.hid p (by rw [hl]; exact fun z => nomatch z) hp.2.1 no, hp.2.2⟩
      have no' : ¬ Own s2.ε σ p := fun z => no (M2.sub p z)
      obtain ⟨S3, M3, _, _⟩ := S2.layO (.tup [.ref p, u]) hq
      refine ⟨q, _, rfl, SqT.of upd_same, rfl, _, _, rfl, _, _, rfl, rfl, n _ B2 _ _ ((S3.putOwn (by rw [l]; exact hi) hp' ?_ (D1.mono M2.same) no').put (by rw [put_len, l]; exact hj) D2) (M1.same.trans M2.same) po⟩
      rw [upd_ne (ne_of_none hl' hq)]; exact hl'⟩
/-! ### for -/
theorem ex_for {wi : TI} {tb : TS} (h : EVI P w wi s fun ds s1 => ∃ I : Nat → DS → Prop, I 0 s1 ∧ (∀ i s2 d, ds[i]? = some d → I i s2 → ∃ s3 is, GA P w g d s2 s3 is ∧ EX P w tb s3 (I (i + 1)) (I (i + 1)) R) ∧ ∀ s2, I ds.length s2 → N s2) :
    EX P w (tFor wi g tb) s N C R := fun A B H σ S D n c r => by
  refine h A B H σ S _ fun J B1 H1 ds s1 S1 M1 wk ⟨I, i0, step, fin⟩ => ?_
  refine ⟨fun i m σ Hc => m + i = ds.length ∧ ∃ Bc s2, SW P w A Bc Hc σ s2 ∧ Same B1 Bc ∧ I i s2, ⟨ds.length, Nat.add_zero _, B1, s1, S1, .refl _, i0⟩, ?_⟩
  intro i m σ Hc ⟨hm, Bc, s2, S2, e2, i2⟩
  by_cases hi : i < ds.length
  · right
    refine ⟨wk.go i Hc (e2.trans S2.bh) hi, fun σ' H' => m - 1 + (i + 1) = ds.length ∧ ∃ Bc s2, SW P w A Bc H' σ' s2 ∧ Same B1 Bc ∧ I (i + 1) s2, fun σ' H' q => ⟨m - 1, by omega, q⟩, fun x H' hy => ?_⟩
    obtain ⟨B', d, gx, hdx, Dx⟩ := wk.yld i Bc Hc x H' e2 S2.bh hi hy
    obtain ⟨s3, is, G, hb⟩ := step i s2 d hdx i2
    refine G.run A B' H' σ x (S2.grow gx) Dx _ fun σ3 S3 _ _ _ => hb A B' H' σ3 S3 _ ?_ ?_ r
    · exact fun σ4 B4 H4 s4 S4 e4 p4 => ⟨by omega, B4, s4, S4, (e2.trans gx.1).trans e4, p4⟩
    · exact fun σ4 B4 H4 s4 S4 e4 p4 => ⟨by omega, B4, s4, S4, (e2.trans gx.1).trans e4, p4⟩
  · left
    have hi' : i = ds.length := by omega
    subst hi'
    exact ⟨wk.stop _ Hc (e2.trans S2.bh) (Nat.le_refl _), n σ Bc Hc s2 S2 (M1.same.trans e2) (fin s2 i2)⟩
/-- fewer slots known -/
theorem ex_unk {is : List Nat} (h : EX P w ts (s.unk is) N C R) : EX P w ts s N C R := fun A B H σ S D n c r =>
  h A B H σ (S.sub (s' := s.unk is) (by unfold DS.unk; rw [unk_len]; exact S.len) rfl fun i sl e => ⟨(unk_get is s.ε i sl e).1, rfl⟩) D n c r
theorem ex_sub (hl : s'.ε.length = s.ε.length) (hn : s'.n = s.n) (hk : ∀ (i : Nat) (sl : Sl), s'.ε[i]? = some (some sl) → s.ε[i]? = some (some sl)) (h : EX P w ts s' N C R) : EX P w ts s N C R := fun A B H σ S D n c r =>
  h A B H σ (S.sub (hl.trans S.len) hn fun i sl e => ⟨hk i sl e, rfl⟩) D n c r
theorem ex_more {n : Nat} (hn : s.n ≤ n) (h : EX P w ts { s with n := n } N C R) : EX P w ts s N C R := fun A B H σ S D nn c r => h A B H σ (S.more hn) D nn c r
end
/-! ### promises by data -/
abbrev FD := List Ag → Nat → (Dt → Nat → Prop) → Prop
/-- the promise of a def whose data function is f -/
def spT (P : Program) (w : World) (f : FD) : Sp := fun vs H Q _ => ∃ (t : Option Addr) (B : Hp) (as : List Ag) (n : Nat) (Po : Dt → Nat → Prop), Same B H ∧ TinAt H t n ∧ (∀ tt, t = some tt → B tt = none) ∧ AgA P w ⟨t, B, H⟩ B vs as ∧ f as n Po ∧
  ∀ v B' H' d n', Gw t B H B' H' → TinAt H' t n' → Sd P w B' v d → Po d n' → Q v H'
section
variable {P : Program} {w : World} {K : PySem.W.Frag} {A : Anc} {B H B' H' : Hp} {σ σ' : L2.St} {s s' s1 s2 : DS} {ta : TA} {f : FD} {E : XK}
theorem sd_agA {A : Anc} : ∀ {ds : List Dt} {vs : List V}, SdA P w B vs ds → AgA P w A B vs (ds.map Ag.v)
  | _, _, .nil => .nil
  | _, _, .cons h r => .cons h (sd_agA r)
/-- a call that draws nothing -/
theorem ev_call {Po : Dt → DS → Prop} (h : EVA P w ta s fun as s1 => ∃ ds : List Dt, as = ds.map Ag.v ∧ f as 0 fun d _ => Po d s1) : EV P w (tCall (spT P w f) [] E ta) s Po := fun A B H σ S Q q =>
  h A B H σ S _ fun vs B1 H1 as s1 S1 M1 D1 ⟨ds, ea, hf⟩ => by
    have D : SdA P w B1 vs ds := agA_sd (by rw [← ea]; exact D1)
    refine ⟨none, B1, as, 0, _, S1.bh, fun _ e => (nomatch e), fun _ e => (nomatch e), ?_, hf, fun v B' H' d n' g _ Dv p => q v B' H' d s1 (S1.grow g) (M1.trans (.grow g)) Dv p⟩
    rw [List.append_nil, ea]
    exact sd_agA D
/-- a call that draws -/
theorem ev_callT {Po : Dt → DS → Prop} (h : EVA P w ta s fun as s1 => f as s1.n fun d n' => Po d { s1 with n := n' }) : EV P w (tCall (spT P w f) [] E ta) s Po := fun A B H σ S Q q =>
  h A B H σ S _ fun vs B1 H1 as s1 S1 M1 D1 hf => by
    refine ⟨A.t, B1, as, s1.n, _, S1.bh, S1.tin, fun tt e => (S1.tinB tt e).1, ?_, hf, fun v B' H' d n' g ht Dv p => q v B' H' d _ (S1.drawn g ht) (M1.trans (.drawn g)) Dv p⟩
    rw [List.append_nil]
    exact L2.Paired.mapP D1 fun u a z => by
      cases a with
      | v d => exact z
      | tin => exact z
theorem ed_call {as : List Dt} {d : Dt} (h : EDA P w ta s (as.map Ag.v)) (hf : ∀ Po : Dt → Nat → Prop, (∀ n, Po d n) → f (as.map Ag.v) 0 Po) : ED P w (tCall (spT P w f) [] E ta) s d :=
  ev_call (h.to ⟨as, rfl, hf _ fun _ => ⟨rfl, rfl⟩⟩)
end
end DK

/-! ## G8 -/
namespace DK
open PySem PySem.Spec PyProof.Rows L2
/-! # More readings by data -/
section
variable {P : Program} {w : World} {K : PySem.W.Frag} {A : Anc} {B H B' H' : Hp} {σ σ' : L2.St} {s s' s1 s2 : DS} {i j : Nat} {te ta tb tc tk : TE} {d x y z : Dt}
/-! ### slices -/
def EVO (P : Program) (w : World) (to : TO) (s : DS) (o : Option Int) : Prop := ∀ (A : Anc) (B H : Hp) (σ : L2.St), SW P w A B H σ s → ∀ Q : Option Int → Hp → Prop,
  (∀ B' H', SW P w A B' H' σ s → Mv A σ s B H s B' H' → Q o H') → to σ H Q
theorem evo_none : EVO P w tNoPart s none := fun A B H σ S Q q => q B H S .refl
theorem evo_some {k : Int} (h : ED P w te s (.int k)) : EVO P w (tPart te) s (some k) := fun A B H σ S Q q => h A B H σ S _ fun v B1 H1 d s1 S1 M1 D1 ⟨e1, e2⟩ => by
  subst e1
  subst e2
  cases D1
  exact ⟨k, rfl, q B1 H1 S1 M1⟩
def cutD (xs : List Dt) (lo hi : Option Int) : List Dt := (xs.drop (HT.sIx xs.length 0 lo)).take (HT.sIx xs.length xs.length hi - HT.sIx xs.length 0 lo)
theorem SdA.cut {vs : List V} {ds : List Dt} (D : SdA P w B vs ds) (lo hi : Option Int) : SdA P w B (cutV vs lo hi) (cutD ds lo hi) := by
  unfold cutV cutD
  rw [D.length]
  exact (D.drop _).take _
theorem evn_slL {tl th : TO} {lo hi : Option Int} {Po : List Dt → DS → Prop} (h : EV P w te s fun d s1 => ∃ ds, d = .lst ds ∧ EVO P w tl s1 lo ∧ EVO P w th s1 hi ∧ Po (cutD ds lo hi) s1) : EVN P w (tSl (rSlL K) te tl th) s Po := fun A B H σ S Q q =>
  h A B H σ S _ fun v B1 H1 d s1 S1 M1 D1 ⟨ds, e, hl, hh, po⟩ => hl A B1 H1 σ S1 _ fun B2 H2 S2 M2 => hh A B2 H2 σ S2 _ fun B3 H3 S3 M3 => by
    subst e
    obtain ⟨a, us, rfl, ha, D⟩ := sd_lst (D1.mono (M2.same.trans M3.same))
    refine ⟨a, us, rfl, SqL.of (S3.bh _ _ ha), fun p hp => ?_⟩
    obtain ⟨S4, M4, hd, no⟩ := S3.layO (.lst (cutV us lo hi)) hp
    have M := (M1.trans M2).trans M3
    exact q p _ B3 _ _ s1 S4 (M.trans M4) hd (SW.fresh0 M hp) upd_same (D.cut lo hi) no po
/-- a slice of the script -/
theorem evn_slScr {tl th : TO} {lo hi : Option Int} {K' : PySem.W.Frag} {ns : List Int} {Po : List Dt → DS → Prop} (hs : s.ε[i]? = some (some (.scr K ns))) (hl : EVO P w tl s lo) (hh : EVO P w th s hi) (po : Po (cutD (ns.map Dt.int) lo hi) s) : EVN P w (tSl (rSlL K) (tVar i) tl th) s Po := fun A B H σ S Q q => by
  obtain ⟨a, e, ht, hq⟩ := S.slot i _ hs
  refine ⟨.ref a, e, hl A B H σ S _ fun B2 H2 S2 M2 => hh A B2 H2 σ S2 _ fun B3 H3 S3 M3 => ?_⟩
  have hq3 : SqL K H3 a (ns.map V.int) := by
    rcases hq with (q | ⟨o, q⟩) | q
    · exact .inl (.inl (S3.gw.2.2.1 _ _ ht q))
    · exact .inl (.inr ⟨o, S3.gw.2.2.1 _ _ ht q⟩)
    · exact .inr q
  refine ⟨a, _, rfl, hq3, fun p hp => ?_⟩
  obtain ⟨S4, M4, hd, no⟩ := S3.layO (.lst (cutV (ns.map V.int) lo hi)) hp
  have M := M2.trans M3
  exact q p _ B3 _ _ s S4 (M.trans M4) hd (SW.fresh0 M hp) upd_same ((sdA_ints ns).cut lo hi) no po
theorem cut_all {xs : List V} {lo hi : Option Int} (h : HT.sIx xs.length 0 lo = 0 ∧ HT.sIx xs.length xs.length hi = xs.length) : cutV xs lo hi = xs := by
  unfold cutV
  rw [h.1, h.2]
  simp
theorem ev_slA {tl th : TO} {lo hi : Option Int} {Po : Dt → DS → Prop} (h : EV P w te s fun d s1 => ∃ ds, d = .tup ds ∧ EVO P w tl s1 lo ∧ EVO P w th s1 hi ∧ Po (.tup (cutD ds lo hi)) s1) : EV P w (tSl (rSlA K) te tl th) s Po := fun A B H σ S Q q =>
  h A B H σ S _ fun v B1 H1 d s1 S1 M1 D1 ⟨ds, e, hl, hh, po⟩ => hl A B1 H1 σ S1 _ fun B2 H2 S2 M2 => hh A B2 H2 σ S2 _ fun B3 H3 S3 M3 => by
    subst e
    obtain ⟨a, us, rfl, ha, D⟩ := sd_seq (D1.mono (M2.same.trans M3.same))
    have M := (M1.trans M2).trans M3
    refine ⟨a, us, rfl, SqT.of (S3.bh _ _ ha), fun z => ?_, fun _ p hp => ?_⟩
    · have D' := D.cut lo hi
      rw [cut_all z] at D'
      exact q _ B3 H3 _ s1 S3 M (.tup ha D') po
    · have g := gw_new (o := .tup (cutV us lo hi)) S3.bh hp
      exact q (.ref p) _ _ _ s1 (S3.grow g) (M.trans (.grow g)) (.tup upd_same ((D.cut lo hi).mono g.1)) po
theorem ed_slA {tl th : TO} {lo hi : Option Int} {ds : List Dt} (h : ED P w te s (.tup ds)) (hl : EVO P w tl s lo) (hh : EVO P w th s hi) : ED P w (tSl (rSlA K) te tl th) s (.tup (cutD ds lo hi)) := ev_slA (h.to ⟨ds, rfl, hl, hh, rfl, rfl⟩)
theorem edn_slL {tl th : TO} {lo hi : Option Int} {ds : List Dt} (h : ED P w te s (.lst ds)) (hl : EVO P w tl s lo) (hh : EVO P w th s hi) : EDN P w (tSl (rSlL K) te tl th) s (cutD ds lo hi) := evn_slL (h.to ⟨ds, rfl, hl, hh, rfl, rfl⟩)
/-- t[::-1] -/
theorem ev_revT {Po : Dt → DS → Prop} (h : EV P w te s fun d s1 => ∃ ds, d = .tup ds ∧ Po (.tup ds.reverse) s1) : EV P w (tRevT K te) s Po := fun A B H σ S Q q =>
  h A B H σ S _ fun v B1 H1 d s1 S1 M1 D1 ⟨ds, e, po⟩ => by
    subst e
    obtain ⟨a, us, rfl, ha, D⟩ := sd_seq D1
    refine ⟨a, us, rfl, SqT.of (S1.bh _ _ ha), fun p hp => ?_⟩
    have g := gw_new (o := .tup us.reverse) S1.bh hp
    exact q (.ref p) _ _ _ s1 (S1.grow g) (M1.trans (.grow g)) (.tup upd_same (D.reverse.mono g.1)) po
/-! ### list(x) -/
abbrev rListK (K : PySem.W.Frag) : List V → Hp → VK → Prop := fun xs H Q => ∃ p ys, xs = [.ref p] ∧ (SqL K H p ys ∨ SqT K H p ys) ∧ ∀ l, H l = none → Q (.ref l) (upd H l (.lst ys))
theorem evn_list {Po : List Dt → DS → Prop} (h : EV P w te s fun d s1 => ∃ ds, (d = .tup ds ∨ d = .lst ds) ∧ Po ds s1) : EVN P w (tCB (rListK K) (tCons te tNil)) s Po := fun A B H σ S Q q =>
  h A B H σ S _ fun v B1 H1 d s1 S1 M1 D1 ⟨ds, e, po⟩ => by
    have go : ∀ (a : Addr) (us : List V), v = .ref a → (SqL K H1 a us ∨ SqT K H1 a us) → SdA P w B1 us ds → tNil σ H1 fun xs H2 => (fun vs H1 => rListK K vs H1 Q) (v :: xs) H2 := fun a us ev hq D => by
      subst ev
      refine ⟨a, us, rfl, hq, fun p hp => ?_⟩
      obtain ⟨S4, M4, hd, no⟩ := S1.layO (.lst us) hp
      exact q p _ B1 _ _ s1 S4 (M1.trans M4) hd (SW.fresh0 M1 hp) upd_same D no po
    rcases e with e | e
    · subst e
      obtain ⟨a, us, ev, ha, D⟩ := sd_seq D1
      exact go a us ev (.inr (SqT.of (S1.bh _ _ ha))) D
    · subst e
      obtain ⟨a, us, ev, ha, D⟩ := sd_lst D1
      exact go a us ev (.inl (SqL.of (S1.bh _ _ ha))) D
/-- list of a new list -/
theorem evn_listN {Po : List Dt → DS → Prop} (h : EVN P w te s Po) : EVN P w (tCB (rListK K) (tCons te tNil)) s Po := evn_list (ev_of_new (h.imp fun ds s1 p => ⟨ds, .inr rfl, p⟩))
theorem evn_listRg {Po : List Dt → DS → Prop} (h : EV P w te s fun d s1 => ∃ n : Int, d = .int n ∧ 0 ≤ n ∧ n ≤ 100000 ∧ Po ((List.range n.toNat).map fun k : Nat => Dt.int k) s1) : EVN P w (tLstRg (tRg1 te)) s Po := fun A B H σ S Q q =>
  h A B H σ S _ fun v B1 H1 d s1 S1 M1 D1 ⟨n, e, h0, hz, po⟩ => by
    subst e
    cases D1
    refine ⟨n, rfl, RgOk.of_le (by omega) (by omega) (by omega) h0, fun p hp => ?_⟩
    have er : rgV 0 n = ((List.range n.toNat).map fun k : Nat => (k : Int)).map V.int := by
      unfold rgV
      rw [List.map_map, Int.sub_zero]
      exact List.map_congr_left fun k _ => by show V.int (0 + (k : Int)) = V.int k; rw [Int.zero_add]
    obtain ⟨S4, M4, hd, no⟩ := S1.layO (.lst (rgV 0 n)) hp
    refine q p _ B1 _ _ s1 S4 (M1.trans M4) hd (SW.fresh0 M1 hp) upd_same ?_ no po
    rw [er]
    have hs := sdA_ints (P := P) (w := w) (B := B1) ((List.range n.toNat).map fun k : Nat => (k : Int))
    rw [show (List.range n.toNat).map (fun k : Nat => Dt.int k) = ((List.range n.toNat).map fun k : Nat => (k : Int)).map Dt.int by rw [List.map_map]; rfl]
    exact hs
/-- new or new -/
theorem evn_orT {Po : List Dt → DS → Prop} (h : EVN P w ta s fun ds s1 => if ds = [] then EVN P w tb s1 Po else Po ds s1) : EVN P w (tOrT K ta tb) s Po := fun A B H σ S Q q =>
  h A B H σ S _ fun p vs B1 H1 ds s1 S1 M1 hp h0 hl D no po => by
    refine ⟨!vs.isEmpty, .inl ⟨vs, SqL.of hl, rfl⟩, ?_⟩
    replace po : if ds = [] then EVN P w tb s1 Po else Po ds s1 := po
    by_cases e : ds = []
    · subst e
      cases D
      rw [if_pos rfl] at po
      exact po A B1 H1 σ S1 Q fun p2 vs2 B2 H2 ds2 s2 S2 M2 hp2 h02 hl2 D2 no2 po2 => q p2 vs2 B2 H2 ds2 s2 S2 (M1.trans M2) hp2 (SW.fresh0 M1 h02) hl2 D2 no2 po2
    · rw [if_neg e] at po
      cases D with
      | nil => exact absurd rfl e
      | cons h1 h2 => exact q p _ B1 H1 _ s1 S1 M1 hp h0 hl (.cons h1 h2) no po
/-! ### sorted(set(..)) -/
theorem ev_sortset {Po : Dt → DS → Prop} (h : EV P w te s fun d s1 => ∃ ns : List Int, d = .lst (ns.map Dt.int) ∧ ns.length < 64 ∧ ∀ l : List Int, l.Pairwise (· < ·) → (∀ k, k ∈ l ↔ k ∈ ns) → Po (.lst (l.map Dt.int)) s1) :
    EV P w (tCB (rSortedSet w) (tCons (tCB (rSetL K w) (tCons te tNil)) tNil)) s Po := fun A B H σ S Q q =>
  h A B H σ S _ fun v B1 H1 d s1 S1 M1 D1 ⟨ns, e, hz, po⟩ => by
    subst e
    obtain ⟨a, us, rfl, ha, D⟩ := sd_lst D1
    rw [ints_of_sdA D] at ha
    refine ⟨a, ns, rfl, SqL.of (S1.bh _ _ ha), by omega, fun p c hc hp => ?_⟩
    obtain ⟨S2, M2, _, _⟩ := S1.layO (SetO w p (fun j => decide (j ∈ ns)) c) hp
    refine ⟨p, _, c, rfl, upd_same, by omega, fun l q' h1 h2 _ hq => ?_⟩
    have g := gw_new (o := .lst (l.map V.int)) S2.bh hq
    exact q (.ref q') _ _ _ s1 (S2.grow g) ((M1.trans M2).trans (.grow g)) (.lst upd_same (sdA_ints l)) (po l h1 fun k => by rw [h2 k]; exact decide_eq_true_iff)
/-! ### a < b < c -/
theorem ed_chain {p q : Int → Int → Bool} {a b c : Int} (ha : ED P w ta s (.int a)) (hb : ED P w tb s (.int b)) (hc : p a b = true → ED P w tc s (.int c)) :
    ED P w (tChain (rI0 fun i j => .bl (p i j)) (rI0 fun i j => .bl (q i j)) ta tb tc) s (.bl (p a b && q b c)) := fun A B H σ S Q k =>
  ha A B H σ S _ fun v B1 H1 d s1 S1 M1 D1 ⟨e1, e2⟩ => by
    subst e1
    subst e2
    cases D1
    exact hb A B1 H1 σ S1 _ fun v2 B2 H2 d2 s2 S2 M2 D2 ⟨e3, e4⟩ => by
      subst e3
      subst e4
      cases D2
      refine ⟨a, b, rfl, rfl, p a b, rfl, ?_⟩
      cases hp : p a b with
      | false => rw [if_neg (by decide)]; exact k _ B2 H2 _ _ S2 (M1.trans M2) (.bl false) ⟨by rw [hp]; rfl, rfl⟩
      | true =>
        rw [if_pos rfl]
        exact hc hp A B2 H2 σ S2 _ fun v3 B3 H3 d3 s3 S3 M3 D3 ⟨e5, e6⟩ => by
          subst e5
          subst e6
          cases D3
          exact ⟨b, c, rfl, rfl, k _ B3 H3 _ _ S3 ((M1.trans M2).trans M3) (.bl _) ⟨by rw [hp, Bool.true_and], rfl⟩⟩
/-! ### {2: .., 3: .., 5: ..}[p] -/
theorem ed_dget3 {t2 t3 t5 : TE} {d2 d3 d5 : Dt} {k : Int} (h2 : ED P w t2 s d2) (h3 : ED P w t3 s d3) (h5 : ED P w t5 s d5) (hk : ED P w tk s (.int k)) (hd : (k = 2 ∧ d = d2) ∨ (k = 3 ∧ d = d3) ∨ (k = 5 ∧ d = d5)) :
    ED P w (tDGet (tDisp [(tC (.int 2), t2), (tC (.int 3), t3), (tC (.int 5), t5)]) tk) s d := fun A B H σ S Q q p hp => by
  obtain ⟨S0, M0, hd0, no0⟩ := S.layO (.dK []) hp
  refine h2 A B _ σ S0 _ fun v2 B1 H1 _ _ S1 M1 D1 ⟨e1, e2⟩ => ?_
  subst e1
  subst e2
  refine h3 A B1 H1 σ S1 _ fun v3 B2 H2 _ _ S2 M2 D2 ⟨e1, e2⟩ => ?_
  subst e1
  subst e2
  refine h5 A B2 H2 σ S2 _ fun v5 B3 H3 _ _ S3 M3 D3 ⟨e1, e2⟩ => ?_
  subst e1
  subst e2
  have M13 := (M1.trans M2).trans M3
  have hp3 : H3 p = some (.dK []) := M13.fx p _ hd0.2.2 no0 upd_same
  have hid3 : Hid A B3 p := ⟨hd0.1, M13.hid p (by rw [upd_same]; exact fun z => nomatch z) hd0.2.1 no0, hd0.2.2⟩
  refine ⟨hp3, [(.inl 2, v2), (.inl 3, v3), (.inl 5, v5)], rfl, (by show 3 ≤ 15; decide), ?_⟩
  have S4 := S3.chgHid (o := .dK (mergeK [] [(.inl 2, v2), (.inl 3, v3), (.inl 5, v5)])) hid3 (fun z => no0 z)
  have M4 := ((M0.trans M13).upd (D := p) (o := .dK (mergeK [] [(.inl 2, v2), (.inl 3, v3), (.inl 5, v5)])) hp)
  refine hk A B3 _ σ S4 _ fun vk B5 H5 _ _ S5 M5 D5 ⟨e1, e2⟩ => ?_
  subst e1
  subst e2
  cases D5
  have hp5 : H5 p = some (.dK (mergeK [] [(.inl 2, v2), (.inl 3, v3), (.inl 5, v5)])) := M5.fx p _ hid3.2.2 (fun z => no0 z) upd_same
  rcases hd with ⟨rfl, rfl⟩ | ⟨rfl, rfl⟩ | ⟨rfl, rfl⟩
  · exact ⟨p, v2, rfl, DGet.k (k := .inl 2) hp5, q v2 B5 H5 _ _ S5 (M4.trans M5) (D1.mono ((M2.same.trans M3.same).trans M5.same)) ⟨rfl, rfl⟩⟩
  · exact ⟨p, v3, rfl, DGet.k (k := .inl 3) hp5, q v3 B5 H5 _ _ S5 (M4.trans M5) (D2.mono (M3.same.trans M5.same)) ⟨rfl, rfl⟩⟩
  · exact ⟨p, v5, rfl, DGet.k (k := .inl 5) hp5, q v5 B5 H5 _ _ S5 (M4.trans M5) (D3.mono M5.same) ⟨rfl, rfl⟩⟩
/-! ### tuples of rests -/
theorem ev_tupX {ta : TA} {Po : Dt → DS → Prop} (h : EVA P w ta s fun as s1 => ∃ ns : List Int, as = (ns.map Dt.int).map Ag.v ∧ ns.length ≤ 1000 ∧ Po (.rst ns) s1) : EV P w (tTupX ta) s Po := fun A B H σ S Q q =>
  h A B H σ S _ fun vs B1 H1 as s1 S1 M1 D1 ⟨ns, e, hz, p⟩ => by
    have D : SdA P w B1 vs (ns.map Dt.int) := agA_sd (by rw [← e]; exact D1)
    have ev := ints_of_sdA D
    subst ev
    refine ⟨by rw [List.length_map, sizeLine_eq]; omega, fun a ha => ?_⟩
    have g : Gw none B1 H1 (upd B1 a (TXO a (ns.map V.int))) (upd H1 a (TXO a (ns.map V.int))) := Gw.new S1.bh ha
    exact q (.ref a) _ _ (.rst ns) s1 (S1.grow g) (M1.trans (.grow g)) (.rst upd_same) p
theorem ed_tupX0 : ED P w (tTupX tNil) s (.rst []) := ev_tupX (eva_nil ⟨[], rfl, by decide, rfl, rfl⟩)
theorem ed_tupX1 {k : Int} (h : ED P w ta s (.int k)) : ED P w (tTupX (tCons ta tNil)) s (.rst [k]) := ev_tupX (eva_cons (h.to (eva_nil ⟨[k], rfl, (by show 1 ≤ 1000; decide), rfl, rfl⟩)))
theorem ed_cntX {ns : List Int} {k : Int} (h : ED P w te s (.rst ns)) (hk : ED P w ta s (.int k)) : ED P w (tCntX te (tCons ta tNil)) s (.int (ns.count k : Nat)) := fun A B H σ S Q q =>
  h A B H σ S _ fun v B1 H1 d s1 S1 M1 D1 ⟨e1, e2⟩ => by
    subst e1
    subst e2
    cases D1 with
    | rst h1 =>
      exact ⟨⟨_, _, rfl, S1.bh _ _ h1⟩, hk A B1 H1 σ S1 _ fun v2 B2 H2 d2 s2 S2 M2 D2 ⟨e3, e4⟩ => by
        subst e3
        subst e4
        cases D2
        exact ⟨_, ns, k, rfl, rfl, S2.bh _ _ (M2.same _ _ h1), q _ B2 H2 _ _ S2 (M1.trans M2) (.int _) ⟨rfl, rfl⟩⟩⟩
end
end DK

/-! ## F0 -/
namespace DK
open PySem PySem.Spec PyProof.Rows L2
/-! # The program's defs; a def by its data function -/
def top (i : Nat) : Stmt := PySem.Challenge.pw_drycells_k34_whole_false_forgings_by_all.main.body.getD i (.Pass ⟨0, 0, 0, 0⟩)
abbrev FnP (K : PySem.W.Frag) (x : Str) (st : Stmt) (f : Addr) (fd : FuncData) : Prop := FunD K x x (defArgs st) (defBody st) (defScope st) [] [] f fd
/-- the built-in names are not hidden -/
structure Bl (mg : Str → Option Value) : Prop where
  abs : mg "abs" = none
  all : mg "all" = none
  any : mg "any" = none
  dict : mg "dict" = none
  enum : mg "enumerate" = none
  int : mg "int" = none
  isi : mg "isinstance" = none
  len : mg "len" = none
  list : mg "list" = none
  max : mg "max" = none
  min : mg "min" = none
  rng : mg "range" = none
  set : mg "set" = none
  sorted : mg "sorted" = none
  tup : mg "tuple" = none
  zip : mg "zip" = none
  bool : mg "bool" = none
  str : mg "str" = none
  most : ∃ t, mg "MOST_SUMS" = some (.int 729 t)
structure OkF (P : Program) (w : World) (K : PySem.W.Frag) (mg : Str → Option Value) (base : Heap) (x : Str) (ps : List Str) (sp : Sp) (k : Nat) : Prop where
  ex : ∃ f fd, mg x = some (.ref f) ∧ PySem.W.keepIn K (.ref f) = true ∧ Binds K fd ps [] ∧ FnOk P w K mg base CX0 k f fd ps sp
section
variable {X : Cx} {x : Str} {ps : List Str} {sp : Sp} {k j : Nat} {p pos : Pos} {e : Expr} {es : List Expr} {t : TA}
theorem pe_callO (F : OkF X.prog X.w X.K X.mg X.base x ps sp k) (hr : Room j X.A) (hj : k ≤ j) (hg : Gl X x) (ha : PA X (e :: es) t) (hdb : (x == ("__debug__" : Str)) = false := by decide)
    (he : starEach (e :: es) X.env = (false, eval e X.env) :: starEach es X.env := by rfl) (hpl : (backTo pos (starEach es X.env)).any (·.1) = false := by rfl) : PE X (.Call (.Name x p) (e :: es) [] pos) (tCall sp [] E0 t) := by
  obtain ⟨f, fd, h1, h2, h3, h4⟩ := F.ex
  exact pe_call h4 (hr.mono hj) hg h1 h2 h3 .nil pass0 ha hdb he hpl
theorem pe_callO0 (F : OkF X.prog X.w X.K X.mg X.base x ps sp k) (hr : Room j X.A) (hj : k ≤ j) (hg : Gl X x) (hdb : (x == ("__debug__" : Str)) = false := by decide) : PE X (.Call (.Name x p) [] [] pos) (tCall sp [] E0 tNil) := by
  obtain ⟨f, fd, h1, h2, h3, h4⟩ := F.ex
  exact pe_call0 h4 (hr.mono hj) hg h1 h2 h3 .nil pass0 hdb
theorem Room.a (h : Room k X.A) : X.A.units + 64 < cLine := h.units
theorem Room.b (h : Room k X.A) : X.A.units + 20 < cLine := by have := h.units; omega
theorem Room.c (h : Room k X.A) : X.A.units + 9 < cLine := by have := h.units; omega
theorem Room.d (h : Room k X.A) : X.A.units + 1 < cLine := by have := h.units; omega
end
def slotOf : Ag → Option Sl
  | .v d => some (.val d)
  | .tin => some .tin
section
variable {P : Program} {w : World} {K : PySem.W.Frag} {mg : Str → Option Value} {base : Heap}
theorem slots_ok {t : Option Addr} {B H : Hp} {n : Nat} (e : Same B H) (ht : TinAt H t n) (hB : ∀ tt, t = some tt → B tt = none) {vs : List V} {as : List Ag} (D : AgA P w ⟨t, B, H⟩ B vs as) (m : Nat) :
    SW P w ⟨t, B, H⟩ B H (vs.map some ++ List.replicate m none) ⟨as.map slotOf ++ List.replicate m none, n⟩ := by
  have hl : vs.length = as.length := Paired.length D
  have get : ∀ (i : Nat) (sl : Sl), (as.map slotOf ++ List.replicate m none)[i]? = some (some sl) → ∃ v a, as[i]? = some a ∧ slotOf a = some sl ∧ (vs.map some ++ List.replicate m none)[i]? = some (some v) ∧ AgOk P w ⟨t, B, H⟩ B v a := by
    intro i sl hi
    by_cases h : i < as.length
    · rw [List.getElem?_append_left (by rw [List.length_map]; exact h), List.getElem?_map] at hi
      cases ha : as[i]? with
      | none => rw [ha] at hi; cases hi
      | some a =>
        rw [ha] at hi
        have : ∀ {vs : List V} {as : List Ag}, AgA P w ⟨t, B, H⟩ B vs as → ∀ {i : Nat} {a : Ag}, as[i]? = some a → ∃ v, vs[i]? = some v ∧ AgOk P w ⟨t, B, H⟩ B v a := by
          intro vs as D
          induction D with
          | nil => intro i a h; simp at h
          | cons h0 r ih =>
            intro i a h
            cases i with
            | zero =>
              have := Option.some.inj h
              subst this
              exact ⟨_, rfl, h0⟩
            | succ i => exact ih (i := i) h
        obtain ⟨v, hv, ok⟩ := this D ha
        refine ⟨v, a, rfl, Option.some.inj hi, ?_, ok⟩
        rw [List.getElem?_append_left (by rw [List.length_map, hl]; exact h), List.getElem?_map, hv]
        rfl
    · rw [List.getElem?_append_right (by rw [List.length_map]; omega), List.getElem?_replicate] at hi
      split at hi <;> cases hi
  have noOwn : ∀ j p, Owns (as.map slotOf ++ List.replicate m none) (vs.map some ++ List.replicate m none) j p → False := fun j p ⟨_, o⟩ => by
    rcases o with ⟨ds, h⟩ | ⟨kvs, h⟩
    · obtain ⟨v, a, _, e2, _⟩ := get j _ h
      cases a <;> cases e2
    · obtain ⟨v, a, _, e2, _⟩ := get j _ h
      cases a <;> cases e2
  refine ⟨.refl e, by simp only [List.length_append, List.length_map, List.length_replicate, hl], ht, fun tt et => ⟨hB tt et, ?_⟩, fun i sl hi => ?_, fun i j p _ a _ => noOwn i p a⟩
  · obtain ⟨a, b, c, h1, _⟩ := ht tt et
    show H tt ≠ none
    rw [h1]
    exact fun z => nomatch z
  · obtain ⟨v, a, ha, es, hv, ok⟩ := get i sl hi
    cases a with
    | v d =>
      cases es
      exact ⟨v, hv, ok⟩
    | tin =>
      cases es
      obtain ⟨tt, e1, e2⟩ := ok
      subst e2
      exact ⟨tt, e1, hv⟩
/-- a body that does what its data function says -/
theorem def_go {f : FD} {t : TS} {N : List Str} {vs : List V} {H : Hp} {Q : VK} {E : XK} (h : spT P w f vs H Q E)
    (body : ∀ as n Po, f as n Po → EX P w t ⟨as.map slotOf ++ List.replicate (N.length - as.length) none, n⟩ (fun s' => Po .non s'.n) (fun _ => False) fun d s' => Po d s'.n) : t { nx := fun _ H' => Q .non H', rt := Q } (L2.start N vs) H := by
  obtain ⟨tt, B, as, n, Po, e, ht, hB, D, hf, q⟩ := h
  have hl : vs.length = as.length := Paired.length D
  have S := slots_ok (m := N.length - as.length) e ht hB D
  have es : L2.start N vs = vs.map some ++ List.replicate (N.length - as.length) none := by unfold L2.start; rw [hl]
  rw [es]
  exact body as n Po hf ⟨tt, B, H⟩ B H _ S _ (fun σ' B' H' s' S' _ p => q .non B' H' .non s'.n S'.gw S'.tin .non p) (fun σ' B' H' s' S' _ p => p.elim) fun v B' H' d σ' s' S' Dv p => q v B' H' d s'.n S'.gw S'.tin Dv p
theorem okf_mk {x : Str} {st : Stmt} {N ps : List Str} {k : Nat} {f : FD} (t : TS) (F : ∃ fa fd, mg x = some (.ref fa) ∧ FnP K x st fa fd) (S : FnScope N ps (defScope st))
    (hb : ∀ (kV doc pm : Value) (an : Option Addr) (cdv ct : Value) (us : List Value), us.length = ps.length → bindArgs (PySem.W.fnOf x x (defArgs st) (defBody st) (defScope st) .none kV doc pm an cdv ct) ⟨us, []⟩ = pure (ps.zip us))
    (hl : ∀ as n Po, f as n Po → as.length = ps.length)
    (hd : ∀ (cdv : Value) (A : Around) (outer : List Env) (s : Shared) (H : Hp) (E : XK) (fa : Addr), Room k (A.deeper (envOfC x (defScope st) s.heap.objs.size fa cdv)) → PSs (cxOf CX0 P w K mg base N x (defScope st) fa cdv A outer s H E).nox (defBody st) t)
    (body : ∀ as n Po, f as n Po → EX P w t ⟨as.map slotOf ++ List.replicate (N.length - as.length) none, n⟩ (fun s' => Po .non s'.n) (fun _ => False) fun d s' => Po d s'.n) : OkF P w K mg base x ps (spT P w f) (k + 1) := by
  obtain ⟨fa, fd, hm, F⟩ := F
  refine ⟨fa, fd, hm, F.kp, FunD.bindsN F hb, F.ok S (fun vs H Q E h => ?_) fun cdv A outer s H vs Q E hr h => ⟨t, PSs.nox (hd cdv A outer s H E fa hr), def_go h body⟩⟩
  obtain ⟨tt, B, as, n, Po, _, _, _, D, hf, _⟩ := h
  exact (Paired.length D).trans (hl as n Po hf)
end
end DK

/-! ## F1 -/
namespace DK
open PySem PySem.Spec PyProof.Rows L2
/-! # The plain functions and the data functions -/
abbrev rIsNn : R2 := fun x y H Q => y = .non ∧ Q (.bl (decide (x = .non))) H
abbrev rNotNn : R2 := fun x y H Q => y = .non ∧ Q (.bl (!decide (x = .non))) H
abbrev rAbs1 : List V → Hp → VK → Prop := fun xs H Q => ∃ i, xs = [V.int i] ∧ Q (.int (if i < 0 then -i else i)) H
abbrev rMax2n : List V → Hp → VK → Prop := fun xs H Q => ∃ i j, xs = [V.int i, V.int j] ∧ Q (.int (if j > i then j else i)) H
abbrev rMin2n : List V → Hp → VK → Prop := fun xs H Q => ∃ i j, xs = [V.int i, V.int j] ∧ Q (.int (if j < i then j else i)) H
def compScope1__law_band_key : Scope := match defBody (top 46) with
  | (.Assign _ (.ListComp _ _ sc _) _) :: _ => sc
  | _ => defScope (top 46)
abbrev Row := List Int
def zeroR (m : Int) : Row := List.replicate m.toNat 0
def addR (p : Int) (a b : Row) : Row := List.zipWith (fun x y => (x + y) % p) a b
def mulR (p d : Int) (r : Row) : Row := r.map fun x => d * x % p
structure Ky where
  p : Int
  many : Int
  cols : List Row
def hardD (k : Ky) : Dt := .tup [.int k.p, .int k.many, .tup (k.cols.map rowD)]
def ilD (r : List Int) : Dt := .lst (r.map Dt.int)
def softD (k : Ky) : Dt := .lst [.int k.p, .int k.many, .lst (k.cols.map ilD)]
def IsKey (d : Dt) (k : Ky) : Prop := d = hardD k ∨ d = softD k
def pairsD (f : Fg) : List Dt := f.map fun q => Dt.tup [.int q.1, .int q.2]
def fgX (t : Bool) (f : Fg) : Dt := if t then .tup (pairsD f) else .lst (pairsD f)
def colAt (k : Ky) (c : Int) : Row := k.cols.getD c.toNat []
def addedUp (k : Ky) (f : Fg) : Row := f.foldl (fun acc q => addR k.p acc (mulR k.p q.2 (colAt k q.1))) (zeroR k.many)
def ascB (ns : List Int) : Bool := (ns.zip ns.tail).all fun q => decide (q.1 < q.2)
def isForg (k : Ky) (f : Fg) : Bool := (f.all fun q => decide (0 ≤ q.1) && decide (q.1 < k.cols.length) && (decide (1 ≤ q.2) && decide (q.2 < k.p))) && ascB (f.map (·.1))
def isFB (t : Bool) (k : Ky) (f : Fg) : Bool := t && isForg k f
/-- the key's form: rows as long as it says, small numbers -/
structure KOk (k : Ky) : Prop where
  p0 : 2 ≤ k.p
  p5 : k.p ≤ 5
  m0 : 0 ≤ k.many
  m3 : k.many ≤ 3
  n7 : k.cols.length ≤ 7
  len : ∀ c ∈ k.cols, c.length = k.many.toNat
  ent : ∀ c ∈ k.cols, ∀ x ∈ c, 0 ≤ x ∧ x < k.p
/-- key and guard -/
structure KG (k g : Ky) : Prop where
  ok1 : KOk k
  ok2 : KOk g
  pp : k.p = g.p
  nn : k.cols.length = g.cols.length
  sh : (k.p = 2 ∧ k.many ≤ 2 ∧ g.many ≤ 3) ∨ (k.p = 3 ∧ k.many ≤ 2 ∧ g.many ≤ 2 ∧ k.cols.length ≤ 5) ∨ (k.p = 5 ∧ k.many ≤ 1 ∧ g.many ≤ 1 ∧ k.cols.length ≤ 4)
abbrev Tb := List (Kp × Fg)
def digitsP (p : Int) : List Int := (List.range (p - 1).toNat).map fun k : Nat => 1 + (k : Int)
/-- one item of the table's walk, one digit -/
def cellPut (p : Int) (cell : Int) (near far : Row) (one other : Row) (f : Fg) (later : Tb) (d : Int) : Tb :=
  let s : Kp := (addR p one (mulR p d near), addR p other (mulR p d far))
  match atN later s with
  | none => putN later s (f ++ [(cell, d)])
  | some f0 => if f.length + 1 < f0.length then putN later s (f ++ [(cell, d)]) else later
def cellItem (p : Int) (cell : Int) (near far : Row) (later : Tb) (q : Kp × Fg) : Tb := (digitsP p).foldl (cellPut p cell near far q.1.1 q.1.2 q.2) later
def withCell (p : Int) (found : Tb) (cell : Int) (near far : Row) : Tb := found.foldl (cellItem p cell near far) found
def cellsOf (k g : Ky) : List ((Row × Row) × Nat) := (k.cols.zip g.cols).zipIdx
def tableOf (k g : Ky) : Tb := (cellsOf k g).foldl (fun t q => withCell k.p t q.2 q.1.2 q.1.1) [((zeroR g.many, zeroR k.many), [])]
def bestB (k g : Ky) (best : Option Fg) (q : Kp × Fg) : Option Fg :=
  if decide (q.1.1 = zeroR g.many) && (!decide (q.1.2 = zeroR k.many) && (match best with | none => true | some b => decide (q.2.length < b.length))) then some q.2 else best
def fewestFalse (k g : Ky) : Option Fg := (tableOf k g).foldl (bestB k g) none
def optD (o : Option Fg) : Dt := match o with | none => .non | some f => fgD f
def isFalseB (k g : Ky) (most : Int) (t : Bool) (f : Fg) : Bool := isFB t k f && decide ((f.length : Int) ≤ most) && decide (addedUp g f = zeroR g.many) && !decide (addedUp k f = zeroR k.many)
def lawRow (f : List Int × Row × Row) : Dt := .tup [.rst f.1, rowD f.2.1, rowD f.2.2]
/-- the digits at one cell, one behind another -/
def rowsBy (p : Int) (near far : Row) : Nat → List Int → Row → Row → Int → List (List Int × Row × Row)
  | 0, _, _, _, _ => []
  | n + 1, rests, one, two, d => (rests ++ [d], one, two) :: rowsBy p near far n rests (addR p one near) (addR p two far) (d + 1)
def lawStep (p : Int) (near far : Row) (l : List (List Int × Row × Row)) : List (List Int × Row × Row) := l.flatMap fun q => rowsBy p near far p.toNat q.1 q.2.1 q.2.2 0
def lawAll (k g : Ky) : List (List Int × Row × Row) := (k.cols.zip g.cols).foldl (fun l q => lawStep k.p q.2 q.1 l) [([], zeroR g.many, zeroR k.many)]
/-! ## what each def does -/
def f_is_number : FD := fun as n Po => ∃ i, as = [.v (.int i)] ∧ Po (.bl true) n
def f_is_count : FD := fun as n Po => ∃ i, as = [.v (.int i)] ∧ Po (.bl (decide (0 ≤ i))) n
def f_is_from_one : FD := fun as n Po => ∃ i, as = [.v (.int i)] ∧ Po (.bl (decide (1 ≤ i))) n
def f_is_below : FD := fun as n Po => ∃ i m, as = [.v (.int i), .v (.int m)] ∧ Po (.bl (decide (0 ≤ i) && decide (i < m))) n
def f_is_tuple_of : FD := fun as n Po => ∃ ds m, as = [.v (.tup ds), .v (.int m)] ∧ Po (.bl (decide ((ds.length : Int) = m))) n
def f_ascends : FD := fun as n Po => ∃ ns, as = [.v (ilD ns)] ∧ ns.length ≤ 1000 ∧ Po (.bl (ascB ns)) n
def f_zero_row : FD := fun as n Po => ∃ m, as = [.v (.int m)] ∧ 0 ≤ m ∧ m ≤ 1000 ∧ Po (rowD (zeroR m)) n
def f_fit_lengths : FD := fun as n Po => ∃ a b, as = [.v (.tup a), .v (.tup b)] ∧ a.length = b.length ∧ Po .non n
def f_row_sum : FD := fun as n Po => ∃ p a b, as = [.v (.int p), .v (rowD a), .v (rowD b)] ∧ 0 < p ∧ a.length = b.length ∧ a.length ≤ 1000 ∧ Po (rowD (addR p a b)) n
def f_row_times : FD := fun as n Po => ∃ p d r dr, as = [.v (.int p), .v (.int d), .v dr] ∧ (dr = rowD r ∨ dr = ilD r) ∧ 0 < p ∧ (-1000 ≤ d ∧ d ≤ 1000) ∧ r.length ≤ 1000 ∧ Po (rowD (mulR p d r)) n
def f_sure_guard : FD := fun as n Po => ∃ k g dk dg, as = [.v dk, .v dg] ∧ IsKey dk k ∧ IsKey dg g ∧ k.p = g.p ∧ k.cols.length = g.cols.length ∧ Po .non n
def f_how_many_rows : FD := fun as n Po => ∃ p m, as = [.v (.int p), .v (.int m)] ∧ 0 ≤ p ∧ p ≤ 5 ∧ 0 ≤ m ∧ m ≤ 1000 ∧ Po (.int (p ^ m.toNat)) n
def f_sure_sums : FD := fun as n Po => ∃ k g, as = [.v (hardD k), .v (hardD g)] ∧ KG k g ∧ Po .non n
def f_is_forging : FD := fun as n Po => ∃ k t f, as = [.v (hardD k), .v (fgX t f)] ∧ f.length ≤ 1000 ∧ Po (.bl (isFB t k f)) n
def f_added_up : FD := fun as n Po => ∃ k t f dk, as = [.v dk, .v (fgX t f)] ∧ IsKey dk k ∧ KOk k ∧ isForg k f = true ∧ f.length ≤ 1000 ∧ Po (rowD (addedUp k f)) n
def f_sums_of : FD := fun as n Po => ∃ k g t f dk dg, as = [.v dk, .v dg, .v (fgX t f)] ∧ IsKey dk k ∧ IsKey dg g ∧ KG k g ∧ isForg k f = true ∧ f.length ≤ 1000 ∧ Po (.tup [rowD (addedUp g f), rowD (addedUp k f)]) n
/-- the table's keys: rows of the right lengths, digits below p -/
def TbOk (p a b : Int) (t : Tb) : Prop := (t.map (·.1)).Nodup ∧ ∀ q ∈ t, (q.1.1.length = a.toNat ∧ ∀ x ∈ q.1.1, 0 ≤ x ∧ x < p) ∧ (q.1.2.length = b.toNat ∧ ∀ x ∈ q.1.2, 0 ≤ x ∧ x < p) ∧ q.2.length ≤ 1000
def f_with_cell : FD := fun as n Po => ∃ k g t near far cell, as = [.v (.int k.p), .v (.dct t), .v (.int cell), .v (rowD near), .v (rowD far)] ∧ KG k g ∧ TbOk k.p g.many k.many t ∧ near.length = g.many.toNat ∧ far.length = k.many.toNat ∧ (∀ q ∈ t, q.2.length ≤ 900) ∧ t.length ≤ 1000 ∧ Po (.dct (withCell k.p t cell near far)) n
def f_fewest_table : FD := fun as n Po => ∃ k g, as = [.v (hardD k), .v (hardD g)] ∧ KG k g ∧ Po (.dct (tableOf k g)) n
def f_fewest_false : FD := fun as n Po => ∃ k g, as = [.v (hardD k), .v (hardD g)] ∧ KG k g ∧ Po (optD (fewestFalse k g)) n
def leastD (k g : Ky) : Dt := match fewestFalse k g with | none => .non | some f => .int f.length
def f_least_false : FD := fun as n Po => ∃ k g dk dg, as = [.v dk, .v dg] ∧ IsKey dk k ∧ IsKey dg g ∧ KG k g ∧ Po (leastD k g) n
def f_is_false_forging : FD := fun as n Po => ∃ k g m t f, as = [.v (hardD k), .v (hardD g), .v (.int m), .v (fgX t f)] ∧ KG k g ∧ f.length ≤ 1000 ∧ Po (.bl (isFalseB k g m t f)) n
def f_mends : FD := fun as n Po => ∃ k g dk dg m, as = [.v dk, .v dg, .v (.int m)] ∧ IsKey dk k ∧ IsKey dg g ∧ KG k g ∧ Po (.bl (match fewestFalse k g with | none => true | some f => decide (2 * m < f.length))) n
def f_most_mended : FD := fun as n Po => ∃ k g dk dg, as = [.v dk, .v dg] ∧ IsKey dk k ∧ IsKey dg g ∧ KG k g ∧ Po (match fewestFalse k g with | none => .non | some f => .int (((f.length : Int) - 1) / 2)) n
def f_most_told : FD := fun as n Po => ∃ k g dk dg, as = [.v dk, .v dg] ∧ IsKey dk k ∧ IsKey dg g ∧ KG k g ∧ Po (match fewestFalse k g with | none => .non | some f => .int ((f.length : Int) - 1)) n
/-! the recursive ones, by depth -/
def TupR : Nat → Dt → Dt → Prop
  | 0, _, _ => False
  | m + 1, d, e => (d.sc = true ∧ e = d) ∨ ∃ ds es, (d = .lst ds ∨ d = .tup ds) ∧ e = .tup es ∧ ds.length ≤ 1000 ∧ Paired (TupR m) ds es
def f_tupledM (m : Nat) : FD := fun as n Po => ∃ d e, as = [.v d] ∧ TupR m d e ∧ Po e n
def LstR : Nat → Dt → Dt → Prop
  | 0, _, _ => False
  | m + 1, d, e => (d.sc = true ∧ e = d) ∨ ∃ ds es, (d = .lst ds ∨ d = .tup ds) ∧ e = .lst es ∧ ds.length ≤ 1000 ∧ Paired (LstR m) ds es
def f__law_listsM (m : Nat) : FD := fun as n Po => ∃ d e, as = [.v d] ∧ LstR m d e ∧ Po e n
/-- plain data of depth m -/
def PlD : Nat → Dt → Prop
  | 0, _ => False
  | m + 1, d => d.sc = true ∨ ∃ ds, (d = .lst ds ∨ d = .tup ds) ∧ ds.length ≤ 1000 ∧ ∀ e ∈ ds, PlD m e
def f__law_sameM (m : Nat) : FD := fun as n Po => ∃ d, as = [.v d, .v d] ∧ PlD m d ∧ Po (.bl true) n
abbrev f_tupled : FD := f_tupledM 4
abbrev f__law_lists : FD := f__law_listsM 4
abbrev f__law_same : FD := f__law_sameM 4
/-! the law's -/
def mostN : Nat := 1000000
def f__law_take : FD := fun as n Po => ∃ b, as = [.tin, .v (.int b)] ∧ 0 < b ∧ b ≤ 100000 ∧ n ≤ mostN ∧ ∀ v, 0 ≤ v → v < b → Po (.int v) (n + 1)
def f__law_of : FD := fun as n Po => ∃ ds, as = [.tin, .v (.lst ds)] ∧ ds ≠ [] ∧ ds.length ≤ 100000 ∧ n ≤ mostN ∧ ∀ d ∈ ds, Po d (n + 1)
def f__law_pick : FD := fun as n Po => ∃ ns c, as = [.tin, .v (ilD ns), .v (.int c)] ∧ ns.length ≤ 1000 ∧ 0 ≤ c ∧ c ≤ 1000 ∧ n + 1000 ≤ mostN ∧ ∀ ms : List Int, ms.length ≤ ns.length → Po (ilD ms) (n + 1000)
def f__law_is_number : FD := f_is_number
def f__law_row_plus : FD := fun as n Po => ∃ a b p, as = [.v (rowD a), .v (rowD b), .v (.int p)] ∧ 0 < p ∧ a.length ≤ 1000 ∧ Po (rowD (addR p a b)) n
def f__law_row_times : FD := fun as n Po => ∃ d r p, as = [.v (.int d), .v (rowD r), .v (.int p)] ∧ 0 < p ∧ (-1000 ≤ d ∧ d ≤ 1000) ∧ r.length ≤ 1000 ∧ Po (rowD (mulR p d r)) n
/-- a drawn key -/
def KeyAs (p cells many : Int) (k : Ky) : Prop := k.p = p ∧ k.many = many ∧ k.cols.length = cells.toNat ∧ (∀ c ∈ k.cols, c.length = many.toNat) ∧ ∀ c ∈ k.cols, ∀ x ∈ c, 0 ≤ x ∧ x < p
def f__law_key : FD := fun as n Po => ∃ p cells many, as = [.tin, .v (.int p), .v (.int cells), .v (.int many)] ∧ 2 ≤ p ∧ p ≤ 5 ∧ 1 ≤ cells ∧ cells ≤ 7 ∧ 0 ≤ many ∧ many ≤ 3 ∧ n + 10000 ≤ mostN ∧ ∀ k, KeyAs p cells many k → Po (hardD k) (n + 10000)
def f__law_band_key : FD := fun as n Po => ∃ p cells many, as = [.tin, .v (.int p), .v (.int cells), .v (.int many)] ∧ 2 ≤ p ∧ p ≤ 5 ∧ 1 ≤ cells ∧ cells ≤ 7 ∧ 0 ≤ many ∧ many ≤ 3 ∧ n + 1000 ≤ mostN ∧ ∀ k, KeyAs p cells many k → Po (hardD k) (n + 1000)
def key3 : Ky := ⟨2, 1, [[1], [0], [0]]⟩
def guard3 : Ky := ⟨2, 2, [[1, 0], [1, 1], [0, 1]]⟩
def f__law_three : FD := fun as n Po => as = [] ∧ ∀ x y, Po (.tup [hardD key3, hardD guard3, x, y]) n
def f__law_keys : FD := fun as n Po => as = [.tin] ∧ n + 100000 ≤ mostN ∧ ∀ k g, KG k g → 1 ≤ k.cols.length → Po (.tup [hardD k, hardD g]) (n + 100000)
def f__law_all : FD := fun as n Po => ∃ k g, as = [.v (hardD k), .v (hardD g)] ∧ KG k g ∧ Po (.lst ((lawAll k g).map lawRow)) n
def f__law_is_forging : FD := fun as n Po => ∃ k t f, as = [.v (hardD k), .v (fgX t f)] ∧ f.length ≤ 50 ∧ Po (.bl (isFB t k f)) n
def f__law_added : FD := fun as n Po => ∃ k f, as = [.v (hardD k), .v (fgX true f)] ∧ KOk k ∧ isForg k f = true ∧ f.length ≤ 50 ∧ Po (rowD (addedUp k f)) n
def f__law_is_false : FD := fun as n Po => ∃ k g m t f, as = [.v (hardD k), .v (hardD g), .v (.int m), .v (fgX t f)] ∧ KG k g ∧ f.length ≤ 50 ∧ Po (.bl (isFalseB k g m t f)) n
def f__law_by_hand_right : FD := fun as n Po => as = [] ∧ Po (.bl true) n
def f__law_bent : FD := fun as n Po => ∃ k f, as = [.tin, .v (hardD k), .v (fgX true f)] ∧ KOk k ∧ f.length ≤ 50 ∧ n + 10000 ≤ mostN ∧ ∀ t f', f'.length ≤ 50 → Po (fgX t f') (n + 10000)
def f__law_right : FD := fun as n Po => as = [.tin] ∧ n + 500000 ≤ mostN ∧ Po (.bl true) (n + 500000)
def f__law_heard : FD := fun as n Po => ∃ k g dk dg, as = [.v dk, .v dg] ∧ IsKey dk k ∧ IsKey dg g ∧ KG k g ∧ Po (match fewestFalse k g with | none => .lst [.str "no paper", .bl true] | some f => fgD f) n
end DK

/-! ## F2 -/
namespace DK
open PySem PySem.Spec PyProof.Rows L2
def Ntupled : List Str := ["thing", "part"]
def t_tupled (fself : FD) (P : Program) (w : World) (K : PySem.W.Frag) : TS := (tRet (tIf (tB (tCB (rIsiT K) (tCons (tVar 0) (tCons (tTup (tCons (tC (.ty "list")) (tCons (tC (.ty "tuple")) tNil))) tNil)))) (tCB (rTupleK K) (tCons (tLc (fun σ H R => iList K (tVar 0) σ H R ∨ iTup K (tVar 0) σ H R) (gName 1) tYes (tCall (spT P w fself) [] E0 (tCons (tVar 1) tNil)) [1]) tNil)) (tVar 0)))

def N_law_lists : List Str := ["_law_matter", "_law_bit"]
def t__law_lists (fself : FD) (P : Program) (w : World) (K : PySem.W.Frag) : TS := (tRet (tIf (tB (tCB (rIsiT K) (tCons (tVar 0) (tCons (tTup (tCons (tC (.ty "list")) (tCons (tC (.ty "tuple")) tNil))) tNil)))) (tLc (fun σ H R => iList K (tVar 0) σ H R ∨ iTup K (tVar 0) σ H R) (gName 1) tYes (tCall (spT P w fself) [] E0 (tCons (tVar 1) tNil)) [1]) (tVar 0)))

def N_law_same : List Str := ["_law_got", "_law_due", "_law_mine", "_law_its"]
def t__law_same (fself : FD) (P : Program) (w : World) (K : PySem.W.Frag) : TS := (tSeq (tIfS (tB (tCB (rIsiT K) (tCons (tVar 1) (tCons (tTup (tCons (tC (.ty "list")) (tCons (tC (.ty "tuple")) tNil))) tNil)))) (tSeq (tIfS (tOr (tTest (tOp rNe (tCB (rIsi K) (tCons (tVar 0) (tCons (tC (.ty "list")) tNil))) (tCB (rIsi K) (tCons (tVar 1) (tCons (tC (.ty "list")) tNil))))) (tTest (tOp rNe (tCB (rIsi K) (tCons (tVar 0) (tCons (tC (.ty "tuple")) tNil))) (tCB (rIsi K) (tCons (tVar 1) (tCons (tC (.ty "tuple")) tNil)))))) (tRet (tC (.bl false))) tNext)
  (tRet (tAndV (tOp rEq (tCB (rLenK K) (tCons (tVar 0) tNil)) (tCB (rLenK K) (tCons (tVar 1) tNil))) (tCB (rAll K) (tCons (tLc (RZ.iZipA K (tCons (tVar 0) (tCons (tVar 1) tNil))) (gTup K 2 (gCons (gName 2) (gCons (gName 3) gNil))) tYes (tCall (spT P w fself) [] E0 (tCons (tVar 2) (tCons (tVar 3) tNil))) [2, 3]) tNil))))) tNext)
  (tSeq (tIfS (tOr (tTest (tOp rIsNn (tVar 1) (tC .non))) (tB (tCB (rIsiT K) (tCons (tVar 1) (tCons (tTup (tCons (tC (.ty "bool")) (tCons (tC (.ty "str")) tNil))) tNil))))) (tRet (tAndV (tOp rEq (tVar 0) (tVar 1)) (tAndV (tOp rEq (tCB (rIsi K) (tCons (tVar 0) (tCons (tC (.ty "bool")) tNil))) (tCB (rIsi K) (tCons (tVar 1) (tCons (tC (.ty "bool")) tNil)))) (tOp rEq (tOp rIsNn (tVar 0) (tC .non)) (tOp rIsNn (tVar 1) (tC .non)))))) tNext)
  (tRet (tAndV (tCB (rIsi K) (tCons (tVar 0) (tCons (tC (.ty "int")) tNil))) (tAndV (tNotV (tCB (rIsi K) (tCons (tVar 0) (tCons (tC (.ty "bool")) tNil)))) (tOp rEq (tVar 0) (tVar 1)))))))

def Nis_number : List Str := ["thing"]
def t_is_number (P : Program) (w : World) (K : PySem.W.Frag) : TS := (tRet (tAndV (tCB (rIsi K) (tCons (tVar 0) (tCons (tC (.ty "int")) tNil))) (tNotV (tCB (rIsi K) (tCons (tVar 0) (tCons (tC (.ty "bool")) tNil))))))

def Nis_count : List Str := ["thing"]
def t_is_count (P : Program) (w : World) (K : PySem.W.Frag) : TS := (tRet (tAndV (tCall (spT P w f_is_number) [] E0 (tCons (tVar 0) tNil)) (tOp (rI0 fun i j => .bl (decide (j ≤ i))) (tVar 0) (tC (.int 0)))))

def Nis_from_one : List Str := ["thing"]
def t_is_from_one (P : Program) (w : World) (K : PySem.W.Frag) : TS := (tRet (tAndV (tCall (spT P w f_is_number) [] E0 (tCons (tVar 0) tNil)) (tOp (rI0 fun i j => .bl (decide (j ≤ i))) (tVar 0) (tC (.int 1)))))

def Nis_below : List Str := ["thing", "many"]
def t_is_below (P : Program) (w : World) (K : PySem.W.Frag) : TS := (tRet (tAndV (tCall (spT P w f_is_count) [] E0 (tCons (tVar 0) tNil)) (tOp (rI0 fun i j => .bl (decide (i < j))) (tVar 0) (tVar 1))))

def Nis_tuple_of : List Str := ["thing", "size"]
def t_is_tuple_of (P : Program) (w : World) (K : PySem.W.Frag) : TS := (tRet (tAndV (tCB (rIsi K) (tCons (tVar 0) (tCons (tC (.ty "tuple")) tNil))) (tOp rEq (tCB (rLenK K) (tCons (tVar 0) tNil)) (tVar 1))))

def Nascends : List Str := ["thing", "near", "far"]
def t_ascends (P : Program) (w : World) (K : PySem.W.Frag) : TS := (tRet (tCB (rAll K) (tCons (tLc (RZ.iZipA K (tCons (tVar 0) (tCons (tSl (rSlL K) (tVar 0) (tPart (tC (.int 1))) tNoPart) tNil))) (gTup K 2 (gCons (gName 1) (gCons (gName 2) gNil))) tYes (tOp (rI0 fun i j => .bl (decide (i < j))) (tVar 1) (tVar 2)) [1, 2]) tNil)))

def Nzero_row : List Str := ["many"]
def t_zero_row (P : Program) (w : World) (K : PySem.W.Frag) : TS := (tRet (tOp (rRepA K) (tTup (tCons (tC (.int 0)) tNil)) (tVar 0)))

def Nfit_lengths : List Str := ["one", "other"]
def t_fit_lengths (P : Program) (w : World) (K : PySem.W.Frag) : TS := (tIfS (tTest (tOp rNe (tCB (rLenK K) (tCons (tVar 0) tNil)) (tCB (rLenK K) (tCons (tVar 1) tNil)))) tNever tNext)

def Nrow_sum : List Str := ["p", "one", "other", "near", "far"]
def t_row_sum (P : Program) (w : World) (K : PySem.W.Frag) : TS := (tSeq (tDrop (tCall (spT P w f_fit_lengths) [] E0 (tCons (tVar 1) (tCons (tVar 2) tNil))))
  (tRet (tCB (rTupleK K) (tCons (tLc (RZ.iZipA K (tCons (tVar 1) (tCons (tVar 2) tNil))) (gTup K 2 (gCons (gName 3) (gCons (gName 4) gNil))) tYes (tOp (rI (fun _ j => 0 < j) fun i j => .int (i % j)) (tOp (rI0 fun i j => .int (i + j)) (tVar 3) (tVar 4)) (tVar 0)) [3, 4]) tNil))))

def Nrow_times : List Str := ["p", "digit", "row", "own"]
def t_row_times (P : Program) (w : World) (K : PySem.W.Frag) : TS := (tRet (tCB (rTupleK K) (tCons (tLc (fun σ H R => iList K (tVar 2) σ H R ∨ iTup K (tVar 2) σ H R) (gName 3) tYes (tOp (rI (fun _ j => 0 < j) fun i j => .int (i % j)) (tOp (rI CMul fun i j => .int (i * j)) (tVar 1) (tVar 3)) (tVar 0)) [3]) tNil)))

def Nsure_guard : List Str := ["key", "guard"]
def t_sure_guard (P : Program) (w : World) (K : PySem.W.Frag) : TS := (tIfS (tOr (tTest (tOp rNe (tOp (rIx K) (tVar 0) (tC (.int 0))) (tOp (rIx K) (tVar 1) (tC (.int 0))))) (tTest (tOp rNe (tCB (rLenK K) (tCons (tOp (rIx K) (tVar 0) (tC (.int 2))) tNil)) (tCB (rLenK K) (tCons (tOp (rIx K) (tVar 1) (tC (.int 2))) tNil))))) tNever tNext)

def Nhow_many_rows : List Str := ["p", "many", "found", "_"]
def t_how_many_rows (P : Program) (w : World) (K : PySem.W.Frag) : TS := (tSeq (tAsg (tC (.int 1)) (gName 2))
  (tSeq (tFor (iRng1 (tCons (tVar 1) tNil)) (gName 3) (tAsg (tOp (rI CMul fun i j => .int (i * j)) (tVar 2) (tVar 0)) (gName 2)))
  (tRet (tVar 2))))

def Nsure_sums : List Str := ["key", "guard"]
def t_sure_sums (P : Program) (w : World) (K : PySem.W.Frag) : TS := (tIfS (tTest (tOp (rI0 fun i j => .bl (decide (j < i))) (tCall (spT P w f_how_many_rows) [] E0 (tCons (tOp (rIx K) (tVar 0) (tC (.int 0))) (tCons (tOp (rI0 fun i j => .int (i + j)) (tOp (rIx K) (tVar 0) (tC (.int 1))) (tOp (rIx K) (tVar 1) (tC (.int 1)))) tNil))) (tC (.int 729)))) tNever tNext)

def Nis_forging : List Str := ["key", "thing", "pair", "cell", "digit", "_"]
def t_is_forging (P : Program) (w : World) (K : PySem.W.Frag) : TS := (tSeq (tIfS (tOr (tNot (tB (tCB (rIsi K) (tCons (tVar 1) (tCons (tC (.ty "tuple")) tNil))))) (tNot (tB (tCB (rAll K) (tCons (tLc (iTup K (tVar 1)) (gName 2) tYes (tCall (spT P w f_is_tuple_of) [] E0 (tCons (tVar 2) (tCons (tC (.int 2)) tNil))) [2]) tNil))))) (tRet (tC (.bl false))) tNext)
  (tSeq (tIfS (tNot (tB (tCB (rAll K) (tCons (tLc (iTup K (tVar 1)) (gTup K 2 (gCons (gName 3) (gCons (gName 4) gNil))) tYes (tAndV (tCall (spT P w f_is_below) [] E0 (tCons (tVar 3) (tCons (tCB (rLenK K) (tCons (tOp (rIx K) (tVar 0) (tC (.int 2))) tNil)) tNil))) (tAndV (tCall (spT P w f_is_from_one) [] E0 (tCons (tVar 4) tNil)) (tOp (rI0 fun i j => .bl (decide (i < j))) (tVar 4) (tOp (rIx K) (tVar 0) (tC (.int 0)))))) [3, 4]) tNil)))) (tRet (tC (.bl false))) tNext)
  (tRet (tCall (spT P w f_ascends) [] E0 (tCons (tLc (iTup K (tVar 1)) (gTup K 2 (gCons (gName 3) (gCons (gName 5) gNil))) tYes (tVar 3) [3, 5]) tNil)))))

def Nadded_up : List Str := ["key", "forging", "found", "cell", "digit"]
def t_added_up (P : Program) (w : World) (K : PySem.W.Frag) : TS := (tSeq (tAsg (tCall (spT P w f_zero_row) [] E0 (tCons (tOp (rIx K) (tVar 0) (tC (.int 1))) tNil)) (gName 2))
  (tSeq (tFor (fun σ H R => iList K (tVar 1) σ H R ∨ iTup K (tVar 1) σ H R) (gTup K 2 (gCons (gName 3) (gCons (gName 4) gNil))) (tAsg (tCall (spT P w f_row_sum) [] E0 (tCons (tOp (rIx K) (tVar 0) (tC (.int 0))) (tCons (tVar 2) (tCons (tCall (spT P w f_row_times) [] E0 (tCons (tOp (rIx K) (tVar 0) (tC (.int 0))) (tCons (tVar 4) (tCons (tOp (rIx K) (tOp (rIx K) (tVar 0) (tC (.int 2))) (tVar 3)) tNil)))) tNil)))) (gName 2)))
  (tRet (tVar 2))))

def Nsums_of : List Str := ["key", "guard", "forging"]
def t_sums_of (P : Program) (w : World) (K : PySem.W.Frag) : TS := (tSeq (tDrop (tCall (spT P w f_sure_guard) [] E0 (tCons (tVar 0) (tCons (tVar 1) tNil))))
  (tRet (tTup (tCons (tCall (spT P w f_added_up) [] E0 (tCons (tVar 1) (tCons (tVar 2) tNil))) (tCons (tCall (spT P w f_added_up) [] E0 (tCons (tVar 0) (tCons (tVar 2) tNil))) tNil)))))

def Nwith_cell : List Str := ["p", "found", "cell", "near", "far", "later", "one", "other", "forging", "digit", "sums"]
def t_with_cell (P : Program) (w : World) (K : PySem.W.Frag) : TS := (tSeq (tAsg (tCB (rCopyN P w) (tCons (tVar 1) tNil)) (gName 5))
  (tSeq (tFor (iItemsN P w (tVar 1)) (gTup K 2 (gCons (gTup K 2 (gCons (gName 6) (gCons (gName 7) gNil))) (gCons (gName 8) gNil))) (tFor (iRng2 (tCons (tC (.int 1)) (tCons (tVar 0) tNil))) (gName 9) (tSeq (tAsg (tTup (tCons (tCall (spT P w f_row_sum) [] E0 (tCons (tVar 0) (tCons (tVar 6) (tCons (tCall (spT P w f_row_times) [] E0 (tCons (tVar 0) (tCons (tVar 9) (tCons (tVar 3) tNil)))) tNil)))) (tCons (tCall (spT P w f_row_sum) [] E0 (tCons (tVar 0) (tCons (tVar 7) (tCons (tCall (spT P w f_row_times) [] E0 (tCons (tVar 0) (tCons (tVar 9) (tCons (tVar 4) tNil)))) tNil)))) tNil))) (gName 10))
  (tIfS (tOr (tTest (tOp (rNotInN P w) (tVar 10) (tVar 5))) (tTest (tOp (rI0 fun i j => .bl (decide (i < j))) (tOp (rI0 fun i j => .int (i + j)) (tCB (rLenK K) (tCons (tVar 8) tNil)) (tC (.int 1))) (tCB (rLenK K) (tCons (tOp (rIxN P w) (tVar 5) (tVar 10)) tNil))))) (tAsg (tOp (rCatA K) (tVar 8) (tTup (tCons (tTup (tCons (tVar 2) (tCons (tVar 9) tNil))) tNil))) (gSub (tVar 5) (tVar 10) (rSetN P w))) tNext))))
  (tRet (tVar 5))))

def Nfewest_table : List Str := ["key", "guard", "found", "cell", "far", "near"]
def t_fewest_table (P : Program) (w : World) (K : PySem.W.Frag) : TS := (tSeq (tDrop (tCall (spT P w f_sure_guard) [] E0 (tCons (tVar 0) (tCons (tVar 1) tNil))))
  (tSeq (tDrop (tCall (spT P w f_sure_sums) [] E0 (tCons (tVar 0) (tCons (tVar 1) tNil))))
  (tSeq (tAsg (tDispN P w (tTup (tCons (tCall (spT P w f_zero_row) [] E0 (tCons (tOp (rIx K) (tVar 1) (tC (.int 1))) tNil)) (tCons (tCall (spT P w f_zero_row) [] E0 (tCons (tOp (rIx K) (tVar 0) (tC (.int 1))) tNil)) tNil))) (tTup tNil)) (gName 2))
  (tSeq (tFor (iEnumZ K (tCons (tOp (rIx K) (tVar 0) (tC (.int 2))) (tCons (tOp (rIx K) (tVar 1) (tC (.int 2))) tNil))) (gTup K 2 (gCons (gName 3) (gCons (gTup K 2 (gCons (gName 4) (gCons (gName 5) gNil))) gNil))) (tAsg (tCall (spT P w f_with_cell) [] E0 (tCons (tOp (rIx K) (tVar 0) (tC (.int 0))) (tCons (tVar 2) (tCons (tVar 3) (tCons (tVar 5) (tCons (tVar 4) tNil)))))) (gName 2)))
  (tRet (tVar 2))))))

def Nfewest_false : List Str := ["key", "guard", "best", "calm", "sums", "forging"]
def t_fewest_false (P : Program) (w : World) (K : PySem.W.Frag) : TS := (tSeq (tPar 2 3 (tCons (tC .non) (tCons (tTup (tCons (tCall (spT P w f_zero_row) [] E0 (tCons (tOp (rIx K) (tVar 1) (tC (.int 1))) tNil)) (tCons (tCall (spT P w f_zero_row) [] E0 (tCons (tOp (rIx K) (tVar 0) (tC (.int 1))) tNil)) tNil))) tNil)))
  (tSeq (tFor (iItemsN P w (tCall (spT P w f_fewest_table) [] E0 (tCons (tVar 0) (tCons (tVar 1) tNil)))) (gTup K 2 (gCons (gName 4) (gCons (gName 5) gNil))) (tIfS (tAnd (tTest (tOp (rEqD K) (tOp (rIx K) (tVar 4) (tC (.int 0))) (tOp (rIx K) (tVar 3) (tC (.int 0))))) (tAnd (tTest (tOp (rNeD K) (tOp (rIx K) (tVar 4) (tC (.int 1))) (tOp (rIx K) (tVar 3) (tC (.int 1))))) (tOr (tTest (tOp rIsNn (tVar 2) (tC .non))) (tTest (tOp (rI0 fun i j => .bl (decide (i < j))) (tCB (rLenK K) (tCons (tVar 5) tNil)) (tCB (rLenK K) (tCons (tVar 2) tNil))))))) (tAsg (tVar 5) (gName 2)) tNext))
  (tRet (tVar 2))))

def Nleast_false : List Str := ["key", "guard", "best"]
def t_least_false (P : Program) (w : World) (K : PySem.W.Frag) : TS := (tSeq (tAsg (tCall (spT P w f_fewest_false) [] E0 (tCons (tCall (spT P w f_tupled) [] E0 (tCons (tVar 0) tNil)) (tCons (tCall (spT P w f_tupled) [] E0 (tCons (tVar 1) tNil)) tNil))) (gName 2))
  (tRet (tIf (tTest (tOp rIsNn (tVar 2) (tC .non))) (tC .non) (tCB (rLenK K) (tCons (tVar 2) tNil)))))

def Nis_false_forging : List Str := ["key", "guard", "most", "thing", "near", "far"]
def t_is_false_forging (P : Program) (w : World) (K : PySem.W.Frag) : TS := (tSeq (tDrop (tCall (spT P w f_sure_guard) [] E0 (tCons (tVar 0) (tCons (tVar 1) tNil))))
  (tSeq (tIfS (tOr (tNot (tB (tCall (spT P w f_is_forging) [] E0 (tCons (tVar 0) (tCons (tVar 3) tNil))))) (tTest (tOp (rI0 fun i j => .bl (decide (j < i))) (tCB (rLenK K) (tCons (tVar 3) tNil)) (tVar 2)))) (tRet (tC (.bl false))) tNext)
  (tSeq (tAsg (tCall (spT P w f_sums_of) [] E0 (tCons (tVar 0) (tCons (tVar 1) (tCons (tVar 3) tNil)))) (gTup K 2 (gCons (gName 4) (gCons (gName 5) gNil))))
  (tRet (tAndV (tOp (rEqD K) (tVar 4) (tCall (spT P w f_zero_row) [] E0 (tCons (tOp (rIx K) (tVar 1) (tC (.int 1))) tNil))) (tOp (rNeD K) (tVar 5) (tCall (spT P w f_zero_row) [] E0 (tCons (tOp (rIx K) (tVar 0) (tC (.int 1))) tNil))))))))

def Nmends : List Str := ["key", "guard", "most", "least"]
def t_mends (P : Program) (w : World) (K : PySem.W.Frag) : TS := (tSeq (tAsg (tCall (spT P w f_least_false) [] E0 (tCons (tVar 0) (tCons (tVar 1) tNil))) (gName 3))
  (tRet (tOrV (tOp rIsNn (tVar 3) (tC .non)) (tOp (rI0 fun i j => .bl (decide (j < i))) (tVar 3) (tOp (rI CMul fun i j => .int (i * j)) (tC (.int 2)) (tVar 2))))))

def Nmost_mended : List Str := ["key", "guard", "least"]
def t_most_mended (P : Program) (w : World) (K : PySem.W.Frag) : TS := (tSeq (tAsg (tCall (spT P w f_least_false) [] E0 (tCons (tVar 0) (tCons (tVar 1) tNil))) (gName 2))
  (tRet (tIf (tTest (tOp rIsNn (tVar 2) (tC .non))) (tC .non) (tOp (rI CDiv fun i j => .int (i / j)) (tOp (rI0 fun i j => .int (i - j)) (tVar 2) (tC (.int 1))) (tC (.int 2))))))

def Nmost_told : List Str := ["key", "guard", "least"]
def t_most_told (P : Program) (w : World) (K : PySem.W.Frag) : TS := (tSeq (tAsg (tCall (spT P w f_least_false) [] E0 (tCons (tVar 0) (tCons (tVar 1) tNil))) (gName 2))
  (tRet (tIf (tTest (tOp rIsNn (tVar 2) (tC .non))) (tC .non) (tOp (rI0 fun i j => .int (i - j)) (tVar 2) (tC (.int 1))))))

def N_law_take : List Str := ["_law_tin", "_law_below_so", "_law_drawn", "_law_once_so", "_law_wide_so", "_law_twice_so"]
def t__law_take (P : Program) (w : World) (K : PySem.W.Frag) : TS := (tSeq (tIfS (tTest (tOp (rI0 fun i j => .bl (decide (j < i))) (tOp (rIx K) (tVar 0) (tC (.int 0))) (tC (.int 0)))) (tSeq (tAsg (tOp (rI (fun _ j => 0 < j) fun i j => .int (i % j)) (tCB rInt1 (tCons (tOp (rIx K) (tVar 0) (tC (.int 0))) tNil)) (tVar 1)) (gName 2))
  (tSeq (tAsg (tOp (rI CDiv fun i j => .int (i / j)) (tOp (rIx K) (tVar 0) (tC (.int 0))) (tVar 1)) (gSub (tVar 0) (tC (.int 0)) L2.rSetL))
  (tRet (tVar 2)))) tNext)
  (tSeq (tAsg (tOp (rI0 fun i j => .int (i + j)) (tOp (rIx K) (tVar 0) (tC (.int 2))) (tC (.int 1))) (gSub (tVar 0) (tC (.int 2)) L2.rSetL))
  (tSeq (tAsg (tOp (rI (fun _ j => 0 < j) fun i j => .int (i % j)) (tCB rInt1 (tCons (tOp (rI CMul fun i j => .int (i * j)) (tOp (rI0 fun i j => .int (i + j)) (tOp (rIx K) (tVar 0) (tC (.int 1))) (tOp (rI CMul fun i j => .int (i * j)) (tC (.int 48271)) (tOp (rIx K) (tVar 0) (tC (.int 2))))) (tOp (rI0 fun i j => .int (i + j)) (tC (.int 39373)) (tOp (rIx K) (tVar 0) (tC (.int 2))))) tNil)) (tC (.int 2147483647))) (gName 3))
  (tSeq (tAsg (tOp (rI0 fun i j => .int (i + j)) (tOp (rI (fun _ j => 0 < j) fun i j => .int (i % j)) (tCB rInt1 (tCons (tVar 3) tNil)) (tC (.int 40009))) (tC (.int 7))) (gName 4))
  (tSeq (tAsg (tOp (rI (fun _ j => 0 < j) fun i j => .int (i % j)) (tCB rInt1 (tCons (tOp (rI CMul fun i j => .int (i * j)) (tOp (rI0 fun i j => .int (i + j)) (tOp (rI0 fun i j => .int (i + j)) (tVar 3) (tOp (rIx K) (tVar 0) (tC (.int 2)))) (tOp (rI CDiv fun i j => .int (i / j)) (tOp (rIx K) (tVar 0) (tC (.int 1))) (tC (.int 1000003)))) (tVar 4)) tNil)) (tC (.int 2147483629))) (gName 5))
  (tRet (tOp (rI (fun _ j => 0 < j) fun i j => .int (i % j)) (tCB rInt1 (tCons (tOp (rI CDiv fun i j => .int (i / j)) (tOp (rI (fun _ j => 0 < j) fun i j => .int (i % j)) (tCB rInt1 (tCons (tOp (rI0 fun i j => .int (i + j)) (tOp (rI CMul fun i j => .int (i * j)) (tVar 5) (tC (.int 48271))) (tVar 3)) tNil)) (tC (.int 2147483587))) (tC (.int 64))) tNil)) (tVar 1))))))))

def N_law_of : List Str := ["_law_tin", "_law_goods_so"]
def t__law_of (P : Program) (w : World) (K : PySem.W.Frag) : TS := (tRet (tOp (rIx K) (tVar 1) (tCall (spT P w f__law_take) [] E0 (tCons (tVar 0) (tCons (tCB (rLenK K) (tCons (tVar 1) tNil)) tNil)))))

def N_law_pick : List Str := ["_law_tin", "_law_goods_so", "_law_count_so", "_law_pool_so", "_law_found", "_law_lap"]
def t__law_pick (P : Program) (w : World) (K : PySem.W.Frag) : TS := (tSeq (tPar 3 4 (tCons (tCB (rListK K) (tCons (tVar 1) tNil)) (tCons (tLst tNil) tNil)))
  (tSeq (tFor (iRng1 (tCons (tCB rMin2n (tCons (tCB rInt1 (tCons (tVar 2) tNil)) (tCons (tCB (rLenK K) (tCons (tVar 3) tNil)) tNil))) tNil)) (gName 5) (tDrop (tBM K "list" rAppend (tVar 4) (tCons (tBM K "list" rPopAt (tVar 3) (tCons (tCall (spT P w f__law_take) [] E0 (tCons (tVar 0) (tCons (tCB (rLenK K) (tCons (tVar 3) tNil)) tNil))) tNil)) tNil))))
  (tRet (tVar 4))))

def N_law_is_number : List Str := ["_law_own"]
def t__law_is_number (P : Program) (w : World) (K : PySem.W.Frag) : TS := (tRet (tAndV (tCB (rIsi K) (tCons (tVar 0) (tCons (tC (.ty "int")) tNil))) (tNotV (tCB (rIsi K) (tCons (tVar 0) (tCons (tC (.ty "bool")) tNil))))))

def N_law_row_plus : List Str := ["_law_one_so", "_law_two_so", "_law_p_so", "_law_near_so", "_law_far_so"]
def t__law_row_plus (P : Program) (w : World) (K : PySem.W.Frag) : TS := (tRet (tCB (rTupleK K) (tCons (tLc (RZ.iZipA K (tCons (tVar 0) (tCons (tVar 1) tNil))) (gTup K 2 (gCons (gName 3) (gCons (gName 4) gNil))) tYes (tOp (rI (fun _ j => 0 < j) fun i j => .int (i % j)) (tOp (rI0 fun i j => .int (i + j)) (tVar 3) (tVar 4)) (tVar 2)) [3, 4]) tNil)))

def N_law_row_times : List Str := ["_law_digit_so", "_law_row_so", "_law_p_so", "_law_own"]
def t__law_row_times (P : Program) (w : World) (K : PySem.W.Frag) : TS := (tRet (tCB (rTupleK K) (tCons (tLc (iTup K (tVar 1)) (gName 3) tYes (tOp (rI (fun _ j => 0 < j) fun i j => .int (i % j)) (tOp (rI CMul fun i j => .int (i * j)) (tVar 0) (tVar 3)) (tVar 2)) [3]) tNil)))

def N_law_band_key : List Str := ["_law_tin", "_law_p_so", "_law_cells_so", "_law_many_so", "_law_block_so", "_law_columns_so", "_law_j", "_law_column_so", "_law_own", "_law_k", "_law_digit_so", "_law_lap"]
def t__law_band_key (P : Program) (w : World) (K : PySem.W.Frag) : TS := (tSeq (tAsg (tLc (iRng1 (tCons (tOp (rI0 fun i j => .int (i + j)) (tC (.int 1)) (tCall (spT P w f__law_take) [] E0 (tCons (tVar 0) (tCons (tC (.int 2)) tNil)))) tNil)) (gName 11) tYes (tCB (rTupleK K) (tCons (tLc (iRng1 (tCons (tC (.int 2)) tNil)) (gName 9) tYes (tCall (spT P w f__law_take) [] E0 (tCons (tVar 0) (tCons (tVar 1) tNil))) [9]) tNil)) [11]) (gName 4))
  (tSeq (tAsg (tLst tNil) (gName 5))
  (tSeq (tFor (iRng1 (tCons (tVar 2) tNil)) (gName 6) (tSeq (tPar 7 8 (tCons (tOp rRep (tLst (tCons (tC (.int 0)) tNil)) (tVar 3)) (tCons (tOp (rIx K) (tVar 4) (tOp (rI (fun _ j => 0 < j) fun i j => .int (i % j)) (tVar 6) (tCB (rLenK K) (tCons (tVar 4) tNil)))) tNil)))
  (tSeq (tFor (iEnumT K (tCons (tVar 8) tNil)) (gTup K 2 (gCons (gName 9) (gCons (gName 10) gNil))) (tIfS (tTest (tOp (rI0 fun i j => .bl (decide (i < j))) (tOp (rI0 fun i j => .int (i + j)) (tOp (rI CDiv fun i j => .int (i / j)) (tVar 6) (tCB (rLenK K) (tCons (tVar 4) tNil))) (tVar 9)) (tVar 3))) (tAsg (tVar 10) (gSub (tVar 7) (tOp (rI0 fun i j => .int (i + j)) (tOp (rI CDiv fun i j => .int (i / j)) (tVar 6) (tCB (rLenK K) (tCons (tVar 4) tNil))) (tVar 9)) L2.rSetL)) tNext))
  (tDrop (tBM K "list" rAppend (tVar 5) (tCons (tCB (rTupleK K) (tCons (tVar 7) tNil)) tNil))))))
  (tRet (tTup (tCons (tVar 1) (tCons (tVar 3) (tCons (tCB (rTupleK K) (tCons (tVar 5) tNil)) tNil))))))))

def N_law_key : List Str := ["_law_tin", "_law_p_so", "_law_cells_so", "_law_many_so", "_law_kind_so", "_law_columns_so", "_law_lap", "_law_row_so", "_law_k", "_law_own"]
def t__law_key (P : Program) (w : World) (K : PySem.W.Frag) : TS := (tSeq (tAsg (tTup (tCons (tCall (spT P w f__law_take) [] E0 (tCons (tVar 0) (tCons (tC (.int 6)) tNil))) (tCons (tLst tNil) tNil))) (gTup K 2 (gCons (gName 4) (gCons (gName 5) gNil))))
  (tSeq (tIfS (tAnd (tTest (tOp rEq (tVar 4) (tC (.int 0)))) (tTest (tOp (rI0 fun i j => .bl (decide (j < i))) (tVar 3) (tC (.int 0))))) (tRet (tCall (spT P w f__law_band_key) [] E0 (tCons (tVar 0) (tCons (tVar 1) (tCons (tVar 2) (tCons (tVar 3) tNil)))))) tNext)
  (tSeq (tFor (iRng1 (tCons (tVar 2) tNil)) (gName 6) (tDrop (tBM K "list" rAppend (tVar 5) (tCons (tCB (rTupleK K) (tCons (tLc (iRng1 (tCons (tVar 3) tNil)) (gName 8) tYes (tCall (spT P w f__law_of) [] E0 (tCons (tVar 0) (tCons (tLst (tCons (tC (.int 0)) (tCons (tCall (spT P w f__law_take) [] E0 (tCons (tVar 0) (tCons (tVar 1) tNil))) tNil))) tNil))) [8]) tNil)) tNil))))
  (tSeq (tIfS (tTest (tOp rEq (tVar 4) (tC (.int 1)))) (tAsg (tLc (iList K (tVar 5)) (gName 9) tYes (tCall (spT P w f__law_of) [] E0 (tCons (tVar 0) (tCons (tSl (rSlL K) (tVar 5) tNoPart (tPart (tC (.int 2)))) tNil))) [9]) (gName 5)) tNext)
  (tSeq (tIfS (tAnd (tTest (tOp rEq (tVar 4) (tC (.int 2)))) (tTest (tOp (rI0 fun i j => .bl (decide (j < i))) (tVar 3) (tC (.int 0))))) (tSeq (tAsg (tCall (spT P w f__law_take) [] E0 (tCons (tVar 0) (tCons (tVar 3) tNil))) (gName 7))
  (tAsg (tLc (iList K (tVar 5)) (gName 9) tYes (tOp (rCatA K) (tOp (rCatA K) (tSl (rSlA K) (tVar 9) tNoPart (tPart (tVar 7))) (tTup (tCons (tC (.int 0)) tNil))) (tSl (rSlA K) (tVar 9) (tPart (tOp (rI0 fun i j => .int (i + j)) (tVar 7) (tC (.int 1)))) tNoPart)) [9]) (gName 5))) tNext)
  (tRet (tTup (tCons (tVar 1) (tCons (tVar 3) (tCons (tCB (rTupleK K) (tCons (tVar 5) tNil)) tNil))))))))))

def N_law_three : List Str := ["_law_key_so", "_law_guard_so"]
def t__law_three (P : Program) (w : World) (K : PySem.W.Frag) : TS := (tSeq (tAsg (tTup (tCons (tTup (tCons (tC (.int 2)) (tCons (tC (.int 1)) (tCons (tTup (tCons (tTup (tCons (tC (.int 1)) tNil)) (tCons (tTup (tCons (tC (.int 0)) tNil)) (tCons (tTup (tCons (tC (.int 0)) tNil)) tNil)))) tNil)))) (tCons (tTup (tCons (tC (.int 2)) (tCons (tC (.int 2)) (tCons (tTup (tCons (tTup (tCons (tC (.int 1)) (tCons (tC (.int 0)) tNil))) (tCons (tTup (tCons (tC (.int 1)) (tCons (tC (.int 1)) tNil))) (tCons (tTup (tCons (tC (.int 0)) (tCons (tC (.int 1)) tNil))) tNil)))) tNil)))) tNil))) (gTup K 2 (gCons (gName 0) (gCons (gName 1) gNil))))
  (tRet (tTup (tCons (tVar 0) (tCons (tVar 1) (tCons (tTup (tCons (tC (.int 7)) (tCons (tTup (tCons (tTup (tCons (tC (.int 2)) (tCons (tC (.int 4)) (tCons (tC (.int 6)) tNil)))) tNil)) tNil))) (tCons (tTup (tCons (tC (.int 7)) (tCons (tTup (tCons (tTup (tCons (tC (.int 2)) (tCons (tC (.int 5)) (tCons (tC (.int 6)) tNil)))) tNil)) tNil))) tNil)))))))

def N_law_keys : List Str := ["_law_tin", "_law_p_so", "_law_cells_so", "_law_many_so", "_law_watch_so"]
def t__law_keys (P : Program) (w : World) (K : PySem.W.Frag) : TS := (tSeq (tAsg (tCall (spT P w f__law_of) [] E0 (tCons (tVar 0) (tCons (tLst (tCons (tC (.int 2)) (tCons (tC (.int 2)) (tCons (tC (.int 3)) (tCons (tC (.int 2)) (tCons (tC (.int 3)) (tCons (tC (.int 5)) tNil))))))) tNil))) (gName 1))
  (tSeq (tAsg (tCall (spT P w f__law_of) [] E0 (tCons (tVar 0) (tCons (tDGet (tDisp [((tC (.int 2)), (tLst (tCons (tC (.int 5)) (tCons (tC (.int 6)) (tCons (tC (.int 4)) (tCons (tC (.int 7)) (tCons (tC (.int 1)) tNil))))))), ((tC (.int 3)), (tLst (tCons (tC (.int 4)) (tCons (tC (.int 5)) (tCons (tC (.int 3)) tNil))))), ((tC (.int 5)), (tLst (tCons (tC (.int 3)) (tCons (tC (.int 4)) tNil))))]) (tVar 1)) tNil))) (gName 2))
  (tSeq (tAsg (tCall (spT P w f__law_of) [] E0 (tCons (tVar 0) (tCons (tDGet (tDisp [((tC (.int 2)), (tLst (tCons (tC (.int 1)) (tCons (tC (.int 2)) (tCons (tC (.int 1)) (tCons (tC (.int 0)) tNil)))))), ((tC (.int 3)), (tLst (tCons (tC (.int 1)) (tCons (tC (.int 2)) (tCons (tC (.int 1)) (tCons (tC (.int 0)) tNil)))))), ((tC (.int 5)), (tLst (tCons (tC (.int 1)) (tCons (tC (.int 0)) tNil))))]) (tVar 1)) tNil))) (gName 3))
  (tSeq (tAsg (tCall (spT P w f__law_of) [] E0 (tCons (tVar 0) (tCons (tDGet (tDisp [((tC (.int 2)), (tLst (tCons (tC (.int 2)) (tCons (tC (.int 3)) (tCons (tC (.int 1)) (tCons (tC (.int 0)) tNil)))))), ((tC (.int 3)), (tLst (tCons (tC (.int 2)) (tCons (tC (.int 1)) (tCons (tC (.int 0)) tNil))))), ((tC (.int 5)), (tLst (tCons (tC (.int 1)) (tCons (tC (.int 0)) tNil))))]) (tVar 1)) tNil))) (gName 4))
  (tRet (tTup (tCons (tCall (spT P w f__law_key) [] E0 (tCons (tVar 0) (tCons (tVar 1) (tCons (tVar 2) (tCons (tVar 3) tNil))))) (tCons (tCall (spT P w f__law_key) [] E0 (tCons (tVar 0) (tCons (tVar 1) (tCons (tVar 2) (tCons (tVar 4) tNil))))) tNil))))))))

def N_law_all : List Str := ["_law_key_so", "_law_guard_so", "_law_p_so", "_law_found", "_law_far_so", "_law_near_so", "_law_longer_so", "_law_rests_so", "_law_one_so", "_law_two_so", "_law_digit_so"]
def t__law_all (P : Program) (w : World) (K : PySem.W.Frag) : TS := (tSeq (tPar 2 3 (tCons (tOp (rIx K) (tVar 0) (tC (.int 0))) (tCons (tLst (tCons (tTup (tCons (tTupX tNil) (tCons (tOp (rRepA K) (tTup (tCons (tC (.int 0)) tNil)) (tOp (rIx K) (tVar 1) (tC (.int 1)))) (tCons (tOp (rRepA K) (tTup (tCons (tC (.int 0)) tNil)) (tOp (rIx K) (tVar 0) (tC (.int 1)))) tNil)))) tNil)) tNil)))
  (tSeq (tFor (RZ.iZipA K (tCons (tOp (rIx K) (tVar 0) (tC (.int 2))) (tCons (tOp (rIx K) (tVar 1) (tC (.int 2))) tNil))) (gTup K 2 (gCons (gName 4) (gCons (gName 5) gNil))) (tSeq (tAsg (tLst tNil) (gName 6))
  (tSeq (tFor (iList K (tVar 3)) (gTup K 3 (gCons (gName 7) (gCons (gName 8) (gCons (gName 9) gNil)))) (tFor (iRng1 (tCons (tVar 2) tNil)) (gName 10) (tSeq (tDrop (tBM K "list" rAppend (tVar 6) (tCons (tTup (tCons (tOp rCatX (tVar 7) (tTupX (tCons (tVar 10) tNil))) (tCons (tVar 8) (tCons (tVar 9) tNil)))) tNil)))
  (tPar 8 9 (tCons (tCall (spT P w f__law_row_plus) [] E0 (tCons (tVar 8) (tCons (tVar 5) (tCons (tVar 2) tNil)))) (tCons (tCall (spT P w f__law_row_plus) [] E0 (tCons (tVar 9) (tCons (tVar 4) (tCons (tVar 2) tNil)))) tNil))))))
  (tAsg (tVar 6) (gName 3)))))
  (tRet (tVar 3))))

def N_law_is_forging : List Str := ["_law_key_so", "_law_own", "_law_cells_so", "_law_bit"]
def t__law_is_forging (P : Program) (w : World) (K : PySem.W.Frag) : TS := (tSeq (tIfS (tOr (tNot (tB (tCB (rIsi K) (tCons (tVar 1) (tCons (tC (.ty "tuple")) tNil))))) (tNot (tB (tCB (rAll K) (tCons (tLc (iTup K (tVar 1)) (gName 3) tYes (tAndV (tCB (rIsi K) (tCons (tVar 3) (tCons (tC (.ty "tuple")) tNil))) (tOp rEq (tCB (rLenK K) (tCons (tVar 3) tNil)) (tC (.int 2)))) [3]) tNil))))) (tRet (tC (.bl false))) tNext)
  (tSeq (tIfS (tNot (tB (tCB (rAll K) (tCons (tLc (iTup K (tVar 1)) (gName 3) tYes (tAndV (tCall (spT P w f__law_is_number) [] E0 (tCons (tOp (rIx K) (tVar 3) (tC (.int 0))) tNil)) (tCall (spT P w f__law_is_number) [] E0 (tCons (tOp (rIx K) (tVar 3) (tC (.int 1))) tNil))) [3]) tNil)))) (tRet (tC (.bl false))) tNext)
  (tSeq (tIfS (tNot (tB (tCB (rAll K) (tCons (tLc (iTup K (tVar 1)) (gName 3) tYes (tAndV (tChain (rI0 fun i j => .bl (decide (i ≤ j))) (rI0 fun i j => .bl (decide (i < j))) (tC (.int 0)) (tOp (rIx K) (tVar 3) (tC (.int 0))) (tCB (rLenK K) (tCons (tOp (rIx K) (tVar 0) (tC (.int 2))) tNil))) (tChain (rI0 fun i j => .bl (decide (i < j))) (rI0 fun i j => .bl (decide (i < j))) (tC (.int 0)) (tOp (rIx K) (tVar 3) (tC (.int 1))) (tOp (rIx K) (tVar 0) (tC (.int 0))))) [3]) tNil)))) (tRet (tC (.bl false))) tNext)
  (tSeq (tAsg (tLc (iTup K (tVar 1)) (gName 3) tYes (tOp (rIx K) (tVar 3) (tC (.int 0))) [3]) (gName 2))
  (tRet (tOp (rEqD K) (tVar 2) (tCB (rSortedSet w) (tCons (tCB (rSetL K w) (tCons (tVar 2) tNil)) tNil))))))))

def N_law_added : List Str := ["_law_key_so", "_law_own", "_law_found", "_law_cell_so", "_law_digit_so"]
def t__law_added (P : Program) (w : World) (K : PySem.W.Frag) : TS := (tSeq (tAsg (tOp (rRepA K) (tTup (tCons (tC (.int 0)) tNil)) (tOp (rIx K) (tVar 0) (tC (.int 1)))) (gName 2))
  (tSeq (tFor (iTup K (tVar 1)) (gTup K 2 (gCons (gName 3) (gCons (gName 4) gNil))) (tAsg (tCall (spT P w f__law_row_plus) [] E0 (tCons (tVar 2) (tCons (tCall (spT P w f__law_row_times) [] E0 (tCons (tVar 4) (tCons (tOp (rIx K) (tOp (rIx K) (tVar 0) (tC (.int 2))) (tVar 3)) (tCons (tOp (rIx K) (tVar 0) (tC (.int 0))) tNil)))) (tCons (tOp (rIx K) (tVar 0) (tC (.int 0))) tNil)))) (gName 2)))
  (tRet (tVar 2))))

def N_law_is_false : List Str := ["_law_key_so", "_law_guard_so", "_law_most_so", "_law_own"]
def t__law_is_false (P : Program) (w : World) (K : PySem.W.Frag) : TS := (tSeq (tIfS (tOr (tNot (tB (tCall (spT P w f__law_is_forging) [] E0 (tCons (tVar 0) (tCons (tVar 3) tNil))))) (tTest (tOp (rI0 fun i j => .bl (decide (j < i))) (tCB (rLenK K) (tCons (tVar 3) tNil)) (tVar 2)))) (tRet (tC (.bl false))) tNext)
  (tRet (tAndV (tNotV (tCB (rAnyI K) (tCons (tCall (spT P w f__law_added) [] E0 (tCons (tVar 1) (tCons (tVar 3) tNil))) tNil))) (tCB (rAnyI K) (tCons (tCall (spT P w f__law_added) [] E0 (tCons (tVar 0) (tCons (tVar 3) tNil))) tNil)))))

def N_law_by_hand_right : List Str := ["_law_key_so", "_law_guard_so", "_law_calm_so", "_law_seen_so", "_law_got", "_law_pair_so"]
def t__law_by_hand_right (P : Program) (w : World) (K : PySem.W.Frag) : TS := (tSeq (tAsg (tCall (spT P w f__law_three) [] E0 tNil) (gTup K 4 (gCons (gName 0) (gCons (gName 1) (gCons (gName 2) (gCons (gName 3) gNil))))))
  (tSeq (tAsg (tLst (tCons (tCall (spT P w f_least_false) [] E0 (tCons (tVar 0) (tCons (tVar 1) tNil))) (tCons (tCall (spT P w f_most_mended) [] E0 (tCons (tVar 0) (tCons (tVar 1) tNil))) (tCons (tCall (spT P w f_most_told) [] E0 (tCons (tVar 0) (tCons (tVar 1) tNil))) (tCons (tCall (spT P w f_is_false_forging) [] E0 (tCons (tVar 0) (tCons (tVar 1) (tCons (tC (.int 3)) (tCons (tTup (tCons (tTup (tCons (tC (.int 0)) (tCons (tC (.int 1)) tNil))) tNil)) tNil))))) tNil))))) (gName 4))
  (tSeq (tAsg (tTup (tCons (tTup (tCons (tC (.int 2)) (tCons (tC (.int 1)) (tCons (tTup (tCons (tTup (tCons (tC (.int 1)) tNil)) (tCons (tTup (tCons (tC (.int 0)) tNil)) tNil))) tNil)))) (tCons (tTup (tCons (tC (.int 2)) (tCons (tC (.int 1)) (tCons (tTup (tCons (tTup (tCons (tC (.int 1)) tNil)) (tCons (tTup (tCons (tC (.int 1)) tNil)) tNil))) tNil)))) tNil))) (gName 5))
  (tRet (tCall (spT P w f__law_same) [] E0 (tCons (tOp rCat (tVar 4) (tLst (tCons (tCall (spT P w f_least_false) [] E0 (tCons (tOp (rIx K) (tVar 5) (tC (.int 0))) (tCons (tOp (rIx K) (tVar 5) (tC (.int 1))) tNil))) (tCons (tCall (spT P w f_most_mended) [] E0 (tCons (tOp (rIx K) (tVar 5) (tC (.int 0))) (tCons (tOp (rIx K) (tVar 5) (tC (.int 1))) tNil))) tNil)))) (tCons (tLst (tCons (tC (.int 3)) (tCons (tC (.int 1)) (tCons (tC (.int 2)) (tCons (tC (.bl false)) (tCons (tC (.int 2)) (tCons (tC (.int 0)) tNil))))))) tNil)))))))

def N_law_bent : List Str := ["_law_tin", "_law_key_so", "_law_own", "_law_way_so", "_law_cells_so", "_law_drawn_so", "_law_k"]
def t__law_bent (P : Program) (w : World) (K : PySem.W.Frag) : TS := (tSeq (tPar 3 4 (tCons (tCall (spT P w f__law_take) [] E0 (tCons (tVar 0) (tCons (tC (.int 6)) tNil))) (tCons (tCB (rLenK K) (tCons (tOp (rIx K) (tVar 1) (tC (.int 2))) tNil)) tNil)))
  (tSeq (tAsg (tCB (rTupleK K) (tCons (tLc (iList K (tCB (rSorted K) (tCons (tCall (spT P w f__law_pick) [] E0 (tCons (tVar 0) (tCons (tLstRg (tRg1 (tVar 4))) (tCons (tCall (spT P w f__law_take) [] E0 (tCons (tVar 0) (tCons (tC (.int 4)) tNil))) tNil)))) tNil))) (gName 6) tYes (tTup (tCons (tVar 6) (tCons (tOp (rI0 fun i j => .int (i + j)) (tC (.int 1)) (tCall (spT P w f__law_take) [] E0 (tCons (tVar 0) (tCons (tOp (rI0 fun i j => .int (i - j)) (tOp (rIx K) (tVar 1) (tC (.int 0))) (tC (.int 1))) tNil)))) tNil))) [6]) tNil)) (gName 5))
  (tSeq (tIfS (tOr (tTest (tOp (rI0 fun i j => .bl (decide (i < j))) (tVar 3) (tC (.int 3)))) (tTest (tOp (rEqD K) (tVar 2) (tTup tNil)))) (tRet (tVar 5)) tNext)
  (tSeq (tIfS (tTest (tOp rEq (tVar 3) (tC (.int 3)))) (tRet (tOp (rCatA K) (tSl (rSlA K) (tVar 2) tNoPart (tPart (tUn (rU fun i => .int (-i)) (tC (.int 1))))) (tTup (tCons (tTup (tCons (tOp (rIx K) (tOp (rIx K) (tVar 2) (tUn (rU fun i => .int (-i)) (tC (.int 1)))) (tC (.int 0))) (tCons (tOp (rI0 fun i j => .int (i - j)) (tOp (rIx K) (tVar 1) (tC (.int 0))) (tOp (rIx K) (tOp (rIx K) (tVar 2) (tUn (rU fun i => .int (-i)) (tC (.int 1)))) (tC (.int 1)))) tNil))) tNil)))) tNext)
  (tRet (tIf (tTest (tOp rEq (tVar 3) (tC (.int 4)))) (tRevT K (tVar 2)) (tCB (rListK K) (tCons (tVar 2) tNil))))))))

def N_law_right : List Str := ["_law_tin", "_law_key_so", "_law_guard_so", "_law_false_so", "_law_sizes_so", "_law_least_so", "_law_soft_so", "_law_most_so", "_law_got", "_law_due", "_law_told", "_law_own", "_law_limit_so", "_law_lap"]
def t__law_right (P : Program) (w : World) (K : PySem.W.Frag) : TS := (tSeq (tAsg (tCall (spT P w f__law_keys) [] E0 (tCons (tVar 0) tNil)) (gTup K 2 (gCons (gName 1) (gCons (gName 2) gNil))))
  (tSeq (tAsg (tLc (iList K (tCall (spT P w f__law_all) [] E0 (tCons (tVar 1) (tCons (tVar 2) tNil)))) (gName 11) (tAnd (tNot (tB (tCB (rAnyI K) (tCons (tOp (rIx K) (tVar 11) (tC (.int 1))) tNil)))) (tB (tCB (rAnyI K) (tCons (tOp (rIx K) (tVar 11) (tC (.int 2))) tNil)))) (tOp (rIx K) (tVar 11) (tC (.int 0))) [11]) (gName 3))
  (tSeq (tAsg (tLc (iList K (tVar 3)) (gName 11) tYes (tOp (rI0 fun i j => .int (i - j)) (tCB rLenX (tCons (tVar 11) tNil)) (tCntX (tVar 11) (tCons (tC (.int 0)) tNil))) [11]) (gName 4))
  (tSeq (tAsg (tIf (tTest (tOp (rNeD K) (tVar 4) (tLst tNil))) (tCB (rMin K) (tCons (tVar 4) tNil)) (tC .non)) (gName 5))
  (tSeq (tPar 6 7 (tCons (tTup (tCons (tCall (spT P w f__law_lists) [] E0 (tCons (tVar 1) tNil)) (tCons (tCall (spT P w f__law_lists) [] E0 (tCons (tVar 2) tNil)) tNil))) (tCons (tCall (spT P w f__law_take) [] E0 (tCons (tVar 0) (tCons (tC (.int 4)) tNil))) tNil)))
  (tSeq (tAsg (tLst (tCons (tCall (spT P w f_least_false) [] E0 (tCons (tVar 1) (tCons (tVar 2) tNil))) (tCons (tCall (spT P w f_most_mended) [] E0 (tCons (tOp (rIx K) (tVar 6) (tC (.int 0))) (tCons (tVar 2) tNil))) (tCons (tCall (spT P w f_most_told) [] E0 (tCons (tVar 1) (tCons (tOp (rIx K) (tVar 6) (tC (.int 1))) tNil))) (tCons (tCall (spT P w f_mends) [] E0 (tCons (tOp (rIx K) (tVar 6) (tC (.int 0))) (tCons (tOp (rIx K) (tVar 6) (tC (.int 1))) (tCons (tVar 7) tNil)))) tNil))))) (gName 8))
  (tSeq (tAsg (tLst (tCons (tC .non) (tCons (tC .non) (tCons (tC .non) (tCons (tC (.bl true)) tNil))))) (gName 9))
  (tSeq (tIfS (tTest (tOp rNotNn (tVar 5) (tC .non))) (tAsg (tLst (tCons (tVar 5) (tCons (tOp (rI CDiv fun i j => .int (i / j)) (tOp (rI0 fun i j => .int (i - j)) (tVar 5) (tC (.int 1))) (tC (.int 2))) (tCons (tOp (rI0 fun i j => .int (i - j)) (tVar 5) (tC (.int 1))) (tCons (tOp (rI0 fun i j => .bl (decide (i < j))) (tOp (rI CMul fun i j => .int (i * j)) (tC (.int 2)) (tVar 7)) (tVar 5)) tNil))))) (gName 9)) tNext)
  (tSeq (tIfS (tNot (tB (tCall (spT P w f__law_same) [] E0 (tCons (tVar 8) (tCons (tVar 9) tNil))))) (tRet (tC (.bl false))) tNext)
  (tSeq (tAsg (tCall (spT P w f__law_heard) [] E0 (tCons (tOp (rIx K) (tVar 6) (tC (.int 0))) (tCons (tVar 2) tNil))) (gName 10))
  (tSeq (tIfS (tTest (tOp rIsNn (tVar 5) (tC .non))) (tSeq (tIfS (tNot (tB (tCall (spT P w f__law_same) [] E0 (tCons (tVar 10) (tCons (tLst (tCons (tC (.str "no paper")) (tCons (tC (.bl true)) tNil))) tNil))))) (tRet (tC (.bl false))) tNext)
  (tAsg (tTup tNil) (gName 10))) (tIfS (tNot (tB (tCall (spT P w f__law_is_false) [] E0 (tCons (tVar 1) (tCons (tVar 2) (tCons (tVar 5) (tCons (tVar 10) tNil))))))) (tRet (tC (.bl false))) tNext))
  (tSeq (tFor (iList K (tOp rCat (tLst (tCons (tVar 10) tNil)) (tLc (iRng1 (tCons (tC (.int 4)) tNil)) (gName 13) tYes (tCall (spT P w f__law_bent) [] E0 (tCons (tVar 0) (tCons (tVar 1) (tCons (tVar 10) tNil)))) [13]))) (gName 11) (tSeq (tAsg (tCB rMax2n (tCons (tC (.int 0)) (tCons (tOp (rI0 fun i j => .int (i - j)) (tCB (rLenK K) (tCons (tVar 11) tNil)) (tCall (spT P w f__law_of) [] E0 (tCons (tVar 0) (tCons (tLst (tCons (tC (.int 0)) (tCons (tC (.int 0)) (tCons (tC (.int 1)) tNil)))) tNil)))) tNil))) (gName 12))
  (tSeq (tAsg (tCall (spT P w f__law_is_false) [] E0 (tCons (tVar 1) (tCons (tVar 2) (tCons (tVar 12) (tCons (tVar 11) tNil))))) (gName 9))
  (tSeq (tIfS (tNot (tB (tCall (spT P w f__law_same) [] E0 (tCons (tCall (spT P w f_is_false_forging) [] E0 (tCons (tVar 1) (tCons (tVar 2) (tCons (tVar 12) (tCons (tVar 11) tNil))))) (tCons (tVar 9) tNil))))) (tRet (tC (.bl false))) tNext)
  (tSeq (tIfS (tNot (tB (tCall (spT P w f__law_is_forging) [] E0 (tCons (tVar 1) (tCons (tVar 11) tNil))))) tCont tNext)
  (tSeq (tAsg (tTup (tCons (tCall (spT P w f__law_added) [] E0 (tCons (tVar 2) (tCons (tVar 11) tNil))) (tCons (tCall (spT P w f__law_added) [] E0 (tCons (tVar 1) (tCons (tVar 11) tNil))) tNil))) (gName 9))
  (tIfS (tNot (tB (tCall (spT P w f__law_same) [] E0 (tCons (tCall (spT P w f_sums_of) [] E0 (tCons (tOp (rIx K) (tVar 6) (tC (.int 0))) (tCons (tVar 2) (tCons (tCB (rListK K) (tCons (tVar 11) tNil)) tNil)))) (tCons (tVar 9) tNil))))) (tRet (tC (.bl false))) tNext)))))))
  (tRet (tC (.bl true)))))))))))))))

def N_law_box : List Str := ["_law_script", "_law_k", "_law_cell_so"]
def t__law_box (P : Program) (w : World) (K : PySem.W.Frag) : TS := (tSeq (tAsg (tIf (tTest (tOp (rI0 fun i j => .bl (decide (i < j))) (tVar 1) (tCB (rLenK K) (tCons (tVar 0) tNil)))) (tOp (rIx K) (tVar 0) (tVar 1)) (tC (.int 0))) (gName 2))
  (tRet (tLst (tCons (tOp (rI CMul fun i j => .int (i * j)) (tCB rAbs1 (tCons (tVar 2) tNil)) (tCB rInt1 (tCons (tOp (rI0 fun i j => .bl (decide (j ≤ i))) (tCB rAbs1 (tCons (tVar 2) tNil)) (tOp (rI CPow fun i j => .int (i ^ j.toNat)) (tC (.int 10)) (tC (.int 18)))) tNil))) (tCons (tOp (rI0 fun i j => .int (i + j)) (tOp (rI0 fun i j => .int (i + j)) (tOp (rI (fun _ j => 0 < j) fun i j => .int (i % j)) (tCB rInt1 (tCons (tVar 2) tNil)) (tC (.int 2305843009213693951))) (tOp (rI CMul fun i j => .int (i * j)) (tC (.int 39373)) (tVar 1))) (tC (.int 10878))) (tCons (tC (.int 0)) tNil))))))

def N_law_cells : List Str := ["_law_script", "_law_most_so", "_law_cells_so", "_law_k", "_law_cell_so", "_law_at_so"]
def t__law_cells (P : Program) (w : World) (K : PySem.W.Frag) : TS := (tSeq (tAsg (tOrT K (tCB (rListK K) (tCons (tSl (rSlL K) (tVar 0) tNoPart (tPart (tVar 1))) tNil)) (tLst (tCons (tC (.int 0)) tNil))) (gName 2))
  (tSeq (tFor (iEnum K (tCons (tSl (rSlL K) (tVar 0) (tPart (tVar 1)) (tPart (tC (.int 63)))) tNil)) (gTup K 2 (gCons (gName 3) (gCons (gName 4) gNil))) (tSeq (tAsg (tOp (rI (fun _ j => 0 < j) fun i j => .int (i % j)) (tCB rInt1 (tCons (tVar 3) tNil)) (tVar 1)) (gName 5))
  (tAsg (tOp (rI0 fun i j => .int (i + j)) (tOp (rIx K) (tVar 2) (tVar 5)) (tOp (rI CMul fun i j => .int (i * j)) (tVar 4) (tOp (rI0 fun i j => .int (i + j)) (tVar 3) (tC (.int 2))))) (gSub (tVar 2) (tVar 5) L2.rSetL))))
  (tRet (tVar 2))))

def Nlaw : List Str := ["_law_script"]
def t_law (spB spC : Sp) (P : Program) (w : World) (K : PySem.W.Frag) : TS := (tSeq (tIfS (tNot (tB (tCall (spT P w f__law_by_hand_right) [] E0 tNil))) (tRet (tC (.bl false))) tNext)
  (tRet (tCall (spT P w f__law_right) [] E0 (tCons (tCall spB [] E0 (tCons (tCall spC [] E0 (tCons (tVar 0) (tCons (tC (.int 1)) tNil))) (tCons (tC (.int 0)) tNil))) tNil))))

end DK

/-! ## X1 -/
namespace DK
open PySem PySem.Spec PyProof.Rows L2
/-! # The small defs -/
/-- t does what f says -/
abbrev DefOk (P : Program) (w : World) (N : List Str) (t : TS) (f : FD) : Prop :=
  ∀ as n Po, f as n Po → EX P w t ⟨as.map slotOf ++ List.replicate (N.length - as.length) none, n⟩ (fun s' => Po .non s'.n) (fun _ => False) fun d s' => Po d s'.n
section
variable {P : Program} {w : World} {K : PySem.W.Frag} {s : DS} {te ta tb : TE}
/-! ### keys -/
theorem ed_kp {dk : Dt} {k : Ky} (hk : IsKey dk k) (h : ED P w te s dk) : ED P w (tOp (rIx K) te (tC (.int 0))) s (.int k.p) := by
  rcases hk with rfl | rfl
  · exact ed_op h ed_int (rd_ixT rfl)
  · exact ed_op h ed_int (rd_ixL rfl)
theorem ed_kmany {dk : Dt} {k : Ky} (hk : IsKey dk k) (h : ED P w te s dk) : ED P w (tOp (rIx K) te (tC (.int 1))) s (.int k.many) := by
  rcases hk with rfl | rfl
  · exact ed_op h ed_int (rd_ixT rfl)
  · exact ed_op h ed_int (rd_ixL rfl)
theorem ed_klen {dk : Dt} {k : Ky} (hk : IsKey dk k) (h : ED P w te s dk) : ED P w (tCB (rLenK K) (tCons (tOp (rIx K) te (tC (.int 2))) tNil)) s (.int k.cols.length) := by
  rcases hk with rfl | rfl
  · exact (ed_cb1 (ed_op h ed_int (rd_ixT rfl)) rc_lenT).is (by rw [List.length_map])
  · exact (ed_cb1 (ed_op h ed_int (rd_ixL rfl)) rc_lenL).is (by rw [List.length_map])
theorem IsKey.h {k : Ky} : IsKey (hardD k) k := .inl rfl
theorem ed_lenRow {r : Row} (h : ED P w te s (rowD r)) : ED P w (tCB (rLenK K) (tCons te tNil)) s (.int r.length) := (ed_cb1 h rc_lenT).is (by rw [List.length_map])
/-! ### defs -/
theorem ex_is_number : DefOk P w Nis_number (t_is_number P w K) f_is_number := by
  intro as n Po ⟨i, e, h⟩
  subst e
  exact ex_ret ((ed_andV (a := true) (b := true) (ed_isi (ed_var rfl) rfl) fun _ => ed_notV (a := false) (ed_isi (ed_var rfl) rfl)).to h)
theorem ex__law_is_number : DefOk P w N_law_is_number (t__law_is_number P w K) f__law_is_number := by
  intro as n Po ⟨i, e, h⟩
  subst e
  exact ex_ret ((ed_andV (a := true) (b := true) (ed_isi (ed_var rfl) rfl) fun _ => ed_notV (a := false) (ed_isi (ed_var rfl) rfl)).to h)
theorem call_is_number {i : Int} (h : ED P w te s (.int i)) : ED P w (tCall (spT P w f_is_number) [] E0 (tCons te tNil)) s (.bl true) := ed_call (as := [.int i]) (eda_cons h eda_nil) fun Po p => ⟨i, rfl, p _⟩
theorem ex_is_count : DefOk P w Nis_count (t_is_count P w K) f_is_count := by
  intro as n Po ⟨i, e, h⟩
  subst e
  exact ex_ret ((ed_andV (call_is_number (ed_var rfl)) fun _ => ed_op (ed_var rfl) ed_int rd_ge).to (by rw [Bool.true_and]; exact h))
theorem ex_is_from_one : DefOk P w Nis_from_one (t_is_from_one P w K) f_is_from_one := by
  intro as n Po ⟨i, e, h⟩
  subst e
  exact ex_ret ((ed_andV (call_is_number (ed_var rfl)) fun _ => ed_op (ed_var rfl) ed_int rd_ge).to (by rw [Bool.true_and]; exact h))
theorem ex_is_below : DefOk P w Nis_below (t_is_below P w K) f_is_below := by
  intro as n Po ⟨i, m, e, h⟩
  subst e
  exact ex_ret ((ed_andV (ed_call (as := [.int i]) (d := .bl (decide (0 ≤ i))) (eda_cons (ed_var rfl) eda_nil) fun Po p => ⟨i, rfl, p _⟩) fun _ => ed_op (ed_var rfl) (ed_var rfl) rd_lt).to h)
theorem ex_is_tuple_of : DefOk P w Nis_tuple_of (t_is_tuple_of P w K) f_is_tuple_of := by
  intro as n Po ⟨ds, m, e, h⟩
  subst e
  exact ex_ret ((ed_andV (ed_isi (ed_var rfl) rfl) fun _ => ed_op (ed_cb1 (ed_var rfl) rc_lenT) (ed_var rfl) rd_eqI).to (by rw [Bool.true_and]; exact h))
theorem cut_tail (xs : List Dt) : cutD xs (some 1) none = xs.tail := by
  unfold cutD
  have e : HT.sIx xs.length 0 (some 1) = min 1 xs.length := HT.sIx_nat _ _ 1
  rw [e]
  show (xs.drop _).take (xs.length - _) = _
  cases xs with
  | nil => rfl
  | cons x xs =>
    rw [show min 1 (x :: xs).length = 1 by simp]
    show xs.take ((x :: xs).length - 1) = xs
    rw [List.take_of_length_le (by simp)]
theorem zip_ints (a b : List Int) : zipD (a.map Dt.int) (b.map Dt.int) = (a.zip b).map fun q => Dt.tup [.int q.1, .int q.2] := by
  unfold zipD
  rw [List.zip_map, List.map_map]
  rfl
theorem get_map {α β : Type} {f : α → β} {l : List α} {i : Nat} {y : β} (h : (l.map f)[i]? = some y) : ∃ x, l[i]? = some x ∧ y = f x := by
  rw [List.getElem?_map] at h
  cases e : l[i]? with
  | none => rw [e] at h; cases h
  | some x => rw [e] at h; exact ⟨x, rfl, (Option.some.inj h).symm⟩
theorem map_get {α β : Type} {f : α → β} {l : List α} {i : Nat} {x : α} (h : l[i]? = some x) : (l.map f)[i]? = some (f x) := by rw [List.getElem?_map, h]; rfl
theorem ex_ascends : DefOk P w Nascends (t_ascends P w K) f_ascends := by
  intro as n Po ⟨ns, e, hz, h⟩
  subst e
  have hm := edn_map (P := P) (w := w) (s := ⟨[some (.val (ilD ns)), none, none], n⟩) (ys := ((ns.zip ns.tail).map fun q => decide (q.1 < q.2)).map Dt.bl) (vs := [1, 2])
    (wi := RZ.iZipA K (tCons (tVar 0) (tCons (tSl (rSlL K) (tVar 0) (tPart (tC (.int 1))) tNoPart) tNil))) (g := gTup K 2 (gCons (gName 1) (gCons (gName 2) gNil))) (te := tOp (rI0 fun i j => .bl (decide (i < j))) (tVar 1) (tVar 2)) (by
      intro i hi
      simp only [List.mem_cons, List.not_mem_nil, or_false] at hi
      rcases hi with rfl | rfl <;> rfl)
    (evi_zipL ((ed_var rfl).to ((ed_of_new (edn_slL (ed_var rfl) (evo_some ed_int) evo_none)).to ⟨ns.map Dt.int, _, rfl, rfl, rfl, by
      rw [cut_tail, ← List.map_tail, zip_ints, List.length_map, List.length_zip]; omega, by
      rw [cut_tail, ← List.map_tail, zip_ints, List.length_map, List.length_map, List.length_map], fun i d hd => by
      rw [cut_tail, ← List.map_tail, zip_ints] at hd
      obtain ⟨q, hq, rfl⟩ := get_map hd
      exact ⟨_, _, _, map_get (map_get hq), ga_tup2 (by show 1 < 3; decide) (by show 2 < 3; decide), fun j hj => hj, ed_op (ed_var rfl) (ed_var rfl) rd_lt⟩⟩)))
  refine ex_ret ((ed_cb1 (ed_of_new hm) rc_all).to ?_)
  rw [show ((ns.zip ns.tail).map fun q => decide (q.1 < q.2)).all id = ascB ns by unfold ascB; rw [List.all_map]; rfl]
  exact h
theorem ex_zero_row : DefOk P w Nzero_row (t_zero_row P w K) f_zero_row := by
  intro as n Po ⟨m, e, h0, h1, h⟩
  subst e
  exact ex_ret ((ed_op (ed_tup1 ed_int) (ed_var rfl) (rd_rep h0 h1)).to (by
    unfold zeroR rowD at h
    rw [List.map_replicate] at h
    exact h))
theorem ex_fit_lengths : DefOk P w Nfit_lengths (t_fit_lengths P w K) f_fit_lengths := by
  intro as n Po ⟨a, b, e, hl, h⟩
  subst e
  refine ex_ifD (edt_test (ed_op (ed_cb1 (ed_var rfl) rc_lenT) (ed_cb1 (ed_var rfl) rc_lenT) rd_neI)) (fun e => ?_) fun _ => ex_next h
  rw [hl] at e
  simp at e
theorem zip_rows (a b : Row) : zipD (a.map Dt.int) (b.map Dt.int) = (a.zip b).map fun q => Dt.tup [.int q.1, .int q.2] := zip_ints a b
theorem addR_map (p : Int) (a b : Row) : addR p a b = (a.zip b).map fun q => (q.1 + q.2) % p := by
  unfold addR
  rw [List.zip, List.map_zipWith]
/-- tuple([.. for near, far in zip(one, other)]) -/
theorem ed_addComp {p : Int} {a b : Row} {i j x y z : Nat} (hp : 0 < p) (hz : a.length ≤ 1000) (hi : s.ε[i]? = some (some (.val (rowD a)))) (hj : s.ε[j]? = some (some (.val (rowD b)))) (hq : s.ε[z]? = some (some (.val (.int p))))
    (hx : s.ε[x]? = some none) (hy : s.ε[y]? = some none) (nxy : x ≠ y) (nx : z ≠ x) (ny : z ≠ y) :
    ED P w (tCB (rTupleK K) (tCons (tLc (RZ.iZipA K (tCons (tVar i) (tCons (tVar j) tNil))) (gTup K 2 (gCons (gName x) (gCons (gName y) gNil))) tYes (tOp (rI (fun _ j => 0 < j) fun i j => .int (i % j)) (tOp (rI0 fun i j => .int (i + j)) (tVar x) (tVar y)) (tVar z)) [x, y]) tNil)) s (rowD (addR p a b)) := by
  have lx : x < s.ε.length := (List.getElem?_eq_some_iff.mp hx).1
  have ly : y < s.ε.length := (List.getElem?_eq_some_iff.mp hy).1
  have hm := edn_map (P := P) (w := w) (s := s) (ys := (addR p a b).map Dt.int) (vs := [x, y]) (wi := RZ.iZipA K (tCons (tVar i) (tCons (tVar j) tNil))) (g := gTup K 2 (gCons (gName x) (gCons (gName y) gNil)))
    (te := tOp (rI (fun _ j => 0 < j) fun i j => .int (i % j)) (tOp (rI0 fun i j => .int (i + j)) (tVar x) (tVar y)) (tVar z)) (by
      intro k hk
      simp only [List.mem_cons, List.not_mem_nil, or_false] at hk
      rcases hk with rfl | rfl
      · exact hx
      · exact hy)
    (evi_zipT ((ed_var hi).to ((ed_var hj).to ⟨a.map Dt.int, b.map Dt.int, rfl, rfl, rfl, by
      rw [zip_rows, List.length_map, List.length_zip]; omega, by
      rw [zip_rows, addR_map, List.length_map, List.length_map, List.length_map], fun k d hd => by
      rw [zip_rows] at hd
      obtain ⟨q, hq', rfl⟩ := get_map hd
      refine ⟨_, _, _, by rw [addR_map]; exact map_get (map_get hq'), ga_tup2 lx ly, fun j hj => hj, ed_op (ed_op (ed_var ?_) (ed_var ?_) rd_add) (ed_var ?_) (rd_mod hp)⟩
      · show ((s.ε.set x _).set y _)[x]? = _
        rw [List.getElem?_set_ne (Ne.symm nxy), List.getElem?_set, if_pos rfl, if_pos lx]
      · show ((s.ε.set x _).set y _)[y]? = _
        rw [List.getElem?_set, if_pos rfl, if_pos (by rw [List.length_set]; exact ly)]
      · show ((s.ε.set x _).set y _)[z]? = _
        rw [List.getElem?_set_ne (Ne.symm ny), List.getElem?_set_ne (Ne.symm nx)]
        exact hq⟩)))
  exact ed_cb1 (ed_of_new hm) rc_tuple
theorem ex_row_sum : DefOk P w Nrow_sum (t_row_sum P w K) f_row_sum := by
  intro as n Po ⟨p, a, b, e, hp, hl, hz, h⟩
  subst e
  refine ex_seq (ex_drop ((ed_call (as := [rowD a, rowD b]) (d := .non) (eda_cons (ed_var rfl) (eda_cons (ed_var rfl) eda_nil)) fun Po p => ⟨a.map Dt.int, b.map Dt.int, rfl, by rw [List.length_map, List.length_map]; exact hl, p _⟩).to ?_))
  exact ex_ret ((ed_addComp (i := 1) (j := 2) (z := 0) (x := 3) (y := 4) hp hz rfl rfl rfl rfl rfl (by decide) (by decide) (by decide)).to h)
theorem ex__law_row_plus : DefOk P w N_law_row_plus (t__law_row_plus P w K) f__law_row_plus := by
  intro as n Po ⟨a, b, p, e, hp, hz, h⟩
  subst e
  exact ex_ret ((ed_addComp (i := 0) (j := 1) (z := 2) (x := 3) (y := 4) hp hz rfl rfl rfl rfl rfl (by decide) (by decide) (by decide)).to h)
end
end DK

/-! ## X2 -/
namespace DK
open PySem PySem.Spec PyProof.Rows L2
/-! # Rows, forgings, sums -/
section
variable {P : Program} {w : World} {K : PySem.W.Frag} {s : DS} {te ta tb : TE} {ts : TS} {N C : DS → Prop} {R : Dt → DS → Prop}
/-- forget what the slots at is hold behind the statement -/
theorem ex_unkN {is : List Nat} (h : EX P w ts s (fun s' => N (s'.unk is)) (fun s' => C (s'.unk is)) R) : EX P w ts s N C R := fun A B H σ S D n c r =>
  h A B H σ S D (fun σ' B' H' s' S' e p => n σ' B' H' _ (S'.sub (s' := s'.unk is) (by unfold DS.unk; rw [unk_len]; exact S'.len) rfl fun i sl e => ⟨(unk_get is s'.ε i sl e).1, rfl⟩) e p)
    (fun σ' B' H' s' S' e p => c σ' B' H' _ (S'.sub (s' := s'.unk is) (by unfold DS.unk; rw [unk_len]; exact S'.len) rfl fun i sl e => ⟨(unk_get is s'.ε i sl e).1, rfl⟩) e p) r
theorem ex_moreN {m : Nat} (h : EX P w ts s (fun s' => s'.n ≤ m ∧ N { s' with n := m }) (fun s' => s'.n ≤ m ∧ C { s' with n := m }) (fun d s' => s'.n ≤ m ∧ R d { s' with n := m })) : EX P w ts s N C R := fun A B H σ S D n c r =>
  h A B H σ S D (fun σ' B' H' s' S' e p => n σ' B' H' _ (S'.more p.1) e p.2) (fun σ' B' H' s' S' e p => c σ' B' H' _ (S'.more p.1) e p.2) (fun v B' H' d σ' s' S' Dv p => r v B' H' d σ' _ (S'.more p.1) Dv p.2)
/-! ### digit * own % p for own in row -/
theorem mul_comp {p d : Int} {r : Row} {wi : TI} {i z x : Nat} (hp : 0 < p) (hd : -1000 ≤ d ∧ d ≤ 1000) (hz : r.length ≤ 1000) (hr : s.ε[i]? = some (some (.val (.int d)))) (hq : s.ε[z]? = some (some (.val (.int p)))) (hx : s.ε[x]? = some none) (nx : i ≠ x) (nz : z ≠ x)
    (hw : EVI P w wi s fun ds s1 => ds = r.map Dt.int ∧ s1 = s) :
    ED P w (tCB (rTupleK K) (tCons (tLc wi (gName x) tYes (tOp (rI (fun _ j => 0 < j) fun i j => .int (i % j)) (tOp (rI CMul fun i j => .int (i * j)) (tVar i) (tVar x)) (tVar z)) [x]) tNil)) s (rowD (mulR p d r)) := by
  have lx : x < s.ε.length := (List.getElem?_eq_some_iff.mp hx).1
  refine ed_cb1 (ed_of_new (edn_map (ys := (mulR p d r).map Dt.int) (by
      intro k hk
      rw [List.mem_singleton.mp hk]
      exact hx)
    fun A B H σ S Q q => hw A B H σ S Q fun J B' H' ds s' S' M W ⟨e1, e2⟩ => q J B' H' ds s' S' M W ⟨e2, by rw [e1, List.length_map]; omega, by rw [e1, List.length_map]; unfold mulR; rw [List.length_map, List.length_map], fun k dd hk => ?_⟩)) rc_tuple
  rw [e1] at hk
  obtain ⟨q, hq', rfl⟩ := get_map hk
  refine ⟨_, _, _, map_get (map_get hq'), ga_name lx, fun j hj => hj, ed_op (ed_op (ed_var ?_) (ed_var ?_) (rd_mul (.inl ⟨by omega, by omega⟩))) (ed_var ?_) (rd_mod hp)⟩
  · show (s.ε.set x _)[i]? = _
    rw [List.getElem?_set_ne (Ne.symm nx)]
    exact hr
  · show (s.ε.set x _)[x]? = _
    rw [List.getElem?_set, if_pos rfl, if_pos lx]
  · show (s.ε.set x _)[z]? = _
    rw [List.getElem?_set_ne (Ne.symm nz)]
    exact hq
theorem ex_row_times : DefOk P w Nrow_times (t_row_times P w K) f_row_times := by
  intro as n Po ⟨p, d, r, dr, e, hr, hp, hd, hz, h⟩
  subst e
  refine ex_ret ((mul_comp (K := K) (i := 1) (z := 0) (x := 3) hp hd hz rfl rfl rfl (by decide) (by decide) ?_).to h)
  rcases hr with rfl | rfl
  · exact evi_r (evi_tup ((ed_var rfl).to ⟨_, rfl, rfl, rfl⟩))
  · exact evi_l (evi_list ((ed_var rfl).to ⟨_, rfl, rfl, rfl⟩))
theorem ex__law_row_times : DefOk P w N_law_row_times (t__law_row_times P w K) f__law_row_times := by
  intro as n Po ⟨d, r, p, e, hp, hd, hz, h⟩
  subst e
  exact ex_ret ((mul_comp (K := K) (i := 0) (z := 2) (x := 3) hp hd hz rfl rfl rfl (by decide) (by decide) (evi_tup ((ed_var rfl).to ⟨_, rfl, rfl, rfl⟩))).to h)
theorem ex_sure_guard : DefOk P w Nsure_guard (t_sure_guard P w K) f_sure_guard := by
  intro as n Po ⟨k, g, dk, dg, e, hk, hg, hp, hl, h⟩
  subst e
  refine ex_ifD (b := (!decide (k.p = g.p)) || !decide ((k.cols.length : Int) = g.cols.length)) (edt_or (edt_test (ed_op (ed_kp hk (ed_var rfl)) (ed_kp hg (ed_var rfl)) rd_neI)) fun _ => edt_test (ed_op (ed_klen hk (ed_var rfl)) (ed_klen hg (ed_var rfl)) rd_neI)) (fun e => ?_) fun _ => ex_next h
  rw [hp, hl] at e
  simp at e
theorem pow_step (p : Int) (i : Nat) : p ^ i * p = p ^ (i + 1) := (Int.pow_succ p i).symm
theorem ex_how_many_rows : DefOk P w Nhow_many_rows (t_how_many_rows P w K) f_how_many_rows := by
  intro as n Po ⟨p, m, e, h0, h5, m0, m1, h⟩
  subst e
  refine ex_seq (ex_setD (by show 2 < 4; decide) ed_int ?_)
  refine ex_seq (ex_for (evi_rng1 ((ed_var rfl).to ⟨m, rfl, by omega, by omega, fun i s' => s' = ⟨[some (.val (.int p)), some (.val (.int m)), some (.val (.int (p ^ i))), none], n⟩, by show _ = (⟨[_, _, some (.val (.int (p ^ 0))), _], n⟩ : DS); rw [Int.pow_zero]; rfl, fun i s2 d hd e2 => ?_, fun s2 e2 => ?_⟩)))
  · subst e2
    refine ⟨_, _, ga_name (by show 3 < 4; decide), ex_unkN (is := [3]) (ex_setD (by show 2 < 4; decide) (ed_op (ed_var rfl) (ed_var rfl) (rd_mul (.inr ⟨by omega, by omega⟩))) ?_)⟩
    rw [pow_step]
    rfl
  · subst e2
    refine ex_ret ((ed_var rfl).to ?_)
    rw [List.length_map, List.length_range]
    exact h
theorem kg_sums {k g : Ky} (h : KG k g) : k.p ^ (k.many + g.many).toNat ≤ 729 := by
  have pw : ∀ (p a b : Nat), 1 ≤ p → a ≤ b → p ^ a ≤ p ^ b := fun p a b hp hab => Nat.pow_le_pow_right hp hab
  have hk := h.ok1.m0
  have hg := h.ok2.m0
  rcases h.sh with ⟨e, h1, h2⟩ | ⟨e, h1, h2, _⟩ | ⟨e, h1, h2, _⟩
  · rw [e]
    have := pw 2 (k.many + g.many).toNat 5 (by decide) (by omega)
    have e2 : ((2 : Int) ^ (k.many + g.many).toNat) = ((2 ^ (k.many + g.many).toNat : Nat) : Int) := by norm_cast
    rw [e2]
    omega
  · rw [e]
    have := pw 3 (k.many + g.many).toNat 4 (by decide) (by omega)
    have e2 : ((3 : Int) ^ (k.many + g.many).toNat) = ((3 ^ (k.many + g.many).toNat : Nat) : Int) := by norm_cast
    rw [e2]
    omega
  · rw [e]
    have := pw 5 (k.many + g.many).toNat 2 (by decide) (by omega)
    have e2 : ((5 : Int) ^ (k.many + g.many).toNat) = ((5 ^ (k.many + g.many).toNat : Nat) : Int) := by norm_cast
    rw [e2]
    omega
theorem ex_sure_sums : DefOk P w Nsure_sums (t_sure_sums P w K) f_sure_sums := by
  intro as n Po ⟨k, g, e, kg, h⟩
  subst e
  have hk := kg.ok1
  have hg := kg.ok2
  refine ex_ifD (b := decide (729 < k.p ^ (k.many + g.many).toNat)) (edt_test (ed_op (ed_call (as := [.int k.p, .int (k.many + g.many)]) (d := .int (k.p ^ (k.many + g.many).toNat)) (eda_cons (ed_kp .h (ed_var rfl)) (eda_cons (ed_op (ed_kmany .h (ed_var rfl)) (ed_kmany .h (ed_var rfl)) rd_add) eda_nil))
    fun Po p => ⟨k.p, k.many + g.many, rfl, by have := hk.p0; omega, hk.p5, by have := hk.m0; have := hg.m0; omega, by have := hk.m3; have := hg.m3; omega, p _⟩) ed_int rd_gt)) (fun e => ?_) fun _ => ex_next h
  have := kg_sums kg
  have e' := of_decide_eq_true e
  omega
/-! ### is_forging -/
theorem ed_allMap {wi : TI} {g : TG} {vs : List Nat} {bs : List Bool} {xs : List Dt} (hu : ∀ i ∈ vs, s.ε[i]? = some none) (hz : xs.length ≤ 100000) (hl : xs.length = bs.length) (hw : EVI P w wi s fun ds s1 => ds = xs ∧ s1 = s)
    (h : ∀ (i : Nat) (d : Dt), xs[i]? = some d → ∃ b s2 is, bs[i]? = some b ∧ GA P w g d s s2 is ∧ (∀ j ∈ is, j ∈ vs) ∧ ED P w te s2 (.bl b)) : ED P w (tCB (rAll K) (tCons (tLc wi g tYes te vs) tNil)) s (.bl (bs.all id)) := by
  refine ed_cb1 (ed_of_new (edn_map (ys := bs.map Dt.bl) hu fun A B H σ S Q q => hw A B H σ S Q fun J B' H' ds s' S' M W ⟨e1, e2⟩ => q J B' H' ds s' S' M W ⟨e2, by rw [e1]; exact hz, by rw [e1, List.length_map]; exact hl, fun k dd hk => ?_⟩)) rc_all
  rw [e1] at hk
  obtain ⟨b, s2, is, hb, G, sub, he⟩ := h k dd hk
  exact ⟨_, s2, is, map_get hb, G, sub, he⟩
theorem edn_map2 {wi : TI} {g : TG} {vs : List Nat} {ys : List Dt} {xs : List Dt} (hu : ∀ i ∈ vs, s.ε[i]? = some none) (hz : xs.length ≤ 100000) (hl : xs.length = ys.length) (hw : EVI P w wi s fun ds s1 => ds = xs ∧ s1 = s)
    (h : ∀ (i : Nat) (d : Dt), xs[i]? = some d → ∃ y s2 is, ys[i]? = some y ∧ GA P w g d s s2 is ∧ (∀ j ∈ is, j ∈ vs) ∧ ED P w te s2 y) : EDN P w (tLc wi g tYes te vs) s ys :=
  edn_map hu fun A B H σ S Q q => hw A B H σ S Q fun J B' H' ds s' S' M W ⟨e1, e2⟩ => q J B' H' ds s' S' M W ⟨e2, by rw [e1]; exact hz, by rw [e1]; exact hl, fun k dd hk => h k dd (by rw [← e1]; exact hk)⟩
theorem evi_tupD {te : TE} {ds : List Dt} (h : ED P w te s (.tup ds)) : EVI P w (iTup K te) s fun xs s1 => xs = ds ∧ s1 = s := evi_tup (h.to ⟨ds, rfl, rfl, rfl⟩)
theorem evi_listD {te : TE} {ds : List Dt} (h : ED P w te s (.lst ds)) : EVI P w (iList K te) s fun xs s1 => xs = ds ∧ s1 = s := evi_list (h.to ⟨ds, rfl, rfl, rfl⟩)
theorem pairs_get {f : Fg} {i : Nat} {d : Dt} (h : (pairsD f)[i]? = some d) : ∃ q, f[i]? = some q ∧ d = .tup [.int q.1, .int q.2] := get_map h
theorem pairs_len {f : Fg} : (pairsD f).length = f.length := List.length_map ..
theorem one_mem {α : Type} {a b : α} (h : a ∈ [b]) : a = b := List.mem_singleton.mp h
theorem two_mem {α : Type} {a b c : α} (h : a ∈ [b, c]) : a = b ∨ a = c := by simpa using h
def fgT (k : Ky) (q : Int × Int) : Bool := decide (0 ≤ q.1) && decide (q.1 < (k.cols.length : Int)) && (decide (1 ≤ q.2) && decide (q.2 < k.p))
theorem isForg_eq (k : Ky) (f : Fg) : isForg k f = (f.all (fgT k) && ascB (f.map (·.1))) := rfl
theorem ex_is_forging : DefOk P w Nis_forging (t_is_forging P w K) f_is_forging := by
  intro as n Po ⟨k, t, f, e, hz, h⟩
  subst e
  have hz' : (pairsD f).length ≤ 100000 := by rw [pairs_len]; omega
  cases t with
  | false =>
    refine ex_seq (ex_ifD (b := true) (edt_or (a := true) (b := false) (edt_not (a := false) (edt_B (ed_isi (ed_var rfl) rfl))) fun z => (nomatch z)) (fun _ => ex_ret (ed_bl.to h)) fun z => (nomatch z))
  | true =>
    have e1 : ED P w (tCB (rAll K) (tCons (tLc (iTup K (tVar 1)) (gName 2) tYes (tCall (spT P w f_is_tuple_of) [] E0 (tCons (tVar 2) (tCons (tC (.int 2)) tNil))) [2]) tNil)) ⟨[some (.val (hardD k)), some (.val (.tup (pairsD f))), none, none, none, none], n⟩ (.bl ((f.map fun _ => true).all id)) :=
      ed_allMap (by intro i hi; rw [one_mem hi]; rfl) hz' (by rw [pairs_len, List.length_map]) (evi_tupD (ed_var rfl)) fun i d hd => by
        obtain ⟨q, hq, rfl⟩ := pairs_get hd
        exact ⟨true, _, _, map_get (f := fun _ => true) hq, ga_name (by show 2 < 6; decide), fun j hj => hj, ed_call (as := [.tup [.int q.1, .int q.2], .int 2]) (eda_cons (ed_var rfl) (eda_cons ed_int eda_nil)) fun Po p => ⟨_, _, rfl, p _⟩⟩
    have a1 : (f.map fun _ => true).all id = true := by simp
    rw [a1] at e1
    refine ex_seq (ex_ifD (b := false) (edt_or (a := false) (b := false) (edt_not (a := true) (edt_B (ed_isi (ed_var rfl) rfl))) fun _ => edt_not (edt_B e1)) (fun z => (nomatch z)) fun _ => ex_next ?_)
    have e2 : ED P w (tCB (rAll K) (tCons (tLc (iTup K (tVar 1)) (gTup K 2 (gCons (gName 3) (gCons (gName 4) gNil))) tYes (tAndV (tCall (spT P w f_is_below) [] E0 (tCons (tVar 3) (tCons (tCB (rLenK K) (tCons (tOp (rIx K) (tVar 0) (tC (.int 2))) tNil)) tNil))) (tAndV (tCall (spT P w f_is_from_one) [] E0 (tCons (tVar 4) tNil)) (tOp (rI0 fun i j => .bl (decide (i < j))) (tVar 4) (tOp (rIx K) (tVar 0) (tC (.int 0)))))) [3, 4]) tNil))
        ⟨[some (.val (hardD k)), some (.val (.tup (pairsD f))), none, none, none, none], n⟩ (.bl ((f.map (fgT k)).all id)) :=
      ed_allMap (by intro i hi; rcases two_mem hi with rfl | rfl <;> rfl) hz' (by rw [pairs_len, List.length_map]) (evi_tupD (ed_var rfl)) fun i d hd => by
        obtain ⟨q, hq, rfl⟩ := pairs_get hd
        refine ⟨_, _, _, map_get (f := fgT k) hq, ga_tup2 (by show 3 < 6; decide) (by show 4 < 6; decide), fun j hj => hj, ?_⟩
        exact ed_andV (ed_call (as := [.int q.1, .int k.cols.length]) (eda_cons (ed_var rfl) (eda_cons (ed_klen .h (ed_var rfl)) eda_nil)) fun Po p => ⟨_, _, rfl, p _⟩) fun _ =>
          ed_andV (ed_call (as := [.int q.2]) (eda_cons (ed_var rfl) eda_nil) fun Po p => ⟨_, rfl, p _⟩) fun _ => ed_op (ed_var rfl) (ed_kp .h (ed_var rfl)) rd_lt
    have a2 : (f.map (fgT k)).all id = f.all (fgT k) := by rw [List.all_map]; rfl
    rw [a2] at e2
    refine ex_seq (ex_ifD (edt_not (edt_B e2)) (fun z => ?_) fun z => ex_next ?_)
    · refine ex_ret (ed_bl.to ?_)
      have e3 : isFB true k f = false := by
        unfold isFB
        rw [isForg_eq]
        rw [Bool.not_eq_true'] at z
        rw [z]
        rfl
      rw [e3] at h
      exact h
    · refine ex_ret ((ed_call (as := [ilD (f.map (·.1))]) (d := .bl (ascB (f.map (·.1)))) (eda_cons (ed_of_new (edn_map2 (ys := (f.map (·.1)).map Dt.int) (by intro i hi; rcases two_mem hi with rfl | rfl <;> rfl) hz' (by rw [pairs_len, List.length_map, List.length_map]) (evi_tupD (ed_var rfl)) fun i d hd => by
        obtain ⟨q, hq, rfl⟩ := pairs_get hd
        exact ⟨_, _, _, map_get (map_get hq), ga_tup2 (by show 3 < 6; decide) (by show 5 < 6; decide), fun j hj => hj, ed_var rfl⟩)) eda_nil) fun Po p => ⟨_, rfl, by rw [List.length_map]; exact hz, p _⟩).to ?_)
      have e3 : isFB true k f = ascB (f.map (·.1)) := by
        unfold isFB
        rw [isForg_eq]
        rw [Bool.not_eq_false'] at z
        rw [z]
        rfl
      rw [e3] at h
      exact h
end
end DK

/-! ## X3 -/
namespace DK
open PySem PySem.Spec PyProof.Rows L2
/-! # Sums of forgings -/
section
variable {P : Program} {w : World} {K : PySem.W.Frag} {s : DS} {te ta tb tc : TE} {ts : TS} {N C : DS → Prop} {R : Dt → DS → Prop}
theorem atI_in {α : Type} {xs : List α} {c : Int} {x : α} (h0 : 0 ≤ c) (h : xs[c.toNat]? = some x) : atI xs c = some x := by
  have := atI_nat h
  rwa [Int.toNat_of_nonneg h0] at this
theorem colAt_get {k : Ky} {c : Int} (h0 : 0 ≤ c) (h1 : c < k.cols.length) : k.cols[c.toNat]? = some (colAt k c) := by
  have h : c.toNat < k.cols.length := by omega
  unfold colAt
  rw [List.getD_eq_getElem?_getD, List.getElem?_eq_getElem h]
  rfl
theorem colAt_mem {k : Ky} {c : Int} (h0 : 0 ≤ c) (h1 : c < k.cols.length) : colAt k c ∈ k.cols := List.mem_of_getElem? (colAt_get h0 h1)
/-- a key's column -/
theorem ed_kcol {dk : Dt} {k : Ky} {c : Int} (hk : IsKey dk k) (h : ED P w te s dk) (hc : ED P w tc s (.int c)) (h0 : 0 ≤ c) (h1 : c < k.cols.length) :
    ∃ dr, (dr = rowD (colAt k c) ∨ dr = ilD (colAt k c)) ∧ ED P w (tOp (rIx K) (tOp (rIx K) te (tC (.int 2))) tc) s dr := by
  rcases hk with rfl | rfl
  · exact ⟨_, .inl rfl, ed_op (ed_op h ed_int (rd_ixT rfl)) hc (rd_ixT (atI_in h0 (map_get (colAt_get h0 h1))))⟩
  · exact ⟨_, .inr rfl, ed_op (ed_op h ed_int (rd_ixL rfl)) hc (rd_ixL (atI_in h0 (map_get (colAt_get h0 h1))))⟩
theorem isForg_at {k : Ky} {f : Fg} {q : Int × Int} (h : isForg k f = true) (hq : q ∈ f) : 0 ≤ q.1 ∧ q.1 < k.cols.length ∧ 1 ≤ q.2 ∧ q.2 < k.p := by
  rw [isForg_eq, Bool.and_eq_true, List.all_eq_true] at h
  have := h.1 q hq
  unfold fgT at this
  simp only [Bool.and_eq_true, decide_eq_true_eq] at this
  exact ⟨this.1.1, this.1.2, this.2.1, this.2.2⟩
theorem addR_len {p : Int} {a b : Row} (h : a.length = b.length) : (addR p a b).length = a.length := by
  unfold addR
  rw [List.length_zipWith]
  omega
theorem mulR_len {p d : Int} {r : Row} : (mulR p d r).length = r.length := List.length_map ..
theorem zeroR_len {m : Int} : (zeroR m).length = m.toNat := List.length_replicate
theorem addedUp_snoc (k : Ky) (f : Fg) (q : Int × Int) : addedUp k (f ++ [q]) = addR k.p (addedUp k f) (mulR k.p q.2 (colAt k q.1)) := by
  unfold addedUp
  rw [List.foldl_append]
  rfl
theorem addedUp_len0 {k : Ky} (ok : KOk k) : ∀ (f : Fg) (acc : Row), acc.length = k.many.toNat → (∀ q ∈ f, 0 ≤ q.1 ∧ q.1 < k.cols.length) → (f.foldl (fun acc q => addR k.p acc (mulR k.p q.2 (colAt k q.1))) acc).length = k.many.toNat
  | [], acc, h, _ => h
  | q :: f, acc, h, hf => addedUp_len0 ok f _ (by
    have hq := hf q (by simp)
    rw [addR_len (by rw [h, mulR_len, ok.len _ (colAt_mem hq.1 hq.2)]), h]) fun q' hq' => hf q' (by simp [hq'])
theorem addedUp_len {k : Ky} (ok : KOk k) {f : Fg} (h : ∀ q ∈ f, 0 ≤ q.1 ∧ q.1 < k.cols.length) : (addedUp k f).length = k.many.toNat := addedUp_len0 ok f _ zeroR_len h
theorem take_snoc {α : Type} {l : List α} {i : Nat} {x : α} (h : l[i]? = some x) : l.take (i + 1) = l.take i ++ [x] := by rw [List.take_succ, h]; rfl
theorem ex_added_up : DefOk P w Nadded_up (t_added_up P w K) f_added_up := by
  intro as n Po ⟨k, t, f, dk, e, hk, ok, hf, hz, h⟩
  subst e
  have p0 := ok.p0
  have p5 := ok.p5
  have m0 := ok.m0
  have m3 := ok.m3
  refine ex_seq (ex_setD (by show 2 < 5; decide) (ed_call (as := [.int k.many]) (d := rowD (zeroR k.many)) (eda_cons (ed_kmany hk (ed_var rfl)) eda_nil) fun Po p => ⟨_, rfl, m0, by omega, p _⟩) ?_)
  have go : EVI P w (fun σ H R => iList K (tVar 1) σ H R ∨ iTup K (tVar 1) σ H R) ⟨[some (.val dk), some (.val (fgX t f)), some (.val (rowD (zeroR k.many))), none, none], n⟩ fun ds s1 => ds = pairsD f ∧ s1 = ⟨[some (.val dk), some (.val (fgX t f)), some (.val (rowD (zeroR k.many))), none, none], n⟩ := by
    cases t with
    | true => exact evi_r (evi_tupD (ed_var rfl))
    | false => exact evi_l (evi_listD (ed_var rfl))
  refine ex_seq (ex_for fun A B H σ S Q q => go A B H σ S Q fun J B' H' ds s' S' M W ⟨e1, e2⟩ => q J B' H' ds s' S' M W ⟨fun i s' => s' = ⟨[some (.val dk), some (.val (fgX t f)), some (.val (rowD (addedUp k (f.take i)))), none, none], n⟩, e2, fun i s2 d hd e3 => ?_, fun s2 e3 => ?_⟩)
  · rw [e1] at hd
    obtain ⟨q, hq, rfl⟩ := pairs_get hd
    subst e3
    have hm := List.mem_of_getElem? hq
    obtain ⟨q0, q1, q2, q3⟩ := isForg_at hf hm
    refine ⟨_, _, ga_tup2 (by show 3 < 5; decide) (by show 4 < 5; decide), ex_unkN (is := [3, 4]) ?_⟩
    obtain ⟨dr, hdr, ec⟩ := ed_kcol (P := P) (w := w) (K := K) (tc := tVar 3) (te := tVar 0) (c := q.1) (s := ⟨[some (.val dk), some (.val (fgX t f)), some (.val (rowD (addedUp k (f.take i)))), some (.val (.int q.1)), some (.val (.int q.2))], n⟩) hk (ed_var rfl) (ed_var rfl) q0 q1
    have lc := ok.len _ (colAt_mem q0 q1)
    have la := addedUp_len ok (f := f.take i) fun q' hq' => let ⟨a, b, _⟩ := isForg_at hf (List.mem_of_mem_take hq'); ⟨a, b⟩
    refine ex_setD (by show 2 < 5; decide) (ed_call (as := [.int k.p, rowD (addedUp k (f.take i)), rowD (mulR k.p q.2 (colAt k q.1))]) (d := rowD (addR k.p (addedUp k (f.take i)) (mulR k.p q.2 (colAt k q.1)))) (eda_cons (ed_kp hk (ed_var rfl)) (eda_cons (ed_var rfl) (eda_cons
      (ed_call (as := [.int k.p, .int q.2, dr]) (eda_cons (ed_kp hk (ed_var rfl)) (eda_cons (ed_var rfl) (eda_cons ec eda_nil))) fun Po p => ⟨k.p, q.2, colAt k q.1, dr, rfl, hdr, by omega, ⟨by omega, by omega⟩, by rw [lc]; omega, p _⟩) eda_nil)))
      fun Po p => ⟨_, _, _, rfl, by omega, by rw [la, mulR_len, lc], by rw [la]; omega, p _⟩) ?_
    show (⟨[some (.val dk), some (.val (fgX t f)), some (.val (rowD (addR k.p (addedUp k (f.take i)) (mulR k.p q.2 (colAt k q.1))))), none, none], n⟩ : DS) = _
    rw [take_snoc hq, addedUp_snoc]
  · subst e3
    refine ex_ret ((ed_var rfl).to ?_)
    rw [e1, pairs_len, List.take_length]
    exact h
theorem call_added_up {dk : Dt} {k : Ky} {t : Bool} {f : Fg} (hk : IsKey dk k) (ok : KOk k) (hf : isForg k f = true) (hz : f.length ≤ 1000) (h1 : ED P w ta s dk) (h2 : ED P w tb s (fgX t f)) : ED P w (tCall (spT P w f_added_up) [] E0 (tCons ta (tCons tb tNil))) s (rowD (addedUp k f)) :=
  ed_call (as := [dk, fgX t f]) (eda_cons h1 (eda_cons h2 eda_nil)) fun Po p => ⟨k, t, f, dk, rfl, hk, ok, hf, hz, p _⟩
theorem call_sure_guard {dk dg : Dt} {k g : Ky} (hk : IsKey dk k) (hg : IsKey dg g) (kg : KG k g) (h1 : ED P w ta s dk) (h2 : ED P w tb s dg) : ED P w (tCall (spT P w f_sure_guard) [] E0 (tCons ta (tCons tb tNil))) s .non :=
  ed_call (as := [dk, dg]) (eda_cons h1 (eda_cons h2 eda_nil)) fun Po p => ⟨k, g, dk, dg, rfl, hk, hg, kg.pp, kg.nn, p _⟩
theorem isForg_kg {k g : Ky} (kg : KG k g) (f : Fg) : isForg g f = isForg k f := by
  unfold isForg
  rw [kg.pp, kg.nn]
theorem ex_sums_of : DefOk P w Nsums_of (t_sums_of P w K) f_sums_of := by
  intro as n Po ⟨k, g, t, f, dk, dg, e, hk, hg, kg, hf, hz, h⟩
  subst e
  refine ex_seq (ex_drop ((call_sure_guard hk hg kg (ed_var rfl) (ed_var rfl)).to ?_))
  exact ex_ret ((ed_tup2 (call_added_up hg kg.ok2 (by rw [isForg_kg kg]; exact hf) hz (ed_var rfl) (ed_var rfl)) (call_added_up hk kg.ok1 hf hz (ed_var rfl) (ed_var rfl))).to h)
theorem fgX_len {t : Bool} {f : Fg} (h : ED P w te s (fgX t f)) : ED P w (tCB (rLenK K) (tCons te tNil)) s (.int f.length) := by
  cases t with
  | true => exact (ed_cb1 (show ED P w te s (.tup (pairsD f)) from h) rc_lenT).is (by rw [pairs_len])
  | false => exact (ed_cb1 (show ED P w te s (.lst (pairsD f)) from h) rc_lenL).is (by rw [pairs_len])
theorem call_zero_row {m : Int} (h0 : 0 ≤ m) (h1 : m ≤ 1000) (h : ED P w ta s (.int m)) : ED P w (tCall (spT P w f_zero_row) [] E0 (tCons ta tNil)) s (rowD (zeroR m)) :=
  ed_call (as := [.int m]) (eda_cons h eda_nil) fun Po p => ⟨m, rfl, h0, h1, p _⟩
theorem isFalseB_no {k g : Ky} {m : Int} {t : Bool} {f : Fg} (h : ((!isFB t k f) || decide (m < f.length)) = true) : isFalseB k g m t f = false := by
  unfold isFalseB
  rcases Bool.or_eq_true_iff.mp h with h | h
  · rw [Bool.not_eq_true'] at h
    rw [h]
    rfl
  · have : ¬ ((f.length : Int) ≤ m) := by have := of_decide_eq_true h; omega
    rw [decide_eq_false this, Bool.and_false]
    rfl
theorem isFalseB_yes {k g : Ky} {m : Int} {t : Bool} {f : Fg} (h : ((!isFB t k f) || decide (m < f.length)) = false) : isFalseB k g m t f = (decide (addedUp g f = zeroR g.many) && !decide (addedUp k f = zeroR k.many)) ∧ isFB t k f = true := by
  rw [Bool.or_eq_false_iff, Bool.not_eq_false'] at h
  unfold isFalseB
  have : ((f.length : Int) ≤ m) := by have := of_decide_eq_false h.2; omega
  rw [h.1, decide_eq_true this]
  exact ⟨rfl, rfl⟩
theorem isFB_yes {t : Bool} {k : Ky} {f : Fg} (h : isFB t k f = true) : t = true ∧ isForg k f = true := by
  unfold isFB at h
  rwa [Bool.and_eq_true] at h
theorem ex_is_false_forging : DefOk P w Nis_false_forging (t_is_false_forging P w K) f_is_false_forging := by
  intro as n Po ⟨k, g, m, t, f, e, kg, hz, h⟩
  subst e
  have k0 := kg.ok1.m0
  have k3 := kg.ok1.m3
  have g0 := kg.ok2.m0
  have g3 := kg.ok2.m3
  refine ex_seq (ex_drop ((call_sure_guard .h .h kg (ed_var rfl) (ed_var rfl)).to ?_))
  refine ex_seq (ex_ifD (edt_or (edt_not (edt_B (ed_call (as := [hardD k, fgX t f]) (d := .bl (isFB t k f)) (eda_cons (ed_var rfl) (eda_cons (ed_var rfl) eda_nil)) fun Po p => ⟨k, t, f, rfl, hz, p _⟩))) fun _ => edt_test (ed_op (fgX_len (t := t) (f := f) (ed_var rfl)) (ed_var rfl) rd_gt)) (fun z => ?_) fun z => ex_next ?_)
  · refine ex_ret (ed_bl.to ?_)
    rw [isFalseB_no z] at h
    exact h
  · obtain ⟨e1, e2⟩ := isFalseB_yes (g := g) z
    obtain ⟨_, e3⟩ := isFB_yes e2
    refine ex_seq (ex_asg ((ed_call (as := [hardD k, hardD g, fgX t f]) (d := .tup [rowD (addedUp g f), rowD (addedUp k f)]) (eda_cons (ed_var rfl) (eda_cons (ed_var rfl) (eda_cons (ed_var rfl) eda_nil))) fun Po p => ⟨k, g, t, f, _, _, rfl, .h, .h, kg, e3, hz, p _⟩).to ⟨_, _, ga_tup2 (by show 4 < 6; decide) (by show 5 < 6; decide), ?_⟩))
    refine ex_ret ((ed_andV (ed_op (ed_var rfl) (call_zero_row g0 (by omega) (ed_kmany .h (ed_var rfl))) rd_eqRow) fun _ => ed_op (ed_var rfl) (call_zero_row k0 (by omega) (ed_kmany .h (ed_var rfl))) rd_neRow).to ?_)
    rw [e1] at h
    exact h
/-! ### most .. -/
theorem call_least {dk dg : Dt} {k g : Ky} (hk : IsKey dk k) (hg : IsKey dg g) (kg : KG k g) (h1 : ED P w ta s dk) (h2 : ED P w tb s dg) : ED P w (tCall (spT P w f_least_false) [] E0 (tCons ta (tCons tb tNil))) s (leastD k g) :=
  ed_call (as := [dk, dg]) (eda_cons h1 (eda_cons h2 eda_nil)) fun Po p => ⟨k, g, dk, dg, rfl, hk, hg, kg, p _⟩
theorem ed_isN {d : Dt} (h : ED P w te s d) : ED P w (tOp rIsNn te (tC .non)) s (.bl d.isN) := ed_op h ed_non rd_isN
theorem ex_mends : DefOk P w Nmends (t_mends P w K) f_mends := by
  intro as n Po ⟨k, g, dk, dg, m, e, hk, hg, kg, h⟩
  subst e
  refine ex_seq (ex_setD (by show 3 < 4; decide) (call_least hk hg kg (ed_var rfl) (ed_var rfl)) ?_)
  unfold leastD
  cases hb : fewestFalse k g with
  | none =>
    rw [hb] at h
    exact ex_ret ((ed_orV (a := true) (b := true) (ed_isN (d := .non) (ed_var rfl)) fun z => (nomatch z)).to h)
  | some f =>
    rw [hb] at h
    exact ex_ret ((ed_orV (a := false) (ed_isN (d := .int f.length) (ed_var rfl)) fun _ => ed_op (ed_var rfl) (ed_op ed_int (ed_var rfl) (rd_mul (.inl ⟨by decide, by decide⟩))) rd_gt).to h)
theorem ex_most_mended : DefOk P w Nmost_mended (t_most_mended P w K) f_most_mended := by
  intro as n Po ⟨k, g, dk, dg, e, hk, hg, kg, h⟩
  subst e
  refine ex_seq (ex_setD (by show 2 < 3; decide) (call_least hk hg kg (ed_var rfl) (ed_var rfl)) ?_)
  unfold leastD
  cases hb : fewestFalse k g with
  | none =>
    rw [hb] at h
    exact ex_ret ((ed_if (b := true) (edt_test (ed_isN (d := .non) (ed_var rfl))) (fun _ => ed_non) fun z => (nomatch z)).to h)
  | some f =>
    rw [hb] at h
    exact ex_ret ((ed_if (b := false) (edt_test (ed_isN (d := .int f.length) (ed_var rfl))) (fun z => (nomatch z)) fun _ => ed_op (ed_op (ed_var rfl) ed_int rd_sub) ed_int (rd_fdiv ⟨by decide, by decide⟩)).to h)
theorem ex_most_told : DefOk P w Nmost_told (t_most_told P w K) f_most_told := by
  intro as n Po ⟨k, g, dk, dg, e, hk, hg, kg, h⟩
  subst e
  refine ex_seq (ex_setD (by show 2 < 3; decide) (call_least hk hg kg (ed_var rfl) (ed_var rfl)) ?_)
  unfold leastD
  cases hb : fewestFalse k g with
  | none =>
    rw [hb] at h
    exact ex_ret ((ed_if (b := true) (edt_test (ed_isN (d := .non) (ed_var rfl))) (fun _ => ed_non) fun z => (nomatch z)).to h)
  | some f =>
    rw [hb] at h
    exact ex_ret ((ed_if (b := false) (edt_test (ed_isN (d := .int f.length) (ed_var rfl))) (fun z => (nomatch z)) fun _ => ed_op (ed_var rfl) ed_int rd_sub).to h)
end
end DK

/-! ## X4 -/
namespace DK
open PySem PySem.Spec PyProof.Rows L2
/-! # The law's own forgings and sums -/
section
variable {P : Program} {w : World} {K : PySem.W.Frag} {s : DS} {te ta tb tc : TE} {ts : TS} {N C : DS → Prop} {R : Dt → DS → Prop}
theorem ascB_pw : ∀ {ns : List Int}, ascB ns = true ↔ ns.Pairwise (· < ·)
  | [] => ⟨fun _ => .nil, fun _ => rfl⟩
  | [x] => ⟨fun _ => by simp, fun _ => rfl⟩
  | x :: y :: ns => by
    have e : ascB (x :: y :: ns) = (decide (x < y) && ascB (y :: ns)) := rfl
    rw [e, Bool.and_eq_true, decide_eq_true_eq, ascB_pw]
    constructor
    · intro ⟨h1, h2⟩
      refine List.pairwise_cons.mpr ⟨fun z hz => ?_, h2⟩
      rcases List.mem_cons.mp hz with rfl | hz
      · exact h1
      · exact Int.lt_trans h1 ((List.pairwise_cons.mp h2).1 z hz)
    · intro h
      have := List.pairwise_cons.mp h
      exact ⟨this.1 y (by simp), this.2⟩
theorem sorted_eq : ∀ {a b : List Int}, a.Pairwise (· < ·) → b.Pairwise (· < ·) → (∀ x, x ∈ a ↔ x ∈ b) → a = b
  | [], [], _, _, _ => rfl
  | [], y :: b, _, _, h => absurd ((h y).mpr (by simp)) (by simp)
  | x :: a, [], _, _, h => absurd ((h x).mp (by simp)) (by simp)
  | x :: a, y :: b, ha, hb, h => by
    have ha' := List.pairwise_cons.mp ha
    have hb' := List.pairwise_cons.mp hb
    have exy : x = y := by
      rcases List.mem_cons.mp ((h x).mp (by simp)) with e | hx
      · exact e
      · rcases List.mem_cons.mp ((h y).mpr (by simp)) with e | hy
        · exact e.symm
        · have h1 := hb'.1 x hx
          have h2 := ha'.1 y hy
          omega
    subst exy
    have : a = b := sorted_eq ha'.2 hb'.2 fun z => by
      constructor
      · intro hz
        rcases List.mem_cons.mp ((h z).mp (List.mem_cons_of_mem _ hz)) with e | q
        · have := ha'.1 z hz
          omega
        · exact q
      · intro hz
        rcases List.mem_cons.mp ((h z).mpr (List.mem_cons_of_mem _ hz)) with e | q
        · have := hb'.1 z hz
          omega
        · exact q
    rw [this]
theorem asc_sorted {ns l : List Int} (h1 : l.Pairwise (· < ·)) (h2 : ∀ k, k ∈ l ↔ k ∈ ns) : decide (ns = l) = ascB ns := by
  cases h : ascB ns with
  | true => exact decide_eq_true (sorted_eq (ascB_pw.mp h) h1 fun x => (h2 x).symm)
  | false =>
    refine decide_eq_false fun e => ?_
    subst e
    rw [ascB_pw.mpr h1] at h
    cases h
theorem ex__law_is_forging : DefOk P w N_law_is_forging (t__law_is_forging P w K) f__law_is_forging := by
  intro as n Po ⟨k, t, f, e, hz, h⟩
  subst e
  have hz' : (pairsD f).length ≤ 100000 := by rw [pairs_len]; omega
  cases t with
  | false =>
    exact ex_seq (ex_ifD (b := true) (edt_or (a := true) (b := false) (edt_not (a := false) (edt_B (ed_isi (ed_var rfl) rfl))) fun z => (nomatch z)) (fun _ => ex_ret (ed_bl.to h)) fun z => (nomatch z))
  | true =>
    have hu : ∀ i ∈ [3], (⟨[some (.val (hardD k)), some (.val (.tup (pairsD f))), none, none], n⟩ : DS).ε[i]? = some none := by
      intro i hi
      rw [one_mem hi]
      rfl
    have e1 : ED P w (tCB (rAll K) (tCons (tLc (iTup K (tVar 1)) (gName 3) tYes (tAndV (tCB (rIsi K) (tCons (tVar 3) (tCons (tC (.ty "tuple")) tNil))) (tOp rEq (tCB (rLenK K) (tCons (tVar 3) tNil)) (tC (.int 2)))) [3]) tNil)) ⟨[some (.val (hardD k)), some (.val (.tup (pairsD f))), none, none], n⟩ (.bl ((f.map fun _ => true).all id)) :=
      ed_allMap hu hz' (by rw [pairs_len, List.length_map]) (evi_tupD (ed_var rfl)) fun i d hd => by
        obtain ⟨q, hq, rfl⟩ := pairs_get hd
        exact ⟨true, _, _, map_get (f := fun _ => true) hq, ga_name (by show 3 < 4; decide), fun j hj => hj, ed_andV (a := true) (b := true) (ed_isi (ed_var rfl) rfl) fun _ => ed_op (ed_cb1 (ed_var rfl) rc_lenT) ed_int rd_eqI⟩
    have a1 : (f.map fun _ => true).all id = true := by simp
    rw [a1] at e1
    refine ex_seq (ex_ifD (b := false) (edt_or (a := false) (b := false) (edt_not (a := true) (edt_B (ed_isi (ed_var rfl) rfl))) fun _ => edt_not (edt_B e1)) (fun z => (nomatch z)) fun _ => ex_next ?_)
    have e2 : ED P w (tCB (rAll K) (tCons (tLc (iTup K (tVar 1)) (gName 3) tYes (tAndV (tCall (spT P w f__law_is_number) [] E0 (tCons (tOp (rIx K) (tVar 3) (tC (.int 0))) tNil)) (tCall (spT P w f__law_is_number) [] E0 (tCons (tOp (rIx K) (tVar 3) (tC (.int 1))) tNil))) [3]) tNil)) ⟨[some (.val (hardD k)), some (.val (.tup (pairsD f))), none, none], n⟩ (.bl ((f.map fun _ => true).all id)) :=
      ed_allMap hu hz' (by rw [pairs_len, List.length_map]) (evi_tupD (ed_var rfl)) fun i d hd => by
        obtain ⟨q, hq, rfl⟩ := pairs_get hd
        exact ⟨true, _, _, map_get (f := fun _ => true) hq, ga_name (by show 3 < 4; decide), fun j hj => hj, ed_andV (a := true) (b := true)
          (ed_call (as := [.int q.1]) (eda_cons (ed_op (ed_var rfl) ed_int (rd_ixT rfl)) eda_nil) fun Po p => ⟨_, rfl, p _⟩) fun _ => ed_call (as := [.int q.2]) (eda_cons (ed_op (ed_var rfl) ed_int (rd_ixT rfl)) eda_nil) fun Po p => ⟨_, rfl, p _⟩⟩
    rw [a1] at e2
    refine ex_seq (ex_ifD (b := false) (edt_not (a := true) (edt_B e2)) (fun z => (nomatch z)) fun _ => ex_next ?_)
    have lt1 : ∀ b : Int, decide (0 < b) = decide (1 ≤ b) := fun b => by
      by_cases hb : 0 < b
      · rw [decide_eq_true hb, decide_eq_true (by omega)]
      · rw [decide_eq_false hb, decide_eq_false (by omega)]
    have e3 : ED P w (tCB (rAll K) (tCons (tLc (iTup K (tVar 1)) (gName 3) tYes (tAndV (tChain (rI0 fun i j => .bl (decide (i ≤ j))) (rI0 fun i j => .bl (decide (i < j))) (tC (.int 0)) (tOp (rIx K) (tVar 3) (tC (.int 0))) (tCB (rLenK K) (tCons (tOp (rIx K) (tVar 0) (tC (.int 2))) tNil))) (tChain (rI0 fun i j => .bl (decide (i < j))) (rI0 fun i j => .bl (decide (i < j))) (tC (.int 0)) (tOp (rIx K) (tVar 3) (tC (.int 1))) (tOp (rIx K) (tVar 0) (tC (.int 0))))) [3]) tNil))
        ⟨[some (.val (hardD k)), some (.val (.tup (pairsD f))), none, none], n⟩ (.bl ((f.map (fgT k)).all id)) :=
      ed_allMap hu hz' (by rw [pairs_len, List.length_map]) (evi_tupD (ed_var rfl)) fun i d hd => by
        obtain ⟨q, hq, rfl⟩ := pairs_get hd
        refine ⟨_, _, _, map_get (f := fgT k) hq, ga_name (by show 3 < 4; decide), fun j hj => hj, ?_⟩
        unfold fgT
        rw [← lt1]
        exact ed_andV (ed_chain (p := fun i j => decide (i ≤ j)) (q := fun i j => decide (i < j)) ed_int (ed_op (ed_var rfl) ed_int (rd_ixT rfl)) fun _ => ed_klen .h (ed_var rfl)) fun _ =>
          ed_chain (p := fun i j => decide (i < j)) (q := fun i j => decide (i < j)) ed_int (ed_op (ed_var rfl) ed_int (rd_ixT rfl)) fun _ => ed_kp .h (ed_var rfl)
    rw [show (f.map (fgT k)).all id = f.all (fgT k) by rw [List.all_map]; rfl] at e3
    refine ex_seq (ex_ifD (edt_not (edt_B e3)) (fun z => ?_) fun z => ex_next ?_)
    · refine ex_ret (ed_bl.to ?_)
      have e3 : isFB true k f = false := by
        unfold isFB
        rw [isForg_eq]
        rw [Bool.not_eq_true'] at z
        rw [z]
        rfl
      rw [e3] at h
      exact h
    · refine ex_seq (ex_setD (by show 2 < 4; decide) (ed_of_new (edn_map2 (ys := (f.map (·.1)).map Dt.int) hu hz' (by rw [pairs_len, List.length_map, List.length_map]) (evi_tupD (ed_var rfl)) fun i d hd => by
        obtain ⟨q, hq, rfl⟩ := pairs_get hd
        exact ⟨_, _, _, map_get (map_get hq), ga_name (by show 3 < 4; decide), fun j hj => hj, ed_op (ed_var rfl) ed_int (rd_ixT rfl)⟩)) ?_)
      refine ex_ret (ev_op ((ed_var rfl).to (ev_sortset ((ed_var rfl).to ⟨f.map (·.1), rfl, by rw [List.length_map]; omega, fun l h1 h2 => ⟨_, rd_eqIl, ?_⟩⟩))))
      rw [asc_sorted h1 h2]
      have e3 : isFB true k f = ascB (f.map (·.1)) := by
        unfold isFB
        rw [isForg_eq]
        rw [Bool.not_eq_false'] at z
        rw [z]
        rfl
      rw [e3] at h
      exact h
theorem ex__law_added : DefOk P w N_law_added (t__law_added P w K) f__law_added := by
  intro as n Po ⟨k, f, e, ok, hf, hz, h⟩
  subst e
  have p0 := ok.p0
  have p5 := ok.p5
  have m0 := ok.m0
  have m3 := ok.m3
  have hk : IsKey (hardD k) k := .h
  refine ex_seq (ex_setD (by show 2 < 5; decide) ((ed_op (ed_tup1 ed_int) (ed_kmany hk (ed_var rfl)) (rd_rep m0 (by omega))).is (z := rowD (zeroR k.many)) (by unfold zeroR rowD; rw [List.map_replicate])) ?_)
  have go : EVI P w (iTup K (tVar 1)) ⟨[some (.val (hardD k)), some (.val (fgX true f)), some (.val (rowD (zeroR k.many))), none, none], n⟩ fun ds s1 => ds = pairsD f ∧ s1 = ⟨[some (.val (hardD k)), some (.val (fgX true f)), some (.val (rowD (zeroR k.many))), none, none], n⟩ := evi_tupD (ed_var rfl)
  refine ex_seq (ex_for fun A B H σ S Q q => go A B H σ S Q fun J B' H' ds s' S' M W ⟨e1, e2⟩ => q J B' H' ds s' S' M W ⟨fun i s' => s' = ⟨[some (.val (hardD k)), some (.val (fgX true f)), some (.val (rowD (addedUp k (f.take i)))), none, none], n⟩, e2, fun i s2 d hd e3 => ?_, fun s2 e3 => ?_⟩)
  · rw [e1] at hd
    obtain ⟨q, hq, rfl⟩ := pairs_get hd
    subst e3
    have hm := List.mem_of_getElem? hq
    obtain ⟨q0, q1, q2, q3⟩ := isForg_at hf hm
    refine ⟨_, _, ga_tup2 (by show 3 < 5; decide) (by show 4 < 5; decide), ex_unkN (is := [3, 4]) ?_⟩
    have lc := ok.len _ (colAt_mem q0 q1)
    have la := addedUp_len ok (f := f.take i) fun q' hq' => let ⟨a, b, _⟩ := isForg_at hf (List.mem_of_mem_take hq'); ⟨a, b⟩
    refine ex_setD (by show 2 < 5; decide) (ed_call (as := [rowD (addedUp k (f.take i)), rowD (mulR k.p q.2 (colAt k q.1)), .int k.p]) (d := rowD (addR k.p (addedUp k (f.take i)) (mulR k.p q.2 (colAt k q.1)))) (eda_cons (ed_var rfl) (eda_cons
      (ed_call (as := [.int q.2, rowD (colAt k q.1), .int k.p]) (eda_cons (ed_var rfl) (eda_cons (ed_op (ed_op (ed_var rfl) ed_int (rd_ixT rfl)) (ed_var rfl) (rd_ixT (atI_in q0 (map_get (colAt_get q0 q1))))) (eda_cons (ed_kp hk (ed_var rfl)) eda_nil))) fun Po p => ⟨q.2, colAt k q.1, k.p, rfl, by omega, ⟨by omega, by omega⟩, by rw [lc]; omega, p _⟩) (eda_cons (ed_kp hk (ed_var rfl)) eda_nil)))
      fun Po p => ⟨_, _, _, rfl, by omega, by rw [la]; omega, p _⟩) ?_
    show (⟨[some (.val (hardD k)), some (.val (fgX true f)), some (.val (rowD (addR k.p (addedUp k (f.take i)) (mulR k.p q.2 (colAt k q.1))))), none, none], n⟩ : DS) = _
    rw [take_snoc hq, addedUp_snoc]
  · subst e3
    refine ex_ret ((ed_var rfl).to ?_)
    rw [e1, pairs_len, List.take_length]
    exact h
/-- a row of the right length is zero when no entry stands out -/
theorem any_zero : ∀ (r : Row), (r.any fun x => x != 0) = !decide (r = List.replicate r.length 0)
  | [] => rfl
  | x :: r => by
    rw [List.any_cons, any_zero r]
    by_cases h : x = 0
    · subst h
      by_cases h2 : r = List.replicate r.length 0
      · rw [decide_eq_true h2, decide_eq_true (show (0 : Int) :: r = List.replicate ((0 : Int) :: r).length 0 by rw [List.length_cons, List.replicate_succ, ← h2])]
        rfl
      · rw [decide_eq_false h2, decide_eq_false (fun e => h2 (by rw [List.length_cons, List.replicate_succ] at e; exact (List.cons.inj e).2))]
        rfl
    · rw [show (x != 0) = true by simpa using h, decide_eq_false (p := x :: r = List.replicate (x :: r).length 0) (fun e => h (by rw [List.length_cons, List.replicate_succ] at e; exact (List.cons.inj e).1))]
      rfl
theorem any_zeroR {r : Row} {m : Int} (h : r.length = m.toNat) : (r.any fun x => x != 0) = !decide (r = zeroR m) := by
  rw [any_zero, h]
  rfl
theorem added_zero {k : Ky} (ok : KOk k) {f : Fg} (hf : isForg k f = true) : ((addedUp k f).any fun x => x != 0) = !decide (addedUp k f = zeroR k.many) :=
  any_zeroR (addedUp_len ok fun q hq => let ⟨a, b, _⟩ := isForg_at hf hq; ⟨a, b⟩)
theorem ex__law_is_false : DefOk P w N_law_is_false (t__law_is_false P w K) f__law_is_false := by
  intro as n Po ⟨k, g, m, t, f, e, kg, hz, h⟩
  subst e
  refine ex_seq (ex_ifD (edt_or (edt_not (edt_B (ed_call (as := [hardD k, fgX t f]) (d := .bl (isFB t k f)) (eda_cons (ed_var rfl) (eda_cons (ed_var rfl) eda_nil)) fun Po p => ⟨k, t, f, rfl, hz, p _⟩))) fun _ => edt_test (ed_op (fgX_len (t := t) (f := f) (ed_var rfl)) (ed_var rfl) rd_gt)) (fun z => ?_) fun z => ex_next ?_)
  · refine ex_ret (ed_bl.to ?_)
    rw [isFalseB_no z] at h
    exact h
  · obtain ⟨e1, e2⟩ := isFalseB_yes (g := g) z
    obtain ⟨et, e3⟩ := isFB_yes e2
    subst et
    have e3g : isForg g f = true := by rw [isForg_kg kg]; exact e3
    refine ex_ret ((ed_andV (ed_notV (ed_cb1 (ed_call (as := [hardD g, fgX true f]) (d := rowD (addedUp g f)) (eda_cons (ed_var rfl) (eda_cons (ed_var rfl) eda_nil)) fun Po p => ⟨g, f, rfl, kg.ok2, e3g, hz, p _⟩) rc_anyI)) fun _ =>
      ed_cb1 (ed_call (as := [hardD k, fgX true f]) (d := rowD (addedUp k f)) (eda_cons (ed_var rfl) (eda_cons (ed_var rfl) eda_nil)) fun Po p => ⟨k, f, rfl, kg.ok1, e3, hz, p _⟩) rc_anyI).to ?_)
    rw [added_zero kg.ok2 e3g, added_zero kg.ok1 e3, Bool.not_not]
    rw [e1] at h
    exact h
end
end DK

/-! ## H1 -/
namespace DK
open PySem PySem.Spec PyProof.Rows L2
/-! # The keys' hashes are apart -/
def allRows (p : Nat) : Nat → List Row
  | 0 => [[]]
  | m + 1 => (allRows p m).flatMap fun r => (List.range p).map fun x : Nat => (x : Int) :: r
def allKeys (p a b : Nat) : List Kp := (allRows p a).flatMap fun x => (allRows p b).map fun y => (x, y)
def hashR (r : Row) : Int := reduceHash (Builtin.Tuple.tupleHashOf (r.map hashInt))
def hashK (p : Kp) : Int := reduceHash (Builtin.Tuple.tupleHashOf [hashR p.1, hashR p.2])
theorem hashes_nums (w : World) : ∀ r : Row, NestedKey.hashes w (r.map NestedKey.num) = r.map hashInt
  | [] => rfl
  | x :: r => by
    rw [List.map_cons, List.map_cons, ← hashes_nums w r]
    rfl
theorem hash_row (w : World) (r : Row) : NestedKey.hash w (.tup (r.map NestedKey.num)) = hashR r := by
  unfold hashR
  rw [← hashes_nums w r]
  rfl
theorem hashN_eq (w : World) (p : Kp) : hashN w p = hashK p := by
  unfold hashN nkey hashK
  rw [← hash_row w p.1, ← hash_row w p.2]
  rfl
theorem mem_allRows {p : Nat} : ∀ {m : Nat} {r : Row}, r.length = m → (∀ x ∈ r, 0 ≤ x ∧ x < (p : Int)) → r ∈ allRows p m
  | 0, r, h, _ => by
    rw [List.length_eq_zero_iff.mp h]
    exact List.mem_singleton.mpr rfl
  | m + 1, [], h, _ => by cases h
  | m + 1, x :: r, h, hx => by
    have hr := mem_allRows (m := m) (r := r) (by simpa using h) fun y hy => hx y (List.mem_cons_of_mem _ hy)
    refine List.mem_flatMap.mpr ⟨r, hr, List.mem_map.mpr ⟨x.toNat, List.mem_range.mpr ?_, ?_⟩⟩
    · have := hx x (by simp)
      omega
    · have := hx x (by simp)
      rw [Int.toNat_of_nonneg this.1]
def shapes : List (Nat × Nat × Nat) := [(2, 0, 0), (2, 0, 1), (2, 0, 2), (2, 1, 0), (2, 1, 1), (2, 1, 2), (2, 2, 0), (2, 2, 1), (2, 2, 2), (2, 3, 0), (2, 3, 1), (2, 3, 2), (3, 0, 0), (3, 0, 1), (3, 0, 2), (3, 1, 0), (3, 1, 1), (3, 1, 2), (3, 2, 0), (3, 2, 1), (3, 2, 2), (5, 0, 0), (5, 0, 1), (5, 1, 0), (5, 1, 1)]
theorem hk2_0_0 : (allKeys 2 0 0).map hashK = [9028247024705308198] := by decide +kernel
theorem nd2_0_0 : ((allKeys 2 0 0).map hashK).Nodup := by rw [hk2_0_0]; decide +kernel
theorem hk2_0_1 : (allKeys 2 0 1).map hashK = [5705479298745774528, -7715943332640168325] := by decide +kernel
theorem nd2_0_1 : ((allKeys 2 0 1).map hashK).Nodup := by rw [hk2_0_1]; decide +kernel
theorem hk2_0_2 : (allKeys 2 0 2).map hashK = [-949054335524956700, -6103464757848827707, 3386543568900114674, 5838211735045786963] := by decide +kernel
theorem nd2_0_2 : ((allKeys 2 0 2).map hashK).Nodup := by rw [hk2_0_2]; decide +kernel
theorem hk2_1_0 : (allKeys 2 1 0).map hashK = [8082791832532024400, -4157031232332679764] := by decide +kernel
theorem nd2_1_0 : ((allKeys 2 1 0).map hashK).Nodup := by rw [hk2_1_0]; decide +kernel
theorem hk2_1_1 : (allKeys 2 1 1).map hashK = [-2286005182062366095, -8661398524813452123, 3920915826782481357, 8946237269106090120] := by decide +kernel
theorem nd2_1_1 : ((allKeys 2 1 1).map hashK).Nodup := by rw [hk2_1_1]; decide +kernel
theorem hk2_1_2 : (allKeys 2 1 2).map hashK = [-1894509527698240498, 8750152218036951414, -4604940911908025949, -2153272745762353660, -2733617807488249871, -7888028229812120878, 1601980096936821503, 4053648263082493792] := by decide +kernel
theorem nd2_1_2 : ((allKeys 2 1 2).map hashK).Nodup := by rw [hk2_1_2]; decide +kernel
theorem hk2_2_0 : (allKeys 2 2 0).map hashK = [47701562875492891, 4999878240856452024, -756425342273080151, 4840840030310976504] := by decide +kernel
theorem nd2_2_0 : ((allKeys 2 2 0).map hashK).Nodup := by rw [hk2_2_0]; decide +kernel
theorem hk2_2_1 : (allKeys 2 2 1).map hashK = [-3275066163084040779, 1750255279239567984, 1677110514896918354, 6702431957220527117, -4079193068232613821, 946128374090994942, 1518072304351442834, 6543393746675051597] := by decide +kernel
theorem nd2_2_1 : ((allKeys 2 2 1).map hashK).Nodup := by rw [hk2_2_1]; decide +kernel
theorem hk2_2_2 : (allKeys 2 2 2).map hashK = [8517144276354779609, 7761091237015276730, -5594001892929700633, -3142333726784028344, -4977423119373812874, 8314910532011867735, -641825214948741500, 1809842951196930789, 7713017371206206567, 6956964331866703688, 5002585986996421116, -3946460631932601386, -738103946934920266, -5892514369258791273, -800863425494217020, 6049162123635823397] := by decide +kernel
theorem nd2_2_2 : ((allKeys 2 2 2).map hashK).Nodup := by rw [hk2_2_2]; decide +kernel
theorem hk2_3_0 : (allKeys 2 3 0).map hashK = [7502834827786918884, 785552573929312244, 5819261563142154471, 3439519663313805904, 7343796617241443364, -7691297129533524062, 616777275009213301, 2635392758165232862] := by decide +kernel
theorem nd2_3_0 : ((allKeys 2 3 0).map hashK).Nodup := by rw [hk2_3_0]; decide +kernel
theorem hk2_3_1 : (allKeys 2 3 1).map hashK = [-2865962186807471611, 9205388544150993977, -2537215152030221426, 6886463673277755465, 2496493837182620801, 7521815279506229564, 116751937354272234, -8906313311047302491, -3025000397352947131, 6398678427955029760, 7432679218216493884, -5988743413169448969, -2705990450950320369, 6717688374357656522, -687374967794300808, 4337946474529307955] := by decide +kernel
theorem nd2_3_1 : ((allKeys 2 3 1).map hashK).Nodup := by rw [hk2_3_1]; decide +kernel
theorem hk2_3_2 : (allKeys 2 3 2).map hashK = [-2474466532443346014, 3771837830307477770, -5184897916653131465, -2733229750507459176, -4793391403316584526, 8498942248069096083, -4856150881875881280, 1993874667254159137, -4158039797088110427, 9134293854297570182, 177558107336960947, 2629226273482633236, -2139424313932090866, -7293834736255961873, -2202183792491387620, 4647841756638652797, 1764852639995546594, 8011157002746370378, -5343936127198606985, 1506089421931433432, 778145583945762656, 22092544606259777, 5113743488370834030, 7565411654516506319, -4962166702236683469, 8330166949148997140, -5024926180795980223, 1825099368334060194, -2943551219080663908, -8097961641404534915, -3006310697639960662, 3843714851490079755] := by decide +kernel
theorem nd2_3_2 : ((allKeys 2 3 2).map hashK).Nodup := by rw [hk2_3_2]; decide +kernel
theorem hk3_0_0 : (allKeys 3 0 0).map hashK = [9028247024705308198] := by decide +kernel
theorem nd3_0_0 : ((allKeys 3 0 0).map hashK).Nodup := by rw [hk3_0_0]; decide +kernel
theorem hk3_0_1 : (allKeys 3 0 1).map hashK = [5705479298745774528, -7715943332640168325, 4225733160254446345] := by decide +kernel
theorem nd3_0_1 : ((allKeys 3 0 1).map hashK).Nodup := by rw [hk3_0_1]; decide +kernel
theorem hk3_0_2 : (allKeys 3 0 2).map hashK = [-949054335524956700, -6103464757848827707, -3109302987119403885, 3386543568900114674, 5838211735045786963, 1916018455204204878, 4617228814618571942, 3127780350836001512, -4589049125610732068] := by decide +kernel
theorem nd3_0_2 : ((allKeys 3 0 2).map hashK).Nodup := by rw [hk3_0_2]; decide +kernel
theorem hk3_1_0 : (allKeys 3 1 0).map hashK = [8082791832532024400, -4157031232332679764, 7084645342196539507] := by decide +kernel
theorem nd3_1_0 : ((allKeys 3 1 0).map hashK).Nodup := by rw [hk3_1_0]; decide +kernel
theorem hk3_1_1 : (allKeys 3 1 1).map hashK = [-2286005182062366095, -8661398524813452123, 3280277968081162547, 3920915826782481357, 8946237269106090120, 2441169688291153174, 3761877616237005837, -5261187632164568888, 2282131477745677654] := by decide +kernel
theorem nd3_1_1 : ((allKeys 3 1 1).map hashK).Nodup := by rw [hk3_1_1]; decide +kernel
theorem hk3_1_2 : (allKeys 3 1 2).map hashK = [-1894509527698240498, 8750152218036951414, 7345956605782007108, -4604940911908025949, -2153272745762353660, 970563263030921080, -3374255666189568681, 2182325158662717714, -5534504317784015866, -2733617807488249871, -7888028229812120878, -4893866459082697056, 1601980096936821503, 4053648263082493792, 131454983240911707, 2832665342655278771, 8389246167507565166, 672416691060831586, 1505701364950642737, -3648709057373228270, -5052904669628172576, 1442941886391345983, 8292967435521386400, 4370774155679804315, 7071984515094171379, 8230207956962089646, -6532650808119500759] := by decide +kernel
theorem nd3_1_2 : ((allKeys 3 1 2).map hashK).Nodup := by rw [hk3_1_2]; decide +kernel
theorem hk3_2_0 : (allKeys 3 2 0).map hashK = [47701562875492891, 4999878240856452024, -2904049627748340315, -756425342273080151, 4840840030310976504, -8984335117608126608, -1793264754545400794, -790606635019059835, -4745015945169234000] := by decide +kernel
theorem nd3_2_0 : ((allKeys 3 2 0).map hashK).Nodup := by rw [hk3_2_0]; decide +kernel
theorem hk3_2_1 : (allKeys 3 2 1).map hashK = [-3275066163084040779, 1750255279239567984, -4754812301575368962, 1677110514896918354, 6702431957220527117, 197364376405590171, -6226817353707873985, -1201495911384265222, -7706563492199202168, -4079193068232613821, 946128374090994942, -5558939206723942004, 1518072304351442834, 6543393746675051597, 38326165860114651, 6139641230141891338, -7281781401244051515, 4659895091650563155, -5116032480504934464, -90711038181325701, -6595778618996262647, -4113374360978593505, 911947081345015258, -5593120499469921688, -8067783671128767670, -3042462228805158907, 8899214264089455763] := by decide +kernel
theorem nd3_2_1 : ((allKeys 3 2 1).map hashK).Nodup := by rw [hk3_2_1]; decide +kernel
theorem hk3_2_2 : (allKeys 3 2 2).map hashK = [8517144276354779609, 7761091237015276730, 6356895624760332424, -5594001892929700633, -3142333726784028344, -7064527006625610429, 7037398137863451426, -5852765110993813795, 4877149486269004241, -4977423119373812874, 8314910532011867735, -7137671770968260059, -641825214948741500, 1809842951196930789, -2112350328644651296, 588860030769715768, -900588433012854662, -8617417909459588242, 5565393085730946403, 4809340046391443524, 3405144434136499218, -8545753083553533839, -6094084917407861550, 8430465876460107981, 4085646947239618220, -8804516301617647001, 1925398295645171035, 7713017371206206567, 6956964331866703688, 5552768719611759382, 5002585986996421116, -3946460631932601386, -7868653911774183471, 6233271232714878384, -6656892016142386837, 4073022581120431199, -738103946934920266, -5892514369258791273, -7296709981513735579, -800863425494217020, 6049162123635823397, -2271388539190126816, -2217850085426248449, -1059626643558330182, -8776456120005063762, -514892404128839890, -1270945443468342769, -2675141055723287075, 3820705500296231484, -7776013024283279715, 2350180386600321688, -1994638542620168073, 3561942282232118322, -4154887194214615258, 6676177958933885924, 5920124919594383045, 4515929307339438739, -7434968210350594318, -4983300044204922029, -8905493324046504114, 5196431820442557741, -7693731428414707480, 3036183168848110556, -6369550612264956605, 6922783039120724004, 5518587426865779698, -6432310090824253359, 417715458305787058, -7902835204520163155, -7849296750756284788, -6691073308888366521, 4038841288374451515, 3724426768310052718, -1429983654013818289, 1564178116715605533, 8060024672735124092, -7935051234828755235, 6589499559039214296, 2244680629818724535, 7801261454671010930, 84431978224277350] := by decide +kernel
theorem nd3_2_2 : ((allKeys 3 2 2).map hashK).Nodup := by rw [hk3_2_2]; decide +kernel
theorem hk5_0_0 : (allKeys 5 0 0).map hashK = [9028247024705308198] := by decide +kernel
theorem nd5_0_0 : ((allKeys 5 0 0).map hashK).Nodup := by rw [hk5_0_0]; decide +kernel
theorem hk5_0_1 : (allKeys 5 0 1).map hashK = [5705479298745774528, -7715943332640168325, 4225733160254446345, 4162973681695149591, -2342093899119787355] := by decide +kernel
theorem nd5_0_1 : ((allKeys 5 0 1).map hashK).Nodup := by rw [hk5_0_1]; decide +kernel
theorem hk5_1_0 : (allKeys 5 1 0).map hashK = [8082791832532024400, -4157031232332679764, 7084645342196539507, 6280518437047966465, -7926906464222692543] := by decide +kernel
theorem nd5_1_0 : ((allKeys 5 1 0).map hashK).Nodup := by rw [hk5_1_0]; decide +kernel
theorem hk5_1_1 : (allKeys 5 1 1).map hashK = [-2286005182062366095, -8661398524813452123, 3280277968081162547, 569846583871377096, -5935220996943559850, 3920915826782481357, 8946237269106090120, 2441169688291153174, 2378410209731856420, -4126657371083080526, 3761877616237005837, -5261187632164568888, 2282131477745677654, 6617729382170749028, 112661801355812082, 2957750711088432795, 7983072153412041558, 1478004572597104612, 5813602477022175986, -691465103792760960, 7197069883527325403, -6224352747858617450, 5717323745035997220, -8393822424248483022, -850503314338236480] := by decide +kernel
theorem nd5_1_1 : ((allKeys 5 1 1).map hashK).Nodup := by rw [hk5_1_1]; decide +kernel
theorem hashes_apart : ∀ q ∈ shapes, ((allKeys q.1 q.2.1 q.2.2).map hashK).Nodup := by
  intro q hq
  unfold shapes at hq
  simp only [List.mem_cons, List.not_mem_nil, or_false] at hq
  rcases hq with rfl | rfl | rfl | rfl | rfl | rfl | rfl | rfl | rfl | rfl | rfl | rfl | rfl | rfl | rfl | rfl | rfl | rfl | rfl | rfl | rfl | rfl | rfl | rfl | rfl
  · exact nd2_0_0
  · exact nd2_0_1
  · exact nd2_0_2
  · exact nd2_1_0
  · exact nd2_1_1
  · exact nd2_1_2
  · exact nd2_2_0
  · exact nd2_2_1
  · exact nd2_2_2
  · exact nd2_3_0
  · exact nd2_3_1
  · exact nd2_3_2
  · exact nd3_0_0
  · exact nd3_0_1
  · exact nd3_0_2
  · exact nd3_1_0
  · exact nd3_1_1
  · exact nd3_1_2
  · exact nd3_2_0
  · exact nd3_2_1
  · exact nd3_2_2
  · exact nd5_0_0
  · exact nd5_0_1
  · exact nd5_1_0
  · exact nd5_1_1
theorem shape_mem {k g : Ky} (h : KG k g) : (k.p.toNat, g.many.toNat, k.many.toNat) ∈ shapes := by
  have k0 := h.ok1.m0
  have g0 := h.ok2.m0
  rcases h.sh with ⟨e, h1, h2⟩ | ⟨e, h1, h2, _⟩ | ⟨e, h1, h2, _⟩
  · have a : k.many.toNat = 0 ∨ k.many.toNat = 1 ∨ k.many.toNat = 2 := by omega
    have b : g.many.toNat = 0 ∨ g.many.toNat = 1 ∨ g.many.toNat = 2 ∨ g.many.toNat = 3 := by omega
    rw [e]
    rcases a with a | a | a <;> rcases b with b | b | b | b <;> rw [a, b] <;> decide
  · have a : k.many.toNat = 0 ∨ k.many.toNat = 1 ∨ k.many.toNat = 2 := by omega
    have b : g.many.toNat = 0 ∨ g.many.toNat = 1 ∨ g.many.toNat = 2 := by omega
    rw [e]
    rcases a with a | a | a <;> rcases b with b | b | b <;> rw [a, b] <;> decide
  · have a : k.many.toNat = 0 ∨ k.many.toNat = 1 := by omega
    have b : g.many.toNat = 0 ∨ g.many.toNat = 1 := by omega
    rw [e]
    rcases a with a | a <;> rcases b with b | b <;> rw [a, b] <;> decide
theorem inj_of_nodup {α β : Type} {f : α → β} : ∀ {l : List α}, (l.map f).Nodup → ∀ {x y : α}, x ∈ l → y ∈ l → f x = f y → x = y
  | [], _, x, y, hx, _, _ => by cases hx
  | a :: l, h, x, y, hx, hy, e => by
    rw [List.map_cons, List.nodup_cons] at h
    rcases List.mem_cons.mp hx with rfl | hx
    · rcases List.mem_cons.mp hy with rfl | hy
      · rfl
      · exact absurd (List.mem_map.mpr ⟨y, hy, e.symm⟩) h.1
    · rcases List.mem_cons.mp hy with ey | hy
      · rw [ey] at e
        exact absurd (List.mem_map.mpr ⟨x, hx, e⟩) h.1
      · exact inj_of_nodup h.2 hx hy e
theorem nodup_map {α β : Type} {f : α → β} : ∀ {l : List α}, l.Nodup → (∀ x ∈ l, ∀ y ∈ l, f x = f y → x = y) → (l.map f).Nodup
  | [], _, _ => List.nodup_nil
  | a :: l, h, i => by
    rw [List.nodup_cons] at h
    rw [List.map_cons, List.nodup_cons]
    refine ⟨fun z => ?_, nodup_map h.2 fun x hx y hy => i x (List.mem_cons_of_mem _ hx) y (List.mem_cons_of_mem _ hy)⟩
    obtain ⟨y, hy, e⟩ := List.mem_map.mp z
    have := i y (List.mem_cons_of_mem _ hy) a (by simp) e
    rw [this] at hy
    exact h.1 hy
theorem tb_key {k g : Ky} (kg : KG k g) {t : Tb} (h : TbOk k.p g.many k.many t) : ∀ q ∈ t, q.1 ∈ allKeys k.p.toNat g.many.toNat k.many.toNat := by
  intro q hq
  obtain ⟨⟨a1, a2⟩, ⟨b1, b2⟩, _⟩ := h.2 q hq
  have hp : ((k.p.toNat : Nat) : Int) = k.p := Int.toNat_of_nonneg (by have := kg.ok1.p0; omega)
  exact List.mem_flatMap.mpr ⟨q.1.1, mem_allRows a1 (by rw [hp]; exact a2), List.mem_map.mpr ⟨q.1.2, mem_allRows b1 (by rw [hp]; exact b2), rfl⟩⟩
theorem map_two {α β γ : Type} (f : β → γ) (g : α → β) : ∀ l : List α, (l.map fun x => f (g x)) = (l.map g).map f
  | [] => rfl
  | x :: l => by rw [List.map_cons, List.map_cons, List.map_cons, map_two f g l]
theorem map_same {α β : Type} {f g : α → β} (h : ∀ x, f x = g x) : ∀ l : List α, l.map f = l.map g
  | [] => rfl
  | x :: l => by rw [List.map_cons, List.map_cons, map_same h l, h]
theorem tb_nodup {f : Kp → Int} {t : Tb} {A : List Kp} (hA : (A.map f).Nodup) (h1 : (t.map (·.1)).Nodup) (h2 : ∀ q ∈ t, q.1 ∈ A) : (t.map fun q => f q.1).Nodup := by
  rw [map_two f (·.1) t]
  refine nodup_map h1 fun x hx y hy e => ?_
  obtain ⟨q, hq, rfl⟩ := List.mem_map.mp hx
  obtain ⟨q', hq', rfl⟩ := List.mem_map.mp hy
  exact inj_of_nodup hA (h2 q hq) (h2 q' hq') e
theorem tb_hash (w : World) {k g : Ky} (kg : KG k g) {t : Tb} (h : TbOk k.p g.many k.many t) : (t.map fun q => hashN w q.1).Nodup := by
  have ef : hashN w = hashK := funext fun p => hashN_eq w p
  rw [ef]
  exact tb_nodup (hashes_apart _ (shape_mem kg)) h.1 (tb_key kg h)
end DK

/-! ## X5 -/
namespace DK
open PySem PySem.Spec PyProof.Rows L2
/-! # The table -/
theorem putN_keys {α : Type} {kvs : List (Kp × α)} {p : Kp} {v : α} : (putN kvs p v).map (·.1) = if (atN kvs p).isSome then kvs.map (·.1) else kvs.map (·.1) ++ [p] := by
  unfold putN
  split
  · rw [List.map_map]
    refine List.map_congr_left fun q _ => ?_
    show (if q.1 = p then (q.1, v) else q).1 = q.1
    split <;> rfl
  · rw [List.map_append]
    rfl
theorem putN_mem {α : Type} {kvs : List (Kp × α)} {p : Kp} {v : α} {q : Kp × α} (h : q ∈ putN kvs p v) : q ∈ kvs ∨ q = (p, v) := by
  unfold putN at h
  split at h
  · obtain ⟨y, hy, e⟩ := List.mem_map.mp h
    by_cases z : y.1 = p
    · rw [if_pos z] at e
      rw [← e, z]
      exact .inr rfl
    · rw [if_neg z] at e
      rw [← e]
      exact .inl hy
  · rcases List.mem_append.mp h with h | h
    · exact .inl h
    · exact .inr (List.mem_singleton.mp h)
theorem atN_none_mem {α : Type} : ∀ {kvs : List (Kp × α)} {p : Kp}, atN kvs p = none → p ∉ kvs.map (·.1)
  | [], p, _ => by simp
  | q :: kvs, p, h => by
    rw [atN_cons] at h
    by_cases z : q.1 = p
    · rw [if_pos z] at h
      cases h
    · rw [if_neg z] at h
      rw [List.map_cons, List.mem_cons, not_or]
      exact ⟨fun e => z e.symm, atN_none_mem h⟩
theorem atN_mem {α : Type} : ∀ {kvs : List (Kp × α)} {p : Kp} {v : α}, atN kvs p = some v → (p, v) ∈ kvs
  | [], p, v, h => by cases h
  | q :: kvs, p, v, h => by
    rw [atN_cons] at h
    by_cases z : q.1 = p
    · rw [if_pos z] at h
      have e := Option.some.inj h
      rw [← e, ← z]
      exact List.mem_cons_self ..
    · rw [if_neg z] at h
      exact List.mem_cons_of_mem _ (atN_mem h)
theorem putN_nodup {α : Type} {kvs : List (Kp × α)} {p : Kp} {v : α} (h : (kvs.map (·.1)).Nodup) : ((putN kvs p v).map (·.1)).Nodup := by
  rw [putN_keys]
  cases e : atN kvs p with
  | some x => exact h
  | none =>
    show (kvs.map (·.1) ++ [p]).Nodup
    rw [List.nodup_append]
    refine ⟨h, by simp, fun a ha b hb => ?_⟩
    rw [List.mem_singleton.mp hb]
    intro e2
    subst e2
    exact atN_none_mem e ha
theorem digits_len {p : Int} : (digitsP p).length = (p - 1).toNat := by unfold digitsP; rw [List.length_map, List.length_range]
theorem digits_get {p : Int} {i : Nat} {d : Int} (h : (digitsP p)[i]? = some d) : 1 ≤ d ∧ d < p := by
  unfold digitsP at h
  obtain ⟨k, hk, rfl⟩ := get_map h
  have := (List.getElem?_eq_some_iff.mp hk).1
  rw [List.length_range] at this
  rw [List.getElem?_range this] at hk
  have e := Option.some.inj hk
  omega
theorem cellPut_len {p cell d : Int} {near far one other : Row} {f : Fg} {later : Tb} : (cellPut p cell near far one other f later d).length ≤ later.length + 1 := by
  unfold cellPut
  dsimp only
  split
  · exact putN_len
  · split
    · exact putN_len
    · exact Nat.le_succ _
theorem foldl_len {α β : Type} {g : List β → α → List β} (h : ∀ l a, (g l a).length ≤ l.length + 1) : ∀ (xs : List α) (l : List β), (xs.foldl g l).length ≤ l.length + xs.length
  | [], l => Nat.le_refl _
  | x :: xs, l => by
    have h1 := foldl_len h xs (g l x)
    have h2 := h l x
    rw [List.foldl_cons, List.length_cons]
    omega
theorem cellItem_len {p cell : Int} {near far : Row} {later : Tb} {q : Kp × Fg} : (cellItem p cell near far later q).length ≤ later.length + (p - 1).toNat := by
  unfold cellItem
  have := foldl_len (g := cellPut p cell near far q.1.1 q.1.2 q.2) (fun _ _ => cellPut_len) (digitsP p) later
  rw [digits_len] at this
  exact this
theorem foldl_take {α β : Type} {g : β → α → β} {b : β} {l : List α} {i : Nat} {x : α} (h : l[i]? = some x) : (l.take (i + 1)).foldl g b = g ((l.take i).foldl g b) x := by
  rw [take_snoc h, List.foldl_append]
  rfl
theorem foldl_item_len {p cell : Int} {near far : Row} : ∀ (xs : Tb) (l : Tb), (xs.foldl (cellItem p cell near far) l).length ≤ l.length + xs.length * (p - 1).toNat
  | [], l => by simp
  | x :: xs, l => by
    have h1 := foldl_item_len (p := p) (cell := cell) (near := near) (far := far) xs (cellItem p cell near far l x)
    have h2 := cellItem_len (p := p) (cell := cell) (near := near) (far := far) (later := l) (q := x)
    rw [List.foldl_cons, List.length_cons, Nat.add_mul, Nat.one_mul]
    omega
def wcS (p : Int) (t : Tb) (cell : Int) (near far : Row) (x6 x7 x8 : Option Sl) (n : Nat) (l : Tb) : DS := ⟨[some (.val (.int p)), some (.val (.dct t)), some (.val (.int cell)), some (.val (rowD near)), some (.val (rowD far)), some (.odc l), x6, x7, x8, none, none], n⟩
section
variable {P : Program} {w : World} {K : PySem.W.Frag} {s : DS} {te ta tb tc : TE} {ts : TS} {N C : DS → Prop} {R : Dt → DS → Prop}
theorem call_row_sum {p : Int} {a b : Row} (hp : 0 < p) (hl : a.length = b.length) (hz : a.length ≤ 1000) (h1 : ED P w ta s (.int p)) (h2 : ED P w tb s (rowD a)) (h3 : ED P w tc s (rowD b)) : ED P w (tCall (spT P w f_row_sum) [] E0 (tCons ta (tCons tb (tCons tc tNil)))) s (rowD (addR p a b)) :=
  ed_call (as := [.int p, rowD a, rowD b]) (eda_cons h1 (eda_cons h2 (eda_cons h3 eda_nil))) fun Po q => ⟨p, a, b, rfl, hp, hl, hz, q _⟩
theorem call_row_times {p d : Int} {r : Row} (hp : 0 < p) (hd : -1000 ≤ d ∧ d ≤ 1000) (hz : r.length ≤ 1000) (h1 : ED P w ta s (.int p)) (h2 : ED P w tb s (.int d)) (h3 : ED P w tc s (rowD r)) : ED P w (tCall (spT P w f_row_times) [] E0 (tCons ta (tCons tb (tCons tc tNil)))) s (rowD (mulR p d r)) :=
  ed_call (as := [.int p, .int d, rowD r]) (eda_cons h1 (eda_cons h2 (eda_cons h3 eda_nil))) fun Po q => ⟨p, d, r, rowD r, rfl, .inl rfl, hp, hd, hz, q _⟩
theorem ex_with_cell : DefOk P w Nwith_cell (t_with_cell P w K) f_with_cell := by
  intro as n Po ⟨k, g, t, near, far, cell, e, kg, tb, hn, hf, h9, ht, h⟩
  subst e
  have p2 := kg.ok1.p0
  have p5 := kg.ok1.p5
  have k3 := kg.ok1.m3
  have g3 := kg.ok2.m3
  generalize hp : k.p = p at *
  refine ex_seq (ex_setOdc (evk_copy ((ed_var rfl).to ⟨t, rfl, by have := tb_hash w kg (t := t) (by rw [hp]; exact tb); exact this, by show 5 < 11; decide, ?_⟩)))
  refine ex_seq (ex_for (evi_items ((ed_var rfl).to ⟨t, rfl, fun i s' => s' = ⟨[some (.val (.int p)), some (.val (.dct t)), some (.val (.int cell)), some (.val (rowD near)), some (.val (rowD far)), some (.odc ((t.take i).foldl (cellItem p cell near far) t)), none, none, none, none, none], n⟩, rfl, fun i s2 d hd e2 => ?_, fun s2 e2 => ?_⟩)))
  · subst e2
    obtain ⟨q, hq, rfl⟩ := get_map hd
    have hm := List.mem_of_getElem? hq
    obtain ⟨⟨a1, a2⟩, ⟨b1, b2⟩, _⟩ := tb.2 q hm
    have lq := h9 q hm
    have hi : i < t.length := (List.getElem?_eq_some_iff.mp hq).1
    have ll : ((t.take i).foldl (cellItem p cell near far) t).length ≤ 5000 := by
      have h1 := foldl_item_len (p := p) (cell := cell) (near := near) (far := far) (t.take i) t
      have h2 : (t.take i).length ≤ 1000 := by rw [List.length_take]; omega
      have h3 : (p - 1).toNat ≤ 4 := by omega
      have h4 : (t.take i).length * (p - 1).toNat ≤ 1000 * 4 := Nat.mul_le_mul h2 h3
      omega
    generalize hL : (t.take i).foldl (cellItem p cell near far) t = later0 at *
    refine ⟨_, _, ga_tup rfl (gas_cons (ga_tup rfl (gas_cons (ga_name (i := 6) (by show 6 < 11; decide)) (gas_cons (ga_name (i := 7) (by show 7 < 11; decide)) gas_nil))) (gas_cons (ga_name (i := 8) (by show 8 < 11; decide)) gas_nil)), ex_unkN (is := [6, 7, 8, 9, 10]) ?_⟩
    refine ex_for (evi_rng2 (ed_int.to ((ed_var rfl).to ⟨1, p, rfl, rfl, ⟨by decide, by decide, by omega, by omega⟩, fun j s' => s' = ⟨[some (.val (.int p)), some (.val (.dct t)), some (.val (.int cell)), some (.val (rowD near)), some (.val (rowD far)), some (.odc (((digitsP p).take j).foldl (cellPut p cell near far q.1.1 q.1.2 q.2) later0)), some (.val (rowD q.1.1)), some (.val (rowD q.1.2)), some (.val (fgD q.2)), none, none], n⟩, rfl, fun j s3 d hd3 e3 => ?_, fun s3 e3 => ?_⟩)))
    · subst e3
      have ed : ∃ dg, (digitsP p)[j]? = some dg ∧ d = .int dg := by
        obtain ⟨x, hx, rfl⟩ := get_map hd3
        exact ⟨1 + x, map_get hx, rfl⟩
      obtain ⟨dg, hdg, rfl⟩ := ed
      obtain ⟨d1, d2⟩ := digits_get hdg
      have hj : j < (digitsP p).length := (List.getElem?_eq_some_iff.mp hdg).1
      rw [digits_len] at hj
      have l2 : (((digitsP p).take j).foldl (cellPut p cell near far q.1.1 q.1.2 q.2) later0).length ≤ 6000 := by
        have h1 := foldl_len (g := cellPut p cell near far q.1.1 q.1.2 q.2) (fun _ _ => cellPut_len) ((digitsP p).take j) later0
        have h2 : ((digitsP p).take j).length ≤ 4 := by rw [List.length_take, digits_len]; omega
        omega
      have est := foldl_take (g := cellPut p cell near far q.1.1 q.1.2 q.2) (b := later0) hdg
      generalize hL2 : ((digitsP p).take j).foldl (cellPut p cell near far q.1.1 q.1.2 q.2) later0 = later at *
      refine ⟨_, _, ga_name (i := 9) (by show 9 < 11; decide), ex_unkN (is := [9, 10]) ?_⟩
      refine ex_seq (ex_setD (by show 10 < 11; decide) (d := keyD (addR p q.1.1 (mulR p dg near), addR p q.1.2 (mulR p dg far))) (ed_tup2
        (call_row_sum (by omega) (by rw [a1, mulR_len, hn]) (by rw [a1]; omega) (ed_var rfl) (ed_var rfl) (call_row_times (by omega) ⟨by omega, by omega⟩ (by rw [hn]; omega) (ed_var rfl) (ed_var rfl) (ed_var rfl)))
        (call_row_sum (by omega) (by rw [b1, mulR_len, hf]) (by rw [b1]; omega) (ed_var rfl) (ed_var rfl) (call_row_times (by omega) ⟨by omega, by omega⟩ (by rw [hf]; omega) (ed_var rfl) (ed_var rfl) (ed_var rfl)))) ?_)
      generalize hK : ((addR p q.1.1 (mulR p dg near), addR p q.1.2 (mulR p dg far)) : Kp) = key at *
      have ecp : cellPut p cell near far q.1.1 q.1.2 q.2 later dg = match atN later key with
        | none => putN later key (q.2 ++ [(cell, dg)])
        | some f0 => if q.2.length + 1 < f0.length then putN later key (q.2 ++ [(cell, dg)]) else later := by
        subst hK
        rfl
      have etest : EDT P w (tOr (tTest (tOp (rNotInN P w) (tVar 10) (tVar 5))) (tTest (tOp (rI0 fun i j => .bl (decide (i < j))) (tOp (rI0 fun i j => .int (i + j)) (tCB (rLenK K) (tCons (tVar 8) tNil)) (tC (.int 1))) (tCB (rLenK K) (tCons (tOp (rIxN P w) (tVar 5) (tVar 10)) tNil)))))
          ⟨[some (.val (.int p)), some (.val (.dct t)), some (.val (.int cell)), some (.val (rowD near)), some (.val (rowD far)), some (.odc later), some (.val (rowD q.1.1)), some (.val (rowD q.1.2)), some (.val (fgD q.2)), some (.val (.int dg)), some (.val (keyD key))], n⟩
          ((!(atN later key).isSome) || match atN later key with | none => false | some f0 => decide ((q.2.length : Int) + 1 < f0.length)) := by
        refine edt_or (edt_test (ev_notInOwn ((ed_var rfl).to ⟨key, later, rfl, rfl, rfl, rfl⟩))) fun z => ?_
        cases ha : atN later key with
        | none => rw [ha] at z; cases z
        | some f0 =>
          exact edt_test (ed_op (ed_op (fgX_len (t := true) (f := q.2) (ed_var rfl)) ed_int rd_add) (fgX_len (t := true) (f := f0) (ev_ixNOwn (kvs0 := later) rfl ((ed_var rfl).to ⟨key, later, f0, rfl, rfl, ha, rfl, rfl⟩))) rd_lt)
      refine ex_ifD etest (fun z => ?_) fun z => ex_next ?_
      · refine ex_setND (i := 5) (kvs := later) (p := key) (f := q.2 ++ [(cell, dg)]) rfl ?_ (ed_var rfl) (by omega) ?_
        · refine (ed_op (ed_var rfl) (ed_tup1 (ed_tup2 (ed_var rfl) (ed_var rfl))) (rd_cat (by show (q.2.map _).length + 1 ≤ _; rw [List.length_map]; omega))).is ?_
          unfold fgD
          rw [List.map_append]
          rfl
        · have e5 : putN later key (q.2 ++ [(cell, dg)]) = cellPut p cell near far q.1.1 q.1.2 q.2 later dg := by
            rw [ecp]
            cases ha : atN later key with
            | none => rfl
            | some f0 =>
              rw [ha] at z
              have z' : decide ((q.2.length : Int) + 1 < f0.length) = true := z
              have z'' := of_decide_eq_true z'
              show _ = if q.2.length + 1 < f0.length then _ else _
              rw [if_pos (by omega)]
          exact congrArg (wcS p t cell near far (some (.val (rowD q.1.1))) (some (.val (rowD q.1.2))) (some (.val (fgD q.2))) n) (e5.trans est.symm)
      · have e5 : later = cellPut p cell near far q.1.1 q.1.2 q.2 later dg := by
          rw [ecp]
          cases ha : atN later key with
          | none => rw [ha] at z; cases z
          | some f0 =>
            rw [ha] at z
            have z' : decide ((q.2.length : Int) + 1 < f0.length) = false := z
            have z'' := of_decide_eq_false z'
            show _ = if q.2.length + 1 < f0.length then _ else _
            rw [if_neg (by omega)]
        exact congrArg (wcS p t cell near far (some (.val (rowD q.1.1))) (some (.val (rowD q.1.2))) (some (.val (fgD q.2))) n) (e5.trans est.symm)
    · subst e3
      have el : ((List.range (p - 1).toNat).map fun k : Nat => Dt.int (1 + k)).length = (digitsP p).length := by rw [List.length_map, List.length_range, digits_len]
      refine congrArg (wcS p t cell near far none none none n) ?_
      rw [el, List.take_length, foldl_take hq, hL]
      rfl
  · subst e2
    refine ex_ret (ev_frzD (kvs := withCell p t cell near far) ?_ h)
    have el : (itemsD t).length = t.length := List.length_map ..
    rw [el, List.take_length]
    rfl
end
end DK

/-! ## X6 -/
namespace DK
open PySem PySem.Spec PyProof.Rows L2
/-! # The table of a key, the best of it -/
def RowOk (p a : Int) (r : Row) : Prop := r.length = a.toNat ∧ ∀ x ∈ r, 0 ≤ x ∧ x < p
def TbL (p a b : Int) (L : Nat) (t : Tb) : Prop := (t.map (·.1)).Nodup ∧ ∀ q ∈ t, RowOk p a q.1.1 ∧ RowOk p b q.1.2 ∧ q.2.length ≤ L
theorem TbL.ok {p a b : Int} {L : Nat} {t : Tb} (h : TbL p a b L t) (hL : L ≤ 1000) : TbOk p a b t := ⟨h.1, fun q hq => let ⟨x, y, z⟩ := h.2 q hq; ⟨x, y, Nat.le_trans z hL⟩⟩
theorem addR_ok {p a : Int} {x y : Row} (hp : 0 < p) (hx : x.length = a.toNat) (hy : y.length = a.toNat) : RowOk p a (addR p x y) := by
  refine ⟨by rw [addR_len (by rw [hx, hy]), hx], fun z hz => ?_⟩
  rw [addR_map] at hz
  obtain ⟨q, _, rfl⟩ := List.mem_map.mp hz
  exact ⟨Int.emod_nonneg _ (by omega), Int.emod_lt_of_pos _ hp⟩
theorem tbl_put {p a b : Int} {L : Nat} {t : Tb} {s : Kp} {f : Fg} (h : TbL p a b L t) (h1 : RowOk p a s.1) (h2 : RowOk p b s.2) (hf : f.length ≤ L) : TbL p a b L (putN t s f) :=
  ⟨putN_nodup h.1, fun q hq => by
    rcases putN_mem hq with hq | rfl
    · exact h.2 q hq
    · exact ⟨h1, h2, hf⟩⟩
theorem tbl_cellPut {p a b cell d : Int} {L : Nat} {near far one other : Row} {f : Fg} {t : Tb} (hp : 0 < p) (h : TbL p a b L t) (hn : near.length = a.toNat) (hfa : far.length = b.toNat) (h1 : one.length = a.toNat) (h2 : other.length = b.toNat) (hf : f.length + 1 ≤ L) : TbL p a b L (cellPut p cell near far one other f t d) := by
  have k1 : RowOk p a (addR p one (mulR p d near)) := addR_ok hp h1 (by rw [mulR_len, hn])
  have k2 : RowOk p b (addR p other (mulR p d far)) := addR_ok hp h2 (by rw [mulR_len, hfa])
  have l : (f ++ [(cell, d)]).length ≤ L := by rw [List.length_append]; exact hf
  unfold cellPut
  dsimp only
  split
  · exact tbl_put h k1 k2 l
  · split
    · exact tbl_put h k1 k2 l
    · exact h
theorem foldl_inv {α β : Type} {g : β → α → β} {Q : β → Prop} : ∀ {l : List α} {b : β}, Q b → (∀ b x, x ∈ l → Q b → Q (g b x)) → Q (l.foldl g b)
  | [], b, h, _ => h
  | x :: l, b, h, s => foldl_inv (l := l) (s b x (by simp) h) fun b y hy => s b y (List.mem_cons_of_mem _ hy)
theorem TbL.mono {p a b : Int} {L L' : Nat} {t : Tb} (h : TbL p a b L t) (hl : L ≤ L') : TbL p a b L' t := ⟨h.1, fun q hq => let ⟨x, y, z⟩ := h.2 q hq; ⟨x, y, Nat.le_trans z hl⟩⟩
theorem tbl_withCell {p a b cell : Int} {L : Nat} {near far : Row} {t : Tb} (hp : 0 < p) (h : TbL p a b L t) (hn : near.length = a.toNat) (hfa : far.length = b.toNat) : TbL p a b (L + 1) (withCell p t cell near far) := by
  unfold withCell
  refine foldl_inv (Q := TbL p a b (L + 1)) (h.mono (Nat.le_succ _)) fun l q hq hl => ?_
  obtain ⟨k1, k2, k3⟩ := h.2 q hq
  exact foldl_inv (Q := TbL p a b (L + 1)) hl fun l d _ hl => tbl_cellPut hp hl hn hfa k1.1 k2.1 (Nat.succ_le_succ k3)
theorem withCell_len {p cell : Int} {near far : Row} {t : Tb} (hp : 1 ≤ p) : (withCell p t cell near far).length ≤ t.length * p.toNat := by
  have := foldl_item_len (p := p) (cell := cell) (near := near) (far := far) t t
  have e : p.toNat = (p - 1).toNat + 1 := by omega
  rw [e, Nat.mul_add, Nat.mul_one]
  unfold withCell
  omega
def tabTo (k g : Ky) (i : Nat) : Tb := ((cellsOf k g).take i).foldl (fun t q => withCell k.p t q.2 q.1.2 q.1.1) [((zeroR g.many, zeroR k.many), [])]
theorem cells_get {k g : Ky} {i : Nat} {far near : Row} (h1 : k.cols[i]? = some far) (h2 : g.cols[i]? = some near) : (cellsOf k g)[i]? = some ((far, near), i) := by
  unfold cellsOf
  have e : (k.cols.zip g.cols)[i]? = some (far, near) := List.getElem?_zip_eq_some.mpr ⟨h1, h2⟩
  rw [List.getElem?_zipIdx, e]
  simp
theorem cells_of {k g : Ky} {q : (Row × Row) × Nat} (h : q ∈ cellsOf k g) : q.1.1 ∈ k.cols ∧ q.1.2 ∈ g.cols := by
  obtain ⟨i, hi⟩ := List.getElem?_of_mem h
  unfold cellsOf at hi
  rw [List.getElem?_zipIdx] at hi
  cases e : (k.cols.zip g.cols)[i]? with
  | none => rw [e] at hi; cases hi
  | some x =>
    rw [e] at hi
    have := Option.some.inj hi
    rw [← this]
    have := List.getElem?_zip_eq_some.mp (show (k.cols.zip g.cols)[i]? = some (x.1, x.2) from e)
    exact ⟨List.mem_of_getElem? this.1, List.mem_of_getElem? this.2⟩
theorem cells_len {k g : Ky} (h : k.cols.length = g.cols.length) : (cellsOf k g).length = k.cols.length := by
  unfold cellsOf
  rw [List.length_zipIdx, List.length_zip]
  omega
theorem tab_succ {k g : Ky} {i : Nat} {far near : Row} (h1 : k.cols[i]? = some far) (h2 : g.cols[i]? = some near) : tabTo k g (i + 1) = withCell k.p (tabTo k g i) i near far := by
  unfold tabTo
  rw [take_snoc (cells_get h1 h2), List.foldl_append]
  rfl
theorem zeroR_ok {p m : Int} (hp : 0 < p) : RowOk p m (zeroR m) := ⟨zeroR_len, fun x hx => by
  have := List.eq_of_mem_replicate hx
  omega⟩
theorem tab_ok {k g : Ky} (kg : KG k g) : ∀ i, TbL k.p g.many k.many i (tabTo k g i) ∧ (tabTo k g i).length ≤ k.p.toNat ^ i := by
  have p0 := kg.ok1.p0
  intro i
  induction i with
  | zero =>
    refine ⟨⟨by show [_].Nodup; simp, fun q hq => ?_⟩, Nat.le_refl _⟩
    have e : q = ((zeroR g.many, zeroR k.many), []) := List.mem_singleton.mp hq
    rw [e]
    exact ⟨zeroR_ok (by omega), zeroR_ok (by omega), Nat.le_refl _⟩
  | succ i ih =>
    by_cases hi : i < k.cols.length
    · have h1 : k.cols[i]? = some k.cols[i] := List.getElem?_eq_getElem hi
      have h2 : g.cols[i]? = some (g.cols[i]'(by rw [← kg.nn]; exact hi)) := List.getElem?_eq_getElem _
      rw [tab_succ h1 h2]
      refine ⟨tbl_withCell (by omega) ih.1 (kg.ok2.len _ (List.mem_of_getElem? h2)) (kg.ok1.len _ (List.mem_of_getElem? h1)), ?_⟩
      refine Nat.le_trans (withCell_len (by omega)) ?_
      rw [Nat.pow_succ]
      exact Nat.mul_le_mul_right _ ih.2
    · have e : tabTo k g (i + 1) = tabTo k g i := by
        unfold tabTo
        rw [List.take_of_length_le (by rw [cells_len kg.nn]; omega), List.take_of_length_le (by rw [cells_len kg.nn]; omega)]
      rw [e]
      refine ⟨ih.1.mono (Nat.le_succ _), Nat.le_trans ih.2 (Nat.pow_le_pow_right (by omega) (Nat.le_succ _))⟩
theorem tab_small {k g : Ky} (kg : KG k g) {i : Nat} (hi : i ≤ k.cols.length) : (tabTo k g i).length ≤ 1000 := by
  have h := (tab_ok kg i).2
  have n7 := kg.ok1.n7
  have pw : ∀ (p b : Nat), 1 ≤ p → i ≤ b → p ^ i ≤ p ^ b := fun p b hp hab => Nat.pow_le_pow_right hp hab
  rcases kg.sh with ⟨e, _⟩ | ⟨e, _, _, h3⟩ | ⟨e, _, _, h3⟩
  · rw [e] at h
    have := pw 2 7 (by decide) (by omega)
    have h' : (tabTo k g i).length ≤ 2 ^ i := h
    omega
  · rw [e] at h
    have := pw 3 5 (by decide) (by omega)
    have h' : (tabTo k g i).length ≤ 3 ^ i := h
    omega
  · rw [e] at h
    have := pw 5 4 (by decide) (by omega)
    have h' : (tabTo k g i).length ≤ 5 ^ i := h
    omega
theorem tab_all {k g : Ky} (kg : KG k g) : tabTo k g k.cols.length = tableOf k g := by
  unfold tabTo tableOf
  rw [← cells_len kg.nn, List.take_length]
theorem enumD_get {xs : List Dt} {i : Nat} {d : Dt} (h : (enumD xs)[i]? = some d) : ∃ x, xs[i]? = some x ∧ d = .tup [.int (i : Nat), x] := by
  unfold enumD at h
  obtain ⟨q, hq, rfl⟩ := get_map h
  rw [List.getElem?_zipIdx] at hq
  cases e : xs[i]? with
  | none => rw [e] at hq; cases hq
  | some x =>
    rw [e] at hq
    have := Option.some.inj hq
    rw [← this]
    exact ⟨x, rfl, by simp⟩
theorem zipD_get {xs ys : List Dt} {i : Nat} {d : Dt} (h : (zipD xs ys)[i]? = some d) : ∃ x y, xs[i]? = some x ∧ ys[i]? = some y ∧ d = .tup [x, y] := by
  unfold zipD at h
  obtain ⟨q, hq, rfl⟩ := get_map h
  have := List.getElem?_zip_eq_some.mp (show (xs.zip ys)[i]? = some (q.1, q.2) from hq)
  exact ⟨_, _, this.1, this.2, rfl⟩
theorem zipD_len {xs ys : List Dt} : (zipD xs ys).length = min xs.length ys.length := by
  unfold zipD
  rw [List.length_map, List.length_zip]
section
variable {P : Program} {w : World} {K : PySem.W.Frag} {s : DS} {te ta tb tc : TE} {ts : TS} {N C : DS → Prop} {R : Dt → DS → Prop}
theorem ed_dispN {tk tv : TE} {p : Kp} {f : Fg} (h1 : ED P w tk s (keyD p)) (h2 : ED P w tv s (fgD f)) : ED P w (tDispN P w tk tv) s (.dct [(p, f)]) := ev_dispN (h1.to (h2.to ⟨p, f, rfl, rfl, rfl, rfl⟩))
theorem ex_fewest_table : DefOk P w Nfewest_table (t_fewest_table P w K) f_fewest_table := by
  intro as n Po ⟨k, g, e, kg, h⟩
  subst e
  have k0 := kg.ok1.m0
  have k3 := kg.ok1.m3
  have g0 := kg.ok2.m0
  have g3 := kg.ok2.m3
  have n7 := kg.ok1.n7
  refine ex_seq (ex_drop ((call_sure_guard .h .h kg (ed_var rfl) (ed_var rfl)).to ?_))
  refine ex_seq (ex_drop ((ed_call (as := [hardD k, hardD g]) (d := .non) (eda_cons (ed_var rfl) (eda_cons (ed_var rfl) eda_nil)) fun Po q => ⟨k, g, rfl, kg, q _⟩).to ?_))
  refine ex_seq (ex_setD (by show 2 < 6; decide) (ed_dispN (p := (zeroR g.many, zeroR k.many)) (f := []) (ed_tup2 (call_zero_row g0 (by omega) (ed_kmany .h (ed_var rfl))) (call_zero_row k0 (by omega) (ed_kmany .h (ed_var rfl)))) ed_tup0) ?_)
  refine ex_seq (ex_for (evi_enumZ ((ed_op (ed_var rfl) ed_int (rd_ixT rfl)).to ((ed_op (ed_var rfl) ed_int (rd_ixT rfl)).to ⟨k.cols.map rowD, g.cols.map rowD, rfl, rfl, fun i s' => s' = ⟨[some (.val (hardD k)), some (.val (hardD g)), some (.val (.dct (tabTo k g i))), none, none, none], n⟩, rfl, fun i s2 d hd e2 => ?_, fun s2 e2 => ?_⟩))))
  · subst e2
    obtain ⟨x0, hx0, rfl⟩ := enumD_get hd
    obtain ⟨x, y, hx1, hy1, rfl⟩ := zipD_get hx0
    obtain ⟨far, hfar, rfl⟩ := get_map hx1
    obtain ⟨near, hnear, rfl⟩ := get_map hy1
    have hi : i < k.cols.length := (List.getElem?_eq_some_iff.mp hfar).1
    refine ⟨_, _, ga_tup rfl (gas_cons (ga_name (i := 3) (by show 3 < 6; decide)) (gas_cons (ga_tup rfl (gas_cons (ga_name (i := 4) (by show 4 < 6; decide)) (gas_cons (ga_name (i := 5) (by show 5 < 6; decide)) gas_nil))) gas_nil)), ex_unkN (is := [3, 4, 5]) ?_⟩
    have ok := (tab_ok kg i).1
    refine ex_setD (by show 2 < 6; decide) (d := .dct (withCell k.p (tabTo k g i) i near far)) (ed_call (as := [.int k.p, .dct (tabTo k g i), .int i, rowD near, rowD far]) (eda_cons (ed_kp .h (ed_var rfl)) (eda_cons (ed_var rfl) (eda_cons (ed_var rfl) (eda_cons (ed_var rfl) (eda_cons (ed_var rfl) eda_nil))))) fun Po q =>
      ⟨k, g, _, near, far, i, rfl, kg, ok.ok (by omega), kg.ok2.len _ (List.mem_of_getElem? hnear), kg.ok1.len _ (List.mem_of_getElem? hfar), fun q hq => by have := (ok.2 q hq).2.2; omega, tab_small kg (by omega), q _⟩) ?_
    exact congrArg (fun o => (⟨[some (.val (hardD k)), some (.val (hardD g)), some (.val (.dct o)), none, none, none], n⟩ : DS)) (tab_succ hfar hnear).symm
  · subst e2
    have el : (enumD (zipD (k.cols.map rowD) (g.cols.map rowD))).length = k.cols.length := by rw [enumD_len, zipD_len, List.length_map, List.length_map, ← kg.nn]; omega
    rw [el, tab_all kg]
    exact ex_ret ((ed_var rfl).to h)
theorem dec_lt (a b : Nat) : decide ((a : Int) < b) = decide (a < b) := by
  by_cases h : a < b
  · rw [decide_eq_true h, decide_eq_true (by omega)]
  · rw [decide_eq_false h, decide_eq_false (by omega)]
theorem ex_fewest_false : DefOk P w Nfewest_false (t_fewest_false P w K) f_fewest_false := by
  intro as n Po ⟨k, g, e, kg, h⟩
  subst e
  have k0 := kg.ok1.m0
  have k3 := kg.ok1.m3
  have g0 := kg.ok2.m0
  have g3 := kg.ok2.m3
  refine ex_seq (ex_par (by show 2 < 6; decide) (by show 3 < 6; decide) (ed_non.to ((ed_tup2 (call_zero_row g0 (by omega) (ed_kmany .h (ed_var rfl))) (call_zero_row k0 (by omega) (ed_kmany .h (ed_var rfl)))).to ⟨rfl, ?_⟩)))
  refine ex_seq (ex_for (evi_items ((ed_call (as := [hardD k, hardD g]) (d := .dct (tableOf k g)) (eda_cons (ed_var rfl) (eda_cons (ed_var rfl) eda_nil)) fun Po q => ⟨k, g, rfl, kg, q _⟩).to ⟨tableOf k g, rfl,
    fun i s' => s' = ⟨[some (.val (hardD k)), some (.val (hardD g)), some (.val (optD (((tableOf k g).take i).foldl (bestB k g) none))), some (.val (keyD (zeroR g.many, zeroR k.many))), none, none], n⟩, rfl, fun i s2 d hd e2 => ?_, fun s2 e2 => ?_⟩)))
  · subst e2
    obtain ⟨q, hq, rfl⟩ := get_map hd
    have est := foldl_take (g := bestB k g) (b := none) hq
    refine ⟨_, _, ga_tup2 (by show 4 < 6; decide) (by show 5 < 6; decide), ex_unkN (is := [4, 5]) ?_⟩
    have et : ∀ best : Option Fg, EDT P w (tAnd (tTest (tOp (rEqD K) (tOp (rIx K) (tVar 4) (tC (.int 0))) (tOp (rIx K) (tVar 3) (tC (.int 0))))) (tAnd (tTest (tOp (rNeD K) (tOp (rIx K) (tVar 4) (tC (.int 1))) (tOp (rIx K) (tVar 3) (tC (.int 1))))) (tOr (tTest (tOp rIsNn (tVar 2) (tC .non))) (tTest (tOp (rI0 fun i j => .bl (decide (i < j))) (tCB (rLenK K) (tCons (tVar 5) tNil)) (tCB (rLenK K) (tCons (tVar 2) tNil)))))))
        ⟨[some (.val (hardD k)), some (.val (hardD g)), some (.val (optD best)), some (.val (keyD (zeroR g.many, zeroR k.many))), some (.val (keyD q.1)), some (.val (fgD q.2))], n⟩
        (decide (q.1.1 = zeroR g.many) && (!decide (q.1.2 = zeroR k.many) && (match best with | none => true | some b => decide (q.2.length < b.length)))) := by
      intro best
      refine edt_and (edt_test (ed_op (ed_op (ed_var rfl) ed_int (rd_ixT rfl)) (ed_op (ed_var rfl) ed_int (rd_ixT rfl)) rd_eqRow)) fun _ => edt_and (edt_test (ed_op (ed_op (ed_var rfl) ed_int (rd_ixT rfl)) (ed_op (ed_var rfl) ed_int (rd_ixT rfl)) rd_neRow)) fun _ => ?_
      cases best with
      | none => exact edt_or (a := true) (b := true) (edt_test (ed_isN (d := .non) (ed_var rfl))) fun z => (nomatch z)
      | some b =>
        show EDT P w _ _ (decide (q.2.length < b.length))
        rw [← dec_lt]
        exact edt_or (a := false) (edt_test (ed_isN (d := fgD b) (ed_var rfl))) fun _ => edt_test (ed_op (fgX_len (t := true) (f := q.2) (ed_var rfl)) (fgX_len (t := true) (f := b) (ed_var rfl)) rd_lt)
    have eb : ∀ best : Option Fg, bestB k g best q = if (decide (q.1.1 = zeroR g.many) && (!decide (q.1.2 = zeroR k.many) && (match best with | none => true | some b => decide (q.2.length < b.length)))) = true then some q.2 else best := fun _ => rfl
    generalize hb : ((tableOf k g).take i).foldl (bestB k g) none = best at *
    replace et := et best
    replace eb := eb best
    refine ex_ifD et (fun z => ex_setD (by show 2 < 6; decide) (ed_var (d := fgD q.2) rfl) ?_) fun z => ex_next ?_
    · rw [z, if_pos rfl] at eb
      exact congrArg (fun o => (⟨[some (.val (hardD k)), some (.val (hardD g)), some (.val (optD o)), some (.val (keyD (zeroR g.many, zeroR k.many))), none, none], n⟩ : DS)) (eb.symm.trans est.symm)
    · rw [z, if_neg (by decide)] at eb
      exact congrArg (fun o => (⟨[some (.val (hardD k)), some (.val (hardD g)), some (.val (optD o)), some (.val (keyD (zeroR g.many, zeroR k.many))), none, none], n⟩ : DS)) (eb.symm.trans est.symm)
  · subst e2
    refine ex_ret ((ed_var rfl).to ?_)
    have el : (itemsD (tableOf k g)).length = (tableOf k g).length := List.length_map ..
    rw [el, List.take_length]
    exact h
/-! ### tupled(key) -/
theorem tup_ints {m : Nat} : ∀ r : List Int, Paired (TupR (m + 1)) (r.map Dt.int) (r.map Dt.int)
  | [] => .nil
  | x :: r => .cons (.inl ⟨rfl, rfl⟩) (tup_ints r)
theorem tup_row {r : Row} (hz : r.length ≤ 1000) {d : Dt} (h : d = rowD r ∨ d = ilD r) : TupR 2 d (rowD r) :=
  .inr ⟨r.map Dt.int, r.map Dt.int, by
    rcases h with h | h
    · exact .inr h
    · exact .inl h, rfl, by rw [List.length_map]; exact hz, tup_ints r⟩
theorem tup_rows {f : Row → Dt} (hf : ∀ r, f r = rowD r ∨ f r = ilD r) : ∀ {cols : List Row}, (∀ c ∈ cols, c.length ≤ 1000) → Paired (TupR 2) (cols.map f) (cols.map rowD)
  | [], _ => .nil
  | r :: cols, h => .cons (tup_row (h r (by simp)) (hf r)) (tup_rows hf fun c hc => h c (List.mem_cons_of_mem _ hc))
theorem tup_key {dk : Dt} {k : Ky} (hk : IsKey dk k) (ok : KOk k) : TupR 4 dk (hardD k) := by
  have hl : ∀ c ∈ k.cols, c.length ≤ 1000 := fun c hc => by rw [ok.len c hc]; have := ok.m3; omega
  have hn : k.cols.length ≤ 1000 := by have := ok.n7; omega
  rcases hk with rfl | rfl
  · exact .inr ⟨_, _, .inr rfl, rfl, by show 3 ≤ 1000; decide, .cons (.inl ⟨rfl, rfl⟩) (.cons (.inl ⟨rfl, rfl⟩) (.cons (.inr ⟨_, _, .inr rfl, rfl, by rw [List.length_map]; exact hn, tup_rows (fun r => .inl rfl) hl⟩) .nil))⟩
  · exact .inr ⟨_, _, .inl rfl, rfl, by show 3 ≤ 1000; decide, .cons (.inl ⟨rfl, rfl⟩) (.cons (.inl ⟨rfl, rfl⟩) (.cons (.inr ⟨_, _, .inl rfl, rfl, by rw [List.length_map]; exact hn, tup_rows (fun r => .inr rfl) hl⟩) .nil))⟩
theorem call_tupled {dk : Dt} {k : Ky} (hk : IsKey dk k) (ok : KOk k) (h : ED P w te s dk) : ED P w (tCall (spT P w f_tupled) [] E0 (tCons te tNil)) s (hardD k) :=
  ed_call (as := [dk]) (eda_cons h eda_nil) fun Po q => ⟨dk, hardD k, rfl, tup_key hk ok, q _⟩
theorem ex_least_false : DefOk P w Nleast_false (t_least_false P w K) f_least_false := by
  intro as n Po ⟨k, g, dk, dg, e, hk, hg, kg, h⟩
  subst e
  refine ex_seq (ex_setD (by show 2 < 3; decide) (d := optD (fewestFalse k g)) (ed_call (as := [hardD k, hardD g]) (eda_cons (call_tupled hk kg.ok1 (ed_var rfl)) (eda_cons (call_tupled hg kg.ok2 (ed_var rfl)) eda_nil)) fun Po q => ⟨k, g, rfl, kg, q _⟩) ?_)
  unfold leastD at h
  cases hb : fewestFalse k g with
  | none =>
    rw [hb] at h
    exact ex_ret ((ed_if (b := true) (edt_test (ed_isN (d := .non) (ed_var rfl))) (fun _ => ed_non) fun z => (nomatch z)).to h)
  | some f =>
    rw [hb] at h
    exact ex_ret ((ed_if (b := false) (edt_test (ed_isN (d := fgD f) (ed_var rfl))) (fun z => (nomatch z)) fun _ => fgX_len (t := true) (f := f) (ed_var rfl)).to h)
end
end DK

/-! ## X7 -/
namespace DK
open PySem PySem.Spec PyProof.Rows L2
/-! # tupled, _law_lists, _law_same, by depth -/
section
variable {P : Program} {w : World} {K : PySem.W.Frag} {s : DS} {te ta tb tc : TE} {ts : TS} {N C : DS → Prop} {R : Dt → DS → Prop}
theorem isTy_sc {d : Dt} (h : d.sc = true) : isTy d "list" = some false ∧ isTy d "tuple" = some false := by
  cases d <;> first | (cases h; done) | exact ⟨rfl, rfl⟩
theorem isTy_lst {ds : List Dt} : isTy (.lst ds) "list" = some true ∧ isTy (.lst ds) "tuple" = some false := ⟨rfl, rfl⟩
theorem isTy_tup {ds : List Dt} : isTy (.tup ds) "list" = some false ∧ isTy (.tup ds) "tuple" = some true := ⟨rfl, rfl⟩
theorem paired_len {α β : Type} {G : α → β → Prop} : ∀ {l₁ : List α} {l₂ : List β}, Paired G l₁ l₂ → l₁.length = l₂.length
  | _, _, .nil => rfl
  | _, _, .cons _ r => congrArg (· + 1) (paired_len r)
theorem evi_seq {ds : List Dt} {d : Dt} (hd : d = .lst ds ∨ d = .tup ds) (h : ED P w te s d) : EVI P w (fun σ H R => iList K te σ H R ∨ iTup K te σ H R) s fun xs s1 => xs = ds ∧ s1 = s := by
  rcases hd with rfl | rfl
  · exact evi_l (evi_listD h)
  · exact evi_r (evi_tupD h)
theorem ed_isSeq {d : Dt} {r1 r2 : Bool} (h : ED P w te s d) (h1 : isTy d "list" = some r1) (h2 : isTy d "tuple" = some r2) {b : Bool} (e : (r1 || r2) = b) :
    EDT P w (tB (tCB (rIsiT K) (tCons te (tCons (tTup (tCons (tC (.ty "list")) (tCons (tC (.ty "tuple")) tNil))) tNil)))) s b := (edt_B (ed_isiT h h1 h2)).is e
theorem ex_tupledM (m : Nat) : DefOk P w Ntupled (t_tupled (f_tupledM m) P w K) (f_tupledM (m + 1)) := by
  intro as n Po ⟨d, e, ea, hr, h⟩
  subst ea
  rcases hr with ⟨hs, rfl⟩ | ⟨ds, es, hd, rfl, hz, hp⟩
  · exact ex_ret ((ed_if (b := false) (ed_isSeq (ed_var rfl) (isTy_sc hs).1 (isTy_sc hs).2 rfl) (fun z => (nomatch z)) fun _ => ed_var rfl).to h)
  · have hq : EDT P w (tB (tCB (rIsiT K) (tCons (tVar 0) (tCons (tTup (tCons (tC (.ty "list")) (tCons (tC (.ty "tuple")) tNil))) tNil)))) ⟨[some (.val d), none], n⟩ true := by
      rcases hd with rfl | rfl
      · exact ed_isSeq (ed_var rfl) isTy_lst.1 isTy_lst.2 rfl
      · exact ed_isSeq (ed_var rfl) isTy_tup.1 isTy_tup.2 rfl
    refine ex_ret ((ed_if (b := true) hq (fun _ => ed_cb1 (ed_of_new (edn_map2 (ys := es) (by intro i hi; rw [one_mem hi]; rfl) (by omega) (paired_len hp) (evi_seq hd (ed_var rfl)) fun i x hx => ?_)) rc_tuple) fun z => (nomatch z)).to h)
    obtain ⟨y, hy, hxy⟩ := paired_get hp hx
    exact ⟨y, _, _, hy, ga_name (by show 1 < 2; decide), fun j hj => hj, ed_call (as := [x]) (eda_cons (ed_var rfl) eda_nil) fun Po p => ⟨x, y, rfl, hxy, p _⟩⟩
theorem ex__law_listsM (m : Nat) : DefOk P w N_law_lists (t__law_lists (f__law_listsM m) P w K) (f__law_listsM (m + 1)) := by
  intro as n Po ⟨d, e, ea, hr, h⟩
  subst ea
  rcases hr with ⟨hs, rfl⟩ | ⟨ds, es, hd, rfl, hz, hp⟩
  · exact ex_ret ((ed_if (b := false) (ed_isSeq (ed_var rfl) (isTy_sc hs).1 (isTy_sc hs).2 rfl) (fun z => (nomatch z)) fun _ => ed_var rfl).to h)
  · have hq : EDT P w (tB (tCB (rIsiT K) (tCons (tVar 0) (tCons (tTup (tCons (tC (.ty "list")) (tCons (tC (.ty "tuple")) tNil))) tNil)))) ⟨[some (.val d), none], n⟩ true := by
      rcases hd with rfl | rfl
      · exact ed_isSeq (ed_var rfl) isTy_lst.1 isTy_lst.2 rfl
      · exact ed_isSeq (ed_var rfl) isTy_tup.1 isTy_tup.2 rfl
    refine ex_ret ((ed_if (b := true) hq (fun _ => ed_of_new (edn_map2 (ys := es) (by intro i hi; rw [one_mem hi]; rfl) (by omega) (paired_len hp) (evi_seq hd (ed_var rfl)) fun i x hx => ?_)) fun z => (nomatch z)).to h)
    obtain ⟨y, hy, hxy⟩ := paired_get hp hx
    exact ⟨y, _, _, hy, ga_name (by show 1 < 2; decide), fun j hj => hj, ed_call (as := [x]) (eda_cons (ed_var rfl) eda_nil) fun Po p => ⟨x, y, rfl, hxy, p _⟩⟩
theorem zip_self (ds : List Dt) : zipD ds ds = ds.map fun d => Dt.tup [d, d] := by
  unfold zipD
  induction ds with
  | nil => rfl
  | cons d ds ih => rw [List.zip_cons_cons, List.map_cons, List.map_cons, ih]
theorem ex__law_sameM (m : Nat) : DefOk P w N_law_same (t__law_same (f__law_sameM m) P w K) (f__law_sameM (m + 1)) := by
  intro as n Po ⟨d, ea, hr, h⟩
  subst ea
  rcases hr with hs | ⟨ds, hd, hz, hp⟩
  · refine ex_seq (ex_ifD (b := false) (ed_isSeq (ed_var rfl) (isTy_sc hs).1 (isTy_sc hs).2 rfl) (fun z => (nomatch z)) fun _ => ex_next ?_)
    have eq : ∀ s : DS, s.ε[0]? = some (some (.val d)) → s.ε[1]? = some (some (.val d)) → ED P w (tOp rEq (tVar 0) (tVar 1)) s (.bl true) := fun s h0 h1 => ed_op (ed_var h0) (ed_var h1) (rd_eqS hs)
    cases d with
    | non =>
      refine ex_seq (ex_ifD (b := true) (edt_or (a := true) (b := true) (edt_test (ed_isN (d := .non) (ed_var rfl))) fun z => (nomatch z)) (fun _ => ?_) fun z => (nomatch z))
      exact ex_ret ((ed_andV (a := true) (b := true) (eq _ rfl rfl) fun _ => ed_andV (a := true) (b := true) (ed_op (ed_isi (r := false) (ed_var rfl) rfl) (ed_isi (r := false) (ed_var rfl) rfl) rd_eqB) fun _ => ed_op (ed_isN (d := .non) (ed_var rfl)) (ed_isN (d := .non) (ed_var rfl)) rd_eqB).to h)
    | bl b =>
      refine ex_seq (ex_ifD (b := true) (edt_or (a := false) (b := true) (edt_test (ed_isN (d := .bl b) (ed_var rfl))) fun _ => (edt_B (ed_isiT (r1 := true) (r2 := false) (ed_var (d := .bl b) rfl) rfl rfl)).is rfl) (fun _ => ?_) fun z => (nomatch z))
      exact ex_ret ((ed_andV (a := true) (b := true) (eq _ rfl rfl) fun _ => ed_andV (a := true) (b := true) (ed_op (ed_isi (d := .bl b) (r := true) (ed_var rfl) rfl) (ed_isi (d := .bl b) (r := true) (ed_var rfl) rfl) rd_eqB) fun _ => ed_op (ed_isN (d := .bl b) (ed_var rfl)) (ed_isN (d := .bl b) (ed_var rfl)) rd_eqB).to h)
    | str x =>
      refine ex_seq (ex_ifD (b := true) (edt_or (a := false) (b := true) (edt_test (ed_isN (d := .str x) (ed_var rfl))) fun _ => (edt_B (ed_isiT (r1 := false) (r2 := true) (ed_var (d := .str x) rfl) rfl rfl)).is rfl) (fun _ => ?_) fun z => (nomatch z))
      exact ex_ret ((ed_andV (a := true) (b := true) (eq _ rfl rfl) fun _ => ed_andV (a := true) (b := true) (ed_op (ed_isi (d := .str x) (r := false) (ed_var rfl) rfl) (ed_isi (d := .str x) (r := false) (ed_var rfl) rfl) rd_eqB) fun _ => ed_op (ed_isN (d := .str x) (ed_var rfl)) (ed_isN (d := .str x) (ed_var rfl)) rd_eqB).to h)
    | int i =>
      refine ex_seq (ex_ifD (b := false) (edt_or (a := false) (b := false) (edt_test (ed_isN (d := .int i) (ed_var rfl))) fun _ => (edt_B (ed_isiT (r1 := false) (r2 := false) (ed_var (d := .int i) rfl) rfl rfl)).is rfl) (fun z => (nomatch z)) fun _ => ex_next ?_)
      exact ex_ret ((ed_andV (a := true) (b := true) (ed_isi (d := .int i) (r := true) (ed_var rfl) rfl) fun _ => ed_andV (a := true) (b := true) (ed_notV (a := false) (ed_isi (d := .int i) (r := false) (ed_var rfl) rfl)) fun _ => eq _ rfl rfl).to h)
    | tup ds => cases hs
    | lst ds => cases hs
    | rst ns => cases hs
    | dct kvs => cases hs
  · have hu : ∀ i ∈ [2, 3], (⟨[some (.val d), some (.val d), none, none], n⟩ : DS).ε[i]? = some none := by
      intro i hi
      rcases two_mem hi with rfl | rfl <;> rfl
    have hw : EVI P w (RZ.iZipA K (tCons (tVar 0) (tCons (tVar 1) tNil))) ⟨[some (.val d), some (.val d), none, none], n⟩ fun xs s1 => xs = ds.map (fun d => Dt.tup [d, d]) ∧ s1 = ⟨[some (.val d), some (.val d), none, none], n⟩ := by
      rw [← zip_self]
      rcases hd with rfl | rfl
      · exact evi_zipL ((ed_var rfl).to ((ed_var rfl).to ⟨ds, ds, rfl, rfl, rfl, rfl⟩))
      · exact evi_zipT ((ed_var rfl).to ((ed_var rfl).to ⟨ds, ds, rfl, rfl, rfl, rfl⟩))
    have ea : ED P w (tCB (rAll K) (tCons (tLc (RZ.iZipA K (tCons (tVar 0) (tCons (tVar 1) tNil))) (gTup K 2 (gCons (gName 2) (gCons (gName 3) gNil))) tYes (tCall (spT P w (f__law_sameM m)) [] E0 (tCons (tVar 2) (tCons (tVar 3) tNil))) [2, 3]) tNil)) ⟨[some (.val d), some (.val d), none, none], n⟩ (.bl ((ds.map fun _ => true).all id)) :=
      ed_allMap hu (by rw [List.length_map]; omega) (by rw [List.length_map, List.length_map]) hw fun i x hx => by
        obtain ⟨y, hy, rfl⟩ := get_map hx
        exact ⟨true, _, _, map_get (f := fun _ => true) hy, ga_tup2 (by show 2 < 4; decide) (by show 3 < 4; decide), fun j hj => hj, ed_call (as := [y, y]) (eda_cons (ed_var rfl) (eda_cons (ed_var rfl) eda_nil)) fun Po p => ⟨y, rfl, hp y (List.mem_of_getElem? hy), p _⟩⟩
    rw [show (ds.map fun _ => true).all id = true by simp] at ea
    rcases hd with rfl | rfl
    · refine ex_seq (ex_ifD (b := true) (ed_isSeq (ed_var rfl) isTy_lst.1 isTy_lst.2 rfl) (fun _ => ?_) fun z => (nomatch z))
      refine ex_seq (ex_ifD (b := false) (edt_or (a := false) (b := false) (edt_test (ed_op (ed_isi (d := .lst ds) (r := true) (ed_var rfl) rfl) (ed_isi (d := .lst ds) (r := true) (ed_var rfl) rfl) rd_neB)) fun _ => edt_test (ed_op (ed_isi (d := .lst ds) (r := false) (ed_var rfl) rfl) (ed_isi (d := .lst ds) (r := false) (ed_var rfl) rfl) rd_neB)) (fun z => (nomatch z)) fun _ => ex_next ?_)
      exact ex_ret ((ed_andV (a := true) (b := true) ((ed_op (ed_cb1 (ed_var rfl) rc_lenL) (ed_cb1 (ed_var rfl) rc_lenL) rd_eqI).is (by simp)) fun _ => ea).to h)
    · refine ex_seq (ex_ifD (b := true) (ed_isSeq (ed_var rfl) isTy_tup.1 isTy_tup.2 rfl) (fun _ => ?_) fun z => (nomatch z))
      refine ex_seq (ex_ifD (b := false) (edt_or (a := false) (b := false) (edt_test (ed_op (ed_isi (d := .tup ds) (r := false) (ed_var rfl) rfl) (ed_isi (d := .tup ds) (r := false) (ed_var rfl) rfl) rd_neB)) fun _ => edt_test (ed_op (ed_isi (d := .tup ds) (r := true) (ed_var rfl) rfl) (ed_isi (d := .tup ds) (r := true) (ed_var rfl) rfl) rd_neB)) (fun z => (nomatch z)) fun _ => ex_next ?_)
      exact ex_ret ((ed_andV (a := true) (b := true) ((ed_op (ed_cb1 (ed_var rfl) rc_lenT) (ed_cb1 (ed_var rfl) rc_lenT) rd_eqI).is (by simp)) fun _ => ea).to h)
/-! ### soft keys -/
theorem lst_ints {m : Nat} : ∀ r : List Int, Paired (LstR (m + 1)) (r.map Dt.int) (r.map Dt.int)
  | [] => .nil
  | x :: r => .cons (.inl ⟨rfl, rfl⟩) (lst_ints r)
theorem lst_rows : ∀ {cols : List Row}, (∀ c ∈ cols, c.length ≤ 1000) → Paired (LstR 2) (cols.map rowD) (cols.map ilD)
  | [], _ => .nil
  | r :: cols, h => .cons (.inr ⟨_, _, .inr rfl, rfl, by rw [List.length_map]; exact h r (by simp), lst_ints r⟩) (lst_rows fun c hc => h c (List.mem_cons_of_mem _ hc))
theorem lst_key {k : Ky} (ok : KOk k) : LstR 4 (hardD k) (softD k) := by
  have hl : ∀ c ∈ k.cols, c.length ≤ 1000 := fun c hc => by rw [ok.len c hc]; have := ok.m3; omega
  have hn : k.cols.length ≤ 1000 := by have := ok.n7; omega
  exact .inr ⟨_, _, .inr rfl, rfl, by show 3 ≤ 1000; decide, .cons (.inl ⟨rfl, rfl⟩) (.cons (.inl ⟨rfl, rfl⟩) (.cons (.inr ⟨_, _, .inr rfl, rfl, by rw [List.length_map]; exact hn, lst_rows hl⟩) .nil))⟩
theorem call_lists {k : Ky} (ok : KOk k) (h : ED P w te s (hardD k)) : ED P w (tCall (spT P w f__law_lists) [] E0 (tCons te tNil)) s (softD k) :=
  ed_call (as := [hardD k]) (eda_cons h eda_nil) fun Po q => ⟨hardD k, softD k, rfl, lst_key ok, q _⟩
theorem call_same {d : Dt} (hp : PlD 4 d) (h1 : ED P w ta s d) (h2 : ED P w tb s d) : ED P w (tCall (spT P w f__law_same) [] E0 (tCons ta (tCons tb tNil))) s (.bl true) :=
  ed_call (as := [d, d]) (eda_cons h1 (eda_cons h2 eda_nil)) fun Po q => ⟨d, rfl, hp, q _⟩
end
end DK

/-! ## X8 -/
namespace DK
open PySem PySem.Spec PyProof.Rows L2
/-! # The draws -/
section
variable {P : Program} {w : World} {K : PySem.W.Frag} {σ : L2.St} {H : Hp} {te ta tb tc : TE} {i j : Int} {tt : Addr} {xs : List V} {x : V}
theorem v_ix {n : Nat} {j : Int} (h : σ[n]? = some (some (.ref tt))) (hl : H tt = some (.lst xs)) (ha : atI xs j = some x) : Val (tOp (rIx K) (tVar n) (tC (.int j))) σ H x := fun Q q => ⟨_, h, .inl ⟨tt, xs, j, x, rfl, rfl, SqL.of hl, ha, q⟩⟩
theorem v_add (ha : Val ta σ H (.int i)) (hb : Val tb σ H (.int j)) : Val (tOp (rI0 fun i j => .int (i + j)) ta tb) σ H (.int (i + j)) := fun Q q => ha _ (hb _ ⟨i, j, rfl, rfl, q⟩)
theorem v_mul (ha : Val ta σ H (.int i)) (hb : Val tb σ H (.int j)) (h : CMul i j) : Val (tOp (rI CMul fun i j => .int (i * j)) ta tb) σ H (.int (i * j)) := fun Q q => ha _ (hb _ ⟨i, j, rfl, rfl, h, q⟩)
theorem v_mod (ha : Val ta σ H (.int i)) (hb : Val tb σ H (.int j)) (h : 0 < j) : Val (tOp (rI (fun _ j => 0 < j) fun i j => .int (i % j)) ta tb) σ H (.int (i % j)) := fun Q q => ha _ (hb _ ⟨i, j, rfl, rfl, h, q⟩)
theorem v_div (ha : Val ta σ H (.int i)) (hb : Val tb σ H (.int j)) (h : CDiv i j) : Val (tOp (rI CDiv fun i j => .int (i / j)) ta tb) σ H (.int (i / j)) := fun Q q => ha _ (hb _ ⟨i, j, rfl, rfl, h, q⟩)
theorem v_int (ha : Val ta σ H (.int i)) : Val (tCB rInt1 (tCons ta tNil)) σ H (.int i) := fun Q q => ha _ (.inl ⟨i, rfl, q⟩)
theorem v_gt (ha : Val ta σ H (.int i)) (hb : Val tb σ H (.int j)) : Ans (tTest (tOp (rI0 fun i j => .bl (decide (j < i))) ta tb)) σ H (decide (j < i)) := fun Q q => ha _ (hb _ ⟨i, j, rfl, rfl, _, rfl, q⟩)
theorem st_setI {n : Nat} {j : Int} {k : Nat} {D : Ends} {v : V} (h : Val te σ H v) (hn : σ[n]? = some (some (.ref tt))) (hl : H tt = some (.lst xs)) (hj : ixN xs.length j = some k) {ys : List V} (hy : xs.set k v = ys) (q : D.nx σ (upd H tt (.lst ys))) : tAsg te (gSub (tVar n) (tC (.int j)) L2.rSetL) D σ H :=
  h _ ⟨_, hn, tt, xs, j, k, rfl, rfl, hl, hj, by rw [hy]; exact q⟩
theorem tin_done {A : Anc} {B H' : Hp} {s : DS} {a b c : Int} {m : Nat} (S : SW P w A B H σ s) (ht : A.t = some tt) (hk : ∀ b o, b ≠ tt → H b = some o → H' b = some o) (hl : H' tt = some (.lst [.int a, .int b, .int c])) (h1 : 0 ≤ a) (h2 : 0 ≤ b) (h3 : b < 2 ^ 62) (h4 : 0 ≤ c) (h5 : c ≤ m) : SW P w A B H' σ { s with n := m } := by
  refine S.drawn ⟨Same.refl _, fun b o e => ?_, fun b o n e => hk b o (fun z => n (by rw [ht, z])) e, fun b n => ⟨?_, fun e => e⟩⟩ fun t' e => ?_
  · have : b ≠ tt := fun z => by rw [z, (S.tinB tt ht).1] at e; cases e
    exact hk b o this (S.bh _ _ e)
  · by_cases z : b = tt
    · rw [z, hl]
      exact fun z => nomatch z
    · cases e : H b with
      | none => exact absurd e n
      | some o => rw [hk b o z e]; exact fun z => nomatch z
  · rw [ht] at e
    cases e
    exact ⟨a, b, c, hl, h1, h2, h3, h4, h5⟩
theorem ex__law_take : DefOk P w N_law_take (t__law_take P w K) f__law_take := by
  intro as n Po ⟨below, e, b0, b1, hn, h⟩
  subst e
  intro A B H σ S D _ _ r
  obtain ⟨tt, ht, e0⟩ := S.slot 0 _ rfl
  obtain ⟨vb, e1, Db⟩ := S.slot 1 _ rfl
  cases Db
  have hlen : σ.length = 6 := S.len.symm
  obtain ⟨a, b, c, hl, a0, bb0, b62, c0, cn⟩ := S.tin tt ht
  have cn' : c ≤ 1000000 := by
    have : n ≤ 1000000 := hn
    have cn2 : c ≤ (n : Int) := cn
    omega
  have put : ∀ {σ : L2.St} {k : Nat} {v : V}, k < σ.length → (σ.set k (some v))[k]? = some (some v) := fun {σ k v} h => by rw [List.getElem?_set, if_pos rfl, if_pos h]
  have put2 : ∀ {σ : L2.St} {k j : Nat} {v : V} {o : Option (Option V)}, k ≠ j → σ[j]? = o → (σ.set k (some v))[j]? = o := fun {σ k j v o} h e => by rw [List.getElem?_set_ne h]; exact e
  have CB : ∀ x : Int, CDiv x below := fun x => ⟨b0, by omega⟩
  refine st_seq ?_
  by_cases hpos : 0 < a
  · refine st_yes (by have := v_gt (v_ix (K := K) (j := 0) e0 hl rfl) (val_c (v := .int 0)); rw [decide_eq_true hpos] at this; exact this) ?_
    refine st_seq (st_set (v_mod (v_int (v_ix (j := 0) e0 hl rfl)) (val_var e1) b0) ?_)
    refine st_seq (st_setI (v_div (v_ix (j := 0) (put2 (by decide) e0) hl rfl) (val_var (put2 (by decide) e1)) (CB _)) (put2 (by decide) e0) hl (k := 0) rfl rfl ?_)
    refine st_ret (val_var (put (by rw [hlen]; decide))) ?_
    refine r _ B _ (.int (a % below)) σ _ (tin_done (m := n + 1) (a := a / below) (b := b) (c := c) S ht (fun b o ne e => by rw [upd_ne ne]; exact e) upd_same (Int.ediv_nonneg a0 (by omega)) bb0 b62 c0 (by have : c ≤ (n : Int) := cn; show c ≤ ((n + 1 : Nat) : Int); omega)) (.int _) (h _ (Int.emod_nonneg _ (by omega)) (Int.emod_lt_of_pos _ b0))
  · refine st_no (by have := v_gt (v_ix (K := K) (j := 0) e0 hl rfl) (val_c (v := .int 0)); rw [decide_eq_false hpos] at this; exact this) (st_next ?_)
    refine st_seq (st_setI (v_add (v_ix (j := 2) e0 hl rfl) val_c) e0 hl (k := 2) rfl (ys := [.int a, .int b, .int (c + 1)]) rfl ?_)
    have hl2 : (upd H tt (.lst [.int a, .int b, .int (c + 1)])) tt = some (.lst [.int a, .int b, .int (c + 1)]) := upd_same
    have SW2 := tin_done (m := n + 1) (a := a) (b := b) (c := c + 1) S ht (H' := upd H tt (.lst [.int a, .int b, .int (c + 1)])) (fun b o ne e => by rw [upd_ne ne]; exact e) hl2 a0 bb0 b62 (by omega) (by have : c ≤ (n : Int) := cn; show c + 1 ≤ ((n + 1 : Nat) : Int); omega)
    refine st_seq (st_set (v_mod (v_int (v_mul (v_add (v_ix (j := 1) e0 hl2 rfl) (v_mul val_c (v_ix (j := 2) e0 hl2 rfl) (.inl ⟨by decide, by decide⟩))) (v_add val_c (v_ix (j := 2) e0 hl2 rfl)) (.inr ⟨by omega, by omega⟩))) val_c (by decide)) ?_)
    generalize ho : (b + 48271 * (c + 1)) * (39373 + (c + 1)) % 2147483647 = once
    have o0 : 0 ≤ once := by rw [← ho]; exact Int.emod_nonneg _ (by decide)
    have o1 : once < 2147483647 := by rw [← ho]; exact Int.emod_lt_of_pos _ (by decide)
    refine st_seq (st_set (v_add (v_mod (v_int (val_var (put (by rw [hlen]; decide)))) val_c (by decide)) val_c) ?_)
    have w0 : 0 ≤ once % 40009 := Int.emod_nonneg _ (by decide)
    have w1 : once % 40009 < 40009 := Int.emod_lt_of_pos _ (by decide)
    generalize once % 40009 + 7 = wide at *
    refine st_seq (st_set (v_mod (v_int (v_mul (v_add (v_add (val_var (put2 (by decide) (put (by rw [hlen]; decide)))) (v_ix (j := 2) (put2 (by decide) (put2 (by decide) e0)) hl2 rfl)) (v_div (v_ix (j := 1) (put2 (by decide) (put2 (by decide) e0)) hl2 rfl) val_c ⟨by decide, by decide⟩)) (val_var (put (by rw [List.length_set, hlen]; decide))) (.inl ⟨?_, ?_⟩))) val_c (by decide)) ?_)
    · have : 0 ≤ b / 1000003 := Int.ediv_nonneg bb0 (by decide)
      omega
    · have : b / 1000003 ≤ b := Int.ediv_le_self _ bb0
      omega
    · generalize ht2 : (once + (c + 1) + b / 1000003) * wide % 2147483629 = twice
      refine st_ret (v_mod (v_int (v_div (v_mod (v_int (v_add (v_mul (val_var (put (by rw [List.length_set, List.length_set, hlen]; decide))) val_c (.inr ⟨by decide, by decide⟩)) (val_var (put2 (by decide) (put2 (by decide) (put (by rw [hlen]; decide))))))) val_c (by decide)) val_c ⟨by decide, by decide⟩)) (val_var (put2 (by decide) (put2 (by decide) (put2 (by decide) e1)))) b0) ?_
      exact r _ B _ (.int _) σ _ SW2 (.int _) (h _ (Int.emod_nonneg _ (by omega)) (Int.emod_lt_of_pos _ b0))
end
end DK

/-! ## X9 -/
namespace DK
open PySem PySem.Spec PyProof.Rows L2
/-! # Drawn goods, keys, bent forgings -/
section
variable {P : Program} {w : World} {K : PySem.W.Frag} {s : DS} {te ta tb tc tk : TE} {ts : TS} {N C : DS → Prop} {R : Dt → DS → Prop} {i j : Nat}
theorem ex_frz {ds : List Dt} (h : s.ε[i]? = some (some (.own ds))) (q : EX P w ts (s.put i (.val (.lst ds))) N C R) : EX P w ts s N C R := fun A B H σ S D n c r => by
  obtain ⟨a, vs, e, hp, hl, D', ow⟩ := S.own h
  obtain ⟨S', M⟩ := S.frz (d := .lst ds) ow hp hl fun B' sm hb => .lst hb (D'.mono sm)
  exact q A _ H σ S' D (fun σ' B' H' s' S2 e2 p => n σ' B' H' s' S2 (M.same.trans e2) p) (fun σ' B' H' s' S2 e2 p => c σ' B' H' s' S2 (M.same.trans e2) p) r
theorem evn_rep {d : Dt} {k : Int} {Po : List Dt → DS → Prop} (ha : ED P w ta s (.lst [d])) (hb : ED P w tb s (.int k)) (h0 : 0 ≤ k) (h1 : k ≤ 1000) (p : Po (List.replicate k.toNat d) s) : EVN P w (tOp rRep ta tb) s Po := fun A B H σ S Q q =>
  ha A B H σ S _ fun v B1 H1 _ _ S1 M1 D1 ⟨e1, e2⟩ => by
    subst e1
    subst e2
    exact hb A B1 H1 σ S1 _ fun v2 B2 H2 _ _ S2 M2 D2 ⟨e1, e2⟩ => by
      subst e1
      subst e2
      cases D2
      obtain ⟨a, vs, rfl, ha', r⟩ := sd_lst (D1.mono M2.same)
      cases r with
      | cons r1 r2 =>
        cases r2
        refine ⟨a, k, _, rfl, rfl, S2.bh _ _ ha', by omega, by omega, ?_, fun p' hp => ?_⟩
        · rw [sizeLine_eq]
          show 1 * k.toNat ≤ 16777216
          omega
        · obtain ⟨S3, M3, hd, no⟩ := S2.layO (.lst (List.replicate k.toNat [_]).flatten) hp
          have M := M1.trans M2
          exact q p' _ B2 _ _ _ S3 (M.trans M3) hd (SW.fresh0 M hp) upd_same (sdA_rep r1 _) no p
theorem ev_take {b : Int} {Po : Dt → DS → Prop} (ht : s.ε[i]? = some (some .tin)) (hb : ED P w te s (.int b)) (b0 : 0 < b) (b1 : b ≤ 100000) (hn : s.n ≤ mostN) (h : ∀ v, 0 ≤ v → v < b → Po (.int v) { s with n := s.n + 1 }) : EV P w (tCall (spT P w f__law_take) [] E0 (tCons (tVar i) (tCons te tNil))) s Po :=
  ev_callT (eva_tin ht (eva_cons (hb.to (eva_nil ⟨b, rfl, b0, b1, hn, h⟩))))
theorem ev_of {Po : Dt → DS → Prop} (ht : s.ε[i]? = some (some .tin)) (h : EV P w te s fun d s1 => ∃ ds, d = .lst ds ∧ ds ≠ [] ∧ ds.length ≤ 100000 ∧ s1.n ≤ mostN ∧ ∀ x ∈ ds, Po x { s1 with n := s1.n + 1 }) : EV P w (tCall (spT P w f__law_of) [] E0 (tCons (tVar i) (tCons te tNil))) s Po :=
  ev_callT (eva_tin ht (eva_cons (h.imp fun d s1 ⟨ds, e, h1, h2, h3, h4⟩ => eva_nil ⟨ds, by rw [e], h1, h2, h3, h4⟩)))
theorem ex__law_of : DefOk P w N_law_of (t__law_of P w K) f__law_of := by
  intro as n Po ⟨ds, e, h1, h2, hn, h⟩
  subst e
  have hl : 0 < ds.length := List.length_pos_iff.mpr h1
  refine ex_ret (ev_op ((ed_var rfl).to (ev_take rfl (ed_cb1 (ed_var rfl) rc_lenL) (by omega) (by omega) hn fun v v0 v1 => ?_)))
  have hv : v.toNat < ds.length := by omega
  have hg := List.getElem?_eq_getElem hv
  exact ⟨ds[v.toNat], rd_ixL (atI_in v0 hg), h _ (List.mem_of_getElem? hg)⟩
theorem int_list {ds : List Dt} (h : ∀ d ∈ ds, ∃ i, d = Dt.int i) : ∃ ns : List Int, ds = ns.map Dt.int := by
  induction ds with
  | nil => exact ⟨[], rfl⟩
  | cons d ds ih =>
    obtain ⟨i, rfl⟩ := h d (by simp)
    obtain ⟨ns, rfl⟩ := ih fun x hx => h x (List.mem_cons_of_mem _ hx)
    exact ⟨i :: ns, rfl⟩
theorem map_erase {α β : Type} {f : α → β} : ∀ {l : List α} {k : Nat}, (l.map f).eraseIdx k = (l.eraseIdx k).map f
  | [], _ => rfl
  | a :: l, 0 => rfl
  | a :: l, k + 1 => congrArg (f a :: ·) (map_erase (l := l) (k := k))
theorem erase_len {α : Type} {l : List α} {k : Nat} (h : k < l.length) : (l.eraseIdx k).length + 1 = l.length := by
  rw [List.length_eraseIdx, if_pos h]
  omega
theorem ex__law_pick : DefOk P w N_law_pick (t__law_pick P w K) f__law_pick := by
  intro as n Po ⟨ns, c, e, hz, c0, c1, hn, h⟩
  subst e
  refine ex_moreN (m := n + 1000) ?_
  refine ex_seq (ex_parNN (by show 3 < 6; decide) (by show 4 < 6; decide) (evn_list ((ed_var rfl).to ⟨ns.map Dt.int, .inr rfl, evn_lst (eva_nil ⟨[], rfl, by decide, rfl, ?_⟩)⟩)))
  generalize hj : (if ((ns.map Dt.int).length : Int) < c then ((ns.map Dt.int).length : Int) else c) = lim
  have hlim : lim ≤ ns.length ∧ 0 ≤ lim := by
    rw [List.length_map] at hj
    split at hj <;> omega
  have hmin : ED P w (tCB rMin2n (tCons (tCB rInt1 (tCons (tVar 2) tNil)) (tCons (tCB (rLenK K) (tCons (tVar 3) tNil)) tNil))) ⟨[some .tin, some (.val (ilD ns)), some (.val (.int c)), some (.own (ns.map Dt.int)), some (.own []), none], n⟩ (.int lim) := by
    rw [← hj]
    exact ed_cb2 (ed_cb1 (ed_var rfl) rc_int) (ed_lenOwn (ds := ns.map Dt.int) rfl) rc_min2
  refine ex_seq (ex_for (evi_rng1 (hmin.to ⟨lim, rfl, by omega, by omega, fun i s' => ∃ ps fs : List Int, ps.length + i = ns.length ∧ fs.length = i ∧ ∃ m, m ≤ n + i ∧ s' = ⟨[some .tin, some (.val (ilD ns)), some (.val (.int c)), some (.own (ps.map Dt.int)), some (.own (fs.map Dt.int)), none], m⟩,
    ⟨ns, [], rfl, rfl, n, Nat.le_refl _, rfl⟩, fun i s2 d hd ⟨ps, fs, h1, h2, m, hm, e2⟩ => ?_, fun s2 ⟨ps, fs, h1, h2, m, hm, e2⟩ => ?_⟩)))
  · subst e2
    have hi : i < lim.toNat := by
      have := (List.getElem?_eq_some_iff.mp hd).1
      rwa [List.length_map, List.length_range] at this
    have hp : 0 < ps.length := by omega
    refine ⟨_, _, ga_name (by show 5 < 6; decide), ex_unkN (is := [5]) (ex_app (i := 4) (ds0 := fs.map Dt.int) rfl (ev_popOwn (i := 3) (ds0 := ps.map Dt.int) rfl (ev_take rfl (ed_lenOwn (ds := ps.map Dt.int) rfl) (by rw [List.length_map]; omega) (by rw [List.length_map]; omega) (by show m ≤ mostN; omega) fun v v0 v1 => ?_)))⟩
    rw [List.length_map] at v1
    have hv : v.toNat < ps.length := by omega
    have hg : (ps.map Dt.int)[v.toNat]? = some (.int ps[v.toNat]) := map_get (List.getElem?_eq_getElem hv)
    refine ⟨v, v.toNat, ps.map Dt.int, _, rfl, rfl, (Int.toNat_of_nonneg v0).symm, by omega, hg, fs.map Dt.int, rfl, by rw [List.length_map]; omega, ps.eraseIdx v.toNat, fs ++ [ps[v.toNat]], ?_, by rw [List.length_append, h2]; rfl, m + 1, by omega, ?_⟩
    · have := erase_len hv
      omega
    · rw [map_erase, List.map_append]
      rfl
  · subst e2
    refine ex_ret (ev_frz (i := 4) (ds := fs.map Dt.int) rfl ⟨?_, h fs (by rw [List.length_map, List.length_range] at h1 h2; omega)⟩)
    rw [List.length_map, List.length_range] at hm
    show m ≤ n + 1000
    omega
end
end DK

/-! ## X10 -/
namespace DK
open PySem PySem.Spec PyProof.Rows L2
/-! # Drawn keys -/
section
variable {P : Program} {w : World} {K : PySem.W.Frag} {s : DS} {te ta tb tc tk : TE} {ts tu : TS} {N C J : DS → Prop} {R : Dt → DS → Prop} {i j : Nat}
theorem ex_then (h1 : EX P w ts s J C R) (h2 : ∀ s', J s' → EX P w tu s' N C R) : EX P w (tSeq ts tu) s N C R := ex_seq (h1.imp h2 (fun _ h => h) fun _ _ h => h)
theorem ev_tuple {Po : Dt → DS → Prop} (h : EVN P w te s fun ds s1 => Po (.tup ds) s1) : EV P w (tCB (rTupleK K) (tCons te tNil)) s Po := ev_cb (eva_cons (ev_of_new (h.imp fun ds s1 p => eva_nil ⟨[.lst ds], _, rfl, rc_tuple, p⟩)))
theorem evt_yes {Po : Bool → DS → Prop} (h : Po true s) : EVT P w tYes s Po := fun A B H σ S Q q => q true B H s S .refl h
def ColsOk (p many : Int) (cs : List Row) : Prop := (∀ c ∈ cs, c.length = many.toNat) ∧ ∀ c ∈ cs, ∀ x ∈ c, 0 ≤ x ∧ x < p
theorem ColsOk.snoc {p many : Int} {cs : List Row} {r : Row} (h : ColsOk p many cs) (h1 : r.length = many.toNat) (h2 : ∀ x ∈ r, 0 ≤ x ∧ x < p) : ColsOk p many (cs ++ [r]) :=
  ⟨fun c hc => by
    rcases List.mem_append.mp hc with hc | hc
    · exact h.1 c hc
    · rw [List.mem_singleton.mp hc]; exact h1, fun c hc => by
    rcases List.mem_append.mp hc with hc | hc
    · exact h.2 c hc
    · rw [List.mem_singleton.mp hc]; exact h2⟩
theorem snoc_ok {p : Int} {r : Row} {x : Int} (h : ∀ y ∈ r, 0 ≤ y ∧ y < p) (hx : 0 ≤ x ∧ x < p) : ∀ y ∈ r ++ [x], 0 ≤ y ∧ y < p := fun y hy => by
  rcases List.mem_append.mp hy with hy | hy
  · exact h y hy
  · rw [List.mem_singleton.mp hy]; exact hx
theorem cut_pre (xs : List Dt) (r : Nat) : cutD xs none (some (r : Int)) = xs.take r := by
  unfold cutD
  rw [HT.sIx_none, HT.sIx_nat]
  show (xs.drop 0).take (min r xs.length - 0) = _
  rw [List.drop_zero, Nat.sub_zero]
  by_cases h : r ≤ xs.length
  · rw [Nat.min_eq_left h]
  · rw [Nat.min_eq_right (by omega), List.take_length, List.take_of_length_le (by omega)]
theorem cut_suf (xs : List Dt) (r : Nat) : cutD xs (some (r : Int)) none = xs.drop r := by
  unfold cutD
  rw [HT.sIx_none, HT.sIx_nat]
  by_cases h : r ≤ xs.length
  · rw [Nat.min_eq_left h, List.take_of_length_le (by rw [List.length_drop]; exact Nat.le_refl _)]
  · rw [Nat.min_eq_right (by omega), List.drop_length, List.drop_of_length_le (by omega)]
    simp
theorem rng_len {n : Nat} : ((List.range n).map fun k : Nat => Dt.int (0 + k)).length = n := by rw [List.length_map, List.length_range]
theorem rng_get {n i : Nat} {d : Dt} (h : ((List.range n).map fun k : Nat => Dt.int (0 + k))[i]? = some d) : i < n ∧ d = .int (0 + i) := by
  obtain ⟨k, hk, rfl⟩ := get_map h
  have hi : i < n := by
    have := (List.getElem?_eq_some_iff.mp hk).1
    rwa [List.length_range] at this
  rw [List.getElem?_range hi] at hk
  rw [← Option.some.inj hk]
  exact ⟨hi, rfl⟩
theorem hard_mk {p many : Int} {cs : List Row} : Dt.tup [.int p, .int many, .tup (cs.map rowD)] = hardD ⟨p, many, cs⟩ := rfl
theorem keyAs_mk {p cells many : Int} {cs : List Row} (h : ColsOk p many cs) (hl : cs.length = cells.toNat) : KeyAs p cells many ⟨p, many, cs⟩ := ⟨rfl, rfl, hl, h.1, h.2⟩
def kS (p cells many : Int) (kind : Dt) (c5 : Sl) (n : Nat) : DS := ⟨[some .tin, some (.val (.int p)), some (.val (.int cells)), some (.val (.int many)), some (.val kind), some c5, none, none, none, none], n⟩
theorem ex__law_key : DefOk P w N_law_key (t__law_key P w K) f__law_key := by
  intro as n Po ⟨p, cells, many, e, p2, p5, c1, c7, m0, m3, hn, h⟩
  subst e
  have hN : n + 10000 ≤ 1000000 := hn
  refine ex_moreN (m := n + 10000) ?_
  refine ex_seq (ex_tupVN (by show 4 < 10; decide) (by show 5 < 10; decide) (ev_take rfl ed_int (by decide) (by decide) (by show n ≤ 1000000; omega) fun kind _ _ => evn_lst (eva_nil ⟨[], rfl, by decide, rfl, ?_⟩)))
  refine ex_seq (ex_ifD (b := decide (kind = 0) && decide (0 < many)) (edt_and (edt_test (ed_op (ed_var rfl) ed_int rd_eqI)) fun _ => edt_test (ed_op (ed_var rfl) ed_int rd_gt)) (fun _ => ?_) fun _ => ex_next ?_)
  · exact ex_ret (ev_callT (eva_tin rfl (eva_cons ((ed_var rfl).to (eva_cons ((ed_var rfl).to (eva_cons ((ed_var rfl).to (eva_nil ⟨p, cells, many, rfl, p2, p5, c1, c7, m0, m3, by show n + 1 + 1000 ≤ 1000000; omega, fun k hk => ⟨by show n + 1 + 1000 ≤ n + 10000; omega, h k hk⟩⟩)))))))))
  refine ex_then (J := fun s' => ∃ cs m, cs.length = cells.toNat ∧ ColsOk p many cs ∧ m ≤ n + 1 + 10 * cells.toNat ∧ s' = kS p cells many (.int kind) (.own (cs.map rowD)) m)
    (ex_for (evi_rng1 ((ed_var rfl).to ⟨cells, rfl, by omega, by omega, fun i s' => ∃ cs m, cs.length = i ∧ ColsOk p many cs ∧ m ≤ n + 1 + 10 * i ∧ s' = kS p cells many (.int kind) (.own (cs.map rowD)) m,
      ⟨[], n + 1, rfl, ⟨fun c hc => (by cases hc), fun c hc => (by cases hc)⟩, Nat.le_refl _, rfl⟩, fun i s2 d hd ⟨cs, m, h1, h2, hm, e2⟩ => ?_, fun s2 ⟨cs, m, h1, h2, hm, e2⟩ => ⟨cs, m, by rw [rng_len] at h1; exact h1, h2, by rw [rng_len] at hm; exact hm, e2⟩⟩))) ?_
  · subst e2
    obtain ⟨hi, rfl⟩ := rng_get hd
    have hi7 : i < 7 := by omega
    refine ⟨_, _, ga_name (by show 6 < 10; decide), ex_unkN (is := [6]) (ex_app (i := 5) (ds0 := cs.map rowD) rfl (ev_tuple (evn_lc (evi_rng1 ((ed_var rfl).to ⟨many, rfl, by omega, by omega, by intro i hi; rw [one_mem hi]; rfl, by rw [rng_len]; omega,
      fun j acc n' => ∃ r : Row, acc = r.map Dt.int ∧ r.length = j ∧ (∀ x ∈ r, 0 ≤ x ∧ x < p) ∧ n' ≤ m + 2 * j, ⟨[], rfl, rfl, fun x hx => (by cases hx), Nat.le_refl _⟩, fun j acc n' d hd ⟨r, e1, e2, e3, e4⟩ => ?_, fun acc n' ⟨r, e1, e2, e3, e4⟩ => ?_⟩)))))⟩
    · obtain ⟨hj, rfl⟩ := rng_get hd
      refine ⟨_, _, ga_name (by show 8 < 10; decide), fun j hj => hj, evt_yes ⟨rfl, ?_⟩⟩
      rw [if_pos rfl]
      refine ev_of rfl (ev_of_new (evn_lst (eva_cons (ed_int.to (eva_cons (ev_take rfl (ed_var rfl) (by omega) (by omega) (by show n' ≤ 1000000; omega) fun v v0 v1 => eva_nil ⟨[.int 0, .int v], rfl, by show 2 ≤ 1000; decide, _, rfl, fun z => (nomatch z), by show 2 ≤ 100000; decide, by show n' + 1 ≤ 1000000; omega, fun x hx => ?_⟩))))))
      rcases two_mem hx with rfl | rfl
      · exact ⟨rfl, r ++ [0], by rw [e1, List.map_append]; rfl, by rw [List.length_append, e2]; rfl, snoc_ok e3 ⟨by omega, by omega⟩, by show n' + 1 + 1 ≤ _; omega⟩
      · exact ⟨rfl, r ++ [v], by rw [e1, List.map_append]; rfl, by rw [List.length_append, e2]; rfl, snoc_ok e3 ⟨v0, v1⟩, by show n' + 1 + 1 ≤ _; omega⟩
    · rw [rng_len] at e2 e4
      refine ⟨cs.map rowD, rfl, by rw [List.length_map]; omega, cs ++ [r], n', by rw [List.length_append, h1]; rfl, h2.snoc e2 e3, by omega, ?_⟩
      rw [e1, List.map_append]
      rfl
  · intro s' ⟨cs, m, h1, h2, hm, e2⟩
    subst e2
    have hc : cells.toNat ≤ 7 := by omega
    refine ex_frz (i := 5) (ds := cs.map rowD) rfl ?_
    have hcs : cs ≠ [] := fun z => by rw [z] at h1; simp at h1; omega
    refine ex_then (J := fun s' => ∃ cs m', cs.length = cells.toNat ∧ ColsOk p many cs ∧ m' ≤ m + 7 ∧ s' = kS p cells many (.int kind) (.val (.lst (cs.map rowD))) m') ?_ ?_
    · refine ex_ifD (b := decide (kind = 1)) (edt_test (ed_op (ed_var rfl) ed_int rd_eqI)) (fun _ => ?_) fun _ => ex_next ⟨cs, m, h1, h2, by omega, rfl⟩
      refine ex_set (by show 5 < 10; decide) (ev_of_new (evn_lc (evi_list ((ed_var rfl).to ⟨cs.map rowD, rfl, by intro i hi; rw [one_mem hi]; rfl, by rw [List.length_map]; omega,
        fun j acc n' => ∃ cs' : List Row, acc = cs'.map rowD ∧ cs'.length = j ∧ (∀ c ∈ cs', c ∈ cs) ∧ n' ≤ m + j, ⟨[], rfl, rfl, fun x hx => (by cases hx), Nat.le_refl _⟩, fun j acc n' d hd ⟨cs', e1, e2, e3, e4⟩ => ?_, fun acc n' ⟨cs', e1, e2, e3, e4⟩ => ?_⟩))))
      · obtain ⟨c, hc', rfl⟩ := get_map hd
        have hj : j < cs.length := (List.getElem?_eq_some_iff.mp hc').1
        refine ⟨_, _, ga_name (by show 9 < 10; decide), fun j hj => hj, evt_yes ⟨rfl, ?_⟩⟩
        rw [if_pos rfl]
        refine ev_of rfl ((ed_of_new (edn_slL (ed_var rfl) evo_none (evo_some ed_int))).to ⟨(cs.take 2).map rowD, ?_, ?_, ?_, by show n' ≤ 1000000; omega, fun x hx => ?_⟩)
        · rw [show cutD (cs.map rowD) none (some 2) = (cs.map rowD).take 2 from cut_pre _ 2, List.map_take]
        · cases cs with
          | nil => exact absurd rfl hcs
          | cons a b => exact fun z => (nomatch z)
        · rw [List.length_map, List.length_take]; omega
        · obtain ⟨c2, hc2, rfl⟩ := List.mem_map.mp hx
          refine ⟨rfl, cs' ++ [c2], by rw [e1, List.map_append]; rfl, by rw [List.length_append, e2]; rfl, fun c hc => ?_, by show n' + 1 ≤ _; omega⟩
          rcases List.mem_append.mp hc with hc | hc
          · exact e3 c hc
          · rw [List.mem_singleton.mp hc]; exact List.mem_of_mem_take hc2
      · rw [List.length_map] at e2 e4
        refine ⟨rfl, cs', n', by omega, ⟨fun c hc => h2.1 c (e3 c hc), fun c hc => h2.2 c (e3 c hc)⟩, by omega, ?_⟩
        rw [e1]
        rfl
    · intro s' ⟨cs, m', h1, h2, hm', e2⟩
      subst e2
      refine ex_then (J := fun s' => ∃ cs m'', cs.length = cells.toNat ∧ ColsOk p many cs ∧ m'' ≤ m' + 1 ∧ s' = kS p cells many (.int kind) (.val (.lst (cs.map rowD))) m'') ?_ ?_
      · refine ex_ifD (b := decide (kind = 2) && decide (0 < many)) (edt_and (edt_test (ed_op (ed_var rfl) ed_int rd_eqI)) fun _ => edt_test (ed_op (ed_var rfl) ed_int rd_gt)) (fun z => ?_) fun _ => ex_next ⟨cs, m', h1, h2, by omega, rfl⟩
        have mp : 0 < many := by
          rw [Bool.and_eq_true, decide_eq_true_eq, decide_eq_true_eq] at z
          exact z.2
        refine ex_unkN (is := [7]) ?_
        refine ex_seq (ex_set (by show 7 < 10; decide) (ev_take rfl (ed_var rfl) mp (by omega) (by show m' ≤ 1000000; omega) fun v v0 v1 => ⟨rfl, ?_⟩))
        obtain ⟨r, rfl⟩ := Int.eq_ofNat_of_zero_le v0
        have hr : r < many.toNat := by omega
        refine ex_setD (by show 5 < 10; decide) (d := .lst ((cs.map fun c => c.take r ++ [0] ++ c.drop (r + 1)).map rowD)) (ed_of_new (edn_map2 (ys := (cs.map fun c => c.take r ++ [0] ++ c.drop (r + 1)).map rowD) (by intro i hi; rw [one_mem hi]; rfl) (xs := cs.map rowD) (by rw [List.length_map]; omega) (by rw [List.length_map, List.length_map, List.length_map]) (evi_listD (ed_var rfl)) fun i d hd => ?_)) ?_
        · obtain ⟨c, hc', rfl⟩ := get_map hd
          have lc := h2.1 c (List.mem_of_getElem? hc')
          refine ⟨_, _, _, map_get (map_get hc'), ga_name (by show 9 < 10; decide), fun j hj => hj, ?_⟩
          have s1 : ED P w (tSl (rSlA K) (tVar 9) tNoPart (tPart (tVar 7))) ((kS p cells many (.int kind) (.val (.lst (cs.map rowD))) (m' + 1)).put 7 (.val (.int r)) |>.put 9 (.val (rowD c))) (rowD (c.take r)) := by
            refine (ed_slA (ds := c.map Dt.int) (ed_var rfl) evo_none (evo_some (ed_var rfl))).is ?_
            rw [cut_pre, ← List.map_take]
            rfl
          have s2 : ED P w (tSl (rSlA K) (tVar 9) (tPart (tOp (rI0 fun i j => .int (i + j)) (tVar 7) (tC (.int 1)))) tNoPart) ((kS p cells many (.int kind) (.val (.lst (cs.map rowD))) (m' + 1)).put 7 (.val (.int r)) |>.put 9 (.val (rowD c))) (rowD (c.drop (r + 1))) := by
            refine (ed_slA (ds := c.map Dt.int) (ed_var rfl) (evo_some (ed_op (ed_var rfl) ed_int rd_add)) evo_none).is ?_
            rw [show ((r : Int) + 1) = ((r + 1 : Nat) : Int) by omega, cut_suf, ← List.map_drop]
            rfl
          refine (ed_op (ed_op s1 (ed_tup1 ed_int) (rd_cat ?_)) s2 (rd_cat ?_)).is ?_
          · show ((c.take r).map Dt.int).length + 1 ≤ 100000
            rw [List.length_map, List.length_take]; omega
          · rw [List.length_append, List.length_map, List.length_map, List.length_take, List.length_drop]
            show min r c.length + 1 + (c.length - (r + 1)) ≤ 100000
            omega
          · unfold rowD
            rw [List.map_append, List.map_append]
            rfl
        · refine ⟨cs.map fun c => c.take r ++ [0] ++ c.drop (r + 1), m' + 1, by rw [List.length_map, h1], ⟨fun c hc => ?_, fun c hc x hx => ?_⟩, Nat.le_refl _, rfl⟩
          · obtain ⟨c0, hc0, rfl⟩ := List.mem_map.mp hc
            have lc := h2.1 c0 hc0
            rw [List.length_append, List.length_append, List.length_take, List.length_drop]
            show min r c0.length + 1 + _ = _
            omega
          · obtain ⟨c0, hc0, rfl⟩ := List.mem_map.mp hc
            rcases List.mem_append.mp hx with hx | hx
            · rcases List.mem_append.mp hx with hx | hx
              · exact h2.2 c0 hc0 x (List.mem_of_mem_take hx)
              · rw [List.mem_singleton.mp hx]
                exact ⟨by omega, by omega⟩
            · exact h2.2 c0 hc0 x (List.mem_of_mem_drop hx)
      · intro s' ⟨cs, m'', h1, h2, hm'', e2⟩
        subst e2
        refine ex_ret ((ed_tup3 (ed_var rfl) (ed_var rfl) (ed_cb1 (ed_var rfl) rc_tuple)).to ⟨?_, ?_⟩)
        · show m'' ≤ n + 10000
          omega
        · exact h ⟨p, many, cs⟩ (keyAs_mk h2 h1)
end
end DK

/-! ## X11 -/
namespace DK
open PySem PySem.Spec PyProof.Rows L2
/-! # Band keys, both keys, bent forgings -/
section
variable {P : Program} {w : World} {K : PySem.W.Frag} {s : DS} {te ta tb tc tk : TE} {ts tu : TS} {N C J : DS → Prop} {R : Dt → DS → Prop} {i j : Nat}
def bS (p cells many : Int) (blk : List Row) (c5 c6 c7 c8 : Option Sl) (n : Nat) : DS := ⟨[some .tin, some (.val (.int p)), some (.val (.int cells)), some (.val (.int many)), some (.val (.lst (blk.map rowD))), c5, c6, c7, c8, none, none, none], n⟩
theorem set_ok {p : Int} {r : Row} {k : Nat} {x : Int} (h : ∀ y ∈ r, 0 ≤ y ∧ y < p) (hx : 0 ≤ x ∧ x < p) : ∀ y ∈ r.set k x, 0 ≤ y ∧ y < p := fun y hy => by
  rcases List.mem_or_eq_of_mem_set hy with hy | rfl
  · exact h y hy
  · exact hx
theorem enumI_get {b : Row} {i : Nat} {d : Dt} (h : (enumD (b.map Dt.int))[i]? = some d) : ∃ x, b[i]? = some x ∧ d = .tup [.int (i : Nat), .int x] := by
  obtain ⟨y, hy, rfl⟩ := enumD_get h
  obtain ⟨x, hx, rfl⟩ := get_map hy
  exact ⟨x, hx, rfl⟩
theorem map_set {α β : Type} {f : α → β} : ∀ {l : List α} {k : Nat} {x : α}, (l.map f).set k (f x) = (l.set k x).map f
  | [], _, _ => rfl
  | a :: l, 0, _ => rfl
  | a :: l, k + 1, x => congrArg (f a :: ·) (map_set (l := l) (k := k) (x := x))
theorem ex__law_band_key : DefOk P w N_law_band_key (t__law_band_key P w K) f__law_band_key := by
  intro as n Po ⟨p, cells, many, e, p2, p5, c1, c7, m0, m3, hn, h⟩
  subst e
  have hN : n + 1000 ≤ 1000000 := hn
  refine ex_moreN (m := n + 1000) ?_
  refine ex_then (J := fun s' => ∃ blk m, 1 ≤ blk.length ∧ blk.length ≤ 2 ∧ (∀ b ∈ blk, b.length = 2 ∧ ∀ x ∈ b, 0 ≤ x ∧ x < p) ∧ m ≤ n + 10 ∧ s' = bS p cells many blk none none none none m) ?_ ?_
  · refine ex_set (by show 4 < 12; decide) (ev_of_new (evn_lc (evi_rng1 (ev_op (ed_int.to (ev_take rfl ed_int (by decide) (by decide) (by show n ≤ 1000000; omega) fun v v0 v1 => ⟨.int (1 + v), rd_add, 1 + v, rfl, by omega, by omega, by intro i hi; rw [one_mem hi]; rfl, by rw [rng_len]; omega,
      fun j acc n' => ∃ bs : List Row, acc = bs.map rowD ∧ bs.length = j ∧ (∀ b ∈ bs, b.length = 2 ∧ ∀ x ∈ b, 0 ≤ x ∧ x < p) ∧ n' ≤ n + 1 + 2 * j, ⟨[], rfl, rfl, fun x hx => (by cases hx), Nat.le_refl _⟩, fun j acc n' d hd ⟨bs, e1, e2, e3, e4⟩ => ?_, fun acc n' ⟨bs, e1, e2, e3, e4⟩ => ?_⟩))))))
    · obtain ⟨hj, rfl⟩ := rng_get hd
      have hj2 : j < 2 := by omega
      refine ⟨_, _, ga_name (by show 11 < 12; decide), fun j hj => hj, evt_yes ⟨rfl, ?_⟩⟩
      rw [if_pos rfl]
      refine ev_tuple (evn_lc (evi_rng1 (ed_int.to ⟨2, rfl, by decide, by decide, by intro i hi; rw [one_mem hi]; rfl, by rw [rng_len]; decide, fun j2 acc2 n2 => ∃ r : Row, acc2 = r.map Dt.int ∧ r.length = j2 ∧ (∀ x ∈ r, 0 ≤ x ∧ x < p) ∧ n2 ≤ n' + j2, ⟨[], rfl, rfl, fun x hx => (by cases hx), Nat.le_refl _⟩, fun j2 acc2 n2 d hd2 ⟨r, f1, f2, f3, f4⟩ => ?_, fun acc2 n2 ⟨r, f1, f2, f3, f4⟩ => ?_⟩)))
      · obtain ⟨hj3, rfl⟩ := rng_get hd2
        have hj4 : j2 < 2 := hj3
        refine ⟨_, _, ga_name (by show 9 < 12; decide), fun j hj => hj, evt_yes ⟨rfl, ?_⟩⟩
        rw [if_pos rfl]
        exact ev_take rfl (ed_var rfl) (by omega) (by omega) (by show n2 ≤ 1000000; omega) fun v v0 v1 => ⟨rfl, r ++ [v], by rw [f1, List.map_append]; rfl, by rw [List.length_append, f2]; rfl, snoc_ok f3 ⟨v0, v1⟩, by show n2 + 1 ≤ _; omega⟩
      · have l2 : (Int.toNat 2) = 2 := rfl
        rw [rng_len, l2] at f2 f4
        refine ⟨rfl, bs ++ [r], by rw [e1, f1, List.map_append]; rfl, by rw [List.length_append, e2]; rfl, fun b hb => ?_, by show n2 ≤ _; omega⟩
        rcases List.mem_append.mp hb with hb | hb
        · exact e3 b hb
        · rw [List.mem_singleton.mp hb]; exact ⟨f2, f3⟩
    · rw [rng_len] at e2 e4
      refine ⟨rfl, bs, n', by omega, by omega, e3, by omega, ?_⟩
      rw [e1]
      rfl
  · intro s' ⟨blk, m, b1, b2, hb, hm, e2⟩
    subst e2
    have hblk : ((blk.map rowD).length : Int) = blk.length := by rw [List.length_map]
    have lenB : ∀ (c5 c6 c7 c8 c9 c10 : Option Sl) (n : Nat), ED P w (tCB (rLenK K) (tCons (tVar 4) tNil)) ⟨[some .tin, some (.val (.int p)), some (.val (.int cells)), some (.val (.int many)), some (.val (.lst (blk.map rowD))), c5, c6, c7, c8, c9, c10, none], n⟩ (.int blk.length) := fun c5 c6 c7 c8 c9 c10 n =>
      (ed_cb1 (ed_var rfl) rc_lenL).is (by rw [List.length_map])
    refine ex_seq (ex_setOwn (evn_lst (eva_nil ⟨[], rfl, by decide, by show 5 < 12; decide, ?_⟩)))
    refine ex_then (J := fun s' => ∃ cs, cs.length = cells.toNat ∧ ColsOk p many cs ∧ s' = bS p cells many blk (some (.own (cs.map rowD))) none none none m)
      (ex_for (evi_rng1 ((ed_var rfl).to ⟨cells, rfl, by omega, by omega, fun i s' => ∃ cs, cs.length = i ∧ ColsOk p many cs ∧ s' = bS p cells many blk (some (.own (cs.map rowD))) none none none m,
        ⟨[], rfl, ⟨fun c hc => (by cases hc), fun c hc => (by cases hc)⟩, rfl⟩, fun i s2 d hd ⟨cs, h1, h2, e2⟩ => ?_, fun s2 ⟨cs, h1, h2, e2⟩ => ⟨cs, by rw [rng_len] at h1; exact h1, h2, e2⟩⟩))) ?_
    · subst e2
      obtain ⟨hi, rfl⟩ := rng_get hd
      have hi7 : i < 7 := by omega
      have bl0 : (0 : Int) < blk.length := by omega
      have q0 : 0 ≤ (0 + (i : Int)) % (blk.length : Int) := Int.emod_nonneg _ (by omega)
      have q1 : (0 + (i : Int)) % (blk.length : Int) < blk.length := Int.emod_lt_of_pos _ bl0
      have hq : ((0 + (i : Int)) % (blk.length : Int)).toNat < blk.length := by omega
      generalize hbi : blk[((0 + (i : Int)) % (blk.length : Int)).toNat] = b
      have hbg : blk[((0 + (i : Int)) % (blk.length : Int)).toNat]? = some b := by rw [List.getElem?_eq_getElem hq, hbi]
      obtain ⟨bl2, bent⟩ := hb b (List.mem_of_getElem? hbg)
      refine ⟨_, _, ga_name (by show 6 < 12; decide), ex_unkN (is := [6, 7, 8, 9, 10]) ?_⟩
      refine ex_seq (ex_parNV (by show 7 < 12; decide) (by show 8 < 12; decide) (by decide) (evn_rep (d := .int 0) (k := many) (ed_of_new (edn_lst (ds := [.int 0]) (eda_cons ed_int eda_nil) (by decide))) (ed_var rfl) m0 (by omega)
        ((ed_op (ed_var (d := .lst (blk.map rowD)) rfl) (ed_op (ed_var rfl) (lenB _ _ _ _ _ _ _) (rd_mod bl0)) (rd_ixL (atI_in q0 (map_get hbg)))).to ⟨rfl, ?_⟩)))
      have q2 : 0 ≤ (0 + (i : Int)) / (blk.length : Int) := Int.ediv_nonneg (by omega) (by omega)
      refine ex_then (J := fun s' => ∃ col : Row, col.length = many.toNat ∧ (∀ x ∈ col, 0 ≤ x ∧ x < p) ∧ s' = bS p cells many blk (some (.own (cs.map rowD))) (some (.val (.int (0 + i)))) (some (.own (col.map Dt.int))) (some (.val (rowD b))) m)
        (ex_for (evi_enumT ((ed_var rfl).to ⟨b.map Dt.int, rfl, fun k s' => ∃ col : Row, col.length = many.toNat ∧ (∀ x ∈ col, 0 ≤ x ∧ x < p) ∧ s' = bS p cells many blk (some (.own (cs.map rowD))) (some (.val (.int (0 + i)))) (some (.own (col.map Dt.int))) (some (.val (rowD b))) m,
          ⟨List.replicate many.toNat 0, List.length_replicate, fun x hx => by rw [List.eq_of_mem_replicate hx]; exact ⟨by omega, by omega⟩, by rw [List.map_replicate]; rfl⟩, fun k s2 d hd ⟨col, l1, l2, e2⟩ => ?_, fun s2 h => h⟩))) ?_
      · subst e2
        obtain ⟨x, hx, rfl⟩ := enumI_get hd
        have hx2 := bent x (List.mem_of_getElem? hx)
        refine ⟨_, _, ga_tup2 (by show 9 < 12; decide) (by show 10 < 12; decide), ex_unkN (is := [9, 10]) ?_⟩
        have eix : ED P w (tOp (rI0 fun i j => .int (i + j)) (tOp (rI CDiv fun i j => .int (i / j)) (tVar 6) (tCB (rLenK K) (tCons (tVar 4) tNil))) (tVar 9)) (((bS p cells many blk (some (.own (cs.map rowD))) (some (.val (.int (0 + i)))) (some (.own (col.map Dt.int))) (some (.val (rowD b))) m).put 9 (.val (.int k))).put 10 (.val (.int x))) (.int ((0 + (i : Int)) / (blk.length : Int) + k)) :=
          ed_op (ed_op (ed_var rfl) (lenB _ _ _ _ _ _ _) (rd_fdiv ⟨bl0, by omega⟩)) (ed_var rfl) rd_add
        refine ex_ifD (edt_test (ed_op eix (ed_var rfl) rd_lt)) (fun z => ?_) fun _ => ex_next ⟨col, l1, l2, rfl⟩
        have hlt := of_decide_eq_true z
        generalize hidx : (0 + (i : Int)) / (blk.length : Int) + (k : Int) = idx at *
        have i0 : 0 ≤ idx := by omega
        refine ex_setLD (i := 7) (ds := col.map Dt.int) (k := idx) (j := idx.toNat) rfl (ed_var rfl) eix ?_ ?_
        · rw [List.length_map, l1]
          unfold ixN
          rw [if_pos i0, if_pos (by omega)]
        · refine ⟨col.set idx.toNat x, by rw [List.length_set, l1], set_ok l2 hx2, ?_⟩
          exact congrArg (fun q => bS p cells many blk (some (.own (cs.map rowD))) (some (.val (.int (0 + i)))) (some (.own q)) (some (.val (rowD b))) m) map_set
      · intro s' ⟨col, l1, l2, e2⟩
        subst e2
        refine ex_app (i := 5) (ds0 := cs.map rowD) rfl (ev_cb (eva_cons (ev_frz (i := 7) (ds := col.map Dt.int) rfl (eva_nil ⟨[.lst (col.map Dt.int)], _, rfl, rc_tuple, cs.map rowD, rfl, by rw [List.length_map]; omega, cs ++ [col], by rw [List.length_append, h1]; rfl, h2.snoc l1 l2, ?_⟩))))
        rw [List.map_append]
        rfl
    · intro s' ⟨cs, h1, h2, e2⟩
      subst e2
      refine ex_frz (i := 5) (ds := cs.map rowD) rfl ?_
      refine ex_ret ((ed_tup3 (ed_var rfl) (ed_var rfl) (ed_cb1 (ed_var rfl) rc_tuple)).to ⟨?_, ?_⟩)
      · show m ≤ n + 1000
        omega
      · exact h ⟨p, many, cs⟩ (keyAs_mk h2 h1)
/-! ### both keys -/
theorem ed_ints {ns : List Int} {ta : TA} (h : EDA P w ta s ((ns.map Dt.int).map Ag.v)) (hz : ns.length ≤ 1000) : ED P w (tLst ta) s (.lst (ns.map Dt.int)) := ed_of_new (edn_lst h (by rw [List.length_map]; exact hz))
theorem kg_mk {p cells many watch : Int} {k g : Ky} (hk : KeyAs p cells many k) (hg : KeyAs p cells watch g) (p2 : 2 ≤ p) (p5 : p ≤ 5) (c1 : 1 ≤ cells) (c7 : cells ≤ 7) (m0 : 0 ≤ many) (w0 : 0 ≤ watch)
    (sh : (p = 2 ∧ many ≤ 2 ∧ watch ≤ 3) ∨ (p = 3 ∧ many ≤ 2 ∧ watch ≤ 2 ∧ cells ≤ 5) ∨ (p = 5 ∧ many ≤ 1 ∧ watch ≤ 1 ∧ cells ≤ 4)) : KG k g ∧ 1 ≤ k.cols.length := by
  obtain ⟨k1, k2, k3, k4, k5⟩ := hk
  obtain ⟨g1, g2, g3, g4, g5⟩ := hg
  refine ⟨⟨⟨by omega, by omega, by omega, by omega, by omega, by rw [k2]; exact k4, by rw [k1]; exact k5⟩, ⟨by omega, by omega, by omega, by omega, by omega, by rw [g2]; exact g4, by rw [g1]; exact g5⟩, by rw [k1, g1], by rw [k3, g3], ?_⟩, by omega⟩
  rw [k1, k2, g2, k3]
  rcases sh with ⟨a, b, c⟩ | ⟨a, b, c, d⟩ | ⟨a, b, c, d⟩
  · exact .inl ⟨a, b, c⟩
  · exact .inr (.inl ⟨a, b, c, by omega⟩)
  · exact .inr (.inr ⟨a, b, c, by omega⟩)
theorem ev_key {p cells many : Int} {i1 i2 i3 : Nat} {Po : Dt → DS → Prop} (ht : s.ε[0]? = some (some .tin)) (h1 : s.ε[i1]? = some (some (.val (.int p)))) (h2 : s.ε[i2]? = some (some (.val (.int cells)))) (h3 : s.ε[i3]? = some (some (.val (.int many))))
    (p2 : 2 ≤ p) (p5 : p ≤ 5) (c1 : 1 ≤ cells) (c7 : cells ≤ 7) (m0 : 0 ≤ many) (m3 : many ≤ 3) (hn : s.n + 10000 ≤ mostN) (h : ∀ k, KeyAs p cells many k → Po (hardD k) { s with n := s.n + 10000 }) :
    EV P w (tCall (spT P w f__law_key) [] E0 (tCons (tVar 0) (tCons (tVar i1) (tCons (tVar i2) (tCons (tVar i3) tNil))))) s Po :=
  ev_callT (eva_tin ht (eva_cons ((ed_var h1).to (eva_cons ((ed_var h2).to (eva_cons ((ed_var h3).to (eva_nil ⟨p, cells, many, rfl, p2, p5, c1, c7, m0, m3, hn, h⟩))))))))
theorem ex__law_keys : DefOk P w N_law_keys (t__law_keys P w K) f__law_keys := by
  intro as n Po ⟨e, hn, h⟩
  subst e
  have hN : n + 100000 ≤ 1000000 := hn
  refine ex_moreN (m := n + 100000) ?_
  refine ex_seq (ex_set (by show 1 < 5; decide) (ev_of rfl ((ed_ints (ns := [2, 2, 3, 2, 3, 5]) (eda_cons ed_int (eda_cons ed_int (eda_cons ed_int (eda_cons ed_int (eda_cons ed_int (eda_cons ed_int eda_nil)))))) (by decide)).to ⟨_, rfl, fun z => (nomatch z), by decide, by show n ≤ 1000000; omega, fun x hx => ⟨rfl, ?_⟩⟩)))
  obtain ⟨p, hp, rfl⟩ := List.mem_map.mp hx
  have hp3 : p = 2 ∨ p = 3 ∨ p = 5 := by
    simp only [List.mem_cons, List.not_mem_nil, or_false] at hp
    omega
  clear hx hp
  have go : ∀ (cells many watch : List Int), cells ≠ [] → many ≠ [] → watch ≠ [] → cells.length ≤ 10 → many.length ≤ 10 → watch.length ≤ 10 → (∀ c ∈ cells, 1 ≤ c ∧ c ≤ 7) → (∀ c ∈ many, 0 ≤ c ∧ c ≤ 3) → (∀ c ∈ watch, 0 ≤ c ∧ c ≤ 3) →
      (∀ c ∈ cells, ∀ m ∈ many, ∀ v ∈ watch, (p = 2 ∧ m ≤ 2 ∧ v ≤ 3) ∨ (p = 3 ∧ m ≤ 2 ∧ v ≤ 2 ∧ c ≤ 5) ∨ (p = 5 ∧ m ≤ 1 ∧ v ≤ 1 ∧ c ≤ 4)) → ∀ (t1 t2 t3 : TE),
      (∀ s : DS, s.ε[1]? = some (some (.val (.int p))) → ED P w t1 s (.lst (cells.map Dt.int))) → (∀ s : DS, s.ε[1]? = some (some (.val (.int p))) → ED P w t2 s (.lst (many.map Dt.int))) → (∀ s : DS, s.ε[1]? = some (some (.val (.int p))) → ED P w t3 s (.lst (watch.map Dt.int))) →
      EX P w (tSeq (tAsg (tCall (spT P w f__law_of) [] E0 (tCons (tVar 0) (tCons t1 tNil))) (gName 2)) (tSeq (tAsg (tCall (spT P w f__law_of) [] E0 (tCons (tVar 0) (tCons t2 tNil))) (gName 3)) (tSeq (tAsg (tCall (spT P w f__law_of) [] E0 (tCons (tVar 0) (tCons t3 tNil))) (gName 4))
        (tRet (tTup (tCons (tCall (spT P w f__law_key) [] E0 (tCons (tVar 0) (tCons (tVar 1) (tCons (tVar 2) (tCons (tVar 3) tNil))))) (tCons (tCall (spT P w f__law_key) [] E0 (tCons (tVar 0) (tCons (tVar 1) (tCons (tVar 2) (tCons (tVar 4) tNil))))) tNil)))))))
        ⟨[some .tin, some (.val (.int p)), none, none, none], n + 1⟩ (fun s' => s'.n ≤ n + 100000 ∧ Po .non (n + 100000)) (fun s' => s'.n ≤ n + 100000 ∧ False) fun d s' => s'.n ≤ n + 100000 ∧ Po d (n + 100000) := by
    intro cells many watch n1 n2 n3 z1 z2 z3 hc hm hw sh t1 t2 t3 e1 e2 e3
    have ne : ∀ {l : List Int}, l ≠ [] → l.map Dt.int ≠ [] := fun {l} h z => h (List.map_eq_nil_iff.mp z)
    refine ex_seq (ex_set (by show 2 < 5; decide) (ev_of rfl ((e1 _ rfl).to ⟨_, rfl, ne n1, by rw [List.length_map]; omega, by show n + 1 ≤ 1000000; omega, fun x hx => ⟨rfl, ?_⟩⟩)))
    obtain ⟨c, hc1, rfl⟩ := List.mem_map.mp hx
    refine ex_seq (ex_set (by show 3 < 5; decide) (ev_of rfl ((e2 _ rfl).to ⟨_, rfl, ne n2, by rw [List.length_map]; omega, by show n + 1 + 1 ≤ 1000000; omega, fun x hx => ⟨rfl, ?_⟩⟩)))
    obtain ⟨m, hm1, rfl⟩ := List.mem_map.mp hx
    refine ex_seq (ex_set (by show 4 < 5; decide) (ev_of rfl ((e3 _ rfl).to ⟨_, rfl, ne n3, by rw [List.length_map]; omega, by show n + 1 + 1 + 1 ≤ 1000000; omega, fun x hx => ⟨rfl, ?_⟩⟩)))
    obtain ⟨v, hv1, rfl⟩ := List.mem_map.mp hx
    have hc2 := hc c hc1
    have hm2 := hm m hm1
    have hv2 := hw v hv1
    refine ex_ret (ev_tup (eva_cons (ev_key rfl rfl rfl rfl (by omega) (by omega) hc2.1 hc2.2 hm2.1 hm2.2 (by show n + 1 + 1 + 1 + 1 + 10000 ≤ 1000000; omega) fun k hk => eva_cons (ev_key rfl rfl rfl rfl (by omega) (by omega) hc2.1 hc2.2 hv2.1 hv2.2 (by show n + 1 + 1 + 1 + 1 + 10000 + 10000 ≤ 1000000; omega) fun g hg => eva_nil ⟨[hardD k, hardD g], rfl, (by show 2 ≤ 1000; decide), by show n + 1 + 1 + 1 + 1 + 10000 + 10000 ≤ n + 100000; omega, ?_⟩))))
    obtain ⟨kg, hl⟩ := kg_mk hk hg (by omega) (by omega) hc2.1 hc2.2 hm2.1 hv2.1 (sh c hc1 m hm1 v hv1)
    exact h k g kg hl
  have i2 : ∀ s : DS, ∀ a b : Int, ED P w (tLst (tCons (tC (.int a)) (tCons (tC (.int b)) tNil))) s (.lst ([a, b].map Dt.int)) := fun s a b => ed_ints (eda_cons ed_int (eda_cons ed_int eda_nil)) (by show 2 ≤ 1000; decide)
  have i3 : ∀ s : DS, ∀ a b c : Int, ED P w (tLst (tCons (tC (.int a)) (tCons (tC (.int b)) (tCons (tC (.int c)) tNil)))) s (.lst ([a, b, c].map Dt.int)) := fun s a b c => ed_ints (eda_cons ed_int (eda_cons ed_int (eda_cons ed_int eda_nil))) (by show 3 ≤ 1000; decide)
  have i4 : ∀ s : DS, ∀ a b c d : Int, ED P w (tLst (tCons (tC (.int a)) (tCons (tC (.int b)) (tCons (tC (.int c)) (tCons (tC (.int d)) tNil))))) s (.lst ([a, b, c, d].map Dt.int)) := fun s a b c d => ed_ints (eda_cons ed_int (eda_cons ed_int (eda_cons ed_int (eda_cons ed_int eda_nil)))) (by show 4 ≤ 1000; decide)
  have i5 : ∀ s : DS, ∀ a b c d e : Int, ED P w (tLst (tCons (tC (.int a)) (tCons (tC (.int b)) (tCons (tC (.int c)) (tCons (tC (.int d)) (tCons (tC (.int e)) tNil)))))) s (.lst ([a, b, c, d, e].map Dt.int)) := fun s a b c d e => ed_ints (eda_cons ed_int (eda_cons ed_int (eda_cons ed_int (eda_cons ed_int (eda_cons ed_int eda_nil))))) (by show 5 ≤ 1000; decide)
  rcases hp3 with rfl | rfl | rfl
  · exact go [5, 6, 4, 7, 1] [1, 2, 1, 0] [2, 3, 1, 0] (by decide) (by decide) (by decide) (by decide) (by decide) (by decide) (by decide) (by decide) (by decide) (by decide) _ _ _
      (fun s h => ed_dget3 (i5 s _ _ _ _ _) (i3 s _ _ _) (i2 s _ _) (ed_var h) (.inl ⟨rfl, rfl⟩)) (fun s h => ed_dget3 (i4 s _ _ _ _) (i4 s _ _ _ _) (i2 s _ _) (ed_var h) (.inl ⟨rfl, rfl⟩)) (fun s h => ed_dget3 (i4 s _ _ _ _) (i3 s _ _ _) (i2 s _ _) (ed_var h) (.inl ⟨rfl, rfl⟩))
  · exact go [4, 5, 3] [1, 2, 1, 0] [2, 1, 0] (by decide) (by decide) (by decide) (by decide) (by decide) (by decide) (by decide) (by decide) (by decide) (by decide) _ _ _
      (fun s h => ed_dget3 (i5 s _ _ _ _ _) (i3 s _ _ _) (i2 s _ _) (ed_var h) (.inr (.inl ⟨rfl, rfl⟩))) (fun s h => ed_dget3 (i4 s _ _ _ _) (i4 s _ _ _ _) (i2 s _ _) (ed_var h) (.inr (.inl ⟨rfl, rfl⟩))) (fun s h => ed_dget3 (i4 s _ _ _ _) (i3 s _ _ _) (i2 s _ _) (ed_var h) (.inr (.inl ⟨rfl, rfl⟩)))
  · exact go [3, 4] [1, 0] [1, 0] (by decide) (by decide) (by decide) (by decide) (by decide) (by decide) (by decide) (by decide) (by decide) (by decide) _ _ _
      (fun s h => ed_dget3 (i5 s _ _ _ _ _) (i3 s _ _ _) (i2 s _ _) (ed_var h) (.inr (.inr ⟨rfl, rfl⟩))) (fun s h => ed_dget3 (i4 s _ _ _ _) (i4 s _ _ _ _) (i2 s _ _) (ed_var h) (.inr (.inr ⟨rfl, rfl⟩))) (fun s h => ed_dget3 (i4 s _ _ _ _) (i3 s _ _ _) (i2 s _ _) (ed_var h) (.inr (.inr ⟨rfl, rfl⟩)))
end
end DK

/-! ## M1 -/
namespace DK
open PySem PySem.Spec PyProof.Rows L2
/-! # The table against all rests -/
abbrev Rest := List Int × Row × Row
def sz (r : List Int) : Nat := r.countP fun x => x != 0
theorem sz_snoc (r : List Int) (d : Int) : sz (r ++ [d]) = sz r + (if d = 0 then 0 else 1) := by
  unfold sz
  rw [List.countP_append]
  congr 1
  by_cases h : d = 0
  · subst h; rfl
  · rw [if_neg h, List.countP_cons, if_pos (by simpa using h)]
    rfl
theorem sz_len (r : List Int) : (r.length : Int) - (r.count 0 : Nat) = sz r := by
  have h := List.length_eq_countP_add_countP (fun x : Int => x == 0) (l := r)
  unfold sz List.count
  have e : r.countP (fun x => x != 0) = r.countP (fun x => decide ¬(x == 0) = true) := by
    congr 1
    funext x
    by_cases hx : x = 0
    · subst hx; rfl
    · have h1 : (x == 0) = false := by simpa using hx
      rw [bne, h1]
      rfl
  rw [e]
  omega
/-! ### repeated sums -/
theorem mul_mod_step (p o x d : Int) : (((o + d * x % p) % p) + x) % p = (o + (d + 1) * x % p) % p := by
  rw [Int.emod_add_emod, Int.add_emod_emod]
  have : o + d * x % p + x = (o + x) + d * x % p := by omega
  rw [this, Int.add_emod_emod]
  congr 1
  rw [Int.add_mul]
  omega
def zipA (p d : Int) (o x : Row) : Row := List.zipWith (fun a b => (a + b) % p) o (x.map fun y => d * y % p)
theorem add_step {p d : Int} : ∀ {o x : Row}, o.length = x.length → addR p (addR p o (mulR p d x)) x = addR p o (mulR p (d + 1) x)
  | [], [], _ => rfl
  | a :: o, b :: x, h => by
    have ih := add_step (p := p) (d := d) (o := o) (x := x) (by simpa using h)
    have e := mul_mod_step p a b d
    show ((a + d * b % p) % p + b) % p :: addR p (addR p o (mulR p d x)) x = (a + (d + 1) * b % p) % p :: addR p o (mulR p (d + 1) x)
    rw [ih, e]
theorem add_one {p : Int} : ∀ {o x : Row}, o.length = x.length → addR p o x = addR p o (mulR p 1 x)
  | [], [], _ => rfl
  | a :: o, b :: x, h => by
    have ih := add_one (p := p) (o := o) (x := x) (by simpa using h)
    show (a + b) % p :: addR p o x = (a + 1 * b % p) % p :: addR p o (mulR p 1 x)
    rw [ih, Int.one_mul, Int.add_emod_emod]
/-- what stands at the digit d -/
def atDig (p : Int) (o x : Row) (d : Nat) : Row := if d = 0 then o else addR p o (mulR p d x)
theorem atDig_len {p : Int} {o x : Row} {d : Nat} (h : o.length = x.length) : (atDig p o x d).length = x.length := by
  unfold atDig
  split
  · exact h
  · rw [addR_len (by rw [mulR_len]; exact h), h]
theorem atDig_succ {p : Int} {o x : Row} {d : Nat} (h : o.length = x.length) : addR p (atDig p o x d) x = atDig p o x (d + 1) := by
  unfold atDig
  rw [if_neg (Nat.succ_ne_zero d)]
  by_cases hd : d = 0
  · subst hd
    rw [if_pos rfl]
    exact add_one h
  · rw [if_neg hd, add_step h]
    rfl
theorem rowsBy_eq {p : Int} {near far : Row} {rests : List Int} {one two : Row} (h1 : one.length = near.length) (h2 : two.length = far.length) : ∀ (n d : Nat), rowsBy p near far n rests (atDig p one near d) (atDig p two far d) d = (List.range n).map fun k => (rests ++ [((d + k : Nat) : Int)], atDig p one near (d + k), atDig p two far (d + k))
  | 0, d => rfl
  | n + 1, d => by
    rw [List.range_succ_eq_map, List.map_cons, List.map_map]
    show (rests ++ [(d : Int)], atDig p one near d, atDig p two far d) :: rowsBy p near far n rests (addR p (atDig p one near d) near) (addR p (atDig p two far d) far) ((d : Int) + 1) = _
    rw [atDig_succ h1, atDig_succ h2]
    have ih := rowsBy_eq (p := p) (rests := rests) h1 h2 n (d + 1)
    have e : ((d : Int) + 1) = ((d + 1 : Nat) : Int) := by omega
    rw [e, ih]
    congr 1
    refine List.map_congr_left fun k _ => ?_
    show _ = (rests ++ [((d + (k + 1) : Nat) : Int)], atDig p one near (d + (k + 1)), atDig p two far (d + (k + 1)))
    rw [show d + 1 + k = d + (k + 1) by omega]
theorem mem_lawStep {p : Int} {near far : Row} {l : List Rest} {q : Rest} (hl : ∀ q ∈ l, q.2.1.length = near.length ∧ q.2.2.length = far.length) :
    q ∈ lawStep p near far l ↔ ∃ q0 ∈ l, ∃ d : Nat, d < p.toNat ∧ q = (q0.1 ++ [(d : Int)], atDig p q0.2.1 near d, atDig p q0.2.2 far d) := by
  unfold lawStep
  rw [List.mem_flatMap]
  constructor
  · intro ⟨q0, h0, h1⟩
    have e := rowsBy_eq (p := p) (rests := q0.1) (hl q0 h0).1 (hl q0 h0).2 p.toNat 0
    have e' : rowsBy p near far p.toNat q0.1 q0.2.1 q0.2.2 0 = _ := e
    rw [e'] at h1
    obtain ⟨d, hd, rfl⟩ := List.mem_map.mp h1
    refine ⟨q0, h0, d, List.mem_range.mp hd, ?_⟩
    rw [Nat.zero_add]
  · intro ⟨q0, h0, d, hd, e0⟩
    have e := rowsBy_eq (p := p) (rests := q0.1) (hl q0 h0).1 (hl q0 h0).2 p.toNat 0
    have e' : rowsBy p near far p.toNat q0.1 q0.2.1 q0.2.2 0 = _ := e
    refine ⟨q0, h0, ?_⟩
    rw [e', e0]
    refine List.mem_map.mpr ⟨d, List.mem_range.mpr hd, ?_⟩
    rw [Nat.zero_add]
/-! ### the table only gets better -/
def Better (t t' : Tb) : Prop := ∀ s f, atN t s = some f → ∃ f', atN t' s = some f' ∧ f'.length ≤ f.length
theorem Better.refl (t : Tb) : Better t t := fun s f h => ⟨f, h, Nat.le_refl _⟩
theorem Better.trans {a b c : Tb} (h : Better a b) (h' : Better b c) : Better a c := fun s f e =>
  let ⟨f1, e1, l1⟩ := h s f e; let ⟨f2, e2, l2⟩ := h' s f1 e1; ⟨f2, e2, Nat.le_trans l2 l1⟩
theorem atN_app {α : Type} {kvs : List (Kp × α)} {s s' : Kp} {v : α} : atN (kvs ++ [(s', v)]) s = match atN kvs s with | some x => some x | none => if s' = s then some v else none := by
  induction kvs with
  | nil =>
    show atN [(s', v)] s = _
    rw [atN_cons]
    rfl
  | cons q kvs ih =>
    rw [List.cons_append, atN_cons, atN_cons]
    by_cases h : q.1 = s
    · rw [if_pos h, if_pos h]
    · rw [if_neg h, if_neg h, ih]
theorem atN_over {α : Type} {kvs : List (Kp × α)} {s s' : Kp} {v : α} : atN (kvs.map fun kv => if kv.1 = s' then (kv.1, v) else kv) s = if s' = s then (if (atN kvs s).isSome then some v else none) else atN kvs s := by
  induction kvs with
  | nil => split <;> rfl
  | cons q kvs ih =>
    rw [List.map_cons, atN_cons, atN_cons]
    by_cases h : q.1 = s'
    · rw [if_pos h]
      by_cases h2 : q.1 = s
      · rw [if_pos h2, if_pos h2, if_pos (h.symm.trans h2)]
        rfl
      · rw [if_neg h2, if_neg h2, ih]
    · rw [if_neg h, ih]
      by_cases h2 : q.1 = s
      · rw [if_pos h2, if_pos h2, if_neg (fun e => h (h2.trans e.symm))]
      · rw [if_neg h2, if_neg h2]
theorem atN_put {α : Type} {kvs : List (Kp × α)} {s s' : Kp} {v : α} : atN (putN kvs s' v) s = if s' = s then some v else atN kvs s := by
  unfold putN
  by_cases h : (atN kvs s').isSome = true
  · rw [if_pos h, atN_over]
    by_cases e : s' = s
    · subst e
      rw [if_pos rfl, if_pos rfl, if_pos h]
    · rw [if_neg e, if_neg e]
  · rw [if_neg h, atN_app]
    by_cases e : s' = s
    · subst e
      cases ha : atN kvs s' with
      | some x => rw [ha] at h; exact absurd rfl h
      | none => rfl
    · rw [if_neg e, if_neg e]
      cases ha : atN kvs s with
      | some x => rfl
      | none => rfl
theorem put_better {t : Tb} {s : Kp} {f : Fg} (h : ∀ f0, atN t s = some f0 → f.length ≤ f0.length) : Better t (putN t s f) := fun s' f' e => by
  rw [atN_put]
  by_cases z : s = s'
  · subst z
    rw [if_pos rfl]
    exact ⟨f, rfl, h f' e⟩
  · rw [if_neg z]
    exact ⟨f', e, Nat.le_refl _⟩
def keyOf (p : Int) (near far one other : Row) (d : Int) : Kp := (addR p one (mulR p d near), addR p other (mulR p d far))
theorem cellPut_eq {p cell d : Int} {near far one other : Row} {f : Fg} {later : Tb} : cellPut p cell near far one other f later d = match atN later (keyOf p near far one other d) with
    | none => putN later (keyOf p near far one other d) (f ++ [(cell, d)])
    | some f0 => if f.length + 1 < f0.length then putN later (keyOf p near far one other d) (f ++ [(cell, d)]) else later := rfl
theorem cellPut_better {p cell d : Int} {near far one other : Row} {f : Fg} {t : Tb} : Better t (cellPut p cell near far one other f t d) := by
  rw [cellPut_eq]
  cases h : atN t (keyOf p near far one other d) with
  | none => exact put_better fun f0 e => by rw [h] at e; cases e
  | some f1 =>
    show Better t (if f.length + 1 < f1.length then _ else t)
    split
    · refine put_better fun f0 e => ?_
      rw [h] at e
      cases e
      rw [List.length_append]
      show f.length + 1 ≤ _
      omega
    · exact .refl t
theorem cellPut_has {p cell d : Int} {near far one other : Row} {f : Fg} {t : Tb} : ∃ f', atN (cellPut p cell near far one other f t d) (keyOf p near far one other d) = some f' ∧ f'.length ≤ f.length + 1 := by
  rw [cellPut_eq]
  cases h : atN t (keyOf p near far one other d) with
  | none => exact ⟨_, by show atN (putN _ _ _) _ = _; rw [atN_put, if_pos rfl], by rw [List.length_append]; exact Nat.le_refl _⟩
  | some f1 =>
    show ∃ f', atN (if f.length + 1 < f1.length then _ else t) _ = some f' ∧ _
    split
    · exact ⟨_, by rw [atN_put, if_pos rfl], by rw [List.length_append]; exact Nat.le_refl _⟩
    · exact ⟨f1, h, by omega⟩
theorem fold_better {α : Type} {g : Tb → α → Tb} (h : ∀ t x, Better t (g t x)) : ∀ (l : List α) (t : Tb), Better t (l.foldl g t)
  | [], t => .refl t
  | x :: l, t => (h t x).trans (fold_better h l (g t x))
theorem cellItem_better {p cell : Int} {near far : Row} {t : Tb} {q : Kp × Fg} : Better t (cellItem p cell near far t q) := fold_better (fun _ _ => cellPut_better) _ _
/-- an item of a fold is met with something that is better than the start, and the end is better than what it leaves -/
theorem fold_at {α : Type} {g : Tb → α → Tb} (h : ∀ t x, Better t (g t x)) : ∀ (l : List α) (t : Tb) (x : α), x ∈ l → ∃ t1, Better t t1 ∧ Better (g t1 x) (l.foldl g t)
  | y :: l, t, x, hx => by
    rcases List.mem_cons.mp hx with rfl | hx
    · exact ⟨t, .refl t, fold_better h l _⟩
    · obtain ⟨t1, h1, h2⟩ := fold_at h l (g t y) x hx
      exact ⟨t1, (h t y).trans h1, h2⟩
theorem mem_digits {p : Int} {d : Nat} (h0 : d ≠ 0) (h1 : d < p.toNat) : (d : Int) ∈ digitsP p := by
  unfold digitsP
  exact List.mem_map.mpr ⟨d - 1, List.mem_range.mpr (by omega), by omega⟩
theorem of_mem_digits {p d : Int} (h : d ∈ digitsP p) : ∃ k : Nat, d = k ∧ k ≠ 0 ∧ k < p.toNat := by
  unfold digitsP at h
  obtain ⟨k, hk, rfl⟩ := List.mem_map.mp h
  have := List.mem_range.mp hk
  exact ⟨k + 1, by omega, by omega, by omega⟩
theorem withCell_has {p cell : Int} {near far : Row} {t : Tb} {s : Kp} {f : Fg} (h : (s, f) ∈ t) {d : Nat} (h0 : d ≠ 0) (h1 : d < p.toNat) : ∃ f', atN (withCell p t cell near far) (keyOf p near far s.1 s.2 d) = some f' ∧ f'.length ≤ f.length + 1 := by
  unfold withCell
  obtain ⟨t1, _, b2⟩ := fold_at (g := cellItem p cell near far) (fun _ _ => cellItem_better) t t (s, f) h
  have : ∃ t2, Better (cellPut p cell near far s.1 s.2 f t2 d) (cellItem p cell near far t1 (s, f)) := by
    unfold cellItem
    obtain ⟨t2, _, b⟩ := fold_at (g := cellPut p cell near far s.1 s.2 f) (fun _ _ => cellPut_better) (digitsP p) t1 d (mem_digits h0 h1)
    exact ⟨t2, b⟩
  obtain ⟨t2, b⟩ := this
  obtain ⟨f1, e1, l1⟩ := cellPut_has (p := p) (cell := cell) (d := d) (near := near) (far := far) (one := s.1) (other := s.2) (f := f) (t := t2)
  obtain ⟨f2, e2, l2⟩ := (b.trans b2) _ _ e1
  exact ⟨f2, e2, Nat.le_trans l2 l1⟩
theorem withCell_better {p cell : Int} {near far : Row} {t : Tb} : Better t (withCell p t cell near far) := fold_better (fun _ _ => cellItem_better) _ _
/-- each item of the new table is an old one, or an old one and a digit more -/
theorem withCell_mem {p cell : Int} {near far : Row} {t : Tb} {q : Kp × Fg} (h : q ∈ withCell p t cell near far) : q ∈ t ∨ ∃ s f, (s, f) ∈ t ∧ ∃ d : Nat, d ≠ 0 ∧ d < p.toNat ∧ q = (keyOf p near far s.1 s.2 d, f ++ [(cell, (d : Int))]) := by
  have inv := foldl_inv (g := cellItem p cell near far) (Q := fun t' : Tb => ∀ q ∈ t', q ∈ t ∨ ∃ s f, (s, f) ∈ t ∧ ∃ d : Nat, d ≠ 0 ∧ d < p.toNat ∧ q = (keyOf p near far s.1 s.2 d, f ++ [(cell, (d : Int))])) (l := t) (b := t) (fun q hq => .inl hq) fun t1 x hx h1 => by
    unfold cellItem
    refine foldl_inv (g := cellPut p cell near far x.1.1 x.1.2 x.2) (Q := fun t' : Tb => ∀ q ∈ t', q ∈ t ∨ ∃ s f, (s, f) ∈ t ∧ ∃ d : Nat, d ≠ 0 ∧ d < p.toNat ∧ q = (keyOf p near far s.1 s.2 d, f ++ [(cell, (d : Int))])) h1 fun t2 d hd h2 q hq => ?_
    obtain ⟨k, rfl, k0, k1⟩ := of_mem_digits hd
    have new : q ∈ putN t2 (keyOf p near far x.1.1 x.1.2 k) (x.2 ++ [(cell, (k : Int))]) → q ∈ t ∨ ∃ s f, (s, f) ∈ t ∧ ∃ d : Nat, d ≠ 0 ∧ d < p.toNat ∧ q = (keyOf p near far s.1 s.2 d, f ++ [(cell, (d : Int))]) := fun hq => by
      rcases putN_mem hq with hq | e
      · exact h2 q hq
      · exact .inr ⟨x.1, x.2, hx, k, k0, k1, e⟩
    rw [cellPut_eq] at hq
    split at hq
    · exact new hq
    · split at hq
      · exact new hq
      · exact h2 q hq
  exact inv q h
end DK

/-! ## M2 -/
namespace DK
open PySem PySem.Spec PyProof.Rows L2
/-! # The best of the table is the least of all rests -/
def restTo (k g : Ky) (i : Nat) : List Rest := ((k.cols.zip g.cols).take i).foldl (fun l q => lawStep k.p q.2 q.1 l) [([], zeroR g.many, zeroR k.many)]
structure Fr (k g : Ky) (i : Nat) (s : Kp) (f : Fg) : Prop where
  at_ : ∀ c ∈ f, 0 ≤ c.1 ∧ c.1 < (i : Int) ∧ 1 ≤ c.2 ∧ c.2 < k.p
  asc : (f.map (·.1)).Pairwise (· < ·)
  g : addedUp g f = s.1
  k : addedUp k f = s.2
  len : f.length ≤ i
structure Jt (k g : Ky) (i : Nat) : Prop where
  to : ∀ q ∈ tabTo k g i, ∃ r ∈ restTo k g i, r.2.1 = q.1.1 ∧ r.2.2 = q.1.2 ∧ sz r.1 = q.2.length
  of : ∀ r ∈ restTo k g i, ∃ f, atN (tabTo k g i) (r.2.1, r.2.2) = some f ∧ f.length ≤ sz r.1
  fr : ∀ q ∈ tabTo k g i, Fr k g i q.1 q.2
  ln : ∀ r ∈ restTo k g i, r.2.1.length = g.many.toNat ∧ r.2.2.length = k.many.toNat
theorem rest_succ {k g : Ky} {i : Nat} {far near : Row} (h1 : k.cols[i]? = some far) (h2 : g.cols[i]? = some near) : restTo k g (i + 1) = lawStep k.p near far (restTo k g i) := by
  unfold restTo
  have e : (k.cols.zip g.cols)[i]? = some (far, near) := List.getElem?_zip_eq_some.mpr ⟨h1, h2⟩
  rw [take_snoc e, List.foldl_append]
  rfl
theorem rest_all {k g : Ky} (kg : KG k g) : restTo k g k.cols.length = lawAll k g := by
  unfold restTo lawAll
  rw [List.take_of_length_le (by rw [List.length_zip]; omega)]
theorem colAt_nat {k : Ky} {i : Nat} {c : Row} (h : k.cols[i]? = some c) : colAt k (i : Int) = c := by
  unfold colAt
  rw [Int.toNat_natCast, List.getD_eq_getElem?_getD, h]
  rfl
theorem keyOf_dig {p : Int} {near far one other : Row} {d : Nat} (h : d ≠ 0) : keyOf p near far one other d = (atDig p one near d, atDig p other far d) := by
  unfold keyOf atDig
  rw [if_neg h, if_neg h]
theorem jt {k g : Ky} (kg : KG k g) : ∀ i, i ≤ k.cols.length → Jt k g i := by
  intro i
  induction i with
  | zero =>
    intro _
    have h0 : tabTo k g 0 = [((zeroR g.many, zeroR k.many), [])] := rfl
    have h1 : restTo k g 0 = [([], zeroR g.many, zeroR k.many)] := rfl
    refine ⟨fun q hq => ?_, fun r hr => ?_, fun q hq => ?_, fun r hr => ?_⟩
    · rw [h0] at hq
      rw [List.mem_singleton.mp hq, h1]
      exact ⟨_, List.mem_singleton.mpr rfl, rfl, rfl, rfl⟩
    · rw [h1] at hr
      rw [List.mem_singleton.mp hr, h0]
      exact ⟨[], by rw [atN_cons, if_pos rfl], Nat.le_refl _⟩
    · rw [h0] at hq
      rw [List.mem_singleton.mp hq]
      exact ⟨fun c hc => (by cases hc), .nil, rfl, rfl, Nat.le_refl _⟩
    · rw [h1] at hr
      rw [List.mem_singleton.mp hr]
      exact ⟨zeroR_len, zeroR_len⟩
  | succ i ih =>
    intro hi
    have J := ih (by omega)
    have h1 : k.cols[i]? = some k.cols[i] := List.getElem?_eq_getElem (by omega)
    have h2 : g.cols[i]? = some (g.cols[i]'(by have := kg.nn; omega)) := List.getElem?_eq_getElem _
    generalize hfar : k.cols[i] = far at h1
    generalize hnear : g.cols[i]'(by have := kg.nn; omega) = near at h2
    have lf : far.length = k.many.toNat := kg.ok1.len _ (List.mem_of_getElem? h1)
    have lnr : near.length = g.many.toNat := kg.ok2.len _ (List.mem_of_getElem? h2)
    have hl : ∀ q ∈ restTo k g i, q.2.1.length = near.length ∧ q.2.2.length = far.length := fun q hq => by rw [lf, lnr]; exact J.ln q hq
    have p0 := kg.ok1.p0
    rw [show Jt k g (i + 1) ↔ Jt k g (i + 1) from Iff.rfl]
    refine ⟨fun q hq => ?_, fun r hr => ?_, fun q hq => ?_, fun r hr => ?_⟩
    · rw [tab_succ h1 h2] at hq
      rw [rest_succ h1 h2]
      rcases withCell_mem hq with hq | ⟨s, f, hsf, d, d0, d1, rfl⟩
      · obtain ⟨r, hr, e1, e2, e3⟩ := J.to q hq
        refine ⟨(r.1 ++ [((0 : Nat) : Int)], atDig k.p r.2.1 near 0, atDig k.p r.2.2 far 0), (mem_lawStep hl).mpr ⟨r, hr, 0, by omega, rfl⟩, e1, e2, ?_⟩
        rw [sz_snoc, e3]
        rfl
      · obtain ⟨r, hr, e1, e2, e3⟩ := J.to _ hsf
        refine ⟨(r.1 ++ [(d : Int)], atDig k.p r.2.1 near d, atDig k.p r.2.2 far d), (mem_lawStep hl).mpr ⟨r, hr, d, d1, rfl⟩, ?_, ?_, ?_⟩
        · rw [keyOf_dig d0]
          show atDig _ r.2.1 _ _ = _
          rw [e1]
        · rw [keyOf_dig d0]
          show atDig _ r.2.2 _ _ = _
          rw [e2]
        · rw [sz_snoc, e3, if_neg (by omega), List.length_append]
          rfl
    · rw [rest_succ h1 h2] at hr
      rw [tab_succ h1 h2]
      obtain ⟨r0, hr0, d, d1, rfl⟩ := (mem_lawStep hl).mp hr
      obtain ⟨f, hf, lf'⟩ := J.of r0 hr0
      by_cases d0 : d = 0
      · subst d0
        obtain ⟨f', e', l'⟩ := withCell_better (p := k.p) (cell := i) (near := near) (far := far) _ _ hf
        refine ⟨f', e', ?_⟩
        show _ ≤ sz (r0.1 ++ [((0 : Nat) : Int)])
        rw [sz_snoc]
        have : (if ((0 : Nat) : Int) = 0 then 0 else 1) = 0 := rfl
        omega
      · obtain ⟨f', e', l'⟩ := withCell_has (p := k.p) (cell := i) (near := near) (far := far) (atN_mem hf) d0 d1
        rw [keyOf_dig d0] at e'
        refine ⟨f', e', ?_⟩
        show _ ≤ sz (r0.1 ++ [(d : Int)])
        rw [sz_snoc, if_neg (by omega)]
        omega
    · rw [tab_succ h1 h2] at hq
      rcases withCell_mem hq with hq | ⟨s, f, hsf, d, d0, d1, rfl⟩
      · obtain ⟨a, b, c, d, e⟩ := J.fr q hq
        exact ⟨fun x hx => by have := a x hx; omega, b, c, d, by omega⟩
      · obtain ⟨a, b, c, e, l⟩ := J.fr _ hsf
        refine ⟨fun x hx => ?_, ?_, ?_, ?_, ?_⟩
        · rcases List.mem_append.mp hx with hx | hx
          · have := a x hx; omega
          · rw [List.mem_singleton.mp hx]
            show (0 : Int) ≤ (i : Int) ∧ (i : Int) < ((i + 1 : Nat) : Int) ∧ 1 ≤ (d : Int) ∧ (d : Int) < k.p
            omega
        · rw [List.map_append, List.pairwise_append]
          refine ⟨b, by simp, fun x hx y hy => ?_⟩
          have ey : y = (i : Int) := by simpa using hy
          obtain ⟨z, hz, rfl⟩ := List.mem_map.mp hx
          rw [ey]
          exact (a z hz).2.1
        · rw [addedUp_snoc, c, ← kg.pp]
          show addR k.p s.1 (mulR k.p d (colAt g i)) = _
          rw [colAt_nat h2]
          rfl
        · rw [addedUp_snoc, e]
          show addR k.p s.2 (mulR k.p d (colAt k i)) = _
          rw [colAt_nat h1]
          rfl
        · rw [List.length_append]
          show f.length + 1 ≤ i + 1
          have : f.length ≤ i := l
          omega
    · rw [rest_succ h1 h2] at hr
      obtain ⟨r0, hr0, d, d1, rfl⟩ := (mem_lawStep hl).mp hr
      have := hl r0 hr0
      exact ⟨by rw [← lnr]; exact atDig_len this.1, by rw [← lf]; exact atDig_len this.2⟩
/-! ### the best -/
def cond (k g : Ky) (q : Kp × Fg) : Prop := q.1.1 = zeroR g.many ∧ q.1.2 ≠ zeroR k.many
theorem bestB_yes {k g : Ky} {b : Option Fg} {q : Kp × Fg} (h : cond k g q) : bestB k g b q = match b with | none => some q.2 | some b0 => if q.2.length < b0.length then some q.2 else some b0 := by
  unfold bestB
  rw [decide_eq_true h.1, decide_eq_false h.2]
  cases b with
  | none => rfl
  | some b0 =>
    by_cases hl : q.2.length < b0.length
    · show (if (decide (q.2.length < b0.length)) = true then _ else _) = if q.2.length < b0.length then _ else _
      rw [if_pos hl, if_pos (decide_eq_true hl)]
    · show (if (decide (q.2.length < b0.length)) = true then _ else _) = if q.2.length < b0.length then _ else _
      rw [if_neg hl, if_neg (by rw [decide_eq_false hl]; decide)]
theorem bestB_no {k g : Ky} {b : Option Fg} {q : Kp × Fg} (h : ¬ cond k g q) : bestB k g b q = b := by
  unfold bestB
  by_cases h1 : q.1.1 = zeroR g.many
  · by_cases h2 : q.1.2 = zeroR k.many
    · rw [decide_eq_true h1, decide_eq_true h2]
      rfl
    · exact absurd ⟨h1, h2⟩ h
  · rw [decide_eq_false h1]
    rfl
theorem best_fold {k g : Ky} : ∀ (l : Tb) (b : Option Fg),
    (l.foldl (bestB k g) b = none → b = none ∧ ∀ q ∈ l, ¬ cond k g q) ∧
    ∀ f, l.foldl (bestB k g) b = some f → (b = some f ∨ ∃ q ∈ l, cond k g q ∧ q.2 = f) ∧ (∀ q ∈ l, cond k g q → f.length ≤ q.2.length) ∧ ∀ b', b = some b' → f.length ≤ b'.length
  | [], b => ⟨fun h => ⟨h, fun q hq => (by cases hq)⟩, fun f h => ⟨.inl h, fun q hq => (by cases hq), fun b' e => by
    rw [show b = some f from h] at e
    cases e
    exact Nat.le_refl _⟩⟩
  | q :: l, b => by
    obtain ⟨i1, i2⟩ := best_fold (k := k) (g := g) l (bestB k g b q)
    by_cases hc : cond k g q
    · have e := bestB_yes (b := b) hc
      refine ⟨fun h => ?_, fun f h => ?_⟩
      · have := (i1 h).1
        rw [e] at this
        cases b with
        | none => cases this
        | some b0 =>
          replace this : (if q.2.length < b0.length then some q.2 else some b0) = none := this
          split at this <;> cases this
      · obtain ⟨j1, j2, j3⟩ := i2 f h
        rw [e] at j1 j3
        cases b with
        | none =>
          have l0 : f.length ≤ q.2.length := j3 q.2 rfl
          refine ⟨.inr ?_, fun q' hq' hc' => ?_, fun b' eb => (by cases eb)⟩
          · rcases j1 with j1 | ⟨q', h1, h2⟩
            · exact ⟨q, by simp, hc, Option.some.inj j1⟩
            · exact ⟨q', List.mem_cons_of_mem _ h1, h2⟩
          · rcases List.mem_cons.mp hq' with rfl | hq'
            · exact l0
            · exact j2 q' hq' hc'
        | some b0 =>
          replace j1 : (if q.2.length < b0.length then some q.2 else some b0) = some f ∨ _ := j1
          replace j3 : ∀ b', (if q.2.length < b0.length then some q.2 else some b0) = some b' → _ := j3
          by_cases hl : q.2.length < b0.length
          · rw [if_pos hl] at j1 j3
            have l0 : f.length ≤ q.2.length := j3 q.2 rfl
            refine ⟨.inr ?_, fun q' hq' hc' => ?_, fun b' eb => ?_⟩
            · rcases j1 with j1 | ⟨q', h1, h2⟩
              · exact ⟨q, by simp, hc, Option.some.inj j1⟩
              · exact ⟨q', List.mem_cons_of_mem _ h1, h2⟩
            · rcases List.mem_cons.mp hq' with rfl | hq'
              · exact l0
              · exact j2 q' hq' hc'
            · cases eb
              omega
          · rw [if_neg hl] at j1 j3
            have l0 : f.length ≤ b0.length := j3 b0 rfl
            refine ⟨?_, fun q' hq' hc' => ?_, fun b' eb => ?_⟩
            · rcases j1 with j1 | ⟨q', h1, h2⟩
              · exact .inl j1
              · exact .inr ⟨q', List.mem_cons_of_mem _ h1, h2⟩
            · rcases List.mem_cons.mp hq' with rfl | hq'
              · omega
              · exact j2 q' hq' hc'
            · cases eb
              exact l0
    · have e := bestB_no (b := b) hc
      rw [e] at i1 i2
      have el : (q :: l).foldl (bestB k g) b = l.foldl (bestB k g) b := by rw [List.foldl_cons, e]
      rw [el]
      refine ⟨fun h => ⟨(i1 h).1, fun q' hq' => ?_⟩, fun f h => ?_⟩
      · rcases List.mem_cons.mp hq' with rfl | hq'
        · exact hc
        · exact (i1 h).2 q' hq'
      · obtain ⟨j1, j2, j3⟩ := i2 f h
        refine ⟨?_, fun q' hq' hc' => ?_, j3⟩
        · rcases j1 with j1 | ⟨q', h1, h2⟩
          · exact .inl j1
          · exact .inr ⟨q', List.mem_cons_of_mem _ h1, h2⟩
        · rcases List.mem_cons.mp hq' with rfl | hq'
          · exact absurd hc' hc
          · exact j2 q' hq' hc'
def isF (k g : Ky) (q : Rest) : Prop := q.2.1 = zeroR g.many ∧ q.2.2 ≠ zeroR k.many
theorem best_none {k g : Ky} (kg : KG k g) (h : fewestFalse k g = none) : ∀ q ∈ lawAll k g, ¬ isF k g q := by
  intro q hq hf
  rw [← rest_all kg] at hq
  obtain ⟨f, hf', _⟩ := (jt kg _ (Nat.le_refl _)).of q hq
  rw [tab_all kg] at hf'
  unfold fewestFalse at h
  exact ((best_fold (k := k) (g := g) (tableOf k g) none).1 h).2 _ (atN_mem hf') hf
structure BestOk (k g : Ky) (f : Fg) : Prop where
  one : ∃ q ∈ lawAll k g, isF k g q ∧ sz q.1 = f.length
  min : ∀ q ∈ lawAll k g, isF k g q → f.length ≤ sz q.1
  forg : isForg k f = true
  g0 : addedUp g f = zeroR g.many
  k1 : addedUp k f ≠ zeroR k.many
  len : f.length ≤ 7
theorem best_some {k g : Ky} (kg : KG k g) {f : Fg} (h : fewestFalse k g = some f) : BestOk k g f := by
  unfold fewestFalse at h
  obtain ⟨b1, b2, _⟩ := (best_fold (k := k) (g := g) (tableOf k g) none).2 f h
  have J := jt kg _ (Nat.le_refl _)
  rcases b1 with b1 | ⟨q, hq, hc, rfl⟩
  · cases b1
  · have hq' := hq
    rw [← tab_all kg] at hq'
    obtain ⟨r, hr, e1, e2, e3⟩ := J.to q hq'
    obtain ⟨f1, f2, f3, f4, f5⟩ := J.fr q hq'
    rw [rest_all kg] at hr
    refine ⟨⟨r, hr, ⟨by rw [e1]; exact hc.1, by rw [e2]; exact hc.2⟩, e3⟩, fun r' hr' hF => ?_, ?_, by rw [f3]; exact hc.1, by rw [f4]; exact hc.2, by have := kg.ok1.n7; omega⟩
    · rw [← rest_all kg] at hr'
      obtain ⟨f', hf', lf'⟩ := J.of r' hr'
      rw [tab_all kg] at hf'
      exact Nat.le_trans (b2 _ (atN_mem hf') hF) lf'
    · unfold isForg
      rw [Bool.and_eq_true, List.all_eq_true]
      refine ⟨fun x hx => ?_, ?_⟩
      · have := f1 x hx
        rw [decide_eq_true this.1, decide_eq_true this.2.1, decide_eq_true this.2.2.1, decide_eq_true this.2.2.2]
        rfl
      · have : ∀ {ns : List Int}, ns.Pairwise (· < ·) → ascB ns = true := by
          intro ns
          induction ns with
          | nil => intro _; rfl
          | cons x ns ih =>
            intro h
            cases ns with
            | nil => rfl
            | cons y ns =>
              have h' := List.pairwise_cons.mp h
              show (decide (x < y) && ascB (y :: ns)) = true
              rw [decide_eq_true (h'.1 y (by simp)), ih h'.2]
              rfl
        exact this f2
end DK

/-! ## X12 -/
namespace DK
open PySem PySem.Spec PyProof.Rows L2
/-! # Bent forgings, the hand's case, all rests -/
section
variable {P : Program} {w : World} {K : PySem.W.Frag} {s : DS} {te ta tb tc tk : TE} {ts tu : TS} {N C J : DS → Prop} {R : Dt → DS → Prop} {i j : Nat}
theorem ru_neg {i : Int} : RU P w (rU fun i => .int (-i)) (.int i) (.int (-i)) := fun B H u e h Q q => by
  cases h
  exact ⟨i, rfl, q _ B H (.refl e) (.int _)⟩
theorem ed_m1 : ED P w (tUn (rU fun i => .int (-i)) (tC (.int 1))) s (.int (-1)) := ed_un ed_int ru_neg
theorem cut_map {α : Type} (f : α → Dt) (l : List α) (lo hi : Option Int) : ∃ l' : List α, cutD (l.map f) lo hi = l'.map f ∧ l'.length ≤ l.length := by
  unfold cutD
  rw [← List.map_drop, ← List.map_take]
  exact ⟨_, rfl, by rw [List.length_take, List.length_drop]; omega⟩
theorem atI_last {α : Type} {xs : List α} (h : xs ≠ []) : ∃ x, atI xs (-1) = some x ∧ x ∈ xs := by
  have hl : 0 < xs.length := List.length_pos_iff.mpr h
  have h2 : xs.length - 1 < xs.length := by omega
  refine ⟨xs[xs.length - 1], ?_, List.getElem_mem h2⟩
  unfold atI ixN
  rw [if_neg (by decide), if_pos (by omega)]
  show xs[(-1 + (xs.length : Int)).toNat]? = _
  rw [show (-1 + (xs.length : Int)).toNat = xs.length - 1 by omega, List.getElem?_eq_getElem h2]
theorem sort_perm (ns : List Int) : ∃ f : Int → Int → Bool, True := ⟨fun _ _ => true, trivial⟩
/-- sorted(..) of ints, whatever comes -/
theorem ev_sortedL {Po : Dt → DS → Prop} (h : EV P w te s fun d s1 => ∃ ns : List Int, d = .lst (ns.map Dt.int) ∧ ns.length < 64 ∧ ∀ l : List Int, l.length = ns.length → Po (.lst (l.map Dt.int)) s1) : EV P w (tCB (rSorted K) (tCons te tNil)) s Po := fun A B H σ S Q q =>
  h A B H σ S _ fun v B1 H1 d s1 S1 M1 D1 ⟨ns, e, hz, po⟩ => by
    subst e
    obtain ⟨a, us, rfl, ha, D⟩ := sd_lst D1
    rw [ints_of_sdA D] at ha
    refine ⟨a, ns, rfl, SqL.of (S1.bh _ _ ha), hz, fun l p h1 h2 hn => ?_⟩
    have g := gw_new (o := .lst (l.map V.int)) S1.bh hn
    exact q (.ref p) _ _ _ s1 (S1.grow g) (M1.trans (.grow g)) (.lst upd_same (sdA_ints l)) (po l h1.length_eq)
theorem ex__law_bent : DefOk P w N_law_bent (t__law_bent P w K) f__law_bent := by
  intro as n Po ⟨k, f, e, ok, hf, hn, h⟩
  subst e
  have hN : n + 10000 ≤ 1000000 := hn
  have n7 := ok.n7
  have p2 := ok.p0
  have p5 := ok.p5
  refine ex_moreN (m := n + 10000) ?_
  refine ex_seq (ex_par (by show 3 < 7; decide) (by show 4 < 7; decide) (ev_take rfl ed_int (by decide) (by decide) (by show n ≤ 1000000; omega) fun way w0 w6 => (ed_klen .h (ed_var rfl)).to ⟨rfl, ?_⟩))
  refine ex_then (J := fun s' => ∃ (f' : Fg) (m : Nat), f'.length ≤ 50 ∧ m ≤ n + 5000 ∧ s' = ⟨[some .tin, some (.val (hardD k)), some (.val (fgX true f)), some (.val (.int way)), some (.val (.int k.cols.length)), some (.val (fgX true f')), none], m⟩) ?_ ?_
  · refine ex_set (by show 5 < 7; decide) (ev_tuple (evn_lc (evi_list (ev_sortedL (ev_callT (eva_tin rfl (eva_cons (ev_of_new (evn_listRg ((ed_var rfl).to ⟨_, rfl, by omega, by omega, eva_cons (ev_take rfl ed_int (by decide) (by decide) (by show n + 1 ≤ 1000000; omega) fun c c0 c4 => eva_nil ⟨(List.range ((k.cols.length : Int)).toNat).map fun i : Nat => (i : Int), c, by
      show [Ag.tin, .v (.lst _), .v _] = [.tin, .v (.lst _), .v _]
      rw [List.map_map]
      rfl, by rw [List.length_map, List.length_range]; omega, c0, by omega, by show n + 1 + 1 + 1000 ≤ 1000000; omega, fun ms hms => ⟨ms, rfl, by rw [List.length_map, List.length_range] at hms; omega, fun l hl => ⟨l.map Dt.int, rfl, by intro i hi; rw [one_mem hi]; rfl, by rw [List.length_map]; rw [List.length_map, List.length_range] at hms; omega, fun i acc n' => ∃ f' : Fg, acc = pairsD f' ∧ f'.length = i ∧ n' ≤ n + 1 + 1 + 1000 + i,
        ⟨[], rfl, rfl, Nat.le_refl _⟩, fun i acc n' d hd ⟨f', e1, e2, e3⟩ => ?_, fun acc n' ⟨f', e1, e2, e3⟩ => ?_⟩⟩⟩)⟩))))))))))
    · rw [List.length_map, List.length_range] at hms
      obtain ⟨x, hx, rfl⟩ := get_map hd
      have hi : i < l.length := (List.getElem?_eq_some_iff.mp hx).1
      refine ⟨_, _, ga_name (by show 6 < 7; decide), fun j hj => hj, evt_yes ⟨rfl, ?_⟩⟩
      rw [if_pos rfl]
      refine ev_tup (eva_cons ((ed_var rfl).to (eva_cons (ev_op (ed_int.to (ev_take rfl (ed_op (ed_kp .h (ed_var rfl)) ed_int rd_sub) (by omega) (by omega) (by show n' ≤ 1000000; omega) fun v v0 v1 => ⟨.int (1 + v), rd_add, eva_nil ⟨[.int x, .int (1 + v)], rfl, (by show 2 ≤ 1000; decide), rfl, f' ++ [(x, 1 + v)], ?_, by rw [List.length_append, e2]; rfl, by show n' + 1 ≤ _; omega⟩⟩))))))
      unfold pairsD at e1 ⊢
      rw [e1, List.map_append]
      rfl
    · rw [List.length_map, List.length_range] at hms
      rw [List.length_map] at e2 e3
      refine ⟨rfl, f', n', by omega, by omega, ?_⟩
      rw [e1]
      rfl
  · intro s' ⟨f', m, hf', hm, e2⟩
    subst e2
    have efg : fgX true f = .tup (pairsD f) := rfl
    have e0 : EDT P w (tTest (tOp (rEqD K) (tVar 2) (tTup tNil))) ⟨[some .tin, some (.val (hardD k)), some (.val (fgX true f)), some (.val (.int way)), some (.val (.int k.cols.length)), some (.val (fgX true f')), none], m⟩ (decide (f = [])) :=
      edt_test (ed_op (ed_var (d := fgD f) rfl) ed_tup0 rd_eqFg0)
    refine ex_seq (ex_ifD (edt_or (edt_test (ed_op (ed_var rfl) ed_int rd_lt)) fun _ => e0) (fun _ => ?_) fun z => ex_next ?_)
    · exact ex_ret ((ed_var rfl).to ⟨by show m ≤ n + 10000; omega, h true f' hf'⟩)
    · have hne : f ≠ [] := by
        rw [Bool.or_eq_false_iff] at z
        exact of_decide_eq_false z.2
      have hpn : pairsD f ≠ [] := fun z => hne (List.map_eq_nil_iff.mp z)
      refine ex_seq (ex_ifD (b := decide (way = 3)) (edt_test (ed_op (ed_var rfl) ed_int rd_eqI)) (fun _ => ?_) fun _ => ex_next ?_)
      · obtain ⟨l1, hl1, hm1⟩ := atI_last hpn
        obtain ⟨q, hq, rfl⟩ := List.mem_map.mp hm1
        obtain ⟨g, hg, lg⟩ := cut_map (fun q : Int × Int => Dt.tup [.int q.1, .int q.2]) f none (some (-1))
        have elast : ∀ j d, atI [Dt.int q.1, .int q.2] j = some d → ED P w (tOp (rIx K) (tOp (rIx K) (tVar 2) (tUn (rU fun i => .int (-i)) (tC (.int 1)))) (tC (.int j))) ⟨[some .tin, some (.val (hardD k)), some (.val (fgX true f)), some (.val (.int way)), some (.val (.int k.cols.length)), some (.val (fgX true f')), none], m⟩ d := fun j d hd =>
          ed_op (ed_op (ed_var (d := .tup (pairsD f)) rfl) ed_m1 (rd_ixT hl1)) ed_int (rd_ixT hd)
        refine ex_ret ((ed_op (ed_slA (ds := pairsD f) (ed_var rfl) evo_none (evo_some ed_m1)) (ed_tup1 (ed_tup2 (elast 0 (.int q.1) rfl) (ed_op (ed_kp .h (ed_var rfl)) (elast 1 (.int q.2) rfl) rd_sub))) (rd_cat ?_)).to ⟨by show m ≤ n + 10000; omega, ?_⟩)
        · show (cutD (f.map _) none (some (-1))).length + 1 ≤ 100000
          rw [hg, List.length_map]
          omega
        · have h' := h true (g ++ [(q.1, k.p - q.2)])
          have lg' : (g ++ [(q.1, k.p - q.2)]).length ≤ 50 := by
            rw [List.length_append]
            have hp : 0 < f.length := List.length_pos_iff.mpr hne
            have : (cutD (f.map fun q : Int × Int => Dt.tup [.int q.1, .int q.2]) none (some (-1))).length ≤ f.length - 1 := by
              unfold cutD
              rw [List.length_take, List.length_drop, List.length_map]
              have : HT.sIx f.length f.length (some (-1)) = f.length - 1 := by
                show (if (-1 : Int) < 0 then ((-1 : Int) + (f.length : Int)).toNat else min (-1 : Int).toNat f.length) = _
                rw [if_pos (by decide)]
                omega
              rw [this]
              have : HT.sIx f.length 0 none = 0 := rfl
              omega
            rw [hg, List.length_map] at this
            show g.length + 1 ≤ 50
            omega
          have h2 := h' lg'
          have e3 : fgX true (g ++ [(q.1, k.p - q.2)]) = .tup (cutD (pairsD f) none (some (-1)) ++ [.tup [.int q.1, .int (k.p - q.2)]]) := by
            show Dt.tup (pairsD _) = _
            unfold pairsD
            rw [hg, List.map_append]
            rfl
          rw [e3] at h2
          exact h2
      · refine ex_ret (ev_if ((edt_test (ed_op (ed_var rfl) ed_int rd_eqI)).to ?_))
        by_cases h4 : way = 4
        · rw [decide_eq_true h4, if_pos rfl]
          refine ev_revT ((ed_var rfl).to ⟨pairsD f, rfl, by show m ≤ n + 10000; omega, ?_⟩)
          have h2 := h true f.reverse (by rw [List.length_reverse]; exact hf)
          have e3 : fgX true f.reverse = .tup (pairsD f).reverse := by
            show Dt.tup (pairsD _) = _
            unfold pairsD
            rw [List.map_reverse]
          rw [e3] at h2
          exact h2
        · rw [decide_eq_false h4, if_neg (by decide)]
          exact ev_of_new (evn_list ((ed_var rfl).to ⟨pairsD f, .inl rfl, by show m ≤ n + 10000; omega, h false f hf⟩))
/-! ### the hand's case -/
theorem ex__law_three : DefOk P w N_law_three (t__law_three P w K) f__law_three := by
  intro as n Po ⟨e, h⟩
  subst e
  have i1 : ∀ (s : DS) (a : Int), ED P w (tTup (tCons (tC (.int a)) tNil)) s (rowD [a]) := fun s a => ed_tup1 ed_int
  have i2 : ∀ (s : DS) (a b : Int), ED P w (tTup (tCons (tC (.int a)) (tCons (tC (.int b)) tNil))) s (rowD [a, b]) := fun s a b => ed_tup2 ed_int ed_int
  refine ex_seq (ex_asg ((ed_tup2 (ed_tup3 ed_int ed_int (ed_tup3 (i1 _ _) (i1 _ _) (i1 _ _))) (ed_tup3 ed_int ed_int (ed_tup3 (i2 _ _ _) (i2 _ _ _) (i2 _ _ _)))).to ⟨_, _, ga_tup2 (by show 0 < 2; decide) (by show 1 < 2; decide), ?_⟩))
  refine ex_ret (ev_tup (eva_cons ((ed_var (d := hardD key3) rfl).to (eva_cons ((ed_var (d := hardD guard3) rfl).to (eva_cons ((ed_tup2 ed_int (ed_tup1 (ed_tup3 ed_int ed_int ed_int))).to (eva_cons ((ed_tup2 ed_int (ed_tup1 (ed_tup3 ed_int ed_int ed_int))).to (eva_nil ⟨[hardD key3, hardD guard3, _, _], rfl, (by show 4 ≤ 1000; decide), h _ _⟩))))))))))
def key2 : Ky := ⟨2, 1, [[1], [0]]⟩
def guard2 : Ky := ⟨2, 1, [[1], [1]]⟩
theorem kg3 : KG key3 guard3 := ⟨⟨by decide, by decide, by decide, by decide, by decide, by decide, by decide⟩, ⟨by decide, by decide, by decide, by decide, by decide, by decide, by decide⟩, rfl, rfl, .inl ⟨rfl, by decide, by decide⟩⟩
theorem kg2 : KG key2 guard2 := ⟨⟨by decide, by decide, by decide, by decide, by decide, by decide, by decide⟩, ⟨by decide, by decide, by decide, by decide, by decide, by decide, by decide⟩, rfl, rfl, .inl ⟨rfl, by decide, by decide⟩⟩
theorem len3 : (fewestFalse key3 guard3).map List.length = some 3 := by decide +kernel
theorem len2 : (fewestFalse key2 guard2).map List.length = some 2 := by decide +kernel
theorem no3 : isFalseB key3 guard3 3 true [(0, 1)] = false := by decide +kernel
theorem call_mended {dk dg : Dt} {k g : Ky} (hk : IsKey dk k) (hg : IsKey dg g) (kg : KG k g) (h1 : ED P w ta s dk) (h2 : ED P w tb s dg) : ED P w (tCall (spT P w f_most_mended) [] E0 (tCons ta (tCons tb tNil))) s (match fewestFalse k g with | none => .non | some f => .int (((f.length : Int) - 1) / 2)) :=
  ed_call (as := [dk, dg]) (eda_cons h1 (eda_cons h2 eda_nil)) fun Po p => ⟨k, g, dk, dg, rfl, hk, hg, kg, p _⟩
theorem call_told {dk dg : Dt} {k g : Ky} (hk : IsKey dk k) (hg : IsKey dg g) (kg : KG k g) (h1 : ED P w ta s dk) (h2 : ED P w tb s dg) : ED P w (tCall (spT P w f_most_told) [] E0 (tCons ta (tCons tb tNil))) s (match fewestFalse k g with | none => .non | some f => .int ((f.length : Int) - 1)) :=
  ed_call (as := [dk, dg]) (eda_cons h1 (eda_cons h2 eda_nil)) fun Po p => ⟨k, g, dk, dg, rfl, hk, hg, kg, p _⟩
theorem len_some {o : Option Fg} {n : Nat} (h : o.map List.length = some n) : ∃ f, o = some f ∧ f.length = n := by
  cases o with
  | none => cases h
  | some f => exact ⟨f, rfl, Option.some.inj h⟩
theorem pl_ints {m : Nat} {ds : List Dt} (h : ∀ d ∈ ds, d.sc = true) : ∀ d ∈ ds, PlD (m + 1) d := fun d hd => .inl (h d hd)
theorem ex__law_by_hand_right : DefOk P w N_law_by_hand_right (t__law_by_hand_right P w K) f__law_by_hand_right := by
  intro as n Po ⟨e, h⟩
  subst e
  obtain ⟨f3, hf3, l3⟩ := len_some len3
  obtain ⟨f2, hf2, l2⟩ := len_some len2
  refine ex_seq (ex_asg (ev_call (eva_nil ⟨[], rfl, rfl, fun x y => ⟨_, _, ga_tup rfl (gas_cons (ga_name (i := 0) (by show 0 < 6; decide)) (gas_cons (ga_name (i := 1) (by show 1 < 6; decide)) (gas_cons (ga_name (i := 2) (by show 2 < 6; decide)) (gas_cons (ga_name (i := 3) (by show 3 < 6; decide)) gas_nil)))), ?_⟩⟩)))
  have c1 := fun (s : DS) (h0 : s.ε[0]? = some (some (.val (hardD key3)))) (h1 : s.ε[1]? = some (some (.val (hardD guard3)))) => call_least (P := P) (w := w) (s := s) .h .h kg3 (ed_var h0) (ed_var h1)
  have c2 := fun (s : DS) (h0 : s.ε[0]? = some (some (.val (hardD key3)))) (h1 : s.ε[1]? = some (some (.val (hardD guard3)))) => call_mended (P := P) (w := w) (s := s) .h .h kg3 (ed_var h0) (ed_var h1)
  have c3 := fun (s : DS) (h0 : s.ε[0]? = some (some (.val (hardD key3)))) (h1 : s.ε[1]? = some (some (.val (hardD guard3)))) => call_told (P := P) (w := w) (s := s) .h .h kg3 (ed_var h0) (ed_var h1)
  unfold leastD at c1
  rw [hf3] at c1 c2 c3
  refine ex_seq (ex_setD (by show 4 < 6; decide) (d := .lst [.int f3.length, .int (((f3.length : Int) - 1) / 2), .int ((f3.length : Int) - 1), .bl (isFalseB key3 guard3 3 true [(0, 1)])]) (ed_of_new (edn_lst (ds := [.int f3.length, .int (((f3.length : Int) - 1) / 2), .int ((f3.length : Int) - 1), .bl (isFalseB key3 guard3 3 true [(0, 1)])]) (eda_cons (c1 _ rfl rfl) (eda_cons (c2 _ rfl rfl) (eda_cons (c3 _ rfl rfl) (eda_cons
    (ed_call (as := [hardD key3, hardD guard3, .int 3, fgX true [(0, 1)]]) (eda_cons (ed_var rfl) (eda_cons (ed_var rfl) (eda_cons ed_int (eda_cons (ed_tup1 (ed_tup2 ed_int ed_int)) eda_nil)))) fun Po p => ⟨key3, guard3, 3, true, [(0, 1)], rfl, kg3, by decide, p _⟩) eda_nil)))) (by show 4 ≤ 1000; decide))) ?_)
  rw [no3, l3]
  have i1 : ∀ (s : DS) (a : Int), ED P w (tTup (tCons (tC (.int a)) tNil)) s (rowD [a]) := fun s a => ed_tup1 ed_int
  refine ex_seq (ex_setD (by show 5 < 6; decide) (d := .tup [hardD key2, hardD guard2]) (ed_tup2 (ed_tup3 ed_int ed_int (ed_tup2 (i1 _ _) (i1 _ _))) (ed_tup3 ed_int ed_int (ed_tup2 (i1 _ _) (i1 _ _)))) ?_)
  have x0 : ∀ s : DS, s.ε[5]? = some (some (.val (.tup [hardD key2, hardD guard2]))) → ED P w (tOp (rIx K) (tVar 5) (tC (.int 0))) s (hardD key2) := fun s h => ed_op (ed_var h) ed_int (rd_ixT rfl)
  have x1 : ∀ s : DS, s.ε[5]? = some (some (.val (.tup [hardD key2, hardD guard2]))) → ED P w (tOp (rIx K) (tVar 5) (tC (.int 1))) s (hardD guard2) := fun s h => ed_op (ed_var h) ed_int (rd_ixT rfl)
  have d1 := fun (s : DS) (h : s.ε[5]? = some (some (.val (.tup [hardD key2, hardD guard2])))) => call_least (P := P) (w := w) (s := s) .h .h kg2 (x0 s h) (x1 s h)
  have d2 := fun (s : DS) (h : s.ε[5]? = some (some (.val (.tup [hardD key2, hardD guard2])))) => call_mended (P := P) (w := w) (s := s) .h .h kg2 (x0 s h) (x1 s h)
  unfold leastD at d1
  rw [hf2] at d1 d2
  refine ex_ret ((call_same (d := .lst [.int 3, .int 1, .int 2, .bl false, .int 2, .int 0]) (.inr ⟨_, .inl rfl, (by show 6 ≤ 1000; decide), pl_ints (by decide)⟩) ?_ (ed_of_new (edn_lst (ds := [.int 3, .int 1, .int 2, .bl false, .int 2, .int 0]) (eda_cons ed_int (eda_cons ed_int (eda_cons ed_int (eda_cons ed_bl (eda_cons ed_int (eda_cons ed_int eda_nil)))))) (by show 6 ≤ 1000; decide)))).to h)
  refine (ed_op (ed_var rfl) (ed_of_new (edn_lst (ds := [.int f2.length, .int (((f2.length : Int) - 1) / 2)]) (eda_cons (d1 _ rfl) (eda_cons (d2 _ rfl) eda_nil)) (by show 2 ≤ 1000; decide))) (rd_catL (by show 4 + 2 ≤ 100000; decide))).is ?_
  rw [l2]
  rfl
end
end DK

/-! ## X13 -/
namespace DK
open PySem PySem.Spec PyProof.Rows L2
/-! # All rests -/
section
variable {P : Program} {w : World} {K : PySem.W.Frag} {s : DS} {te ta tb tc tk : TE} {ts tu : TS} {N C J : DS → Prop} {R : Dt → DS → Prop} {i j : Nat}
theorem rowsBy_len {p : Int} {near far : Row} : ∀ (n : Nat) (rests : List Int) (one two : Row) (d : Int), (rowsBy p near far n rests one two d).length = n
  | 0, _, _, _, _ => rfl
  | n + 1, _, _, _, _ => congrArg (· + 1) (rowsBy_len n _ _ _ _)
theorem lawStep_cons {p : Int} {near far : Row} {q : Rest} {l : List Rest} : lawStep p near far (q :: l) = rowsBy p near far p.toNat q.1 q.2.1 q.2.2 0 ++ lawStep p near far l := rfl
theorem lawStep_len {p : Int} {near far : Row} : ∀ l : List Rest, (lawStep p near far l).length = l.length * p.toNat
  | [] => by simp [lawStep]
  | q :: l => by
    rw [lawStep_cons, List.length_append, rowsBy_len, lawStep_len l, List.length_cons, Nat.add_mul, Nat.one_mul, Nat.add_comm]
theorem lawStep_snoc {p : Int} {near far : Row} {q : Rest} {l : List Rest} : lawStep p near far (l ++ [q]) = lawStep p near far l ++ rowsBy p near far p.toNat q.1 q.2.1 q.2.2 0 := by
  unfold lawStep
  rw [List.flatMap_append]
  simp
theorem rest_len {k g : Ky} (kg : KG k g) : ∀ i, i ≤ k.cols.length → (restTo k g i).length = k.p.toNat ^ i := by
  intro i
  induction i with
  | zero => intro _; rfl
  | succ i ih =>
    intro hi
    have h1 : k.cols[i]? = some k.cols[i] := List.getElem?_eq_getElem (by omega)
    have h2 : g.cols[i]? = some (g.cols[i]'(by have := kg.nn; omega)) := List.getElem?_eq_getElem _
    rw [rest_succ h1 h2, lawStep_len, ih (by omega), Nat.pow_succ]
theorem rest_small {k g : Ky} (kg : KG k g) {i : Nat} (hi : i ≤ k.cols.length) : (restTo k g i).length ≤ 1000 := by
  have h := rest_len kg i hi
  have n7 := kg.ok1.n7
  have pw : ∀ (p b : Nat), 1 ≤ p → i ≤ b → p ^ i ≤ p ^ b := fun p b hp hab => Nat.pow_le_pow_right hp hab
  rcases kg.sh with ⟨e, _⟩ | ⟨e, _, _, h3⟩ | ⟨e, _, _, h3⟩
  · rw [e] at h
    have := pw 2 7 (by decide) (by omega)
    have h' : (restTo k g i).length = 2 ^ i := h
    omega
  · rw [e] at h
    have := pw 3 5 (by decide) (by omega)
    have h' : (restTo k g i).length = 3 ^ i := h
    omega
  · rw [e] at h
    have := pw 5 4 (by decide) (by omega)
    have h' : (restTo k g i).length = 5 ^ i := h
    omega
theorem rest_deep {k g : Ky} (kg : KG k g) : ∀ i, i ≤ k.cols.length → ∀ r ∈ restTo k g i, r.1.length = i := by
  intro i
  induction i with
  | zero =>
    intro _ r hr
    rw [show restTo k g 0 = [([], zeroR g.many, zeroR k.many)] from rfl] at hr
    rw [List.mem_singleton.mp hr]
    rfl
  | succ i ih =>
    intro hi r hr
    have h1 : k.cols[i]? = some k.cols[i] := List.getElem?_eq_getElem (by omega)
    have h2 : g.cols[i]? = some (g.cols[i]'(by have := kg.nn; omega)) := List.getElem?_eq_getElem _
    generalize hfar : k.cols[i] = far at h1
    generalize hnear : g.cols[i]'(by have := kg.nn; omega) = near at h2
    rw [rest_succ h1 h2] at hr
    have hl : ∀ q ∈ restTo k g i, q.2.1.length = near.length ∧ q.2.2.length = far.length := fun q hq => by
      rw [kg.ok2.len _ (List.mem_of_getElem? h2), kg.ok1.len _ (List.mem_of_getElem? h1)]
      exact (jt kg i (by omega)).ln q hq
    obtain ⟨r0, hr0, d, d1, rfl⟩ := (mem_lawStep hl).mp hr
    show (r0.1 ++ _).length = _
    rw [List.length_append, ih (by omega) r0 hr0]
    rfl
def aS (k g : Ky) (found : Dt) (x4 x5 x6 x7 x8 x9 : Option Sl) (n : Nat) : DS := ⟨[some (.val (hardD k)), some (.val (hardD g)), some (.val (.int k.p)), some (.val found), x4, x5, x6, x7, x8, x9, none], n⟩
theorem ga_tup3 {i j l : Nat} {x y z : Dt} (hi : i < s.ε.length) (hj : j < s.ε.length) (hl : l < s.ε.length) : GA P w (gTup K 3 (gCons (gName i) (gCons (gName j) (gCons (gName l) gNil)))) (.tup [x, y, z]) s (((s.put i (.val x)).put j (.val y)).put l (.val z)) [i, j, l] :=
  ga_tup rfl (gas_cons (ga_name hi) (gas_cons (ga_name (by unfold DS.put; rw [List.length_set]; exact hj)) (gas_cons (ga_name (by unfold DS.put; rw [List.length_set, List.length_set]; exact hl)) gas_nil)))
theorem call_plus {a b : Row} {p : Int} (hp : 0 < p) (hz : a.length ≤ 1000) (h1 : ED P w ta s (rowD a)) (h2 : ED P w tb s (rowD b)) (h3 : ED P w tc s (.int p)) : ED P w (tCall (spT P w f__law_row_plus) [] E0 (tCons ta (tCons tb (tCons tc tNil)))) s (rowD (addR p a b)) :=
  ed_call (as := [rowD a, rowD b, .int p]) (eda_cons h1 (eda_cons h2 (eda_cons h3 eda_nil))) fun Po q => ⟨a, b, p, rfl, hp, hz, q _⟩
theorem ex__law_all : DefOk P w N_law_all (t__law_all P w K) f__law_all := by
  intro as n Po ⟨k, g, e, kg, h⟩
  subst e
  have p2 := kg.ok1.p0
  have p5 := kg.ok1.p5
  have k0 := kg.ok1.m0
  have k3 := kg.ok1.m3
  have g0 := kg.ok2.m0
  have g3 := kg.ok2.m3
  have n7 := kg.ok1.n7
  have ez : ∀ (s : DS) (m : Int) (te : TE), 0 ≤ m → m ≤ 3 → ED P w te s (.int m) → ED P w (tOp (rRepA K) (tTup (tCons (tC (.int 0)) tNil)) te) s (rowD (zeroR m)) := fun s m te m0 m3 h =>
    (ed_op (ed_tup1 ed_int) h (rd_rep m0 (by omega))).is (by unfold zeroR rowD; rw [List.map_replicate])
  refine ex_seq (ex_par (by show 2 < 11; decide) (by show 3 < 11; decide) ((ed_kp .h (ed_var rfl)).to ((ed_of_new (edn_lst (ds := [lawRow ([], zeroR g.many, zeroR k.many)]) (eda_cons (ed_tup3 ed_tupX0 (ez _ g.many _ g0 g3 (ed_kmany .h (ed_var rfl))) (ez _ k.many _ k0 k3 (ed_kmany .h (ed_var rfl)))) eda_nil) (by show 1 ≤ 1000; decide))).to ⟨rfl, ?_⟩)))
  refine ex_then (J := fun s' => s' = aS k g (.lst ((restTo k g k.cols.length).map lawRow)) none none none none none none n)
    (ex_for (evi_zipT ((ed_op (ed_var rfl) ed_int (rd_ixT rfl)).to ((ed_op (ed_var rfl) ed_int (rd_ixT rfl)).to ⟨k.cols.map rowD, g.cols.map rowD, rfl, rfl, fun i s' => s' = aS k g (.lst ((restTo k g i).map lawRow)) none none none none none none n, rfl, fun i s2 d hd e2 => ?_, fun s2 e2 => ?_⟩)))) ?_
  · subst e2
    obtain ⟨x, y, hx, hy, rfl⟩ := zipD_get hd
    obtain ⟨far, hfar, rfl⟩ := get_map hx
    obtain ⟨near, hnear, rfl⟩ := get_map hy
    have hi : i < k.cols.length := (List.getElem?_eq_some_iff.mp hfar).1
    have J0 := jt kg i (by omega)
    have lf : far.length = k.many.toNat := kg.ok1.len _ (List.mem_of_getElem? hfar)
    have ln : near.length = g.many.toNat := kg.ok2.len _ (List.mem_of_getElem? hnear)
    have rs := rest_small kg (i := i) (by omega)
    refine ⟨_, _, ga_tup2 (by show 4 < 11; decide) (by show 5 < 11; decide), ex_unkN (is := [4, 5, 6]) ?_⟩
    refine ex_seq (ex_setOwn (evn_lst (eva_nil ⟨[], rfl, by decide, by show 6 < 11; decide, ?_⟩)))
    refine ex_then (J := fun s' => s' = aS k g (.lst ((restTo k g i).map lawRow)) (some (.val (rowD far))) (some (.val (rowD near))) (some (.own ((lawStep k.p near far (restTo k g i)).map lawRow))) none none none n)
      (ex_for (evi_list ((ed_var (d := .lst ((restTo k g i).map lawRow)) rfl).to ⟨_, rfl, fun j s' => s' = aS k g (.lst ((restTo k g i).map lawRow)) (some (.val (rowD far))) (some (.val (rowD near))) (some (.own ((lawStep k.p near far ((restTo k g i).take j)).map lawRow))) none none none n, rfl, fun j s2 d hd e2 => ?_, fun s2 e2 => ?_⟩))) ?_
    · subst e2
      obtain ⟨r, hr, rfl⟩ := get_map hd
      have hm := List.mem_of_getElem? hr
      have hj : j < (restTo k g i).length := (List.getElem?_eq_some_iff.mp hr).1
      obtain ⟨l1, l2⟩ := J0.ln r hm
      have l3 := rest_deep kg i (by omega) r hm
      have h1 : r.2.1.length = near.length := by rw [l1, ln]
      have h2 : r.2.2.length = far.length := by rw [l2, lf]
      have pre : (lawStep k.p near far ((restTo k g i).take j)).length ≤ 5000 := by
        rw [lawStep_len]
        have a : ((restTo k g i).take j).length ≤ 1000 := by rw [List.length_take]; omega
        have b : k.p.toNat ≤ 5 := by omega
        exact Nat.mul_le_mul a b
      have est : lawStep k.p near far ((restTo k g i).take (j + 1)) = lawStep k.p near far ((restTo k g i).take j) ++ (List.range k.p.toNat).map fun d : Nat => (r.1 ++ [(d : Int)], atDig k.p r.2.1 near d, atDig k.p r.2.2 far d) := by
        rw [take_snoc hr, lawStep_snoc]
        have e := rowsBy_eq (p := k.p) (rests := r.1) h1 h2 k.p.toNat 0
        have e' : rowsBy k.p near far k.p.toNat r.1 r.2.1 r.2.2 0 = _ := e
        rw [e']
        congr 1
        refine List.map_congr_left fun d _ => ?_
        rw [Nat.zero_add]
      generalize hpre : lawStep k.p near far ((restTo k g i).take j) = prefx at *
      refine ⟨_, _, ga_tup3 (by show 7 < 11; decide) (by show 8 < 11; decide) (by show 9 < 11; decide), ex_unkN (is := [7, 8, 9, 10]) ?_⟩
      refine ex_for (evi_rng1 ((ed_var (d := .int k.p) rfl).to ⟨k.p, rfl, by omega, by omega, fun d s' => s' = aS k g (.lst ((restTo k g i).map lawRow)) (some (.val (rowD far))) (some (.val (rowD near))) (some (.own ((prefx ++ (List.range d).map fun d : Nat => (r.1 ++ [(d : Int)], atDig k.p r.2.1 near d, atDig k.p r.2.2 far d)).map lawRow))) (some (.val (.rst r.1))) (some (.val (rowD (atDig k.p r.2.1 near d)))) (some (.val (rowD (atDig k.p r.2.2 far d)))) n, ?_, fun d s3 dd hd3 e3 => ?_, fun s3 e3 => ?_⟩))
      · refine congrArg (fun o : List Rest => aS k g (.lst ((restTo k g i).map lawRow)) (some (.val (rowD far))) (some (.val (rowD near))) (some (.own (o.map lawRow))) (some (.val (.rst r.1))) (some (.val (rowD r.2.1))) (some (.val (rowD r.2.2))) n) ?_
        rw [List.range_zero, List.map_nil, List.append_nil]
      · subst e3
        obtain ⟨hd4, rfl⟩ := rng_get hd3
        rw [Int.zero_add]
        refine ⟨_, _, ga_name (by show 10 < 11; decide), ex_unkN (is := [10]) ?_⟩
        refine ex_seq (ex_app (i := 6) (ds0 := ((prefx ++ (List.range d).map fun d : Nat => (r.1 ++ [(d : Int)], atDig k.p r.2.1 near d, atDig k.p r.2.2 far d)).map lawRow)) rfl ((ed_tup3 (ed_op (ed_var (d := .rst r.1) rfl) (ed_tupX1 (ed_var rfl)) (rd_catX (fun z => (nomatch z)) (by rw [l3]; show i + 1 ≤ 100000; omega))) (ed_var rfl) (ed_var rfl)).to ⟨_, rfl, ?_, ?_⟩))
        · rw [List.length_map, List.length_append, List.length_map, List.length_range]
          omega
        · refine ex_par (by show 8 < 11; decide) (by show 9 < 11; decide) ((call_plus (a := atDig k.p r.2.1 near d) (b := near) (by omega) (by rw [atDig_len h1, ln]; omega) (ed_var rfl) (ed_var rfl) (ed_var rfl)).to ((call_plus (a := atDig k.p r.2.2 far d) (b := far) (by omega) (by rw [atDig_len h2, lf]; omega) (ed_var rfl) (ed_var rfl) (ed_var rfl)).to ⟨rfl, ?_⟩))
          rw [atDig_succ h1, atDig_succ h2]
          refine congrArg (fun o => aS k g (.lst ((restTo k g i).map lawRow)) (some (.val (rowD far))) (some (.val (rowD near))) (some (.own o)) (some (.val (.rst r.1))) (some (.val (rowD (atDig k.p r.2.1 near (d + 1))))) (some (.val (rowD (atDig k.p r.2.2 far (d + 1))))) n) ?_
          rw [List.range_succ, List.map_append, List.map_append, List.map_append, List.map_append, List.append_assoc]
          rfl
      · subst e3
        rw [rng_len]
        refine congrArg (fun o : List Rest => aS k g (.lst ((restTo k g i).map lawRow)) (some (.val (rowD far))) (some (.val (rowD near))) (some (.own (o.map lawRow))) none none none n) ?_
        exact est.symm
    · subst e2
      rw [List.length_map, List.take_length]
    · intro s' e2
      subst e2
      refine ex_set (by show 3 < 11; decide) (ev_frz (i := 6) (ds := (lawStep k.p near far (restTo k g i)).map lawRow) rfl ⟨rfl, ?_⟩)
      exact congrArg (fun o : List Rest => aS k g (.lst (o.map lawRow)) none none none none none none n) (rest_succ hfar hnear).symm
  · subst e2
    have el : (zipD (k.cols.map rowD) (g.cols.map rowD)).length = k.cols.length := by rw [zipD_len, List.length_map, List.length_map, ← kg.nn]; omega
    rw [el]
  · intro s' e2
    subst e2
    refine ex_ret ((ed_var rfl).to ?_)
    rw [rest_all kg]
    exact h
end
end DK

/-! ## X14 -/
namespace DK
open PySem PySem.Spec PyProof.Rows L2
/-! # The law's own body -/
section
variable {P : Program} {w : World} {K : PySem.W.Frag} {s : DS} {te ta tb tc tk : TE} {ts tu : TS} {N C J : DS → Prop} {R : Dt → DS → Prop} {i j : Nat}
def rS (k g : Ky) (x3 x4 x5 x6 x7 x8 x9 x10 : Option Sl) (n : Nat) : DS := ⟨[some .tin, some (.val (hardD k)), some (.val (hardD g)), x3, x4, x5, x6, x7, x8, x9, x10, none, none, none], n⟩
def fB (q : Rest) : Bool := !(q.2.1.any fun x => x != 0) && (q.2.2.any fun x => x != 0)
theorem fB_iff {k g : Ky} (kg : KG k g) {q : Rest} (hq : q ∈ lawAll k g) : fB q = true ↔ isF k g q := by
  rw [← rest_all kg] at hq
  obtain ⟨l1, l2⟩ := (jt kg _ (Nat.le_refl _)).ln q hq
  unfold fB isF
  rw [any_zeroR l1, any_zeroR l2, Bool.not_not, Bool.and_eq_true, decide_eq_true_eq, Bool.not_eq_true', decide_eq_false_iff_not]
def fl (k g : Ky) : List Rest := (lawAll k g).filter fB
def heardD (k g : Ky) : Dt := match fewestFalse k g with | none => .lst [.str "no paper", .bl true] | some f => fgD f
theorem fl_none {k g : Ky} (kg : KG k g) (h : fewestFalse k g = none) : fl k g = [] := by
  unfold fl
  rw [List.filter_eq_nil_iff]
  exact fun q hq hf => best_none kg h q hq ((fB_iff kg hq).mp hf)
theorem fl_small {k g : Ky} (kg : KG k g) : (lawAll k g).length ≤ 1000 := by
  rw [← rest_all kg]
  exact rest_small kg (Nat.le_refl _)
theorem ed_same {d : Dt} (hp : PlD 4 d) (h1 : ED P w ta s d) (h2 : ED P w tb s d) : EDT P w (tNot (tB (tCall (spT P w f__law_same) [] E0 (tCons ta (tCons tb tNil))))) s false := edt_not (a := true) (edt_B (call_same hp h1 h2))
def gotD (k g : Ky) (mo : Int) : Dt := .lst [leastD k g, (match fewestFalse k g with | none => .non | some f => .int (((f.length : Int) - 1) / 2)), (match fewestFalse k g with | none => .non | some f => .int ((f.length : Int) - 1)), .bl (match fewestFalse k g with | none => true | some f => decide (2 * mo < f.length))]
theorem gotD_pl (k g : Ky) (mo : Int) : PlD 4 (gotD k g mo) := by
  refine .inr ⟨_, .inl rfl, by show 4 ≤ 1000; decide, fun e he => .inl ?_⟩
  unfold leastD at he
  simp only [List.mem_cons, List.not_mem_nil, or_false] at he
  rcases he with rfl | rfl | rfl | rfl
  · cases fewestFalse k g <;> rfl
  · cases fewestFalse k g <;> rfl
  · cases fewestFalse k g <;> rfl
  · rfl
theorem rows_pl (a b : Row) (ha : a.length ≤ 1000) (hb : b.length ≤ 1000) : PlD 4 (.tup [rowD a, rowD b]) := by
  have r : ∀ c : Row, c.length ≤ 1000 → PlD 3 (rowD c) := fun c hc => .inr ⟨_, .inr rfl, by rw [List.length_map]; exact hc, fun e he => by
    obtain ⟨x, _, rfl⟩ := List.mem_map.mp he
    exact .inl rfl⟩
  refine .inr ⟨_, .inr rfl, by show 2 ≤ 1000; decide, fun e he => ?_⟩
  rcases two_mem he with rfl | rfl
  · exact r a ha
  · exact r b hb
theorem isFalse_best {k g : Ky} {f : Fg} (h : BestOk k g f) : isFalseB k g f.length true f = true := by
  unfold isFalseB isFB
  rw [h.forg, decide_eq_true (Int.le_refl _), decide_eq_true h.g0, decide_eq_false h.k1]
  rfl
theorem call_is_false {k g : Ky} {m : Int} {t : Bool} {f : Fg} (kg : KG k g) (hz : f.length ≤ 50) {i1 i2 i3 i4 : Nat} (h1 : s.ε[i1]? = some (some (.val (hardD k)))) (h2 : s.ε[i2]? = some (some (.val (hardD g)))) (h3 : s.ε[i3]? = some (some (.val (.int m)))) (h4 : s.ε[i4]? = some (some (.val (fgX t f)))) :
    ED P w (tCall (spT P w f__law_is_false) [] E0 (tCons (tVar i1) (tCons (tVar i2) (tCons (tVar i3) (tCons (tVar i4) tNil))))) s (.bl (isFalseB k g m t f)) :=
  ed_call (as := [hardD k, hardD g, .int m, fgX t f]) (eda_cons (ed_var h1) (eda_cons (ed_var h2) (eda_cons (ed_var h3) (eda_cons (ed_var h4) eda_nil)))) fun Po q => ⟨k, g, m, t, f, rfl, kg, hz, q _⟩
theorem call_is_false_forging {k g : Ky} {m : Int} {t : Bool} {f : Fg} (kg : KG k g) (hz : f.length ≤ 50) {i1 i2 i3 i4 : Nat} (h1 : s.ε[i1]? = some (some (.val (hardD k)))) (h2 : s.ε[i2]? = some (some (.val (hardD g)))) (h3 : s.ε[i3]? = some (some (.val (.int m)))) (h4 : s.ε[i4]? = some (some (.val (fgX t f)))) :
    ED P w (tCall (spT P w f_is_false_forging) [] E0 (tCons (tVar i1) (tCons (tVar i2) (tCons (tVar i3) (tCons (tVar i4) tNil))))) s (.bl (isFalseB k g m t f)) :=
  ed_call (as := [hardD k, hardD g, .int m, fgX t f]) (eda_cons (ed_var h1) (eda_cons (ed_var h2) (eda_cons (ed_var h3) (eda_cons (ed_var h4) eda_nil)))) fun Po q => ⟨k, g, m, t, f, rfl, kg, by omega, q _⟩
theorem ex__law_right : DefOk P w N_law_right (t__law_right P w K) f__law_right := by
  intro as n Po ⟨e, hn, h⟩
  subst e
  have hN : n + 500000 ≤ 1000000 := hn
  refine ex_moreN (m := n + 500000) ?_
  refine ex_seq (ex_asg (ev_callT (eva_tin rfl (eva_nil ⟨rfl, by show n + 100000 ≤ 1000000; omega, fun k g kg hcol => ⟨_, _, ga_tup2 (by show 1 < 14; decide) (by show 2 < 14; decide), ?_⟩⟩))))
  have k0 := kg.ok1.m0
  have k3 := kg.ok1.m3
  have g0 := kg.ok2.m0
  have g3 := kg.ok2.m3
  have n7 := kg.ok1.n7
  have hsm := fl_small kg
  generalize hn1 : n + 100000 = n1
  have hn1' : n1 + 400000 ≤ 1000000 := by omega
  -- the false rests
  refine ex_then (J := fun s' => s' = rS k g (some (.val (.lst ((fl k g).map fun q => Dt.rst q.1)))) none none none none none none none n1) ?_ ?_
  · refine ex_set (by show 3 < 14; decide) (ev_of_new (evn_lc (evi_list ((ed_call (as := [hardD k, hardD g]) (d := .lst ((lawAll k g).map lawRow)) (eda_cons (ed_var rfl) (eda_cons (ed_var rfl) eda_nil)) fun Po q => ⟨k, g, rfl, kg, q _⟩).to
      ⟨_, rfl, by intro i hi; rw [one_mem hi]; rfl, by rw [List.length_map]; omega, fun j acc n' => acc = (((lawAll k g).take j).filter fB).map (fun q => Dt.rst q.1) ∧ n' = n1, ⟨rfl, rfl⟩, fun j acc n' d hd ⟨e1, e2⟩ => ?_, fun acc n' ⟨e1, e2⟩ => ⟨rfl, ?_⟩⟩))))
    · obtain ⟨q, hq, rfl⟩ := get_map hd
      subst e2
      have et : EDT P w (tAnd (tNot (tB (tCB (rAnyI K) (tCons (tOp (rIx K) (tVar 11) (tC (.int 1))) tNil)))) (tB (tCB (rAnyI K) (tCons (tOp (rIx K) (tVar 11) (tC (.int 2))) tNil)))) ((rS k g none none none none none none none none n').put 11 (.val (lawRow q))) (fB q) :=
        edt_and (edt_not (edt_B (ed_cb1 (ed_op (ed_var (d := lawRow q) rfl) ed_int (rd_ixT rfl)) rc_anyI))) fun _ => edt_B (ed_cb1 (ed_op (ed_var (d := lawRow q) rfl) ed_int (rd_ixT rfl)) rc_anyI)
      refine ⟨_, _, ga_name (by show 11 < 14; decide), fun j hj => hj, et.to ⟨rfl, ?_⟩⟩
      have est : (((lawAll k g).take (j + 1)).filter fB).map (fun q => Dt.rst q.1) = acc ++ (if fB q = true then [Dt.rst q.1] else []) := by
        rw [take_snoc hq, List.filter_append, List.map_append, e1, List.filter_cons]
        split <;> rfl
      cases hf : fB q with
      | true =>
        rw [if_pos rfl]
        rw [hf, if_pos rfl] at est
        exact (ed_op (ed_var (d := lawRow q) rfl) ed_int (rd_ixT (d := .rst q.1) rfl)).to ⟨rfl, est.symm, rfl⟩
      | false =>
        rw [if_neg (by decide)]
        rw [hf, if_neg (by decide), List.append_nil] at est
        exact ⟨est.symm, rfl⟩
    · rw [List.length_map, List.take_length] at e1
      rw [e1, e2]
      rfl
  intro s' e2
  subst e2
  have hfl : (fl k g).length ≤ 1000 := Nat.le_trans (List.length_filter_le _ _) hsm
  -- their sizes
  refine ex_seq (ex_setD (by show 4 < 14; decide) (d := .lst (((fl k g).map fun q => ((sz q.1 : Nat) : Int)).map Dt.int)) (ed_of_new (edn_map2 (ys := ((fl k g).map fun q => ((sz q.1 : Nat) : Int)).map Dt.int) (by intro i hi; rw [one_mem hi]; rfl) (xs := (fl k g).map fun q => Dt.rst q.1) (by rw [List.length_map]; omega) (by rw [List.length_map, List.length_map, List.length_map]) (evi_listD (ed_var rfl)) fun i d hd => ?_)) ?_)
  · obtain ⟨q, hq, rfl⟩ := get_map hd
    have hm : q ∈ lawAll k g := (List.mem_filter.mp (List.mem_of_getElem? hq)).1
    have hl : q.1.length = k.cols.length := by
      rw [← rest_all kg] at hm
      exact rest_deep kg _ (Nat.le_refl _) q hm
    refine ⟨_, _, _, map_get (map_get hq), ga_name (by show 11 < 14; decide), fun j hj => hj, ?_⟩
    refine (ed_op (ed_cb1 (ed_var (d := .rst q.1) rfl) (rc_lenX (by omega))) (ed_cntX (ed_var (d := .rst q.1) rfl) ed_int) rd_sub).is ?_
    rw [sz_len]
  -- the least
  have le5 : EX P w (tAsg (tIf (tTest (tOp (rNeD K) (tVar 4) (tLst tNil))) (tCB (rMin K) (tCons (tVar 4) tNil)) (tC .non)) (gName 5)) (rS k g (some (.val (.lst ((fl k g).map fun q => Dt.rst q.1)))) (some (.val (.lst (((fl k g).map fun q => ((sz q.1 : Nat) : Int)).map Dt.int)))) none none none none none none n1)
      (fun s' => s' = rS k g (some (.val (.lst ((fl k g).map fun q => Dt.rst q.1)))) (some (.val (.lst (((fl k g).map fun q => ((sz q.1 : Nat) : Int)).map Dt.int)))) (some (.val (leastD k g))) none none none none none n1) (fun s' => s'.n ≤ n + 500000 ∧ False) fun d s' => s'.n ≤ n + 500000 ∧ Po d (n + 500000) := by
    have et := fun (s : DS) (hs : s.ε[4]? = some (some (.val (.lst (((fl k g).map fun q => ((sz q.1 : Nat) : Int)).map Dt.int))))) => edt_test (ed_op (ed_var hs) (ed_of_new (edn_lst (P := P) (w := w) (s := s) (ds := []) eda_nil (by decide))) (rd_neIl (P := P) (w := w) (K := K) (a := (fl k g).map fun q => ((sz q.1 : Nat) : Int)) (b := [])))
    unfold leastD
    cases hb : fewestFalse k g with
    | none =>
      have hf := fl_none kg hb
      refine ex_setD (by show 5 < 14; decide) (d := .non) (ed_if (et _ rfl) (fun z => ?_) fun _ => ed_non) rfl
      rw [hf] at z
      exact absurd z (by simp)
    | some f =>
      have B := best_some kg hb
      obtain ⟨q, hq, hF, hs⟩ := B.one
      have hqf : q ∈ fl k g := List.mem_filter.mpr ⟨hq, (fB_iff kg hq).mpr hF⟩
      refine ex_setD (by show 5 < 14; decide) (d := .int f.length) (ed_if (et _ rfl) (fun _ => ed_cb1 (ed_var rfl) (rc_minL (List.mem_map.mpr ⟨q, hqf, by rw [hs]⟩) fun y hy => ?_)) fun z => ?_) rfl
      · obtain ⟨r, hr, rfl⟩ := List.mem_map.mp hy
        have hr' := List.mem_filter.mp hr
        have := B.min r hr'.1 ((fB_iff kg hr'.1).mp hr'.2)
        omega
      · rw [Bool.not_eq_false', decide_eq_true_eq, List.map_eq_nil_iff] at z
        rw [z] at hqf
        cases hqf
  refine ex_then le5 fun s' e2 => ?_
  subst e2
  generalize hx3 : some (Sl.val (Dt.lst ((fl k g).map fun q => Dt.rst q.1))) = x3
  generalize hx4 : some (Sl.val (Dt.lst (((fl k g).map fun q => ((sz q.1 : Nat) : Int)).map Dt.int))) = x4
  -- soft keys, a drawn limit
  refine ex_seq (ex_par (by show 6 < 14; decide) (by show 7 < 14; decide) ((ed_tup2 (call_lists kg.ok1 (ed_var rfl)) (call_lists kg.ok2 (ed_var rfl))).to (ev_take rfl ed_int (by decide) (by decide) (by show n1 ≤ 1000000; omega) fun mo mo0 mo4 => ⟨rfl, ?_⟩)))
  have sk : ∀ (s : DS), s.ε[6]? = some (some (.val (.tup [softD k, softD g]))) → ED P w (tOp (rIx K) (tVar 6) (tC (.int 0))) s (softD k) := fun s hs => ed_op (ed_var hs) ed_int (rd_ixT rfl)
  have sg : ∀ (s : DS), s.ε[6]? = some (some (.val (.tup [softD k, softD g]))) → ED P w (tOp (rIx K) (tVar 6) (tC (.int 1))) s (softD g) := fun s hs => ed_op (ed_var hs) ed_int (rd_ixT rfl)
  refine ex_seq (ex_setD (by show 8 < 14; decide) (d := gotD k g mo) (ed_of_new (edn_lst (ds := [leastD k g, _, _, _]) (eda_cons (call_least .h .h kg (ed_var rfl) (ed_var rfl)) (eda_cons (call_mended (.inr rfl) .h kg (sk _ rfl) (ed_var rfl)) (eda_cons (call_told .h (.inr rfl) kg (ed_var rfl) (sg _ rfl)) (eda_cons
    (ed_call (as := [softD k, softD g, .int mo]) (eda_cons (sk _ rfl) (eda_cons (sg _ rfl) (eda_cons (ed_var rfl) eda_nil))) fun Po q => ⟨k, g, softD k, softD g, mo, rfl, .inr rfl, .inr rfl, kg, q _⟩) eda_nil)))) (by show 4 ≤ 1000; decide))) ?_)
  refine ex_seq (ex_setD (by show 9 < 14; decide) (d := .lst [.non, .non, .non, .bl true]) (ed_of_new (edn_lst (ds := [.non, .non, .non, .bl true]) (eda_cons ed_non (eda_cons ed_non (eda_cons ed_non (eda_cons ed_bl eda_nil)))) (by show 4 ≤ 1000; decide))) ?_)
  refine ex_then (J := fun s' => s' = rS k g x3 x4 (some (.val (leastD k g))) (some (.val (.tup [softD k, softD g]))) (some (.val (.int mo))) (some (.val (gotD k g mo))) (some (.val (gotD k g mo))) none (n1 + 1)) ?_ ?_
  · unfold gotD leastD
    cases hb : fewestFalse k g with
    | none => exact ex_ifD (b := false) (edt_test (ed_op (ed_var (d := .non) rfl) ed_non rd_notN)) (fun z => (nomatch z)) fun _ => ex_next rfl
    | some f =>
      refine ex_ifD (b := true) (edt_test (ed_op (ed_var (d := .int f.length) rfl) ed_non rd_notN)) (fun _ => ?_) fun z => (nomatch z)
      exact ex_setD (by show 9 < 14; decide) (d := .lst [.int f.length, .int (((f.length : Int) - 1) / 2), .int ((f.length : Int) - 1), .bl (decide (2 * mo < f.length))]) (ed_of_new (edn_lst (ds := [.int f.length, .int (((f.length : Int) - 1) / 2), .int ((f.length : Int) - 1), .bl (decide (2 * mo < f.length))]) (eda_cons (ed_var rfl) (eda_cons (ed_op (ed_op (ed_var rfl) ed_int rd_sub) ed_int (rd_fdiv ⟨by decide, by decide⟩)) (eda_cons (ed_op (ed_var rfl) ed_int rd_sub) (eda_cons
        (ed_op (ed_op ed_int (ed_var rfl) (rd_mul (.inl ⟨by decide, by decide⟩))) (ed_var rfl) rd_lt) eda_nil)))) (by show 4 ≤ 1000; decide))) rfl
  intro s' e2
  subst e2
  refine ex_seq (ex_ifD (b := false) (ed_same (gotD_pl k g mo) (ed_var rfl) (ed_var rfl)) (fun z => (nomatch z)) fun _ => ex_next ?_)
  refine ex_seq (ex_setD (by show 10 < 14; decide) (d := heardD k g) (ed_call (as := [softD k, hardD g]) (eda_cons (sk _ rfl) (eda_cons (ed_var rfl) eda_nil)) fun Po q => ⟨k, g, softD k, hardD g, rfl, .inr rfl, .h, kg, q _⟩) ?_)
  refine ex_then (J := fun s' => ∃ f0 : Fg, f0.length ≤ 50 ∧ s' = rS k g x3 x4 (some (.val (leastD k g))) (some (.val (.tup [softD k, softD g]))) (some (.val (.int mo))) (some (.val (gotD k g mo))) (some (.val (gotD k g mo))) (some (.val (fgX true f0))) (n1 + 1)) ?_ ?_
  · generalize hG : some (Sl.val (gotD k g mo)) = xg
    unfold heardD leastD
    cases hb : fewestFalse k g with
    | none =>
      refine ex_ifD (b := true) (edt_test (ed_isN (d := .non) (ed_var rfl))) (fun _ => ?_) fun z => (nomatch z)
      refine ex_seq (ex_ifD (b := false) (ed_same (d := .lst [.str "no paper", .bl true]) (.inr ⟨_, .inl rfl, by show 2 ≤ 1000; decide, fun e he => by
        rcases two_mem he with rfl | rfl
        · exact .inl rfl
        · exact .inl rfl⟩) (ed_var rfl) (ed_of_new (edn_lst (ds := [.str "no paper", .bl true]) (eda_cons ed_str (eda_cons ed_bl eda_nil)) (by show 2 ≤ 1000; decide)))) (fun z => (nomatch z)) fun _ => ex_next ?_)
      exact ex_setD (by show 10 < 14; decide) (d := fgX true []) ed_tup0 ⟨[], by decide, rfl⟩
    | some f =>
      have B := best_some kg hb
      refine ex_ifD (b := false) (edt_test (ed_isN (d := .int f.length) (ed_var rfl))) (fun z => (nomatch z)) fun _ => ?_
      refine ex_ifD (b := false) ?_ (fun z => (nomatch z)) fun _ => ex_next ⟨f, by have := B.len; omega, rfl⟩
      have hc : f.length ≤ 50 := by have := B.len; omega
      have e1 := call_is_false (P := P) (w := w) (s := rS k g x3 x4 (some (.val (.int f.length))) (some (.val (.tup [softD k, softD g]))) (some (.val (.int mo))) xg xg (some (.val (fgD f))) (n1 + 1)) (m := f.length) (t := true) kg hc (i1 := 1) (i2 := 2) (i3 := 5) (i4 := 10) rfl rfl rfl rfl
      rw [isFalse_best B] at e1
      exact edt_not (a := true) (edt_B e1)
  intro s' ⟨f0, hf0, e2⟩
  subst e2
  generalize some (Sl.val (gotD k g mo)) = xg
  generalize some (Sl.val (leastD k g)) = xl
  refine ex_then (J := fun s' => ∃ m, m ≤ n1 + 1 + 40000 + 5 ∧ s' = rS k g x3 x4 xl (some (.val (.tup [softD k, softD g]))) (some (.val (.int mo))) xg none (some (.val (fgX true f0))) m) ?_ ?_
  · refine ex_unk (is := [9]) (ex_for (evi_list (ev_op ((ed_of_new (edn_lst (ds := [fgX true f0]) (eda_cons (ed_var rfl) eda_nil) (by show 1 ≤ 1000; decide))).to (ev_of_new (evn_lc (evi_rng1 (ed_int.to ⟨4, rfl, by decide, by decide, by intro i hi; rw [one_mem hi]; rfl, by rw [rng_len]; decide,
      fun j acc n' => ∃ fs : List (Bool × Fg), acc = fs.map (fun q => fgX q.1 q.2) ∧ fs.length = j ∧ (∀ q ∈ fs, q.2.length ≤ 50) ∧ n' ≤ n1 + 1 + 10000 * j, ⟨[], rfl, rfl, fun q hq => (by cases hq), Nat.le_refl _⟩, fun j acc n' d hd ⟨fs, e1, e2, e3, e4⟩ => ?_, fun acc n' ⟨fs, e1, e2, e3, e4⟩ => ?_⟩))))))))
    · obtain ⟨hj, rfl⟩ := rng_get hd
      have hj4 : j < 4 := hj
      refine ⟨_, _, ga_name (by show 13 < 14; decide), fun j hj => hj, evt_yes ⟨rfl, ?_⟩⟩
      rw [if_pos rfl]
      refine ev_callT (eva_tin rfl (eva_cons ((ed_var rfl).to (eva_cons ((ed_var rfl).to (eva_nil ⟨k, f0, rfl, kg.ok1, hf0, by show n' + 10000 ≤ 1000000; omega, fun t f' hf' => ⟨rfl, fs ++ [(t, f')], by rw [e1, List.map_append]; rfl, by rw [List.length_append, e2]; rfl, fun q hq => ?_, by show n' + 10000 ≤ _; omega⟩⟩))))))
      rcases List.mem_append.mp hq with hq | hq
      · exact e3 q hq
      · rw [List.mem_singleton.mp hq]; exact hf'
    · rw [rng_len] at e2 e4
      have h4 : (Int.toNat 4) = 4 := rfl
      rw [h4] at e2 e4
      refine ⟨.lst ([fgX true f0] ++ acc), rd_catL (by rw [e1, List.length_map]; show 1 + fs.length ≤ 100000; omega), _, rfl, fun i s' => ∃ m, m ≤ n1 + 1 + 40000 + i ∧ s' = rS k g x3 x4 xl (some (.val (.tup [softD k, softD g]))) (some (.val (.int mo))) xg none (some (.val (fgX true f0))) m, ⟨n', by omega, rfl⟩, fun i s2 d hd ⟨m, hm, e5⟩ => ?_, fun s2 ⟨m, hm, e5⟩ => ⟨m, ?_, e5⟩⟩
      · subst e5
        have hlen : ([fgX true f0] ++ acc).length = 5 := by rw [e1, List.length_append, List.length_map, e2]; rfl
        have hi5 : i < 5 := by
          have := (List.getElem?_eq_some_iff.mp hd).1
          omega
        have hd2 : ∃ t f, d = fgX t f ∧ f.length ≤ 50 := by
          have hm := List.mem_of_getElem? hd
          rcases List.mem_append.mp hm with hm | hm
          · rw [List.mem_singleton.mp hm]; exact ⟨true, f0, rfl, hf0⟩
          · rw [e1] at hm
            obtain ⟨q, hq, rfl⟩ := List.mem_map.mp hm
            exact ⟨q.1, q.2, rfl, e3 q hq⟩
        obtain ⟨t, f, rfl, hf⟩ := hd2
        refine ⟨_, _, ga_name (by show 11 < 14; decide), ex_unkN (is := [9, 11, 12]) ?_⟩
        refine ex_seq (ex_set (by show 12 < 14; decide) (ev_cb (eva_cons (ed_int.to (eva_cons (ev_op ((fgX_len (t := t) (f := f) (ed_var rfl)).to (ev_of rfl ((ed_ints (ns := [0, 0, 1]) (eda_cons ed_int (eda_cons ed_int (eda_cons ed_int eda_nil))) (by decide)).to ⟨_, rfl, fun z => (nomatch z), by decide, by show m ≤ 1000000; omega, fun x hx => ?_⟩)))))))))
        obtain ⟨o, ho, rfl⟩ := List.mem_map.mp hx
        refine ⟨_, rd_sub, eva_nil ⟨[.int 0, .int ((f.length : Int) - o)], _, rfl, rc_max2, rfl, ?_⟩⟩
        generalize (if ((f.length : Int) - o) > 0 then ((f.length : Int) - o) else 0) = lim
        refine ex_seq (ex_setD (by show 9 < 14; decide) (call_is_false (m := lim) (t := t) (f := f) kg hf (i1 := 1) (i2 := 2) (i3 := 12) (i4 := 11) rfl rfl rfl rfl) ?_)
        refine ex_seq (ex_ifD (b := false) (ed_same (d := .bl (isFalseB k g lim t f)) (.inl rfl) (call_is_false_forging (m := lim) (t := t) (f := f) kg hf (i1 := 1) (i2 := 2) (i3 := 12) (i4 := 11) rfl rfl rfl rfl) (ed_var rfl)) (fun z => (nomatch z)) fun _ => ex_next ?_)
        refine ex_seq (ex_ifD (edt_not (edt_B (ed_call (as := [hardD k, fgX t f]) (d := .bl (isFB t k f)) (eda_cons (ed_var rfl) (eda_cons (ed_var rfl) eda_nil)) fun Po q => ⟨k, t, f, rfl, hf, q _⟩))) (fun _ => ex_cont ⟨m + 1, by omega, rfl⟩) fun z => ex_next ?_)
        rw [Bool.not_eq_false'] at z
        obtain ⟨et, hfg⟩ := isFB_yes z
        subst et
        have hfg2 : isForg g f = true := by rw [isForg_kg kg]; exact hfg
        have lk : (addedUp k f).length ≤ 1000 := by rw [addedUp_len kg.ok1 fun q hq => let ⟨a, b, _⟩ := isForg_at hfg hq; ⟨a, b⟩]; omega
        have lg : (addedUp g f).length ≤ 1000 := by rw [addedUp_len kg.ok2 fun q hq => let ⟨a, b, _⟩ := isForg_at hfg2 hq; ⟨a, b⟩]; omega
        refine ex_seq (ex_setD (by show 9 < 14; decide) (d := .tup [rowD (addedUp g f), rowD (addedUp k f)]) (ed_tup2 (ed_call (as := [hardD g, fgX true f]) (eda_cons (ed_var rfl) (eda_cons (ed_var rfl) eda_nil)) fun Po q => ⟨g, f, rfl, kg.ok2, hfg2, hf, q _⟩) (ed_call (as := [hardD k, fgX true f]) (eda_cons (ed_var rfl) (eda_cons (ed_var rfl) eda_nil)) fun Po q => ⟨k, f, rfl, kg.ok1, hfg, hf, q _⟩)) ?_)
        refine ex_ifD (b := false) (ed_same (rows_pl _ _ lg lk) (ed_call (as := [softD k, hardD g, fgX false f]) (eda_cons (sk _ rfl) (eda_cons (ed_var rfl) (eda_cons (ed_of_new (evn_list ((ed_var (d := fgX true f) rfl).to ⟨pairsD f, .inl rfl, rfl, rfl⟩))) eda_nil))) fun Po q => ⟨k, g, false, f, softD k, hardD g, rfl, .inr rfl, .h, kg, hfg, by omega, q _⟩) (ed_var rfl)) (fun z => (nomatch z)) fun _ => ex_next ⟨m + 1, by omega, rfl⟩
      · have hlen : ([fgX true f0] ++ acc).length = 5 := by rw [e1, List.length_append, List.length_map, e2]; rfl
        rw [hlen] at hm
        exact hm
  · intro s' ⟨m, hm, e2⟩
    subst e2
    exact ex_ret (ed_bl.to ⟨by show m ≤ n + 500000; omega, h⟩)
end
end DK

/-! ## Y1 -/
namespace DK
open PySem PySem.Spec PyProof.Rows L2
/-! # The raise and the try; the box, the cells, the law -/
section
variable {X : Cx} {C : Addr} {bmB : List Value} {B newId initId : String}
/-- X() -/
theorem pmk_own0 {x : Str} {p pos : Pos} (F : ExcBaseFacts B newId initId bmB) (q : PySem.W.excIn X.K C bmB newId = true) (gC : X.mg x = some (.ref C)) (kC : PySem.W.keepIn X.K (.ref C) = true) (r : Raises X (.ref C)) (hg : Gl X x)
    (hdb : (x == ("__debug__" : Str)) = false := by decide) : PMk X (.Call (.Name x p) [] [] pos) (fun _ H Q => Q (.ref C) none H) := by
  intro pins s σ H Q I h
  refine wpAny_Call_Name_kw (ld_glob I hg gC ?_ hdb)
  refine PySem.W.callWith_K0 I.kIn kC ?_
  show wpAny _ _ (call (.ref C) []) _ _ _
  obtain ⟨bm, N, nm, qn, bs, hdct, sn, sub, ab, col, dd, k0, k1, k2, k3, k5, mN, hC, hN, hni, T⟩ := exc_obj I.kIn q
  refine wpAny_call_exc_subT F T hC hN hni (fun h' e hm => ?_) (by show 0 ≤ sizeLine; exact Nat.zero_le _)
  exact mk_of I hm r h (I.hok.gone hm.new)
end
/-- what is known of the class NoPaper -/
structure NpC (K : PySem.W.Frag) (mg : Str → Option Value) (CP : Addr) : Prop where
  g : mg "NoPaper" = some (.ref CP)
  x : PySem.W.excIn K CP He.veBase "ValueError.__new__" = true
  k : PySem.W.keepIn K (.ref CP) = true
  b : PySem.W.subIn K (.ref CP) (.type "BaseException") = some true
  t : PySem.W.typeIn K (.ref CP) = some (.type "type")
  m : PySem.W.exmOne K (.ref CP) (.ref CP) = some true
  e : ExcC K CP
  v : PySem.W.kitOne K (.ref CP) (.type "ValueError") = some true
section
variable {P : Program} {w : World} {K : PySem.W.Frag} {mg : Str → Option Value} {base : Heap}
/-- false_forging: a forging, or NoPaper -/
def spFF (P : Program) (w : World) (CP : Addr) : Sp := fun vs H Q E => ∃ (B : Hp) (k g : Ky) (dk dg : Dt), Same B H ∧ SdA P w B vs [dk, dg] ∧ IsKey dk k ∧ IsKey dg g ∧ KG k g ∧
  (∀ f, fewestFalse k g = some f → ∀ v B' H', Gw none B H B' H' → Sd P w B' v (fgD f) → Q v H') ∧ (fewestFalse k g = none → ∀ B' H', Gw none B H B' H' → E (.ref CP) none H')
def Nff : List Str := ["key", "guard", "best"]
def t_ff (P : Program) (w : World) (CP : Addr) (E : XK) : TS := tSeq (tAsg (tCall (spT P w f_fewest_false) [] E0 (tCons (tCall (spT P w f_tupled) [] E0 (tCons (tVar 0) tNil)) (tCons (tCall (spT P w f_tupled) [] E0 (tCons (tVar 1) tNil)) tNil))) (gName 2))
  (tSeq (tIfS (tTest (tOp rIsNn (tVar 2) (tC .non))) (fun _ _ H => E (.ref CP) none H) tNext) (tRet (tVar 2)))
theorem go_ff {CP : Addr} (vs : List V) (H : Hp) (Q : VK) (E : XK) (h : spFF P w CP vs H Q E) : t_ff P w CP E { nx := fun _ H' => Q .non H', rt := Q } (L2.start Nff vs) H := by
  obtain ⟨B, k, g, dk, dg, e, D, hk, hg, kg, hs, hn⟩ := h
  have hl : vs.length = 2 := D.length
  have S := slots_ok (P := P) (w := w) (t := none) (n := 0) (m := 1) e (fun _ z => (nomatch z)) (fun _ z => (nomatch z)) (sd_agA (A := ⟨none, B, H⟩) D)
  have es : L2.start Nff vs = vs.map some ++ List.replicate 1 none := by unfold L2.start; rw [hl]; rfl
  rw [es]
  have c1 : ED P w (tCall (spT P w f_fewest_false) [] E0 (tCons (tCall (spT P w f_tupled) [] E0 (tCons (tVar 0) tNil)) (tCons (tCall (spT P w f_tupled) [] E0 (tCons (tVar 1) tNil)) tNil))) ⟨[.v dk, .v dg].map slotOf ++ List.replicate 1 none, 0⟩ (optD (fewestFalse k g)) :=
    ed_call (as := [hardD k, hardD g]) (eda_cons (call_tupled hk kg.ok1 (ed_var rfl)) (eda_cons (call_tupled hg kg.ok2 (ed_var rfl)) eda_nil)) fun Po q => ⟨k, g, rfl, kg, q _⟩
  refine c1 ⟨none, B, H⟩ B H _ S _ fun v B1 H1 d s1 S1 M1 D1 ⟨e1, e2⟩ => ?_
  subst e1
  have hv : ((vs.map some ++ List.replicate 1 none).set 2 (some v))[2]? = some (some v) := by
    rw [List.getElem?_set, if_pos rfl, if_pos (by rw [List.length_append, List.length_map, hl]; decide)]
  cases hb : fewestFalse k g with
  | none =>
    rw [hb] at D1
    cases D1
    exact ⟨_, hv, ⟨rfl, true, rfl, iteT (hn hb B1 H1 S1.gw)⟩⟩
  | some f =>
    rw [hb] at D1
    have nn : v ≠ .non := fun z => by
      subst z
      cases D1
    exact ⟨_, hv, ⟨rfl, false, by rw [decide_eq_false nn], iteF ⟨_, hv, hs f hb v B1 H1 S1.gw D1⟩⟩⟩
/-! ### the try -/
def tsH (K : PySem.W.Frag) (CP : Addr) (a : Addr) (cls : Value) (d : Option Addr) : TS := fun D σ H => (cls = .ref CP ∧ d = none) ∧ tRet (tLst (tCons (tC (.str "no paper")) (tCons (tCB (rIsE K CP a) (tCons (tVar 2) (tCons (tC (.ty "ValueError")) tNil))) tNil))) D σ H
theorem pss_when {X : Cx} {st : List Stmt} {t : TS} {p : Prop} (h : p → PSs X st t) : PSs X st (fun D σ H => p ∧ t D σ H) := ⟨fun pins s σ H D I q => (h q.1).run pins s σ H D I q.2⟩
def N_law_heard : List Str := ["_law_key_so", "_law_guard_so", "slip"]
def t__law_heard (P : Program) (w : World) (K : PySem.W.Frag) (CP : Addr) : TS := fun D σ H => tRet (tCallS (spFF P w CP) (WE (wAs K (.ref CP) 2 (tsH K CP) (fun _ _ _ _ => False) D)) (tCons (tVar 0) (tCons (tVar 1) tNil))) D σ H
theorem ex__law_heard {CP : Addr} (np : NpC K mg CP) : DefOk P w N_law_heard (t__law_heard P w K CP) f__law_heard := by
  intro as n Po ⟨k, g, dk, dg, e, hk, hg, kg, h⟩
  subst e
  intro A B H σ S D _ _ r
  obtain ⟨v0, e0, D0⟩ := S.slot 0 _ rfl
  obtain ⟨v1, e1, D1⟩ := S.slot 1 _ rfl
  have hlen : σ.length = 3 := S.len.symm
  refine ⟨v0, e0, v1, e1, B, k, g, dk, dg, S.bh, .cons D0 (.cons D1 .nil), hk, hg, kg, fun f hf v B' H' gw Dv => ?_, fun hn B' H' gw => ?_⟩
  · rw [hf] at h
    exact r v B' H' (fgD f) σ _ (S.grow gw) Dv h
  · rw [hn] at h
    refine ⟨true, np.m, fun _ a ha => ⟨⟨rfl, rfl⟩, ?_⟩, fun z => (nomatch z)⟩
    refine ⟨.ref a, by rw [List.getElem?_set, if_pos rfl, if_pos (by rw [hlen]; decide)], .ty "ValueError", .type "ValueError", true, rfl, fun u hu => hu, np.v, ?_⟩
    refine ⟨by show 2 ≤ sizeLine; decide, fun p hp => ?_⟩
    have g2 := gw_new (o := .lst [.str "no paper", .bl true]) gw.2.1 hp
    exact r (.ref p) _ _ (.lst [.str "no paper", .bl true]) σ _ ((S.grow gw).grow g2) (.lst upd_same (.cons (.str _) (.cons (.bl _) .nil))) h
/-! ### the cells, the box -/
def spCells (P : Program) (w : World) (K : PySem.W.Frag) : Sp := fun vs H Q _ => ∃ (a : Addr) (ns : List Int), vs = [.ref a, .int 1] ∧ SqL K H a (ns.map V.int) ∧ ns.length ≤ 63 ∧ ∀ x v B' H', Gw none (fun _ => none) H B' H' → Sd P w B' v (ilD [x]) → Q v H'
theorem one_list {ds : List Dt} (h : ∃ x : Int, ds = [.int x]) : ∃ x : Int, ds = [x].map Dt.int := h
theorem ex__law_cells {ns : List Int} (hz : ns.length ≤ 63) {N C : DS → Prop} : EX P w (t__law_cells P w K) ⟨[some (.scr K ns), some (.val (.int 1)), none, none, none, none], 0⟩ N C fun d s' => ∃ x, d = ilD [x] := by
  refine ex_then (J := fun s' => ∃ x : Int, s' = ⟨[some (.scr K ns), some (.val (.int 1)), some (.own [.int x]), none, none, none], 0⟩) ?_ ?_
  · refine ex_setOwn (evn_orT (evn_listN (evn_slScr (K' := K) (i := 0) (lo := none) (hi := some 1) rfl evo_none (evo_some (ed_var rfl)) ?_)))
    rw [show cutD (ns.map Dt.int) none (some 1) = (ns.map Dt.int).take 1 from cut_pre _ 1]
    cases ns with
    | nil =>
      rw [if_pos (show (([] : List Int).map Dt.int).take 1 = [] from rfl)]
      exact evn_lst (eva_cons (ed_int.to (eva_nil ⟨[.int 0], rfl, by show 1 ≤ 1000; decide, by show 2 < 6; decide, 0, rfl⟩)))
    | cons x ns =>
      rw [if_neg (show ¬ ((x :: ns).map Dt.int).take 1 = [] from fun z => nomatch z)]
      exact ⟨by show 2 < 6; decide, x, rfl⟩
  intro s' ⟨x, e⟩
  subst e
  refine ex_then (J := fun s' => ∃ x : Int, s' = ⟨[some (.scr K ns), some (.val (.int 1)), some (.own [.int x]), none, none, none], 0⟩) ?_ ?_
  · obtain ⟨l, hl, ll⟩ := cut_map Dt.int ns (some 1) (some 63)
    refine ex_for (evi_enumL (ev_of_new (evn_slScr (K' := K) (i := 0) (lo := some 1) (hi := some 63) rfl (evo_some (ed_var rfl)) (evo_some ed_int) ⟨_, rfl, fun i s' => ∃ x : Int, s' = ⟨[some (.scr K ns), some (.val (.int 1)), some (.own [.int x]), none, none, none], 0⟩, ⟨x, rfl⟩, fun i s2 d hd ⟨x, e2⟩ => ?_, fun s2 h => h⟩)))
    subst e2
    rw [hl] at hd
    obtain ⟨y, hy, rfl⟩ := enumI_get hd
    have hi : i < 63 := by
      have := (List.getElem?_eq_some_iff.mp hy).1
      omega
    refine ⟨_, _, ga_tup2 (by show 3 < 6; decide) (by show 4 < 6; decide), ex_unkN (is := [3, 4, 5]) ?_⟩
    refine ex_seq (ex_setD (by show 5 < 6; decide) (ed_op (ed_cb1 (ed_var rfl) rc_int) (ed_var rfl) (rd_mod (by decide))) ?_)
    have e1 : ((i : Int) % 1) = 0 := Int.emod_one _
    rw [e1]
    refine ex_setLD (i := 2) (ds := [.int x]) (k := 0) (j := 0) (d := .int (x + y * (i + 2))) rfl (ed_op (ev_ixOwn (ds0 := [.int x]) rfl ((ed_var rfl).to ⟨0, [.int x], .int x, rfl, rfl, rfl, rfl, rfl⟩)) (ed_op (ed_var rfl) (ed_op (ed_var rfl) ed_int rd_add) (rd_mul (.inr ⟨by omega, by omega⟩))) rd_add) (ed_var rfl) rfl ⟨x + y * (i + 2), rfl⟩
  · intro s' ⟨x, e⟩
    subst e
    exact ex_ret (ev_frz (i := 2) (ds := [.int x]) rfl ⟨x, rfl⟩)
theorem go_cells (vs : List V) (H : Hp) (Q : VK) (E : XK) (h : spCells P w K vs H Q E) : t__law_cells P w K { nx := fun _ H' => Q .non H', rt := Q } (L2.start N_law_cells vs) H := by
  obtain ⟨a, ns, e, hq, hz, q⟩ := h
  subst e
  have S : SW P w ⟨none, fun _ => none, H⟩ (fun _ => none) H [some (.ref a), some (.int 1), none, none, none, none] ⟨[some (.scr K ns), some (.val (.int 1)), none, none, none, none], 0⟩ := by
    refine ⟨.refl fun _ _ z => (nomatch z), rfl, fun _ z => (nomatch z), fun _ z => (nomatch z), fun i sl hi => ?_, fun i j p _ ⟨_, o⟩ _ => ?_⟩
    · match i, hi with
      | 0, hi => cases hi; exact ⟨a, rfl, fun z => (nomatch z), hq⟩
      | 1, hi => cases hi; exact ⟨.int 1, rfl, .int 1⟩
      | 2, hi => cases hi
      | 3, hi => cases hi
      | 4, hi => cases hi
      | 5, hi => cases hi
      | i + 6, hi => cases hi
    · have no : ∀ (i : Nat) (sl : Sl), ([some (.scr K ns), some (.val (.int 1)), none, none, none, none] : List (Option Sl))[i]? = some (some sl) → (∀ ds, sl ≠ .own ds) ∧ ∀ ds, sl ≠ .odc ds := fun i sl hi => by
        match i, hi with
        | 0, hi => cases hi; exact ⟨fun _ z => (nomatch z), fun _ z => (nomatch z)⟩
        | 1, hi => cases hi; exact ⟨fun _ z => (nomatch z), fun _ z => (nomatch z)⟩
        | 2, hi => cases hi
        | 3, hi => cases hi
        | 4, hi => cases hi
        | 5, hi => cases hi
        | i + 6, hi => cases hi
      rcases o with ⟨ds, h⟩ | ⟨kvs, h⟩
      · exact (no i _ h).1 ds rfl
      · exact (no i _ h).2 kvs rfl
  exact ex__law_cells (N := fun _ => False) (C := fun _ => False) hz _ _ _ _ S _ (fun _ _ _ _ _ _ z => z.elim) (fun _ _ _ _ _ _ z => z.elim) fun v B' H' d σ' s' S' D ⟨x, ed⟩ => by
    subst ed
    exact q x v B' H' S'.gw D
/-- the box of draws, new, held by nobody -/
def spBox (P : Program) (w : World) : Sp := fun vs H Q _ => ∃ (B : Hp) (v : V) (x : Int), Same B H ∧ vs = [v, .int 0] ∧ Sd P w B v (ilD [x]) ∧
  ∀ (a b : Int) (p : Addr) (H' : Hp), 0 ≤ a → 0 ≤ b → b < 2 ^ 62 → H p = none → H' p = some (.lst [.int a, .int b, .int 0]) → (∀ c o, H c = some o → H' c = some o) → Q (.ref p) H'
theorem go_box (vs : List V) (H : Hp) (Q : VK) (E : XK) (h : spBox P w vs H Q E) : t__law_box P w K { nx := fun _ H' => Q .non H', rt := Q } (L2.start N_law_box vs) H := by
  obtain ⟨B, v, x, e, ev, Dv, q⟩ := h
  subst ev
  have S := slots_ok (P := P) (w := w) (t := none) (n := 0) (m := 1) (H := H) e (fun _ z => (nomatch z)) (fun _ z => (nomatch z)) (sd_agA (A := ⟨none, B, H⟩) (.cons Dv (.cons (.int 0) .nil)))
  have c1 : ED P w (tIf (tTest (tOp (rI0 fun i j => .bl (decide (i < j))) (tVar 1) (tCB (rLenK K) (tCons (tVar 0) tNil)))) (tOp (rIx K) (tVar 0) (tVar 1)) (tC (.int 0))) ⟨[.v (ilD [x]), .v (.int 0)].map slotOf ++ List.replicate 1 none, 0⟩ (.int x) :=
    ed_if (b := true) (edt_test (ed_op (ed_var rfl) (ed_cb1 (ed_var (d := .lst [.int x]) rfl) rc_lenL) rd_lt)) (fun _ => ed_op (ed_var (d := .lst [.int x]) rfl) (ed_var rfl) (rd_ixL rfl)) fun z => (nomatch z)
  show (tIf _ _ _) ([some v, some (.int 0), none]) H _
  refine c1 ⟨none, B, H⟩ B H _ S _ fun v2 B1 H1 d s1 S1 M1 D1 ⟨e1, e2⟩ => ?_
  subst e1
  subst e2
  have S2 := S1.put (i := 2) (by show 2 < 3; decide) D1
  generalize hab : (if x < 0 then -x else x) = ax
  have ax0 : 0 ≤ ax := by split at hab <;> omega
  have p18 : ((10 : Int) ^ (Int.toNat 18)) = 1000000000000000000 := by decide
  have c2 : EDN P w (tLst (tCons (tOp (rI CMul fun i j => .int (i * j)) (tCB rAbs1 (tCons (tVar 2) tNil)) (tCB rInt1 (tCons (tOp (rI0 fun i j => .bl (decide (j ≤ i))) (tCB rAbs1 (tCons (tVar 2) tNil)) (tOp (rI CPow fun i j => .int (i ^ j.toNat)) (tC (.int 10)) (tC (.int 18)))) tNil))) (tCons (tOp (rI0 fun i j => .int (i + j)) (tOp (rI0 fun i j => .int (i + j)) (tOp (rI (fun _ j => 0 < j) fun i j => .int (i % j)) (tCB rInt1 (tCons (tVar 2) tNil)) (tC (.int 2305843009213693951))) (tOp (rI CMul fun i j => .int (i * j)) (tC (.int 39373)) (tVar 1))) (tC (.int 10878))) (tCons (tC (.int 0)) tNil))))
      ((⟨[.v (ilD [x]), .v (.int 0)].map slotOf ++ List.replicate 1 none, 0⟩ : DS).put 2 (.val (.int x))) [.int (ax * (if decide ((10 : Int) ^ (Int.toNat 18) ≤ ax) then 1 else 0)), .int (x % 2305843009213693951 + 39373 * 0 + 10878), .int 0] := by
    have ea : ∀ s : DS, s.ε[2]? = some (some (.val (.int x))) → ED P w (tCB rAbs1 (tCons (tVar 2) tNil)) s (.int ax) := fun s hs => (ed_cb1 (ed_var hs) rc_abs).is (by rw [hab])
    refine edn_lst (ds := [.int _, .int _, .int 0]) (eda_cons (ed_op (ea _ rfl) (ed_cb1 (ed_op (ea _ rfl) (ed_op ed_int ed_int (rd_pow ⟨by decide, by decide, by decide⟩)) rd_ge) rc_intB) (rd_mul (.inr ?_))) (eda_cons (ed_op (ed_op (ed_op (ed_cb1 (ed_var rfl) rc_int) ed_int (rd_mod (by decide))) (ed_op ed_int (ed_var rfl) (rd_mul (.inl ⟨by decide, by decide⟩))) rd_add) ed_int rd_add) (eda_cons ed_int eda_nil))) (by show 3 ≤ 1000; decide)
    split <;> exact ⟨by decide, by decide⟩
  refine c2 _ _ _ _ S2 _ fun p us B3 H3 ds s3 S3 M3 hp h0 hl D3 no ⟨e1, e2⟩ => ?_
  subst e1
  have eus : us = [.int (ax * (if decide ((10 : Int) ^ (Int.toNat 18) ≤ ax) then 1 else 0)), .int (x % 2305843009213693951 + 39373 * 0 + 10878), .int 0] := ints_of_sdA (ns := [ax * (if decide ((10 : Int) ^ (Int.toNat 18) ≤ ax) then 1 else 0), x % 2305843009213693951 + 39373 * 0 + 10878, 0]) D3
  subst eus
  have m0 : 0 ≤ x % 2305843009213693951 := Int.emod_nonneg _ (by decide)
  have m1 : x % 2305843009213693951 < 2305843009213693951 := Int.emod_lt_of_pos _ (by decide)
  refine q _ _ p H3 ?_ (by omega) (by omega) hp.1 hl fun c o hc => S3.gw.2.2.1 c o (fun z => (nomatch z)) hc
  split
  · omega
  · rw [Int.mul_zero]; exact Int.le_refl _
end
end DK

/-! ## O1 -/
namespace DK
open PySem PySem.Spec PyProof.Rows L2
section
variable {P : Program} {w : World} {K : PySem.W.Frag} {mg : Str → Option Value} {base : Heap}
theorem sctupled : FnScope Ntupled ["thing"] (defScope (top 5)) := ⟨rfl, rfl, rfl, by decide +kernel, rfl, by decide +kernel, by decide +kernel⟩
theorem dvtupled (bl : Bl mg) {fself : FD} {j : Nat} (Htupled : OkF P w K mg base "tupled" ["thing"] (spT P w fself) j) {cdv : Value} {A : Around} {outer : List Env} {s : Shared} {H : Hp} {E : XK} {fa : Addr} (hr : Room j (A.deeper (envOfC "tupled" (defScope (top 5)) s.heap.objs.size fa cdv))) : PSs (cxOf CX0 P w K mg base Ntupled "tupled" (defScope (top 5)) fa cdv A outer s H E).nox (defBody (top 5)) (t_tupled fself P w K) := by
  have nd := sctupled.nd
  exact (pss_one (ps_ret (pe_ifExp (pt_val (pe_callB call_isiT rfl bl.isi boot_isinstance (pa_cons (pv 0) (pa_cons (pe_tup (pa_cons (pe_bltn rfl bl.list boot_list rfl) (pa_cons (pe_bltn rfl bl.tup boot_tuple rfl) pa_nil))) pa_nil)))) (pe_callTy call_tuple_of rfl bl.tup boot_tuple (pa_cons (pe_lc (own := [("part", 1)]) (g := (gName 1)) (tt := tYes) rfl nd (pi_or (pi_list (pv 0)) (pi_tup (pv 0))) (blkOk_by (N := Ntupled) (sc := defScope (top 5)) (by decide +kernel)) (fun _ _ _ _ _ => (pg_name (i := 1) nd rfl (by first | exact Or.inl rfl | exact Or.inr rfl))) (fun _ _ _ _ _ => pts_nil) (fun _ _ _ _ _ => (pe_callO Htupled hr (Nat.le_refl _) rfl (pa_cons (pv 1) pa_nil)))) pa_nil)) (pv 0))))
theorem len_tupledM (m : Nat) : ∀ as n Po, f_tupledM m as n Po → as.length = 1 := by
  intro as n Po h
  obtain ⟨_, _, e, _⟩ := h
  rw [e]
  rfl
theorem oktupledM (bl : Bl mg) (F : ∃ fa fd, mg "tupled" = some (.ref fa) ∧ FnP K "tupled" (top 5) fa fd) : ∀ m, OkF P w K mg base "tupled" ["thing"] (spT P w (f_tupledM m)) (m + 1)
  | 0 => by
    obtain ⟨fa, fd, hm, F⟩ := F
    have no : ∀ vs H Q E, spT P w (f_tupledM 0) vs H Q E → False := fun vs H Q E ⟨_, _, _, _, _, _, _, _, _, hf, _⟩ => by
      obtain ⟨_, _, _, h, _⟩ := hf
      exact h
    exact ⟨fa, fd, hm, F.kp, FunD.bindsN F (fun _ _ _ _ _ _ us hl => match us, hl with | [_], _ => rfl), ⟨fun vs H Q E h => (no vs H Q E h).elim, fun _ _ _ _ _ _ _ _ _ _ _ _ _ h => (no _ _ _ _ h).elim⟩⟩
  | m + 1 => okf_mk (t_tupled (f_tupledM m) P w K) F sctupled (fun _ _ _ _ _ _ us hl => match us, hl with | [_], _ => rfl) (len_tupledM (m + 1)) (fun _ _ _ _ _ _ _ hr => dvtupled bl (oktupledM bl F m) hr) (ex_tupledM m)
theorem sc_law_lists : FnScope N_law_lists ["_law_matter"] (defScope (top 40)) := ⟨rfl, rfl, rfl, by decide +kernel, rfl, by decide +kernel, by decide +kernel⟩
theorem dv_law_lists (bl : Bl mg) {fself : FD} {j : Nat} (H_law_lists : OkF P w K mg base "_law_lists" ["_law_matter"] (spT P w fself) j) {cdv : Value} {A : Around} {outer : List Env} {s : Shared} {H : Hp} {E : XK} {fa : Addr} (hr : Room j (A.deeper (envOfC "_law_lists" (defScope (top 40)) s.heap.objs.size fa cdv))) : PSs (cxOf CX0 P w K mg base N_law_lists "_law_lists" (defScope (top 40)) fa cdv A outer s H E).nox (defBody (top 40)) (t__law_lists fself P w K) := by
  have nd := sc_law_lists.nd
  exact (pss_one (ps_ret (pe_ifExp (pt_val (pe_callB call_isiT rfl bl.isi boot_isinstance (pa_cons (pv 0) (pa_cons (pe_tup (pa_cons (pe_bltn rfl bl.list boot_list rfl) (pa_cons (pe_bltn rfl bl.tup boot_tuple rfl) pa_nil))) pa_nil)))) (pe_lc (own := [("_law_bit", 1)]) (g := (gName 1)) (tt := tYes) rfl nd (pi_or (pi_list (pv 0)) (pi_tup (pv 0))) (blkOk_by (N := N_law_lists) (sc := defScope (top 40)) (by decide +kernel)) (fun _ _ _ _ _ => (pg_name (i := 1) nd rfl (by first | exact Or.inl rfl | exact Or.inr rfl))) (fun _ _ _ _ _ => pts_nil) (fun _ _ _ _ _ => (pe_callO H_law_lists hr (Nat.le_refl _) rfl (pa_cons (pv 1) pa_nil)))) (pv 0))))
theorem len__law_listsM (m : Nat) : ∀ as n Po, f__law_listsM m as n Po → as.length = 1 := by
  intro as n Po h
  obtain ⟨_, _, e, _⟩ := h
  rw [e]
  rfl
theorem ok_law_listsM (bl : Bl mg) (F : ∃ fa fd, mg "_law_lists" = some (.ref fa) ∧ FnP K "_law_lists" (top 40) fa fd) : ∀ m, OkF P w K mg base "_law_lists" ["_law_matter"] (spT P w (f__law_listsM m)) (m + 1)
  | 0 => by
    obtain ⟨fa, fd, hm, F⟩ := F
    have no : ∀ vs H Q E, spT P w (f__law_listsM 0) vs H Q E → False := fun vs H Q E ⟨_, _, _, _, _, _, _, _, _, hf, _⟩ => by
      obtain ⟨_, _, _, h, _⟩ := hf
      exact h
    exact ⟨fa, fd, hm, F.kp, FunD.bindsN F (fun _ _ _ _ _ _ us hl => match us, hl with | [_], _ => rfl), ⟨fun vs H Q E h => (no vs H Q E h).elim, fun _ _ _ _ _ _ _ _ _ _ _ _ _ h => (no _ _ _ _ h).elim⟩⟩
  | m + 1 => okf_mk (t__law_lists (f__law_listsM m) P w K) F sc_law_lists (fun _ _ _ _ _ _ us hl => match us, hl with | [_], _ => rfl) (len__law_listsM (m + 1)) (fun _ _ _ _ _ _ _ hr => dv_law_lists bl (ok_law_listsM bl F m) hr) (ex__law_listsM m)
theorem sc_law_same : FnScope N_law_same ["_law_got", "_law_due"] (defScope (top 41)) := ⟨rfl, rfl, rfl, by decide +kernel, rfl, by decide +kernel, by decide +kernel⟩
theorem dv_law_same (bl : Bl mg) {fself : FD} {j : Nat} (H_law_same : OkF P w K mg base "_law_same" ["_law_got", "_law_due"] (spT P w fself) j) {cdv : Value} {A : Around} {outer : List Env} {s : Shared} {H : Hp} {E : XK} {fa : Addr} (hr : Room j (A.deeper (envOfC "_law_same" (defScope (top 41)) s.heap.objs.size fa cdv))) : PSs (cxOf CX0 P w K mg base N_law_same "_law_same" (defScope (top 41)) fa cdv A outer s H E).nox (defBody (top 41)) (t__law_same fself P w K) := by
  have nd := sc_law_same.nd
  exact (pss_cons (ps_if (pt_val (pe_callB call_isiT rfl bl.isi boot_isinstance (pa_cons (pv 1) (pa_cons (pe_tup (pa_cons (pe_bltn rfl bl.list boot_list rfl) (pa_cons (pe_bltn rfl bl.tup boot_tuple rfl) pa_nil))) pa_nil)))) (pss_cons (ps_if (PW.pt (pw_or (pt_cmpR op_ne (pe_callB call_isi rfl bl.isi boot_isinstance (pa_cons (pv 0) (pa_cons (pe_bltn rfl bl.list boot_list rfl) pa_nil))) (pe_callB call_isi rfl bl.isi boot_isinstance (pa_cons (pv 1) (pa_cons (pe_bltn rfl bl.list boot_list rfl) pa_nil))) (nomark _)) (pw_or1 (pt_cmpR op_ne (pe_callB call_isi rfl bl.isi boot_isinstance (pa_cons (pv 0) (pa_cons (pe_bltn rfl bl.tup boot_tuple rfl) pa_nil))) (pe_callB call_isi rfl bl.isi boot_isinstance (pa_cons (pv 1) (pa_cons (pe_bltn rfl bl.tup boot_tuple rfl) pa_nil))) (nomark _))))) (pss_one (ps_ret pe_bl)) pss_nil)
  (pss_one (ps_ret (pe_and (pe_cmpR op_eq (pe_callB call_len_seq rfl bl.len boot_len (pa_cons (pv 0) pa_nil)) (pe_callB call_len_seq rfl bl.len boot_len (pa_cons (pv 1) pa_nil)) (nomark _)) (pe_one (pe_callB (cr_all rfl) rfl bl.all boot_all (pa_cons (pe_lc (own := [("_law_mine", 2), ("_law_its", 3)]) (g := (gTup K 2 (gCons (gName 2) (gCons (gName 3) gNil)))) (tt := tYes) rfl nd (RZ.pi_zipA rfl bl.zip (pa_cons (pv 0) (pa_cons (pv 1) pa_nil))) (blkOk_by (N := N_law_same) (sc := defScope (top 41)) (by decide +kernel)) (fun _ _ _ _ _ => (pg_tup rfl (pgs_cons (pg_name (i := 2) nd rfl (by first | exact Or.inl rfl | exact Or.inr rfl)) (pgs_cons (pg_name (i := 3) nd rfl (by first | exact Or.inl rfl | exact Or.inr rfl)) pgs_nil)))) (fun _ _ _ _ _ => pts_nil) (fun _ _ _ _ _ => (pe_callO H_law_same hr (Nat.le_refl _) rfl (pa_cons (pv 2) (pa_cons (pv 3) pa_nil))))) pa_nil))))))) pss_nil)
  (pss_cons (ps_if (PW.pt (pw_or (pt_cmpR op_isN (pv 1) pe_non (nomark _)) (pw_or1 (pt_val (pe_callB call_isiT rfl bl.isi boot_isinstance (pa_cons (pv 1) (pa_cons (pe_tup (pa_cons (pe_bltn rfl bl.bool boot_bool rfl) (pa_cons (pe_bltn rfl bl.str boot_str rfl) pa_nil))) pa_nil))))))) (pss_one (ps_ret (pe_and (pe_cmpR op_eq (pv 0) (pv 1) (nomark _)) (pe_and (pe_cmpR op_eq (pe_callB call_isi rfl bl.isi boot_isinstance (pa_cons (pv 0) (pa_cons (pe_bltn rfl bl.bool boot_bool rfl) pa_nil))) (pe_callB call_isi rfl bl.isi boot_isinstance (pa_cons (pv 1) (pa_cons (pe_bltn rfl bl.bool boot_bool rfl) pa_nil))) (nomark _)) (pe_one (pe_cmpR op_eq (pe_cmpR op_isN (pv 0) pe_non (nomark _)) (pe_cmpR op_isN (pv 1) pe_non (nomark _)) (nomark _))))))) pss_nil)
  (pss_one (ps_ret (pe_and (pe_callB call_isi rfl bl.isi boot_isinstance (pa_cons (pv 0) (pa_cons (pe_bltn rfl bl.int boot_int rfl) pa_nil))) (pe_and (pe_not (pe_callB call_isi rfl bl.isi boot_isinstance (pa_cons (pv 0) (pa_cons (pe_bltn rfl bl.bool boot_bool rfl) pa_nil)))) (pe_one (pe_cmpR op_eq (pv 0) (pv 1) (nomark _)))))))))
theorem len__law_sameM (m : Nat) : ∀ as n Po, f__law_sameM m as n Po → as.length = 2 := by
  intro as n Po h
  obtain ⟨_, e, _⟩ := h
  rw [e]
  rfl
theorem ok_law_sameM (bl : Bl mg) (F : ∃ fa fd, mg "_law_same" = some (.ref fa) ∧ FnP K "_law_same" (top 41) fa fd) : ∀ m, OkF P w K mg base "_law_same" ["_law_got", "_law_due"] (spT P w (f__law_sameM m)) (m + 1)
  | 0 => by
    obtain ⟨fa, fd, hm, F⟩ := F
    have no : ∀ vs H Q E, spT P w (f__law_sameM 0) vs H Q E → False := fun vs H Q E ⟨_, _, _, _, _, _, _, _, _, hf, _⟩ => by
      obtain ⟨_, _, h, _⟩ := hf
      exact h
    exact ⟨fa, fd, hm, F.kp, FunD.bindsN F (fun _ _ _ _ _ _ us hl => match us, hl with | [_, _], _ => rfl), ⟨fun vs H Q E h => (no vs H Q E h).elim, fun _ _ _ _ _ _ _ _ _ _ _ _ _ h => (no _ _ _ _ h).elim⟩⟩
  | m + 1 => okf_mk (t__law_same (f__law_sameM m) P w K) F sc_law_same (fun _ _ _ _ _ _ us hl => match us, hl with | [_, _], _ => rfl) (len__law_sameM (m + 1)) (fun _ _ _ _ _ _ _ hr => dv_law_same bl (ok_law_sameM bl F m) hr) (ex__law_sameM m)
theorem len_is_number : ∀ as n Po, f_is_number as n Po → as.length = 1 := by
  intro as n Po h
  obtain ⟨_, e, _⟩ := h
  rw [e]
  rfl

theorem scis_number : FnScope Nis_number ["thing"] (defScope (top 6)) := ⟨rfl, rfl, rfl, by decide +kernel, rfl, by decide +kernel, by decide +kernel⟩
theorem dvis_number (bl : Bl mg) {cdv : Value} {A : Around} {outer : List Env} {s : Shared} {H : Hp} {E : XK} {fa : Addr} (hr : Room 0 (A.deeper (envOfC "is_number" (defScope (top 6)) s.heap.objs.size fa cdv))) : PSs (cxOf CX0 P w K mg base Nis_number "is_number" (defScope (top 6)) fa cdv A outer s H E).nox (defBody (top 6)) (t_is_number P w K) := by
  have nd := scis_number.nd
  exact (pss_one (ps_ret (pe_and (pe_callB call_isi rfl bl.isi boot_isinstance (pa_cons (pv 0) (pa_cons (pe_bltn rfl bl.int boot_int rfl) pa_nil))) (pe_one (pe_not (pe_callB call_isi rfl bl.isi boot_isinstance (pa_cons (pv 0) (pa_cons (pe_bltn rfl bl.bool boot_bool rfl) pa_nil))))))))
theorem okis_number (bl : Bl mg) (F : ∃ fa fd, mg "is_number" = some (.ref fa) ∧ FnP K "is_number" (top 6) fa fd) : OkF P w K mg base "is_number" ["thing"] (spT P w f_is_number) 1 :=
  okf_mk (t_is_number P w K) F scis_number (fun _ _ _ _ _ _ us hl => match us, hl with | [_], _ => rfl) len_is_number (fun _ _ _ _ _ _ _ hr => dvis_number bl  hr) ex_is_number

theorem len_is_count : ∀ as n Po, f_is_count as n Po → as.length = 1 := by
  intro as n Po h
  obtain ⟨_, e, _⟩ := h
  rw [e]
  rfl

theorem scis_count : FnScope Nis_count ["thing"] (defScope (top 7)) := ⟨rfl, rfl, rfl, by decide +kernel, rfl, by decide +kernel, by decide +kernel⟩
theorem dvis_count (bl : Bl mg) (His_number : OkF P w K mg base "is_number" ["thing"] (spT P w f_is_number) 1) {cdv : Value} {A : Around} {outer : List Env} {s : Shared} {H : Hp} {E : XK} {fa : Addr} (hr : Room 1 (A.deeper (envOfC "is_count" (defScope (top 7)) s.heap.objs.size fa cdv))) : PSs (cxOf CX0 P w K mg base Nis_count "is_count" (defScope (top 7)) fa cdv A outer s H E).nox (defBody (top 7)) (t_is_count P w K) := by
  have nd := scis_count.nd
  exact (pss_one (ps_ret (pe_and (pe_callO His_number hr (by decide) rfl (pa_cons (pv 0) pa_nil)) (pe_one (pe_cmpR op_ge (pv 0) pe_int (nomark _))))))
theorem okis_count (bl : Bl mg) (His_number : OkF P w K mg base "is_number" ["thing"] (spT P w f_is_number) 1) (F : ∃ fa fd, mg "is_count" = some (.ref fa) ∧ FnP K "is_count" (top 7) fa fd) : OkF P w K mg base "is_count" ["thing"] (spT P w f_is_count) 2 :=
  okf_mk (t_is_count P w K) F scis_count (fun _ _ _ _ _ _ us hl => match us, hl with | [_], _ => rfl) len_is_count (fun _ _ _ _ _ _ _ hr => dvis_count bl His_number hr) ex_is_count

theorem len_is_from_one : ∀ as n Po, f_is_from_one as n Po → as.length = 1 := by
  intro as n Po h
  obtain ⟨_, e, _⟩ := h
  rw [e]
  rfl

theorem scis_from_one : FnScope Nis_from_one ["thing"] (defScope (top 8)) := ⟨rfl, rfl, rfl, by decide +kernel, rfl, by decide +kernel, by decide +kernel⟩
theorem dvis_from_one (bl : Bl mg) (His_number : OkF P w K mg base "is_number" ["thing"] (spT P w f_is_number) 1) {cdv : Value} {A : Around} {outer : List Env} {s : Shared} {H : Hp} {E : XK} {fa : Addr} (hr : Room 1 (A.deeper (envOfC "is_from_one" (defScope (top 8)) s.heap.objs.size fa cdv))) : PSs (cxOf CX0 P w K mg base Nis_from_one "is_from_one" (defScope (top 8)) fa cdv A outer s H E).nox (defBody (top 8)) (t_is_from_one P w K) := by
  have nd := scis_from_one.nd
  exact (pss_one (ps_ret (pe_and (pe_callO His_number hr (by decide) rfl (pa_cons (pv 0) pa_nil)) (pe_one (pe_cmpR op_ge (pv 0) pe_int (nomark _))))))
theorem okis_from_one (bl : Bl mg) (His_number : OkF P w K mg base "is_number" ["thing"] (spT P w f_is_number) 1) (F : ∃ fa fd, mg "is_from_one" = some (.ref fa) ∧ FnP K "is_from_one" (top 8) fa fd) : OkF P w K mg base "is_from_one" ["thing"] (spT P w f_is_from_one) 2 :=
  okf_mk (t_is_from_one P w K) F scis_from_one (fun _ _ _ _ _ _ us hl => match us, hl with | [_], _ => rfl) len_is_from_one (fun _ _ _ _ _ _ _ hr => dvis_from_one bl His_number hr) ex_is_from_one

theorem len_is_below : ∀ as n Po, f_is_below as n Po → as.length = 2 := by
  intro as n Po h
  obtain ⟨_, _, e, _⟩ := h
  rw [e]
  rfl

theorem scis_below : FnScope Nis_below ["thing", "many"] (defScope (top 9)) := ⟨rfl, rfl, rfl, by decide +kernel, rfl, by decide +kernel, by decide +kernel⟩
theorem dvis_below (bl : Bl mg) (His_count : OkF P w K mg base "is_count" ["thing"] (spT P w f_is_count) 2) {cdv : Value} {A : Around} {outer : List Env} {s : Shared} {H : Hp} {E : XK} {fa : Addr} (hr : Room 2 (A.deeper (envOfC "is_below" (defScope (top 9)) s.heap.objs.size fa cdv))) : PSs (cxOf CX0 P w K mg base Nis_below "is_below" (defScope (top 9)) fa cdv A outer s H E).nox (defBody (top 9)) (t_is_below P w K) := by
  have nd := scis_below.nd
  exact (pss_one (ps_ret (pe_and (pe_callO His_count hr (by decide) rfl (pa_cons (pv 0) pa_nil)) (pe_one (pe_cmpR op_lt (pv 0) (pv 1) (nomark _))))))
theorem okis_below (bl : Bl mg) (His_count : OkF P w K mg base "is_count" ["thing"] (spT P w f_is_count) 2) (F : ∃ fa fd, mg "is_below" = some (.ref fa) ∧ FnP K "is_below" (top 9) fa fd) : OkF P w K mg base "is_below" ["thing", "many"] (spT P w f_is_below) 3 :=
  okf_mk (t_is_below P w K) F scis_below (fun _ _ _ _ _ _ us hl => match us, hl with | [_, _], _ => rfl) len_is_below (fun _ _ _ _ _ _ _ hr => dvis_below bl His_count hr) ex_is_below

theorem len_is_tuple_of : ∀ as n Po, f_is_tuple_of as n Po → as.length = 2 := by
  intro as n Po h
  obtain ⟨_, _, e, _⟩ := h
  rw [e]
  rfl

theorem scis_tuple_of : FnScope Nis_tuple_of ["thing", "size"] (defScope (top 10)) := ⟨rfl, rfl, rfl, by decide +kernel, rfl, by decide +kernel, by decide +kernel⟩
theorem dvis_tuple_of (bl : Bl mg) {cdv : Value} {A : Around} {outer : List Env} {s : Shared} {H : Hp} {E : XK} {fa : Addr} (hr : Room 0 (A.deeper (envOfC "is_tuple_of" (defScope (top 10)) s.heap.objs.size fa cdv))) : PSs (cxOf CX0 P w K mg base Nis_tuple_of "is_tuple_of" (defScope (top 10)) fa cdv A outer s H E).nox (defBody (top 10)) (t_is_tuple_of P w K) := by
  have nd := scis_tuple_of.nd
  exact (pss_one (ps_ret (pe_and (pe_callB call_isi rfl bl.isi boot_isinstance (pa_cons (pv 0) (pa_cons (pe_bltn rfl bl.tup boot_tuple rfl) pa_nil))) (pe_one (pe_cmpR op_eq (pe_callB call_len_seq rfl bl.len boot_len (pa_cons (pv 0) pa_nil)) (pv 1) (nomark _))))))
theorem okis_tuple_of (bl : Bl mg) (F : ∃ fa fd, mg "is_tuple_of" = some (.ref fa) ∧ FnP K "is_tuple_of" (top 10) fa fd) : OkF P w K mg base "is_tuple_of" ["thing", "size"] (spT P w f_is_tuple_of) 1 :=
  okf_mk (t_is_tuple_of P w K) F scis_tuple_of (fun _ _ _ _ _ _ us hl => match us, hl with | [_, _], _ => rfl) len_is_tuple_of (fun _ _ _ _ _ _ _ hr => dvis_tuple_of bl  hr) ex_is_tuple_of

theorem len_ascends : ∀ as n Po, f_ascends as n Po → as.length = 1 := by
  intro as n Po h
  obtain ⟨_, e, _⟩ := h
  rw [e]
  rfl

theorem scascends : FnScope Nascends ["thing"] (defScope (top 11)) := ⟨rfl, rfl, rfl, by decide +kernel, rfl, by decide +kernel, by decide +kernel⟩
theorem dvascends (bl : Bl mg) {cdv : Value} {A : Around} {outer : List Env} {s : Shared} {H : Hp} {E : XK} {fa : Addr} (hr : Room 0 (A.deeper (envOfC "ascends" (defScope (top 11)) s.heap.objs.size fa cdv))) : PSs (cxOf CX0 P w K mg base Nascends "ascends" (defScope (top 11)) fa cdv A outer s H E).nox (defBody (top 11)) (t_ascends P w K) := by
  have nd := scascends.nd
  exact (pss_one (ps_ret (pe_callB (cr_all rfl) rfl bl.all boot_all (pa_cons (pe_lc (own := [("near", 1), ("far", 2)]) (g := (gTup K 2 (gCons (gName 1) (gCons (gName 2) gNil)))) (tt := tYes) rfl nd (RZ.pi_zipA rfl bl.zip (pa_cons (pv 0) (pa_cons (pe_slice sl_list (pv 0) (po_some pe_int) po_none) pa_nil))) (blkOk_by (N := Nascends) (sc := defScope (top 11)) (by decide +kernel)) (fun _ _ _ _ _ => (pg_tup rfl (pgs_cons (pg_name (i := 1) nd rfl (by first | exact Or.inl rfl | exact Or.inr rfl)) (pgs_cons (pg_name (i := 2) nd rfl (by first | exact Or.inl rfl | exact Or.inr rfl)) pgs_nil)))) (fun _ _ _ _ _ => pts_nil) (fun _ _ _ _ _ => (pe_cmpR op_lt (pv 1) (pv 2) (nomark _)))) pa_nil))))
theorem okascends (bl : Bl mg) (F : ∃ fa fd, mg "ascends" = some (.ref fa) ∧ FnP K "ascends" (top 11) fa fd) : OkF P w K mg base "ascends" ["thing"] (spT P w f_ascends) 1 :=
  okf_mk (t_ascends P w K) F scascends (fun _ _ _ _ _ _ us hl => match us, hl with | [_], _ => rfl) len_ascends (fun _ _ _ _ _ _ _ hr => dvascends bl  hr) ex_ascends

theorem len_zero_row : ∀ as n Po, f_zero_row as n Po → as.length = 1 := by
  intro as n Po h
  obtain ⟨_, e, _⟩ := h
  rw [e]
  rfl

theorem sczero_row : FnScope Nzero_row ["many"] (defScope (top 13)) := ⟨rfl, rfl, rfl, by decide +kernel, rfl, by decide +kernel, by decide +kernel⟩
theorem dvzero_row (bl : Bl mg) {cdv : Value} {A : Around} {outer : List Env} {s : Shared} {H : Hp} {E : XK} {fa : Addr} (hr : Room 0 (A.deeper (envOfC "zero_row" (defScope (top 13)) s.heap.objs.size fa cdv))) : PSs (cxOf CX0 P w K mg base Nzero_row "zero_row" (defScope (top 13)) fa cdv A outer s H E).nox (defBody (top 13)) (t_zero_row P w K) := by
  have nd := sczero_row.nd
  exact (pss_one (ps_ret (pe_op op_repA (pe_tup (pa_cons pe_int pa_nil)) (pv 0))))
theorem okzero_row (bl : Bl mg) (F : ∃ fa fd, mg "zero_row" = some (.ref fa) ∧ FnP K "zero_row" (top 13) fa fd) : OkF P w K mg base "zero_row" ["many"] (spT P w f_zero_row) 1 :=
  okf_mk (t_zero_row P w K) F sczero_row (fun _ _ _ _ _ _ us hl => match us, hl with | [_], _ => rfl) len_zero_row (fun _ _ _ _ _ _ _ hr => dvzero_row bl  hr) ex_zero_row

theorem len_fit_lengths : ∀ as n Po, f_fit_lengths as n Po → as.length = 2 := by
  intro as n Po h
  obtain ⟨_, _, e, _⟩ := h
  rw [e]
  rfl

theorem scfit_lengths : FnScope Nfit_lengths ["one", "other"] (defScope (top 14)) := ⟨rfl, rfl, rfl, by decide +kernel, rfl, by decide +kernel, by decide +kernel⟩
theorem dvfit_lengths (bl : Bl mg) {cdv : Value} {A : Around} {outer : List Env} {s : Shared} {H : Hp} {E : XK} {fa : Addr} (hr : Room 0 (A.deeper (envOfC "fit_lengths" (defScope (top 14)) s.heap.objs.size fa cdv))) : PSs (cxOf CX0 P w K mg base Nfit_lengths "fit_lengths" (defScope (top 14)) fa cdv A outer s H E).nox (defBody (top 14)) (t_fit_lengths P w K) := by
  have nd := scfit_lengths.nd
  exact (pss_one (ps_if (pt_cmpR op_ne (pe_callB call_len_seq rfl bl.len boot_len (pa_cons (pv 0) pa_nil)) (pe_callB call_len_seq rfl bl.len boot_len (pa_cons (pv 1) pa_nil)) (nomark _)) pss_never pss_nil))
theorem okfit_lengths (bl : Bl mg) (F : ∃ fa fd, mg "fit_lengths" = some (.ref fa) ∧ FnP K "fit_lengths" (top 14) fa fd) : OkF P w K mg base "fit_lengths" ["one", "other"] (spT P w f_fit_lengths) 1 :=
  okf_mk (t_fit_lengths P w K) F scfit_lengths (fun _ _ _ _ _ _ us hl => match us, hl with | [_, _], _ => rfl) len_fit_lengths (fun _ _ _ _ _ _ _ hr => dvfit_lengths bl  hr) ex_fit_lengths

theorem len_row_sum : ∀ as n Po, f_row_sum as n Po → as.length = 3 := by
  intro as n Po h
  obtain ⟨_, _, _, e, _⟩ := h
  rw [e]
  rfl

theorem scrow_sum : FnScope Nrow_sum ["p", "one", "other"] (defScope (top 15)) := ⟨rfl, rfl, rfl, by decide +kernel, rfl, by decide +kernel, by decide +kernel⟩
theorem dvrow_sum (bl : Bl mg) (Hfit_lengths : OkF P w K mg base "fit_lengths" ["one", "other"] (spT P w f_fit_lengths) 1) {cdv : Value} {A : Around} {outer : List Env} {s : Shared} {H : Hp} {E : XK} {fa : Addr} (hr : Room 1 (A.deeper (envOfC "row_sum" (defScope (top 15)) s.heap.objs.size fa cdv))) : PSs (cxOf CX0 P w K mg base Nrow_sum "row_sum" (defScope (top 15)) fa cdv A outer s H E).nox (defBody (top 15)) (t_row_sum P w K) := by
  have nd := scrow_sum.nd
  exact (pss_cons (ps_expr (pe_callO Hfit_lengths hr (by decide) rfl (pa_cons (pv 1) (pa_cons (pv 2) pa_nil))))
  (pss_one (ps_ret (pe_callTy call_tuple_of rfl bl.tup boot_tuple (pa_cons (pe_lc (own := [("near", 3), ("far", 4)]) (g := (gTup K 2 (gCons (gName 3) (gCons (gName 4) gNil)))) (tt := tYes) rfl nd (RZ.pi_zipA rfl bl.zip (pa_cons (pv 1) (pa_cons (pv 2) pa_nil))) (blkOk_by (N := Nrow_sum) (sc := defScope (top 15)) (by decide +kernel)) (fun _ _ _ _ _ => (pg_tup rfl (pgs_cons (pg_name (i := 3) nd rfl (by first | exact Or.inl rfl | exact Or.inr rfl)) (pgs_cons (pg_name (i := 4) nd rfl (by first | exact Or.inl rfl | exact Or.inr rfl)) pgs_nil)))) (fun _ _ _ _ _ => pts_nil) (fun _ _ _ _ _ => (pe_op op_mod (pe_op op_add (pv 3) (pv 4)) (pv 0)))) pa_nil)))))
theorem okrow_sum (bl : Bl mg) (Hfit_lengths : OkF P w K mg base "fit_lengths" ["one", "other"] (spT P w f_fit_lengths) 1) (F : ∃ fa fd, mg "row_sum" = some (.ref fa) ∧ FnP K "row_sum" (top 15) fa fd) : OkF P w K mg base "row_sum" ["p", "one", "other"] (spT P w f_row_sum) 2 :=
  okf_mk (t_row_sum P w K) F scrow_sum (fun _ _ _ _ _ _ us hl => match us, hl with | [_, _, _], _ => rfl) len_row_sum (fun _ _ _ _ _ _ _ hr => dvrow_sum bl Hfit_lengths hr) ex_row_sum

theorem len_row_times : ∀ as n Po, f_row_times as n Po → as.length = 3 := by
  intro as n Po h
  obtain ⟨_, _, _, _, e, _⟩ := h
  rw [e]
  rfl

theorem scrow_times : FnScope Nrow_times ["p", "digit", "row"] (defScope (top 16)) := ⟨rfl, rfl, rfl, by decide +kernel, rfl, by decide +kernel, by decide +kernel⟩
theorem dvrow_times (bl : Bl mg) {cdv : Value} {A : Around} {outer : List Env} {s : Shared} {H : Hp} {E : XK} {fa : Addr} (hr : Room 0 (A.deeper (envOfC "row_times" (defScope (top 16)) s.heap.objs.size fa cdv))) : PSs (cxOf CX0 P w K mg base Nrow_times "row_times" (defScope (top 16)) fa cdv A outer s H E).nox (defBody (top 16)) (t_row_times P w K) := by
  have nd := scrow_times.nd
  exact (pss_one (ps_ret (pe_callTy call_tuple_of rfl bl.tup boot_tuple (pa_cons (pe_lc (own := [("own", 3)]) (g := (gName 3)) (tt := tYes) rfl nd (pi_or (pi_list (pv 2)) (pi_tup (pv 2))) (blkOk_by (N := Nrow_times) (sc := defScope (top 16)) (by decide +kernel)) (fun _ _ _ _ _ => (pg_name (i := 3) nd rfl (by first | exact Or.inl rfl | exact Or.inr rfl))) (fun _ _ _ _ _ => pts_nil) (fun _ _ _ _ _ => (pe_op op_mod (pe_op op_mul (pv 1) (pv 3)) (pv 0)))) pa_nil))))
theorem okrow_times (bl : Bl mg) (F : ∃ fa fd, mg "row_times" = some (.ref fa) ∧ FnP K "row_times" (top 16) fa fd) : OkF P w K mg base "row_times" ["p", "digit", "row"] (spT P w f_row_times) 1 :=
  okf_mk (t_row_times P w K) F scrow_times (fun _ _ _ _ _ _ us hl => match us, hl with | [_, _, _], _ => rfl) len_row_times (fun _ _ _ _ _ _ _ hr => dvrow_times bl  hr) ex_row_times

theorem len_sure_guard : ∀ as n Po, f_sure_guard as n Po → as.length = 2 := by
  intro as n Po h
  obtain ⟨_, _, _, _, e, _⟩ := h
  rw [e]
  rfl

theorem scsure_guard : FnScope Nsure_guard ["key", "guard"] (defScope (top 19)) := ⟨rfl, rfl, rfl, by decide +kernel, rfl, by decide +kernel, by decide +kernel⟩
theorem dvsure_guard (bl : Bl mg) {cdv : Value} {A : Around} {outer : List Env} {s : Shared} {H : Hp} {E : XK} {fa : Addr} (hr : Room 0 (A.deeper (envOfC "sure_guard" (defScope (top 19)) s.heap.objs.size fa cdv))) : PSs (cxOf CX0 P w K mg base Nsure_guard "sure_guard" (defScope (top 19)) fa cdv A outer s H E).nox (defBody (top 19)) (t_sure_guard P w K) := by
  have nd := scsure_guard.nd
  exact (pss_one (ps_if (PW.pt (pw_or (pt_cmpR op_ne (pe_ix ix_seq (pv 0) pe_int (fun _ _ => rfl)) (pe_ix ix_seq (pv 1) pe_int (fun _ _ => rfl)) (nomark _)) (pw_or1 (pt_cmpR op_ne (pe_callB call_len_seq rfl bl.len boot_len (pa_cons (pe_ix ix_seq (pv 0) pe_int (fun _ _ => rfl)) pa_nil)) (pe_callB call_len_seq rfl bl.len boot_len (pa_cons (pe_ix ix_seq (pv 1) pe_int (fun _ _ => rfl)) pa_nil)) (nomark _))))) pss_never pss_nil))
theorem oksure_guard (bl : Bl mg) (F : ∃ fa fd, mg "sure_guard" = some (.ref fa) ∧ FnP K "sure_guard" (top 19) fa fd) : OkF P w K mg base "sure_guard" ["key", "guard"] (spT P w f_sure_guard) 1 :=
  okf_mk (t_sure_guard P w K) F scsure_guard (fun _ _ _ _ _ _ us hl => match us, hl with | [_, _], _ => rfl) len_sure_guard (fun _ _ _ _ _ _ _ hr => dvsure_guard bl  hr) ex_sure_guard

theorem len_how_many_rows : ∀ as n Po, f_how_many_rows as n Po → as.length = 2 := by
  intro as n Po h
  obtain ⟨_, _, e, _⟩ := h
  rw [e]
  rfl

theorem schow_many_rows : FnScope Nhow_many_rows ["p", "many"] (defScope (top 20)) := ⟨rfl, rfl, rfl, by decide +kernel, rfl, by decide +kernel, by decide +kernel⟩
theorem dvhow_many_rows (bl : Bl mg) {cdv : Value} {A : Around} {outer : List Env} {s : Shared} {H : Hp} {E : XK} {fa : Addr} (hr : Room 0 (A.deeper (envOfC "how_many_rows" (defScope (top 20)) s.heap.objs.size fa cdv))) : PSs (cxOf CX0 P w K mg base Nhow_many_rows "how_many_rows" (defScope (top 20)) fa cdv A outer s H E).nox (defBody (top 20)) (t_how_many_rows P w K) := by
  have nd := schow_many_rows.nd
  exact (pss_cons (ps_set (i := 2) nd rfl (by first | exact Or.inl rfl | exact Or.inr rfl) pe_int)
  (pss_cons (ps_for PassesOwn.never rfl (pi_range1 rfl bl.rng (pa_cons (pv 1) pa_nil)) (pg_name (i := 3) nd rfl (by first | exact Or.inl rfl | exact Or.inr rfl)) (pss_one (ps_set (i := 2) nd rfl (by first | exact Or.inl rfl | exact Or.inr rfl) (pe_op op_mul (pv 2) (pv 0)))))
  (pss_one (ps_ret (pv 2)))))
theorem okhow_many_rows (bl : Bl mg) (F : ∃ fa fd, mg "how_many_rows" = some (.ref fa) ∧ FnP K "how_many_rows" (top 20) fa fd) : OkF P w K mg base "how_many_rows" ["p", "many"] (spT P w f_how_many_rows) 1 :=
  okf_mk (t_how_many_rows P w K) F schow_many_rows (fun _ _ _ _ _ _ us hl => match us, hl with | [_, _], _ => rfl) len_how_many_rows (fun _ _ _ _ _ _ _ hr => dvhow_many_rows bl  hr) ex_how_many_rows

theorem len_sure_sums : ∀ as n Po, f_sure_sums as n Po → as.length = 2 := by
  intro as n Po h
  obtain ⟨_, _, e, _⟩ := h
  rw [e]
  rfl

theorem scsure_sums : FnScope Nsure_sums ["key", "guard"] (defScope (top 21)) := ⟨rfl, rfl, rfl, by decide +kernel, rfl, by decide +kernel, by decide +kernel⟩
theorem dvsure_sums (bl : Bl mg) (Hhow_many_rows : OkF P w K mg base "how_many_rows" ["p", "many"] (spT P w f_how_many_rows) 1) {cdv : Value} {A : Around} {outer : List Env} {s : Shared} {H : Hp} {E : XK} {fa : Addr} (hr : Room 1 (A.deeper (envOfC "sure_sums" (defScope (top 21)) s.heap.objs.size fa cdv))) : PSs (cxOf CX0 P w K mg base Nsure_sums "sure_sums" (defScope (top 21)) fa cdv A outer s H E).nox (defBody (top 21)) (t_sure_sums P w K) := by
  have nd := scsure_sums.nd
  obtain ⟨tm, hMost⟩ := bl.most
  exact (pss_one (ps_if (pt_cmpR op_gt (pe_callO Hhow_many_rows hr (by decide) rfl (pa_cons (pe_ix ix_seq (pv 0) pe_int (fun _ _ => rfl)) (pa_cons (pe_op op_add (pe_ix ix_seq (pv 0) pe_int (fun _ _ => rfl)) (pe_ix ix_seq (pv 1) pe_int (fun _ _ => rfl))) pa_nil))) (pe_glob rfl hMost ⟨_, rfl⟩) (nomark _)) pss_never pss_nil))
theorem oksure_sums (bl : Bl mg) (Hhow_many_rows : OkF P w K mg base "how_many_rows" ["p", "many"] (spT P w f_how_many_rows) 1) (F : ∃ fa fd, mg "sure_sums" = some (.ref fa) ∧ FnP K "sure_sums" (top 21) fa fd) : OkF P w K mg base "sure_sums" ["key", "guard"] (spT P w f_sure_sums) 2 :=
  okf_mk (t_sure_sums P w K) F scsure_sums (fun _ _ _ _ _ _ us hl => match us, hl with | [_, _], _ => rfl) len_sure_sums (fun _ _ _ _ _ _ _ hr => dvsure_sums bl Hhow_many_rows hr) ex_sure_sums

theorem len_is_forging : ∀ as n Po, f_is_forging as n Po → as.length = 2 := by
  intro as n Po h
  obtain ⟨_, _, _, e, _⟩ := h
  rw [e]
  rfl

theorem scis_forging : FnScope Nis_forging ["key", "thing"] (defScope (top 22)) := ⟨rfl, rfl, rfl, by decide +kernel, rfl, by decide +kernel, by decide +kernel⟩
theorem dvis_forging (bl : Bl mg) (His_from_one : OkF P w K mg base "is_from_one" ["thing"] (spT P w f_is_from_one) 2) (His_below : OkF P w K mg base "is_below" ["thing", "many"] (spT P w f_is_below) 3) (His_tuple_of : OkF P w K mg base "is_tuple_of" ["thing", "size"] (spT P w f_is_tuple_of) 1) (Hascends : OkF P w K mg base "ascends" ["thing"] (spT P w f_ascends) 1) {cdv : Value} {A : Around} {outer : List Env} {s : Shared} {H : Hp} {E : XK} {fa : Addr} (hr : Room 3 (A.deeper (envOfC "is_forging" (defScope (top 22)) s.heap.objs.size fa cdv))) : PSs (cxOf CX0 P w K mg base Nis_forging "is_forging" (defScope (top 22)) fa cdv A outer s H E).nox (defBody (top 22)) (t_is_forging P w K) := by
  have nd := scis_forging.nd
  exact (pss_cons (ps_if (PW.pt (pw_or (pt_not (pt_val (pe_callB call_isi rfl bl.isi boot_isinstance (pa_cons (pv 1) (pa_cons (pe_bltn rfl bl.tup boot_tuple rfl) pa_nil))))) (pw_or1 (pt_not (pt_val (pe_callB (cr_all rfl) rfl bl.all boot_all (pa_cons (pe_lc (own := [("pair", 2)]) (g := (gName 2)) (tt := tYes) rfl nd (pi_tup (pv 1)) (blkOk_by (N := Nis_forging) (sc := defScope (top 22)) (by decide +kernel)) (fun _ _ _ _ _ => (pg_name (i := 2) nd rfl (by first | exact Or.inl rfl | exact Or.inr rfl))) (fun _ _ _ _ _ => pts_nil) (fun _ _ _ _ _ => (pe_callO His_tuple_of hr (by decide) rfl (pa_cons (pv 2) (pa_cons pe_int pa_nil))))) pa_nil))))))) (pss_one (ps_ret pe_bl)) pss_nil)
  (pss_cons (ps_if (pt_not (pt_val (pe_callB (cr_all rfl) rfl bl.all boot_all (pa_cons (pe_lc (own := [("cell", 3), ("digit", 4)]) (g := (gTup K 2 (gCons (gName 3) (gCons (gName 4) gNil)))) (tt := tYes) rfl nd (pi_tup (pv 1)) (blkOk_by (N := Nis_forging) (sc := defScope (top 22)) (by decide +kernel)) (fun _ _ _ _ _ => (pg_tup rfl (pgs_cons (pg_name (i := 3) nd rfl (by first | exact Or.inl rfl | exact Or.inr rfl)) (pgs_cons (pg_name (i := 4) nd rfl (by first | exact Or.inl rfl | exact Or.inr rfl)) pgs_nil)))) (fun _ _ _ _ _ => pts_nil) (fun _ _ _ _ _ => (pe_and (pe_callO His_below hr (by decide) rfl (pa_cons (pv 3) (pa_cons (pe_callB call_len_seq rfl bl.len boot_len (pa_cons (pe_ix ix_seq (pv 0) pe_int (fun _ _ => rfl)) pa_nil)) pa_nil))) (pe_and (pe_callO His_from_one hr (by decide) rfl (pa_cons (pv 4) pa_nil)) (pe_one (pe_cmpR op_lt (pv 4) (pe_ix ix_seq (pv 0) pe_int (fun _ _ => rfl)) (nomark _))))))) pa_nil)))) (pss_one (ps_ret pe_bl)) pss_nil)
  (pss_one (ps_ret (pe_callO Hascends hr (by decide) rfl (pa_cons (pe_lc (own := [("cell", 3), ("_", 5)]) (g := (gTup K 2 (gCons (gName 3) (gCons (gName 5) gNil)))) (tt := tYes) rfl nd (pi_tup (pv 1)) (blkOk_by (N := Nis_forging) (sc := defScope (top 22)) (by decide +kernel)) (fun _ _ _ _ _ => (pg_tup rfl (pgs_cons (pg_name (i := 3) nd rfl (by first | exact Or.inl rfl | exact Or.inr rfl)) (pgs_cons (pg_name (i := 5) nd rfl (by first | exact Or.inl rfl | exact Or.inr rfl)) pgs_nil)))) (fun _ _ _ _ _ => pts_nil) (fun _ _ _ _ _ => (pv 3))) pa_nil))))))
theorem okis_forging (bl : Bl mg) (His_from_one : OkF P w K mg base "is_from_one" ["thing"] (spT P w f_is_from_one) 2) (His_below : OkF P w K mg base "is_below" ["thing", "many"] (spT P w f_is_below) 3) (His_tuple_of : OkF P w K mg base "is_tuple_of" ["thing", "size"] (spT P w f_is_tuple_of) 1) (Hascends : OkF P w K mg base "ascends" ["thing"] (spT P w f_ascends) 1) (F : ∃ fa fd, mg "is_forging" = some (.ref fa) ∧ FnP K "is_forging" (top 22) fa fd) : OkF P w K mg base "is_forging" ["key", "thing"] (spT P w f_is_forging) 4 :=
  okf_mk (t_is_forging P w K) F scis_forging (fun _ _ _ _ _ _ us hl => match us, hl with | [_, _], _ => rfl) len_is_forging (fun _ _ _ _ _ _ _ hr => dvis_forging bl His_from_one His_below His_tuple_of Hascends hr) ex_is_forging

theorem len_added_up : ∀ as n Po, f_added_up as n Po → as.length = 2 := by
  intro as n Po h
  obtain ⟨_, _, _, _, e, _⟩ := h
  rw [e]
  rfl

theorem scadded_up : FnScope Nadded_up ["key", "forging"] (defScope (top 23)) := ⟨rfl, rfl, rfl, by decide +kernel, rfl, by decide +kernel, by decide +kernel⟩
theorem dvadded_up (bl : Bl mg) (Hzero_row : OkF P w K mg base "zero_row" ["many"] (spT P w f_zero_row) 1) (Hrow_sum : OkF P w K mg base "row_sum" ["p", "one", "other"] (spT P w f_row_sum) 2) (Hrow_times : OkF P w K mg base "row_times" ["p", "digit", "row"] (spT P w f_row_times) 1) {cdv : Value} {A : Around} {outer : List Env} {s : Shared} {H : Hp} {E : XK} {fa : Addr} (hr : Room 2 (A.deeper (envOfC "added_up" (defScope (top 23)) s.heap.objs.size fa cdv))) : PSs (cxOf CX0 P w K mg base Nadded_up "added_up" (defScope (top 23)) fa cdv A outer s H E).nox (defBody (top 23)) (t_added_up P w K) := by
  have nd := scadded_up.nd
  exact (pss_cons (ps_set (i := 2) nd rfl (by first | exact Or.inl rfl | exact Or.inr rfl) (pe_callO Hzero_row hr (by decide) rfl (pa_cons (pe_ix ix_seq (pv 0) pe_int (fun _ _ => rfl)) pa_nil)))
  (pss_cons (ps_for PassesOwn.never rfl (pi_or (pi_list (pv 1)) (pi_tup (pv 1))) (pg_tup rfl (pgs_cons (pg_name (i := 3) nd rfl (by first | exact Or.inl rfl | exact Or.inr rfl)) (pgs_cons (pg_name (i := 4) nd rfl (by first | exact Or.inl rfl | exact Or.inr rfl)) pgs_nil))) (pss_one (ps_set (i := 2) nd rfl (by first | exact Or.inl rfl | exact Or.inr rfl) (pe_callO Hrow_sum hr (by decide) rfl (pa_cons (pe_ix ix_seq (pv 0) pe_int (fun _ _ => rfl)) (pa_cons (pv 2) (pa_cons (pe_callO Hrow_times hr (by decide) rfl (pa_cons (pe_ix ix_seq (pv 0) pe_int (fun _ _ => rfl)) (pa_cons (pv 4) (pa_cons (pe_ix ix_seq (pe_ix ix_seq (pv 0) pe_int (fun _ _ => rfl)) (pv 3) (fun _ _ => rfl)) pa_nil)))) pa_nil)))))))
  (pss_one (ps_ret (pv 2)))))
theorem okadded_up (bl : Bl mg) (Hzero_row : OkF P w K mg base "zero_row" ["many"] (spT P w f_zero_row) 1) (Hrow_sum : OkF P w K mg base "row_sum" ["p", "one", "other"] (spT P w f_row_sum) 2) (Hrow_times : OkF P w K mg base "row_times" ["p", "digit", "row"] (spT P w f_row_times) 1) (F : ∃ fa fd, mg "added_up" = some (.ref fa) ∧ FnP K "added_up" (top 23) fa fd) : OkF P w K mg base "added_up" ["key", "forging"] (spT P w f_added_up) 3 :=
  okf_mk (t_added_up P w K) F scadded_up (fun _ _ _ _ _ _ us hl => match us, hl with | [_, _], _ => rfl) len_added_up (fun _ _ _ _ _ _ _ hr => dvadded_up bl Hzero_row Hrow_sum Hrow_times hr) ex_added_up

theorem len_sums_of : ∀ as n Po, f_sums_of as n Po → as.length = 3 := by
  intro as n Po h
  obtain ⟨_, _, _, _, _, _, e, _⟩ := h
  rw [e]
  rfl

theorem scsums_of : FnScope Nsums_of ["key", "guard", "forging"] (defScope (top 24)) := ⟨rfl, rfl, rfl, by decide +kernel, rfl, by decide +kernel, by decide +kernel⟩
theorem dvsums_of (bl : Bl mg) (Hsure_guard : OkF P w K mg base "sure_guard" ["key", "guard"] (spT P w f_sure_guard) 1) (Hadded_up : OkF P w K mg base "added_up" ["key", "forging"] (spT P w f_added_up) 3) {cdv : Value} {A : Around} {outer : List Env} {s : Shared} {H : Hp} {E : XK} {fa : Addr} (hr : Room 3 (A.deeper (envOfC "sums_of" (defScope (top 24)) s.heap.objs.size fa cdv))) : PSs (cxOf CX0 P w K mg base Nsums_of "sums_of" (defScope (top 24)) fa cdv A outer s H E).nox (defBody (top 24)) (t_sums_of P w K) := by
  have nd := scsums_of.nd
  exact (pss_cons (ps_expr (pe_callO Hsure_guard hr (by decide) rfl (pa_cons (pv 0) (pa_cons (pv 1) pa_nil))))
  (pss_one (ps_ret (pe_tup (pa_cons (pe_callO Hadded_up hr (by decide) rfl (pa_cons (pv 1) (pa_cons (pv 2) pa_nil))) (pa_cons (pe_callO Hadded_up hr (by decide) rfl (pa_cons (pv 0) (pa_cons (pv 2) pa_nil))) pa_nil))))))
theorem oksums_of (bl : Bl mg) (Hsure_guard : OkF P w K mg base "sure_guard" ["key", "guard"] (spT P w f_sure_guard) 1) (Hadded_up : OkF P w K mg base "added_up" ["key", "forging"] (spT P w f_added_up) 3) (F : ∃ fa fd, mg "sums_of" = some (.ref fa) ∧ FnP K "sums_of" (top 24) fa fd) : OkF P w K mg base "sums_of" ["key", "guard", "forging"] (spT P w f_sums_of) 4 :=
  okf_mk (t_sums_of P w K) F scsums_of (fun _ _ _ _ _ _ us hl => match us, hl with | [_, _, _], _ => rfl) len_sums_of (fun _ _ _ _ _ _ _ hr => dvsums_of bl Hsure_guard Hadded_up hr) ex_sums_of

theorem len_with_cell : ∀ as n Po, f_with_cell as n Po → as.length = 5 := by
  intro as n Po h
  obtain ⟨_, _, _, _, _, _, e, _⟩ := h
  rw [e]
  rfl

theorem scwith_cell : FnScope Nwith_cell ["p", "found", "cell", "near", "far"] (defScope (top 25)) := ⟨rfl, rfl, rfl, by decide +kernel, rfl, by decide +kernel, by decide +kernel⟩
theorem dvwith_cell (bl : Bl mg) (Hrow_sum : OkF P w K mg base "row_sum" ["p", "one", "other"] (spT P w f_row_sum) 2) (Hrow_times : OkF P w K mg base "row_times" ["p", "digit", "row"] (spT P w f_row_times) 1) {cdv : Value} {A : Around} {outer : List Env} {s : Shared} {H : Hp} {E : XK} {fa : Addr} (hr : Room 2 (A.deeper (envOfC "with_cell" (defScope (top 25)) s.heap.objs.size fa cdv))) : PSs (cxOf CX0 P w K mg base Nwith_cell "with_cell" (defScope (top 25)) fa cdv A outer s H E).nox (defBody (top 25)) (t_with_cell P w K) := by
  have nd := scwith_cell.nd
  exact (pss_cons (ps_set (i := 5) nd rfl (by first | exact Or.inl rfl | exact Or.inr rfl) (pe_callTy (call_copyN (Room.b hr)) rfl bl.dict boot_dict (pa_cons (pv 1) pa_nil)))
  (pss_cons (ps_for PassesOwn.never rfl (pi_itemsN (pv 1)) (pg_tup rfl (pgs_cons (pg_tup rfl (pgs_cons (pg_name (i := 6) nd rfl (by first | exact Or.inl rfl | exact Or.inr rfl)) (pgs_cons (pg_name (i := 7) nd rfl (by first | exact Or.inl rfl | exact Or.inr rfl)) pgs_nil))) (pgs_cons (pg_name (i := 8) nd rfl (by first | exact Or.inl rfl | exact Or.inr rfl)) pgs_nil))) (pss_one (ps_for PassesOwn.never rfl (pi_range2 rfl bl.rng (pa_cons pe_int (pa_cons (pv 0) pa_nil))) (pg_name (i := 9) nd rfl (by first | exact Or.inl rfl | exact Or.inr rfl)) (pss_cons (ps_set (i := 10) nd rfl (by first | exact Or.inl rfl | exact Or.inr rfl) (pe_tup (pa_cons (pe_callO Hrow_sum hr (by decide) rfl (pa_cons (pv 0) (pa_cons (pv 6) (pa_cons (pe_callO Hrow_times hr (by decide) rfl (pa_cons (pv 0) (pa_cons (pv 9) (pa_cons (pv 3) pa_nil)))) pa_nil)))) (pa_cons (pe_callO Hrow_sum hr (by decide) rfl (pa_cons (pv 0) (pa_cons (pv 7) (pa_cons (pe_callO Hrow_times hr (by decide) rfl (pa_cons (pv 0) (pa_cons (pv 9) (pa_cons (pv 4) pa_nil)))) pa_nil)))) pa_nil))))
  (pss_one (ps_if (PW.pt (pw_or (pt_cmpR (op_notInN (Room.c hr)) (pv 10) (pv 5) rfl) (pw_or1 (pt_cmpR op_lt (pe_op op_add (pe_callB call_len_seq rfl bl.len boot_len (pa_cons (pv 8) pa_nil)) pe_int) (pe_callB call_len_seq rfl bl.len boot_len (pa_cons (pe_ix (ix_N (Room.c hr)) (pv 5) (pv 10) (fun _ _ => rfl)) pa_nil)) (nomark _))))) (pss_one (ps_asg (pe_op op_catA (pv 8) (pe_tup (pa_cons (pe_tup (pa_cons (pv 2) (pa_cons (pv 9) pa_nil))) pa_nil))) (pg_sub (pv 5) (pv 10) (set_N (Room.c hr)) (fun _ => rfl)))) pss_nil))))))
  (pss_one (ps_ret (pv 5)))))
theorem okwith_cell (bl : Bl mg) (Hrow_sum : OkF P w K mg base "row_sum" ["p", "one", "other"] (spT P w f_row_sum) 2) (Hrow_times : OkF P w K mg base "row_times" ["p", "digit", "row"] (spT P w f_row_times) 1) (F : ∃ fa fd, mg "with_cell" = some (.ref fa) ∧ FnP K "with_cell" (top 25) fa fd) : OkF P w K mg base "with_cell" ["p", "found", "cell", "near", "far"] (spT P w f_with_cell) 3 :=
  okf_mk (t_with_cell P w K) F scwith_cell (fun _ _ _ _ _ _ us hl => match us, hl with | [_, _, _, _, _], _ => rfl) len_with_cell (fun _ _ _ _ _ _ _ hr => dvwith_cell bl Hrow_sum Hrow_times hr) ex_with_cell

theorem len_fewest_table : ∀ as n Po, f_fewest_table as n Po → as.length = 2 := by
  intro as n Po h
  obtain ⟨_, _, e, _⟩ := h
  rw [e]
  rfl

theorem scfewest_table : FnScope Nfewest_table ["key", "guard"] (defScope (top 26)) := ⟨rfl, rfl, rfl, by decide +kernel, rfl, by decide +kernel, by decide +kernel⟩
theorem dvfewest_table (bl : Bl mg) (Hzero_row : OkF P w K mg base "zero_row" ["many"] (spT P w f_zero_row) 1) (Hsure_guard : OkF P w K mg base "sure_guard" ["key", "guard"] (spT P w f_sure_guard) 1) (Hsure_sums : OkF P w K mg base "sure_sums" ["key", "guard"] (spT P w f_sure_sums) 2) (Hwith_cell : OkF P w K mg base "with_cell" ["p", "found", "cell", "near", "far"] (spT P w f_with_cell) 3) {cdv : Value} {A : Around} {outer : List Env} {s : Shared} {H : Hp} {E : XK} {fa : Addr} (hr : Room 3 (A.deeper (envOfC "fewest_table" (defScope (top 26)) s.heap.objs.size fa cdv))) : PSs (cxOf CX0 P w K mg base Nfewest_table "fewest_table" (defScope (top 26)) fa cdv A outer s H E).nox (defBody (top 26)) (t_fewest_table P w K) := by
  have nd := scfewest_table.nd
  exact (pss_cons (ps_expr (pe_callO Hsure_guard hr (by decide) rfl (pa_cons (pv 0) (pa_cons (pv 1) pa_nil))))
  (pss_cons (ps_expr (pe_callO Hsure_sums hr (by decide) rfl (pa_cons (pv 0) (pa_cons (pv 1) pa_nil))))
  (pss_cons (ps_set (i := 2) nd rfl (by first | exact Or.inl rfl | exact Or.inr rfl) (pe_dispN (Room.c hr) (pe_tup (pa_cons (pe_callO Hzero_row hr (by decide) rfl (pa_cons (pe_ix ix_seq (pv 1) pe_int (fun _ _ => rfl)) pa_nil)) (pa_cons (pe_callO Hzero_row hr (by decide) rfl (pa_cons (pe_ix ix_seq (pv 0) pe_int (fun _ _ => rfl)) pa_nil)) pa_nil))) (pe_tup pa_nil)))
  (pss_cons (ps_for PassesOwn.never rfl (pi_enumZ rfl bl.enum rfl bl.zip (pa_cons (pe_ix ix_seq (pv 0) pe_int (fun _ _ => rfl)) (pa_cons (pe_ix ix_seq (pv 1) pe_int (fun _ _ => rfl)) pa_nil))) (pg_tup rfl (pgs_cons (pg_name (i := 3) nd rfl (by first | exact Or.inl rfl | exact Or.inr rfl)) (pgs_cons (pg_tup rfl (pgs_cons (pg_name (i := 4) nd rfl (by first | exact Or.inl rfl | exact Or.inr rfl)) (pgs_cons (pg_name (i := 5) nd rfl (by first | exact Or.inl rfl | exact Or.inr rfl)) pgs_nil))) pgs_nil))) (pss_one (ps_set (i := 2) nd rfl (by first | exact Or.inl rfl | exact Or.inr rfl) (pe_callO Hwith_cell hr (by decide) rfl (pa_cons (pe_ix ix_seq (pv 0) pe_int (fun _ _ => rfl)) (pa_cons (pv 2) (pa_cons (pv 3) (pa_cons (pv 5) (pa_cons (pv 4) pa_nil)))))))))
  (pss_one (ps_ret (pv 2)))))))
theorem okfewest_table (bl : Bl mg) (Hzero_row : OkF P w K mg base "zero_row" ["many"] (spT P w f_zero_row) 1) (Hsure_guard : OkF P w K mg base "sure_guard" ["key", "guard"] (spT P w f_sure_guard) 1) (Hsure_sums : OkF P w K mg base "sure_sums" ["key", "guard"] (spT P w f_sure_sums) 2) (Hwith_cell : OkF P w K mg base "with_cell" ["p", "found", "cell", "near", "far"] (spT P w f_with_cell) 3) (F : ∃ fa fd, mg "fewest_table" = some (.ref fa) ∧ FnP K "fewest_table" (top 26) fa fd) : OkF P w K mg base "fewest_table" ["key", "guard"] (spT P w f_fewest_table) 4 :=
  okf_mk (t_fewest_table P w K) F scfewest_table (fun _ _ _ _ _ _ us hl => match us, hl with | [_, _], _ => rfl) len_fewest_table (fun _ _ _ _ _ _ _ hr => dvfewest_table bl Hzero_row Hsure_guard Hsure_sums Hwith_cell hr) ex_fewest_table

theorem len_fewest_false : ∀ as n Po, f_fewest_false as n Po → as.length = 2 := by
  intro as n Po h
  obtain ⟨_, _, e, _⟩ := h
  rw [e]
  rfl

theorem scfewest_false : FnScope Nfewest_false ["key", "guard"] (defScope (top 27)) := ⟨rfl, rfl, rfl, by decide +kernel, rfl, by decide +kernel, by decide +kernel⟩
theorem dvfewest_false (bl : Bl mg) (Hzero_row : OkF P w K mg base "zero_row" ["many"] (spT P w f_zero_row) 1) (Hfewest_table : OkF P w K mg base "fewest_table" ["key", "guard"] (spT P w f_fewest_table) 4) {cdv : Value} {A : Around} {outer : List Env} {s : Shared} {H : Hp} {E : XK} {fa : Addr} (hr : Room 4 (A.deeper (envOfC "fewest_false" (defScope (top 27)) s.heap.objs.size fa cdv))) : PSs (cxOf CX0 P w K mg base Nfewest_false "fewest_false" (defScope (top 27)) fa cdv A outer s H E).nox (defBody (top 27)) (t_fewest_false P w K) := by
  have nd := scfewest_false.nd
  exact (pss_cons (ps_par (i := 2) (j := 3) rfl nd rfl rfl (by decide) rfl rfl (pa_cons pe_non (pa_cons (pe_tup (pa_cons (pe_callO Hzero_row hr (by decide) rfl (pa_cons (pe_ix ix_seq (pv 1) pe_int (fun _ _ => rfl)) pa_nil)) (pa_cons (pe_callO Hzero_row hr (by decide) rfl (pa_cons (pe_ix ix_seq (pv 0) pe_int (fun _ _ => rfl)) pa_nil)) pa_nil))) pa_nil)) rfl)
  (pss_cons (ps_for PassesOwn.never rfl (pi_itemsN (pe_callO Hfewest_table hr (by decide) rfl (pa_cons (pv 0) (pa_cons (pv 1) pa_nil)))) (pg_tup rfl (pgs_cons (pg_name (i := 4) nd rfl (by first | exact Or.inl rfl | exact Or.inr rfl)) (pgs_cons (pg_name (i := 5) nd rfl (by first | exact Or.inl rfl | exact Or.inr rfl)) pgs_nil))) (pss_one (ps_if (PW.pt (pw_and (pt_cmpR (op_eqD (Room.a hr)) (pe_ix ix_seq (pv 4) pe_int (fun _ _ => rfl)) (pe_ix ix_seq (pv 3) pe_int (fun _ _ => rfl)) (nomark _)) (pw_and (pt_cmpR (op_neD (Room.a hr)) (pe_ix ix_seq (pv 4) pe_int (fun _ _ => rfl)) (pe_ix ix_seq (pv 3) pe_int (fun _ _ => rfl)) (nomark _)) (pw_and1 (PW.pt (pw_or (pt_cmpR op_isN (pv 2) pe_non (nomark _)) (pw_or1 (pt_cmpR op_lt (pe_callB call_len_seq rfl bl.len boot_len (pa_cons (pv 5) pa_nil)) (pe_callB call_len_seq rfl bl.len boot_len (pa_cons (pv 2) pa_nil)) (nomark _))))))))) (pss_one (ps_set (i := 2) nd rfl (by first | exact Or.inl rfl | exact Or.inr rfl) (pv 5))) pss_nil)))
  (pss_one (ps_ret (pv 2)))))
theorem okfewest_false (bl : Bl mg) (Hzero_row : OkF P w K mg base "zero_row" ["many"] (spT P w f_zero_row) 1) (Hfewest_table : OkF P w K mg base "fewest_table" ["key", "guard"] (spT P w f_fewest_table) 4) (F : ∃ fa fd, mg "fewest_false" = some (.ref fa) ∧ FnP K "fewest_false" (top 27) fa fd) : OkF P w K mg base "fewest_false" ["key", "guard"] (spT P w f_fewest_false) 5 :=
  okf_mk (t_fewest_false P w K) F scfewest_false (fun _ _ _ _ _ _ us hl => match us, hl with | [_, _], _ => rfl) len_fewest_false (fun _ _ _ _ _ _ _ hr => dvfewest_false bl Hzero_row Hfewest_table hr) ex_fewest_false

theorem len_least_false : ∀ as n Po, f_least_false as n Po → as.length = 2 := by
  intro as n Po h
  obtain ⟨_, _, _, _, e, _⟩ := h
  rw [e]
  rfl

theorem scleast_false : FnScope Nleast_false ["key", "guard"] (defScope (top 28)) := ⟨rfl, rfl, rfl, by decide +kernel, rfl, by decide +kernel, by decide +kernel⟩
theorem dvleast_false (bl : Bl mg) (Htupled : OkF P w K mg base "tupled" ["thing"] (spT P w f_tupled) 5) (Hfewest_false : OkF P w K mg base "fewest_false" ["key", "guard"] (spT P w f_fewest_false) 5) {cdv : Value} {A : Around} {outer : List Env} {s : Shared} {H : Hp} {E : XK} {fa : Addr} (hr : Room 5 (A.deeper (envOfC "least_false" (defScope (top 28)) s.heap.objs.size fa cdv))) : PSs (cxOf CX0 P w K mg base Nleast_false "least_false" (defScope (top 28)) fa cdv A outer s H E).nox (defBody (top 28)) (t_least_false P w K) := by
  have nd := scleast_false.nd
  exact (pss_cons (ps_set (i := 2) nd rfl (by first | exact Or.inl rfl | exact Or.inr rfl) (pe_callO Hfewest_false hr (by decide) rfl (pa_cons (pe_callO Htupled hr (by decide) rfl (pa_cons (pv 0) pa_nil)) (pa_cons (pe_callO Htupled hr (by decide) rfl (pa_cons (pv 1) pa_nil)) pa_nil))))
  (pss_one (ps_ret (pe_ifExp (pt_cmpR op_isN (pv 2) pe_non (nomark _)) pe_non (pe_callB call_len_seq rfl bl.len boot_len (pa_cons (pv 2) pa_nil))))))
theorem okleast_false (bl : Bl mg) (Htupled : OkF P w K mg base "tupled" ["thing"] (spT P w f_tupled) 5) (Hfewest_false : OkF P w K mg base "fewest_false" ["key", "guard"] (spT P w f_fewest_false) 5) (F : ∃ fa fd, mg "least_false" = some (.ref fa) ∧ FnP K "least_false" (top 28) fa fd) : OkF P w K mg base "least_false" ["key", "guard"] (spT P w f_least_false) 6 :=
  okf_mk (t_least_false P w K) F scleast_false (fun _ _ _ _ _ _ us hl => match us, hl with | [_, _], _ => rfl) len_least_false (fun _ _ _ _ _ _ _ hr => dvleast_false bl Htupled Hfewest_false hr) ex_least_false

theorem len_is_false_forging : ∀ as n Po, f_is_false_forging as n Po → as.length = 4 := by
  intro as n Po h
  obtain ⟨_, _, _, _, _, e, _⟩ := h
  rw [e]
  rfl

theorem scis_false_forging : FnScope Nis_false_forging ["key", "guard", "most", "thing"] (defScope (top 30)) := ⟨rfl, rfl, rfl, by decide +kernel, rfl, by decide +kernel, by decide +kernel⟩
theorem dvis_false_forging (bl : Bl mg) (Hzero_row : OkF P w K mg base "zero_row" ["many"] (spT P w f_zero_row) 1) (Hsure_guard : OkF P w K mg base "sure_guard" ["key", "guard"] (spT P w f_sure_guard) 1) (His_forging : OkF P w K mg base "is_forging" ["key", "thing"] (spT P w f_is_forging) 4) (Hsums_of : OkF P w K mg base "sums_of" ["key", "guard", "forging"] (spT P w f_sums_of) 4) {cdv : Value} {A : Around} {outer : List Env} {s : Shared} {H : Hp} {E : XK} {fa : Addr} (hr : Room 4 (A.deeper (envOfC "is_false_forging" (defScope (top 30)) s.heap.objs.size fa cdv))) : PSs (cxOf CX0 P w K mg base Nis_false_forging "is_false_forging" (defScope (top 30)) fa cdv A outer s H E).nox (defBody (top 30)) (t_is_false_forging P w K) := by
  have nd := scis_false_forging.nd
  exact (pss_cons (ps_expr (pe_callO Hsure_guard hr (by decide) rfl (pa_cons (pv 0) (pa_cons (pv 1) pa_nil))))
  (pss_cons (ps_if (PW.pt (pw_or (pt_not (pt_val (pe_callO His_forging hr (by decide) rfl (pa_cons (pv 0) (pa_cons (pv 3) pa_nil))))) (pw_or1 (pt_cmpR op_gt (pe_callB call_len_seq rfl bl.len boot_len (pa_cons (pv 3) pa_nil)) (pv 2) (nomark _))))) (pss_one (ps_ret pe_bl)) pss_nil)
  (pss_cons (ps_asg (pe_callO Hsums_of hr (by decide) rfl (pa_cons (pv 0) (pa_cons (pv 1) (pa_cons (pv 3) pa_nil)))) (pg_tup rfl (pgs_cons (pg_name (i := 4) nd rfl (by first | exact Or.inl rfl | exact Or.inr rfl)) (pgs_cons (pg_name (i := 5) nd rfl (by first | exact Or.inl rfl | exact Or.inr rfl)) pgs_nil))))
  (pss_one (ps_ret (pe_and (pe_cmpR (op_eqD (Room.a hr)) (pv 4) (pe_callO Hzero_row hr (by decide) rfl (pa_cons (pe_ix ix_seq (pv 1) pe_int (fun _ _ => rfl)) pa_nil)) (nomark _)) (pe_one (pe_cmpR (op_neD (Room.a hr)) (pv 5) (pe_callO Hzero_row hr (by decide) rfl (pa_cons (pe_ix ix_seq (pv 0) pe_int (fun _ _ => rfl)) pa_nil)) (nomark _)))))))))
theorem okis_false_forging (bl : Bl mg) (Hzero_row : OkF P w K mg base "zero_row" ["many"] (spT P w f_zero_row) 1) (Hsure_guard : OkF P w K mg base "sure_guard" ["key", "guard"] (spT P w f_sure_guard) 1) (His_forging : OkF P w K mg base "is_forging" ["key", "thing"] (spT P w f_is_forging) 4) (Hsums_of : OkF P w K mg base "sums_of" ["key", "guard", "forging"] (spT P w f_sums_of) 4) (F : ∃ fa fd, mg "is_false_forging" = some (.ref fa) ∧ FnP K "is_false_forging" (top 30) fa fd) : OkF P w K mg base "is_false_forging" ["key", "guard", "most", "thing"] (spT P w f_is_false_forging) 5 :=
  okf_mk (t_is_false_forging P w K) F scis_false_forging (fun _ _ _ _ _ _ us hl => match us, hl with | [_, _, _, _], _ => rfl) len_is_false_forging (fun _ _ _ _ _ _ _ hr => dvis_false_forging bl Hzero_row Hsure_guard His_forging Hsums_of hr) ex_is_false_forging

theorem len_mends : ∀ as n Po, f_mends as n Po → as.length = 3 := by
  intro as n Po h
  obtain ⟨_, _, _, _, _, e, _⟩ := h
  rw [e]
  rfl

theorem scmends : FnScope Nmends ["key", "guard", "most"] (defScope (top 31)) := ⟨rfl, rfl, rfl, by decide +kernel, rfl, by decide +kernel, by decide +kernel⟩
theorem dvmends (bl : Bl mg) (Hleast_false : OkF P w K mg base "least_false" ["key", "guard"] (spT P w f_least_false) 6) {cdv : Value} {A : Around} {outer : List Env} {s : Shared} {H : Hp} {E : XK} {fa : Addr} (hr : Room 6 (A.deeper (envOfC "mends" (defScope (top 31)) s.heap.objs.size fa cdv))) : PSs (cxOf CX0 P w K mg base Nmends "mends" (defScope (top 31)) fa cdv A outer s H E).nox (defBody (top 31)) (t_mends P w K) := by
  have nd := scmends.nd
  exact (pss_cons (ps_set (i := 3) nd rfl (by first | exact Or.inl rfl | exact Or.inr rfl) (pe_callO Hleast_false hr (by decide) rfl (pa_cons (pv 0) (pa_cons (pv 1) pa_nil))))
  (pss_one (ps_ret (pe_or (pe_cmpR op_isN (pv 3) pe_non (nomark _)) (pe_one (pe_cmpR op_gt (pv 3) (pe_op op_mul pe_int (pv 2)) (nomark _)))))))
theorem okmends (bl : Bl mg) (Hleast_false : OkF P w K mg base "least_false" ["key", "guard"] (spT P w f_least_false) 6) (F : ∃ fa fd, mg "mends" = some (.ref fa) ∧ FnP K "mends" (top 31) fa fd) : OkF P w K mg base "mends" ["key", "guard", "most"] (spT P w f_mends) 7 :=
  okf_mk (t_mends P w K) F scmends (fun _ _ _ _ _ _ us hl => match us, hl with | [_, _, _], _ => rfl) len_mends (fun _ _ _ _ _ _ _ hr => dvmends bl Hleast_false hr) ex_mends

theorem len_most_mended : ∀ as n Po, f_most_mended as n Po → as.length = 2 := by
  intro as n Po h
  obtain ⟨_, _, _, _, e, _⟩ := h
  rw [e]
  rfl

theorem scmost_mended : FnScope Nmost_mended ["key", "guard"] (defScope (top 32)) := ⟨rfl, rfl, rfl, by decide +kernel, rfl, by decide +kernel, by decide +kernel⟩
theorem dvmost_mended (bl : Bl mg) (Hleast_false : OkF P w K mg base "least_false" ["key", "guard"] (spT P w f_least_false) 6) {cdv : Value} {A : Around} {outer : List Env} {s : Shared} {H : Hp} {E : XK} {fa : Addr} (hr : Room 6 (A.deeper (envOfC "most_mended" (defScope (top 32)) s.heap.objs.size fa cdv))) : PSs (cxOf CX0 P w K mg base Nmost_mended "most_mended" (defScope (top 32)) fa cdv A outer s H E).nox (defBody (top 32)) (t_most_mended P w K) := by
  have nd := scmost_mended.nd
  exact (pss_cons (ps_set (i := 2) nd rfl (by first | exact Or.inl rfl | exact Or.inr rfl) (pe_callO Hleast_false hr (by decide) rfl (pa_cons (pv 0) (pa_cons (pv 1) pa_nil))))
  (pss_one (ps_ret (pe_ifExp (pt_cmpR op_isN (pv 2) pe_non (nomark _)) pe_non (pe_op op_fdiv (pe_op op_sub (pv 2) pe_int) pe_int)))))
theorem okmost_mended (bl : Bl mg) (Hleast_false : OkF P w K mg base "least_false" ["key", "guard"] (spT P w f_least_false) 6) (F : ∃ fa fd, mg "most_mended" = some (.ref fa) ∧ FnP K "most_mended" (top 32) fa fd) : OkF P w K mg base "most_mended" ["key", "guard"] (spT P w f_most_mended) 7 :=
  okf_mk (t_most_mended P w K) F scmost_mended (fun _ _ _ _ _ _ us hl => match us, hl with | [_, _], _ => rfl) len_most_mended (fun _ _ _ _ _ _ _ hr => dvmost_mended bl Hleast_false hr) ex_most_mended

theorem len_most_told : ∀ as n Po, f_most_told as n Po → as.length = 2 := by
  intro as n Po h
  obtain ⟨_, _, _, _, e, _⟩ := h
  rw [e]
  rfl

theorem scmost_told : FnScope Nmost_told ["key", "guard"] (defScope (top 33)) := ⟨rfl, rfl, rfl, by decide +kernel, rfl, by decide +kernel, by decide +kernel⟩
theorem dvmost_told (bl : Bl mg) (Hleast_false : OkF P w K mg base "least_false" ["key", "guard"] (spT P w f_least_false) 6) {cdv : Value} {A : Around} {outer : List Env} {s : Shared} {H : Hp} {E : XK} {fa : Addr} (hr : Room 6 (A.deeper (envOfC "most_told" (defScope (top 33)) s.heap.objs.size fa cdv))) : PSs (cxOf CX0 P w K mg base Nmost_told "most_told" (defScope (top 33)) fa cdv A outer s H E).nox (defBody (top 33)) (t_most_told P w K) := by
  have nd := scmost_told.nd
  exact (pss_cons (ps_set (i := 2) nd rfl (by first | exact Or.inl rfl | exact Or.inr rfl) (pe_callO Hleast_false hr (by decide) rfl (pa_cons (pv 0) (pa_cons (pv 1) pa_nil))))
  (pss_one (ps_ret (pe_ifExp (pt_cmpR op_isN (pv 2) pe_non (nomark _)) pe_non (pe_op op_sub (pv 2) pe_int)))))
theorem okmost_told (bl : Bl mg) (Hleast_false : OkF P w K mg base "least_false" ["key", "guard"] (spT P w f_least_false) 6) (F : ∃ fa fd, mg "most_told" = some (.ref fa) ∧ FnP K "most_told" (top 33) fa fd) : OkF P w K mg base "most_told" ["key", "guard"] (spT P w f_most_told) 7 :=
  okf_mk (t_most_told P w K) F scmost_told (fun _ _ _ _ _ _ us hl => match us, hl with | [_, _], _ => rfl) len_most_told (fun _ _ _ _ _ _ _ hr => dvmost_told bl Hleast_false hr) ex_most_told

theorem len__law_take : ∀ as n Po, f__law_take as n Po → as.length = 2 := by
  intro as n Po h
  obtain ⟨_, e, _⟩ := h
  rw [e]
  rfl

theorem sc_law_take : FnScope N_law_take ["_law_tin", "_law_below_so"] (defScope (top 36)) := ⟨rfl, rfl, rfl, by decide +kernel, rfl, by decide +kernel, by decide +kernel⟩
theorem dv_law_take (bl : Bl mg) {cdv : Value} {A : Around} {outer : List Env} {s : Shared} {H : Hp} {E : XK} {fa : Addr} (hr : Room 0 (A.deeper (envOfC "_law_take" (defScope (top 36)) s.heap.objs.size fa cdv))) : PSs (cxOf CX0 P w K mg base N_law_take "_law_take" (defScope (top 36)) fa cdv A outer s H E).nox (defBody (top 36)) (t__law_take P w K) := by
  have nd := sc_law_take.nd
  exact (pss_cons (ps_if (pt_cmpR op_gt (pe_ix ix_seq (pv 0) pe_int (fun _ _ => rfl)) pe_int (nomark _)) (pss_cons (ps_set (i := 2) nd rfl (by first | exact Or.inl rfl | exact Or.inr rfl) (pe_op op_mod (pe_callTy call_int1 rfl bl.int boot_int (pa_cons (pe_ix ix_seq (pv 0) pe_int (fun _ _ => rfl)) pa_nil)) (pv 1)))
  (pss_cons (ps_asg (pe_op op_fdiv (pe_ix ix_seq (pv 0) pe_int (fun _ _ => rfl)) (pv 1)) (pg_sub (pv 0) pe_int set_list (fun _ => rfl)))
  (pss_one (ps_ret (pv 2))))) pss_nil)
  (pss_cons (ps_asg (pe_op op_add (pe_ix ix_seq (pv 0) pe_int (fun _ _ => rfl)) pe_int) (pg_sub (pv 0) pe_int set_list (fun _ => rfl)))
  (pss_cons (ps_set (i := 3) nd rfl (by first | exact Or.inl rfl | exact Or.inr rfl) (pe_op op_mod (pe_callTy call_int1 rfl bl.int boot_int (pa_cons (pe_op op_mul (pe_op op_add (pe_ix ix_seq (pv 0) pe_int (fun _ _ => rfl)) (pe_op op_mul pe_int (pe_ix ix_seq (pv 0) pe_int (fun _ _ => rfl)))) (pe_op op_add pe_int (pe_ix ix_seq (pv 0) pe_int (fun _ _ => rfl)))) pa_nil)) pe_int))
  (pss_cons (ps_set (i := 4) nd rfl (by first | exact Or.inl rfl | exact Or.inr rfl) (pe_op op_add (pe_op op_mod (pe_callTy call_int1 rfl bl.int boot_int (pa_cons (pv 3) pa_nil)) pe_int) pe_int))
  (pss_cons (ps_set (i := 5) nd rfl (by first | exact Or.inl rfl | exact Or.inr rfl) (pe_op op_mod (pe_callTy call_int1 rfl bl.int boot_int (pa_cons (pe_op op_mul (pe_op op_add (pe_op op_add (pv 3) (pe_ix ix_seq (pv 0) pe_int (fun _ _ => rfl))) (pe_op op_fdiv (pe_ix ix_seq (pv 0) pe_int (fun _ _ => rfl)) pe_int)) (pv 4)) pa_nil)) pe_int))
  (pss_one (ps_ret (pe_op op_mod (pe_callTy call_int1 rfl bl.int boot_int (pa_cons (pe_op op_fdiv (pe_op op_mod (pe_callTy call_int1 rfl bl.int boot_int (pa_cons (pe_op op_add (pe_op op_mul (pv 5) pe_int) (pv 3)) pa_nil)) pe_int) pe_int) pa_nil)) (pv 1)))))))))
theorem ok_law_take (bl : Bl mg) (F : ∃ fa fd, mg "_law_take" = some (.ref fa) ∧ FnP K "_law_take" (top 36) fa fd) : OkF P w K mg base "_law_take" ["_law_tin", "_law_below_so"] (spT P w f__law_take) 1 :=
  okf_mk (t__law_take P w K) F sc_law_take (fun _ _ _ _ _ _ us hl => match us, hl with | [_, _], _ => rfl) len__law_take (fun _ _ _ _ _ _ _ hr => dv_law_take bl  hr) ex__law_take

theorem len__law_of : ∀ as n Po, f__law_of as n Po → as.length = 2 := by
  intro as n Po h
  obtain ⟨_, e, _⟩ := h
  rw [e]
  rfl

theorem sc_law_of : FnScope N_law_of ["_law_tin", "_law_goods_so"] (defScope (top 38)) := ⟨rfl, rfl, rfl, by decide +kernel, rfl, by decide +kernel, by decide +kernel⟩
theorem dv_law_of (bl : Bl mg) (H_law_take : OkF P w K mg base "_law_take" ["_law_tin", "_law_below_so"] (spT P w f__law_take) 1) {cdv : Value} {A : Around} {outer : List Env} {s : Shared} {H : Hp} {E : XK} {fa : Addr} (hr : Room 1 (A.deeper (envOfC "_law_of" (defScope (top 38)) s.heap.objs.size fa cdv))) : PSs (cxOf CX0 P w K mg base N_law_of "_law_of" (defScope (top 38)) fa cdv A outer s H E).nox (defBody (top 38)) (t__law_of P w K) := by
  have nd := sc_law_of.nd
  exact (pss_one (ps_ret (pe_ix ix_seq (pv 1) (pe_callO H_law_take hr (by decide) rfl (pa_cons (pv 0) (pa_cons (pe_callB call_len_seq rfl bl.len boot_len (pa_cons (pv 1) pa_nil)) pa_nil))) (fun _ _ => rfl))))
theorem ok_law_of (bl : Bl mg) (H_law_take : OkF P w K mg base "_law_take" ["_law_tin", "_law_below_so"] (spT P w f__law_take) 1) (F : ∃ fa fd, mg "_law_of" = some (.ref fa) ∧ FnP K "_law_of" (top 38) fa fd) : OkF P w K mg base "_law_of" ["_law_tin", "_law_goods_so"] (spT P w f__law_of) 2 :=
  okf_mk (t__law_of P w K) F sc_law_of (fun _ _ _ _ _ _ us hl => match us, hl with | [_, _], _ => rfl) len__law_of (fun _ _ _ _ _ _ _ hr => dv_law_of bl H_law_take hr) ex__law_of

theorem len__law_pick : ∀ as n Po, f__law_pick as n Po → as.length = 3 := by
  intro as n Po h
  obtain ⟨_, _, e, _⟩ := h
  rw [e]
  rfl

theorem sc_law_pick : FnScope N_law_pick ["_law_tin", "_law_goods_so", "_law_count_so"] (defScope (top 39)) := ⟨rfl, rfl, rfl, by decide +kernel, rfl, by decide +kernel, by decide +kernel⟩
theorem dv_law_pick (bl : Bl mg) (H_law_take : OkF P w K mg base "_law_take" ["_law_tin", "_law_below_so"] (spT P w f__law_take) 1) {cdv : Value} {A : Around} {outer : List Env} {s : Shared} {H : Hp} {E : XK} {fa : Addr} (hr : Room 1 (A.deeper (envOfC "_law_pick" (defScope (top 39)) s.heap.objs.size fa cdv))) : PSs (cxOf CX0 P w K mg base N_law_pick "_law_pick" (defScope (top 39)) fa cdv A outer s H E).nox (defBody (top 39)) (t__law_pick P w K) := by
  have nd := sc_law_pick.nd
  exact (pss_cons (ps_par (i := 3) (j := 4) rfl nd rfl rfl (by decide) rfl rfl (pa_cons (pe_callTy call_list_of rfl bl.list boot_list (pa_cons (pv 1) pa_nil)) (pa_cons (pe_lst pa_nil) pa_nil)) rfl)
  (pss_cons (ps_for PassesOwn.never rfl (pi_range1 rfl bl.rng (pa_cons (pe_callB (call_min2 rfl) rfl bl.min boot_min (pa_cons (pe_callTy call_int1 rfl bl.int boot_int (pa_cons (pv 2) pa_nil)) (pa_cons (pe_callB call_len_seq rfl bl.len boot_len (pa_cons (pv 3) pa_nil)) pa_nil))) pa_nil)) (pg_name (i := 5) nd rfl (by first | exact Or.inl rfl | exact Or.inr rfl)) (pss_one (ps_expr (pe_bm PySem.F.plainAttrs_list PySem.F.slot_list_append PySem.F.type_list_append mt_append (pv 4) (pa_cons (pe_bm PySem.F.plainAttrs_list PySem.F.slot_list_pop PySem.F.type_list_pop mt_popAt (pv 3) (pa_cons (pe_callO H_law_take hr (by decide) rfl (pa_cons (pv 0) (pa_cons (pe_callB call_len_seq rfl bl.len boot_len (pa_cons (pv 3) pa_nil)) pa_nil))) pa_nil)) pa_nil)))))
  (pss_one (ps_ret (pv 4)))))
theorem ok_law_pick (bl : Bl mg) (H_law_take : OkF P w K mg base "_law_take" ["_law_tin", "_law_below_so"] (spT P w f__law_take) 1) (F : ∃ fa fd, mg "_law_pick" = some (.ref fa) ∧ FnP K "_law_pick" (top 39) fa fd) : OkF P w K mg base "_law_pick" ["_law_tin", "_law_goods_so", "_law_count_so"] (spT P w f__law_pick) 2 :=
  okf_mk (t__law_pick P w K) F sc_law_pick (fun _ _ _ _ _ _ us hl => match us, hl with | [_, _, _], _ => rfl) len__law_pick (fun _ _ _ _ _ _ _ hr => dv_law_pick bl H_law_take hr) ex__law_pick

theorem len__law_is_number : ∀ as n Po, f__law_is_number as n Po → as.length = 1 := by
  intro as n Po h
  obtain ⟨_, e, _⟩ := h
  rw [e]
  rfl

theorem sc_law_is_number : FnScope N_law_is_number ["_law_own"] (defScope (top 42)) := ⟨rfl, rfl, rfl, by decide +kernel, rfl, by decide +kernel, by decide +kernel⟩
theorem dv_law_is_number (bl : Bl mg) {cdv : Value} {A : Around} {outer : List Env} {s : Shared} {H : Hp} {E : XK} {fa : Addr} (hr : Room 0 (A.deeper (envOfC "_law_is_number" (defScope (top 42)) s.heap.objs.size fa cdv))) : PSs (cxOf CX0 P w K mg base N_law_is_number "_law_is_number" (defScope (top 42)) fa cdv A outer s H E).nox (defBody (top 42)) (t__law_is_number P w K) := by
  have nd := sc_law_is_number.nd
  exact (pss_one (ps_ret (pe_and (pe_callB call_isi rfl bl.isi boot_isinstance (pa_cons (pv 0) (pa_cons (pe_bltn rfl bl.int boot_int rfl) pa_nil))) (pe_one (pe_not (pe_callB call_isi rfl bl.isi boot_isinstance (pa_cons (pv 0) (pa_cons (pe_bltn rfl bl.bool boot_bool rfl) pa_nil))))))))
theorem ok_law_is_number (bl : Bl mg) (F : ∃ fa fd, mg "_law_is_number" = some (.ref fa) ∧ FnP K "_law_is_number" (top 42) fa fd) : OkF P w K mg base "_law_is_number" ["_law_own"] (spT P w f__law_is_number) 1 :=
  okf_mk (t__law_is_number P w K) F sc_law_is_number (fun _ _ _ _ _ _ us hl => match us, hl with | [_], _ => rfl) len__law_is_number (fun _ _ _ _ _ _ _ hr => dv_law_is_number bl  hr) ex__law_is_number

theorem len__law_row_plus : ∀ as n Po, f__law_row_plus as n Po → as.length = 3 := by
  intro as n Po h
  obtain ⟨_, _, _, e, _⟩ := h
  rw [e]
  rfl

theorem sc_law_row_plus : FnScope N_law_row_plus ["_law_one_so", "_law_two_so", "_law_p_so"] (defScope (top 43)) := ⟨rfl, rfl, rfl, by decide +kernel, rfl, by decide +kernel, by decide +kernel⟩
theorem dv_law_row_plus (bl : Bl mg) {cdv : Value} {A : Around} {outer : List Env} {s : Shared} {H : Hp} {E : XK} {fa : Addr} (hr : Room 0 (A.deeper (envOfC "_law_row_plus" (defScope (top 43)) s.heap.objs.size fa cdv))) : PSs (cxOf CX0 P w K mg base N_law_row_plus "_law_row_plus" (defScope (top 43)) fa cdv A outer s H E).nox (defBody (top 43)) (t__law_row_plus P w K) := by
  have nd := sc_law_row_plus.nd
  exact (pss_one (ps_ret (pe_callTy call_tuple_of rfl bl.tup boot_tuple (pa_cons (pe_lc (own := [("_law_near_so", 3), ("_law_far_so", 4)]) (g := (gTup K 2 (gCons (gName 3) (gCons (gName 4) gNil)))) (tt := tYes) rfl nd (RZ.pi_zipA rfl bl.zip (pa_cons (pv 0) (pa_cons (pv 1) pa_nil))) (blkOk_by (N := N_law_row_plus) (sc := defScope (top 43)) (by decide +kernel)) (fun _ _ _ _ _ => (pg_tup rfl (pgs_cons (pg_name (i := 3) nd rfl (by first | exact Or.inl rfl | exact Or.inr rfl)) (pgs_cons (pg_name (i := 4) nd rfl (by first | exact Or.inl rfl | exact Or.inr rfl)) pgs_nil)))) (fun _ _ _ _ _ => pts_nil) (fun _ _ _ _ _ => (pe_op op_mod (pe_op op_add (pv 3) (pv 4)) (pv 2)))) pa_nil))))
theorem ok_law_row_plus (bl : Bl mg) (F : ∃ fa fd, mg "_law_row_plus" = some (.ref fa) ∧ FnP K "_law_row_plus" (top 43) fa fd) : OkF P w K mg base "_law_row_plus" ["_law_one_so", "_law_two_so", "_law_p_so"] (spT P w f__law_row_plus) 1 :=
  okf_mk (t__law_row_plus P w K) F sc_law_row_plus (fun _ _ _ _ _ _ us hl => match us, hl with | [_, _, _], _ => rfl) len__law_row_plus (fun _ _ _ _ _ _ _ hr => dv_law_row_plus bl  hr) ex__law_row_plus

theorem len__law_row_times : ∀ as n Po, f__law_row_times as n Po → as.length = 3 := by
  intro as n Po h
  obtain ⟨_, _, _, e, _⟩ := h
  rw [e]
  rfl

theorem sc_law_row_times : FnScope N_law_row_times ["_law_digit_so", "_law_row_so", "_law_p_so"] (defScope (top 44)) := ⟨rfl, rfl, rfl, by decide +kernel, rfl, by decide +kernel, by decide +kernel⟩
theorem dv_law_row_times (bl : Bl mg) {cdv : Value} {A : Around} {outer : List Env} {s : Shared} {H : Hp} {E : XK} {fa : Addr} (hr : Room 0 (A.deeper (envOfC "_law_row_times" (defScope (top 44)) s.heap.objs.size fa cdv))) : PSs (cxOf CX0 P w K mg base N_law_row_times "_law_row_times" (defScope (top 44)) fa cdv A outer s H E).nox (defBody (top 44)) (t__law_row_times P w K) := by
  have nd := sc_law_row_times.nd
  exact (pss_one (ps_ret (pe_callTy call_tuple_of rfl bl.tup boot_tuple (pa_cons (pe_lc (own := [("_law_own", 3)]) (g := (gName 3)) (tt := tYes) rfl nd (pi_tup (pv 1)) (blkOk_by (N := N_law_row_times) (sc := defScope (top 44)) (by decide +kernel)) (fun _ _ _ _ _ => (pg_name (i := 3) nd rfl (by first | exact Or.inl rfl | exact Or.inr rfl))) (fun _ _ _ _ _ => pts_nil) (fun _ _ _ _ _ => (pe_op op_mod (pe_op op_mul (pv 0) (pv 3)) (pv 2)))) pa_nil))))
theorem ok_law_row_times (bl : Bl mg) (F : ∃ fa fd, mg "_law_row_times" = some (.ref fa) ∧ FnP K "_law_row_times" (top 44) fa fd) : OkF P w K mg base "_law_row_times" ["_law_digit_so", "_law_row_so", "_law_p_so"] (spT P w f__law_row_times) 1 :=
  okf_mk (t__law_row_times P w K) F sc_law_row_times (fun _ _ _ _ _ _ us hl => match us, hl with | [_, _, _], _ => rfl) len__law_row_times (fun _ _ _ _ _ _ _ hr => dv_law_row_times bl  hr) ex__law_row_times

theorem len__law_band_key : ∀ as n Po, f__law_band_key as n Po → as.length = 4 := by
  intro as n Po h
  obtain ⟨_, _, _, e, _⟩ := h
  rw [e]
  rfl

theorem sc_law_band_key : FnScope N_law_band_key ["_law_tin", "_law_p_so", "_law_cells_so", "_law_many_so"] (defScope (top 46)) := ⟨rfl, rfl, rfl, by decide +kernel, rfl, by decide +kernel, by decide +kernel⟩
theorem dv_law_band_key (bl : Bl mg) (H_law_take : OkF P w K mg base "_law_take" ["_law_tin", "_law_below_so"] (spT P w f__law_take) 1) {cdv : Value} {A : Around} {outer : List Env} {s : Shared} {H : Hp} {E : XK} {fa : Addr} (hr : Room 1 (A.deeper (envOfC "_law_band_key" (defScope (top 46)) s.heap.objs.size fa cdv))) : PSs (cxOf CX0 P w K mg base N_law_band_key "_law_band_key" (defScope (top 46)) fa cdv A outer s H E).nox (defBody (top 46)) (t__law_band_key P w K) := by
  have nd := sc_law_band_key.nd
  exact (pss_cons (ps_setLc (i := 4) (own := [("_law_lap", 11)]) (g := (gName 11)) (tt := tYes) rfl nd rfl rfl rfl (pi_range1 rfl bl.rng (pa_cons (pe_op op_add pe_int (pe_callO H_law_take hr (by decide) rfl (pa_cons (pv 0) (pa_cons pe_int pa_nil)))) pa_nil)) (blkOk_by (N := N_law_band_key) (sc := defScope (top 46)) (by decide +kernel)) (fun _ _ _ _ _ => (pg_name (i := 11) nd rfl (by first | exact Or.inl rfl | exact Or.inr rfl))) (fun _ _ _ _ _ => pts_nil) (fun _ _ _ _ _ => (pe_callTy call_tuple_of rfl bl.tup boot_tuple (pa_cons (pe_lc (own := [("_law_k", 9)]) (g := (gName 9)) (tt := tYes) rfl nd (pi_range1 rfl bl.rng (pa_cons pe_int pa_nil)) (blkOk_by (N := N_law_band_key) (sc := relS (compScope1__law_band_key) (defScope (top 46))) (by decide +kernel)) (fun _ _ _ _ _ => (pg_name (i := 9) nd rfl (by first | exact Or.inl rfl | exact Or.inr rfl))) (fun _ _ _ _ _ => pts_nil) (fun _ _ _ _ _ => (pe_callO H_law_take hr (by decide) rfl (pa_cons (pv 0) (pa_cons (pv 1) pa_nil))))) pa_nil))))
  (pss_cons (ps_set (i := 5) nd rfl (by first | exact Or.inl rfl | exact Or.inr rfl) (pe_lst pa_nil))
  (pss_cons (ps_for PassesOwn.never rfl (pi_range1 rfl bl.rng (pa_cons (pv 2) pa_nil)) (pg_name (i := 6) nd rfl (by first | exact Or.inl rfl | exact Or.inr rfl)) (pss_cons (ps_par (i := 7) (j := 8) rfl nd rfl rfl (by decide) rfl rfl (pa_cons (pe_op op_rep (pe_lst (pa_cons pe_int pa_nil)) (pv 3)) (pa_cons (pe_ix ix_seq (pv 4) (pe_op op_mod (pv 6) (pe_callB call_len_seq rfl bl.len boot_len (pa_cons (pv 4) pa_nil))) (fun _ _ => rfl)) pa_nil)) rfl)
  (pss_cons (ps_for PassesOwn.never rfl (pi_enumT rfl bl.enum (pa_cons (pv 8) pa_nil)) (pg_tup rfl (pgs_cons (pg_name (i := 9) nd rfl (by first | exact Or.inl rfl | exact Or.inr rfl)) (pgs_cons (pg_name (i := 10) nd rfl (by first | exact Or.inl rfl | exact Or.inr rfl)) pgs_nil))) (pss_one (ps_if (pt_cmpR op_lt (pe_op op_add (pe_op op_fdiv (pv 6) (pe_callB call_len_seq rfl bl.len boot_len (pa_cons (pv 4) pa_nil))) (pv 9)) (pv 3) (nomark _)) (pss_one (ps_asg (pv 10) (pg_sub (pv 7) (pe_op op_add (pe_op op_fdiv (pv 6) (pe_callB call_len_seq rfl bl.len boot_len (pa_cons (pv 4) pa_nil))) (pv 9)) set_list (fun _ => rfl)))) pss_nil)))
  (pss_one (ps_expr (pe_bm PySem.F.plainAttrs_list PySem.F.slot_list_append PySem.F.type_list_append mt_append (pv 5) (pa_cons (pe_callTy call_tuple_of rfl bl.tup boot_tuple (pa_cons (pv 7) pa_nil)) pa_nil)))))))
  (pss_one (ps_ret (pe_tup (pa_cons (pv 1) (pa_cons (pv 3) (pa_cons (pe_callTy call_tuple_of rfl bl.tup boot_tuple (pa_cons (pv 5) pa_nil)) pa_nil)))))))))
theorem ok_law_band_key (bl : Bl mg) (H_law_take : OkF P w K mg base "_law_take" ["_law_tin", "_law_below_so"] (spT P w f__law_take) 1) (F : ∃ fa fd, mg "_law_band_key" = some (.ref fa) ∧ FnP K "_law_band_key" (top 46) fa fd) : OkF P w K mg base "_law_band_key" ["_law_tin", "_law_p_so", "_law_cells_so", "_law_many_so"] (spT P w f__law_band_key) 2 :=
  okf_mk (t__law_band_key P w K) F sc_law_band_key (fun _ _ _ _ _ _ us hl => match us, hl with | [_, _, _, _], _ => rfl) len__law_band_key (fun _ _ _ _ _ _ _ hr => dv_law_band_key bl H_law_take hr) ex__law_band_key

theorem len__law_key : ∀ as n Po, f__law_key as n Po → as.length = 4 := by
  intro as n Po h
  obtain ⟨_, _, _, e, _⟩ := h
  rw [e]
  rfl

theorem sc_law_key : FnScope N_law_key ["_law_tin", "_law_p_so", "_law_cells_so", "_law_many_so"] (defScope (top 45)) := ⟨rfl, rfl, rfl, by decide +kernel, rfl, by decide +kernel, by decide +kernel⟩
theorem dv_law_key (bl : Bl mg) (H_law_take : OkF P w K mg base "_law_take" ["_law_tin", "_law_below_so"] (spT P w f__law_take) 1) (H_law_of : OkF P w K mg base "_law_of" ["_law_tin", "_law_goods_so"] (spT P w f__law_of) 2) (H_law_band_key : OkF P w K mg base "_law_band_key" ["_law_tin", "_law_p_so", "_law_cells_so", "_law_many_so"] (spT P w f__law_band_key) 2) {cdv : Value} {A : Around} {outer : List Env} {s : Shared} {H : Hp} {E : XK} {fa : Addr} (hr : Room 2 (A.deeper (envOfC "_law_key" (defScope (top 45)) s.heap.objs.size fa cdv))) : PSs (cxOf CX0 P w K mg base N_law_key "_law_key" (defScope (top 45)) fa cdv A outer s H E).nox (defBody (top 45)) (t__law_key P w K) := by
  have nd := sc_law_key.nd
  exact (pss_cons (ps_asg (pe_tup (pa_cons (pe_callO H_law_take hr (by decide) rfl (pa_cons (pv 0) (pa_cons pe_int pa_nil))) (pa_cons (pe_lst pa_nil) pa_nil))) (pg_tup rfl (pgs_cons (pg_name (i := 4) nd rfl (by first | exact Or.inl rfl | exact Or.inr rfl)) (pgs_cons (pg_name (i := 5) nd rfl (by first | exact Or.inl rfl | exact Or.inr rfl)) pgs_nil))))
  (pss_cons (ps_if (PW.pt (pw_and (pt_cmpR op_eq (pv 4) pe_int (nomark _)) (pw_and1 (pt_cmpR op_gt (pv 3) pe_int (nomark _))))) (pss_one (ps_ret (pe_callO H_law_band_key hr (by decide) rfl (pa_cons (pv 0) (pa_cons (pv 1) (pa_cons (pv 2) (pa_cons (pv 3) pa_nil))))))) pss_nil)
  (pss_cons (ps_for PassesOwn.never rfl (pi_range1 rfl bl.rng (pa_cons (pv 2) pa_nil)) (pg_name (i := 6) nd rfl (by first | exact Or.inl rfl | exact Or.inr rfl)) (pss_one (ps_expr (pe_bm PySem.F.plainAttrs_list PySem.F.slot_list_append PySem.F.type_list_append mt_append (pv 5) (pa_cons (pe_callTy call_tuple_of rfl bl.tup boot_tuple (pa_cons (pe_lc (own := [("_law_k", 8)]) (g := (gName 8)) (tt := tYes) rfl nd (pi_range1 rfl bl.rng (pa_cons (pv 3) pa_nil)) (blkOk_by (N := N_law_key) (sc := defScope (top 45)) (by decide +kernel)) (fun _ _ _ _ _ => (pg_name (i := 8) nd rfl (by first | exact Or.inl rfl | exact Or.inr rfl))) (fun _ _ _ _ _ => pts_nil) (fun _ _ _ _ _ => (pe_callO H_law_of hr (by decide) rfl (pa_cons (pv 0) (pa_cons (pe_lst (pa_cons pe_int (pa_cons (pe_callO H_law_take hr (by decide) rfl (pa_cons (pv 0) (pa_cons (pv 1) pa_nil))) pa_nil))) pa_nil))))) pa_nil)) pa_nil)))))
  (pss_cons (ps_if (pt_cmpR op_eq (pv 4) pe_int (nomark _)) (pss_one (ps_set (i := 5) nd rfl (by first | exact Or.inl rfl | exact Or.inr rfl) (pe_lc (own := [("_law_own", 9)]) (g := (gName 9)) (tt := tYes) rfl nd (pi_list (pv 5)) (blkOk_by (N := N_law_key) (sc := defScope (top 45)) (by decide +kernel)) (fun _ _ _ _ _ => (pg_name (i := 9) nd rfl (by first | exact Or.inl rfl | exact Or.inr rfl))) (fun _ _ _ _ _ => pts_nil) (fun _ _ _ _ _ => (pe_callO H_law_of hr (by decide) rfl (pa_cons (pv 0) (pa_cons (pe_slice sl_list (pv 5) po_none (po_some pe_int)) pa_nil))))))) pss_nil)
  (pss_cons (ps_if (PW.pt (pw_and (pt_cmpR op_eq (pv 4) pe_int (nomark _)) (pw_and1 (pt_cmpR op_gt (pv 3) pe_int (nomark _))))) (pss_cons (ps_set (i := 7) nd rfl (by first | exact Or.inl rfl | exact Or.inr rfl) (pe_callO H_law_take hr (by decide) rfl (pa_cons (pv 0) (pa_cons (pv 3) pa_nil))))
  (pss_one (ps_set (i := 5) nd rfl (by first | exact Or.inl rfl | exact Or.inr rfl) (pe_lc (own := [("_law_own", 9)]) (g := (gName 9)) (tt := tYes) rfl nd (pi_list (pv 5)) (blkOk_by (N := N_law_key) (sc := defScope (top 45)) (by decide +kernel)) (fun _ _ _ _ _ => (pg_name (i := 9) nd rfl (by first | exact Or.inl rfl | exact Or.inr rfl))) (fun _ _ _ _ _ => pts_nil) (fun _ _ _ _ _ => (pe_op op_catA (pe_op op_catA (pe_slice sl_tupA (pv 9) po_none (po_some (pv 7))) (pe_tup (pa_cons pe_int pa_nil))) (pe_slice sl_tupA (pv 9) (po_some (pe_op op_add (pv 7) pe_int)) po_none))))))) pss_nil)
  (pss_one (ps_ret (pe_tup (pa_cons (pv 1) (pa_cons (pv 3) (pa_cons (pe_callTy call_tuple_of rfl bl.tup boot_tuple (pa_cons (pv 5) pa_nil)) pa_nil)))))))))))
theorem ok_law_key (bl : Bl mg) (H_law_take : OkF P w K mg base "_law_take" ["_law_tin", "_law_below_so"] (spT P w f__law_take) 1) (H_law_of : OkF P w K mg base "_law_of" ["_law_tin", "_law_goods_so"] (spT P w f__law_of) 2) (H_law_band_key : OkF P w K mg base "_law_band_key" ["_law_tin", "_law_p_so", "_law_cells_so", "_law_many_so"] (spT P w f__law_band_key) 2) (F : ∃ fa fd, mg "_law_key" = some (.ref fa) ∧ FnP K "_law_key" (top 45) fa fd) : OkF P w K mg base "_law_key" ["_law_tin", "_law_p_so", "_law_cells_so", "_law_many_so"] (spT P w f__law_key) 3 :=
  okf_mk (t__law_key P w K) F sc_law_key (fun _ _ _ _ _ _ us hl => match us, hl with | [_, _, _, _], _ => rfl) len__law_key (fun _ _ _ _ _ _ _ hr => dv_law_key bl H_law_take H_law_of H_law_band_key hr) ex__law_key

theorem len__law_three : ∀ as n Po, f__law_three as n Po → as.length = 0 := by
  intro as n Po h
  obtain ⟨e, _⟩ := h
  rw [e]
  rfl

theorem sc_law_three : FnScope N_law_three [] (defScope (top 47)) := ⟨rfl, rfl, rfl, by decide +kernel, rfl, by decide +kernel, by decide +kernel⟩
theorem dv_law_three (bl : Bl mg) {cdv : Value} {A : Around} {outer : List Env} {s : Shared} {H : Hp} {E : XK} {fa : Addr} (hr : Room 0 (A.deeper (envOfC "_law_three" (defScope (top 47)) s.heap.objs.size fa cdv))) : PSs (cxOf CX0 P w K mg base N_law_three "_law_three" (defScope (top 47)) fa cdv A outer s H E).nox (defBody (top 47)) (t__law_three P w K) := by
  have nd := sc_law_three.nd
  exact (pss_cons (ps_asg (pe_tup (pa_cons (pe_tup (pa_cons pe_int (pa_cons pe_int (pa_cons (pe_tup (pa_cons (pe_tup (pa_cons pe_int pa_nil)) (pa_cons (pe_tup (pa_cons pe_int pa_nil)) (pa_cons (pe_tup (pa_cons pe_int pa_nil)) pa_nil)))) pa_nil)))) (pa_cons (pe_tup (pa_cons pe_int (pa_cons pe_int (pa_cons (pe_tup (pa_cons (pe_tup (pa_cons pe_int (pa_cons pe_int pa_nil))) (pa_cons (pe_tup (pa_cons pe_int (pa_cons pe_int pa_nil))) (pa_cons (pe_tup (pa_cons pe_int (pa_cons pe_int pa_nil))) pa_nil)))) pa_nil)))) pa_nil))) (pg_tup rfl (pgs_cons (pg_name (i := 0) nd rfl (by first | exact Or.inl rfl | exact Or.inr rfl)) (pgs_cons (pg_name (i := 1) nd rfl (by first | exact Or.inl rfl | exact Or.inr rfl)) pgs_nil))))
  (pss_one (ps_ret (pe_tup (pa_cons (pv 0) (pa_cons (pv 1) (pa_cons (pe_tup (pa_cons pe_int (pa_cons (pe_tup (pa_cons (pe_tup (pa_cons pe_int (pa_cons pe_int (pa_cons pe_int pa_nil)))) pa_nil)) pa_nil))) (pa_cons (pe_tup (pa_cons pe_int (pa_cons (pe_tup (pa_cons (pe_tup (pa_cons pe_int (pa_cons pe_int (pa_cons pe_int pa_nil)))) pa_nil)) pa_nil))) pa_nil))))))))
theorem ok_law_three (bl : Bl mg) (F : ∃ fa fd, mg "_law_three" = some (.ref fa) ∧ FnP K "_law_three" (top 47) fa fd) : OkF P w K mg base "_law_three" [] (spT P w f__law_three) 1 :=
  okf_mk (t__law_three P w K) F sc_law_three (fun _ _ _ _ _ _ us hl => match us, hl with | [], _ => rfl) len__law_three (fun _ _ _ _ _ _ _ hr => dv_law_three bl  hr) ex__law_three

theorem len__law_keys : ∀ as n Po, f__law_keys as n Po → as.length = 1 := by
  intro as n Po h
  obtain ⟨e, _⟩ := h
  rw [e]
  rfl

theorem sc_law_keys : FnScope N_law_keys ["_law_tin"] (defScope (top 48)) := ⟨rfl, rfl, rfl, by decide +kernel, rfl, by decide +kernel, by decide +kernel⟩
theorem dv_law_keys (bl : Bl mg) (H_law_of : OkF P w K mg base "_law_of" ["_law_tin", "_law_goods_so"] (spT P w f__law_of) 2) (H_law_key : OkF P w K mg base "_law_key" ["_law_tin", "_law_p_so", "_law_cells_so", "_law_many_so"] (spT P w f__law_key) 3) {cdv : Value} {A : Around} {outer : List Env} {s : Shared} {H : Hp} {E : XK} {fa : Addr} (hr : Room 3 (A.deeper (envOfC "_law_keys" (defScope (top 48)) s.heap.objs.size fa cdv))) : PSs (cxOf CX0 P w K mg base N_law_keys "_law_keys" (defScope (top 48)) fa cdv A outer s H E).nox (defBody (top 48)) (t__law_keys P w K) := by
  have nd := sc_law_keys.nd
  exact (pss_cons (ps_set (i := 1) nd rfl (by first | exact Or.inl rfl | exact Or.inr rfl) (pe_callO H_law_of hr (by decide) rfl (pa_cons (pv 0) (pa_cons (pe_lst (pa_cons pe_int (pa_cons pe_int (pa_cons pe_int (pa_cons pe_int (pa_cons pe_int (pa_cons pe_int pa_nil))))))) pa_nil))))
  (pss_cons (ps_set (i := 2) nd rfl (by first | exact Or.inl rfl | exact Or.inr rfl) (pe_callO H_law_of hr (by decide) rfl (pa_cons (pv 0) (pa_cons (pe_dget (Room.d hr) (pe_disp (pps_cons pe_int (pe_lst (pa_cons pe_int (pa_cons pe_int (pa_cons pe_int (pa_cons pe_int (pa_cons pe_int pa_nil)))))) (pps_cons pe_int (pe_lst (pa_cons pe_int (pa_cons pe_int (pa_cons pe_int pa_nil)))) (pps_cons pe_int (pe_lst (pa_cons pe_int (pa_cons pe_int pa_nil))) pps_nil))) rfl rfl (fun z => nomatch z) (by decide)) (pv 1) (fun _ _ => rfl)) pa_nil))))
  (pss_cons (ps_set (i := 3) nd rfl (by first | exact Or.inl rfl | exact Or.inr rfl) (pe_callO H_law_of hr (by decide) rfl (pa_cons (pv 0) (pa_cons (pe_dget (Room.d hr) (pe_disp (pps_cons pe_int (pe_lst (pa_cons pe_int (pa_cons pe_int (pa_cons pe_int (pa_cons pe_int pa_nil))))) (pps_cons pe_int (pe_lst (pa_cons pe_int (pa_cons pe_int (pa_cons pe_int (pa_cons pe_int pa_nil))))) (pps_cons pe_int (pe_lst (pa_cons pe_int (pa_cons pe_int pa_nil))) pps_nil))) rfl rfl (fun z => nomatch z) (by decide)) (pv 1) (fun _ _ => rfl)) pa_nil))))
  (pss_cons (ps_set (i := 4) nd rfl (by first | exact Or.inl rfl | exact Or.inr rfl) (pe_callO H_law_of hr (by decide) rfl (pa_cons (pv 0) (pa_cons (pe_dget (Room.d hr) (pe_disp (pps_cons pe_int (pe_lst (pa_cons pe_int (pa_cons pe_int (pa_cons pe_int (pa_cons pe_int pa_nil))))) (pps_cons pe_int (pe_lst (pa_cons pe_int (pa_cons pe_int (pa_cons pe_int pa_nil)))) (pps_cons pe_int (pe_lst (pa_cons pe_int (pa_cons pe_int pa_nil))) pps_nil))) rfl rfl (fun z => nomatch z) (by decide)) (pv 1) (fun _ _ => rfl)) pa_nil))))
  (pss_one (ps_ret (pe_tup (pa_cons (pe_callO H_law_key hr (by decide) rfl (pa_cons (pv 0) (pa_cons (pv 1) (pa_cons (pv 2) (pa_cons (pv 3) pa_nil))))) (pa_cons (pe_callO H_law_key hr (by decide) rfl (pa_cons (pv 0) (pa_cons (pv 1) (pa_cons (pv 2) (pa_cons (pv 4) pa_nil))))) pa_nil)))))))))
theorem ok_law_keys (bl : Bl mg) (H_law_of : OkF P w K mg base "_law_of" ["_law_tin", "_law_goods_so"] (spT P w f__law_of) 2) (H_law_key : OkF P w K mg base "_law_key" ["_law_tin", "_law_p_so", "_law_cells_so", "_law_many_so"] (spT P w f__law_key) 3) (F : ∃ fa fd, mg "_law_keys" = some (.ref fa) ∧ FnP K "_law_keys" (top 48) fa fd) : OkF P w K mg base "_law_keys" ["_law_tin"] (spT P w f__law_keys) 4 :=
  okf_mk (t__law_keys P w K) F sc_law_keys (fun _ _ _ _ _ _ us hl => match us, hl with | [_], _ => rfl) len__law_keys (fun _ _ _ _ _ _ _ hr => dv_law_keys bl H_law_of H_law_key hr) ex__law_keys

theorem len__law_all : ∀ as n Po, f__law_all as n Po → as.length = 2 := by
  intro as n Po h
  obtain ⟨_, _, e, _⟩ := h
  rw [e]
  rfl

theorem sc_law_all : FnScope N_law_all ["_law_key_so", "_law_guard_so"] (defScope (top 49)) := ⟨rfl, rfl, rfl, by decide +kernel, rfl, by decide +kernel, by decide +kernel⟩
theorem dv_law_all (bl : Bl mg) (H_law_row_plus : OkF P w K mg base "_law_row_plus" ["_law_one_so", "_law_two_so", "_law_p_so"] (spT P w f__law_row_plus) 1) {cdv : Value} {A : Around} {outer : List Env} {s : Shared} {H : Hp} {E : XK} {fa : Addr} (hr : Room 1 (A.deeper (envOfC "_law_all" (defScope (top 49)) s.heap.objs.size fa cdv))) : PSs (cxOf CX0 P w K mg base N_law_all "_law_all" (defScope (top 49)) fa cdv A outer s H E).nox (defBody (top 49)) (t__law_all P w K) := by
  have nd := sc_law_all.nd
  exact (pss_cons (ps_par (i := 2) (j := 3) rfl nd rfl rfl (by decide) rfl rfl (pa_cons (pe_ix ix_seq (pv 0) pe_int (fun _ _ => rfl)) (pa_cons (pe_lst (pa_cons (pe_tup (pa_cons (pe_tupX pa_nil) (pa_cons (pe_op op_repA (pe_tup (pa_cons pe_int pa_nil)) (pe_ix ix_seq (pv 1) pe_int (fun _ _ => rfl))) (pa_cons (pe_op op_repA (pe_tup (pa_cons pe_int pa_nil)) (pe_ix ix_seq (pv 0) pe_int (fun _ _ => rfl))) pa_nil)))) pa_nil)) pa_nil)) rfl)
  (pss_cons (ps_for PassesOwn.never rfl (RZ.pi_zipA rfl bl.zip (pa_cons (pe_ix ix_seq (pv 0) pe_int (fun _ _ => rfl)) (pa_cons (pe_ix ix_seq (pv 1) pe_int (fun _ _ => rfl)) pa_nil))) (pg_tup rfl (pgs_cons (pg_name (i := 4) nd rfl (by first | exact Or.inl rfl | exact Or.inr rfl)) (pgs_cons (pg_name (i := 5) nd rfl (by first | exact Or.inl rfl | exact Or.inr rfl)) pgs_nil))) (pss_cons (ps_set (i := 6) nd rfl (by first | exact Or.inl rfl | exact Or.inr rfl) (pe_lst pa_nil))
  (pss_cons (ps_for PassesOwn.never rfl (pi_list (pv 3)) (pg_tup rfl (pgs_cons (pg_name (i := 7) nd rfl (by first | exact Or.inl rfl | exact Or.inr rfl)) (pgs_cons (pg_name (i := 8) nd rfl (by first | exact Or.inl rfl | exact Or.inr rfl)) (pgs_cons (pg_name (i := 9) nd rfl (by first | exact Or.inl rfl | exact Or.inr rfl)) pgs_nil)))) (pss_one (ps_for PassesOwn.never rfl (pi_range1 rfl bl.rng (pa_cons (pv 2) pa_nil)) (pg_name (i := 10) nd rfl (by first | exact Or.inl rfl | exact Or.inr rfl)) (pss_cons (ps_expr (pe_bm PySem.F.plainAttrs_list PySem.F.slot_list_append PySem.F.type_list_append mt_append (pv 6) (pa_cons (pe_tup (pa_cons (pe_op op_catX (pv 7) (pe_tupX (pa_cons (pv 10) pa_nil))) (pa_cons (pv 8) (pa_cons (pv 9) pa_nil)))) pa_nil)))
  (pss_one (ps_par (i := 8) (j := 9) rfl nd rfl rfl (by decide) rfl rfl (pa_cons (pe_callO H_law_row_plus hr (by decide) rfl (pa_cons (pv 8) (pa_cons (pv 5) (pa_cons (pv 2) pa_nil)))) (pa_cons (pe_callO H_law_row_plus hr (by decide) rfl (pa_cons (pv 9) (pa_cons (pv 4) (pa_cons (pv 2) pa_nil)))) pa_nil)) rfl))))))
  (pss_one (ps_set (i := 3) nd rfl (by first | exact Or.inl rfl | exact Or.inr rfl) (pv 6))))))
  (pss_one (ps_ret (pv 3)))))
theorem ok_law_all (bl : Bl mg) (H_law_row_plus : OkF P w K mg base "_law_row_plus" ["_law_one_so", "_law_two_so", "_law_p_so"] (spT P w f__law_row_plus) 1) (F : ∃ fa fd, mg "_law_all" = some (.ref fa) ∧ FnP K "_law_all" (top 49) fa fd) : OkF P w K mg base "_law_all" ["_law_key_so", "_law_guard_so"] (spT P w f__law_all) 2 :=
  okf_mk (t__law_all P w K) F sc_law_all (fun _ _ _ _ _ _ us hl => match us, hl with | [_, _], _ => rfl) len__law_all (fun _ _ _ _ _ _ _ hr => dv_law_all bl H_law_row_plus hr) ex__law_all

theorem len__law_is_forging : ∀ as n Po, f__law_is_forging as n Po → as.length = 2 := by
  intro as n Po h
  obtain ⟨_, _, _, e, _⟩ := h
  rw [e]
  rfl

theorem sc_law_is_forging : FnScope N_law_is_forging ["_law_key_so", "_law_own"] (defScope (top 50)) := ⟨rfl, rfl, rfl, by decide +kernel, rfl, by decide +kernel, by decide +kernel⟩
theorem dv_law_is_forging (bl : Bl mg) (H_law_is_number : OkF P w K mg base "_law_is_number" ["_law_own"] (spT P w f__law_is_number) 1) {cdv : Value} {A : Around} {outer : List Env} {s : Shared} {H : Hp} {E : XK} {fa : Addr} (hr : Room 1 (A.deeper (envOfC "_law_is_forging" (defScope (top 50)) s.heap.objs.size fa cdv))) : PSs (cxOf CX0 P w K mg base N_law_is_forging "_law_is_forging" (defScope (top 50)) fa cdv A outer s H E).nox (defBody (top 50)) (t__law_is_forging P w K) := by
  have nd := sc_law_is_forging.nd
  exact (pss_cons (ps_if (PW.pt (pw_or (pt_not (pt_val (pe_callB call_isi rfl bl.isi boot_isinstance (pa_cons (pv 1) (pa_cons (pe_bltn rfl bl.tup boot_tuple rfl) pa_nil))))) (pw_or1 (pt_not (pt_val (pe_callB (cr_all rfl) rfl bl.all boot_all (pa_cons (pe_lc (own := [("_law_bit", 3)]) (g := (gName 3)) (tt := tYes) rfl nd (pi_tup (pv 1)) (blkOk_by (N := N_law_is_forging) (sc := defScope (top 50)) (by decide +kernel)) (fun _ _ _ _ _ => (pg_name (i := 3) nd rfl (by first | exact Or.inl rfl | exact Or.inr rfl))) (fun _ _ _ _ _ => pts_nil) (fun _ _ _ _ _ => (pe_and (pe_callB call_isi rfl bl.isi boot_isinstance (pa_cons (pv 3) (pa_cons (pe_bltn rfl bl.tup boot_tuple rfl) pa_nil))) (pe_one (pe_cmpR op_eq (pe_callB call_len_seq rfl bl.len boot_len (pa_cons (pv 3) pa_nil)) pe_int (nomark _)))))) pa_nil))))))) (pss_one (ps_ret pe_bl)) pss_nil)
  (pss_cons (ps_if (pt_not (pt_val (pe_callB (cr_all rfl) rfl bl.all boot_all (pa_cons (pe_lc (own := [("_law_bit", 3)]) (g := (gName 3)) (tt := tYes) rfl nd (pi_tup (pv 1)) (blkOk_by (N := N_law_is_forging) (sc := defScope (top 50)) (by decide +kernel)) (fun _ _ _ _ _ => (pg_name (i := 3) nd rfl (by first | exact Or.inl rfl | exact Or.inr rfl))) (fun _ _ _ _ _ => pts_nil) (fun _ _ _ _ _ => (pe_and (pe_callO H_law_is_number hr (by decide) rfl (pa_cons (pe_ix ix_seq (pv 3) pe_int (fun _ _ => rfl)) pa_nil)) (pe_one (pe_callO H_law_is_number hr (by decide) rfl (pa_cons (pe_ix ix_seq (pv 3) pe_int (fun _ _ => rfl)) pa_nil)))))) pa_nil)))) (pss_one (ps_ret pe_bl)) pss_nil)
  (pss_cons (ps_if (pt_not (pt_val (pe_callB (cr_all rfl) rfl bl.all boot_all (pa_cons (pe_lc (own := [("_law_bit", 3)]) (g := (gName 3)) (tt := tYes) rfl nd (pi_tup (pv 1)) (blkOk_by (N := N_law_is_forging) (sc := defScope (top 50)) (by decide +kernel)) (fun _ _ _ _ _ => (pg_name (i := 3) nd rfl (by first | exact Or.inl rfl | exact Or.inr rfl))) (fun _ _ _ _ _ => pts_nil) (fun _ _ _ _ _ => (pe_and (pe_chain op_le op_lt pe_int (pe_ix ix_seq (pv 3) pe_int (fun _ _ => rfl)) (pe_callB call_len_seq rfl bl.len boot_len (pa_cons (pe_ix ix_seq (pv 0) pe_int (fun _ _ => rfl)) pa_nil))) (pe_one (pe_chain op_lt op_lt pe_int (pe_ix ix_seq (pv 3) pe_int (fun _ _ => rfl)) (pe_ix ix_seq (pv 0) pe_int (fun _ _ => rfl))))))) pa_nil)))) (pss_one (ps_ret pe_bl)) pss_nil)
  (pss_cons (ps_setLc (i := 2) (own := [("_law_bit", 3)]) (g := (gName 3)) (tt := tYes) rfl nd rfl rfl rfl (pi_tup (pv 1)) (blkOk_by (N := N_law_is_forging) (sc := defScope (top 50)) (by decide +kernel)) (fun _ _ _ _ _ => (pg_name (i := 3) nd rfl (by first | exact Or.inl rfl | exact Or.inr rfl))) (fun _ _ _ _ _ => pts_nil) (fun _ _ _ _ _ => (pe_ix ix_seq (pv 3) pe_int (fun _ _ => rfl))))
  (pss_one (ps_ret (pe_cmpR (op_eqD (Room.a hr)) (pv 2) (pe_callB (cr_sortedSet rfl) rfl bl.sorted boot_sorted (pa_cons (pe_callTy (cr_setL rfl) rfl bl.set boot_set (pa_cons (pv 2) pa_nil)) pa_nil)) (nomark _))))))))
theorem ok_law_is_forging (bl : Bl mg) (H_law_is_number : OkF P w K mg base "_law_is_number" ["_law_own"] (spT P w f__law_is_number) 1) (F : ∃ fa fd, mg "_law_is_forging" = some (.ref fa) ∧ FnP K "_law_is_forging" (top 50) fa fd) : OkF P w K mg base "_law_is_forging" ["_law_key_so", "_law_own"] (spT P w f__law_is_forging) 2 :=
  okf_mk (t__law_is_forging P w K) F sc_law_is_forging (fun _ _ _ _ _ _ us hl => match us, hl with | [_, _], _ => rfl) len__law_is_forging (fun _ _ _ _ _ _ _ hr => dv_law_is_forging bl H_law_is_number hr) ex__law_is_forging

theorem len__law_added : ∀ as n Po, f__law_added as n Po → as.length = 2 := by
  intro as n Po h
  obtain ⟨_, _, e, _⟩ := h
  rw [e]
  rfl

theorem sc_law_added : FnScope N_law_added ["_law_key_so", "_law_own"] (defScope (top 51)) := ⟨rfl, rfl, rfl, by decide +kernel, rfl, by decide +kernel, by decide +kernel⟩
theorem dv_law_added (bl : Bl mg) (H_law_row_plus : OkF P w K mg base "_law_row_plus" ["_law_one_so", "_law_two_so", "_law_p_so"] (spT P w f__law_row_plus) 1) (H_law_row_times : OkF P w K mg base "_law_row_times" ["_law_digit_so", "_law_row_so", "_law_p_so"] (spT P w f__law_row_times) 1) {cdv : Value} {A : Around} {outer : List Env} {s : Shared} {H : Hp} {E : XK} {fa : Addr} (hr : Room 1 (A.deeper (envOfC "_law_added" (defScope (top 51)) s.heap.objs.size fa cdv))) : PSs (cxOf CX0 P w K mg base N_law_added "_law_added" (defScope (top 51)) fa cdv A outer s H E).nox (defBody (top 51)) (t__law_added P w K) := by
  have nd := sc_law_added.nd
  exact (pss_cons (ps_set (i := 2) nd rfl (by first | exact Or.inl rfl | exact Or.inr rfl) (pe_op op_repA (pe_tup (pa_cons pe_int pa_nil)) (pe_ix ix_seq (pv 0) pe_int (fun _ _ => rfl))))
  (pss_cons (ps_for PassesOwn.never rfl (pi_tup (pv 1)) (pg_tup rfl (pgs_cons (pg_name (i := 3) nd rfl (by first | exact Or.inl rfl | exact Or.inr rfl)) (pgs_cons (pg_name (i := 4) nd rfl (by first | exact Or.inl rfl | exact Or.inr rfl)) pgs_nil))) (pss_one (ps_set (i := 2) nd rfl (by first | exact Or.inl rfl | exact Or.inr rfl) (pe_callO H_law_row_plus hr (by decide) rfl (pa_cons (pv 2) (pa_cons (pe_callO H_law_row_times hr (by decide) rfl (pa_cons (pv 4) (pa_cons (pe_ix ix_seq (pe_ix ix_seq (pv 0) pe_int (fun _ _ => rfl)) (pv 3) (fun _ _ => rfl)) (pa_cons (pe_ix ix_seq (pv 0) pe_int (fun _ _ => rfl)) pa_nil)))) (pa_cons (pe_ix ix_seq (pv 0) pe_int (fun _ _ => rfl)) pa_nil)))))))
  (pss_one (ps_ret (pv 2)))))
theorem ok_law_added (bl : Bl mg) (H_law_row_plus : OkF P w K mg base "_law_row_plus" ["_law_one_so", "_law_two_so", "_law_p_so"] (spT P w f__law_row_plus) 1) (H_law_row_times : OkF P w K mg base "_law_row_times" ["_law_digit_so", "_law_row_so", "_law_p_so"] (spT P w f__law_row_times) 1) (F : ∃ fa fd, mg "_law_added" = some (.ref fa) ∧ FnP K "_law_added" (top 51) fa fd) : OkF P w K mg base "_law_added" ["_law_key_so", "_law_own"] (spT P w f__law_added) 2 :=
  okf_mk (t__law_added P w K) F sc_law_added (fun _ _ _ _ _ _ us hl => match us, hl with | [_, _], _ => rfl) len__law_added (fun _ _ _ _ _ _ _ hr => dv_law_added bl H_law_row_plus H_law_row_times hr) ex__law_added

theorem len__law_is_false : ∀ as n Po, f__law_is_false as n Po → as.length = 4 := by
  intro as n Po h
  obtain ⟨_, _, _, _, _, e, _⟩ := h
  rw [e]
  rfl

theorem sc_law_is_false : FnScope N_law_is_false ["_law_key_so", "_law_guard_so", "_law_most_so", "_law_own"] (defScope (top 53)) := ⟨rfl, rfl, rfl, by decide +kernel, rfl, by decide +kernel, by decide +kernel⟩
theorem dv_law_is_false (bl : Bl mg) (H_law_is_forging : OkF P w K mg base "_law_is_forging" ["_law_key_so", "_law_own"] (spT P w f__law_is_forging) 2) (H_law_added : OkF P w K mg base "_law_added" ["_law_key_so", "_law_own"] (spT P w f__law_added) 2) {cdv : Value} {A : Around} {outer : List Env} {s : Shared} {H : Hp} {E : XK} {fa : Addr} (hr : Room 2 (A.deeper (envOfC "_law_is_false" (defScope (top 53)) s.heap.objs.size fa cdv))) : PSs (cxOf CX0 P w K mg base N_law_is_false "_law_is_false" (defScope (top 53)) fa cdv A outer s H E).nox (defBody (top 53)) (t__law_is_false P w K) := by
  have nd := sc_law_is_false.nd
  exact (pss_cons (ps_if (PW.pt (pw_or (pt_not (pt_val (pe_callO H_law_is_forging hr (by decide) rfl (pa_cons (pv 0) (pa_cons (pv 3) pa_nil))))) (pw_or1 (pt_cmpR op_gt (pe_callB call_len_seq rfl bl.len boot_len (pa_cons (pv 3) pa_nil)) (pv 2) (nomark _))))) (pss_one (ps_ret pe_bl)) pss_nil)
  (pss_one (ps_ret (pe_and (pe_not (pe_callB (cr_anyI rfl) rfl bl.any boot_any (pa_cons (pe_callO H_law_added hr (by decide) rfl (pa_cons (pv 1) (pa_cons (pv 3) pa_nil))) pa_nil))) (pe_one (pe_callB (cr_anyI rfl) rfl bl.any boot_any (pa_cons (pe_callO H_law_added hr (by decide) rfl (pa_cons (pv 0) (pa_cons (pv 3) pa_nil))) pa_nil)))))))
theorem ok_law_is_false (bl : Bl mg) (H_law_is_forging : OkF P w K mg base "_law_is_forging" ["_law_key_so", "_law_own"] (spT P w f__law_is_forging) 2) (H_law_added : OkF P w K mg base "_law_added" ["_law_key_so", "_law_own"] (spT P w f__law_added) 2) (F : ∃ fa fd, mg "_law_is_false" = some (.ref fa) ∧ FnP K "_law_is_false" (top 53) fa fd) : OkF P w K mg base "_law_is_false" ["_law_key_so", "_law_guard_so", "_law_most_so", "_law_own"] (spT P w f__law_is_false) 3 :=
  okf_mk (t__law_is_false P w K) F sc_law_is_false (fun _ _ _ _ _ _ us hl => match us, hl with | [_, _, _, _], _ => rfl) len__law_is_false (fun _ _ _ _ _ _ _ hr => dv_law_is_false bl H_law_is_forging H_law_added hr) ex__law_is_false

theorem len__law_by_hand_right : ∀ as n Po, f__law_by_hand_right as n Po → as.length = 0 := by
  intro as n Po h
  obtain ⟨e, _⟩ := h
  rw [e]
  rfl

theorem sc_law_by_hand_right : FnScope N_law_by_hand_right [] (defScope (top 52)) := ⟨rfl, rfl, rfl, by decide +kernel, rfl, by decide +kernel, by decide +kernel⟩
theorem dv_law_by_hand_right (bl : Bl mg) (Hleast_false : OkF P w K mg base "least_false" ["key", "guard"] (spT P w f_least_false) 6) (His_false_forging : OkF P w K mg base "is_false_forging" ["key", "guard", "most", "thing"] (spT P w f_is_false_forging) 5) (Hmost_mended : OkF P w K mg base "most_mended" ["key", "guard"] (spT P w f_most_mended) 7) (Hmost_told : OkF P w K mg base "most_told" ["key", "guard"] (spT P w f_most_told) 7) (H_law_same : OkF P w K mg base "_law_same" ["_law_got", "_law_due"] (spT P w f__law_same) 5) (H_law_three : OkF P w K mg base "_law_three" [] (spT P w f__law_three) 1) {cdv : Value} {A : Around} {outer : List Env} {s : Shared} {H : Hp} {E : XK} {fa : Addr} (hr : Room 7 (A.deeper (envOfC "_law_by_hand_right" (defScope (top 52)) s.heap.objs.size fa cdv))) : PSs (cxOf CX0 P w K mg base N_law_by_hand_right "_law_by_hand_right" (defScope (top 52)) fa cdv A outer s H E).nox (defBody (top 52)) (t__law_by_hand_right P w K) := by
  have nd := sc_law_by_hand_right.nd
  exact (pss_cons (ps_asg (pe_callO0 H_law_three hr (by decide) rfl) (pg_tup rfl (pgs_cons (pg_name (i := 0) nd rfl (by first | exact Or.inl rfl | exact Or.inr rfl)) (pgs_cons (pg_name (i := 1) nd rfl (by first | exact Or.inl rfl | exact Or.inr rfl)) (pgs_cons (pg_name (i := 2) nd rfl (by first | exact Or.inl rfl | exact Or.inr rfl)) (pgs_cons (pg_name (i := 3) nd rfl (by first | exact Or.inl rfl | exact Or.inr rfl)) pgs_nil))))))
  (pss_cons (ps_set (i := 4) nd rfl (by first | exact Or.inl rfl | exact Or.inr rfl) (pe_lst (pa_cons (pe_callO Hleast_false hr (by decide) rfl (pa_cons (pv 0) (pa_cons (pv 1) pa_nil))) (pa_cons (pe_callO Hmost_mended hr (by decide) rfl (pa_cons (pv 0) (pa_cons (pv 1) pa_nil))) (pa_cons (pe_callO Hmost_told hr (by decide) rfl (pa_cons (pv 0) (pa_cons (pv 1) pa_nil))) (pa_cons (pe_callO His_false_forging hr (by decide) rfl (pa_cons (pv 0) (pa_cons (pv 1) (pa_cons pe_int (pa_cons (pe_tup (pa_cons (pe_tup (pa_cons pe_int (pa_cons pe_int pa_nil))) pa_nil)) pa_nil))))) pa_nil))))))
  (pss_cons (ps_set (i := 5) nd rfl (by first | exact Or.inl rfl | exact Or.inr rfl) (pe_tup (pa_cons (pe_tup (pa_cons pe_int (pa_cons pe_int (pa_cons (pe_tup (pa_cons (pe_tup (pa_cons pe_int pa_nil)) (pa_cons (pe_tup (pa_cons pe_int pa_nil)) pa_nil))) pa_nil)))) (pa_cons (pe_tup (pa_cons pe_int (pa_cons pe_int (pa_cons (pe_tup (pa_cons (pe_tup (pa_cons pe_int pa_nil)) (pa_cons (pe_tup (pa_cons pe_int pa_nil)) pa_nil))) pa_nil)))) pa_nil))))
  (pss_one (ps_ret (pe_callO H_law_same hr (by decide) rfl (pa_cons (pe_op op_cat (pv 4) (pe_lst (pa_cons (pe_callO Hleast_false hr (by decide) rfl (pa_cons (pe_ix ix_seq (pv 5) pe_int (fun _ _ => rfl)) (pa_cons (pe_ix ix_seq (pv 5) pe_int (fun _ _ => rfl)) pa_nil))) (pa_cons (pe_callO Hmost_mended hr (by decide) rfl (pa_cons (pe_ix ix_seq (pv 5) pe_int (fun _ _ => rfl)) (pa_cons (pe_ix ix_seq (pv 5) pe_int (fun _ _ => rfl)) pa_nil))) pa_nil)))) (pa_cons (pe_lst (pa_cons pe_int (pa_cons pe_int (pa_cons pe_int (pa_cons pe_bl (pa_cons pe_int (pa_cons pe_int pa_nil))))))) pa_nil))))))))
theorem ok_law_by_hand_right (bl : Bl mg) (Hleast_false : OkF P w K mg base "least_false" ["key", "guard"] (spT P w f_least_false) 6) (His_false_forging : OkF P w K mg base "is_false_forging" ["key", "guard", "most", "thing"] (spT P w f_is_false_forging) 5) (Hmost_mended : OkF P w K mg base "most_mended" ["key", "guard"] (spT P w f_most_mended) 7) (Hmost_told : OkF P w K mg base "most_told" ["key", "guard"] (spT P w f_most_told) 7) (H_law_same : OkF P w K mg base "_law_same" ["_law_got", "_law_due"] (spT P w f__law_same) 5) (H_law_three : OkF P w K mg base "_law_three" [] (spT P w f__law_three) 1) (F : ∃ fa fd, mg "_law_by_hand_right" = some (.ref fa) ∧ FnP K "_law_by_hand_right" (top 52) fa fd) : OkF P w K mg base "_law_by_hand_right" [] (spT P w f__law_by_hand_right) 8 :=
  okf_mk (t__law_by_hand_right P w K) F sc_law_by_hand_right (fun _ _ _ _ _ _ us hl => match us, hl with | [], _ => rfl) len__law_by_hand_right (fun _ _ _ _ _ _ _ hr => dv_law_by_hand_right bl Hleast_false His_false_forging Hmost_mended Hmost_told H_law_same H_law_three hr) ex__law_by_hand_right

theorem len__law_bent : ∀ as n Po, f__law_bent as n Po → as.length = 3 := by
  intro as n Po h
  obtain ⟨_, _, e, _⟩ := h
  rw [e]
  rfl

theorem sc_law_bent : FnScope N_law_bent ["_law_tin", "_law_key_so", "_law_own"] (defScope (top 55)) := ⟨rfl, rfl, rfl, by decide +kernel, rfl, by decide +kernel, by decide +kernel⟩
theorem dv_law_bent (bl : Bl mg) (H_law_take : OkF P w K mg base "_law_take" ["_law_tin", "_law_below_so"] (spT P w f__law_take) 1) (H_law_pick : OkF P w K mg base "_law_pick" ["_law_tin", "_law_goods_so", "_law_count_so"] (spT P w f__law_pick) 2) {cdv : Value} {A : Around} {outer : List Env} {s : Shared} {H : Hp} {E : XK} {fa : Addr} (hr : Room 2 (A.deeper (envOfC "_law_bent" (defScope (top 55)) s.heap.objs.size fa cdv))) : PSs (cxOf CX0 P w K mg base N_law_bent "_law_bent" (defScope (top 55)) fa cdv A outer s H E).nox (defBody (top 55)) (t__law_bent P w K) := by
  have nd := sc_law_bent.nd
  exact (pss_cons (ps_par (i := 3) (j := 4) rfl nd rfl rfl (by decide) rfl rfl (pa_cons (pe_callO H_law_take hr (by decide) rfl (pa_cons (pv 0) (pa_cons pe_int pa_nil))) (pa_cons (pe_callB call_len_seq rfl bl.len boot_len (pa_cons (pe_ix ix_seq (pv 1) pe_int (fun _ _ => rfl)) pa_nil)) pa_nil)) rfl)
  (pss_cons (ps_set (i := 5) nd rfl (by first | exact Or.inl rfl | exact Or.inr rfl) (pe_callTy call_tuple_of rfl bl.tup boot_tuple (pa_cons (pe_lc (own := [("_law_k", 6)]) (g := (gName 6)) (tt := tYes) rfl nd (pi_list (pe_callB cr_sorted rfl bl.sorted boot_sorted (pa_cons (pe_callO H_law_pick hr (by decide) rfl (pa_cons (pv 0) (pa_cons (pe_listRg rfl rfl bl.list (prg_1 rfl bl.rng (pv 4))) (pa_cons (pe_callO H_law_take hr (by decide) rfl (pa_cons (pv 0) (pa_cons pe_int pa_nil))) pa_nil)))) pa_nil))) (blkOk_by (N := N_law_bent) (sc := defScope (top 55)) (by decide +kernel)) (fun _ _ _ _ _ => (pg_name (i := 6) nd rfl (by first | exact Or.inl rfl | exact Or.inr rfl))) (fun _ _ _ _ _ => pts_nil) (fun _ _ _ _ _ => (pe_tup (pa_cons (pv 6) (pa_cons (pe_op op_add pe_int (pe_callO H_law_take hr (by decide) rfl (pa_cons (pv 0) (pa_cons (pe_op op_sub (pe_ix ix_seq (pv 1) pe_int (fun _ _ => rfl)) pe_int) pa_nil)))) pa_nil))))) pa_nil)))
  (pss_cons (ps_if (PW.pt (pw_or (pt_cmpR op_lt (pv 3) pe_int (nomark _)) (pw_or1 (pt_cmpR (op_eqD (Room.a hr)) (pv 2) (pe_tup pa_nil) (nomark _))))) (pss_one (ps_ret (pv 5))) pss_nil)
  (pss_cons (ps_if (pt_cmpR op_eq (pv 3) pe_int (nomark _)) (pss_one (ps_ret (pe_op op_catA (pe_slice sl_tupA (pv 2) po_none (po_some (pe_un un_neg pe_int))) (pe_tup (pa_cons (pe_tup (pa_cons (pe_ix ix_seq (pe_ix ix_seq (pv 2) (pe_un un_neg pe_int) (fun _ _ => rfl)) pe_int (fun _ _ => rfl)) (pa_cons (pe_op op_sub (pe_ix ix_seq (pv 1) pe_int (fun _ _ => rfl)) (pe_ix ix_seq (pe_ix ix_seq (pv 2) (pe_un un_neg pe_int) (fun _ _ => rfl)) pe_int (fun _ _ => rfl))) pa_nil))) pa_nil))))) pss_nil)
  (pss_one (ps_ret (pe_ifExp (pt_cmpR op_eq (pv 3) pe_int (nomark _)) (pe_revT (pv 2)) (pe_callTy call_list_of rfl bl.list boot_list (pa_cons (pv 2) pa_nil)))))))))
theorem ok_law_bent (bl : Bl mg) (H_law_take : OkF P w K mg base "_law_take" ["_law_tin", "_law_below_so"] (spT P w f__law_take) 1) (H_law_pick : OkF P w K mg base "_law_pick" ["_law_tin", "_law_goods_so", "_law_count_so"] (spT P w f__law_pick) 2) (F : ∃ fa fd, mg "_law_bent" = some (.ref fa) ∧ FnP K "_law_bent" (top 55) fa fd) : OkF P w K mg base "_law_bent" ["_law_tin", "_law_key_so", "_law_own"] (spT P w f__law_bent) 3 :=
  okf_mk (t__law_bent P w K) F sc_law_bent (fun _ _ _ _ _ _ us hl => match us, hl with | [_, _, _], _ => rfl) len__law_bent (fun _ _ _ _ _ _ _ hr => dv_law_bent bl H_law_take H_law_pick hr) ex__law_bent

theorem scff : FnScope Nff ["key", "guard"] (defScope (top 29)) := ⟨rfl, rfl, rfl, by decide +kernel, rfl, by decide +kernel, by decide +kernel⟩
theorem dvff {CP : Addr} (np : NpC K mg CP) (Htupled : OkF P w K mg base "tupled" ["thing"] (spT P w f_tupled) 5) (Hfewest_false : OkF P w K mg base "fewest_false" ["key", "guard"] (spT P w f_fewest_false) 5) {cdv : Value} {A : Around} {outer : List Env} {s : Shared} {H : Hp} {E : XK} {fa : Addr} (hr : Room 5 (A.deeper (envOfC "false_forging" (defScope (top 29)) s.heap.objs.size fa cdv))) :
    PSs (cxOf (L2.CX P w) P w K mg base Nff "false_forging" (defScope (top 29)) fa cdv A outer s H E) (defBody (top 29)) (t_ff P w CP E) := by
  have nd := scff.nd
  exact (pss_cons (ps_set (i := 2) nd rfl (by first | exact Or.inl rfl | exact Or.inr rfl) (pe_callO Hfewest_false hr (by decide) rfl (pa_cons (pe_callO Htupled hr (by decide) rfl (pa_cons (pv 0) pa_nil)) (pa_cons (pe_callO Htupled hr (by decide) rfl (pa_cons (pv 1) pa_nil)) pa_nil))))
    (pss_cons (ps_if (pt_cmpR op_isN (pv 2) pe_non (nomark _)) (pss_one (ps_raise rfl (takes_of (by rfl) (by rfl) (by rfl) (by rfl)) (pmk_own0 PySem.F.excBase_ValueError np.x np.g np.k (raises_own np.b np.t) (by rfl)))) pss_nil) (pss_one (ps_ret (pv 2)))))
theorem okff {CP : Addr} (np : NpC K mg CP) (Htupled : OkF P w K mg base "tupled" ["thing"] (spT P w f_tupled) 5) (Hfewest_false : OkF P w K mg base "fewest_false" ["key", "guard"] (spT P w f_fewest_false) 5) {fa : Addr} {fd : FuncData} (F : FnP K "false_forging" (top 29) fa fd) : FnOk P w K mg base (L2.CX P w) 6 fa fd ["key", "guard"] (spFF P w CP) :=
  F.ok scff (fun vs H Q E h => by
    obtain ⟨B, k, g, dk, dg, _, D, _⟩ := h
    exact D.length) fun cdv A outer s H vs Q E hr h => ⟨t_ff P w CP E, dvff np Htupled Hfewest_false hr, go_ff vs H Q E h⟩
theorem sc_law_heard : FnScope N_law_heard ["_law_key_so", "_law_guard_so"] (defScope (top 54)) := ⟨rfl, rfl, rfl, by decide +kernel, rfl, by decide +kernel, by decide +kernel⟩
theorem boot_VE : bootBuiltins "ValueError" = some (.type "ValueError") := by kernel_rfl
theorem dv_law_heard {CP : Addr} (bl : Bl mg) (hVE : mg "ValueError" = none) (np : NpC K mg CP) {ff : Addr} {fdf : FuncData} (hm : mg "false_forging" = some (.ref ff)) (hk : PySem.W.keepIn K (.ref ff) = true) (hb : Binds K fdf ["key", "guard"] []) (Fff : FnOk P w K mg base (L2.CX P w) 6 ff fdf ["key", "guard"] (spFF P w CP)) {cdv : Value} {A : Around} {outer : List Env} {s : Shared} {H : Hp} {E : XK} {fa : Addr} (hr : Room 6 (A.deeper (envOfC "_law_heard" (defScope (top 54)) s.heap.objs.size fa cdv))) :
    PSs (cxOf CX0 P w K mg base N_law_heard "_law_heard" (defScope (top 54)) fa cdv A outer s H E).nox (defBody (top 54)) (t__law_heard P w K CP) := by
  have nd := sc_law_heard.nd
  exact pss_one (ps_try_as (i := 2) rfl rfl nd rfl rfl ⟨(by rfl), by decide, .inl np.g⟩ takes0 (fun W pn xe tk _ => pss_one (ps_ret (pe_callS Fff hr (by rfl) hm hk hb (fun σ => passAt tk σ) (pa_cons (pv 0) (pa_cons (pv 1) pa_nil)))))
    (fun a oe cls d pn hz hf => pss_when fun ⟨hc, hd⟩ => by
      subst hc
      subst hd
      exact pss_one (ps_ret (pe_lst (pa_cons pe_str (pa_cons (pe_callB (call_isE np.e hz hf) rfl bl.isi boot_isinstance (pa_cons (pv 2) (pa_cons (pe_bltn rfl hVE boot_VE rfl) pa_nil))) pa_nil))))))
theorem len__law_heard : ∀ as n Po, f__law_heard as n Po → as.length = 2 := by
  intro as n Po h
  obtain ⟨_, _, _, _, e, _⟩ := h
  rw [e]
  rfl
theorem ok_law_heard {CP : Addr} (bl : Bl mg) (hVE : mg "ValueError" = none) (np : NpC K mg CP) (Htupled : OkF P w K mg base "tupled" ["thing"] (spT P w f_tupled) 5) (Hfewest_false : OkF P w K mg base "fewest_false" ["key", "guard"] (spT P w f_fewest_false) 5)
    (Ff : ∃ fa fd, mg "false_forging" = some (.ref fa) ∧ FnP K "false_forging" (top 29) fa fd) (F : ∃ fa fd, mg "_law_heard" = some (.ref fa) ∧ FnP K "_law_heard" (top 54) fa fd) : OkF P w K mg base "_law_heard" ["_law_key_so", "_law_guard_so"] (spT P w f__law_heard) 7 := by
  obtain ⟨ff, fdf, hm, Ff⟩ := Ff
  exact okf_mk (t__law_heard P w K CP) F sc_law_heard (fun _ _ _ _ _ _ us hl => match us, hl with | [_, _], _ => rfl) len__law_heard (fun _ _ _ _ _ _ _ hr => dv_law_heard bl hVE np hm Ff.kp (FunD.bindsN Ff (fun _ _ _ _ _ _ us hl => match us, hl with | [_, _], _ => rfl)) (okff np Htupled Hfewest_false Ff) hr) (ex__law_heard np)
theorem len__law_right : ∀ as n Po, f__law_right as n Po → as.length = 1 := by
  intro as n Po h
  obtain ⟨e, _⟩ := h
  rw [e]
  rfl

theorem sc_law_right : FnScope N_law_right ["_law_tin"] (defScope (top 56)) := ⟨rfl, rfl, rfl, by decide +kernel, rfl, by decide +kernel, by decide +kernel⟩
theorem dv_law_right (bl : Bl mg) (Hsums_of : OkF P w K mg base "sums_of" ["key", "guard", "forging"] (spT P w f_sums_of) 4) (Hleast_false : OkF P w K mg base "least_false" ["key", "guard"] (spT P w f_least_false) 6) (His_false_forging : OkF P w K mg base "is_false_forging" ["key", "guard", "most", "thing"] (spT P w f_is_false_forging) 5) (Hmends : OkF P w K mg base "mends" ["key", "guard", "most"] (spT P w f_mends) 7) (Hmost_mended : OkF P w K mg base "most_mended" ["key", "guard"] (spT P w f_most_mended) 7) (Hmost_told : OkF P w K mg base "most_told" ["key", "guard"] (spT P w f_most_told) 7) (H_law_take : OkF P w K mg base "_law_take" ["_law_tin", "_law_below_so"] (spT P w f__law_take) 1) (H_law_of : OkF P w K mg base "_law_of" ["_law_tin", "_law_goods_so"] (spT P w f__law_of) 2) (H_law_lists : OkF P w K mg base "_law_lists" ["_law_matter"] (spT P w f__law_lists) 5) (H_law_same : OkF P w K mg base "_law_same" ["_law_got", "_law_due"] (spT P w f__law_same) 5) (H_law_keys : OkF P w K mg base "_law_keys" ["_law_tin"] (spT P w f__law_keys) 4) (H_law_all : OkF P w K mg base "_law_all" ["_law_key_so", "_law_guard_so"] (spT P w f__law_all) 2) (H_law_is_forging : OkF P w K mg base "_law_is_forging" ["_law_key_so", "_law_own"] (spT P w f__law_is_forging) 2) (H_law_added : OkF P w K mg base "_law_added" ["_law_key_so", "_law_own"] (spT P w f__law_added) 2) (H_law_is_false : OkF P w K mg base "_law_is_false" ["_law_key_so", "_law_guard_so", "_law_most_so", "_law_own"] (spT P w f__law_is_false) 3) (H_law_heard : OkF P w K mg base "_law_heard" ["_law_key_so", "_law_guard_so"] (spT P w f__law_heard) 7) (H_law_bent : OkF P w K mg base "_law_bent" ["_law_tin", "_law_key_so", "_law_own"] (spT P w f__law_bent) 3) {cdv : Value} {A : Around} {outer : List Env} {s : Shared} {H : Hp} {E : XK} {fa : Addr} (hr : Room 7 (A.deeper (envOfC "_law_right" (defScope (top 56)) s.heap.objs.size fa cdv))) : PSs (cxOf CX0 P w K mg base N_law_right "_law_right" (defScope (top 56)) fa cdv A outer s H E).nox (defBody (top 56)) (t__law_right P w K) := by
  have nd := sc_law_right.nd
  exact (pss_cons (ps_asg (pe_callO H_law_keys hr (by decide) rfl (pa_cons (pv 0) pa_nil)) (pg_tup rfl (pgs_cons (pg_name (i := 1) nd rfl (by first | exact Or.inl rfl | exact Or.inr rfl)) (pgs_cons (pg_name (i := 2) nd rfl (by first | exact Or.inl rfl | exact Or.inr rfl)) pgs_nil))))
  (pss_cons (ps_setLc (i := 3) (own := [("_law_own", 11)]) (g := (gName 11)) (tt := (tAnd (tNot (tB (tCB (rAnyI K) (tCons (tOp (rIx K) (tVar 11) (tC (.int 1))) tNil)))) (tB (tCB (rAnyI K) (tCons (tOp (rIx K) (tVar 11) (tC (.int 2))) tNil))))) rfl nd rfl rfl rfl (pi_list (pe_callO H_law_all hr (by decide) rfl (pa_cons (pv 1) (pa_cons (pv 2) pa_nil)))) (blkOk_by (N := N_law_right) (sc := defScope (top 56)) (by decide +kernel)) (fun _ _ _ _ _ => (pg_name (i := 11) nd rfl (by first | exact Or.inl rfl | exact Or.inr rfl))) (fun _ _ _ _ _ => (pts_one (PW.pt (pw_and (pt_not (pt_val (pe_callB (cr_anyI rfl) rfl bl.any boot_any (pa_cons (pe_ix ix_seq (pv 11) pe_int (fun _ _ => rfl)) pa_nil)))) (pw_and1 (pt_val (pe_callB (cr_anyI rfl) rfl bl.any boot_any (pa_cons (pe_ix ix_seq (pv 11) pe_int (fun _ _ => rfl)) pa_nil)))))))) (fun _ _ _ _ _ => (pe_ix ix_seq (pv 11) pe_int (fun _ _ => rfl))))
  (pss_cons (ps_setLc (i := 4) (own := [("_law_own", 11)]) (g := (gName 11)) (tt := tYes) rfl nd rfl rfl rfl (pi_list (pv 3)) (blkOk_by (N := N_law_right) (sc := defScope (top 56)) (by decide +kernel)) (fun _ _ _ _ _ => (pg_name (i := 11) nd rfl (by first | exact Or.inl rfl | exact Or.inr rfl))) (fun _ _ _ _ _ => pts_nil) (fun _ _ _ _ _ => (pe_op op_sub (pe_callB call_len_X rfl bl.len boot_len (pa_cons (pv 11) pa_nil)) (pe_countX (pv 11) (pa_cons pe_int pa_nil)))))
  (pss_cons (ps_set (i := 5) nd rfl (by first | exact Or.inl rfl | exact Or.inr rfl) (pe_ifExp (pt_cmpR (op_neD (Room.a hr)) (pv 4) (pe_lst pa_nil) (nomark _)) (pe_callB (cr_min rfl) rfl bl.min boot_min (pa_cons (pv 4) pa_nil)) pe_non))
  (pss_cons (ps_par (i := 6) (j := 7) rfl nd rfl rfl (by decide) rfl rfl (pa_cons (pe_tup (pa_cons (pe_callO H_law_lists hr (by decide) rfl (pa_cons (pv 1) pa_nil)) (pa_cons (pe_callO H_law_lists hr (by decide) rfl (pa_cons (pv 2) pa_nil)) pa_nil))) (pa_cons (pe_callO H_law_take hr (by decide) rfl (pa_cons (pv 0) (pa_cons pe_int pa_nil))) pa_nil)) rfl)
  (pss_cons (ps_set (i := 8) nd rfl (by first | exact Or.inl rfl | exact Or.inr rfl) (pe_lst (pa_cons (pe_callO Hleast_false hr (by decide) rfl (pa_cons (pv 1) (pa_cons (pv 2) pa_nil))) (pa_cons (pe_callO Hmost_mended hr (by decide) rfl (pa_cons (pe_ix ix_seq (pv 6) pe_int (fun _ _ => rfl)) (pa_cons (pv 2) pa_nil))) (pa_cons (pe_callO Hmost_told hr (by decide) rfl (pa_cons (pv 1) (pa_cons (pe_ix ix_seq (pv 6) pe_int (fun _ _ => rfl)) pa_nil))) (pa_cons (pe_callO Hmends hr (by decide) rfl (pa_cons (pe_ix ix_seq (pv 6) pe_int (fun _ _ => rfl)) (pa_cons (pe_ix ix_seq (pv 6) pe_int (fun _ _ => rfl)) (pa_cons (pv 7) pa_nil)))) pa_nil))))))
  (pss_cons (ps_set (i := 9) nd rfl (by first | exact Or.inl rfl | exact Or.inr rfl) (pe_lst (pa_cons pe_non (pa_cons pe_non (pa_cons pe_non (pa_cons pe_bl pa_nil))))))
  (pss_cons (ps_if (pt_cmpR op_notN (pv 5) pe_non (nomark _)) (pss_one (ps_set (i := 9) nd rfl (by first | exact Or.inl rfl | exact Or.inr rfl) (pe_lst (pa_cons (pv 5) (pa_cons (pe_op op_fdiv (pe_op op_sub (pv 5) pe_int) pe_int) (pa_cons (pe_op op_sub (pv 5) pe_int) (pa_cons (pe_cmpR op_lt (pe_op op_mul pe_int (pv 7)) (pv 5) (nomark _)) pa_nil))))))) pss_nil)
  (pss_cons (ps_if (pt_not (pt_val (pe_callO H_law_same hr (by decide) rfl (pa_cons (pv 8) (pa_cons (pv 9) pa_nil))))) (pss_one (ps_ret pe_bl)) pss_nil)
  (pss_cons (ps_set (i := 10) nd rfl (by first | exact Or.inl rfl | exact Or.inr rfl) (pe_callO H_law_heard hr (by decide) rfl (pa_cons (pe_ix ix_seq (pv 6) pe_int (fun _ _ => rfl)) (pa_cons (pv 2) pa_nil))))
  (pss_cons (ps_if (pt_cmpR op_isN (pv 5) pe_non (nomark _)) (pss_cons (ps_if (pt_not (pt_val (pe_callO H_law_same hr (by decide) rfl (pa_cons (pv 10) (pa_cons (pe_lst (pa_cons pe_str (pa_cons pe_bl pa_nil))) pa_nil))))) (pss_one (ps_ret pe_bl)) pss_nil)
  (pss_one (ps_set (i := 10) nd rfl (by first | exact Or.inl rfl | exact Or.inr rfl) (pe_tup pa_nil)))) (pss_one (ps_if (pt_not (pt_val (pe_callO H_law_is_false hr (by decide) rfl (pa_cons (pv 1) (pa_cons (pv 2) (pa_cons (pv 5) (pa_cons (pv 10) pa_nil))))))) (pss_one (ps_ret pe_bl)) pss_nil)))
  (pss_cons (ps_for PassesOwn.never rfl (pi_list (pe_op op_cat (pe_lst (pa_cons (pv 10) pa_nil)) (pe_lc (own := [("_law_lap", 13)]) (g := (gName 13)) (tt := tYes) rfl nd (pi_range1 rfl bl.rng (pa_cons pe_int pa_nil)) (blkOk_by (N := N_law_right) (sc := defScope (top 56)) (by decide +kernel)) (fun _ _ _ _ _ => (pg_name (i := 13) nd rfl (by first | exact Or.inl rfl | exact Or.inr rfl))) (fun _ _ _ _ _ => pts_nil) (fun _ _ _ _ _ => (pe_callO H_law_bent hr (by decide) rfl (pa_cons (pv 0) (pa_cons (pv 1) (pa_cons (pv 10) pa_nil)))))))) (pg_name (i := 11) nd rfl (by first | exact Or.inl rfl | exact Or.inr rfl)) (pss_cons (ps_set (i := 12) nd rfl (by first | exact Or.inl rfl | exact Or.inr rfl) (pe_callB (call_max2 rfl) rfl bl.max boot_max (pa_cons pe_int (pa_cons (pe_op op_sub (pe_callB call_len_seq rfl bl.len boot_len (pa_cons (pv 11) pa_nil)) (pe_callO H_law_of hr (by decide) rfl (pa_cons (pv 0) (pa_cons (pe_lst (pa_cons pe_int (pa_cons pe_int (pa_cons pe_int pa_nil)))) pa_nil)))) pa_nil))))
  (pss_cons (ps_set (i := 9) nd rfl (by first | exact Or.inl rfl | exact Or.inr rfl) (pe_callO H_law_is_false hr (by decide) rfl (pa_cons (pv 1) (pa_cons (pv 2) (pa_cons (pv 12) (pa_cons (pv 11) pa_nil))))))
  (pss_cons (ps_if (pt_not (pt_val (pe_callO H_law_same hr (by decide) rfl (pa_cons (pe_callO His_false_forging hr (by decide) rfl (pa_cons (pv 1) (pa_cons (pv 2) (pa_cons (pv 12) (pa_cons (pv 11) pa_nil))))) (pa_cons (pv 9) pa_nil))))) (pss_one (ps_ret pe_bl)) pss_nil)
  (pss_cons (ps_if (pt_not (pt_val (pe_callO H_law_is_forging hr (by decide) rfl (pa_cons (pv 1) (pa_cons (pv 11) pa_nil))))) (pss_one ps_continue) pss_nil)
  (pss_cons (ps_set (i := 9) nd rfl (by first | exact Or.inl rfl | exact Or.inr rfl) (pe_tup (pa_cons (pe_callO H_law_added hr (by decide) rfl (pa_cons (pv 2) (pa_cons (pv 11) pa_nil))) (pa_cons (pe_callO H_law_added hr (by decide) rfl (pa_cons (pv 1) (pa_cons (pv 11) pa_nil))) pa_nil))))
  (pss_one (ps_if (pt_not (pt_val (pe_callO H_law_same hr (by decide) rfl (pa_cons (pe_callO Hsums_of hr (by decide) rfl (pa_cons (pe_ix ix_seq (pv 6) pe_int (fun _ _ => rfl)) (pa_cons (pv 2) (pa_cons (pe_callTy call_list_of rfl bl.list boot_list (pa_cons (pv 11) pa_nil)) pa_nil)))) (pa_cons (pv 9) pa_nil))))) (pss_one (ps_ret pe_bl)) pss_nil))))))))
  (pss_one (ps_ret pe_bl))))))))))))))
theorem ok_law_right (bl : Bl mg) (Hsums_of : OkF P w K mg base "sums_of" ["key", "guard", "forging"] (spT P w f_sums_of) 4) (Hleast_false : OkF P w K mg base "least_false" ["key", "guard"] (spT P w f_least_false) 6) (His_false_forging : OkF P w K mg base "is_false_forging" ["key", "guard", "most", "thing"] (spT P w f_is_false_forging) 5) (Hmends : OkF P w K mg base "mends" ["key", "guard", "most"] (spT P w f_mends) 7) (Hmost_mended : OkF P w K mg base "most_mended" ["key", "guard"] (spT P w f_most_mended) 7) (Hmost_told : OkF P w K mg base "most_told" ["key", "guard"] (spT P w f_most_told) 7) (H_law_take : OkF P w K mg base "_law_take" ["_law_tin", "_law_below_so"] (spT P w f__law_take) 1) (H_law_of : OkF P w K mg base "_law_of" ["_law_tin", "_law_goods_so"] (spT P w f__law_of) 2) (H_law_lists : OkF P w K mg base "_law_lists" ["_law_matter"] (spT P w f__law_lists) 5) (H_law_same : OkF P w K mg base "_law_same" ["_law_got", "_law_due"] (spT P w f__law_same) 5) (H_law_keys : OkF P w K mg base "_law_keys" ["_law_tin"] (spT P w f__law_keys) 4) (H_law_all : OkF P w K mg base "_law_all" ["_law_key_so", "_law_guard_so"] (spT P w f__law_all) 2) (H_law_is_forging : OkF P w K mg base "_law_is_forging" ["_law_key_so", "_law_own"] (spT P w f__law_is_forging) 2) (H_law_added : OkF P w K mg base "_law_added" ["_law_key_so", "_law_own"] (spT P w f__law_added) 2) (H_law_is_false : OkF P w K mg base "_law_is_false" ["_law_key_so", "_law_guard_so", "_law_most_so", "_law_own"] (spT P w f__law_is_false) 3) (H_law_heard : OkF P w K mg base "_law_heard" ["_law_key_so", "_law_guard_so"] (spT P w f__law_heard) 7) (H_law_bent : OkF P w K mg base "_law_bent" ["_law_tin", "_law_key_so", "_law_own"] (spT P w f__law_bent) 3) (F : ∃ fa fd, mg "_law_right" = some (.ref fa) ∧ FnP K "_law_right" (top 56) fa fd) : OkF P w K mg base "_law_right" ["_law_tin"] (spT P w f__law_right) 8 :=
  okf_mk (t__law_right P w K) F sc_law_right (fun _ _ _ _ _ _ us hl => match us, hl with | [_], _ => rfl) len__law_right (fun _ _ _ _ _ _ _ hr => dv_law_right bl Hsums_of Hleast_false His_false_forging Hmends Hmost_mended Hmost_told H_law_take H_law_of H_law_lists H_law_same H_law_keys H_law_all H_law_is_forging H_law_added H_law_is_false H_law_heard H_law_bent hr) ex__law_right

theorem sc_law_cells : FnScope N_law_cells ["_law_script", "_law_most_so"] (defScope (top 37)) := ⟨rfl, rfl, rfl, by decide +kernel, rfl, by decide +kernel, by decide +kernel⟩
theorem dv_law_cells (bl : Bl mg) {cdv : Value} {A : Around} {outer : List Env} {s : Shared} {H : Hp} {E : XK} {fa : Addr} (hr : Room 0 (A.deeper (envOfC "_law_cells" (defScope (top 37)) s.heap.objs.size fa cdv))) : PSs (cxOf CX0 P w K mg base N_law_cells "_law_cells" (defScope (top 37)) fa cdv A outer s H E).nox (defBody (top 37)) (t__law_cells P w K) := by
  have nd := sc_law_cells.nd
  exact (pss_cons (ps_set (i := 2) nd rfl (by first | exact Or.inl rfl | exact Or.inr rfl) (pe_orT (pe_callTy call_list_of rfl bl.list boot_list (pa_cons (pe_slice sl_list (pv 0) po_none (po_some (pv 1))) pa_nil)) (pe_one (pe_lst (pa_cons pe_int pa_nil)))))
  (pss_cons (ps_for PassesOwn.never rfl (pi_enum rfl bl.enum (pa_cons (pe_slice sl_list (pv 0) (po_some (pv 1)) (po_some pe_int)) pa_nil)) (pg_tup rfl (pgs_cons (pg_name (i := 3) nd rfl (by first | exact Or.inl rfl | exact Or.inr rfl)) (pgs_cons (pg_name (i := 4) nd rfl (by first | exact Or.inl rfl | exact Or.inr rfl)) pgs_nil))) (pss_cons (ps_set (i := 5) nd rfl (by first | exact Or.inl rfl | exact Or.inr rfl) (pe_op op_mod (pe_callTy call_int1 rfl bl.int boot_int (pa_cons (pv 3) pa_nil)) (pv 1)))
  (pss_one (ps_asg (pe_op op_add (pe_ix ix_seq (pv 2) (pv 5) (fun _ _ => rfl)) (pe_op op_mul (pv 4) (pe_op op_add (pv 3) pe_int))) (pg_sub (pv 2) (pv 5) set_list (fun _ => rfl))))))
  (pss_one (ps_ret (pv 2)))))
theorem ok_law_cells (bl : Bl mg) (F : ∃ fa fd, mg "_law_cells" = some (.ref fa) ∧ FnP K "_law_cells" (top 37) fa fd) : OkF P w K mg base "_law_cells" ["_law_script", "_law_most_so"] (spCells P w K) 1 := by
  obtain ⟨fa, fd, hm, F⟩ := F
  exact ⟨fa, fd, hm, F.kp, FunD.bindsN F (fun _ _ _ _ _ _ us hl => match us, hl with | [_, _], _ => rfl), F.ok sc_law_cells (fun vs H Q E h => by
    obtain ⟨_, _, e, _⟩ := h
    rw [e]
    rfl) fun cdv A outer s H vs Q E hr h => ⟨t__law_cells P w K, PSs.nox (dv_law_cells bl hr), go_cells vs H Q E h⟩⟩
theorem sc_law_box : FnScope N_law_box ["_law_script", "_law_k"] (defScope (top 35)) := ⟨rfl, rfl, rfl, by decide +kernel, rfl, by decide +kernel, by decide +kernel⟩
theorem dv_law_box (bl : Bl mg) {cdv : Value} {A : Around} {outer : List Env} {s : Shared} {H : Hp} {E : XK} {fa : Addr} (hr : Room 0 (A.deeper (envOfC "_law_box" (defScope (top 35)) s.heap.objs.size fa cdv))) : PSs (cxOf CX0 P w K mg base N_law_box "_law_box" (defScope (top 35)) fa cdv A outer s H E).nox (defBody (top 35)) (t__law_box P w K) := by
  have nd := sc_law_box.nd
  exact (pss_cons (ps_set (i := 2) nd rfl (by first | exact Or.inl rfl | exact Or.inr rfl) (pe_ifExp (pt_cmpR op_lt (pv 1) (pe_callB call_len_seq rfl bl.len boot_len (pa_cons (pv 0) pa_nil)) (nomark _)) (pe_ix ix_seq (pv 0) (pv 1) (fun _ _ => rfl)) pe_int))
  (pss_one (ps_ret (pe_lst (pa_cons (pe_op op_mul (pe_callB call_abs rfl bl.abs boot_abs (pa_cons (pv 2) pa_nil)) (pe_callTy call_int1 rfl bl.int boot_int (pa_cons (pe_cmpR op_ge (pe_callB call_abs rfl bl.abs boot_abs (pa_cons (pv 2) pa_nil)) (pe_op op_pow pe_int pe_int) (nomark _)) pa_nil))) (pa_cons (pe_op op_add (pe_op op_add (pe_op op_mod (pe_callTy call_int1 rfl bl.int boot_int (pa_cons (pv 2) pa_nil)) pe_int) (pe_op op_mul pe_int (pv 1))) pe_int) (pa_cons pe_int pa_nil)))))))
theorem ok_law_box (bl : Bl mg) (F : ∃ fa fd, mg "_law_box" = some (.ref fa) ∧ FnP K "_law_box" (top 35) fa fd) : OkF P w K mg base "_law_box" ["_law_script", "_law_k"] (spBox P w) 1 := by
  obtain ⟨fa, fd, hm, F⟩ := F
  exact ⟨fa, fd, hm, F.kp, FunD.bindsN F (fun _ _ _ _ _ _ us hl => match us, hl with | [_, _], _ => rfl), F.ok sc_law_box (fun vs H Q E h => by
    obtain ⟨_, _, _, _, e, _⟩ := h
    rw [e]
    rfl) fun cdv A outer s H vs Q E hr h => ⟨t__law_box P w K, PSs.nox (dv_law_box bl hr), go_box vs H Q E h⟩⟩
/-! ### the law -/
def spLaw (K : PySem.W.Frag) : Sp := fun vs H Q _ => ∃ (a : Addr) (ns : List Int), vs = [.ref a] ∧ SqL K H a (ns.map V.int) ∧ ns.length ≤ 63 ∧ ∀ H', Q (.bl true) H'
theorem go_law (vs : List V) (H : Hp) (Q : VK) (E : XK) (h : spLaw K vs H Q E) : t_law (spBox P w) (spCells P w K) P w K { nx := fun _ H' => Q .non H', rt := Q } (L2.start Nlaw vs) H := by
  obtain ⟨a, ns, e, hq, hz, q⟩ := h
  subst e
  refine ⟨none, fun _ => none, [], 0, fun d _ => d = .bl true, fun _ _ z => (nomatch z), fun _ z => (nomatch z), fun _ z => (nomatch z), .nil, ⟨rfl, rfl⟩, fun v B1 H1 d _ g1 _ D1 ed => ?_⟩
  subst ed
  cases D1
  refine ⟨true, rfl, iteF ?_⟩
  have hq1 : SqL K H1 a (ns.map V.int) := by
    rcases hq with (z | ⟨o, z⟩) | z
    · exact .inl (.inl (g1.2.2.1 _ _ (fun z => nomatch z) z))
    · exact .inl (.inr ⟨o, g1.2.2.1 _ _ (fun z => nomatch z) z⟩)
    · exact .inr z
  refine ⟨.ref a, rfl, a, ns, rfl, hq1, hz, fun x v B2 H2 g2 D2 => ?_⟩
  refine ⟨B2, v, x, g2.2.1, rfl, D2, fun a0 b0 p H3 ha hb hb2 hp hl keep => ?_⟩
  have hp2 : B2 p = none := by
    cases z : B2 p with
    | none => rfl
    | some o => rw [g2.2.1 _ _ z] at hp; cases hp
  refine ⟨some p, B2, [.tin], 0, fun d _ => d = .bl true, fun c o hc => keep c o (g2.2.1 c o hc), fun tt et => ?_, fun tt et => ?_, .cons ⟨p, rfl, rfl⟩ .nil, ⟨rfl, by show 0 + 500000 ≤ 1000000; decide, rfl⟩, fun v B' H' d _ _ _ D ed => ?_⟩
  · cases et
    exact ⟨a0, b0, 0, hl, ha, hb, hb2, Int.le_refl _, Int.le_refl _⟩
  · cases et
    exact hp2
  · subst ed
    cases D
    exact q H'
theorem sclaw : FnScope Nlaw ["_law_script"] (defScope (top 57)) := ⟨rfl, rfl, rfl, by decide +kernel, rfl, by decide +kernel, by decide +kernel⟩
theorem dvlaw (bl : Bl mg) (H_law_box : OkF P w K mg base "_law_box" ["_law_script", "_law_k"] (spBox P w) 1) (H_law_cells : OkF P w K mg base "_law_cells" ["_law_script", "_law_most_so"] (spCells P w K) 1) (H_law_by_hand_right : OkF P w K mg base "_law_by_hand_right" [] (spT P w f__law_by_hand_right) 8) (H_law_right : OkF P w K mg base "_law_right" ["_law_tin"] (spT P w f__law_right) 8) {cdv : Value} {A : Around} {outer : List Env} {s : Shared} {H : Hp} {E : XK} {fa : Addr} (hr : Room 8 (A.deeper (envOfC "law" (defScope (top 57)) s.heap.objs.size fa cdv))) : PSs (cxOf CX0 P w K mg base Nlaw "law" (defScope (top 57)) fa cdv A outer s H E).nox (defBody (top 57)) (t_law (spBox P w) (spCells P w K) P w K) := by
  have nd := sclaw.nd
  exact (pss_cons (ps_if (pt_not (pt_val (pe_callO0 H_law_by_hand_right hr (by decide) rfl))) (pss_one (ps_ret pe_bl)) pss_nil)
  (pss_one (ps_ret (pe_callO H_law_right hr (by decide) rfl (pa_cons (pe_callO H_law_box hr (by decide) rfl (pa_cons (pe_callO H_law_cells hr (by decide) rfl (pa_cons (pv 0) (pa_cons pe_int pa_nil))) (pa_cons pe_int pa_nil))) pa_nil)))))
theorem oklaw (bl : Bl mg) (H_law_box : OkF P w K mg base "_law_box" ["_law_script", "_law_k"] (spBox P w) 1) (H_law_cells : OkF P w K mg base "_law_cells" ["_law_script", "_law_most_so"] (spCells P w K) 1) (H_law_by_hand_right : OkF P w K mg base "_law_by_hand_right" [] (spT P w f__law_by_hand_right) 8) (H_law_right : OkF P w K mg base "_law_right" ["_law_tin"] (spT P w f__law_right) 8) {fa : Addr} {fd : FuncData} (F : FnP K "law" (top 57) fa fd) : FnOk P w K mg base CX0 9 fa fd ["_law_script"] (spLaw K) :=
  F.ok sclaw (fun vs H Q E h => by
    obtain ⟨_, _, e, _⟩ := h
    rw [e]
    rfl) fun cdv A outer s H vs Q E hr h => ⟨t_law (spBox P w) (spCells P w K) P w K, PSs.nox (dvlaw bl H_law_box H_law_cells H_law_by_hand_right H_law_right hr), go_law vs H Q E h⟩
end
end DK

/-! ## Z1 -/
set_option maxHeartbeats 0
namespace DK
open PySem PySem.Spec PyProof.Rows L2
/-! # The head: facts by names, the run -/
def dd (x : Str) (i : Nat) : He.DefD := ⟨(x, none), x, x, defArgs (top i), defBody (top i), defScope (top i), [], []⟩
def fns0 : List He.DefD := [dd "tupled" 5, dd "is_number" 6, dd "is_count" 7, dd "is_from_one" 8, dd "is_below" 9, dd "is_tuple_of" 10, dd "ascends" 11, dd "zero_row" 13, dd "fit_lengths" 14, dd "row_sum" 15, dd "row_times" 16, dd "sure_guard" 19, dd "how_many_rows" 20, dd "sure_sums" 21, dd "is_forging" 22, dd "added_up" 23, dd "sums_of" 24, dd "with_cell" 25, dd "fewest_table" 26, dd "fewest_false" 27, dd "least_false" 28, dd "false_forging" 29, dd "is_false_forging" 30, dd "mends" 31, dd "most_mended" 32, dd "most_told" 33, dd "_law_box" 35, dd "_law_take" 36, dd "_law_cells" 37, dd "_law_of" 38]
def fns1 : List He.DefD := [dd "_law_pick" 39, dd "_law_lists" 40, dd "_law_same" 41, dd "_law_is_number" 42, dd "_law_row_plus" 43, dd "_law_row_times" 44, dd "_law_key" 45, dd "_law_band_key" 46, dd "_law_three" 47, dd "_law_keys" 48, dd "_law_all" 49, dd "_law_is_forging" 50, dd "_law_added" 51, dd "_law_by_hand_right" 52, dd "_law_is_false" 53, dd "_law_heard" 54, dd "_law_bent" 55, dd "_law_right" 56, dd "law" 57]
def fns : List He.DefD := fns0 ++ fns1
def fas0 : List He.Fa := [.glo "tupled", .glo "is_number", .glo "is_count", .glo "is_from_one", .glo "is_below", .glo "is_tuple_of", .glo "ascends", .glo "zero_row", .glo "fit_lengths", .glo "row_sum", .glo "row_times", .glo "sure_guard", .glo "how_many_rows", .glo "sure_sums", .glo "is_forging", .glo "added_up", .glo "sums_of", .glo "with_cell", .glo "fewest_table", .glo "fewest_false", .glo "least_false", .glo "false_forging", .glo "is_false_forging", .glo "mends", .glo "most_mended", .glo "most_told", .glo "_law_box", .glo "_law_take", .glo "_law_cells", .glo "_law_of"]
def fas1 : List He.Fa := [.glo "_law_pick", .glo "_law_lists", .glo "_law_same", .glo "_law_is_number", .glo "_law_row_plus", .glo "_law_row_times", .glo "_law_key", .glo "_law_band_key", .glo "_law_three", .glo "_law_keys", .glo "_law_all", .glo "_law_is_forging", .glo "_law_added", .glo "_law_by_hand_right", .glo "_law_is_false", .glo "_law_heard", .glo "_law_bent", .glo "_law_right", .glo "law", .glo "NoPaper", .free "abs", .free "all", .free "any", .free "dict", .free "enumerate", .free "int", .free "isinstance", .free "len", .free "list", .free "max"]
def fas2 : List He.Fa := [.free "min", .free "range", .free "set", .free "sorted", .free "tuple", .free "zip", .free "bool", .free "str", .free "ValueError", .int "MOST_SUMS" 729, .exc "NoPaper", .exm "NoPaper" "NoPaper" true]
def fas : List He.Fa := fas0 ++ fas1 ++ fas2
def lnames0 : List PySem.Str := ["Unfit", "NoPaper", "TooMany", "tupled", "is_number", "is_count", "is_from_one", "is_below", "is_tuple_of", "ascends", "zero_row", "fit_lengths", "row_sum", "row_times", "MOST_SUMS", "sure_guard", "how_many_rows", "sure_sums", "is_forging", "added_up", "sums_of", "with_cell", "fewest_table", "fewest_false", "least_false", "false_forging", "is_false_forging", "mends", "most_mended", "most_told"]
def lnames1 : List PySem.Str := ["_law_box", "_law_take", "_law_cells", "_law_of", "_law_pick", "_law_lists", "_law_same", "_law_is_number", "_law_row_plus", "_law_row_times", "_law_key", "_law_band_key", "_law_three", "_law_keys", "_law_all", "_law_is_forging", "_law_added", "_law_by_hand_right", "_law_is_false", "_law_heard", "_law_bent", "_law_right"]
def lnames : List PySem.Str := lnames0 ++ lnames1
def exB (K : PySem.W.Frag) : Bool :=
  He.eqO (PySem.W.findIn K (.ref (He.ga K "NoPaper")) "__getattribute__") (some (some (.builtin "BaseException.__getattribute__"))) && (He.eqO (PySem.W.findIn K (.ref (He.ga K "NoPaper")) "__getattr__") (some none) &&
  (decide (PySem.W.subIn K (.ref (He.ga K "NoPaper")) (.type "BaseException") = some true) && (PySem.W.hasDictIn K (He.ga K "NoPaper") && (He.eqO (PySem.W.findIn K (.ref (He.ga K "NoPaper")) "__class__") (some (some (.builtin "object.__class__"))) &&
  (He.eqO (PySem.W.specialIn K (.builtin "object.__class__") "__get__") (some (some (.builtin "getset_descriptor.__get__"))) && (decide (PySem.W.takesIn K (.builtin "object.__class__") = some true) && (decide (PySem.W.mroIn K (He.ga K "NoPaper") (.type "object") = some true) &&
  decide (PySem.W.kitOne K (.ref (He.ga K "NoPaper")) (.type "ValueError") = some true))))))))
abbrev R : PySem.W.OpenRow := PySem.W.OpenLaw.row PySem.Challenge.rw_drycells_k34_whole_false_forgings_by_all
def hk : PySem.W.Hook where
  α := He.AlD × Bool
  obs := fun s => (He.obsDG 4 fas fns s.heap.get?, exB (He.frG s.heap.get? (He.asD s.heap.get? 4)))
  val := fun _ => (He.valD fns, true)
  says := fun _ h => ∃ K : PySem.W.Frag, K.In h ∧ He.SaysD fas fns K ∧ exB K = true
  of := fun _ _ e => ⟨_, He.frG_in, congrArg (fun z : He.AlD × Bool => z.1) e, congrArg (fun z : He.AlD × Bool => z.2) e⟩
  keeps := fun _ _ _ ⟨K, hK, c⟩ k => ⟨K, PySem.W.Frag.In.keeps hK k, c⟩
def ob (s : PySem.W.SharedT) : He.AlD × Bool := (He.obsDG 4 fas fns (HandSHeadRun.getT s), exB (He.frG (HandSHeadRun.getT s) (He.asD (HandSHeadRun.getT s) 4)))
theorem ob_eq (s : PySem.W.SharedT) : ob s = hk.obs s.abs := by
  have e : HandSHeadRun.getT s = s.abs.heap.get? := funext (HandSHeadRun.getT_eq s)
  unfold ob
  rw [e]
  rfl
theorem run (w : World) : HandSHeadRun.RunEq R (PySem.W.view R.prog [57]) hk ob 4000 lnames w := by
  intro os
  kernel_rfl
theorem facts {P : Program} {w : World} {K : PySem.W.Frag} {h : Heap} {mg : Str → Option Value} {f : Addr} (X : K.In h) (G : h.Ns mainGlobals mg) (hfa : mg ("law" : Str) = some (.ref f)) (c : He.SaysD fas fns K) (ce : exB K = true) :
    ∃ fd : FuncData, (∀ (s : Shared) (v : Value), BindsTo s fd ⟨[v], []⟩ [("_law_script", v)]) ∧ ∀ base : Heap, K.In base → base.Ns mainGlobals mg → FnOk P w K mg base CX0 9 f fd ["_law_script"] (spLaw K) := by
  have bl : Bl mg := ⟨He.free_ok X G (c.fact 50 (f := .free "abs") rfl), He.free_ok X G (c.fact 51 (f := .free "all") rfl), He.free_ok X G (c.fact 52 (f := .free "any") rfl), He.free_ok X G (c.fact 53 (f := .free "dict") rfl), He.free_ok X G (c.fact 54 (f := .free "enumerate") rfl), He.free_ok X G (c.fact 55 (f := .free "int") rfl), He.free_ok X G (c.fact 56 (f := .free "isinstance") rfl), He.free_ok X G (c.fact 57 (f := .free "len") rfl), He.free_ok X G (c.fact 58 (f := .free "list") rfl), He.free_ok X G (c.fact 59 (f := .free "max") rfl), He.free_ok X G (c.fact 60 (f := .free "min") rfl), He.free_ok X G (c.fact 61 (f := .free "range") rfl), He.free_ok X G (c.fact 62 (f := .free "set") rfl), He.free_ok X G (c.fact 63 (f := .free "sorted") rfl), He.free_ok X G (c.fact 64 (f := .free "tuple") rfl), He.free_ok X G (c.fact 65 (f := .free "zip") rfl), He.free_ok X G (c.fact 66 (f := .free "bool") rfl), He.free_ok X G (c.fact 67 (f := .free "str") rfl), He.int_ok X G (c.fact 69 (f := .int "MOST_SUMS" 729) rfl)⟩
  have hVE : mg "ValueError" = none := He.free_ok X G (c.fact 68 (f := .free "ValueError") rfl)
  have np : NpC K mg (He.ga K "NoPaper") := by
    obtain ⟨x1, x2, x3, x4⟩ := He.exc_ok (c.fact 70 (f := .exc "NoPaper") rfl)
    obtain ⟨y1, z⟩ := He.ba ce
    obtain ⟨y2, z⟩ := He.ba z
    obtain ⟨y3, z⟩ := He.ba z
    obtain ⟨y4, z⟩ := He.ba z
    obtain ⟨y5, z⟩ := He.ba z
    obtain ⟨y6, z⟩ := He.ba z
    obtain ⟨y7, z⟩ := He.ba z
    obtain ⟨y8, y9⟩ := He.ba z
    exact ⟨He.glo_ok X G (c.fact 49 (f := .glo "NoPaper") rfl), x1, x2, x3, x4, He.exm_ok (c.fact 71 (f := .exm "NoPaper" "NoPaper" true) rfl), ⟨He.eqO_ok y1, He.eqO_ok y2, of_decide_eq_true y3, y4, He.eqO_ok y5, He.eqO_ok y6, of_decide_eq_true y7, of_decide_eq_true y8⟩, of_decide_eq_true y9⟩
  have Ftupled : ∃ fa fd, mg "tupled" = some (.ref fa) ∧ FnP K "tupled" (top 5) fa fd := by
    obtain ⟨fd, F⟩ := c.def_ 0 (d := dd "tupled" 5) rfl
    exact ⟨_, fd, He.glo_ok X G (c.fact 0 (f := .glo "tupled") rfl), F⟩
  have Fis_number : ∃ fa fd, mg "is_number" = some (.ref fa) ∧ FnP K "is_number" (top 6) fa fd := by
    obtain ⟨fd, F⟩ := c.def_ 1 (d := dd "is_number" 6) rfl
    exact ⟨_, fd, He.glo_ok X G (c.fact 1 (f := .glo "is_number") rfl), F⟩
  have Fis_count : ∃ fa fd, mg "is_count" = some (.ref fa) ∧ FnP K "is_count" (top 7) fa fd := by
    obtain ⟨fd, F⟩ := c.def_ 2 (d := dd "is_count" 7) rfl
    exact ⟨_, fd, He.glo_ok X G (c.fact 2 (f := .glo "is_count") rfl), F⟩
  have Fis_from_one : ∃ fa fd, mg "is_from_one" = some (.ref fa) ∧ FnP K "is_from_one" (top 8) fa fd := by
    obtain ⟨fd, F⟩ := c.def_ 3 (d := dd "is_from_one" 8) rfl
    exact ⟨_, fd, He.glo_ok X G (c.fact 3 (f := .glo "is_from_one") rfl), F⟩
  have Fis_below : ∃ fa fd, mg "is_below" = some (.ref fa) ∧ FnP K "is_below" (top 9) fa fd := by
    obtain ⟨fd, F⟩ := c.def_ 4 (d := dd "is_below" 9) rfl
    exact ⟨_, fd, He.glo_ok X G (c.fact 4 (f := .glo "is_below") rfl), F⟩
  have Fis_tuple_of : ∃ fa fd, mg "is_tuple_of" = some (.ref fa) ∧ FnP K "is_tuple_of" (top 10) fa fd := by
    obtain ⟨fd, F⟩ := c.def_ 5 (d := dd "is_tuple_of" 10) rfl
    exact ⟨_, fd, He.glo_ok X G (c.fact 5 (f := .glo "is_tuple_of") rfl), F⟩
  have Fascends : ∃ fa fd, mg "ascends" = some (.ref fa) ∧ FnP K "ascends" (top 11) fa fd := by
    obtain ⟨fd, F⟩ := c.def_ 6 (d := dd "ascends" 11) rfl
    exact ⟨_, fd, He.glo_ok X G (c.fact 6 (f := .glo "ascends") rfl), F⟩
  have Fzero_row : ∃ fa fd, mg "zero_row" = some (.ref fa) ∧ FnP K "zero_row" (top 13) fa fd := by
    obtain ⟨fd, F⟩ := c.def_ 7 (d := dd "zero_row" 13) rfl
    exact ⟨_, fd, He.glo_ok X G (c.fact 7 (f := .glo "zero_row") rfl), F⟩
  have Ffit_lengths : ∃ fa fd, mg "fit_lengths" = some (.ref fa) ∧ FnP K "fit_lengths" (top 14) fa fd := by
    obtain ⟨fd, F⟩ := c.def_ 8 (d := dd "fit_lengths" 14) rfl
    exact ⟨_, fd, He.glo_ok X G (c.fact 8 (f := .glo "fit_lengths") rfl), F⟩
  have Frow_sum : ∃ fa fd, mg "row_sum" = some (.ref fa) ∧ FnP K "row_sum" (top 15) fa fd := by
    obtain ⟨fd, F⟩ := c.def_ 9 (d := dd "row_sum" 15) rfl
    exact ⟨_, fd, He.glo_ok X G (c.fact 9 (f := .glo "row_sum") rfl), F⟩
  have Frow_times : ∃ fa fd, mg "row_times" = some (.ref fa) ∧ FnP K "row_times" (top 16) fa fd := by
    obtain ⟨fd, F⟩ := c.def_ 10 (d := dd "row_times" 16) rfl
    exact ⟨_, fd, He.glo_ok X G (c.fact 10 (f := .glo "row_times") rfl), F⟩
  have Fsure_guard : ∃ fa fd, mg "sure_guard" = some (.ref fa) ∧ FnP K "sure_guard" (top 19) fa fd := by
    obtain ⟨fd, F⟩ := c.def_ 11 (d := dd "sure_guard" 19) rfl
    exact ⟨_, fd, He.glo_ok X G (c.fact 11 (f := .glo "sure_guard") rfl), F⟩
  have Fhow_many_rows : ∃ fa fd, mg "how_many_rows" = some (.ref fa) ∧ FnP K "how_many_rows" (top 20) fa fd := by
    obtain ⟨fd, F⟩ := c.def_ 12 (d := dd "how_many_rows" 20) rfl
    exact ⟨_, fd, He.glo_ok X G (c.fact 12 (f := .glo "how_many_rows") rfl), F⟩
  have Fsure_sums : ∃ fa fd, mg "sure_sums" = some (.ref fa) ∧ FnP K "sure_sums" (top 21) fa fd := by
    obtain ⟨fd, F⟩ := c.def_ 13 (d := dd "sure_sums" 21) rfl
    exact ⟨_, fd, He.glo_ok X G (c.fact 13 (f := .glo "sure_sums") rfl), F⟩
  have Fis_forging : ∃ fa fd, mg "is_forging" = some (.ref fa) ∧ FnP K "is_forging" (top 22) fa fd := by
    obtain ⟨fd, F⟩ := c.def_ 14 (d := dd "is_forging" 22) rfl
    exact ⟨_, fd, He.glo_ok X G (c.fact 14 (f := .glo "is_forging") rfl), F⟩
  have Fadded_up : ∃ fa fd, mg "added_up" = some (.ref fa) ∧ FnP K "added_up" (top 23) fa fd := by
    obtain ⟨fd, F⟩ := c.def_ 15 (d := dd "added_up" 23) rfl
    exact ⟨_, fd, He.glo_ok X G (c.fact 15 (f := .glo "added_up") rfl), F⟩
  have Fsums_of : ∃ fa fd, mg "sums_of" = some (.ref fa) ∧ FnP K "sums_of" (top 24) fa fd := by
    obtain ⟨fd, F⟩ := c.def_ 16 (d := dd "sums_of" 24) rfl
    exact ⟨_, fd, He.glo_ok X G (c.fact 16 (f := .glo "sums_of") rfl), F⟩
  have Fwith_cell : ∃ fa fd, mg "with_cell" = some (.ref fa) ∧ FnP K "with_cell" (top 25) fa fd := by
    obtain ⟨fd, F⟩ := c.def_ 17 (d := dd "with_cell" 25) rfl
    exact ⟨_, fd, He.glo_ok X G (c.fact 17 (f := .glo "with_cell") rfl), F⟩
  have Ffewest_table : ∃ fa fd, mg "fewest_table" = some (.ref fa) ∧ FnP K "fewest_table" (top 26) fa fd := by
    obtain ⟨fd, F⟩ := c.def_ 18 (d := dd "fewest_table" 26) rfl
    exact ⟨_, fd, He.glo_ok X G (c.fact 18 (f := .glo "fewest_table") rfl), F⟩
  have Ffewest_false : ∃ fa fd, mg "fewest_false" = some (.ref fa) ∧ FnP K "fewest_false" (top 27) fa fd := by
    obtain ⟨fd, F⟩ := c.def_ 19 (d := dd "fewest_false" 27) rfl
    exact ⟨_, fd, He.glo_ok X G (c.fact 19 (f := .glo "fewest_false") rfl), F⟩
  have Fleast_false : ∃ fa fd, mg "least_false" = some (.ref fa) ∧ FnP K "least_false" (top 28) fa fd := by
    obtain ⟨fd, F⟩ := c.def_ 20 (d := dd "least_false" 28) rfl
    exact ⟨_, fd, He.glo_ok X G (c.fact 20 (f := .glo "least_false") rfl), F⟩
  have Ffalse_forging : ∃ fa fd, mg "false_forging" = some (.ref fa) ∧ FnP K "false_forging" (top 29) fa fd := by
    obtain ⟨fd, F⟩ := c.def_ 21 (d := dd "false_forging" 29) rfl
    exact ⟨_, fd, He.glo_ok X G (c.fact 21 (f := .glo "false_forging") rfl), F⟩
  have Fis_false_forging : ∃ fa fd, mg "is_false_forging" = some (.ref fa) ∧ FnP K "is_false_forging" (top 30) fa fd := by
    obtain ⟨fd, F⟩ := c.def_ 22 (d := dd "is_false_forging" 30) rfl
    exact ⟨_, fd, He.glo_ok X G (c.fact 22 (f := .glo "is_false_forging") rfl), F⟩
  have Fmends : ∃ fa fd, mg "mends" = some (.ref fa) ∧ FnP K "mends" (top 31) fa fd := by
    obtain ⟨fd, F⟩ := c.def_ 23 (d := dd "mends" 31) rfl
    exact ⟨_, fd, He.glo_ok X G (c.fact 23 (f := .glo "mends") rfl), F⟩
  have Fmost_mended : ∃ fa fd, mg "most_mended" = some (.ref fa) ∧ FnP K "most_mended" (top 32) fa fd := by
    obtain ⟨fd, F⟩ := c.def_ 24 (d := dd "most_mended" 32) rfl
    exact ⟨_, fd, He.glo_ok X G (c.fact 24 (f := .glo "most_mended") rfl), F⟩
  have Fmost_told : ∃ fa fd, mg "most_told" = some (.ref fa) ∧ FnP K "most_told" (top 33) fa fd := by
    obtain ⟨fd, F⟩ := c.def_ 25 (d := dd "most_told" 33) rfl
    exact ⟨_, fd, He.glo_ok X G (c.fact 25 (f := .glo "most_told") rfl), F⟩
  have F_law_box : ∃ fa fd, mg "_law_box" = some (.ref fa) ∧ FnP K "_law_box" (top 35) fa fd := by
    obtain ⟨fd, F⟩ := c.def_ 26 (d := dd "_law_box" 35) rfl
    exact ⟨_, fd, He.glo_ok X G (c.fact 26 (f := .glo "_law_box") rfl), F⟩
  have F_law_take : ∃ fa fd, mg "_law_take" = some (.ref fa) ∧ FnP K "_law_take" (top 36) fa fd := by
    obtain ⟨fd, F⟩ := c.def_ 27 (d := dd "_law_take" 36) rfl
    exact ⟨_, fd, He.glo_ok X G (c.fact 27 (f := .glo "_law_take") rfl), F⟩
  have F_law_cells : ∃ fa fd, mg "_law_cells" = some (.ref fa) ∧ FnP K "_law_cells" (top 37) fa fd := by
    obtain ⟨fd, F⟩ := c.def_ 28 (d := dd "_law_cells" 37) rfl
    exact ⟨_, fd, He.glo_ok X G (c.fact 28 (f := .glo "_law_cells") rfl), F⟩
  have F_law_of : ∃ fa fd, mg "_law_of" = some (.ref fa) ∧ FnP K "_law_of" (top 38) fa fd := by
    obtain ⟨fd, F⟩ := c.def_ 29 (d := dd "_law_of" 38) rfl
    exact ⟨_, fd, He.glo_ok X G (c.fact 29 (f := .glo "_law_of") rfl), F⟩
  have F_law_pick : ∃ fa fd, mg "_law_pick" = some (.ref fa) ∧ FnP K "_law_pick" (top 39) fa fd := by
    obtain ⟨fd, F⟩ := c.def_ 30 (d := dd "_law_pick" 39) rfl
    exact ⟨_, fd, He.glo_ok X G (c.fact 30 (f := .glo "_law_pick") rfl), F⟩
  have F_law_lists : ∃ fa fd, mg "_law_lists" = some (.ref fa) ∧ FnP K "_law_lists" (top 40) fa fd := by
    obtain ⟨fd, F⟩ := c.def_ 31 (d := dd "_law_lists" 40) rfl
    exact ⟨_, fd, He.glo_ok X G (c.fact 31 (f := .glo "_law_lists") rfl), F⟩
  have F_law_same : ∃ fa fd, mg "_law_same" = some (.ref fa) ∧ FnP K "_law_same" (top 41) fa fd := by
    obtain ⟨fd, F⟩ := c.def_ 32 (d := dd "_law_same" 41) rfl
    exact ⟨_, fd, He.glo_ok X G (c.fact 32 (f := .glo "_law_same") rfl), F⟩
  have F_law_is_number : ∃ fa fd, mg "_law_is_number" = some (.ref fa) ∧ FnP K "_law_is_number" (top 42) fa fd := by
    obtain ⟨fd, F⟩ := c.def_ 33 (d := dd "_law_is_number" 42) rfl
    exact ⟨_, fd, He.glo_ok X G (c.fact 33 (f := .glo "_law_is_number") rfl), F⟩
  have F_law_row_plus : ∃ fa fd, mg "_law_row_plus" = some (.ref fa) ∧ FnP K "_law_row_plus" (top 43) fa fd := by
    obtain ⟨fd, F⟩ := c.def_ 34 (d := dd "_law_row_plus" 43) rfl
    exact ⟨_, fd, He.glo_ok X G (c.fact 34 (f := .glo "_law_row_plus") rfl), F⟩
  have F_law_row_times : ∃ fa fd, mg "_law_row_times" = some (.ref fa) ∧ FnP K "_law_row_times" (top 44) fa fd := by
    obtain ⟨fd, F⟩ := c.def_ 35 (d := dd "_law_row_times" 44) rfl
    exact ⟨_, fd, He.glo_ok X G (c.fact 35 (f := .glo "_law_row_times") rfl), F⟩
  have F_law_key : ∃ fa fd, mg "_law_key" = some (.ref fa) ∧ FnP K "_law_key" (top 45) fa fd := by
    obtain ⟨fd, F⟩ := c.def_ 36 (d := dd "_law_key" 45) rfl
    exact ⟨_, fd, He.glo_ok X G (c.fact 36 (f := .glo "_law_key") rfl), F⟩
  have F_law_band_key : ∃ fa fd, mg "_law_band_key" = some (.ref fa) ∧ FnP K "_law_band_key" (top 46) fa fd := by
    obtain ⟨fd, F⟩ := c.def_ 37 (d := dd "_law_band_key" 46) rfl
    exact ⟨_, fd, He.glo_ok X G (c.fact 37 (f := .glo "_law_band_key") rfl), F⟩
  have F_law_three : ∃ fa fd, mg "_law_three" = some (.ref fa) ∧ FnP K "_law_three" (top 47) fa fd := by
    obtain ⟨fd, F⟩ := c.def_ 38 (d := dd "_law_three" 47) rfl
    exact ⟨_, fd, He.glo_ok X G (c.fact 38 (f := .glo "_law_three") rfl), F⟩
  have F_law_keys : ∃ fa fd, mg "_law_keys" = some (.ref fa) ∧ FnP K "_law_keys" (top 48) fa fd := by
    obtain ⟨fd, F⟩ := c.def_ 39 (d := dd "_law_keys" 48) rfl
    exact ⟨_, fd, He.glo_ok X G (c.fact 39 (f := .glo "_law_keys") rfl), F⟩
  have F_law_all : ∃ fa fd, mg "_law_all" = some (.ref fa) ∧ FnP K "_law_all" (top 49) fa fd := by
    obtain ⟨fd, F⟩ := c.def_ 40 (d := dd "_law_all" 49) rfl
    exact ⟨_, fd, He.glo_ok X G (c.fact 40 (f := .glo "_law_all") rfl), F⟩
  have F_law_is_forging : ∃ fa fd, mg "_law_is_forging" = some (.ref fa) ∧ FnP K "_law_is_forging" (top 50) fa fd := by
    obtain ⟨fd, F⟩ := c.def_ 41 (d := dd "_law_is_forging" 50) rfl
    exact ⟨_, fd, He.glo_ok X G (c.fact 41 (f := .glo "_law_is_forging") rfl), F⟩
  have F_law_added : ∃ fa fd, mg "_law_added" = some (.ref fa) ∧ FnP K "_law_added" (top 51) fa fd := by
    obtain ⟨fd, F⟩ := c.def_ 42 (d := dd "_law_added" 51) rfl
    exact ⟨_, fd, He.glo_ok X G (c.fact 42 (f := .glo "_law_added") rfl), F⟩
  have F_law_by_hand_right : ∃ fa fd, mg "_law_by_hand_right" = some (.ref fa) ∧ FnP K "_law_by_hand_right" (top 52) fa fd := by
    obtain ⟨fd, F⟩ := c.def_ 43 (d := dd "_law_by_hand_right" 52) rfl
    exact ⟨_, fd, He.glo_ok X G (c.fact 43 (f := .glo "_law_by_hand_right") rfl), F⟩
  have F_law_is_false : ∃ fa fd, mg "_law_is_false" = some (.ref fa) ∧ FnP K "_law_is_false" (top 53) fa fd := by
    obtain ⟨fd, F⟩ := c.def_ 44 (d := dd "_law_is_false" 53) rfl
    exact ⟨_, fd, He.glo_ok X G (c.fact 44 (f := .glo "_law_is_false") rfl), F⟩
  have F_law_heard : ∃ fa fd, mg "_law_heard" = some (.ref fa) ∧ FnP K "_law_heard" (top 54) fa fd := by
    obtain ⟨fd, F⟩ := c.def_ 45 (d := dd "_law_heard" 54) rfl
    exact ⟨_, fd, He.glo_ok X G (c.fact 45 (f := .glo "_law_heard") rfl), F⟩
  have F_law_bent : ∃ fa fd, mg "_law_bent" = some (.ref fa) ∧ FnP K "_law_bent" (top 55) fa fd := by
    obtain ⟨fd, F⟩ := c.def_ 46 (d := dd "_law_bent" 55) rfl
    exact ⟨_, fd, He.glo_ok X G (c.fact 46 (f := .glo "_law_bent") rfl), F⟩
  have F_law_right : ∃ fa fd, mg "_law_right" = some (.ref fa) ∧ FnP K "_law_right" (top 56) fa fd := by
    obtain ⟨fd, F⟩ := c.def_ 47 (d := dd "_law_right" 56) rfl
    exact ⟨_, fd, He.glo_ok X G (c.fact 47 (f := .glo "_law_right") rfl), F⟩
  obtain ⟨fd, F⟩ := c.def_ 48 (d := dd "law" 57) rfl
  have e := hfa.symm.trans (He.glo_ok X G (c.fact 48 (f := .glo "law") rfl))
  cases e
  have b := FunD.bindsA (ps := ["_law_script"]) F fun _ _ _ _ _ _ us hl => match us, hl with | [_], _ => rfl
  refine ⟨fd, fun s v => b s [v] rfl, fun base _ _ => ?_⟩
  have Htupled := oktupledM (P := P) (w := w) (base := base) bl Ftupled 4
  have H_law_lists := ok_law_listsM (P := P) (w := w) (base := base) bl F_law_lists 4
  have H_law_same := ok_law_sameM (P := P) (w := w) (base := base) bl F_law_same 4
  have His_number := okis_number (P := P) (w := w) (base := base) bl  Fis_number
  have His_count := okis_count (P := P) (w := w) (base := base) bl His_number Fis_count
  have His_from_one := okis_from_one (P := P) (w := w) (base := base) bl His_number Fis_from_one
  have His_below := okis_below (P := P) (w := w) (base := base) bl His_count Fis_below
  have His_tuple_of := okis_tuple_of (P := P) (w := w) (base := base) bl  Fis_tuple_of
  have Hascends := okascends (P := P) (w := w) (base := base) bl  Fascends
  have Hzero_row := okzero_row (P := P) (w := w) (base := base) bl  Fzero_row
  have Hfit_lengths := okfit_lengths (P := P) (w := w) (base := base) bl  Ffit_lengths
  have Hrow_sum := okrow_sum (P := P) (w := w) (base := base) bl Hfit_lengths Frow_sum
  have Hrow_times := okrow_times (P := P) (w := w) (base := base) bl  Frow_times
  have Hsure_guard := oksure_guard (P := P) (w := w) (base := base) bl  Fsure_guard
  have Hhow_many_rows := okhow_many_rows (P := P) (w := w) (base := base) bl  Fhow_many_rows
  have Hsure_sums := oksure_sums (P := P) (w := w) (base := base) bl Hhow_many_rows Fsure_sums
  have His_forging := okis_forging (P := P) (w := w) (base := base) bl His_from_one His_below His_tuple_of Hascends Fis_forging
  have Hadded_up := okadded_up (P := P) (w := w) (base := base) bl Hzero_row Hrow_sum Hrow_times Fadded_up
  have Hsums_of := oksums_of (P := P) (w := w) (base := base) bl Hsure_guard Hadded_up Fsums_of
  have Hwith_cell := okwith_cell (P := P) (w := w) (base := base) bl Hrow_sum Hrow_times Fwith_cell
  have Hfewest_table := okfewest_table (P := P) (w := w) (base := base) bl Hzero_row Hsure_guard Hsure_sums Hwith_cell Ffewest_table
  have Hfewest_false := okfewest_false (P := P) (w := w) (base := base) bl Hzero_row Hfewest_table Ffewest_false
  have Hleast_false := okleast_false (P := P) (w := w) (base := base) bl Htupled Hfewest_false Fleast_false
  have His_false_forging := okis_false_forging (P := P) (w := w) (base := base) bl Hzero_row Hsure_guard His_forging Hsums_of Fis_false_forging
  have Hmends := okmends (P := P) (w := w) (base := base) bl Hleast_false Fmends
  have Hmost_mended := okmost_mended (P := P) (w := w) (base := base) bl Hleast_false Fmost_mended
  have Hmost_told := okmost_told (P := P) (w := w) (base := base) bl Hleast_false Fmost_told
  have H_law_take := ok_law_take (P := P) (w := w) (base := base) bl  F_law_take
  have H_law_of := ok_law_of (P := P) (w := w) (base := base) bl H_law_take F_law_of
  have H_law_pick := ok_law_pick (P := P) (w := w) (base := base) bl H_law_take F_law_pick
  have H_law_is_number := ok_law_is_number (P := P) (w := w) (base := base) bl  F_law_is_number
  have H_law_row_plus := ok_law_row_plus (P := P) (w := w) (base := base) bl  F_law_row_plus
  have H_law_row_times := ok_law_row_times (P := P) (w := w) (base := base) bl  F_law_row_times
  have H_law_band_key := ok_law_band_key (P := P) (w := w) (base := base) bl H_law_take F_law_band_key
  have H_law_key := ok_law_key (P := P) (w := w) (base := base) bl H_law_take H_law_of H_law_band_key F_law_key
  have H_law_three := ok_law_three (P := P) (w := w) (base := base) bl  F_law_three
  have H_law_keys := ok_law_keys (P := P) (w := w) (base := base) bl H_law_of H_law_key F_law_keys
  have H_law_all := ok_law_all (P := P) (w := w) (base := base) bl H_law_row_plus F_law_all
  have H_law_is_forging := ok_law_is_forging (P := P) (w := w) (base := base) bl H_law_is_number F_law_is_forging
  have H_law_added := ok_law_added (P := P) (w := w) (base := base) bl H_law_row_plus H_law_row_times F_law_added
  have H_law_is_false := ok_law_is_false (P := P) (w := w) (base := base) bl H_law_is_forging H_law_added F_law_is_false
  have H_law_by_hand_right := ok_law_by_hand_right (P := P) (w := w) (base := base) bl Hleast_false His_false_forging Hmost_mended Hmost_told H_law_same H_law_three F_law_by_hand_right
  have H_law_bent := ok_law_bent (P := P) (w := w) (base := base) bl H_law_take H_law_pick F_law_bent
  have H_law_heard := ok_law_heard (P := P) (w := w) (base := base) bl hVE np Htupled Hfewest_false Ffalse_forging F_law_heard
  have H_law_right := ok_law_right (P := P) (w := w) (base := base) bl Hsums_of Hleast_false His_false_forging Hmends Hmost_mended Hmost_told H_law_take H_law_of H_law_lists H_law_same H_law_keys H_law_all H_law_is_forging H_law_added H_law_is_false H_law_heard H_law_bent F_law_right
  have H_law_cells := ok_law_cells (P := P) (w := w) (base := base) bl F_law_cells
  have H_law_box := ok_law_box (P := P) (w := w) (base := base) bl F_law_box
  exact oklaw bl H_law_box H_law_cells H_law_by_hand_right H_law_right F
end DK
open PySem PySem.W PySem.Calls PyProof.Rows
theorem PySem.Challenge.cw_drycells_k34_whole_false_forgings_by_all_holds : PySem.Challenge.rw_drycells_k34_whole_false_forgings_by_all.Holds := by
  w_on; o_law
  refine HandSHeadRun.head_any (r := OpenLaw.row PySem.Challenge.rw_drycells_k34_whole_false_forgings_by_all) (q := view (OpenLaw.row PySem.Challenge.rw_drycells_k34_whole_false_forgings_by_all).prog [57]) (H := DK.hk) (ob := DK.ob) (M := 4000) (loose := DK.lnames) (d := HandSHeadRun.topDef (OpenLaw.row PySem.Challenge.rw_drycells_k34_whole_false_forgings_by_all).prog 57) (kwd := []) DK.ob_eq
    (by kernel_rfl) (fun s => by kernel_rfl) DK.run (by kernel_rfl) (by kernel_rfl) (by kernel_rfl) (by rfl) (by first | assumption | decide +kernel) (by decide +kernel) ⟨rfl, rfl, rfl, rfl, rfl, by decide +kernel⟩ ?hw ?hc
  case hw => w_witness2
  case hc =>
    refine L2.walk_ofE (l := PySem.Challenge.rw_drycells_k34_whole_false_forgings_by_all) (n := 63) (k := 9) (x := "_law_script") (CX := L2.CX0) rfl (by decide) (by kernel_rfl) ⟨rfl, by decide, by decide⟩ ?F (fun _ _ _ _ z => z)
    intro w mg fa h Y G hmg0
    obtain ⟨K, KX, c, ce⟩ := Y
    have hmg : mg ("law" : PySem.Str) = some (.ref fa) := by
      have e : (HandSHeadRun.topDef (OpenLaw.row PySem.Challenge.rw_drycells_k34_whole_false_forgings_by_all).prog 57).name = ("law" : PySem.Str) := by kernel_rfl
      rw [← e]
      exact hmg0
    obtain ⟨fd, hb, hF⟩ := DK.facts (P := (PySem.Challenge.rw_drycells_k34_whole_false_forgings_by_all).prog) (w := w) KX G hmg c ce
    exact ⟨K, fd, DK.spLaw K, KX, hb, fun H a ns hl _ hS => ⟨a, ns, rfl, hS, hl, fun _ => rfl⟩, hF⟩
