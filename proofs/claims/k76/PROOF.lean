import PyProof.Rows.All
import Wide.All
import OpenK.AllK
import Wide.FinOn
import KE.KStateDown
import HandS.Head0
import HandS.Head1
import HandS.Head2
import HandS.HeadEnd
import HandS.HeadHook1
import HandS.HeadHook2
import HandS.HeadHook3
import HandS.HeadHook4
import HandS.HeadWalk
import HandS.ForMost
import HandS.ForExc
import HandS.ExcIs
import HandS.HotCalls
import HandS.SortRule
import HandS.Deep
import HandS.TupAny
import HandS.IsInst
import HandS.Rev
import HandS.Flow
import HandS.ExcValue
import HandS.AnyAll
import HandS.Style
import KE.GoesEnum
import HandS.Iter
import HandS.TupSets
import HandS.GenOver
import HandS.Comp
import HandS.Defaults
import HandS.Dict
import HandS.DictComp
import HandS.More
import HandS.Conv
import HandS.Text
import HandS.SortInts
import PySem.Challenge.RW_pathsallowed_k76_whole_yards_that_crash
set_option Elab.async false
set_option linter.all false
set_option maxRecDepth 100000
set_option maxHeartbeats 4000000

namespace PDM
open PySem PySem.Spec PyProof.Rows L2 RT
section
variable {prog : Program} {w : World} {A : Around} {E : Value → Shared → Prop} {s : Shared}
/-- list(it), it = reversed(a list) -/
theorem list_of_rev {it l : Addr} {items : Array Value} {Q : Value → Shared → Prop} (hh : A.handled = none) (hit : s.heap.IsRevIter it l ((items.size : Int) - 1)) (hl : s.heap.IsList l items) (hne : l ≠ it) (hn : items.size ≤ sizeLine)
    (hQ : ∀ (h' : Heap) (tk : Nat) (acc : Array Value) (c' : Nat), (∀ b o, b ≠ it → s.heap.get? b = some o → h'.get? b = some o) → h'.get? s.heap.objs.size = some { cls := .type "list", data := .seq acc c' } →
      ItemsOf (fun i v => items[items.size - 1 - i]? = some v) acc items.size → Q (.ref s.heap.objs.size) { s with heap := h', toks := tk }) : wpAny (model prog w) A (call (.type "list") [.ref it]) Q E s := by
  have hit0 : it < s.heap.objs.size := by obtain ⟨o, e, _⟩ := hit; exact Heap.lt_size e
  have hl0 : l < s.heap.objs.size := by obtain ⟨o, e, _⟩ := hl; exact Heap.lt_size e
  refine callType_codes (Q₁ := fun obj s1 => obj = .ref s.heap.objs.size ∧ s1 = { s with heap := s.heap.push { cls := .type "list", data := .seq #[] } }) F.called_list (F.typeCall_list_1 _) F.entry_list_init (code_list_new _ ⟨rfl, rfl⟩) fun obj s1 h1 => ?_
  obtain ⟨rfl, rfl⟩ := h1
  -- the new list at S
  have hS : (s.heap.push { cls := .type "list", data := .seq #[] }).get? s.heap.objs.size = some { cls := .type "list", data := .seq #[] } := Heap.get?_push_size _ rfl
  refine ⟨⟨_, hS, rfl⟩, F.args_list_init_2 _ _, ?_⟩
  generalize hSz : s.heap.objs.size = S at *
  have hSit : S ≠ it := fun e => Nat.lt_irrefl _ (e ▸ hit0)
  have hSl : S ≠ l := fun e => Nat.lt_irrefl _ (e ▸ hl0)
  have W := (Walks.listRev (prog := prog) (w := w) (A := A.in1.in1) hh it l hne items).toS
  have hSf : S ∉ [it, l] := fun hm => by
    rcases List.mem_cons.mp hm with e | hm
    · exact hSit e
    · exact hSl (List.mem_singleton.mp hm)
  show wpAny _ A.in1.in1 (do let old ← Builtin.List.listItems (.ref S); Builtin.List.listUpdate (.ref S) (fun _ => #[]); letGo old.toList.reverse; Builtin.List.listExtendWith (.ref S) (.ref it) .none) _ _ _
  refine wpAny_bind ?_
  unfold Builtin.List.listItems
  refine wpAny_bind (wpAny_seqItems hS rfl (wpAny_pure ?_))
  show wpAny _ A.in1.in1 (updateSeq S (fun _ => #[]) >>= fun _ => letGo (#[] : Array Value).toList.reverse >>= fun _ => Builtin.List.listExtendWith (.ref S) (.ref it) .none) _ _ _
  refine wpAny_bind (wpAny_updateSeq hS rfl ?_)
  have hS2 := Heap.get?_update_self (Obj.mapSeq (fun _ => (#[] : Array Value))) hS rfl
  have oth : ∀ b o, b ≠ S → s.heap.get? b = some o → ((s.heap.push { cls := .type "list", data := .seq #[] }).update S (Obj.mapSeq (fun _ => (#[] : Array Value)))).get? b = some o :=
    fun b o hb e => (Heap.get?_update_other _ _ (Ne.symm hb)).trans (Heap.get?_push_of_some _ e)
  refine wpAny_bind (wpAny_letGo ?_)
  generalize hh2 : (s.heap.push { cls := .type "list", data := .seq #[] }).update S (Obj.mapSeq (fun _ => (#[] : Array Value))) = h2 at *
  have hit2 : h2.IsRevIter it l ((items.size : Int) - 1) := hit.at fun o e => oth it o (Ne.symm hSit) e
  have hl2 : h2.IsList l items := hl.at fun o e => oth l o (Ne.symm hSl) e
  have hT : ({ s with heap := h2 } : Shared).TypeIs (.ref it) "list_reverseiterator" := Heap.IsRevIter.typeIs (s := { s with heap := h2 }) hit2
  have hr : Builtin.List.listSameRef (.ref S) (.ref it) = false := by simp [Builtin.List.listSameRef, hSit]
  unfold Builtin.List.listExtendWith
  refine wpAny_bind (wpAny_typeOf hT ?_)
  rw [if_neg (by rw [hr]; decide)]
  refine wpAny_bind (wpAny_pyIter_revIter (s := { s with heap := h2 }) hit2 ?_)
  refine wpAny_bind (wpAny_holding ?_)
  unfold Builtin.List.listLengthHint
  refine wpAny_bind (wpAny_specialOf hT nolen_lri ?_)
  show wpAny _ A.in1.in1 (specialOf (Value.ref it) (Str.ofString "__length_hint__") >>= _) _ _ _
  refine wpAny_bind (wpAny_specialOf hT hint_lri ?_)
  generalize hid : ("list_reverseiterator.__length_hint__" : String) = id0
  wp_delta
  rw [show splitId id0 = some ("list_reverseiterator", "__length_hint__") from by subst hid; decide +kernel]
  subst hid
  refine wpAny_bind (wpAny_isInstance (b := true) hT (by rw [isSubtype_type]; kernel_rfl) ?_)
  refine wpAny_pure ?_
  rw [if_neg (by decide)]
  have e0 : ((items.size : Nat) : Int) - 1 - ((0 : Nat) : Int) = (items.size : Int) - 1 := by omega
  have hS3 : h2.get? S = some { cls := .type "list", data := .seq #[] } := by
    have := hS2
    simpa [Obj.mapSeq] using this
  refine wpAny_pure ⟨plainId_quiet F.plain_extend_loop _, codeAny_extend_loopS W hn S hSf .none items.size 0 _ #[] _ rfl (Nat.zero_le _) ⟨Nat.zero_le _, by rw [e0]; exact hit2, hl2⟩ hS3 (ItemsOf.nil _) fun s' acc' c' hm hS' hacc => ?_⟩
  rw [Moved.eq_with hm]
  refine ⟨rfl, hQ s'.heap s'.toks acc' c' (fun b o hb e => hm.heap b o (fun hmem => ?_) (oth b o (fun z => ?_) e)) hS' hacc⟩
  · rcases List.mem_cons.mp hmem with e' | hmem
    · exact absurd (Heap.lt_size e) (by rw [e', ← hSz]; exact Nat.lt_irrefl _)
    · exact hb (List.mem_singleton.mp hmem)
  · exact absurd (Heap.lt_size e) (by rw [z, ← hSz]; exact Nat.lt_irrefl _)
end
end PDM
namespace PDM
open PySem PySem.Spec PyProof.Rows L2 RT
def tRevL (K : PySem.W.Frag) (te : TE) : TE := fun σ H Q => te σ H fun v H1 => ∃ (a : Addr) (xs : List V), v = .ref a ∧ SqL K H1 a xs ∧ ∀ q, H1 q = none → Q (.ref q) (upd H1 q (.lst xs.reverse))
section
variable {X : Cx}
theorem pe_revL {e : Expr} {te : TE} {p p2 pos pos2 : Pos} (hc : X.calm = true) (hg : Gl X "list") (hm : X.mg "list" = none) (hg2 : Gl X "reversed") (hm2 : X.mg "reversed" = none) (he : PE X e te)
    (hs : starEach [e] X.env = (false, eval e X.env) :: starEach [] X.env := by rfl)
    (hs2 : starEach [.Call (.Name "reversed" p2) [e] [] pos2] X.env = (false, eval (.Call (.Name "reversed" p2) [e] [] pos2) X.env) :: starEach [] X.env := by rfl) :
    PE X (.Call (.Name "list" p) [.Call (.Name "reversed" p2) [e] [] pos2] [] pos) (tRevL X.K te) := by
  constructor
  intro pins s σ H Q I h
  refine Call_ (ld_blt I hg hm boot_list (PyProof.Rows.callWith_type1 (args_cons (Call_ (ld_blt I hg2 hm2 PyProof.Rows.boot_reversed (PyProof.Rows.callWith_type1 (args_cons (thn (he.run pins s σ H _ I h) fun u s1 ⟨v, H1, I1, r1, q1⟩ => args_nil ?_) hs) hs rfl))) hs2) hs2 rfl))
  obtain ⟨a, xs, ev, hq, q⟩ := q1
  subst ev
  have eu : u = Value.ref a := r1
  subst eu
  obtain ⟨its, rv, pl, hz⟩ := I1.list hq
  refine call_reversed_list pl.isList (args_nil ?_)
  have k0 : ∀ b o, s1.heap.get? b = some o → (s1.heap.push (revObj a ((its.toArray.size : Int) - 1))).get? b = some o := fun b o e => Heap.get?_push_of_some _ e
  have I2 : Inv X pins σ H1 { s1 with heap := s1.heap.push (revObj a ((its.toArray.size : Int) - 1)) } := I1.kept (t' := s1.toks) k0
  obtain ⟨f0, f1, f2, f3, f4, f5⟩ := I1.fpOk (H' := H1) (b := s1.heap.objs.size) (Nat.le_refl _) (I1.hok.fresh (Nat.le_refl _))
  have hl := pl.isList
  obtain ⟨ol, hol, _⟩ := id hl
  have hne : a ≠ s1.heap.objs.size := Nat.ne_of_lt (Heap.lt_size hol)
  have hn : its.toArray.size ≤ sizeLine := by rw [List.size_toArray, ← rv.length]; exact hz
  refine list_of_rev (s := { s1 with heap := s1.heap.push (revObj a ((its.toArray.size : Int) - 1)) }) (I1.ok.hd hc) ⟨_, Heap.get?_push_size _ rfl, rfl, rfl⟩ (hl.push _) hne hn fun h' tk acc c' hk hS hi => ?_
  generalize hSz : (s1.heap.push (revObj a ((its.toArray.size : Int) - 1))).objs.size = S at *
  have nS : (s1.heap.push (revObj a ((its.toArray.size : Int) - 1))).get? S = none := Heap.get?_none_of_le (by rw [hSz]; exact Nat.le_refl _)
  have hnone : (PySem.W.hideAll h' [S]).get? S = none := PySem.W.hideAll_none [S] (by simp)
  have I3 : Inv X pins σ H1 { s1 with heap := PySem.W.hideAll h' [S], toks := tk } := I2.turned (t' := tk) (fun b o hb e => PySem.W.hideAll_get _ (hk b o hb e) fun hm => by
    rw [List.mem_singleton.mp hm, nS] at e; cases e) f0 f1 f3 f4 f5
  have nH : H1 S = none := I3.hok.gone hnone
  have I4 : Inv X pins σ (upd H1 S (.lst xs.reverse)) { s1 with heap := h', toks := tk } := I3.laidN (t' := tk) (fun b u e => PySem.W.of_hideAll [S] e) hnone nH ⟨by rw [List.length_reverse]; exact hz, acc.toList, c', vals_rev rv hi, by rw [Array.toArray_toList]; exact hS⟩
  exact ⟨.ref S, _, I4, rfl, q S nH⟩
end
end PDM
namespace PDM
open PySem PySem.Spec PyProof.Rows L2
section
variable {prog : Program} {w : World} {A : Around} {R : Result → Shared → Prop} {I : Addr} {fp wr : List Addr} {n : Nat} {P : Nat → Value → Prop} {St : Nat → Heap → Prop}
/-- one is less than another, in every heap that knows what B knows -/
def LtIn (prog : Program) (w : World) (A : Around) (B : Heap) (P : Nat → Value → Prop) (bt : Nat → Nat → Bool) : Prop :=
  ∀ i j vi vj (s : Shared) (Q : Value → Shared → Prop) (E : Value → Shared → Prop), (∀ b o, B.get? b = some o → s.heap.get? b = some o) → P i vi → P j vj → Q (.bool (bt i j)) s → wpAny (model prog w) A (richCompare .Lt vi vj) Q E s
theorem loop_min (W : Walks prog w A.in1 I fp wr n P St) (bt : Nat → Nat → Bool) (B : Heap) (hcmp : LtIn prog w A.in1 B P bt) (S : Addr) (hSf : S ∉ fp) (hB : ∀ b o, B.get? b = some o → b ∉ wr ∧ b ≠ S) (m : Nat) :
    ∀ (j : Nat) (s : Shared) (vb : Value) (c : Nat), n - (j + 1) = m → j + 1 ≤ n → St (j + 1) s.heap → (∀ b o, B.get? b = some o → s.heap.get? b = some o) → P (argBest bt j) vb →
    s.heap.get? S = some { cls := .type "list", dict := none, data := .seq #[vb, vb] c, slots := #[] } →
    (∀ v h1 tk, P (argBest bt (n - 1)) v → (∀ b o, b ∉ wr → b ≠ S → s.heap.get? b = some o → h1.get? b = some o) → R (.ok (.ret v)) { s with heap := h1, toks := tk }) →
    codeAny (model prog w) A (.builtin "min.loop" ⟨[.ref I, .none, .ref S], []⟩) R s := by
  have nw : S ∉ wr := fun z => hSf (W.sub _ z)
  have nm : (toString "min" ++ toString ".loop" : String) = "min.loop" := by decide
  induction m with
  | zero =>
    intro j s vb c e1 e2 e3 kB pb eS q
    have ej : j + 1 = n := by omega
    refine codeAny_builtin F.entry_min_loop ?_
    rw [Around.under_plainId F.plain_min_loop _]
    show wpAny (model prog w) A.in1 (seqItems? (.ref S) >>= _) _ _ s
    refine wpAny_bind (wpAny_seqItems eS rfl ?_)
    show wpAny (model prog w) A.in1 (tryCatch (pyNext (.ref I)) _ >>= _) _ _ s
    refine wpAny_bind (wpAny_tryCatch (W.done s _ _ (ej ▸ e3) fun h1 tk k1 => ?_))
    have eS1 := k1 S _ nw eS
    show wpAny (model prog w) A.in1 (updateSeq S (fun _ => #[]) >>= _) _ _ _
    refine wpAny_bind ?_
    refine wpAny_updateSeq eS1 rfl (wpAny_bind (wpAny_letGo (wpAny_pure ?_)))
    exact q vb _ tk (by rw [← ej]; exact pb) fun b o h2 h3 e => (Heap.get?_update_other _ _ (Ne.symm h3)).trans (k1 b o h2 e)
  | succ m ih =>
    intro j s vb c e1 e2 e3 kB pb eS q
    have lt : j + 1 < n := by omega
    refine codeAny_builtin F.entry_min_loop ?_
    rw [Around.under_plainId F.plain_min_loop _]
    show wpAny (model prog w) A.in1 (seqItems? (.ref S) >>= _) _ _ s
    refine wpAny_bind (wpAny_seqItems eS rfl ?_)
    show wpAny (model prog w) A.in1 (tryCatch (pyNext (.ref I)) _ >>= _) _ _ s
    refine wpAny_bind (wpAny_tryCatch (W.item (j + 1) s _ _ lt e3 fun v h1 tk pv st1 k1 => ?_))
    have eS1 := k1 S _ nw eS
    have kB1 : ∀ b o, B.get? b = some o → h1.get? b = some o := fun b o e => k1 b o (hB b o e).1 (kB b o e)
    show wpAny (model prog w) A.in1 (tryCatch (holding [v, v] (richCompare .Lt v vb >>= _)) _ >>= _) _ _ _
    refine wpAny_bind (wpAny_tryCatch (wpAny_holding (wpAny_bind (hcmp (j + 1) (argBest bt j) v vb _ _ _ kB1 pv pb ?_))))
    refine wpAny_bind (wpAny_holding (wpAny_truthy_bool ?_))
    refine wpAny_bind (wpAny_letGo (wpAny_pure ?_))
    cases hb : bt (j + 1) (argBest bt j) with
    | true =>
      simp only [if_true]
      refine wpAny_bind ?_
      refine wpAny_updateSeq eS1 rfl (wpAny_bind (wpAny_letGo ?_))
      rw [nm]
      refine wpAny_pure ⟨plainId_quiet F.plain_min_loop _, ih (j + 1) _ v _ (by omega) lt (W.frame _ _ _ st1 fun b h2 o e => ?_) (fun b o e => ?_) (by simp only [argBest, hb, if_true]; exact pv) (Heap.get?_update_self _ eS1 rfl) fun v' h2 tk2 pv' k2 => ?_⟩
      · exact (Heap.get?_update_other _ _ (fun z : S = b => hSf (by rw [z]; exact h2))).trans e
      · exact (Heap.get?_update_other _ _ (Ne.symm (hB b o e).2)).trans (kB1 b o e)
      · exact q v' h2 tk2 pv' fun b o h3 h4 e => k2 b o h3 h4 ((Heap.get?_update_other _ _ (Ne.symm h4)).trans (k1 b o h3 e))
    | false =>
      simp only [Bool.false_eq_true, if_false]
      refine wpAny_bind (wpAny_letGo ?_)
      rw [nm]
      refine wpAny_pure ⟨plainId_quiet F.plain_min_loop _, ih (j + 1) _ vb c (by omega) lt st1 kB1 (by simp only [argBest, hb, Bool.false_eq_true, if_false]; exact pb) eS1 fun v' h2 tk2 pv' k2 => ?_⟩
      exact q v' h2 tk2 pv' fun b o h3 h4 e => k2 b o h3 h4 (k1 b o h3 e)
theorem loop_min0 (W : Walks prog w A.in1 I fp wr n P St) (bt : Nat → Nat → Bool) (B : Heap) (hcmp : LtIn prog w A.in1 B P bt) (S : Addr) (hSf : S ∉ fp) (hB : ∀ b o, B.get? b = some o → b ∉ wr ∧ b ≠ S) (hn : 0 < n) {s : Shared} {c : Nat} (st : St 0 s.heap) (kB : ∀ b o, B.get? b = some o → s.heap.get? b = some o)
    (eS : s.heap.get? S = some { cls := .type "list", dict := none, data := .seq #[] c, slots := #[] })
    (q : ∀ v h1 tk, P (argBest bt (n - 1)) v → (∀ b o, b ∉ wr → b ≠ S → s.heap.get? b = some o → h1.get? b = some o) → R (.ok (.ret v)) { s with heap := h1, toks := tk }) :
    codeAny (model prog w) A (.builtin "min.loop" ⟨[.ref I, .none, .ref S], []⟩) R s := by
  have nw : S ∉ wr := fun z => hSf (W.sub _ z)
  have nm : (toString "min" ++ toString ".loop" : String) = "min.loop" := by decide
  refine codeAny_builtin F.entry_min_loop ?_
  rw [Around.under_plainId F.plain_min_loop _]
  show wpAny (model prog w) A.in1 (seqItems? (.ref S) >>= _) _ _ s
  refine wpAny_bind (wpAny_seqItems eS rfl ?_)
  show wpAny (model prog w) A.in1 (tryCatch (pyNext (.ref I)) _ >>= _) _ _ s
  refine wpAny_bind (wpAny_tryCatch (W.item 0 s _ _ hn st fun v h1 tk pv st1 k1 => ?_))
  have eS1 := k1 S _ nw eS
  show wpAny (model prog w) A.in1 (updateSeq S (fun _ => #[v, v]) >>= _) _ _ _
  refine wpAny_bind ?_
  refine wpAny_updateSeq eS1 rfl ?_
  rw [nm]
  refine wpAny_pure ⟨plainId_quiet F.plain_min_loop _, loop_min W bt B hcmp S hSf hB _ 0 _ v _ rfl hn (W.frame _ _ _ st1 fun b h2 o e => ?_) (fun b o e => ?_) pv (Heap.get?_update_self _ eS1 rfl) fun v' h2 tk2 pv' k2 => ?_⟩
  · exact (Heap.get?_update_other _ _ (fun z : S = b => hSf (by rw [z]; exact h2))).trans e
  · exact (Heap.get?_update_other _ _ (Ne.symm (hB b o e).2)).trans (k1 b o (hB b o e).1 (kB b o e))
  · exact q v' h2 tk2 pv' fun b o h3 h4 e => k2 b o h3 h4 ((Heap.get?_update_other _ _ (Ne.symm h4)).trans (k1 b o h3 e))
end
section
variable {prog : Program} {w : World} {A : Around} {E : Value → Shared → Prop} {s : Shared}
/-- min(xs), xs a list whose items are compared alike while they stand -/
theorem min_of_list {l : Addr} {items : Array Value} {Q : Value → Shared → Prop} (hh : A.handled = none) (hl : s.heap.IsList l items) (bt : Nat → Nat → Bool) (hcmp : LtIn prog w A.in1 s.heap (fun i v => items[i]? = some v) bt) (hn : 0 < items.size)
    (q : ∀ v h1 tk, items[argBest bt (items.size - 1)]? = some v → (∀ b o, s.heap.get? b = some o → h1.get? b = some o) → Q v { s with heap := h1, toks := tk }) : wpAny (model prog w) A (call (.builtin "min") [.ref l]) Q E s := by
  have nm : (toString "min" ++ toString ".loop" : String) = "min.loop" := by decide
  have hlt : l < s.heap.objs.size := by obtain ⟨_, e, _⟩ := hl; exact Heap.lt_size e
  refine call_function_tree F.kind_min F.plain_min F.entry_min (F.args_min1 _) ?_
  show wpAny (model prog w) A.in1 (Builtin.Builtins.bindParams "min" ["key", "default"] 0 ⟨[], []⟩ >>= _) _ _ s
  refine wpAny_bind (wpAny_of_eq (show Builtin.Builtins.bindParams "min" ["key", "default"] 0 ⟨[], []⟩ = pure [none, none] from rfl) ?_)
  refine wpAny_bind (wpAny_pure ?_)
  refine wpAny_bind (wpAny_pyIter_list hl ?_)
  have st0 : (s.heap.push { cls := .type "list_iterator", data := .fields #[.ref l, .int 0 0] }).IsListIter s.heap.objs.size l 0 := ⟨_, Heap.get?_push_size _ rfl, rfl, rfl⟩
  refine wpAny_bind (wpAny_newObj_type ?_)
  rw [nm]
  have hl1 : (s.heap.push { cls := .type "list_iterator", data := .fields #[.ref l, .int 0 0] }).IsList l items := hl.push _
  have hl2 := hl1.push { cls := .type "list", data := .seq #[] }
  have W := Walks.list (A := A.in1) (prog := prog) (w := w) hh s.heap.objs.size l (Nat.ne_of_lt hlt) items
  have hsz : (s.heap.push { cls := .type "list_iterator", data := .fields #[.ref l, .int 0 0] }).objs.size = s.heap.objs.size + 1 := Heap.size_push ..
  refine wpAny_pure ⟨plainId_quiet F.plain_min_loop _, loop_min0 W bt s.heap hcmp _ (fun hm => ?_) (fun b o e => ?_) hn (W.frame 0 _ _ ⟨st0, hl1⟩ fun b _ o e => Heap.get?_push_of_some _ e) (fun b o e => Heap.get?_push_of_some _ (Heap.get?_push_of_some _ e)) (Heap.get?_push_size _ rfl) fun v h1 tk pv k1 => ?_⟩
  · rcases List.mem_cons.mp hm with e | hm
    · exact absurd (hsz.symm.trans e) (Nat.succ_ne_self _)
    · exact absurd (hsz.symm.trans (List.mem_singleton.mp hm)) (Nat.ne_of_gt (Nat.lt_succ_of_lt hlt))
  · have hb := Heap.lt_size e
    exact ⟨fun hm => absurd (List.mem_singleton.mp hm) (Nat.ne_of_lt hb), fun z => absurd (z.trans hsz) (Nat.ne_of_lt (Nat.lt_succ_of_lt hb))⟩
  · refine q v h1 tk pv fun b o e => ?_
    have hb := Heap.lt_size e
    exact k1 b o (fun hm => absurd (List.mem_singleton.mp hm) (Nat.ne_of_lt hb)) (fun z => absurd (z.trans hsz) (Nat.ne_of_lt (Nat.lt_succ_of_lt hb))) (Heap.get?_push_of_some _ (Heap.get?_push_of_some _ e))
end
/-! over the layer: a list of pairs of ints -/
section
variable {X : Cx}
/-- min(xs): the first least one -/
def rMinP (K : PySem.W.Frag) : List V → Hp → VK → Prop := fun vs H Q => ∃ (a : Addr) (xs : List V) (k : Nat → List Int), vs = [.ref a] ∧ SqL K H a xs ∧ (∀ i x, xs[i]? = some x → ∃ t, x = .ref t ∧ SqT K H t ((k i).map V.int)) ∧ 0 < xs.length ∧
  ∀ x, xs[argBest (fun i j => HT.lexLt (k i) (k j)) (xs.length - 1)]? = some x → Q x H
theorem cr_minP (hc : X.calm = true) (hu : X.A.units + 1 < cLine) : CallR X (.builtin "min") (rMinP X.K) := by
  intro pins s σ H vs us Q I r h
  obtain ⟨a, xs, k, rfl, hs, hx, hn, q⟩ := h
  obtain ⟨u, rfl, ru⟩ := vals1 r
  have eu : u = Value.ref a := ru
  subst eu
  obtain ⟨its, rv, pl, hz⟩ := I.list hs
  have hl := rv.length
  refine min_of_list (I.ok.hd hc) pl.isList (fun i j => HT.lexLt (k i) (k j)) ?_ (by simpa using (by omega : 0 < its.length)) fun v h1 tk pv k1 => ?_
  · intro i j vi vj s' Q' E' kB hi hj hq
    have at_ : ∀ i vi, its.toArray[i]? = some vi → ∃ (t : Addr) (its2 : Array Value), vi = .ref t ∧ IsTup s'.heap t its2 ∧ IntsAre its2.toList (k i) := fun i vi hi => by
      have hi' : its[i]? = some vi := by simpa using hi
      have hlt : i < xs.length := by rw [hl]; exact (List.getElem?_eq_some_iff.mp hi').1
      obtain ⟨w', hw, rw'⟩ := rv.get (List.getElem?_eq_getElem hlt)
      rw [hi'] at hw; cases hw
      obtain ⟨t, et, ht⟩ := hx i _ (List.getElem?_eq_getElem hlt)
      rw [et] at rw'
      have e : vi = .ref t := rw'
      subst e
      obtain ⟨its2, r2, p2, _⟩ := I.tuple ht
      obtain ⟨o, ho, c, n, d⟩ := p2
      exact ⟨t, its2.toArray, rfl, ⟨o, kB _ _ ho, c, n, d⟩, intsAre_of r2⟩
    obtain ⟨t, a1, rfl, p1, i1⟩ := at_ i vi hi
    obtain ⟨u, a2, rfl, p2, i2⟩ := at_ j vj hj
    exact HT.lt_tupInts p1 p2 i1 i2 (by show X.A.in1.units < cLine; have : X.A.in1.units = X.A.units + 1 := rfl; omega) hq
  · have hsz : its.toArray.size = xs.length := by rw [List.size_toArray]; exact hl.symm
    rw [hsz] at pv
    have hi' : its[argBest (fun i j => HT.lexLt (k i) (k j)) (xs.length - 1)]? = some v := by simpa using pv
    have hlt : argBest (fun i j => HT.lexLt (k i) (k j)) (xs.length - 1) < xs.length := Nat.lt_of_lt_of_eq (List.getElem?_eq_some_iff.mp hi').1 hl.symm
    obtain ⟨w', hw, rw'⟩ := rv.get (List.getElem?_eq_getElem hlt)
    rw [hi'] at hw; cases hw
    exact ⟨_, H, I.kept (t' := tk) k1, rw', q _ (List.getElem?_eq_getElem hlt)⟩
end
end PDM
namespace PDM
open PySem PySem.Spec PyProof.Rows L2 HotX
section
variable {prog : Program} {w : World} {A : Around} {E : Value → Shared → Prop} {s : Shared}
theorem next_list_end_hot {it l x1 : Addr} {i : Nat} {items : Array Value} {Q : Option Value → Shared → Prop} (hot : HotAt A x1 s.heap) (hne : x1 ≠ it) (hit : s.heap.IsListIter it l i) (hl : s.heap.IsList l items) (hx : items[i]? = none)
    (q : ∀ h1, (∀ b o, b ≠ it → s.heap.get? b = some o → h1.get? b = some o) → Q none { s with heap := h1 }) : wpAny (model prog w) A (pyNext (.ref it)) Q E s := by
  obtain ⟨o, ho, hc, hd⟩ := id hit
  obtain ⟨ol, hol, _, nl, hdl⟩ := hl
  obtain ⟨hh, o1, vs1, h1, d1, c1⟩ := hot
  unfold pyNext
  refine wpAny_bind (wpAny_attempt (wpAny_callSpecial?_slot (name := Str.ofString "__next__") hit.typeIs slot_listiter_next (wpAny_call_entry slot_listiter_next hit.typeIs entry_listiter_next ?_ (args_listiter_next _))))
  show wpAny (model prog w) A.in1 (field (.ref it) 0 >>= _) _ _ s
  refine wpAny_bind (wpAny_field ho hd (x := .ref l) rfl ?_)
  show wpAny (model prog w) A.in1 (if (Value.ref l == Value.none) = true then _ else _) _ _ s
  rw [if_neg (show ¬ ((Value.ref l == Value.none) = true) from Bool.false_ne_true)]
  show wpAny (model prog w) A.in1 (field (.ref it) 1 >>= _) _ _ s
  refine wpAny_bind (wpAny_field ho hd (x := .int i 0) rfl ?_)
  show wpAny (model prog w) A.in1 (seqItems? (.ref l) >>= _) _ _ s
  refine wpAny_bind (wpAny_seqItems hol hdl ?_)
  simp only [Int.toNat_natCast, hx]
  refine wpAny_bind (wpAny_rule (wpAny_bind (wpAny_setField ho hd (by simp) ?_)))
  show wpAny (model prog w) A.in1 (newExc (.type "StopIteration") [] >>= _) _ _ _
  refine wpAny_bind ?_
  simp only [newExc, newTuple]
  refine wpAny_bind (wpAny_newObj_type ?_ (by size_fits))
  refine wpAny_bind (m := firstArgMember _ _) (wpAny_of_eq (a := Value.none) (by first | rfl | (simp only [firstArgMember]; rfl)) ?_)
  refine wpAny_newObj_type ?_ (by size_fits)
  have k0 : ∀ b o', b ≠ it → s.heap.get? b = some o' → (s.heap.update it (Obj.mapFields (·.setIfInBounds 0 Value.none))).get? b = some o' := fun b o' hb e => (Heap.get?_update_other _ _ (Ne.symm hb)).trans e
  have e1 := k0 x1 o1 hne h1
  refine raiseNew_hot (A := A.in1) ⟨hh, o1, vs1, Heap.get?_push_of_some _ (Heap.get?_push_of_some _ e1), d1, c1⟩ (Nat.ne_of_lt (Heap.lt_size (Heap.get?_push_of_some _ e1))) (Heap.get?_push_size _ rfl) rfl (by first | (simp; done) | (simp; omega) | (simp only [Array.size_append]; simp; omega)) ?_
  refine wpAny_bind (wpAny_isInstance (T := "StopIteration") (b := true) ⟨_, Heap.get?_update_self _ (Heap.get?_push_size _ rfl) rfl, rfl⟩ isSubtype_stop ?_)
  refine wpAny_pure (q _ fun b o' hb e => ?_)
  have e2 := Heap.get?_push_of_some { cls := .type "tuple", data := .seq ([] : List Value).toArray } (k0 b o' hb e)
  rw [Heap.get?_update_other _ _ (Nat.ne_of_gt (Heap.lt_size e2))]
  exact Heap.get?_push_of_some _ e2
end
end PDM
namespace PDM
open PySem PySem.Spec PyProof.Rows L2 HotX
section
variable {X : Cx}
theorem item_listH {tg : Expr} {a it : Addr} {i : Nat} {pins : List (Addr × Obj)} {s : Shared} {σ : L2.St} {H : Hp} {E : Value → Shared → Prop} (I : Inv X pins σ H s) (hf : FpOk X pins H it) (st : s.heap.IsListIter it a i) (hg : (Itl X.K a).go i H) :
    wpAny (model X.prog X.w) X.A (pyNext (.ref it)) (fun r s1 => ∃ u, r = some u ∧ wpAny (model X.prog X.w) X.A (letOwnedTupleGo tg (.ref it) u) (fun _ s2 => ∃ x H', Inv X pins σ H' s2 ∧ RelV x u ∧ (Itl X.K a).yld i H x H' ∧ s2.heap.IsListIter it a (i + 1) ∧ H' it = none) E s1) E s := by
  obtain ⟨xs, x, hq, hx⟩ := hg
  obtain ⟨its, rv, pl, hz⟩ := I.list hq
  obtain ⟨u, hu, ru⟩ := rv.get hx
  obtain ⟨f0, f1, f2, f3, f4, f5⟩ := hf
  refine wpAny_pyNext_list_item st pl.isList (x := u) (by simpa using hu) fun h1 st1 sb => ?_
  have I1 : Inv X pins σ H { s with heap := h1 } := I.turned (t' := s.toks) (fun b o hb e => (sb.2 b hb).trans e) f0 f1 f3 f4 f5
  obtain ⟨o, e, c, d⟩ := id st1
  exact ⟨u, rfl, go_of (s := { s with heap := h1 }) e c d (by decide) ⟨x, H, I1, ru, ⟨rfl, fun ys hy => by rw [I.list_inj hy hq]; exact hx⟩, st1, f0⟩⟩
theorem done_listH {a it x1 : Addr} {i : Nat} {pins : List (Addr × Obj)} {s : Shared} {σ : L2.St} {H : Hp} {E : Value → Shared → Prop} (hot : HotAt X.A x1 s.heap) (hne : x1 ≠ it) (I : Inv X pins σ H s) (hf : FpOk X pins H it) (st : s.heap.IsListIter it a i) (hg : (Itl X.K a).stop i H) :
    wpAny (model X.prog X.w) X.A (pyNext (.ref it)) (fun r s1 => r = none ∧ Inv X pins σ H s1) E s := by
  obtain ⟨xs, hq, hx⟩ := hg
  obtain ⟨its, rv, pl, hz⟩ := I.list hq
  obtain ⟨f0, f1, f2, f3, f4, f5⟩ := hf
  have hl := rv.length
  exact next_list_end_hot hot hne st pl.isList (by simp; omega) fun h1 eb => ⟨rfl, I.turned (t' := s.toks) (fun b o hb e => eb b o hb e) f0 f1 f3 f4 f5⟩
/-- [elt for tg in iter if ..] over a list, within an except suite's call -/
theorem pe_lcH {elt tg iter : Expr} {ifs : List Expr} {scope : Scope} {own : List (Str × Nat)} {pos : Pos} {tl : TE} {g : TG} {tt : TT} {te : TE} (hot : L2H.HotC X) (hN : X.N.Nodup) (hi : PE X iter tl) (ok : BlkOk X.N X.env.scope scope own)
    (hg : ∀ (s : Shared) (H : Hp) (C : Addr) (cl : List (Str × Addr)) (fp : List Addr), PG (X.blk s H scope (compEnvC scope cl C X.env) fp) tg g) (ht : ∀ (s : Shared) (H : Hp) (C : Addr) (cl : List (Str × Addr)) (fp : List Addr), PTs (X.blk s H scope (compEnvC scope cl C X.env) fp) ifs tt)
    (he : ∀ (s : Shared) (H : Hp) (C : Addr) (cl : List (Str × Addr)) (fp : List Addr), PE (X.blk s H scope (compEnvC scope cl C X.env) fp) elt te) (hs : ∀ x, foldedSetIterable iter X.env x = pure x := by intro _; rfl) :
    PE X (.ListComp elt [⟨tg, iter, ifs, 0⟩] scope pos) (tLc (iList X.K tl) g tt te (own.map (·.2))) := by
  constructor
  intro pins s σ H Q I h
  rw [eval_ListComp]
  obtain ⟨p, ⟨hh, v1, d1, c1⟩, hpn⟩ := hot
  have hfree : ∀ y ∈ scope.names, y.2 = .free → ∃ c, X.env.cells.lookup y.1 = some c := fun y hy e => (ok.free y hy e).elim (fun k => I.ok.has _ (.inl k)) fun k => I.ok.has _ (.inr k)
  refine wpAny_comprehension_free (use := none) rfl hs (closure_ok hfree) ok.kind (fun y hy e => by rw [ok.uniq y hy, e]) (thn (hi.run pins s σ H _ I h) fun xv s1 ⟨xw, H2, I1, r1, a, ea, ⟨xs, hq⟩, q⟩ => ?_)
  subst ea
  have exv : xv = Value.ref a := r1
  subst exv
  obtain ⟨its, rv, pl, hz⟩ := I1.list hq
  refine wpAny_pyIter_list pl.isList ?_
  -- the iterator
  generalize hit : s1.heap.objs.size = it
  generalize hs2 : ({ s1 with heap := s1.heap.push { cls := .type "list_iterator", data := .fields #[.ref a, .int 0 0] } } : Shared) = s2
  have I2 : Inv X pins σ H2 s2 := by
    rw [← hs2]
    exact I1.kept (t' := s1.toks) fun b o e => Heap.get?_push_of_some _ e
  have st2 : s2.heap.IsListIter it a 0 := by
    rw [← hs2, ← hit]
    exact ⟨_, Heap.get?_push_size _ rfl, rfl, rfl⟩
  have f2 : FpOk X pins H2 it := by
    rw [← hit]
    exact I1.fpOk (Nat.le_refl _) (I1.hok.fresh (Nat.le_refl _))
  refine wpAny_newObj_type (newEnv_comp ?_) (by show 0 ≤ sizeLine; decide)
  generalize hD : s2.heap.objs.size = D
  have hDn : H2 D = none := I2.hok.fresh (Nat.le_of_eq hD)
  obtain ⟨W, ⟨m0, w0⟩, turn⟩ := q D hDn
  generalize hs3 : ({ s2 with heap := s2.heap.push { cls := .type "list", data := .seq ([] : List Value).toArray } } : Shared) = s3
  have I3 : Inv X pins σ (upd H2 D (.lst [])) s3 := by
    rw [← hs3]
    refine I2.laid (t' := s2.toks) (fun b o e => Heap.get?_push_of_some _ e) (Nat.le_of_eq hD) ⟨Nat.zero_le _, [], 0, .nil, ?_⟩
    rw [← hD]
    exact Heap.get?_push_size _ rfl
  have h3 : s3.heap = s2.heap.push { cls := .type "list", data := .seq ([] : List Value).toArray } := by rw [← hs3]
  have itlt : it < s2.heap.objs.size := by obtain ⟨o, e, _⟩ := st2; exact Heap.lt_size e
  have f3 : FpOk X pins (upd H2 D (.lst [])) it ∧ it < s3.heap.objs.size := by
    refine ⟨⟨?_, f2.2⟩, by rw [h3, Heap.size_push]; exact Nat.lt_succ_of_lt itlt⟩
    rw [upd_ne (by rw [← hD]; exact Nat.ne_of_lt itlt)]
    exact f2.1
  have st3 : s3.heap.IsListIter it a 0 := by
    obtain ⟨o, e, z⟩ := st2
    exact ⟨o, by rw [h3]; exact Heap.get?_push_of_some _ e, z⟩
  have f3' : ∀ b ∈ [it], FpOk X pins (upd H2 D (.lst [])) b ∧ b < s3.heap.objs.size := fun b hb => by rw [List.mem_singleton.mp hb]; exact f3
  have I4 := block_start I3 ok hN f3'
  have pg := hg s3 (upd H2 D (.lst [])) s3.heap.objs.size (cellsFrom (s3.heap.objs.size + 1) scope.names (cloFrom X.env.cells scope.names [])) [it]
  have pt := ht s3 (upd H2 D (.lst [])) s3.heap.objs.size (cellsFrom (s3.heap.objs.size + 1) scope.names (cloFrom X.env.cells scope.names [])) [it]
  have pe := he s3 (upd H2 D (.lst [])) s3.heap.objs.size (cellsFrom (s3.heap.objs.size + 1) scope.names (cloFrom X.env.cells scope.names [])) [it]
  show codeAny _ _ (.compStart (.ListComp elt [⟨tg, iter, ifs, 0⟩] scope pos) 0 (.ref it) (.ref D) (compEnvC scope (cellsFrom (s3.heap.objs.size + 1) scope.names (cloFrom X.env.cells scope.names [])) s3.heap.objs.size X.env)) (compPost (model X.prog X.w) X.A X.xe none (EP X pins σ Q) (.ref D) s3.heap.objs.size) { s3 with heap := pushCells (s3.heap.push { cls := .type "dict", data := .dict #[] }) scope.names }
  generalize hce : compEnvC scope (cellsFrom (s3.heap.objs.size + 1) scope.names (cloFrom X.env.cells scope.names [])) s3.heap.objs.size X.env = ce at I4 pg pt pe ⊢
  have cL : ce.locals = s3.heap.objs.size := by subst hce; rfl
  -- the handled exception stands where the block starts
  have P3 := I3.pin p (List.mem_append_left _ hpn)
  have pfr : p.1 ∉ frs X.stack := fun hm => (List.mem_cons.mp (I3.stkSub p.1 hm)).elim P3.2.2.1 P3.2.2.2.1
  have pit : p.1 ≠ it := fun z => f2.2.2.2.2.2 p (List.mem_append_left _ hpn) z
  generalize hH3 : upd H2 D (.lst []) = H3 at I3 I4 pg pt pe w0 f3 f3' P3
  generalize hs4 : ({ s3 with heap := pushCells (s3.heap.push { cls := .type "dict", data := .dict #[] }) scope.names } : Shared) = s4 at I4 ⊢
  have st4 : s4.heap.IsListIter it a 0 := by
    obtain ⟨o, e, z⟩ := st3
    exact ⟨o, by rw [← hs4]; exact pushCells_keeps _ _ _ _ (Heap.get?_push_of_some _ e), z⟩
  have stat : ∀ {σ' : L2.St} {H' : Hp} {s' : Shared}, Inv (X.blk s3 H3 scope ce [it]) [] σ' H' s' → H' it = none → FpOk (X.blk s3 H3 scope ce [it]) [] H' it := fun {σ' H' s'} I' hn =>
    ⟨hn, (I'.ok.exf it (by simp)).1, I'.ok.exfs it (by simp), .inl (by simp), fun x c e => (I'.ok.exf it (by simp)).2 x c e, fun p hp => absurd (show p ∈ ([] : List (Addr × Obj)) ++ [] from hp) (by simp)⟩
  have hotAt : ∀ {σ' : L2.St} {H' : Hp} {s' : Shared}, Inv (X.blk s3 H3 scope ce [it]) [] σ' H' s' → HotAt X.A p.1 s'.heap := fun {σ' H' s'} I' =>
    ⟨hh, p.2, v1, I'.base.keep p.1 p.2 P3.1 P3.2.1 pfr (by simpa using pit), d1, c1⟩
  have loop : codeAny (model X.prog X.w) X.A (.compLoop (.ListComp elt [⟨tg, iter, ifs, 0⟩] scope pos) 0 (.ref it) (.ref D) ce) (compPost (model X.prog X.w) X.A X.xe none (EP X pins σ Q) (.ref D) s3.heap.objs.size) s4 := by
    refine compLoop_any (fun n s' => ∃ i H', Inv (X.blk s3 H3 scope ce [it]) [] (wipe σ (own.map (·.2))) H' s' ∧ s'.heap.IsListIter it a i ∧ H' it = none ∧ W i n H') ?_ m0 ⟨0, H3, I4, st4, f3.1.1, w0⟩
    rintro n s5 ⟨i, H5, I5, st5, n5, w5⟩
    rcases turn i n H5 w5 with ⟨stop, qq⟩ | ⟨go, Nx, hNx, step⟩
    · refine thnF (done_listH (X := X.blk s3 H3 scope ce [it]) (hotAt I5) pit I5 (stat I5 n5) st5 stop) fun r s6 ⟨hr, I6⟩ => ?_
      subst hr
      have I7 : Inv X pins σ H5 s6 := I3.call' (ch := [it]) I6.os I6.base I6.hok I6.bare fun b hb => by
        have z := (f3' b hb).1
        exact ⟨z.2.2.2.1, z.2.1, z.2.2.2.2.1, z.2.2.2.2.2⟩
      have nC : H5 s3.heap.objs.size = none := by
        have z : H5 ce.locals = none := I6.free
        rw [cL] at z
        exact z
      obtain ⟨m, hn, _⟩ := I6.loc
      have hn : s6.heap.Ns ce.locals m := hn
      rw [cL] at hn
      refine ⟨m, hn, fun h'' sb => ?_⟩
      obtain ⟨g0, g1, g2, g3, g4, g5⟩ := I3.fpOk (Nat.le_refl _) nC
      exact ⟨.ref D, H5, I7.turned (t' := s6.toks) (fun b o hb e => (sb.2 b hb).trans e) g0 g1 g3 g4 g5, rfl, qq⟩
    · refine thnF (item_listH (X := X.blk s3 H3 scope ce [it]) (tg := tg) I5 (stat I5 n5) st5 go) fun r s6 ⟨u, hr, h6⟩ => ?_
      subst hr
      refine thnF h6 fun _ s7 ⟨x, H7, I7, r7, y7, st7, n7⟩ => ?_
      have ob7 : ∀ b ∈ [it], ∃ o, s7.heap.get? b = some o ∧ ∀ v, o.data ≠ .cell v := fun b hb => by
        rw [List.mem_singleton.mp hb]
        obtain ⟨o, e, c, d⟩ := st7
        exact ⟨o, e, fun v z => by rw [d] at z; cases z⟩
      have I7' := I7.pinned (fp := [it]) (fun b hb => by rw [List.mem_singleton.mp hb]; exact stat I7 n7) ob7
      refine thnF (pg.run _ s7 _ H7 x u _ I7' r7 (step x H7 y7)) fun _ s8 ⟨σ8, H8, I8, hw8, q8⟩ => ?_
      refine thnF (pt.run _ s8 σ8 H8 _ I8 q8) fun b s9 ⟨H9, I9, q9⟩ => ?_
      have fin : ∀ {s' : Shared} {H' : Hp}, Inv (X.blk s3 H3 scope ce [it]) ([] ++ pinsAt [it] s7.heap) σ8 H' s' → Nx H' → ∃ m, m < n ∧ ∃ i H', Inv (X.blk s3 H3 scope ce [it]) [] (wipe σ (own.map (·.2))) H' s' ∧ s'.heap.IsListIter it a i ∧ H' it = none ∧ W i m H' := fun {s' H'} I' nx => by
        obtain ⟨m', hm, w'⟩ := hNx H' nx
        obtain ⟨o, e, cd⟩ := st7
        have z := I'.pin (it, o) (List.mem_append_right _ (List.mem_append_right _ (mem_pinsAt (by simp) e)))
        have hl : (wipe σ (own.map (·.2))).length = σ8.length := by rw [← hw8, wipe_length]
        exact ⟨m', hm, i + 1, H', (I'.unpinned (pins := [])).weak hl (fun j v e => by rw [← hw8] at e; exact (wipe_some e).1), ⟨o, z.1, cd⟩, z.2.1, w'⟩
      cases b with
      | false =>
        simp only [Bool.false_eq_true, if_false] at q9 ⊢
        exact fin I9 q9
      | true =>
        simp only [if_true] at q9 ⊢
        refine thnF (pe.run _ s9 σ8 H9 _ I9 q9) fun z s10 ⟨yv, H10, I10, r10, acc, hD10, hz10, nx⟩ => ?_
        exact app_ok (X := X.blk s3 H3 scope ce [it]) I10 hD10 hz10 r10 fun s11 I11 => fin I11 nx
  exact codeAny_compStart_list loop (wpAny_pyIter_listiter st4 loop)
end
end PDM
namespace PDM
open PySem PySem.Spec PyProof.Rows L2 HotX L2H
/-! a def that is called within an except suite, its promise by the exception that is handled -/
structure FnP (P : Program) (w : World) (K : PySem.W.Frag) (mg : Str → Option Value) (base : Heap) (CX : CXT) (k : Nat) (f : Addr) (fd : FuncData) (ps : List Str) (sp : Addr × Obj → Sp) : Prop where
  len : ∀ p vs H Q E, sp p vs H Q E → vs.length = ps.length
  run : ∀ (A : Around) (outer : List Env) (s : Shared) (H : Hp) (args : Args) (us : List Value) (vs : List V) (Q : VK) (E : XK) (p : Addr × Obj), RoomH k A → Hot1 A p → PinOk outer H s p → Env0 P w K mg base A outer s H → BindsTo s fd args (ps.zip us) → Vals vs us → sp p vs H Q E →
    codeAny (model P w) A (.call (.ref f) args) (CR CX outer P w H s Q E) s
theorem fnp_of {CX : CXT} {P : Program} {w : World} {K : PySem.W.Frag} {mg : Str → Option Value} {base : Heap} {k : Nat} {f : Addr} {name qual : Str} {params : Arguments} {body : List Stmt} {scope : Scope} {dV kV doc pm cdv ct oc : Value} {an od : Option Addr}
    {osl : Array (Option Value)} {N ps : List Str} {sp : Addr × Obj → Sp} (lk : K.lookup f = some ⟨oc, od, .func (PySem.W.fnOf name qual params body scope dV kV doc pm an cdv ct), osl⟩) (hcd : PySem.W.codeIn K cdv qual = true) (S : FnScope N ps scope)
    (len : ∀ p vs H Q E, sp p vs H Q E → vs.length = ps.length)
    (hbody : ∀ (A : Around) (outer : List Env) (s : Shared) (H : Hp) (vs : List V) (Q : VK) (E : XK) (p : Addr × Obj), Hot1 A p → RoomH k (A.deeper (envOfC qual scope s.heap.objs.size f cdv)) → sp p vs H Q E →
      ∃ t, PSs (cxH CX P w K mg base N qual scope f cdv A outer s H E p) body t ∧ t { nx := fun _ H' => Q .non H', rt := Q } (L2.start N vs) H) :
    FnP P w K mg base CX (k + 1) f (PySem.W.fnOf name qual params body scope dV kV doc pm an cdv ct) ps sp := by
  constructor
  · exact len
  intro A outer s H args us vs Q E p hr hot hpin e0 hb r hsp
  have hl := len _ _ _ _ _ hsp
  have kin : K.In s.heap := e0.mod.kin.keeps fun b o e => (e0.bs b o e).1
  have nol : s.heap.NoLimit := e0.mod.nolimit.keeps fun b o e => (e0.bs b o e).1
  have kinds : ∀ y ∈ ps.zip us, scope.names.lookup y.1 = some .local ∨ (scope.names.lookup y.1 = some .cell ∧ ((cellsFrom (s.heap.objs.size + 1) scope.names []).lookup y.1).isSome = true) := fun y hy =>
    (S.par y.1 (List.of_mem_zip (show (y.1, y.2) ∈ ps.zip us from hy)).1).elim .inl fun q => .inr ⟨q, PySem.W.cellsFrom_some _ _ _ (.inl q)⟩
  refine codeAny_call_function hr.depth (kin _ _ lk) rfl S.co S.gen rfl (PySem.W.codeRec_of kin hcd) (hb _ _ _ _ (wpAny_newFunctionEnv_cells S.kind kinds fun env he s1 x => ?_))
  subst he
  refine ⟨nol.keeps x.toInCall.keep, codeAny_func ?_⟩
  obtain ⟨t, ht, hq⟩ := hbody A outer s H vs Q E p hot (hr.deeper _) hsp
  have I := inv_startH (CX := CX) (P := P) (w := w) (K := K) (mg := mg) (base := base) (qual := qual) (f := f) (cd := cdv) (E := E) S hpin e0 hl r x
  refine wpAny_mono (ht.run [] s1 (L2.start N vs) H _ I hq) (fun fl s' hs => ?_) fun e s' hs => hs
  cases fl with
  | ret u => obtain ⟨v, σ', H', J, rv, q⟩ := hs; exact ⟨v, H', J.os, J.bare, J.base, J.hok, rv, q⟩
  | next => obtain ⟨σ', H', J, q⟩ := hs; exact ⟨V.non, H', J.os, J.bare, J.base, J.hok, rfl, q⟩
  | brk => obtain ⟨_, _, _, q⟩ := hs; exact q.elim
  | cont => obtain ⟨_, _, _, q⟩ := hs; exact q.elim
section
variable {X : Cx} {CX : CXT} {k : Nat} {f : Addr} {fd : FuncData} {ps : List Str} {sp : Addr × Obj → Sp} {E : L2.St → XK} {x : Str} {q pos : Pos} {e : Expr} {es : List Expr} {t : TA} {p : Addr × Obj}
theorem pe_callP (F : FnP X.prog X.w X.K X.mg X.base CX k f fd ps sp) (hr : RoomH k X.A) (hp : Hot1 X.A p) (hm : p ∈ X.pn) (hg : Gl X x) (hf : X.mg x = some (.ref f)) (hk : PySem.W.keepIn X.K (.ref f) = true) (hb : Binds X.K fd ps []) (hx : ∀ σ, PassesAt CX X σ (E σ))
    (ha : PA X (e :: es) t) (hdb : (x == ("__debug__" : Str)) = false := by decide) (he : starEach (e :: es) X.env = (false, eval e X.env) :: starEach es X.env := by rfl) (hpl : (backTo pos (starEach es X.env)).any (·.1) = false := by rfl) :
    PE X (.Call (.Name x q) (e :: es) [] pos) (tCallS (sp p) E t) := by
  constructor
  intro pins s σ H Q I h
  refine wpAny_Call_Name_kw (ld_glob I hg hf ?_ hdb)
  refine PySem.W.callWith_K (h₀ := X.base) I.ok.mod.kin hk (thn (ha.run pos pins s σ H _ I h) fun us s1 ⟨vs, H1, I1, r, hs⟩ => ⟨I1.kIn, ?_⟩) he hpl
  have hl : us.length = ps.length := by rw [← r.length]; exact F.len _ _ _ _ _ hs
  have b := hb s1 us I1.kIn (by rw [List.append_nil]; exact hl)
  rw [List.append_nil] at b
  have P1 := I1.pin p (List.mem_append_left _ hm)
  have hpin : PinOk X.stack H1 s1 p := ⟨P1.1, P1.2.1, fun z => (List.mem_cons.mp (I1.stkSub p.1 z)).elim P1.2.2.1 P1.2.2.2.1, P1.2.2.2.2⟩
  refine wpAny_call (codeAny_mono (F.run X.A X.stack s1 H1 ⟨us, []⟩ us vs Q (E σ) p hr hp hpin I1.env0 b r hs) fun r s' hq => ?_)
  cases r with
  | error e => exact hx σ pins H1 s1 e s' I1 hq
  | ok fl =>
    cases fl with
    | ret u => exact I1.after hq
    | next => exact hq.elim
    | brk => exact hq.elim
    | cont => exact hq.elim
/-- isinstance(e, C) of a handled exception of the class at D -/
theorem call_isP {D : Addr} (C : ExcC X.K D) (hm : p ∈ X.pn) (hz : p.2.cls = .ref D ∧ p.2.dict = none) (hf : ∃ vs, p.2.data = .fields vs) : CallR X (.builtin "isinstance") (rIsE X.K D p.1) := by
  intro pins s σ H xs us Q I r h
  obtain ⟨c, cv, b, rfl, hcv, e, q⟩ := h
  obtain ⟨u1, u2, rfl, rx, rt⟩ := vals2 r
  have e1 : u1 = Value.ref p.1 := rx
  have e2 := hcv _ rt
  subst e1 e2
  have hget := (I.pin p (List.mem_append_left _ hm)).1
  obtain ⟨vs, hv⟩ := hf
  have J : PySem.W.InstAt s.heap p.1 p.2 D none := by
    obtain ⟨a, oc, od, oda, osl⟩ := p
    obtain ⟨h1, h2⟩ := hz
    dsimp only at h1 h2 hv
    subst h1 h2 hv
    exact ⟨hget, rfl, rfl, trivial⟩
  exact PySem.W.kia_one (PySem.W.handS_kitx_exc C.hg C.hk C.hs C.hd C.ha C.hn C.ht C.hm) I.kIn J e (fun z => nomatch z) fun tk => ⟨.bl b, H, I.kept (t' := tk) fun _ _ z => z, rfl, q⟩
end
end PDM
/-! PD: programs read as functions over plain data with a small store of mutable cells. -/
namespace PD
open PySem PySem.Spec PyProof.Rows L2

/-! ### data and store -/
inductive W where
  | non | bl (b : Bool) | int (i : Int) | str (s : Str)
  | tup (l : List W) | lst (l : List W) | scr (l : List W)
  | loc (n : Nat) | ref (a : Addr) | ty (n : String)
inductive Cell where
  | lst (l : List W) | ins (C : Addr) (fs : List (Str × W)) | dead
  /-- a dict of int and text keys; lk: a loop walks it -/
  | dK (kvs : List (Key × W)) (lk : Bool)
abbrev Mu := List Cell
abbrev St := L2.St
abbrev Env := List (Option W)

mutual
inductive Rep (K : PySem.W.Frag) (θ : List Addr) (F : Hp) : V → W → Prop
  | non : Rep K θ F .non .non
  | bl (b : Bool) : Rep K θ F (.bl b) (.bl b)
  | int (i : Int) : Rep K θ F (.int i) (.int i)
  | str (x : Str) : Rep K θ F (.str x) (.str x)
  | ty (n : String) : Rep K θ F (.ty n) (.ty n)
  | ref (a : Addr) : Rep K θ F (.ref a) (.ref a)
  | loc {n : Nat} {a : Addr} : θ[n]? = some a → Rep K θ F (.ref a) (.loc n)
  | tup {a : Addr} {vs : List V} {ws : List W} : SqT K F a vs → RepAll K θ F vs ws → Rep K θ F (.ref a) (.tup ws)
  | lst {a : Addr} {vs : List V} {ws : List W} : F a = some (.lst vs) → RepAll K θ F vs ws → Rep K θ F (.ref a) (.lst ws)
  | scr {a : Addr} {vs : List V} {ws : List W} : SqL K F a vs → RepAll K θ F vs ws → Rep K θ F (.ref a) (.scr ws)
inductive RepAll (K : PySem.W.Frag) (θ : List Addr) (F : Hp) : List V → List W → Prop
  | nil : RepAll K θ F [] []
  | cons {v : V} {vs : List V} {w : W} {ws : List W} : Rep K θ F v w → RepAll K θ F vs ws → RepAll K θ F (v :: vs) (w :: ws)
end

/-- F' knows all that F knows -/
def Sub (F F' : Hp) : Prop := ∀ a o, F a = some o → F' a = some o
theorem Sub.refl (F : Hp) : Sub F F := fun _ _ h => h
theorem Sub.trans {F G J : Hp} (a : Sub F G) (b : Sub G J) : Sub F J := fun x o h => b x o (a x o h)
theorem Sub.sqT {K : PySem.W.Frag} {F F' : Hp} {a : Addr} {xs : List V} (e : Sub F F') (h : SqT K F a xs) : SqT K F' a xs := by
  rcases h with (h | ⟨o, h⟩) | h
  · exact .inl (.inl (e _ _ h))
  · exact .inl (.inr ⟨o, e _ _ h⟩)
  · exact .inr h
theorem Sub.sqL {K : PySem.W.Frag} {F F' : Hp} {a : Addr} {xs : List V} (e : Sub F F') (h : SqL K F a xs) : SqL K F' a xs := by
  rcases h with (h | ⟨o, h⟩) | h
  · exact .inl (.inl (e _ _ h))
  · exact .inl (.inr ⟨o, e _ _ h⟩)
  · exact .inr h

theorem pre_get {θ θ' : List Addr} (p : θ <+: θ') {n : Nat} {a : Addr} (h : θ[n]? = some a) : θ'[n]? = some a := by
  obtain ⟨t, rfl⟩ := p
  rw [List.getElem?_append_left (List.getElem?_eq_some_iff.mp h).1]
  exact h
mutual
theorem Rep.mono {K : PySem.W.Frag} {θ θ' : List Addr} {F F' : Hp} (p : θ <+: θ') (e : Sub F F') : ∀ {v : V} {w : W}, Rep K θ F v w → Rep K θ' F' v w
  | _, _, .non => .non
  | _, _, .bl b => .bl b
  | _, _, .int i => .int i
  | _, _, .str x => .str x
  | _, _, .ty n => .ty n
  | _, _, .ref a => .ref a
  | _, _, .loc h => .loc (pre_get p h)
  | _, _, .tup h r => .tup (e.sqT h) (RepAll.mono p e r)
  | _, _, .lst h r => .lst (e _ _ h) (RepAll.mono p e r)
  | _, _, .scr h r => .scr (e.sqL h) (RepAll.mono p e r)
theorem RepAll.mono {K : PySem.W.Frag} {θ θ' : List Addr} {F F' : Hp} (p : θ <+: θ') (e : Sub F F') : ∀ {vs : List V} {ws : List W}, RepAll K θ F vs ws → RepAll K θ' F' vs ws
  | _, _, .nil => .nil
  | _, _, .cons r t => .cons (Rep.mono p e r) (RepAll.mono p e t)
end
section
variable {K : PySem.W.Frag} {θ : List Addr} {F : Hp}
theorem RepAll.length : ∀ {vs : List V} {ws : List W}, RepAll K θ F vs ws → vs.length = ws.length
  | _, _, .nil => rfl
  | _, _, .cons _ t => by simp [RepAll.length t]
theorem RepAll.get : ∀ {vs : List V} {ws : List W} {i : Nat} {w : W}, RepAll K θ F vs ws → ws[i]? = some w → ∃ v, vs[i]? = some v ∧ Rep K θ F v w
  | _, _, _, _, .nil, e => by simp at e
  | _, _, 0, _, .cons r _, e => by simp at e; subst e; exact ⟨_, rfl, r⟩
  | _, _, i + 1, x, .cons _ t, e => by
    obtain ⟨u, h1, h2⟩ := RepAll.get (i := i) (w := x) t (by simpa using e)
    exact ⟨u, by simpa using h1, h2⟩
theorem RepAll.getV : ∀ {vs : List V} {ws : List W} {i : Nat} {v : V}, RepAll K θ F vs ws → vs[i]? = some v → ∃ w, ws[i]? = some w ∧ Rep K θ F v w
  | _, _, _, _, .nil, e => by simp at e
  | _, _, 0, _, .cons r _, e => by simp at e; subst e; exact ⟨_, rfl, r⟩
  | _, _, i + 1, x, .cons _ t, e => by
    obtain ⟨u, h1, h2⟩ := RepAll.getV (i := i) (v := x) t (by simpa using e)
    exact ⟨u, by simpa using h1, h2⟩
theorem RepAll.append : ∀ {vs us : List V} {ws zs : List W}, RepAll K θ F vs ws → RepAll K θ F us zs → RepAll K θ F (vs ++ us) (ws ++ zs)
  | _, _, _, _, .nil, s => s
  | _, _, _, _, .cons r t, s => .cons r (RepAll.append t s)
theorem RepAll.set {v : V} {w : W} (r : Rep K θ F v w) : ∀ {vs : List V} {ws : List W} (i : Nat), RepAll K θ F vs ws → RepAll K θ F (vs.set i v) (ws.set i w)
  | _, _, _, .nil => .nil
  | _, _, 0, .cons _ t => .cons r t
  | _, _, i + 1, .cons q t => .cons q (RepAll.set r i t)
theorem RepAll.take : ∀ {vs : List V} {ws : List W} (n : Nat), RepAll K θ F vs ws → RepAll K θ F (vs.take n) (ws.take n)
  | _, _, 0, _ => .nil
  | _, _, _ + 1, .nil => .nil
  | _, _, n + 1, .cons r t => .cons r (RepAll.take n t)
theorem RepAll.drop : ∀ {vs : List V} {ws : List W} (n : Nat), RepAll K θ F vs ws → RepAll K θ F (vs.drop n) (ws.drop n)
  | _, _, 0, r => r
  | _, _, _ + 1, .nil => .nil
  | _, _, n + 1, .cons _ t => RepAll.drop n t
theorem RepAll.eraseIdx : ∀ {vs : List V} {ws : List W} (n : Nat), RepAll K θ F vs ws → RepAll K θ F (vs.eraseIdx n) (ws.eraseIdx n)
  | _, _, _, .nil => .nil
  | _, _, 0, .cons _ t => t
  | _, _, n + 1, .cons r t => .cons r (RepAll.eraseIdx n t)
theorem RepAll.reverse {vs : List V} {ws : List W} (h : RepAll K θ F vs ws) : RepAll K θ F vs.reverse ws.reverse := by
  induction vs generalizing ws with
  | nil => cases h; exact .nil
  | cons v vs ih =>
    cases h with
    | cons r t => rw [List.reverse_cons, List.reverse_cons]; exact (ih t).append (.cons r .nil)
theorem RepAll.dropLast {vs : List V} {ws : List W} (h : RepAll K θ F vs ws) : RepAll K θ F vs.dropLast ws.dropLast := by
  rw [List.dropLast_eq_take, List.dropLast_eq_take, h.length]; exact h.take _
theorem RepAll.rep {vs : List V} {ws : List W} (h : RepAll K θ F vs ws) : ∀ k : Nat, RepAll K θ F (List.replicate k vs).flatten (List.replicate k ws).flatten
  | 0 => .nil
  | k + 1 => by rw [List.replicate_succ, List.replicate_succ, List.flatten_cons, List.flatten_cons]; exact h.append (RepAll.rep h k)
theorem RepAll.map_int (ns : List Int) : RepAll K θ F (ns.map V.int) (ns.map W.int) := by
  induction ns with
  | nil => exact .nil
  | cons n ns ih => exact .cons (.int n) ih
theorem RepAll.ints : ∀ {vs : List V} {ns : List Int}, RepAll K θ F vs (ns.map W.int) → vs = ns.map V.int
  | _, [], .nil => rfl
  | _, n :: ns, .cons r t => by
    cases r
    rw [RepAll.ints (ns := ns) t]; rfl
end

/-- the attributes of an instance -/
inductive Flds (K : PySem.W.Frag) (θ : List Addr) (F : Hp) : List (Str × V) → List (Str × W) → Prop
  | nil : Flds K θ F [] []
  | cons {x : Str} {v : V} {w : W} {gs : List (Str × V)} {fs : List (Str × W)} : Rep K θ F v w → Flds K θ F gs fs → Flds K θ F ((x, v) :: gs) ((x, w) :: fs)
def putW (f : Str) (w : W) : List (Str × W) → List (Str × W)
  | [] => [(f, w)]
  | (g, x) :: r => if g = f then (g, w) :: r else (g, x) :: putW f w r
section
variable {K : PySem.W.Frag} {θ θ' : List Addr} {F F' : Hp}
theorem Flds.mono (p : θ <+: θ') (e : Sub F F') : ∀ {gs : List (Str × V)} {fs : List (Str × W)}, Flds K θ F gs fs → Flds K θ' F' gs fs
  | _, _, .nil => .nil
  | _, _, .cons r t => .cons (r.mono p e) (Flds.mono p e t)
theorem Flds.look : ∀ {gs : List (Str × V)} {fs : List (Str × W)} {f : Str} {w : W}, Flds K θ F gs fs → fs.lookup f = some w → ∃ v, gs.lookup f = some v ∧ Rep K θ F v w
  | _, _, _, _, .nil, e => by simp at e
  | _, _, f, w, .cons (x := x) r t, e => by
    rw [List.lookup_cons] at e ⊢
    split at e
    · cases e; exact ⟨_, rfl, r⟩
    · exact Flds.look t e
theorem Flds.no : ∀ {gs : List (Str × V)} {fs : List (Str × W)} {f : Str}, Flds K θ F gs fs → fs.lookup f = none → gs.lookup f = none
  | _, _, _, .nil, _ => rfl
  | _, _, f, .cons (x := x) r t, e => by
    rw [List.lookup_cons] at e ⊢
    split at e
    · cases e
    · exact Flds.no t e
theorem Flds.length : ∀ {gs : List (Str × V)} {fs : List (Str × W)}, Flds K θ F gs fs → gs.length = fs.length
  | _, _, .nil => rfl
  | _, _, .cons _ t => by simp [Flds.length t]
end

section
variable {K : PySem.W.Frag} {θ θ' : List Addr} {F F' : Hp}
theorem Flds.put {f : Str} {v : V} {w : W} (q : Rep K θ F v w) : ∀ {gs : List (Str × V)} {fs : List (Str × W)}, Flds K θ F gs fs → Flds K θ F (putF f v gs) (putW f w fs)
  | _, _, .nil => .cons q .nil
  | _, _, .cons (x := x) (v := v0) (w := w0) (gs := gs) (fs := fs) r t => by
    show Flds K θ F (if x = f then (x, v) :: gs else (x, v0) :: putF f v gs) (if x = f then (x, w) :: fs else (x, w0) :: putW f w fs)
    by_cases h : x = f
    · rw [if_pos h, if_pos h]; exact .cons q t
    · rw [if_neg h, if_neg h]; exact .cons r (Flds.put q t)
end

/-! ### states -/
/-- entries that tell each other -/
inductive KvR (K : PySem.W.Frag) (θ : List Addr) (F : Hp) : List (Key × V) → List (Key × W) → Prop
  | nil : KvR K θ F [] []
  | cons {k : Key} {v : V} {w : W} {gs : List (Key × V)} {kvs : List (Key × W)} (r : Rep K θ F v w) (t : KvR K θ F gs kvs) : KvR K θ F ((k, v) :: gs) ((k, w) :: kvs)
theorem KvR.mono {K : PySem.W.Frag} {θ θ' : List Addr} {F F' : Hp} (p : θ <+: θ') (e : Sub F F') : ∀ {gs : List (Key × V)} {kvs : List (Key × W)}, KvR K θ F gs kvs → KvR K θ' F' gs kvs
  | _, _, .nil => .nil
  | _, _, .cons r t => .cons (r.mono p e) (KvR.mono p e t)
def DkAt (F H : Hp) (a : Addr) (gs : List (Key × V)) : Bool → Prop
  | false => F a = none ∧ H a = some (.dK gs)
  | true => ∃ o, F a = some (.frz o (.dK gs)) ∧ H a = some (.frz o (.dK gs))
theorem DkAt.rd {F H : Hp} {a : Addr} {gs : List (Key × V)} {b : Bool} (h : DkAt F H a gs b) : Rd H a (.dK gs) := by
  cases b
  · exact .inl h.2
  · obtain ⟨o, _, e⟩ := h
    exact .inr ⟨o, e⟩
def CellOk (K : PySem.W.Frag) (θ : List Addr) (F H : Hp) (a : Addr) : Cell → Prop
  | .dead => ∃ o, H a = some o ∧ ∀ ps, o ≠ .tbl ps
  | .lst ws => F a = none ∧ ∃ vs, H a = some (.lst vs) ∧ RepAll K θ F vs ws
  | .ins C fs => F a = none ∧ ∃ dx gs, H a = some (.ins C dx gs) ∧ Flds K θ F gs fs
  | .dK kvs lk => ∃ gs, DkAt F H a gs lk ∧ KvR K θ F gs kvs
/-- the tables of code objects that may grow -/
class Tbs where
  tabs : List Addr
variable [Tbs]
structure Sim (K : PySem.W.Frag) (θ : List Addr) (F H : Hp) (μ : Mu) : Prop where
  sub : Sub F H
  len : θ.length = μ.length
  nd : θ.Nodup
  cell : ∀ (n : Nat) (a : Addr) (c : Cell), θ[n]? = some a → μ[n]? = some c → CellOk K θ F H a c
  tab : ∀ P ∈ Tbs.tabs, F P = none ∧ GxR.TabG H P
/-- kept; a table may grow -/
def Kp (o : HO) (o' : Option HO) : Prop := match o with
  | .tbl _ => ∃ ps, o' = some (.tbl ps)
  | o => o' = some o
theorem Kp.of {o : HO} {o' : Option HO} (h : o' = some o) : Kp o o' := by
  subst h
  cases o <;> first | rfl | exact ⟨_, rfl⟩
theorem Kp.there {o : HO} {o' : Option HO} (h : Kp o o') : ∃ u, o' = some u := by
  cases o <;> first | exact ⟨_, h⟩ | (obtain ⟨ps, e⟩ := h; exact ⟨_, e⟩)
theorem Kp.trans {o : HO} {o' : Option HO} {o2 : Option HO} (h : Kp o o') (k : ∀ u, o' = some u → Kp u o2) : Kp o o2 := by
  cases o <;> first
    | exact k _ h
    | (obtain ⟨ps, e⟩ := h; have z := k _ e; exact z)
/-- from one state to a later one -/
structure Ext (θ : List Addr) (F H : Hp) (θ' : List Addr) (F' H' : Hp) : Prop where
  pre : θ <+: θ'
  sub : Sub F F'
  frame : ∀ b o, H b = some o → b ∉ θ → Kp o (H' b)
  fresh : ∀ b ∈ θ', b ∈ θ ∨ H b = none
  news : ∀ b o, F' b = some o → F b = some o ∨ H b = none ∨ b ∈ θ
theorem Ext.refl (θ : List Addr) (F H : Hp) : Ext θ F H θ F H := ⟨List.prefix_refl _, .refl _, fun _ _ h _ => .of h, fun _ h => .inl h, fun _ _ h => .inl h⟩
theorem Ext.old {θ θ1 : List Addr} {F F1 H H1 : Hp} (a : Ext θ F H θ1 F1 H1) {x : Addr} (z : H1 x = none) : H x = none ∨ x ∈ θ := by
  by_cases m : x ∈ θ
  · exact .inr m
  · cases e : H x with
    | none => exact .inl rfl
    | some o =>
      obtain ⟨u, this⟩ := (a.frame x o e m).there
      rw [z] at this; cases this
theorem Ext.trans {θ θ1 θ2 : List Addr} {F F1 F2 H H1 H2 : Hp} (a : Ext θ F H θ1 F1 H1) (b : Ext θ1 F1 H1 θ2 F2 H2) : Ext θ F H θ2 F2 H2 where
  pre := a.pre.trans b.pre
  sub := a.sub.trans b.sub
  frame := fun x o h n => (a.frame x o h n).trans fun u e => b.frame x u e fun m => by
    rcases a.fresh x m with z | z
    · exact n z
    · rw [h] at z; cases z
  fresh := fun x m => by
    rcases b.fresh x m with z | z
    · exact a.fresh x z
    · by_cases m' : x ∈ θ
      · exact .inl m'
      · cases e : H x with
        | none => exact .inr rfl
        | some o =>
          obtain ⟨u, this⟩ := (a.frame x o e m').there
          rw [z] at this; cases this
  news := fun x o q => by
    rcases b.news x o q with z | z | z
    · exact a.news x o z
    · exact .inr (a.old z)
    · rcases a.fresh x z with z | z
      · exact .inr (.inr z)
      · exact .inr (.inl z)
theorem tab_upd {H : Hp} {P a : Addr} {o : HO} (h : GxR.TabG H P) (hn : ∀ ps, H a ≠ some (.tbl ps)) : GxR.TabG (upd H a o) P := by
  obtain ⟨ps, e, t⟩ := h
  exact ⟨ps, by rw [upd_ne (fun z => hn ps (by rw [← z]; exact e))]; exact e, t⟩
theorem tab_ne {H : Hp} {P a : Addr} (h : GxR.TabG H P) (hn : ∀ ps, H a ≠ some (.tbl ps)) : P ≠ a := by
  obtain ⟨ps, e, t⟩ := h
  exact fun z => hn ps (by rw [← z]; exact e)
theorem CellOk.here {K : PySem.W.Frag} {θ : List Addr} {F H : Hp} {a : Addr} {c : Cell} (h : CellOk K θ F H a c) : ∃ o, H a = some o := by
  cases c with
  | dead => obtain ⟨o, e, _⟩ := h; exact ⟨o, e⟩
  | lst ws => obtain ⟨_, vs, e, _⟩ := h; exact ⟨_, e⟩
  | ins C fs => obtain ⟨_, dx, gs, e, _⟩ := h; exact ⟨_, e⟩
  | dK kvs lk => obtain ⟨gs, e, _⟩ := h; cases lk <;> first | exact ⟨_, e.2⟩ | (obtain ⟨o, _, e⟩ := e; exact ⟨_, e⟩)
theorem CellOk.ntab {K : PySem.W.Frag} {θ : List Addr} {F H : Hp} {a : Addr} {c : Cell} (h : CellOk K θ F H a c) : ∀ ps, H a ≠ some (.tbl ps) := by
  cases c with
  | dead => obtain ⟨o, e, n⟩ := h; intro ps z; rw [e] at z; exact n ps (Option.some.inj z)
  | lst ws => obtain ⟨_, vs, e, _⟩ := h; intro ps z; rw [e] at z; cases z
  | ins C fs => obtain ⟨_, dx, gs, e, _⟩ := h; intro ps z; rw [e] at z; cases z
  | dK kvs lk =>
    obtain ⟨gs, e, _⟩ := h
    intro ps z
    cases lk with
    | false => have e' : H a = some (.dK gs) := e.2; rw [e'] at z; cases z
    | true => obtain ⟨o, _, e'⟩ := e; rw [e'] at z; cases z
section
variable {K : PySem.W.Frag} {θ : List Addr} {F H : Hp} {μ : Mu}
theorem Sim.at (S : Sim K θ F H μ) {n : Nat} {c : Cell} (h : μ[n]? = some c) : ∃ a, θ[n]? = some a ∧ CellOk K θ F H a c := by
  have hl : n < θ.length := by rw [S.len]; exact (List.getElem?_eq_some_iff.mp h).1
  exact ⟨θ[n], List.getElem?_eq_getElem hl, S.cell n _ c (List.getElem?_eq_getElem hl) h⟩
theorem Sim.there (S : Sim K θ F H μ) {a : Addr} (h : a ∈ θ) : ∃ o, H a = some o := by
  obtain ⟨n, hl, e⟩ := List.getElem_of_mem h
  have hm : n < μ.length := by rw [← S.len]; exact hl
  exact (S.cell n a μ[n] (by rw [List.getElem?_eq_getElem hl, e]) (List.getElem?_eq_getElem hm)).here
theorem Sim.ntab (S : Sim K θ F H μ) {a : Addr} (h : a ∈ θ) : ∀ ps, H a ≠ some (.tbl ps) := by
  obtain ⟨n, hl, e⟩ := List.getElem_of_mem h
  have hm : n < μ.length := by rw [← S.len]; exact hl
  exact (S.cell n a μ[n] (by rw [List.getElem?_eq_getElem hl, e]) (List.getElem?_eq_getElem hm)).ntab
theorem Sim.out (S : Sim K θ F H μ) {p : Addr} (h : H p = none) : p ∉ θ := fun m => by
  obtain ⟨o, e⟩ := S.there m
  rw [h] at e; cases e
theorem Sim.outF (S : Sim K θ F H μ) {p : Addr} (h : H p = none) : F p = none := by
  cases e : F p with
  | none => rfl
  | some o => have := S.sub p o e; rw [h] at this; cases this
theorem sub_upd {F : Hp} {p : Addr} {o : HO} (h : F p = none) : Sub F (upd F p o) := fun a u e => by rw [upd_ne (ne_of_none e h)]; exact e
theorem CellOk.mono {θ' : List Addr} {F' H' : Hp} {a : Addr} {c : Cell} (h : CellOk K θ F H a c) (p : θ <+: θ') (e : Sub F F') (hf : F a = none → F' a = none) (hh : ∀ o, H a = some o → H' a = some o) : CellOk K θ' F' H' a c := by
  cases c with
  | dead => obtain ⟨o, e, n⟩ := h; exact ⟨o, hh o e, n⟩
  | lst ws => obtain ⟨f, vs, q, r⟩ := h; exact ⟨hf f, vs, hh _ q, r.mono p e⟩
  | ins C fs => obtain ⟨f, dx, gs, q, r⟩ := h; exact ⟨hf f, dx, gs, hh _ q, r.mono p e⟩
  | dK kvs lk =>
    obtain ⟨gs, q, r⟩ := h
    refine ⟨gs, ?_, r.mono p e⟩
    cases lk with
    | false => exact ⟨hf q.1, hh _ q.2⟩
    | true => obtain ⟨o, q1, q⟩ := q; exact ⟨o, e _ _ q1, hh _ q⟩
/-- a new object that is never changed -/
theorem Sim.froze (S : Sim K θ F H μ) {p : Addr} (o : HO) (h : H p = none) : Sim K θ (upd F p o) (upd H p o) μ ∧ Ext θ F H θ (upd F p o) (upd H p o) := by
  have hF := S.outF h
  have hn := S.out h
  refine ⟨⟨fun a u e => ?_, S.len, S.nd, fun n a c h1 h2 => ?_, fun P hP => ⟨by rw [upd_ne (tab_ne (S.tab P hP).2 (by rw [h]; intro _ z; cases z))]; exact (S.tab P hP).1, tab_upd (S.tab P hP).2 (by rw [h]; intro _ z; cases z)⟩⟩, ⟨List.prefix_refl _, sub_upd hF, fun b u e _ => .of (by rw [upd_ne (ne_of_none e h)]; exact e), fun _ m => .inl m, fun b u e => (Decidable.em (b = p)).elim (fun z => .inr (.inl (by rw [z]; exact h))) fun z => .inl (by rw [upd_ne z] at e; exact e)⟩⟩
  · by_cases ha : a = p
    · subst ha; rw [upd_same] at e; cases e; exact upd_same
    · rw [upd_ne ha] at e ⊢; exact S.sub a u e
  · have ne : a ≠ p := fun z => hn (by rw [← z]; exact List.mem_of_getElem? h1)
    refine (S.cell n a c h1 h2).mono (List.prefix_refl _) (sub_upd hF) (fun z => by rw [upd_ne ne]; exact z) fun o e => by rw [upd_ne ne]; exact e
/-- an object outside is changed that nobody knows -/
theorem Sim.aside (S : Sim K θ F H μ) {p : Addr} (o : HO) (h : F p = none) (hn : p ∉ θ) (ht : ∀ ps, H p ≠ some (.tbl ps)) : Sim K θ F (upd H p o) μ := by
  refine ⟨fun a u e => ?_, S.len, S.nd, fun n a c h1 h2 => ?_, fun P hP => ⟨(S.tab P hP).1, tab_upd (S.tab P hP).2 ht⟩⟩
  · rw [upd_ne (ne_of_none e h)]; exact S.sub a u e
  · have ne : a ≠ p := fun z => hn (by rw [← z]; exact List.mem_of_getElem? h1)
    exact (S.cell n a c h1 h2).mono (List.prefix_refl _) (.refl _) (fun z => z) fun o e => by rw [upd_ne ne]; exact e
/-- a table has grown -/
theorem Sim.tabbed (S : Sim K θ F H μ) {P : Addr} {H' : Hp} (hP : P ∈ Tbs.tabs) (h : GxR.Tabbed P H H') : Sim K θ F H' μ ∧ Ext θ F H θ F H' := by
  obtain ⟨hF, ps, e0, t0⟩ := S.tab P hP
  have ne : ∀ a u, H a = some u → (∀ ps, u ≠ .tbl ps) → H' a = some u := fun a u e hn => by rw [h.2 a (fun z => by rw [z, e0] at e; exact hn _ (Option.some.inj e).symm)]; exact e
  refine ⟨⟨fun a u e => ?_, S.len, S.nd, fun n a c h1 h2 => ?_, fun Q hQ => ⟨(S.tab Q hQ).1, ?_⟩⟩, ⟨List.prefix_refl _, .refl _, fun b u e _ => ?_, fun _ m => .inl m, fun _ _ e => .inl e⟩⟩
  · rw [h.2 a (fun z => by rw [z, hF] at e; cases e)]; exact S.sub a u e
  · have na := S.ntab (List.mem_of_getElem? h1)
    exact (S.cell n a c h1 h2).mono (List.prefix_refl _) (.refl _) (fun z => z) fun o e => ne a o e fun ps z => na ps (by rw [← z]; exact e)
  · by_cases hq : Q = P
    · rw [hq]; exact h.1
    · obtain ⟨qs, e, t⟩ := (S.tab Q hQ).2
      exact ⟨qs, by rw [h.2 Q hq]; exact e, t⟩
  · by_cases hb : b = P
    · subst hb
      rw [e0] at e; cases e
      obtain ⟨ps', e1, _⟩ := h.1
      exact ⟨ps', e1⟩
    · exact .of (by rw [h.2 b hb]; exact e)
theorem pre_app (θ : List Addr) (p : Addr) : θ <+: θ ++ [p] := ⟨[p], rfl⟩
/-- a new cell -/
theorem Sim.alloc (S : Sim K θ F H μ) {p : Addr} {o : HO} {c : Cell} (h : H p = none) (hc : CellOk K (θ ++ [p]) F (upd H p o) p c) : Sim K (θ ++ [p]) F (upd H p o) (μ ++ [c]) ∧ Ext θ F H (θ ++ [p]) F (upd H p o) := by
  have hF := S.outF h
  have hn := S.out h
  refine ⟨⟨fun a u e => by rw [upd_ne (ne_of_none e hF)]; exact S.sub a u e, by simp [S.len], ?_, fun n a d h1 h2 => ?_, fun P hP => ⟨(S.tab P hP).1, tab_upd (S.tab P hP).2 (by rw [h]; intro _ z; cases z)⟩⟩, ⟨pre_app θ p, .refl _, fun b u e _ => .of (by rw [upd_ne (ne_of_none e h)]; exact e), fun b m => ?_, fun _ _ e => .inl e⟩⟩
  · rw [List.nodup_append]
    refine ⟨S.nd, by simp, fun a ha b hb => ?_⟩
    simp at hb; subst hb
    exact fun e => hn (e ▸ ha)
  · by_cases hl : n < θ.length
    · rw [List.getElem?_append_left hl] at h1
      rw [List.getElem?_append_left (by rw [← S.len]; exact hl)] at h2
      have ne : a ≠ p := fun z => hn (by rw [← z]; exact List.mem_of_getElem? h1)
      exact (S.cell n a d h1 h2).mono (pre_app θ p) (.refl _) (fun z => z) fun o e => by rw [upd_ne ne]; exact e
    · have hl' : n < (θ ++ [p]).length := (List.getElem?_eq_some_iff.mp h1).1
      rw [List.length_append, List.length_singleton] at hl'
      have en : n = θ.length := by omega
      subst en
      rw [List.getElem?_append_right (Nat.le_refl _), Nat.sub_self] at h1
      rw [S.len, List.getElem?_append_right (Nat.le_refl _), Nat.sub_self] at h2
      simp at h1 h2
      subst h1 h2
      exact hc
  · rcases List.mem_append.mp m with m | m
    · exact .inl m
    · simp at m; subst m; exact .inr h
/-- a cell is written -/
theorem Sim.write (S : Sim K θ F H μ) {n : Nat} {a : Addr} {o : HO} {c : Cell} (ha : θ[n]? = some a) (hF : F a = none) (hc : CellOk K θ F (upd H a o) a c) : Sim K θ F (upd H a o) (μ.set n c) ∧ Ext θ F H θ F (upd H a o) := by
  refine ⟨⟨fun b u e => by rw [upd_ne (ne_of_none e hF)]; exact S.sub b u e, by simp [S.len], S.nd, fun m b d h1 h2 => ?_, fun P hP => ⟨(S.tab P hP).1, tab_upd (S.tab P hP).2 (S.ntab (List.mem_of_getElem? ha))⟩⟩, ⟨List.prefix_refl _, .refl _, fun b u e hb => .of ?_, fun _ m => .inl m, fun _ _ e => .inl e⟩⟩
  · by_cases hm : m = n
    · subst hm
      rw [ha] at h1; cases h1
      have : m < μ.length := by rw [← S.len]; exact (List.getElem?_eq_some_iff.mp ha).1
      rw [List.getElem?_set_self this] at h2; cases h2
      exact hc
    · rw [List.getElem?_set_ne (Ne.symm hm)] at h2
      have ne : b ≠ a := fun z => hm (by
        subst z
        obtain ⟨l1, e1⟩ := List.getElem?_eq_some_iff.mp h1
        obtain ⟨l2, e2⟩ := List.getElem?_eq_some_iff.mp ha
        exact (List.getElem_inj S.nd).mp (e1.trans e2.symm))
      exact (S.cell m b d h1 h2).mono (List.prefix_refl _) (.refl _) (fun z => z) fun o e => by rw [upd_ne ne]; exact e
  · rw [upd_ne (fun z => hb (by rw [z]; exact List.mem_of_getElem? ha))]; exact e
/-- a list that is no longer changed -/
theorem Sim.freeze (S : Sim K θ F H μ) {n : Nat} {a : Addr} {vs : List V} (ha : θ[n]? = some a) (hF : F a = none) (hH : H a = some (.lst vs)) : Sim K θ (upd F a (.lst vs)) H (μ.set n .dead) ∧ Ext θ F H θ (upd F a (.lst vs)) H := by
  refine ⟨⟨fun b u e => ?_, by simp [S.len], S.nd, fun m b d h1 h2 => ?_, fun P hP => ⟨by rw [upd_ne (tab_ne (S.tab P hP).2 (by rw [hH]; intro _ z; cases z))]; exact (S.tab P hP).1, (S.tab P hP).2⟩⟩, ⟨List.prefix_refl _, sub_upd hF, fun b u e _ => .of e, fun _ m => .inl m, fun b u e => (Decidable.em (b = a)).elim (fun z => .inr (.inr (by rw [z]; exact List.mem_of_getElem? ha))) fun z => .inl (by rw [upd_ne z] at e; exact e)⟩⟩
  · by_cases hb : b = a
    · subst hb; rw [upd_same] at e; cases e; exact hH
    · rw [upd_ne hb] at e; exact S.sub b u e
  · by_cases hm : m = n
    · subst hm
      rw [ha] at h1; cases h1
      have : m < μ.length := by rw [← S.len]; exact (List.getElem?_eq_some_iff.mp ha).1
      rw [List.getElem?_set_self this] at h2; cases h2
      exact ⟨_, hH, fun _ z => by cases z⟩
    · rw [List.getElem?_set_ne (Ne.symm hm)] at h2
      have ne : b ≠ a := fun z => hm (by
        subst z
        obtain ⟨l1, e1⟩ := List.getElem?_eq_some_iff.mp h1
        obtain ⟨l2, e2⟩ := List.getElem?_eq_some_iff.mp ha
        exact (List.getElem_inj S.nd).mp (e1.trans e2.symm))
      exact (S.cell m b d h1 h2).mono (List.prefix_refl _) (sub_upd hF) (fun z => by rw [upd_ne ne]; exact z) fun o e => e
end

/-- the frame's slots -/
structure SimE (K : PySem.W.Frag) (θ : List Addr) (F : Hp) (σ : St) (ρ : Env) : Prop where
  len : σ.length = ρ.length
  get : ∀ (i : Nat) (w : W), ρ[i]? = some (some w) → ∃ v, σ[i]? = some (some v) ∧ Rep K θ F v w
theorem SimE.mono {K : PySem.W.Frag} {θ θ' : List Addr} {F F' : Hp} {σ : St} {ρ : Env} (h : SimE K θ F σ ρ) (p : θ <+: θ') (e : Sub F F') : SimE K θ' F' σ ρ :=
  ⟨h.len, fun i w q => let ⟨v, a, b⟩ := h.get i w q; ⟨v, a, b.mono p e⟩⟩
theorem SimE.set {K : PySem.W.Frag} {θ : List Addr} {F : Hp} {σ : St} {ρ : Env} (h : SimE K θ F σ ρ) {v : V} {w : W} (i : Nat) (r : Rep K θ F v w) : SimE K θ F (σ.set i (some v)) (ρ.set i (some w)) := by
  refine ⟨by simp [h.len], fun j u e => ?_⟩
  by_cases hj : i = j
  · subst hj
    have hl : i < ρ.length := by
      have := (List.getElem?_eq_some_iff.mp e).1
      simpa using this
    rw [List.getElem?_set_self hl] at e; cases e
    exact ⟨v, by rw [List.getElem?_set_self (by rw [h.len]; exact hl)], r⟩
  · rw [List.getElem?_set_ne hj] at e
    obtain ⟨v', a, b⟩ := h.get j u e
    exact ⟨v', by rw [List.getElem?_set_ne hj]; exact a, b⟩
theorem SimE.unset {K : PySem.W.Frag} {θ : List Addr} {F : Hp} {σ : St} {ρ : Env} (h : SimE K θ F σ ρ) (i : Nat) : SimE K θ F (σ.set i none) (ρ.set i none) := by
  refine ⟨by simp [h.len], fun j u e => ?_⟩
  by_cases hj : i = j
  · subst hj
    have hl : i < ρ.length := by
      have := (List.getElem?_eq_some_iff.mp e).1
      simpa using this
    rw [List.getElem?_set_self hl] at e; cases e
  · rw [List.getElem?_set_ne hj] at e
    obtain ⟨v', a, b⟩ := h.get j u e
    exact ⟨v', by rw [List.getElem?_set_ne hj]; exact a, b⟩
def wipeW (ρ : Env) : List Nat → Env
  | [] => ρ
  | v :: vs => (wipeW ρ vs).set v none
theorem SimE.wipe {K : PySem.W.Frag} {θ : List Addr} {F : Hp} {σ : St} {ρ : Env} (h : SimE K θ F σ ρ) : ∀ vs : List Nat, SimE K θ F (wipe σ vs) (wipeW ρ vs)
  | [] => h
  | v :: vs => (SimE.wipe h vs).unset v

/-! ### outcomes -/
inductive Out (α : Type) where
  | ok (a : α) (μ : Mu) | er (c : Addr) (μ : Mu) | no
def Out.bind {α β : Type} : Out α → (α → Mu → Out β) → Out β
  | .ok a μ, f => f a μ
  | .er c μ, _ => .er c μ
  | .no, _ => .no
def Out.map {α β : Type} (f : α → β) : Out α → Out β
  | .ok a μ => .ok (f a) μ
  | .er c μ => .er c μ
  | .no => .no
/-- what an outcome asks of what is wanted -/
def Out.Ok {α β : Type} (K : PySem.W.Frag) (R : List Addr → Hp → β → α → Prop) (θ : List Addr) (F H : Hp) (E : Addr → Hp → Prop) (Q : β → Hp → Prop) : Out α → Prop
  | .ok a μ => ∀ (θ' : List Addr) (F' H' : Hp) (b : β), Ext θ F H θ' F' H' → Sim K θ' F' H' μ → R θ' F' b a → Q b H'
  | .er c μ => ∀ (θ' : List Addr) (F' H' : Hp), Ext θ F H θ' F' H' → Sim K θ' F' H' μ → E c H'
  | .no => False
theorem Out.Ok.mono {α β : Type} {K : PySem.W.Frag} {R : List Addr → Hp → β → α → Prop} {θ θ1 : List Addr} {F F1 H H1 : Hp} {E : Addr → Hp → Prop} {Q : β → Hp → Prop} {o : Out α} (h : o.Ok K R θ F H E Q) (x : Ext θ F H θ1 F1 H1) : o.Ok K R θ1 F1 H1 E Q := by
  cases o with
  | ok a μ => exact fun θ' F' H' b x' S r => h θ' F' H' b (x.trans x') S r
  | er c μ => exact fun θ' F' H' x' S => h θ' F' H' (x.trans x') S
  | no => exact h
/-- the outcome just here -/
theorem Out.Ok.here {α β : Type} {K : PySem.W.Frag} {R : List Addr → Hp → β → α → Prop} {θ : List Addr} {F H : Hp} {E : Addr → Hp → Prop} {Q : β → Hp → Prop} {a : α} {b : β} {μ : Mu} (h : Out.Ok K R θ F H E Q (.ok a μ)) (S : Sim K θ F H μ) (r : R θ F b a) : Q b H := h θ F H b (.refl _ _ _) S r
/-- a reading t does what m says -/
def Ad {α β : Type} (K : PySem.W.Frag) (W : WX) (R : List Addr → Hp → β → α → Prop) (t : St → Hp → (β → Hp → Prop) → Prop) (m : Env → Mu → Out α) : Prop :=
  ∀ (σ : St) (H : Hp) (Q : β → Hp → Prop) (θ : List Addr) (F : Hp) (ρ : Env) (μ : Mu), Sim K θ F H μ → SimE K θ F σ ρ → (m ρ μ).Ok K R θ F H (fun c H' => W (.ref c) none σ H') Q → t σ H Q
theorem Ad.bind {α β γ δ : Type} {K : PySem.W.Frag} {W : WX} {R : List Addr → Hp → β → α → Prop} {R2 : List Addr → Hp → δ → γ → Prop} {t : St → Hp → (β → Hp → Prop) → Prop} {m : Env → Mu → Out α} {t2 : β → St → Hp → (δ → Hp → Prop) → Prop} {f : α → Env → Mu → Out γ}
    (h : Ad K W R t m) (h2 : ∀ (σ : St) (H : Hp) (Q : δ → Hp → Prop) (θ : List Addr) (F : Hp) (ρ : Env) (μ : Mu) (v : β) (w : α), Sim K θ F H μ → SimE K θ F σ ρ → R θ F v w → (f w ρ μ).Ok K R2 θ F H (fun c H' => W (.ref c) none σ H') Q → t2 v σ H Q) :
    Ad K W R2 (fun σ H Q => t σ H fun v H1 => t2 v σ H1 Q) (fun ρ μ => (m ρ μ).bind fun w μ1 => f w ρ μ1) := by
  intro σ H Q θ F ρ μ S E ok
  dsimp only at ok
  refine h σ H _ θ F ρ μ S E ?_
  cases e : m ρ μ with
  | ok w μ1 =>
    rw [e] at ok
    exact fun θ1 F1 H1 v x S1 r => h2 σ H1 Q θ1 F1 ρ μ1 v w S1 (E.mono x.pre x.sub) r (Out.Ok.mono ok x)
  | er c μ1 => rw [e] at ok; exact ok
  | no => rw [e] at ok; exact ok

/-! ### judgements -/
structure PED (X : Cx) (Wx : WX) (e : Expr) (t : TE) (m : Env → Mu → Out W) : Prop where
  pe : PE X e t
  ad : Ad X.K Wx (Rep X.K) t m
structure PAD (X : Cx) (Wx : WX) (es : List Expr) (t : TA) (m : Env → Mu → Out (List W)) : Prop where
  pa : PA X es t
  ad : Ad X.K Wx (RepAll X.K) t m
abbrev REq {α : Type} : List Addr → Hp → α → α → Prop := fun _ _ b a => b = a
structure PTD (X : Cx) (Wx : WX) (e : Expr) (t : TT) (m : Env → Mu → Out Bool) : Prop where
  pt : PT X e t
  ad : Ad X.K Wx REq t m
structure PWD (X : Cx) (Wx : WX) (e : Expr) (t : TT) (m : Env → Mu → Out Bool) : Prop where
  pw : PW X e t
  ad : Ad X.K Wx REq t m
theorem PWD.pt {X : Cx} {Wx : WX} {e : Expr} {t : TT} {m : Env → Mu → Out Bool} (h : PWD X Wx e t m) : PTD X Wx e t m := ⟨h.pw.pt, h.ad⟩
/-- a target -/
structure PGD (X : Cx) (Wx : WX) (tg : Expr) (g : TG) (m : W → Env → Mu → Out Env) : Prop where
  pg : PG X tg g
  ad : ∀ (v : V) (w : W) (σ : St) (H : Hp) (Q : St → Hp → Prop) (θ : List Addr) (F : Hp) (ρ : Env) (μ : Mu), Sim X.K θ F H μ → SimE X.K θ F σ ρ → Rep X.K θ F v w → (m w ρ μ).Ok X.K (SimE X.K) θ F H (fun c H' => Wx (.ref c) none σ H') Q → g v σ H Q
structure PGsD (X : Cx) (Wx : WX) (tgs : List Expr) (g : TGs) (m : List W → Env → Mu → Out Env) : Prop where
  pg : PGs X tgs g
  ad : ∀ (vs : List V) (ws : List W) (σ : St) (H : Hp) (Q : St → Hp → Prop) (θ : List Addr) (F : Hp) (ρ : Env) (μ : Mu), Sim X.K θ F H μ → SimE X.K θ F σ ρ → RepAll X.K θ F vs ws → (m ws ρ μ).Ok X.K (SimE X.K) θ F H (fun c H' => ∀ σ', Wx (.ref c) none σ' H') Q → g vs σ H Q
/-- statements' outcomes -/
inductive SO where
  | nx (ρ : Env) (μ : Mu) | rt (w : W) (μ : Mu) | bk (ρ : Env) (μ : Mu) | ct (ρ : Env) (μ : Mu) | er (c : Addr) (ρ : Env) (μ : Mu) | no
def SO.Ok (K : PySem.W.Frag) (Wx : WX) (θ : List Addr) (F H : Hp) (D : Ends) : SO → Prop
  | .nx ρ μ => ∀ (θ' : List Addr) (F' H' : Hp) (σ' : St), Ext θ F H θ' F' H' → Sim K θ' F' H' μ → SimE K θ' F' σ' ρ → D.nx σ' H'
  | .rt w μ => ∀ (θ' : List Addr) (F' H' : Hp) (v : V), Ext θ F H θ' F' H' → Sim K θ' F' H' μ → Rep K θ' F' v w → D.rt v H'
  | .bk ρ μ => ∀ (θ' : List Addr) (F' H' : Hp) (σ' : St), Ext θ F H θ' F' H' → Sim K θ' F' H' μ → SimE K θ' F' σ' ρ → D.bk σ' H'
  | .ct ρ μ => ∀ (θ' : List Addr) (F' H' : Hp) (σ' : St), Ext θ F H θ' F' H' → Sim K θ' F' H' μ → SimE K θ' F' σ' ρ → D.ct σ' H'
  | .er c ρ μ => ∀ (θ' : List Addr) (F' H' : Hp) (σ' : St), Ext θ F H θ' F' H' → Sim K θ' F' H' μ → SimE K θ' F' σ' ρ → Wx (.ref c) none σ' H'
  | .no => False
theorem SO.Ok.mono {K : PySem.W.Frag} {Wx : WX} {θ θ1 : List Addr} {F F1 H H1 : Hp} {D : Ends} {o : SO} (h : o.Ok K Wx θ F H D) (x : Ext θ F H θ1 F1 H1) : o.Ok K Wx θ1 F1 H1 D := by
  cases o with
  | nx ρ μ => exact fun θ' F' H' σ' x' => h θ' F' H' σ' (x.trans x')
  | rt w μ => exact fun θ' F' H' v x' => h θ' F' H' v (x.trans x')
  | bk ρ μ => exact fun θ' F' H' σ' x' => h θ' F' H' σ' (x.trans x')
  | ct ρ μ => exact fun θ' F' H' σ' x' => h θ' F' H' σ' (x.trans x')
  | er c ρ μ => exact fun θ' F' H' σ' x' => h θ' F' H' σ' (x.trans x')
  | no => exact h
abbrev SM := Env → Mu → SO
abbrev EM := Env → Mu → Out W
def AdS (K : PySem.W.Frag) (Wx : WX) (t : TS) (m : SM) : Prop :=
  ∀ (D : Ends) (σ : St) (H : Hp) (θ : List Addr) (F : Hp) (ρ : Env) (μ : Mu), Sim K θ F H μ → SimE K θ F σ ρ → (m ρ μ).Ok K Wx θ F H D → t D σ H
structure PSD (X : Cx) (Wx : WX) (st : Stmt) (t : TS) (m : SM) : Prop where
  ps : PS X st t
  ad : AdS X.K Wx t m
structure PSsD (X : Cx) (Wx : WX) (st : List Stmt) (t : TS) (m : SM) : Prop where
  ps : PSs X st t
  ad : AdS X.K Wx t m

/-- an expression's outcome in a statement -/
def Out.st {α : Type} (ρ : Env) : Out α → (α → Mu → SO) → SO
  | .ok a μ, f => f a μ
  | .er c μ, _ => .er c ρ μ
  | .no, _ => .no
theorem Ad.st {α β : Type} {K : PySem.W.Frag} {Wx : WX} {R : List Addr → Hp → β → α → Prop} {t : St → Hp → (β → Hp → Prop) → Prop} {m : Env → Mu → Out α} {u : β → TS} {f : α → SM}
    (h : Ad K Wx R t m) (h2 : ∀ (D : Ends) (σ : St) (H : Hp) (θ : List Addr) (F : Hp) (ρ : Env) (μ : Mu) (v : β) (w : α), Sim K θ F H μ → SimE K θ F σ ρ → R θ F v w → (f w ρ μ).Ok K Wx θ F H D → u v D σ H) :
    AdS K Wx (fun D σ H => t σ H fun v H1 => u v D σ H1) (fun ρ μ => (m ρ μ).st ρ fun w μ1 => f w ρ μ1) := by
  intro D σ H θ F ρ μ S E ok
  dsimp only at ok
  refine h σ H _ θ F ρ μ S E ?_
  cases e : m ρ μ with
  | ok w μ1 =>
    rw [e] at ok
    exact fun θ1 F1 H1 v x S1 r => h2 D σ H1 θ1 F1 ρ μ1 v w S1 (E.mono x.pre x.sub) r (SO.Ok.mono ok x)
  | er c μ1 =>
    rw [e] at ok
    exact fun θ1 F1 H1 x S1 => ok θ1 F1 H1 σ x S1 (E.mono x.pre x.sub)
  | no => rw [e] at ok; exact ok

/-! ### statements -/
def SO.seq : SO → SM → SO
  | .nx ρ μ, f => f ρ μ
  | .rt w μ, _ => .rt w μ
  | .bk ρ μ, _ => .bk ρ μ
  | .ct ρ μ, _ => .ct ρ μ
  | .er c ρ μ, _ => .er c ρ μ
  | .no, _ => .no
def sSeq (a b : SM) : SM := fun ρ μ => (a ρ μ).seq b
def sNx : SM := fun ρ μ => .nx ρ μ
section
variable {X : Cx} {Wx : WX}
theorem psd_nil : PSsD X Wx [] tNext sNx := ⟨pss_nil, fun D σ H θ F ρ μ S E ok => ok θ F H σ (.refl _ _ _) S E⟩
theorem psd_one {s : Stmt} {t : TS} {m : SM} (h : PSD X Wx s t m) : PSsD X Wx [s] t m := ⟨pss_one h.ps, h.ad⟩
theorem psd_cons {s : Stmt} {r : List Stmt} {t u : TS} {m n : SM} (h : PSD X Wx s t m) (h2 : PSsD X Wx r u n) : PSsD X Wx (s :: r) (tSeq t u) (sSeq m n) := by
  refine ⟨pss_cons h.ps h2.ps, fun D σ H θ F ρ μ S E ok => ?_⟩
  refine h.ad { D with nx := u D } σ H θ F ρ μ S E ?_
  unfold sSeq at ok
  cases e : m ρ μ with
  | nx ρ1 μ1 =>
    rw [e] at ok
    exact fun θ1 F1 H1 σ1 x S1 E1 => h2.ad D σ1 H1 θ1 F1 ρ1 μ1 S1 E1 (SO.Ok.mono ok x)
  | rt w μ1 => rw [e] at ok; exact ok
  | bk ρ1 μ1 => rw [e] at ok; exact ok
  | ct ρ1 μ1 => rw [e] at ok; exact ok
  | er c ρ1 μ1 => rw [e] at ok; exact ok
  | no => rw [e] at ok; exact ok
def sPass : SM := sNx
theorem psd_pass {pos : Pos} : PSD X Wx (.Pass pos) tNext sNx := ⟨ps_pass, fun D σ H θ F ρ μ S E ok => ok θ F H σ (.refl _ _ _) S E⟩
theorem psd_break {pos : Pos} : PSD X Wx (.Break pos) tBreak (fun ρ μ => .bk ρ μ) := ⟨ps_break, fun D σ H θ F ρ μ S E ok => ok θ F H σ (.refl _ _ _) S E⟩
theorem psd_continue {pos : Pos} : PSD X Wx (.Continue pos) tCont (fun ρ μ => .ct ρ μ) := ⟨ps_continue, fun D σ H θ F ρ μ S E ok => ok θ F H σ (.refl _ _ _) S E⟩
def sEx (m : EM) : SM := fun ρ μ => (m ρ μ).st ρ fun _ μ1 => .nx ρ μ1
theorem psd_expr {e : Expr} {t : TE} {m : EM} {pos : Pos} (h : PED X Wx e t m) (hs : swapsWith e none pos.line X.env = pure false := by rfl) : PSD X Wx (.Expr e pos) (tDrop t) (sEx m) :=
  ⟨ps_expr h.pe hs, Ad.st (u := fun _ D σ H => D.nx σ H) (f := fun _ ρ μ => .nx ρ μ) h.ad fun D σ H θ F ρ μ v w S E r ok => ok θ F H σ (.refl _ _ _) S E⟩
def sRet (m : EM) : SM := fun ρ μ => (m ρ μ).st ρ fun w μ1 => .rt w μ1
theorem psd_ret {e : Expr} {t : TE} {m : EM} {pos : Pos} (h : PED X Wx e t m) : PSD X Wx (.Return (some e) pos) (tRet t) (sRet m) :=
  ⟨ps_ret h.pe, Ad.st (u := fun v D _ H => D.rt v H) (f := fun w _ μ => .rt w μ) h.ad fun D σ H θ F ρ μ v w S E r ok => ok θ F H v (.refl _ _ _) S r⟩
def sRetN : SM := fun _ μ => .rt .non μ
theorem psd_retN {pos : Pos} : PSD X Wx (.Return none pos) tRetN sRetN := ⟨ps_retN, fun D σ H θ F ρ μ S E ok => ok θ F H .non (.refl _ _ _) S .non⟩
def sIf (c : Env → Mu → Out Bool) (a b : SM) : SM := fun ρ μ => (c ρ μ).st ρ fun k μ1 => if k = true then a ρ μ1 else b ρ μ1
theorem psd_if {c : Expr} {A B : List Stmt} {tc : TT} {t u : TS} {mc : Env → Mu → Out Bool} {m n : SM} {pos : Pos} (hc : PTD X Wx c tc mc) (ha : PSsD X Wx A t m) (hb : PSsD X Wx B u n) : PSD X Wx (.If c A B pos) (tIfS tc t u) (sIf mc m n) := by
  refine ⟨ps_if hc.pt ha.ps hb.ps, Ad.st (u := fun k D σ H => if k = true then t D σ H else u D σ H) (f := fun k ρ μ => if k = true then m ρ μ else n ρ μ) hc.ad fun D σ H θ F ρ μ v w S E r ok => ?_⟩
  have r : v = w := r
  subst r
  cases v with
  | true => exact ha.ad D σ H θ F ρ μ S E ok
  | false => exact hb.ad D σ H θ F ρ μ S E ok
/-- x = e -/
def sAsg (m : EM) (g : W → Env → Mu → Out Env) : SM := fun ρ μ => (m ρ μ).st ρ fun w μ1 => (g w ρ μ1).st ρ fun ρ' μ2 => .nx ρ' μ2
theorem psd_asg {e tg : Expr} {t : TE} {m : EM} {g : TG} {n : W → Env → Mu → Out Env} {pos : Pos} (h : PED X Wx e t m) (hg : PGD X Wx tg g n) (hs : swapsWithSole [tg] e pos.line X.env = pure false := by rfl) (hw : swappedStores [tg] e X.env = pure none := by rfl)
    (h1 : (assignEach [tg] X.env).map (·.2) = [assign tg X.env] := by rfl) : PSD X Wx (.Assign [tg] e pos) (tAsg t g) (sAsg m n) := by
  refine ⟨ps_asg h.pe hg.pg hs hw h1, Ad.st (u := fun v D σ H => g v σ H D.nx) (f := fun w ρ μ => (n w ρ μ).st ρ fun ρ' μ2 => .nx ρ' μ2) h.ad fun D σ H θ F ρ μ v w S E r ok => ?_⟩
  refine hg.ad v w σ H D.nx θ F ρ μ S E r ?_
  cases e1 : n w ρ μ with
  | ok ρ' μ' => rw [e1] at ok; exact fun θ1 F1 H1 σ1 x S1 E1 => ok θ1 F1 H1 σ1 x S1 E1
  | er c μ' => rw [e1] at ok; exact fun θ1 F1 H1 x S1 => ok θ1 F1 H1 σ x S1 (E.mono x.pre x.sub)
  | no => rw [e1] at ok; exact ok
def gSet (i : Nat) : W → Env → Mu → Out Env := fun w ρ μ => .ok (ρ.set i (some w)) μ
theorem pgd_name {i : Nat} {x : Str} {pos : Pos} (hN : X.N.Nodup) (hi : X.N[i]? = some x) (hx : Loc X.env.scope x) (hf : X.fn x = true ∨ X.env.scope.names.lookup x = some .local := by first | exact .inl rfl | exact .inr rfl | assumption) : PGD X Wx (.Name x pos) (gName i) (gSet i) :=
  ⟨pg_name hN hi hx hf, fun v w σ H Q θ F ρ μ S E r ok => ok θ F H _ (.refl _ _ _) S (E.set i r)⟩
end

/-! ### expressions -/
theorem Ad.use {α β γ δ : Type} {K : PySem.W.Frag} {Wx : WX} {R : List Addr → Hp → β → α → Prop} {R2 : List Addr → Hp → δ → γ → Prop} {t : St → Hp → (β → Hp → Prop) → Prop} {m : Env → Mu → Out α} {f : α → Mu → Out γ}
    {σ : St} {H : Hp} {Q1 : β → Hp → Prop} {Q : δ → Hp → Prop} {θ : List Addr} {F : Hp} {ρ : Env} {μ : Mu}
    (h : Ad K Wx R t m) (S : Sim K θ F H μ) (E : SimE K θ F σ ρ) (ok : ((m ρ μ).bind f).Ok K R2 θ F H (fun c H' => Wx (.ref c) none σ H') Q)
    (k : ∀ (θ1 : List Addr) (F1 H1 : Hp) (μ1 : Mu) (v : β) (w : α), Ext θ F H θ1 F1 H1 → Sim K θ1 F1 H1 μ1 → SimE K θ1 F1 σ ρ → R θ1 F1 v w → (f w μ1).Ok K R2 θ1 F1 H1 (fun c H' => Wx (.ref c) none σ H') Q → Q1 v H1) : t σ H Q1 := by
  refine h σ H _ θ F ρ μ S E ?_
  cases e : m ρ μ with
  | ok w μ1 =>
    rw [e] at ok
    exact fun θ1 F1 H1 v x S1 r => k θ1 F1 H1 μ1 v w x S1 (E.mono x.pre x.sub) r (Out.Ok.mono (o := f w μ1) ok x)
  | er c μ1 => rw [e] at ok; exact ok
  | no => rw [e] at ok; exact ok

def eVar (i : Nat) : EM := fun ρ μ => match ρ[i]? with
  | some (some w) => .ok w μ
  | _ => .no
def eC (w : W) : EM := fun _ μ => .ok w μ
section
variable {X : Cx} {Wx : WX} {pos : Pos}
theorem ped_var {i : Nat} {e : Expr} (h : PE X e (tVar i)) : PED X Wx e (tVar i) (eVar i) := by
  refine ⟨h, fun σ H Q θ F ρ μ S E ok => ?_⟩
  unfold eVar at ok
  split at ok
  · rename_i w e1
    obtain ⟨v, a, r⟩ := E.get i w e1
    exact ⟨v, a, ok.here S r⟩
  · exact ok.elim
theorem ped_c {e : Expr} {v : V} {w : W} (h : PE X e (tC v)) (r : ∀ θ F, Rep X.K θ F v w) : PED X Wx e (tC v) (eC w) :=
  ⟨h, fun σ H Q θ F ρ μ S E ok => ok.here S (r θ F)⟩
theorem ped_int {i : Int} {j : Nat} : PED X Wx (.Constant (.int i) j pos) (tC (.int i)) (eC (.int i)) := ped_c pe_int fun _ _ => .int i
theorem ped_str {x : Str} {j : Nat} : PED X Wx (.Constant (.str x) j pos) (tC (.str x)) (eC (.str x)) := ped_c pe_str fun _ _ => .str x
theorem ped_bl {b : Bool} {j : Nat} : PED X Wx (.Constant (.bool b) j pos) (tC (.bl b)) (eC (.bl b)) := ped_c pe_bl fun _ _ => .bl b
theorem ped_non {j : Nat} : PED X Wx (.Constant .none j pos) (tC .non) (eC .non) := ped_c pe_non fun _ _ => .non
end

/-! operators by values -/
abbrev GOp := W → W → Mu → Out W
def AdOp (K : PySem.W.Frag) (r : R2) (g : GOp) : Prop := ∀ {x y : V} {wx wy : W} {E : Addr → Hp → Prop} {Q : VK} {H : Hp} {θ : List Addr} {F : Hp} {μ : Mu}, Sim K θ F H μ → Rep K θ F x wx → Rep K θ F y wy → (g wx wy μ).Ok K (Rep K) θ F H E Q → r x y H Q
def Out.els {α : Type} : Out α → Out α → Out α
  | .no, b => b
  | a, _ => a
def orG (g g' : GOp) : GOp := fun x y μ => (g x y μ).els (g' x y μ)
theorem AdOp.or {K : PySem.W.Frag} {r r' : R2} {g g' : GOp} (h : AdOp K r g) (h' : AdOp K r' g') : AdOp K (fun x y H Q => r x y H Q ∨ r' x y H Q) (orG g g') := by
  intro x y wx wy E Q H θ F μ S rx ry ok
  unfold orG at ok
  cases e : g wx wy μ with
  | ok w μ1 => rw [e] at ok; exact .inl (h S rx ry (by rw [e]; exact ok))
  | er c μ1 => rw [e] at ok; exact .inl (h S rx ry (by rw [e]; exact ok))
  | no => rw [e] at ok; exact .inr (h' S rx ry ok)
def eBin (g : GOp) (a b : EM) : EM := fun ρ μ => (a ρ μ).bind fun x μ1 => (b ρ μ1).bind fun y μ2 => g x y μ2
theorem ad_bin {K : PySem.W.Frag} {Wx : WX} {ta tb : TE} {ma mb : EM} {r : R2} {g : GOp} (hg : AdOp K r g) (ha : Ad K Wx (Rep K) ta ma) (hb : Ad K Wx (Rep K) tb mb) : Ad K Wx (Rep K) (tOp r ta tb) (eBin g ma mb) := by
  intro σ H Q θ F ρ μ S E ok
  refine ha.use S E ok fun θ1 F1 H1 μ1 v w x S1 E1 r1 ok1 => ?_
  refine hb.use S1 E1 ok1 fun θ2 F2 H2 μ2 u z y S2 E2 r2 ok2 => ?_
  exact hg S2 (r1.mono y.pre y.sub) r2 ok2
section
variable {X : Cx} {Wx : WX} {pos : Pos} {a b : Expr} {ta tb : TE} {ma mb : EM} {r : R2} {g : GOp}
theorem ped_op {op : Operator} (ho : OpR X (binaryOp op) r) (hg : AdOp X.K r g) (ha : PED X Wx a ta ma) (hb : PED X Wx b tb mb) : PED X Wx (.BinOp a op b pos) (tOp r ta tb) (eBin g ma mb) := ⟨pe_op ho ha.pe hb.pe, ad_bin hg ha.ad hb.ad⟩
theorem ped_cmp {op : CmpOp} (ho : OpR X (compareOp op) r) (hg : AdOp X.K r g) (ha : PED X Wx a ta ma) (hb : PED X Wx b tb mb) (hm : behindInMarks op b = false) : PED X Wx (.Compare a [op] [b] pos) (tOp r ta tb) (eBin g ma mb) := ⟨pe_cmpR ho ha.pe hb.pe hm, ad_bin hg ha.ad hb.ad⟩
end
/-- a bool as a test -/
def eTest (m : EM) : Env → Mu → Out Bool := fun ρ μ => (m ρ μ).bind fun w μ1 => match w with
  | .bl k => .ok k μ1
  | _ => .no
theorem ad_test {K : PySem.W.Frag} {Wx : WX} {t : TE} {m : EM} (h : Ad K Wx (Rep K) t m) : Ad K Wx REq (tTest t) (eTest m) := by
  intro σ H Q θ F ρ μ S E ok
  refine h.use S E ok fun θ1 F1 H1 μ1 v w x S1 E1 r1 ok1 => ?_
  split at ok1
  · cases r1
    exact ⟨_, rfl, ok1.here S1 rfl⟩
  · exact ok1.elim
theorem tB_eq : tB = tTest := rfl
section
variable {X : Cx} {Wx : WX} {pos : Pos} {a b c : Expr} {ta tb tc : TE} {ma mb mc : EM} {r r' : R2} {g g' : GOp}
theorem ptd_cmp {op : CmpOp} (ho : OpR X (compareOp op) r) (hg : AdOp X.K r g) (ha : PED X Wx a ta ma) (hb : PED X Wx b tb mb) (hm : behindInMarks op b = false) : PTD X Wx (.Compare a [op] [b] pos) (tTest (tOp r ta tb)) (eTest (eBin g ma mb)) := ⟨pt_cmpR ho ha.pe hb.pe hm, ad_test (ad_bin hg ha.ad hb.ad)⟩
theorem ptd_val {e : Expr} {t : TE} {m : EM} (h : PED X Wx e t m) (he : ∀ whole, isTrue e X.env whole = (do let v ← whole; standAt e.pos; holding [v] (truthy v)) := by intro _; rfl) : PTD X Wx e (tTest t) (eTest m) := ⟨pt_val h.pe he, ad_test h.ad⟩
/-- a < b < c -/
def eChain (g g' : GOp) (a b c : EM) : EM := fun ρ μ => (a ρ μ).bind fun x μ1 => (b ρ μ1).bind fun y μ2 => (g x y μ2).bind fun z μ3 => match z with
  | .bl true => (c ρ μ3).bind fun u μ4 => g' y u μ4
  | .bl false => .ok (.bl false) μ3
  | _ => .no
end
theorem AdOp.use {K : PySem.W.Frag} {r : R2} {g : GOp} {γ δ : Type} {R2' : List Addr → Hp → δ → γ → Prop} {x y : V} {wx wy : W} {E : Addr → Hp → Prop} {Q1 : VK} {Q : δ → Hp → Prop} {H : Hp} {θ : List Addr} {F : Hp} {μ : Mu} {f : W → Mu → Out γ}
    (h : AdOp K r g) (S : Sim K θ F H μ) (rx : Rep K θ F x wx) (ry : Rep K θ F y wy) (ok : ((g wx wy μ).bind f).Ok K R2' θ F H E Q)
    (k : ∀ (θ1 : List Addr) (F1 H1 : Hp) (μ1 : Mu) (v : V) (w : W), Ext θ F H θ1 F1 H1 → Sim K θ1 F1 H1 μ1 → Rep K θ1 F1 v w → (f w μ1).Ok K R2' θ1 F1 H1 E Q → Q1 v H1) : r x y H Q1 := by
  refine h (E := E) S rx ry ?_
  cases e : g wx wy μ with
  | ok w μ1 =>
    rw [e] at ok
    exact fun θ1 F1 H1 v x S1 r => k θ1 F1 H1 μ1 v w x S1 r (Out.Ok.mono (o := f w μ1) ok x)
  | er c μ1 => rw [e] at ok; exact ok
  | no => rw [e] at ok; exact ok
theorem ad_chain {K : PySem.W.Frag} {Wx : WX} {ta tb tc : TE} {ma mb mc : EM} {r r' : R2} {g g' : GOp} (hg : AdOp K r g) (hg' : AdOp K r' g') (ha : Ad K Wx (Rep K) ta ma) (hb : Ad K Wx (Rep K) tb mb) (hc : Ad K Wx (Rep K) tc mc) : Ad K Wx (Rep K) (tChain r r' ta tb tc) (eChain g g' ma mb mc) := by
  intro σ H Q θ F ρ μ S E ok
  refine ha.use S E ok fun θ1 F1 H1 μ1 v w x1 S1 E1 r1 ok1 => ?_
  refine hb.use S1 E1 ok1 fun θ2 F2 H2 μ2 u z x2 S2 E2 r2 ok2 => ?_
  refine hg.use S2 (r1.mono x2.pre x2.sub) r2 ok2 fun θ3 F3 H3 μ3 k kw x3 S3 r3 ok3 => ?_
  have E3 := E2.mono x3.pre x3.sub
  split at ok3
  · cases r3
    refine ⟨true, rfl, ?_⟩
    rw [if_pos rfl]
    refine hc.use S3 E3 ok3 fun θ4 F4 H4 μ4 q qw x4 S4 E4 r4 ok4 => ?_
    exact hg' S4 (r2.mono (x3.trans x4).pre (x3.trans x4).sub) r4 ok4
  · cases r3
    refine ⟨false, rfl, ?_⟩
    rw [if_neg Bool.false_ne_true]
    exact ok3.here S3 (.bl false)
  · exact ok3.elim
section
variable {X : Cx} {Wx : WX} {pos : Pos} {a b c : Expr} {ta tb tc : TE} {ma mb mc : EM} {r r' : R2} {g g' : GOp}
theorem ped_chain {op op' : CmpOp} (ho : OpR X (compareOp op) r) (hg : AdOp X.K r g) (ho' : OpR X (compareOp op') r') (hg' : AdOp X.K r' g') (ha : PED X Wx a ta ma) (hb : PED X Wx b tb mb) (hc : PED X Wx c tc mc) (hm : lastMarks [op, op'] [b, c] = false := by with_unfolding_all rfl) :
    PED X Wx (.Compare a [op, op'] [b, c] pos) (tChain r r' ta tb tc) (eChain g g' ma mb mc) := ⟨pe_chain ho ho' ha.pe hb.pe hc.pe hm, ad_chain hg hg' ha.ad hb.ad hc.ad⟩
theorem ptd_chain {op op' : CmpOp} (ho : OpR X (compareOp op) r) (hg : AdOp X.K r g) (ho' : OpR X (compareOp op') r') (hg' : AdOp X.K r' g') (ha : PED X Wx a ta ma) (hb : PED X Wx b tb mb) (hc : PED X Wx c tc mc) (hm : lastMarks [op, op'] [b, c] = false := by with_unfolding_all rfl) :
    PTD X Wx (.Compare a [op, op'] [b, c] pos) (tTest (tChain r r' ta tb tc)) (eTest (eChain g g' ma mb mc)) := ⟨pt_chain ho ho' ha.pe hb.pe hc.pe hm, ad_test (ad_chain hg hg' ha.ad hb.ad hc.ad)⟩
end

/-! and, or, not -/
abbrev BM := Env → Mu → Out Bool
def bAnd (a b : BM) : BM := fun ρ μ => (a ρ μ).bind fun k μ1 => if k = true then b ρ μ1 else .ok false μ1
def bOr (a b : BM) : BM := fun ρ μ => (a ρ μ).bind fun k μ1 => if k = true then .ok true μ1 else b ρ μ1
def bNot (a : BM) : BM := fun ρ μ => (a ρ μ).bind fun k μ1 => .ok (!k) μ1
def eIf (c : BM) (a b : EM) : EM := fun ρ μ => (c ρ μ).bind fun k μ1 => if k = true then a ρ μ1 else b ρ μ1
def eAnd (a b : EM) : EM := fun ρ μ => (a ρ μ).bind fun w μ1 => match w with
  | .bl true => b ρ μ1
  | .bl false => .ok (.bl false) μ1
  | _ => .no
def eOr (a b : EM) : EM := fun ρ μ => (a ρ μ).bind fun w μ1 => match w with
  | .bl false => b ρ μ1
  | .bl true => .ok (.bl true) μ1
  | _ => .no
def eNot (a : EM) : EM := fun ρ μ => (a ρ μ).bind fun w μ1 => match w with
  | .bl k => .ok (.bl (!k)) μ1
  | _ => .no
section
variable {X : Cx} {Wx : WX} {pos : Pos} {a b c : Expr} {rest : List Expr} {tA tB' : TT} {mA mB : BM} {ta tb : TE} {ma mb : EM}
theorem pwd_and1 (ha : PTD X Wx a tA mA) : PWD X Wx (.BoolOp .And [a] pos) tA mA := ⟨pw_and1 ha.pt, ha.ad⟩
theorem pwd_or1 (ha : PTD X Wx a tA mA) : PWD X Wx (.BoolOp .Or [a] pos) tA mA := ⟨pw_or1 ha.pt, ha.ad⟩
theorem pwd_and (ha : PTD X Wx a tA mA) (hb : PWD X Wx (.BoolOp .And (b :: rest) pos) tB' mB) : PWD X Wx (.BoolOp .And (a :: b :: rest) pos) (tAnd tA tB') (bAnd mA mB) := by
  refine ⟨pw_and ha.pt hb.pw, fun σ H Q θ F ρ μ S E ok => ?_⟩
  refine ha.ad.use S E ok fun θ1 F1 H1 μ1 v w x S1 E1 r1 ok1 => ?_
  have r1 : v = w := r1
  subst r1
  cases v with
  | true => exact hb.ad σ H1 Q θ1 F1 ρ μ1 S1 E1 ok1
  | false => exact Out.Ok.here ok1 S1 rfl
theorem pwd_or (ha : PTD X Wx a tA mA) (hb : PWD X Wx (.BoolOp .Or (b :: rest) pos) tB' mB) : PWD X Wx (.BoolOp .Or (a :: b :: rest) pos) (tOr tA tB') (bOr mA mB) := by
  refine ⟨pw_or ha.pt hb.pw, fun σ H Q θ F ρ μ S E ok => ?_⟩
  refine ha.ad.use S E ok fun θ1 F1 H1 μ1 v w x S1 E1 r1 ok1 => ?_
  have r1 : v = w := r1
  subst r1
  cases v with
  | false => exact hb.ad σ H1 Q θ1 F1 ρ μ1 S1 E1 ok1
  | true => exact Out.Ok.here ok1 S1 rfl
theorem ptd_not (ha : PTD X Wx a tA mA) : PTD X Wx (.UnaryOp .Not a pos) (tNot tA) (bNot mA) := by
  refine ⟨pt_not ha.pt, fun σ H Q θ F ρ μ S E ok => ?_⟩
  refine ha.ad.use S E ok fun θ1 F1 H1 μ1 v w x S1 E1 r1 ok1 => ?_
  have r1 : v = w := r1
  subst r1
  exact Out.Ok.here ok1 S1 rfl
theorem ped_if (hc : PTD X Wx c tA mA) (ha : PED X Wx a ta ma) (hb : PED X Wx b tb mb) : PED X Wx (.IfExp c a b pos) (tIf tA ta tb) (eIf mA ma mb) := by
  refine ⟨pe_ifExp hc.pt ha.pe hb.pe, fun σ H Q θ F ρ μ S E ok => ?_⟩
  refine hc.ad.use S E ok fun θ1 F1 H1 μ1 v w x S1 E1 r1 ok1 => ?_
  have r1 : v = w := r1
  subst r1
  cases v with
  | true => exact ha.ad σ H1 Q θ1 F1 ρ μ1 S1 E1 ok1
  | false => exact hb.ad σ H1 Q θ1 F1 ρ μ1 S1 E1 ok1
theorem ped_one {op : BoolOp} (h : PED X Wx a ta ma) : PED X Wx (.BoolOp op [a] pos) ta ma := ⟨pe_one h.pe, h.ad⟩
theorem ped_and (ha : PED X Wx a ta ma) (hb : PED X Wx (.BoolOp .And (b :: rest) pos) tb mb) : PED X Wx (.BoolOp .And (a :: b :: rest) pos) (tAndV ta tb) (eAnd ma mb) := by
  refine ⟨pe_and ha.pe hb.pe, fun σ H Q θ F ρ μ S E ok => ?_⟩
  refine ha.ad.use S E ok fun θ1 F1 H1 μ1 v w x S1 E1 r1 ok1 => ?_
  split at ok1
  · cases r1
    exact ⟨true, rfl, by rw [if_pos rfl]; exact hb.ad σ H1 Q θ1 F1 ρ μ1 S1 E1 ok1⟩
  · cases r1
    exact ⟨false, rfl, by rw [if_neg Bool.false_ne_true]; exact ok1.here S1 (.bl false)⟩
  · exact ok1.elim
theorem ped_or (ha : PED X Wx a ta ma) (hb : PED X Wx (.BoolOp .Or (b :: rest) pos) tb mb) : PED X Wx (.BoolOp .Or (a :: b :: rest) pos) (tOrV ta tb) (eOr ma mb) := by
  refine ⟨pe_or ha.pe hb.pe, fun σ H Q θ F ρ μ S E ok => ?_⟩
  refine ha.ad.use S E ok fun θ1 F1 H1 μ1 v w x S1 E1 r1 ok1 => ?_
  split at ok1
  · cases r1
    exact ⟨false, rfl, by rw [if_neg Bool.false_ne_true]; exact hb.ad σ H1 Q θ1 F1 ρ μ1 S1 E1 ok1⟩
  · cases r1
    exact ⟨true, rfl, by rw [if_pos rfl]; exact ok1.here S1 (.bl true)⟩
  · exact ok1.elim
theorem ped_not (ha : PED X Wx a ta ma) : PED X Wx (.UnaryOp .Not a pos) (tNotV ta) (eNot ma) := by
  refine ⟨pe_not ha.pe, fun σ H Q θ F ρ μ S E ok => ?_⟩
  refine ha.ad.use S E ok fun θ1 F1 H1 μ1 v w x S1 E1 r1 ok1 => ?_
  split at ok1
  · cases r1
    exact ⟨_, rfl, ok1.here S1 (.bl _)⟩
  · exact ok1.elim
end

/-! ### what a value is, as a sequence -/
def asL (μ : Mu) : W → Option (List W)
  | .lst l => some l
  | .loc n => match μ[n]? with
    | some (.lst l) => some l
    | _ => none
  | _ => none
/-- a list or tuple that is read -/
def asQ (μ : Mu) : W → Option (List W)
  | .tup l => some l
  | .scr l => some l
  | w => asL μ w
theorem asL_rep {K : PySem.W.Frag} {θ : List Addr} {F H : Hp} {μ : Mu} (S : Sim K θ F H μ) {v : V} {w : W} {l : List W} (r : Rep K θ F v w) (h : asL μ w = some l) : ∃ a vs, v = .ref a ∧ H a = some (.lst vs) ∧ RepAll K θ F vs l := by
  cases r with
  | lst e q =>
    have : _ = l := Option.some.inj h
    subst this
    exact ⟨_, _, rfl, S.sub _ _ e, q⟩
  | @loc n a e =>
    unfold asL at h
    simp only at h
    split at h
    · rename_i l' e1
      have : l' = l := Option.some.inj h
      subst this
      obtain ⟨b, e2, c⟩ := S.at e1
      rw [e] at e2; cases e2
      obtain ⟨_, vs, q1, q2⟩ := c
      exact ⟨a, vs, rfl, q1, q2⟩
    · cases h
  | non => cases h
  | bl _ => cases h
  | int _ => cases h
  | str _ => cases h
  | ty _ => cases h
  | ref _ => cases h
  | tup _ _ => cases h
  | scr _ _ => cases h
theorem asQ_rep {K : PySem.W.Frag} {θ : List Addr} {F H : Hp} {μ : Mu} (S : Sim K θ F H μ) {v : V} {w : W} {l : List W} (r : Rep K θ F v w) (h : asQ μ w = some l) : ∃ a vs, v = .ref a ∧ (SqL K H a vs ∨ SqT K H a vs) ∧ RepAll K θ F vs l := by
  cases r with
  | tup e q =>
    have : _ = l := Option.some.inj h
    subst this
    exact ⟨_, _, rfl, .inr (S.sub.sqT e), q⟩
  | scr e q =>
    have : _ = l := Option.some.inj h
    subst this
    exact ⟨_, _, rfl, .inl (S.sub.sqL e), q⟩
  | lst e q =>
    obtain ⟨a, vs, e1, e2, e3⟩ := asL_rep S (.lst e q) h
    exact ⟨a, vs, e1, .inl (.of e2), e3⟩
  | loc e =>
    obtain ⟨a, vs, e1, e2, e3⟩ := asL_rep S (.loc e) h
    exact ⟨a, vs, e1, .inl (.of e2), e3⟩
  | non => cases h
  | bl _ => cases h
  | int _ => cases h
  | str _ => cases h
  | ty _ => cases h
  | ref _ => cases h

/-! ### data, as PyData -/
mutual
def toD : W → Option PyData
  | .non => some .none
  | .bl b => some (.bool b)
  | .int i => some (.int i)
  | .str s => some (.str s)
  | .tup l => (toDs l).map .tuple
  | .lst l => (toDs l).map .list
  | .scr l => (toDs l).map .list
  | .loc _ => none
  | .ref _ => none
  | .ty _ => none
def toDs : List W → Option (List PyData)
  | [] => some []
  | w :: ws => match toD w with
    | some d => (toDs ws).map (d :: ·)
    | none => none
end
def topD (μ : Mu) : W → Option PyData
  | .loc n => match μ[n]? with
    | some (.lst l) => (toDs l).map .list
    | _ => none
  | w => toD w
mutual
theorem toD_rep {K : PySem.W.Frag} {θ : List Addr} {F H : Hp} (e : Sub F H) : ∀ {v : V} {w : W} {d : PyData}, Rep K θ F v w → toD w = some d → Dp K H v d
  | _, _, _, .non, h => by simp [toD] at h; subst h; exact .non
  | _, _, _, .bl b, h => by simp [toD] at h; subst h; exact .bl b
  | _, _, _, .int i, h => by simp [toD] at h; subst h; exact .int i
  | _, _, _, .str x, h => by simp [toD] at h; subst h; exact .str x
  | _, _, _, .ty n, h => by simp [toD] at h
  | _, _, _, .ref a, h => by simp [toD] at h
  | _, _, _, .loc q, h => by simp [toD] at h
  | _, _, _, .tup q r, h => by
    simp only [toD, Option.map_eq_some_iff] at h
    obtain ⟨ds, h1, rfl⟩ := h
    exact .tup (e.sqT q) (toDs_rep e r h1)
  | _, _, _, .lst q r, h => by
    simp only [toD, Option.map_eq_some_iff] at h
    obtain ⟨ds, h1, rfl⟩ := h
    exact .lst (.of (e _ _ q)) (toDs_rep e r h1)
  | _, _, _, .scr q r, h => by
    simp only [toD, Option.map_eq_some_iff] at h
    obtain ⟨ds, h1, rfl⟩ := h
    exact .lst (e.sqL q) (toDs_rep e r h1)
theorem toDs_rep {K : PySem.W.Frag} {θ : List Addr} {F H : Hp} (e : Sub F H) : ∀ {vs : List V} {ws : List W} {ds : List PyData}, RepAll K θ F vs ws → toDs ws = some ds → DpAll K H vs ds
  | _, _, _, .nil, h => by simp [toDs] at h; subst h; exact .nil
  | _, _, ds, .cons (w := w) (ws := ws) r t, h => by
    simp only [toDs] at h
    split at h
    · rename_i d hd
      simp only [Option.map_eq_some_iff] at h
      obtain ⟨ds', h1, rfl⟩ := h
      exact .cons (toD_rep e r hd) (toDs_rep e t h1)
    · cases h
end
theorem topD_rep {K : PySem.W.Frag} {θ : List Addr} {F H : Hp} {μ : Mu} (S : Sim K θ F H μ) {v : V} {w : W} {d : PyData} (r : Rep K θ F v w) (h : topD μ w = some d) : Dp K H v d := by
  cases r with
  | @loc n a e =>
    unfold topD at h
    simp only at h
    split at h
    · rename_i l e1
      simp only [Option.map_eq_some_iff] at h
      obtain ⟨ds, h1, rfl⟩ := h
      obtain ⟨b, e2, c⟩ := S.at e1
      rw [e] at e2; cases e2
      obtain ⟨_, vs, q1, q2⟩ := c
      exact .lst (.of q1) (toDs_rep S.sub q2 h1)
    · cases h
  | non => exact toD_rep (θ := θ) S.sub .non h
  | bl b => exact toD_rep (θ := θ) S.sub (.bl b) h
  | int i => exact toD_rep (θ := θ) S.sub (.int i) h
  | str x => exact toD_rep (θ := θ) S.sub (.str x) h
  | ty n => exact toD_rep (θ := θ) S.sub (.ty n) h
  | ref a => exact toD_rep (θ := θ) S.sub (.ref a) h
  | tup q r => exact toD_rep S.sub (.tup q r) h
  | lst q r => exact toD_rep S.sub (.lst q r) h
  | scr q r => exact toD_rep S.sub (.scr q r) h

/-! ### operators -/
def gI (f : Int → Int → W) : GOp := fun x y μ => match x, y with
  | .int i, .int j => .ok (f i j) μ
  | _, _ => .no
def gIC (C : Int → Int → Bool) (f : Int → Int → W) : GOp := fun x y μ => match x, y with
  | .int i, .int j => if C i j = true then .ok (f i j) μ else .no
  | _, _ => .no
section
variable {K : PySem.W.Frag}
theorem ad_rI {f : Int → Int → W} {g : Int → Int → V} (h : ∀ i j θ F, Rep K θ F (g i j) (f i j)) : AdOp K (rI0 g) (gI f) := by
  intro x y wx wy E Q H θ F μ S rx ry ok
  unfold gI at ok
  split at ok
  · cases rx; cases ry
    exact ⟨_, _, rfl, rfl, ok.here S (h _ _ _ _)⟩
  · exact ok.elim
theorem ad_rIC {C : Int → Int → Bool} {C' : Int → Int → Prop} {f : Int → Int → W} {g : Int → Int → V} (hC : ∀ i j, C i j = true → C' i j) (h : ∀ i j θ F, Rep K θ F (g i j) (f i j)) : AdOp K (rI C' g) (gIC C f) := by
  intro x y wx wy E Q H θ F μ S rx ry ok
  unfold gIC at ok
  split at ok
  · cases rx; cases ry
    split at ok
    · rename_i hc
      exact ⟨_, _, rfl, rfl, hC _ _ hc, ok.here S (h _ _ _ _)⟩
    · exact ok.elim
  · exact ok.elim
def gSub : GOp := gI fun i j => .int (i - j)
theorem ad_sub : AdOp K (rI0 fun i j => .int (i - j)) gSub := ad_rI fun _ _ _ _ => .int _
def gMulI : GOp := gIC (fun i j => (decide (-(2 ^ 64) < i) && decide (i < 2 ^ 64)) || (decide (-(2 ^ 64) < j) && decide (j < 2 ^ 64))) fun i j => .int (i * j)
theorem ad_mulI : AdOp K (rI CMul fun i j => .int (i * j)) gMulI := ad_rIC (fun i j h => by simpa [CMul] using h) fun _ _ _ _ => .int _
def gDiv : GOp := gIC (fun _ j => decide (0 < j) && decide (j < 1073741824)) fun i j => .int (i / j)
theorem ad_div : AdOp K (rI CDiv fun i j => .int (i / j)) gDiv := ad_rIC (fun i j h => by simpa [CDiv] using h) fun _ _ _ _ => .int _
def gMod : GOp := gIC (fun _ j => decide (0 < j)) fun i j => .int (i % j)
theorem ad_mod : AdOp K (rI (fun _ j => 0 < j) fun i j => .int (i % j)) gMod := ad_rIC (fun i j h => by simpa using h) fun _ _ _ _ => .int _
def gPow : GOp := gIC (fun i j => decide (0 ≤ j) && decide (j ≤ 1000000) && decide (i.natAbs < 2 ^ 64)) fun i j => .int (i ^ j.toNat)
theorem ad_pow : AdOp K (rI CPow fun i j => .int (i ^ j.toNat)) gPow := ad_rIC (fun i j h => by
  simp only [Bool.and_eq_true, decide_eq_true_eq] at h
  exact ⟨h.1.1, h.1.2, h.2⟩) fun _ _ _ _ => .int _
def gLt : GOp := gI fun i j => .bl (decide (i < j))
def gLe : GOp := gI fun i j => .bl (decide (i ≤ j))
def gGt : GOp := gI fun i j => .bl (decide (j < i))
def gGe : GOp := gI fun i j => .bl (decide (j ≤ i))
theorem ad_lt : AdOp K (rI0 fun i j => .bl (decide (i < j))) gLt := ad_rI fun _ _ _ _ => .bl _
theorem ad_le : AdOp K (rI0 fun i j => .bl (decide (i ≤ j))) gLe := ad_rI fun _ _ _ _ => .bl _
theorem ad_gt : AdOp K (rI0 fun i j => .bl (decide (j < i))) gGt := ad_rI fun _ _ _ _ => .bl _
theorem ad_ge : AdOp K (rI0 fun i j => .bl (decide (j ≤ i))) gGe := ad_rI fun _ _ _ _ => .bl _
/-- +: ints, lists, tuples, texts -/
def gAddI : GOp := gI fun i j => .int (i + j)
theorem ad_addI : AdOp K (rI0 fun i j => .int (i + j)) gAddI := ad_rI fun _ _ _ _ => .int _
def gCat : GOp := fun x y μ => match asL μ x, asL μ y with
  | some l, some r => if l.length + r.length ≤ sizeLine then .ok (.lst (l ++ r)) μ else .no
  | _, _ => .no
theorem ad_cat : AdOp K rCat gCat := by
  intro x y wx wy E Q H θ F μ S rx ry ok
  unfold gCat at ok
  split at ok
  · rename_i l r e1 e2
    split at ok
    · rename_i hl
      obtain ⟨a, vs, rfl, h1, q1⟩ := asL_rep S rx e1
      obtain ⟨b, us, rfl, h2, q2⟩ := asL_rep S ry e2
      refine ⟨a, b, vs, us, rfl, rfl, h1, h2, by rw [q1.length, q2.length]; exact hl, fun p hp => ?_⟩
      obtain ⟨S1, x1⟩ := S.froze (.lst (vs ++ us)) hp
      exact ok _ _ _ _ x1 S1 (.lst upd_same ((q1.append q2).mono x1.pre x1.sub))
    · exact ok.elim
  · exact ok.elim
def gCatT : GOp := fun x y μ => match x, y with
  | .tup l, .tup r => if l.length + r.length ≤ sizeLine then .ok (.tup (l ++ r)) μ else .no
  | _, _ => .no
theorem ad_catT : AdOp K (rCatA K) gCatT := by
  intro x y wx wy E Q H θ F μ S rx ry ok
  unfold gCatT at ok
  split at ok
  · rename_i l r
    split at ok
    · rename_i hl
      cases rx with
      | @tup a vs _ h1 q1 =>
        cases ry with
        | @tup b us _ h2 q2 =>
          refine ⟨a, b, vs, us, rfl, rfl, S.sub.sqT h1, S.sub.sqT h2, by rw [q1.length, q2.length]; exact hl, fun z => ?_, fun z1 z2 => ?_, fun _ _ p hp => ?_⟩
          · subst z
            cases q1
            exact ok.here S (.tup h2 q2)
          · subst z2
            cases q2
            rw [List.append_nil] at ok
            exact ok.here S (.tup h1 q1)
          · obtain ⟨S1, x1⟩ := S.froze (.tup (vs ++ us)) hp
            exact ok _ _ _ _ x1 S1 (.tup (.of upd_same) ((q1.append q2).mono x1.pre x1.sub))
    · exact ok.elim
  · exact ok.elim
def gCatS : GOp := fun x y μ => match x, y with
  | .str l, .str r => if l.length + r.length ≤ sizeLine then .ok (.str (l ++ r)) μ else .no
  | _, _ => .no
theorem ad_catS : AdOp K (fun x y H Q => ∃ i j, x = .str i ∧ y = .str j ∧ i.length + j.length ≤ sizeLine ∧ Q (.str (i ++ j)) H) gCatS := by
  intro x y wx wy E Q H θ F μ S rx ry ok
  unfold gCatS at ok
  split at ok
  · split at ok
    · rename_i hl
      cases rx; cases ry
      exact ⟨_, _, rfl, rfl, hl, ok.here S (.str _)⟩
    · exact ok.elim
  · exact ok.elim
def gAdd : GOp := orG gAddI (orG gCat (orG gCatT gCatS))
def rAddA (K : PySem.W.Frag) : R2 := fun x y H Q => (∃ i j, x = .int i ∧ y = .int j ∧ Q (.int (i + j)) H) ∨ (rCat x y H Q ∨ (rCatA K x y H Q ∨ ∃ i j, x = .str i ∧ y = .str j ∧ i.length + j.length ≤ sizeLine ∧ Q (.str (i ++ j)) H))
theorem ad_add : AdOp K (rAddA K) gAdd := ad_addI.or (ad_cat.or (ad_catT.or ad_catS))
theorem opd_add {X : Cx} : OpR X (binaryOp .Add) (rAddA X.K) := op_add.or (op_cat.or (op_catA.or op_add_str))
/-- *: ints, a list again and again -/
def gRep : GOp := fun x y μ => match asL μ x, y with
  | some l, .int k => if -(2 ^ 63) ≤ k ∧ k < 2 ^ 63 ∧ l.length * k.toNat ≤ sizeLine then .ok (.lst (List.replicate k.toNat l).flatten) μ else .no
  | _, _ => .no
end

section
variable {K : PySem.W.Frag}
theorem ad_rep : AdOp K rRep gRep := by
  intro x y wx wy E Q H θ F μ S rx ry ok
  unfold gRep at ok
  split at ok
  · rename_i l k e1
    split at ok
    · rename_i hc
      cases ry
      obtain ⟨a, vs, rfl, h1, q1⟩ := asL_rep S rx e1
      refine ⟨a, k, vs, rfl, rfl, h1, hc.1, hc.2.1, by rw [q1.length]; exact hc.2.2, fun p hp => ?_⟩
      obtain ⟨S1, x1⟩ := S.froze (.lst (List.replicate k.toNat vs).flatten) hp
      exact ok _ _ _ _ x1 S1 (.lst upd_same ((q1.rep _).mono x1.pre x1.sub))
    · exact ok.elim
  · exact ok.elim
def gMul : GOp := orG gMulI gRep
theorem ad_mul : AdOp K (fun x y H Q => (rI CMul fun i j => V.int (i * j)) x y H Q ∨ rRep x y H Q) gMul := ad_mulI.or ad_rep
theorem opd_mul {X : Cx} : OpR X (binaryOp .Mult) (fun x y H Q => (rI CMul fun i j => V.int (i * j)) x y H Q ∨ rRep x y H Q) := op_mul.or op_rep
/-- == and != of data -/
def gEq : GOp := fun x y μ => match topD μ x, topD μ y with
  | some d, some e => if SeqAt.shaped d = true ∧ SeqAt.shaped e = true then .ok (.bl (PyData.eqv d e)) μ else .no
  | _, _ => .no
def gNe : GOp := fun x y μ => match topD μ x, topD μ y with
  | some d, some e => if SeqAt.shaped d = true ∧ SeqAt.shaped e = true then .ok (.bl (!PyData.eqv d e)) μ else .no
  | _, _ => .no
theorem ad_eq : AdOp K (rEqD K) gEq := by
  intro x y wx wy E Q H θ F μ S rx ry ok
  unfold gEq at ok
  split at ok
  · split at ok
    · rename_i d e h1 h2 h3
      exact ⟨d, e, topD_rep S rx h1, topD_rep S ry h2, h3.1, h3.2, ok.here S (.bl _)⟩
    · exact ok.elim
  · exact ok.elim
theorem ad_ne : AdOp K (rNeD K) gNe := by
  intro x y wx wy E Q H θ F μ S rx ry ok
  unfold gNe at ok
  split at ok
  · split at ok
    · rename_i d e h1 h2 h3
      exact ⟨d, e, topD_rep S rx h1, topD_rep S ry h2, h3.1, h3.2, ok.here S (.bl _)⟩
    · exact ok.elim
  · exact ok.elim
/-- is None, is not None -/
def isNon : W → Bool
  | .non => true
  | _ => false
theorem rep_non {θ : List Addr} {F : Hp} {v : V} {w : W} (r : Rep K θ F v w) : decide (v = .non) = isNon w := by
  cases r <;> rfl
def gIsN : GOp := fun x y μ => match y with
  | .non => .ok (.bl (isNon x)) μ
  | _ => .no
def gNotN : GOp := fun x y μ => match y with
  | .non => .ok (.bl (!isNon x)) μ
  | _ => .no
theorem ad_isN : AdOp K (fun x y H Q => y = .non ∧ Q (.bl (decide (x = .non))) H) gIsN := by
  intro x y wx wy E Q H θ F μ S rx ry ok
  unfold gIsN at ok
  split at ok
  · cases ry
    rw [rep_non rx]
    exact ⟨rfl, ok.here S (.bl _)⟩
  · exact ok.elim
theorem ad_notN : AdOp K (fun x y H Q => y = .non ∧ Q (.bl (!decide (x = .non))) H) gNotN := by
  intro x y wx wy E Q H θ F μ S rx ry ok
  unfold gNotN at ok
  split at ok
  · cases ry
    rw [rep_non rx]
    exact ⟨rfl, ok.here S (.bl _)⟩
  · exact ok.elim
/-- x in t, x not in t: flat things -/
def flatW : W → Bool
  | .non => true | .bl _ => true | .int _ => true | .str _ => true | _ => false
def eqW : W → W → Bool
  | .non, .non => true
  | .bl a, .bl b => a == b
  | .int a, .int b => a == b
  | .bl a, .int b => (if a then 1 else 0) == b
  | .int a, .bl b => a == (if b then 1 else 0)
  | .str a, .str b => a == b
  | _, _ => false
end

section
variable {K : PySem.W.Frag}
theorem rep_flat {θ : List Addr} {F : Hp} {v : V} {w : W} (r : Rep K θ F v w) (h : flatW w = true) : flatV v = true := by
  cases r <;> first | rfl | cases h
theorem rep_eqW {θ θ' : List Addr} {F F' : Hp} {v u : V} {w z : W} (r : Rep K θ F v w) (q : Rep K θ' F' u z) (h : flatW w = true) (h' : flatW z = true) : eqV v u = eqW w z := by
  cases r <;> cases q <;> first | rfl | cases h | cases h'
theorem repAll_flat {θ : List Addr} {F : Hp} : ∀ {vs : List V} {ws : List W}, RepAll K θ F vs ws → ws.all flatW = true → vs.all flatV = true
  | _, _, .nil, _ => rfl
  | _, _, .cons r t, h => by
    rw [List.all_cons, Bool.and_eq_true] at h ⊢
    exact ⟨rep_flat r h.1, repAll_flat t h.2⟩
theorem repAll_in {θ θ' : List Addr} {F F' : Hp} {v : V} {w : W} (r : Rep K θ' F' v w) (hw : flatW w = true) : ∀ {vs : List V} {ws : List W}, RepAll K θ F vs ws → ws.all flatW = true → inV v vs = ws.any fun z => eqW z w
  | _, _, .nil, _ => rfl
  | _, _, .cons q t, h => by
    rw [List.all_cons, Bool.and_eq_true] at h
    have ih := repAll_in r hw t h.2
    unfold inV at ih ⊢
    rw [List.any_cons, List.any_cons, ih, rep_eqW q r h.1 hw]
def gInF (neg : Bool) : GOp := fun x y μ => match asQ μ y with
  | some l => if flatW x = true ∧ l.all flatW = true then .ok (.bl (if neg = true then !(l.any fun z => eqW z x) else l.any fun z => eqW z x)) μ else .no
  | _ => .no
theorem ad_inF (neg : Bool) : AdOp K (rIn K neg) (gInF neg) := by
  intro x y wx wy E Q H θ F μ S rx ry ok
  unfold gInF at ok
  split at ok
  · split at ok
    · rename_i l h1 h2
      obtain ⟨a, vs, rfl, h3, q⟩ := asQ_rep S ry h1
      refine ⟨a, vs, rfl, h3, rep_flat rx h2.1, repAll_flat q h2.2, ?_⟩
      rw [repAll_in rx h2.1 q h2.2]
      exact ok.here S (.bl _)
    · exact ok.elim
  · exact ok.elim
def gInD (neg : Bool) : GOp := fun x y μ => match topD μ x, topD μ y with
  | some d, some (.list ds) => if SeqAt.shaped d = true ∧ SeqAt.shaped (.list ds) = true then .ok (.bl (if neg = true then !(ds.any fun z => PyData.eqv z d) else ds.any fun z => PyData.eqv z d)) μ else .no
  | _, _ => .no
theorem ad_inD : AdOp K (rInD K) (gInD false) := by
  intro x y wx wy E Q H θ F μ S rx ry ok
  unfold gInD at ok
  split at ok
  · split at ok
    · rename_i d ds h1 h2 h3
      exact ⟨d, ds, topD_rep S rx h1, topD_rep S ry h2, h3.1, h3.2, ok.here S (.bl _)⟩
    · exact ok.elim
  · exact ok.elim
theorem ad_notInD : AdOp K (rNotInD K) (gInD true) := by
  intro x y wx wy E Q H θ F μ S rx ry ok
  unfold gInD at ok
  split at ok
  · split at ok
    · rename_i d ds h1 h2 h3
      exact ⟨d, ds, topD_rep S rx h1, topD_rep S ry h2, h3.1, h3.2, ok.here S (.bl _)⟩
    · exact ok.elim
  · exact ok.elim
def gIn : GOp := orG (gInF false) (gInD false)
def gNotIn : GOp := orG (gInF true) (gInD true)
theorem ad_in : AdOp K (fun x y H Q => rIn K false x y H Q ∨ rInD K x y H Q) gIn := AdOp.or (ad_inF false) ad_inD
theorem ad_notIn : AdOp K (fun x y H Q => rIn K true x y H Q ∨ rNotInD K x y H Q) gNotIn := AdOp.or (ad_inF true) ad_notInD
theorem opd_in {X : Cx} (hu : X.A.units + 65 < cLine) : OpR X (compareOp .In) (fun x y H Q => rIn X.K false x y H Q ∨ rInD X.K x y H Q) := op_in_seq.or (op_inD hu)
theorem opd_notIn {X : Cx} (hu : X.A.units + 65 < cLine) : OpR X (compareOp .NotIn) (fun x y H Q => rIn X.K true x y H Q ∨ rNotInD X.K x y H Q) := op_notIn_seq.or (op_notInD hu)
theorem room65 {k : Nat} {A : Around} (r : Room k A) : A.units + 65 < cLine := by have := r.un; omega
theorem room64 {k : Nat} {A : Around} (r : Room k A) : A.units + 64 < cLine := by have := r.un; omega

/-! ### truth -/
def truW (μ : Mu) : W → Option Bool
  | .non => some false
  | .bl b => some b
  | .int i => some (i != 0)
  | .str y => if y.length ≤ sizeLine then some ((y.length : Int) != 0) else none
  | w => (asQ μ w).map fun l => !l.isEmpty
theorem isEmpty_rep {θ : List Addr} {F : Hp} {vs : List V} {ws : List W} (q : RepAll K θ F vs ws) : vs.isEmpty = ws.isEmpty := by cases q <;> rfl
theorem truW_rep {θ : List Addr} {F H : Hp} {μ : Mu} (S : Sim K θ F H μ) {v : V} {w : W} {k : Bool} (r : Rep K θ F v w) (h : truW μ w = some k) : TruV K v H k := by
  have seq : ∀ {w : W} {v : V}, Rep K θ F v w → (asQ μ w).map (fun l => !l.isEmpty) = some k → TruV K v H k := fun {w v} r h => by
    simp only [Option.map_eq_some_iff] at h
    obtain ⟨l, h1, h2⟩ := h
    obtain ⟨a, vs, rfl, h3, q⟩ := asQ_rep S r h1
    rcases h3 with h3 | h3
    · exact .inl ⟨vs, h3, by rw [isEmpty_rep q]; exact h2.symm⟩
    · exact .inr (.inl ⟨vs, h3, by rw [isEmpty_rep q]; exact h2.symm⟩)
  cases r with
  | non => exact (Option.some.inj h).symm
  | bl b => exact (Option.some.inj h).symm
  | int i => exact (Option.some.inj h).symm
  | str y =>
    unfold truW at h
    simp only at h
    split at h
    · rename_i hl
      exact ⟨hl, (Option.some.inj h).symm⟩
    · cases h
  | ty n => cases h
  | ref a => cases h
  | loc e => exact seq (.loc e) h
  | tup e q => exact seq (.tup e q) h
  | lst e q => exact seq (.lst e q) h
  | scr e q => exact seq (.scr e q) h
def eTru (m : EM) : BM := fun ρ μ => (m ρ μ).bind fun w μ1 => match truW μ1 w with
  | some k => .ok k μ1
  | none => .no
end
section
variable {X : Cx} {Wx : WX} {pos : Pos} {a b c : Expr} {es : List Expr} {ta tb tc : TE} {ma mb mc : EM} {t : TA}
theorem ptd_truth {e : Expr} {t : TE} {m : EM} (h : PED X Wx e t m) (he : ∀ whole, isTrue e X.env whole = (do let v ← whole; standAt e.pos; holding [v] (truthy v)) := by intro _; rfl) :
    PTD X Wx e (fun σ H Q => t σ H fun x H1 => ∃ k, TruV X.K x H1 k ∧ Q k H1) (eTru m) := by
  refine ⟨pt_truth h.pe he, fun σ H Q θ F ρ μ S E ok => ?_⟩
  refine h.ad.use S E ok fun θ1 F1 H1 μ1 v w x S1 E1 r1 ok1 => ?_
  split at ok1
  · rename_i k hk
    exact ⟨k, truW_rep S1 r1 hk, Out.Ok.here ok1 S1 rfl⟩
  · exact ok1.elim

/-! ### arguments, displays -/
abbrev AM := Env → Mu → Out (List W)
def aNil : AM := fun _ μ => .ok [] μ
def aCons (a : EM) (r : AM) : AM := fun ρ μ => (a ρ μ).bind fun x μ1 => (r ρ μ1).bind fun xs μ2 => .ok (x :: xs) μ2
theorem pad_nil : PAD X Wx [] tNil aNil := ⟨pa_nil, fun σ H Q θ F ρ μ S E ok => ok.here S .nil⟩
theorem ad_acons {K : PySem.W.Frag} {m : EM} {r : AM} {te : TE} (ha : Ad K Wx (Rep K) te m) (hr : Ad K Wx (RepAll K) t r) : Ad K Wx (RepAll K) (tCons te t) (aCons m r) := by
  intro σ H Q θ F ρ μ S E ok
  refine ha.use S E ok fun θ1 F1 H1 μ1 v w x1 S1 E1 r1 ok1 => ?_
  refine hr.use S1 E1 ok1 fun θ2 F2 H2 μ2 vs ws x2 S2 E2 r2 ok2 => ?_
  exact Out.Ok.here ok2 S2 (.cons (r1.mono x2.pre x2.sub) r2)
theorem pad_cons {e : Expr} {m : EM} {r : AM} {te : TE} (ha : PED X Wx e te m) (hr : PAD X Wx es t r) (hs : starEach (e :: es) X.env = (false, eval e X.env) :: starEach es X.env := by rfl) : PAD X Wx (e :: es) (tCons te t) (aCons m r) :=
  ⟨pa_cons ha.pe hr.pa hs, ad_acons ha.ad hr.ad⟩
def eTup (m : AM) : EM := fun ρ μ => (m ρ μ).bind fun ws μ1 => if ws.length ≤ sizeLine then .ok (.tup ws) μ1 else .no
def eLst (m : AM) : EM := fun ρ μ => (m ρ μ).bind fun ws μ1 => if ws.length ≤ sizeLine then .ok (.lst ws) μ1 else .no
/-- a list that will be changed -/
def eNew (m : AM) : EM := fun ρ μ => (m ρ μ).bind fun ws μ1 => if ws.length ≤ sizeLine then .ok (.loc μ1.length) (μ1 ++ [.lst ws]) else .no
theorem ped_tup {m : AM} {x1 : Nat} (h : PAD X Wx es t m) : PED X Wx (.Tuple es x1 pos) (tTup t) (eTup m) := by
  refine ⟨pe_tup h.pa, fun σ H Q θ F ρ μ S E ok => ?_⟩
  refine h.ad.use S E ok fun θ1 F1 H1 μ1 vs ws x S1 E1 r1 ok1 => ?_
  split at ok1
  · rename_i hl
    refine ⟨by rw [r1.length]; exact hl, fun p hp => ?_⟩
    obtain ⟨S2, x2⟩ := S1.froze (.tup vs) hp
    exact ok1 _ _ _ _ x2 S2 (.tup (.of upd_same) (r1.mono x2.pre x2.sub))
  · exact ok1.elim
theorem ped_lst {m : AM} (h : PAD X Wx es t m) : PED X Wx (.List es pos) (tLst t) (eLst m) := by
  refine ⟨pe_lst h.pa, fun σ H Q θ F ρ μ S E ok => ?_⟩
  refine h.ad.use S E ok fun θ1 F1 H1 μ1 vs ws x S1 E1 r1 ok1 => ?_
  split at ok1
  · rename_i hl
    refine ⟨by rw [r1.length]; exact hl, fun p hp => ?_⟩
    obtain ⟨S2, x2⟩ := S1.froze (.lst vs) hp
    exact ok1 _ _ _ _ x2 S2 (.lst upd_same (r1.mono x2.pre x2.sub))
  · exact ok1.elim
theorem new_cell {K : PySem.W.Frag} {θ : List Addr} {F H : Hp} {μ : Mu} (S : Sim K θ F H μ) {vs : List V} {ws : List W} (q : RepAll K θ F vs ws) {p : Addr} (hp : H p = none) :
    Sim K (θ ++ [p]) F (upd H p (.lst vs)) (μ ++ [.lst ws]) ∧ Ext θ F H (θ ++ [p]) F (upd H p (.lst vs)) ∧ Rep K (θ ++ [p]) F (.ref p) (.loc μ.length) := by
  obtain ⟨S2, x2⟩ := S.alloc (p := p) (o := .lst vs) (c := .lst ws) hp ⟨S.outF hp, vs, upd_same, q.mono (pre_app θ p) (.refl F)⟩
  exact ⟨S2, x2, .loc (by rw [← S.len, List.getElem?_append_right (Nat.le_refl _)]; simp)⟩
theorem ped_new {m : AM} (h : PAD X Wx es t m) : PED X Wx (.List es pos) (tLst t) (eNew m) := by
  refine ⟨pe_lst h.pa, fun σ H Q θ F ρ μ S E ok => ?_⟩
  refine h.ad.use S E ok fun θ1 F1 H1 μ1 vs ws x S1 E1 r1 ok1 => ?_
  split at ok1
  · rename_i hl
    refine ⟨by rw [r1.length]; exact hl, fun p hp => ?_⟩
    obtain ⟨S2, x2, r2⟩ := new_cell S1 r1 hp
    exact ok1 _ _ _ _ x2 S2 r2
  · exact ok1.elim
end

/-! ### subscripts, slices -/
theorem atI_rep {K : PySem.W.Frag} {θ : List Addr} {F : Hp} {vs : List V} {ws : List W} (q : RepAll K θ F vs ws) {i : Int} {w : W} (h : atI ws i = some w) : ∃ v, atI vs i = some v ∧ Rep K θ F v w := by
  unfold atI at h ⊢
  rw [q.length]
  cases e : ixN ws.length i with
  | none => rw [e] at h; cases h
  | some j =>
    rw [e, Option.bind_some] at h
    obtain ⟨v, e1, r⟩ := q.get h
    exact ⟨v, by rw [Option.bind_some]; exact e1, r⟩
def gIxQ : GOp := fun x y μ => match asQ μ x, y with
  | some l, .int i => match atI l i with
    | some w => .ok w μ
    | none => .no
  | _, _ => .no
def gIxS : GOp := fun x y μ => match x, y with
  | .str z, .int i => if z.length ≤ sizeLine then match atI z.cps.toList i with
    | some c => .ok (.str ⟨#[c]⟩) μ
    | none => .no else .no
  | _, _ => .no
section
variable {K : PySem.W.Frag}
theorem ad_ixQ : AdOp K (fun x y H Q => rIxL K x y H Q ∨ rIxT K x y H Q) gIxQ := by
  intro x y wx wy E Q H θ F μ S rx ry ok
  unfold gIxQ at ok
  split at ok
  · rename_i l i h1
    split at ok
    · rename_i w h2
      cases ry
      obtain ⟨a, vs, rfl, h3, q⟩ := asQ_rep S rx h1
      obtain ⟨v, h4, r4⟩ := atI_rep q h2
      rcases h3 with h3 | h3
      · exact .inl ⟨a, vs, i, v, rfl, rfl, h3, h4, ok.here S r4⟩
      · exact .inr ⟨a, vs, i, v, rfl, rfl, h3, h4, ok.here S r4⟩
    · exact ok.elim
  · exact ok.elim
theorem ad_ixS : AdOp K rIxS gIxS := by
  intro x y wx wy E Q H θ F μ S rx ry ok
  unfold gIxS at ok
  split at ok
  · split at ok
    · rename_i hz
      split at ok
      · rename_i c hc
        cases rx; cases ry
        exact ⟨_, _, c, rfl, rfl, hz, hc, ok.here S (.str _)⟩
      · exact ok.elim
    · exact ok.elim
  · exact ok.elim
def gIx : GOp := orG gIxQ gIxS
theorem ad_ix : AdOp K (fun x y H Q => (rIxL K x y H Q ∨ rIxT K x y H Q) ∨ rIxS x y H Q) gIx := AdOp.or ad_ixQ ad_ixS
end
theorem ixd {X : Cx} : IxR X (fun x y H Q => (rIxL X.K x y H Q ∨ rIxT X.K x y H Q) ∨ rIxS x y H Q) := (ix_list.or ix_tup).or ix_str
section
variable {X : Cx} {Wx : WX} {pos p2 : Pos} {a b : Expr} {ta tb : TE} {ma mb : EM}
theorem ped_ix (ha : PED X Wx a ta ma) (hb : PED X Wx b tb mb) (hs : PlainIx b := by exact fun _ _ => rfl) : PED X Wx (.Subscript a b pos) (tOp (fun x y H Q => (rIxL X.K x y H Q ∨ rIxT X.K x y H Q) ∨ rIxS x y H Q) ta tb) (eBin gIx ma mb) :=
  ⟨pe_ix ixd ha.pe hb.pe hs, ad_bin ad_ix ha.ad hb.ad⟩
end
/-- a part of a slice -/
abbrev OM := Env → Mu → Out (Option Int)
def oNone : OM := fun _ μ => .ok none μ
def oSome (m : EM) : OM := fun ρ μ => (m ρ μ).bind fun w μ1 => match w with
  | .int i => .ok (some i) μ1
  | _ => .no
structure POD (X : Cx) (Wx : WX) (e : Option Expr) (t : TO) (m : OM) : Prop where
  po : PO X e t
  ad : Ad X.K Wx REq t m
theorem pod_none {X : Cx} {Wx : WX} : POD X Wx none tNoPart oNone := ⟨po_none, fun σ H Q θ F ρ μ S E ok => Out.Ok.here ok S rfl⟩
theorem pod_some {X : Cx} {Wx : WX} {e : Expr} {t : TE} {m : EM} (h : PED X Wx e t m) : POD X Wx (some e) (tPart t) (oSome m) := by
  refine ⟨po_some h.pe, fun σ H Q θ F ρ μ S E ok => ?_⟩
  refine h.ad.use S E ok fun θ1 F1 H1 μ1 v w x S1 E1 r1 ok1 => ?_
  split at ok1
  · cases r1
    exact ⟨_, rfl, Out.Ok.here ok1 S1 rfl⟩
  · exact ok1.elim
def cutW (ws : List W) (lo hi : Option Int) : List W := (ws.drop (HT.sIx ws.length 0 lo)).take (HT.sIx ws.length ws.length hi - HT.sIx ws.length 0 lo)
theorem cut_rep {K : PySem.W.Frag} {θ : List Addr} {F : Hp} {vs : List V} {ws : List W} (q : RepAll K θ F vs ws) (lo hi : Option Int) : RepAll K θ F (cutV vs lo hi) (cutW ws lo hi) := by
  unfold cutV cutW
  rw [q.length]
  exact (q.drop _).take _
def gCut : W → Option Int → Option Int → Mu → Out W := fun x lo hi μ => match x with
  | .tup l => .ok (.tup (cutW l lo hi)) μ
  | .scr l => .ok (.lst (cutW l lo hi)) μ
  | w => match asL μ w with
    | some l => .ok (.lst (cutW l lo hi)) μ
    | none => .no
def eCut (a : EM) (lo hi : OM) : EM := fun ρ μ => (a ρ μ).bind fun x μ1 => (lo ρ μ1).bind fun l μ2 => (hi ρ μ2).bind fun u μ3 => gCut x l u μ3
theorem cut_whole (ws : List W) (lo hi : Option Int) (h : HT.sIx ws.length 0 lo = 0 ∧ HT.sIx ws.length ws.length hi = ws.length) : cutW ws lo hi = ws := by
  unfold cutW
  rw [h.1, h.2, List.drop_zero, Nat.sub_zero, List.take_length]
theorem ad_cut {K : PySem.W.Frag} {x : V} {w : W} {lo hi : Option Int} {E : Addr → Hp → Prop} {Q : VK} {H : Hp} {θ : List Addr} {F : Hp} {μ : Mu} (S : Sim K θ F H μ) (r : Rep K θ F x w) (ok : (gCut w lo hi μ).Ok K (Rep K) θ F H E Q) : rSlL K x lo hi H Q ∨ rSlA K x lo hi H Q := by
  have lst : ∀ {a vs l}, x = .ref a → SqL K H a vs → RepAll K θ F vs l → Out.Ok K (Rep K) θ F H E Q (.ok (.lst (cutW l lo hi)) μ) → rSlL K x lo hi H Q := fun {a vs l} e h q ok => by
    subst e
    refine ⟨a, vs, rfl, h, fun p hp => ?_⟩
    obtain ⟨S1, x1⟩ := S.froze (.lst (cutV vs lo hi)) hp
    exact ok _ _ _ _ x1 S1 (.lst upd_same ((cut_rep q lo hi).mono x1.pre x1.sub))
  unfold gCut at ok
  split at ok
  · rename_i l
    cases r with
    | @tup a vs _ h q =>
      refine .inr ⟨a, vs, rfl, S.sub.sqT h, fun z => ?_, fun _ p hp => ?_⟩
      · rw [q.length] at z
        rw [cut_whole l lo hi z] at ok
        exact ok.here S (.tup h q)
      · obtain ⟨S1, x1⟩ := S.froze (.tup (cutV vs lo hi)) hp
        exact ok _ _ _ _ x1 S1 (.tup (.of upd_same) ((cut_rep q lo hi).mono x1.pre x1.sub))
  · rename_i l
    cases r with
    | scr h q => exact .inl (lst rfl (S.sub.sqL h) q ok)
  · split at ok
    · rename_i l h
      obtain ⟨a, vs, rfl, h1, q⟩ := asL_rep S r h
      exact .inl (lst rfl (.of h1) q ok)
    · exact ok.elim
theorem ped_cut {X : Cx} {Wx : WX} {pos p2 : Pos} {a : Expr} {lo hi : Option Expr} {ta : TE} {tl th : TO} {ma : EM} {ml mh : OM} (ha : PED X Wx a ta ma) (hl : POD X Wx lo tl ml) (hh : POD X Wx hi th mh) :
    PED X Wx (.Subscript a (.Slice lo hi none p2) pos) (tSl (fun x lo hi H Q => rSlL X.K x lo hi H Q ∨ rSlA X.K x lo hi H Q) ta tl th) (eCut ma ml mh) := by
  refine ⟨pe_slice (sl_list.or sl_tupA) ha.pe hl.po hh.po, fun σ H Q θ F ρ μ S E ok => ?_⟩
  refine ha.ad.use S E ok fun θ1 F1 H1 μ1 v w x1 S1 E1 r1 ok1 => ?_
  refine hl.ad.use S1 E1 ok1 fun θ2 F2 H2 μ2 l lw x2 S2 E2 r2 ok2 => ?_
  have r2 : l = lw := r2
  subst r2
  refine hh.ad.use S2 E2 ok2 fun θ3 F3 H3 μ3 u uw x3 S3 E3 r3 ok3 => ?_
  have r3 : u = uw := r3
  subst r3
  exact ad_cut S3 (r1.mono (x2.trans x3).pre (x2.trans x3).sub) ok3

/-! ### calls of built-ins, by values -/
abbrev GC := List W → Mu → Out W
def AdC (K : PySem.W.Frag) (r : List V → Hp → VK → Prop) (g : GC) : Prop := ∀ {vs : List V} {ws : List W} {E : Addr → Hp → Prop} {Q : VK} {H : Hp} {θ : List Addr} {F : Hp} {μ : Mu}, Sim K θ F H μ → RepAll K θ F vs ws → (g ws μ).Ok K (Rep K) θ F H E Q → r vs H Q
def orC (g g' : GC) : GC := fun ws μ => (g ws μ).els (g' ws μ)
theorem AdC.or {K : PySem.W.Frag} {r r' : List V → Hp → VK → Prop} {g g' : GC} (h : AdC K r g) (h' : AdC K r' g') : AdC K (fun xs H Q => r xs H Q ∨ r' xs H Q) (orC g g') := by
  intro vs ws E Q H θ F μ S rs ok
  unfold orC at ok
  cases e : g ws μ with
  | ok w μ1 => rw [e] at ok; exact .inl (h S rs (by rw [e]; exact ok))
  | er c μ1 => rw [e] at ok; exact .inl (h S rs (by rw [e]; exact ok))
  | no => rw [e] at ok; exact .inr (h' S rs ok)
def eCall (g : GC) (m : AM) : EM := fun ρ μ => (m ρ μ).bind g
theorem ad_call {K : PySem.W.Frag} {Wx : WX} {t : TA} {m : AM} {r : List V → Hp → VK → Prop} {g : GC} (hg : AdC K r g) (h : Ad K Wx (RepAll K) t m) : Ad K Wx (Rep K) (tCB r t) (eCall g m) := by
  intro σ H Q θ F ρ μ S E ok
  refine h.use S E ok fun θ1 F1 H1 μ1 v w x1 S1 E1 r1 ok1 => ?_
  exact hg S1 r1 ok1
section
variable {X : Cx} {Wx : WX} {pos p : Pos} {e : Expr} {es : List Expr} {t : TA} {m : AM} {x : Str} {id T : String} {r : List V → Hp → VK → Prop} {g : GC}
theorem ped_callB (hc : CallR X (.builtin id) r) (hG : AdC X.K r g) (hg : Gl X x) (hm : X.mg x = none) (hv : bootBuiltins x = some (.builtin id)) (ha : PAD X Wx (e :: es) t m) (hn : x ≠ "__name__" := by decide) (hdb : (x == ("__debug__" : Str)) = false := by decide)
    (he : starEach (e :: es) X.env = (false, eval e X.env) :: starEach es X.env := by rfl) (hpl : (backTo pos (starEach es X.env)).any (·.1) = false := by rfl) : PED X Wx (.Call (.Name x p) (e :: es) [] pos) (tCB r t) (eCall g m) :=
  ⟨pe_callB hc hg hm hv ha.pa hn hdb he hpl, ad_call hG ha.ad⟩
theorem ped_callTy (hc : CallR X (.type T) r) (hG : AdC X.K r g) (hg : Gl X x) (hm : X.mg x = none) (hv : bootBuiltins x = some (.type T)) (ha : PAD X Wx (e :: es) t m) (hn : x ≠ "__name__" := by decide) (hdb : (x == ("__debug__" : Str)) = false := by decide)
    (he : starEach (e :: es) X.env = (false, eval e X.env) :: starEach es X.env := by rfl) (hpl : (backTo pos (starEach es X.env)).any (·.1) = false := by rfl) : PED X Wx (.Call (.Name x p) (e :: es) [] pos) (tCB r t) (eCall g m) :=
  ⟨pe_callTy hc hg hm hv ha.pa hn hdb he hpl, ad_call hG ha.ad⟩
end
section
variable {K : PySem.W.Frag}
theorem rep1 {θ : List Addr} {F : Hp} {vs : List V} {w : W} (q : RepAll K θ F vs [w]) : ∃ v, vs = [v] ∧ Rep K θ F v w := by
  cases q with
  | cons r t => cases t; exact ⟨_, rfl, r⟩
theorem rep2 {θ : List Addr} {F : Hp} {vs : List V} {w z : W} (q : RepAll K θ F vs [w, z]) : ∃ v u, vs = [v, u] ∧ Rep K θ F v w ∧ Rep K θ F u z := by
  cases q with
  | cons r t =>
    obtain ⟨u, rfl, r2⟩ := rep1 t
    exact ⟨_, _, rfl, r, r2⟩
def cAbs : GC := fun ws μ => match ws with
  | [.int i] => .ok (.int (if i < 0 then -i else i)) μ
  | _ => .no
theorem adc_abs : AdC K (fun xs H Q => ∃ i, xs = [.int i] ∧ Q (.int (if i < 0 then -i else i)) H) cAbs := by
  intro vs ws E Q H θ F μ S rs ok
  unfold cAbs at ok
  split at ok
  · obtain ⟨v, rfl, r⟩ := rep1 rs
    cases r
    exact ⟨_, rfl, ok.here S (.int _)⟩
  · exact ok.elim
def cInt : GC := fun ws μ => match ws with
  | [.int i] => .ok (.int i) μ
  | [.bl k] => .ok (.int (if k then 1 else 0)) μ
  | _ => .no
theorem adc_int : AdC K (fun xs H Q => (∃ i, xs = [.int i] ∧ Q (.int i) H) ∨ ∃ k, xs = [.bl k] ∧ Q (.int (if k then 1 else 0)) H) cInt := by
  intro vs ws E Q H θ F μ S rs ok
  unfold cInt at ok
  split at ok
  · obtain ⟨v, rfl, r⟩ := rep1 rs
    cases r
    exact .inl ⟨_, rfl, ok.here S (.int _)⟩
  · obtain ⟨v, rfl, r⟩ := rep1 rs
    cases r
    exact .inr ⟨_, rfl, ok.here S (.int _)⟩
  · exact ok.elim
def cLenQ : GC := fun ws μ => match ws with
  | [w] => match asQ μ w with
    | some l => .ok (.int l.length) μ
    | none => .no
  | _ => .no
def cLenS : GC := fun ws μ => match ws with
  | [.str z] => if z.length ≤ sizeLine then .ok (.int z.length) μ else .no
  | _ => .no
theorem adc_lenQ : AdC K (fun xs H Q => ∃ p ys, xs = [.ref p] ∧ (SqL K H p ys ∨ SqT K H p ys) ∧ Q (.int ys.length) H) cLenQ := by
  intro vs ws E Q H θ F μ S rs ok
  unfold cLenQ at ok
  split at ok
  · split at ok
    · rename_i l h
      obtain ⟨v, rfl, r⟩ := rep1 rs
      obtain ⟨a, us, rfl, h1, q⟩ := asQ_rep S r h
      refine ⟨a, us, rfl, h1, ?_⟩
      rw [q.length]
      exact ok.here S (.int _)
    · exact ok.elim
  · exact ok.elim
theorem adc_lenS : AdC K (fun xs H Q => ∃ z, xs = [.str z] ∧ z.length ≤ sizeLine ∧ Q (.int z.length) H) cLenS := by
  intro vs ws E Q H θ F μ S rs ok
  unfold cLenS at ok
  split at ok
  · split at ok
    · rename_i h
      obtain ⟨v, rfl, r⟩ := rep1 rs
      cases r
      exact ⟨_, rfl, h, ok.here S (.int _)⟩
    · exact ok.elim
  · exact ok.elim
def cLen : GC := orC cLenQ cLenS
theorem adc_len : AdC K (fun xs H Q => (∃ p ys, xs = [.ref p] ∧ (SqL K H p ys ∨ SqT K H p ys) ∧ Q (.int ys.length) H) ∨ ∃ z, xs = [.str z] ∧ z.length ≤ sizeLine ∧ Q (.int z.length) H) cLen := AdC.or adc_lenQ adc_lenS
theorem cr_len {X : Cx} : CallR X (.builtin "len") (fun xs H Q => (∃ p ys, xs = [.ref p] ∧ (SqL X.K H p ys ∨ SqT X.K H p ys) ∧ Q (.int ys.length) H) ∨ ∃ z, xs = [.str z] ∧ z.length ≤ sizeLine ∧ Q (.int z.length) H) := call_len_seq.or call_len_str
/-- tuple(x), list(x); list(x) to be changed -/
def cTuple : GC := fun ws μ => match ws with
  | [.tup l] => .ok (.tup l) μ
  | [w] => match asQ μ w with
    | some l => .ok (.tup l) μ
    | none => .no
  | _ => .no
theorem adc_tuple : AdC K (fun xs H Q => ∃ p ys, xs = [.ref p] ∧ ((SqL K H p ys ∧ ∀ l, H l = none → Q (.ref l) (upd H l (.tup ys))) ∨ (SqT K H p ys ∧ Q (.ref p) H))) cTuple := by
  intro vs ws E Q H θ F μ S rs ok
  unfold cTuple at ok
  split at ok
  · obtain ⟨v, rfl, r⟩ := rep1 rs
    cases r with
    | tup h q => exact ⟨_, _, rfl, .inr ⟨S.sub.sqT h, ok.here S (.tup h q)⟩⟩
  · split at ok
    · rename_i w hw _ l h
      obtain ⟨v, rfl, r⟩ := rep1 rs
      have lst : ∀ {a us}, v = .ref a → SqL K H a us → RepAll K θ F us l → ∃ p ys, [v] = [V.ref p] ∧ ((SqL K H p ys ∧ ∀ l, H l = none → Q (.ref l) (upd H l (.tup ys))) ∨ (SqT K H p ys ∧ Q (.ref p) H)) := fun {a us} e h1 q => by
        subst e
        refine ⟨a, us, rfl, .inl ⟨h1, fun p hp => ?_⟩⟩
        obtain ⟨S1, x1⟩ := S.froze (.tup us) hp
        exact ok _ _ _ _ x1 S1 (.tup (.of upd_same) (q.mono x1.pre x1.sub))
      cases r with
      | tup h1 q => exact absurd rfl (hw _)
      | scr h1 q => cases h; exact lst rfl (S.sub.sqL h1) q
      | lst h1 q => cases h; exact lst rfl (.of (S.sub _ _ h1)) q
      | loc h1 =>
        obtain ⟨a, us, e, h2, q⟩ := asL_rep S (.loc h1) h
        exact lst e (.of h2) q
      | non => cases h
      | bl _ => cases h
      | int _ => cases h
      | str _ => cases h
      | ty _ => cases h
      | ref _ => cases h
    · exact ok.elim
  · exact ok.elim
def cList : GC := fun ws μ => match ws with
  | [w] => match asQ μ w with
    | some l => .ok (.lst l) μ
    | none => .no
  | _ => .no
def cListM : GC := fun ws μ => match ws with
  | [w] => match asQ μ w with
    | some l => .ok (.loc μ.length) (μ ++ [.lst l])
    | none => .no
  | _ => .no
theorem adc_list : AdC K (fun xs H Q => ∃ p ys, xs = [.ref p] ∧ (SqL K H p ys ∨ SqT K H p ys) ∧ ∀ l, H l = none → Q (.ref l) (upd H l (.lst ys))) cList := by
  intro vs ws E Q H θ F μ S rs ok
  unfold cList at ok
  split at ok
  · split at ok
    · rename_i l h
      obtain ⟨v, rfl, r⟩ := rep1 rs
      obtain ⟨a, us, rfl, h1, q⟩ := asQ_rep S r h
      refine ⟨a, us, rfl, h1, fun p hp => ?_⟩
      obtain ⟨S1, x1⟩ := S.froze (.lst us) hp
      exact ok _ _ _ _ x1 S1 (.lst upd_same (q.mono x1.pre x1.sub))
    · exact ok.elim
  · exact ok.elim
theorem adc_listM : AdC K (fun xs H Q => ∃ p ys, xs = [.ref p] ∧ (SqL K H p ys ∨ SqT K H p ys) ∧ ∀ l, H l = none → Q (.ref l) (upd H l (.lst ys))) cListM := by
  intro vs ws E Q H θ F μ S rs ok
  unfold cListM at ok
  split at ok
  · split at ok
    · rename_i l h
      obtain ⟨v, rfl, r⟩ := rep1 rs
      obtain ⟨a, us, rfl, h1, q⟩ := asQ_rep S r h
      refine ⟨a, us, rfl, h1, fun p hp => ?_⟩
      obtain ⟨S1, x1, r1⟩ := new_cell S q hp
      exact ok _ _ _ _ x1 S1 r1
    · exact ok.elim
  · exact ok.elim
end

/-! ### what is walked -/
inductive Iter where
  | seq (l : List W) | cell (n : Nat)
def Iter.items : Iter → Mu → Option (List W)
  | .seq l, _ => some l
  | .cell n, μ => match μ[n]? with
    | some (.lst l) => some l
    | _ => none
def Impl (K : PySem.W.Frag) (θ : List Addr) (F : Hp) (J : It) (it : Iter) : Prop :=
  ∀ (i : Nat) (θ1 : List Addr) (F1 H1 : Hp) (μ1 : Mu) (l : List W), θ <+: θ1 → Sub F F1 → Sim K θ1 F1 H1 μ1 → it.items μ1 = some l →
    (l.length ≤ i → J.stop i H1) ∧ ∀ w, l[i]? = some w → J.go i H1 ∧ ∀ x H2, J.yld i H1 x H2 → ∃ F2, Ext θ1 F1 H1 θ1 F2 H2 ∧ Sim K θ1 F2 H2 μ1 ∧ Rep K θ1 F2 x w
abbrev IM := Env → Mu → Out Iter
structure PID (X : Cx) (Wx : WX) (tg e : Expr) (wi : TI) (m : IM) : Prop where
  pi : PI X tg e wi
  ad : Ad X.K Wx (Impl X.K) wi m
theorem PI.or {X : Cx} {tg e : Expr} {w1 w2 : TI} (h1 : PI X tg e w1) (h2 : PI X tg e w2) : PI X tg e (fun σ H R => w1 σ H R ∨ w2 σ H R) :=
  ⟨fun pins s σ H R I h => h.elim (h1.run pins s σ H R I) (h2.run pins s σ H R I)⟩
theorem impl_list {K : PySem.W.Frag} {θ : List Addr} {F : Hp} {a : Addr} {vs : List V} {l : List W} (h : SqL K F a vs) (q : RepAll K θ F vs l) : Impl K θ F (Itl K a) (.seq l) := by
  intro i θ1 F1 H1 μ1 l' p e S hi
  cases hi
  have h1 : SqL K H1 a vs := S.sub.sqL (e.sqL h)
  refine ⟨fun hl => ⟨vs, h1, by rw [q.length]; exact hl⟩, fun w hw => ?_⟩
  obtain ⟨v, hv, r⟩ := q.get hw
  refine ⟨⟨vs, v, h1, hv⟩, fun x H2 y => ?_⟩
  obtain ⟨rfl, y⟩ := y
  have e2 := y vs h1
  rw [hv] at e2; cases e2
  exact ⟨F1, .refl _ _ _, S, r.mono p e⟩
theorem impl_tup {K : PySem.W.Frag} {θ : List Addr} {F : Hp} {a : Addr} {vs : List V} {l : List W} (h : SqT K F a vs) (q : RepAll K θ F vs l) : Impl K θ F (Itt K a) (.seq l) := by
  intro i θ1 F1 H1 μ1 l' p e S hi
  cases hi
  have h1 : SqT K H1 a vs := S.sub.sqT (e.sqT h)
  refine ⟨fun hl => ⟨vs, h1, by rw [q.length]; exact hl⟩, fun w hw => ?_⟩
  obtain ⟨v, hv, r⟩ := q.get hw
  refine ⟨⟨vs, v, h1, hv⟩, fun x H2 y => ?_⟩
  obtain ⟨rfl, y⟩ := y
  have e2 := y vs h1
  rw [hv] at e2; cases e2
  exact ⟨F1, .refl _ _ _, S, r.mono p e⟩
theorem impl_cell {K : PySem.W.Frag} {θ : List Addr} {F : Hp} {a : Addr} {n : Nat} (h : θ[n]? = some a) : Impl K θ F (Itl K a) (.cell n) := by
  intro i θ1 F1 H1 μ1 l p e S hi
  unfold Iter.items at hi
  simp only at hi
  split at hi
  · rename_i l' e1
    cases hi
    obtain ⟨b, e2, c⟩ := S.at e1
    rw [pre_get p h] at e2; cases e2
    obtain ⟨_, vs, q1, q⟩ := c
    have h1 : SqL K H1 a vs := .of q1
    refine ⟨fun hl => ⟨vs, h1, by rw [q.length]; exact hl⟩, fun w hw => ?_⟩
    obtain ⟨v, hv, r⟩ := q.get hw
    refine ⟨⟨vs, v, h1, hv⟩, fun x H2 y => ?_⟩
    obtain ⟨rfl, y⟩ := y
    have e2 := y vs h1
    rw [hv] at e2; cases e2
    exact ⟨F1, .refl _ _ _, S, r⟩
  · cases hi
def irange (lo : Int) (n : Nat) : List W := (List.range n).map fun i => .int (lo + (i : Nat))
theorem impl_rng {K : PySem.W.Frag} {θ : List Addr} {F : Hp} (lo : Int) (n : Nat) : Impl K θ F (Itr lo n) (.seq (irange lo n)) := by
  intro i θ1 F1 H1 μ1 l' p e S hi
  cases hi
  refine ⟨fun hl => ?_, fun w hw => ?_⟩
  · unfold irange at hl
    rw [List.length_map, List.length_range] at hl
    exact hl
  · unfold irange at hw
    rw [List.getElem?_map] at hw
    cases e1 : (List.range n)[i]? with
    | none => rw [e1] at hw; cases hw
    | some j =>
      rw [e1] at hw
      obtain ⟨h1, h2⟩ := List.getElem?_eq_some_iff.mp e1
      rw [List.getElem_range] at h2
      rw [List.length_range] at h1
      subst h2
      cases hw
      refine ⟨h1, fun x H2 y => ?_⟩
      obtain ⟨rfl, rfl⟩ := y
      exact ⟨F1, .refl _ _ _, S, .int _⟩
def itOf (μ : Mu) : W → Option Iter
  | .loc n => (asL μ (.loc n)).map fun _ => .cell n
  | w => (asQ μ w).map .seq
def iSeq (m : EM) : IM := fun ρ μ => (m ρ μ).bind fun w μ1 => match itOf μ1 w with
  | some it => .ok it μ1
  | none => .no
section
variable {X : Cx} {Wx : WX} {tg e a b : Expr} {t : TE} {m ma mb : EM} {ta : TA} {mm : AM} {p pos : Pos}
theorem Ad.useE {α β γ δ : Type} {K : PySem.W.Frag} {Wx : WX} {R : List Addr → Hp → β → α → Prop} {R2 : List Addr → Hp → δ → γ → Prop} {t : St → Hp → (β → Hp → Prop) → Prop} {m : PD.Env → Mu → Out α} {f : α → Mu → Out γ}
    {σ : St} {H : Hp} {Q1 : β → Hp → Prop} {Q : δ → Hp → Prop} {θ : List Addr} {F : Hp} {ρ : PD.Env} {μ : Mu}
    (h : Ad K Wx R t m) (S : Sim K θ F H μ) (E : SimE K θ F σ ρ) (ok : ((m ρ μ).bind f).Ok K R2 θ F H (fun c H' => Wx (.ref c) none σ H') Q)
    (k : ∀ (θ1 : List Addr) (F1 H1 : Hp) (μ1 : Mu) (v : β) (w : α), m ρ μ = .ok w μ1 → Ext θ F H θ1 F1 H1 → Sim K θ1 F1 H1 μ1 → SimE K θ1 F1 σ ρ → R θ1 F1 v w → (f w μ1).Ok K R2 θ1 F1 H1 (fun c H' => Wx (.ref c) none σ H') Q → Q1 v H1) : t σ H Q1 := by
  refine h σ H _ θ F ρ μ S E ?_
  cases e : m ρ μ with
  | ok w μ1 =>
    rw [e] at ok
    exact fun θ1 F1 H1 v x S1 r => k θ1 F1 H1 μ1 v w e x S1 (E.mono x.pre x.sub) r (Out.Ok.mono (o := f w μ1) ok x)
  | er c μ1 => rw [e] at ok; exact ok
  | no => rw [e] at ok; exact ok
theorem pid_seq (h : PED X Wx e t m) : PID X Wx tg e (fun σ H R => iList X.K t σ H R ∨ iTup X.K t σ H R) (iSeq m) := by
  refine ⟨PI.or (pi_list h.pe) (pi_tup h.pe), fun σ H R θ F ρ μ S E ok => ?_⟩
  unfold iSeq at ok
  by_cases ht : ∃ l μ1, m ρ μ = .ok (.tup l) μ1
  · obtain ⟨l, μ1, e1⟩ := ht
    right
    refine h.ad.useE S E ok fun θ1 F1 H1 μ1' v w e2 x S1 E1 r ok1 => ?_
    rw [e1] at e2; cases e2
    cases r with
    | @tup a vs _ h1 q => exact ⟨a, rfl, ⟨vs, S1.sub.sqT h1⟩, Out.Ok.here ok1 S1 (impl_tup h1 q)⟩
  · left
    refine h.ad.useE S E ok fun θ1 F1 H1 μ1 v w e2 x S1 E1 r ok1 => ?_
    split at ok1
    · rename_i it hit
      cases r with
      | tup h1 q => exact absurd ⟨_, _, e2⟩ ht
      | @lst a vs ws h1 q =>
        cases (show some (Iter.seq ws) = some it from hit)
        exact ⟨a, rfl, ⟨vs, .of (S1.sub _ _ h1)⟩, Out.Ok.here ok1 S1 (impl_list (.of h1) q)⟩
      | @scr a vs ws h1 q =>
        cases (show some (Iter.seq ws) = some it from hit)
        exact ⟨a, rfl, ⟨vs, S1.sub.sqL h1⟩, Out.Ok.here ok1 S1 (impl_list h1 q)⟩
      | @loc n a h1 =>
        simp only [itOf, Option.map_eq_some_iff] at hit
        obtain ⟨l, h2, rfl⟩ := hit
        obtain ⟨b, vs, e3, h3, q⟩ := asL_rep S1 (.loc h1) h2
        cases e3
        exact ⟨a, rfl, ⟨vs, .of h3⟩, Out.Ok.here ok1 S1 (impl_cell h1)⟩
      | non => cases hit
      | bl _ => cases hit
      | int _ => cases hit
      | str _ => cases hit
      | ty _ => cases hit
      | ref _ => cases hit
    · exact ok1.elim
def iRngA (m : AM) : IM := fun ρ μ => (m ρ μ).bind fun ws μ1 => match ws with
  | [.int j] => if -(2 ^ 62) ≤ j ∧ j < 2 ^ 62 then .ok (.seq (irange 0 j.toNat)) μ1 else .no
  | _ => .no
def iRngB (m : AM) : IM := fun ρ μ => (m ρ μ).bind fun ws μ1 => match ws with
  | [.int i, .int j] => if -(2 ^ 62) ≤ i ∧ i < 2 ^ 62 ∧ -(2 ^ 62) ≤ j ∧ j < 2 ^ 62 then .ok (.seq (irange i (j - i).toNat)) μ1 else .no
  | _ => .no
theorem pid_rng1 (hg : Gl X "range") (hm : X.mg "range" = none) (h : PAD X Wx [a] ta mm) (hs : starEach [a] X.env = [(false, eval a X.env)] := by rfl) : PID X Wx tg (.Call (.Name "range" p) [a] [] pos) (iRng1 ta) (iRngA mm) := by
  refine ⟨pi_range1 hg hm h.pa hs, fun σ H R θ F ρ μ S E ok => ?_⟩
  refine h.ad.use S E ok fun θ1 F1 H1 μ1 v w x S1 E1 r ok1 => ?_
  split at ok1
  · split at ok1
    · rename_i j hj
      obtain ⟨u, rfl, r1⟩ := rep1 r
      cases r1
      exact ⟨j, rfl, hj.1, hj.2, Out.Ok.here ok1 S1 (impl_rng _ _)⟩
    · exact ok1.elim
  · exact ok1.elim
theorem pid_rng2 (hg : Gl X "range") (hm : X.mg "range" = none) (h : PAD X Wx [a, b] ta mm) (hs : starEach [a, b] X.env = [(false, eval a X.env), (false, eval b X.env)] := by rfl) (hs2 : starEach [b] X.env = [(false, eval b X.env)] := by rfl) : PID X Wx tg (.Call (.Name "range" p) [a, b] [] pos) (iRng2 ta) (iRngB mm) := by
  refine ⟨pi_range2 hg hm h.pa hs hs2, fun σ H R θ F ρ μ S E ok => ?_⟩
  refine h.ad.use S E ok fun θ1 F1 H1 μ1 v w x S1 E1 r ok1 => ?_
  split at ok1
  · split at ok1
    · rename_i i j hj
      obtain ⟨u, z, rfl, r1, r2⟩ := rep2 r
      cases r1; cases r2
      exact ⟨i, j, rfl, hj, Out.Ok.here ok1 S1 (impl_rng _ _)⟩
    · exact ok1.elim
  · exact ok1.elim
end

/-! ### for -/
open Classical in
/-- over l, the rest of what it holds at each turn -/
noncomputable def forL (it : Iter) (l : List W) (g : W → Env → Mu → Out Env) (body : SM) : List W → SM
  | [], ρ, μ => if it.items μ = some l then .nx ρ μ else .no
  | w :: r, ρ, μ => if it.items μ = some l then (g w ρ μ).st ρ fun ρ1 μ1 => match body ρ1 μ1 with
    | .nx ρ2 μ2 => forL it l g body r ρ2 μ2
    | .ct ρ2 μ2 => forL it l g body r ρ2 μ2
    | .bk ρ2 μ2 => .nx ρ2 μ2
    | o => o
   else .no
def forS (g : W → Env → Mu → Out Env) (body : SM) : List W → SM
  | [], ρ, μ => .nx ρ μ
  | w :: r, ρ, μ => (g w ρ μ).st ρ fun ρ1 μ1 => match body ρ1 μ1 with
    | .nx ρ2 μ2 => forS g body r ρ2 μ2
    | .ct ρ2 μ2 => forS g body r ρ2 μ2
    | .bk ρ2 μ2 => .nx ρ2 μ2
    | o => o
theorem forL_seq (l : List W) (g : W → Env → Mu → Out Env) (body : SM) : ∀ (r : List W) (ρ : Env) (μ : Mu), forL (.seq l) l g body r ρ μ = forS g body r ρ μ
  | [], ρ, μ => by
    unfold forL forS
    rw [if_pos (show (Iter.seq l).items μ = some l from rfl)]
  | w :: r, ρ, μ => by
    unfold forL forS
    rw [if_pos (show (Iter.seq l).items μ = some l from rfl)]
    congr 1
    funext ρ1 μ1
    cases body ρ1 μ1 <;> simp [forL_seq l g body r]
noncomputable def sFor (it : IM) (g : W → Env → Mu → Out Env) (body : SM) : SM := fun ρ μ => (it ρ μ).st ρ fun i μ1 => match i with
  | .seq l => forS g body l ρ μ1
  | .cell n => match (Iter.cell n).items μ1 with
    | some l => forL (.cell n) l g body l ρ μ1
    | none => .no
section
variable {X : Cx} {Wx : WX} {tg iter : Expr} {wi : TI} {mi : IM} {g : TG} {mg : W → Env → Mu → Out Env} {tb : TS} {mb : SM} {body : List Stmt} {pos : Pos}
theorem ad_forL {K : PySem.W.Frag} {J : It} {it : Iter} {l : List W} {θ : List Addr} {F H : Hp} {σ : St} {ρ : Env} {μ : Mu} {D : Ends}
    (hg : ∀ (v : V) (w : W) (σ : St) (H : Hp) (Q : St → Hp → Prop) (θ : List Addr) (F : Hp) (ρ : Env) (μ : Mu), Sim K θ F H μ → SimE K θ F σ ρ → Rep K θ F v w → (mg w ρ μ).Ok K (SimE K) θ F H (fun c H' => Wx (.ref c) none σ H') Q → g v σ H Q)
    (hb : AdS K Wx tb mb) (hJ : Impl K θ F J it) (S : Sim K θ F H μ) (E : SimE K θ F σ ρ) (ok : (forL it l mg mb l ρ μ).Ok K Wx θ F H D) :
    ∃ Wv : Nat → Nat → St → Hp → Prop, (∃ m, Wv 0 m σ H) ∧ ∀ i m σ H, Wv i m σ H → (J.stop i H ∧ D.nx σ H) ∨ (J.go i H ∧ ∃ N : St → Hp → Prop, (∀ σ' H', N σ' H' → ∃ m', m' < m ∧ Wv (i + 1) m' σ' H') ∧
      ∀ x H', J.yld i H x H' → g x σ H' fun σ2 H2 => tb { D with nx := N, ct := N, bk := D.nx } σ2 H2) := by
  refine ⟨fun i m σ1 H1 => ∃ (r : List W) (θ1 : List Addr) (F1 : Hp) (ρ1 : Env) (μ1 : Mu), m = r.length ∧ l.drop i = r ∧ Ext θ F H θ1 F1 H1 ∧ Sim K θ1 F1 H1 μ1 ∧ SimE K θ1 F1 σ1 ρ1 ∧ (forL it l mg mb r ρ1 μ1).Ok K Wx θ1 F1 H1 D,
    ⟨l.length, l, θ, F, ρ, μ, rfl, rfl, .refl _ _ _, S, E, ok⟩, ?_⟩
  rintro i m σ1 H1 ⟨r, θ1, F1, ρ1, μ1, rfl, hr, x1, S1, E1, ok1⟩
  cases r with
  | nil =>
    unfold forL at ok1
    split at ok1
    · rename_i hi
      refine .inl ⟨(hJ i θ1 F1 H1 μ1 l x1.pre x1.sub S1 hi).1 (List.drop_eq_nil_iff.mp hr), ok1 θ1 F1 H1 σ1 (.refl _ _ _) S1 E1⟩
    · exact ok1.elim
  | cons w r =>
    unfold forL at ok1
    split at ok1
    · rename_i hi
      have hw : l[i]? = some w := by
        rw [← List.head?_drop, hr]; rfl
      have hr' : l.drop (i + 1) = r := by rw [← List.tail_drop, hr]; rfl
      obtain ⟨go, yl⟩ := (hJ i θ1 F1 H1 μ1 l x1.pre x1.sub S1 hi).2 w hw
      refine .inr ⟨go, fun σ2 H2 => ∃ (θ2 : List Addr) (F2 : Hp) (ρ2 : Env) (μ2 : Mu), Ext θ F H θ2 F2 H2 ∧ Sim K θ2 F2 H2 μ2 ∧ SimE K θ2 F2 σ2 ρ2 ∧ (forL it l mg mb r ρ2 μ2).Ok K Wx θ2 F2 H2 D,
        fun σ2 H2 ⟨θ2, F2, ρ2, μ2, x2, S2, E2, ok2⟩ => ⟨r.length, by simp, r, θ2, F2, ρ2, μ2, rfl, hr', x2, S2, E2, ok2⟩, fun v H2 y => ?_⟩
      obtain ⟨F2, x2, S2, r2⟩ := yl v H2 y
      have E2 := E1.mono x2.pre x2.sub
      have ok2 := SO.Ok.mono ok1 x2
      refine hg v w σ1 H2 _ θ1 F2 ρ1 μ1 S2 E2 r2 ?_
      cases eg : mg w ρ1 μ1 with
      | no => rw [eg] at ok2; exact ok2
      | er c μ2 =>
        rw [eg] at ok2
        exact fun θ3 F3 H3 x3 S3 => ok2 θ3 F3 H3 σ1 x3 S3 (E2.mono x3.pre x3.sub)
      | ok ρ3 μ3 =>
        rw [eg] at ok2
        intro θ3 F3 H3 σ3 x3 S3 E3
        have x13 := (x1.trans x2).trans x3
        refine hb _ σ3 H3 θ3 F3 ρ3 μ3 S3 E3 ?_
        replace ok2 : SO.Ok K Wx θ1 F2 H2 D (match mb ρ3 μ3 with
          | .nx ρ2 μ2 => forL it l mg mb r ρ2 μ2
          | .ct ρ2 μ2 => forL it l mg mb r ρ2 μ2
          | .bk ρ2 μ2 => .nx ρ2 μ2
          | o => o) := ok2
        have ok3 := SO.Ok.mono ok2 x3
        cases eb : mb ρ3 μ3 with
        | no => rw [eb] at ok3; exact ok3
        | rt w' μ' => rw [eb] at ok3; exact ok3
        | er c ρ' μ' => rw [eb] at ok3; exact ok3
        | bk ρ' μ' => rw [eb] at ok3; exact ok3
        | nx ρ' μ' =>
          rw [eb] at ok3
          exact fun θ4 F4 H4 σ4 x4 S4 E4 => ⟨θ4, F4, ρ', μ', x13.trans x4, S4, E4, SO.Ok.mono ok3 x4⟩
        | ct ρ' μ' =>
          rw [eb] at ok3
          exact fun θ4 F4 H4 σ4 x4 S4 E4 => ⟨θ4, F4, ρ', μ', x13.trans x4, S4, E4, SO.Ok.mono ok3 x4⟩
    · exact ok1.elim
theorem psd_for (hp : PassesOwn (model X.prog X.w) X.A X.env X.xe) (hc : X.calm = true) (hi : PID X Wx tg iter wi mi) (hg : PGD X Wx tg g mg) (hb : PSsD X Wx body tb mb) (hs : ∀ x, foldedSetIterable iter X.env x = pure x := by intro _; rfl) :
    PSD X Wx (.For tg iter body [] pos) (tFor wi g tb) (sFor mi mg mb) := by
  refine ⟨ps_for hp hc hi.pi hg.pg hb.ps hs, fun D σ H θ F ρ μ S E ok => ?_⟩
  refine hi.ad σ H _ θ F ρ μ S E ?_
  unfold sFor at ok
  cases e : mi ρ μ with
  | no => rw [e] at ok; exact ok
  | er c μ1 =>
    rw [e] at ok
    exact fun θ1 F1 H1 x1 S1 => ok θ1 F1 H1 σ x1 S1 (E.mono x1.pre x1.sub)
  | ok it μ1 =>
    rw [e] at ok
    intro θ1 F1 H1 J x1 S1 hJ
    have E1 := E.mono x1.pre x1.sub
    cases it with
    | seq l =>
      refine ad_forL (l := l) hg.ad hb.ad hJ S1 E1 ?_
      rw [forL_seq]
      exact SO.Ok.mono (o := forS mg mb l ρ μ1) ok x1
    | cell n =>
      replace ok : SO.Ok X.K Wx θ F H D (match (Iter.cell n).items μ1 with
        | some l => forL (.cell n) l mg mb l ρ μ1
        | none => .no) := ok
      cases e2 : (Iter.cell n).items μ1 with
      | none => rw [e2] at ok; exact ok.elim
      | some l =>
        rw [e2] at ok
        exact ad_forL (l := l) hg.ad hb.ad hJ S1 E1 (SO.Ok.mono ok x1)
end

/-! ### while -/
def whileF (c : BM) (body : SM) : Nat → SM
  | 0, _, _ => .no
  | n + 1, ρ, μ => (c ρ μ).st ρ fun k μ1 => if k = true then match body ρ μ1 with
    | .nx ρ2 μ2 => whileF c body n ρ2 μ2
    | .ct ρ2 μ2 => whileF c body n ρ2 μ2
    | .bk ρ2 μ2 => .nx ρ2 μ2
    | o => o
   else .nx ρ μ1
open Classical in
/-- as many turns as it takes -/
noncomputable def sWhile (c : BM) (body : SM) : SM := fun ρ μ => if h : ∃ n, whileF c body n ρ μ ≠ .no then whileF c body h.choose ρ μ else .no
section
variable {X : Cx} {Wx : WX} {c : Expr} {tc : TT} {mc : BM} {tb : TS} {mb : SM} {body : List Stmt} {pos : Pos}
theorem ad_whileF {K : PySem.W.Frag} (hc : Ad K Wx REq tc mc) (hb : AdS K Wx tb mb) (n : Nat) : AdS K Wx (tWhile tc tb) (whileF mc mb n) := by
  intro D σ H θ F ρ μ S E ok
  refine ⟨fun m σ1 H1 => ∃ (θ1 : List Addr) (F1 : Hp) (ρ1 : Env) (μ1 : Mu), Ext θ F H θ1 F1 H1 ∧ Sim K θ1 F1 H1 μ1 ∧ SimE K θ1 F1 σ1 ρ1 ∧ (whileF mc mb m ρ1 μ1).Ok K Wx θ1 F1 H1 D, ⟨n, θ, F, ρ, μ, .refl _ _ _, S, E, ok⟩, ?_⟩
  rintro m σ1 H1 ⟨θ1, F1, ρ1, μ1, x1, S1, E1, ok1⟩
  cases m with
  | zero => exact ok1.elim
  | succ m =>
    unfold whileF at ok1
    refine hc σ1 H1 _ θ1 F1 ρ1 μ1 S1 E1 ?_
    cases e : mc ρ1 μ1 with
    | no => rw [e] at ok1; exact ok1
    | er cc μ2 =>
      rw [e] at ok1
      exact fun θ2 F2 H2 x2 S2 => ok1 θ2 F2 H2 σ1 x2 S2 (E1.mono x2.pre x2.sub)
    | ok k μ2 =>
      rw [e] at ok1
      intro θ2 F2 H2 k' x2 S2 hk
      have hk : k' = k := hk
      subst hk
      have E2 := E1.mono x2.pre x2.sub
      cases k' with
      | false =>
        rw [if_neg Bool.false_ne_true]
        exact ok1 θ2 F2 H2 σ1 x2 S2 E2
      | true =>
        rw [if_pos rfl]
        refine ⟨fun σ3 H3 => ∃ (θ3 : List Addr) (F3 : Hp) (ρ3 : Env) (μ3 : Mu), Ext θ F H θ3 F3 H3 ∧ Sim K θ3 F3 H3 μ3 ∧ SimE K θ3 F3 σ3 ρ3 ∧ (whileF mc mb m ρ3 μ3).Ok K Wx θ3 F3 H3 D, fun σ3 H3 h3 => ⟨m, Nat.lt_succ_self _, h3⟩, ?_⟩
        refine hb _ σ1 H2 θ2 F2 ρ1 μ2 S2 E2 ?_
        replace ok1 : SO.Ok K Wx θ1 F1 H1 D (match mb ρ1 μ2 with
          | .nx ρ2 μ2 => whileF mc mb m ρ2 μ2
          | .ct ρ2 μ2 => whileF mc mb m ρ2 μ2
          | .bk ρ2 μ2 => .nx ρ2 μ2
          | o => o) := ok1
        have ok3 := SO.Ok.mono ok1 x2
        have x12 := x1.trans x2
        cases eb : mb ρ1 μ2 with
        | no => rw [eb] at ok3; exact ok3
        | rt w' μ' => rw [eb] at ok3; exact ok3
        | er c ρ' μ' => rw [eb] at ok3; exact ok3
        | bk ρ' μ' => rw [eb] at ok3; exact ok3
        | nx ρ' μ' =>
          rw [eb] at ok3
          exact fun θ4 F4 H4 σ4 x4 S4 E4 => ⟨θ4, F4, ρ', μ', x12.trans x4, S4, E4, SO.Ok.mono ok3 x4⟩
        | ct ρ' μ' =>
          rw [eb] at ok3
          exact fun θ4 F4 H4 σ4 x4 S4 E4 => ⟨θ4, F4, ρ', μ', x12.trans x4, S4, E4, SO.Ok.mono ok3 x4⟩
theorem psd_while (hp : PassesOwn (model X.prog X.w) X.A X.env X.xe) (hc : PTD X Wx c tc mc) (hb : PSsD X Wx body tb mb) : PSD X Wx (.While c body [] pos) (tWhile tc tb) (sWhile mc mb) := by
  refine ⟨ps_while hp hc.pt hb.ps, fun D σ H θ F ρ μ S E ok => ?_⟩
  unfold sWhile at ok
  split at ok
  · exact ad_whileF hc.ad hb.ad _ D σ H θ F ρ μ S E ok
  · exact ok.elim
end

/-! ### list comprehensions -/
open Classical in
noncomputable def cmpL (it : Iter) (l : List W) (g : W → Env → Mu → Out Env) (tt : BM) (me : EM) (ρ : Env) : List W → List W → Mu → Out W
  | [], acc, μ => if it.items μ = some l then .ok (.lst acc) μ else .no
  | w :: r, acc, μ => if it.items μ = some l then match g w ρ μ with
    | .ok ρ1 μ1 => match tt ρ1 μ1 with
      | .ok true μ2 => match me ρ1 μ2 with
        | .ok y μ3 => if acc.length < sizeLine then cmpL it l g tt me ρ r (acc ++ [y]) μ3 else .no
        | _ => .no
      | .ok false μ2 => cmpL it l g tt me ρ r acc μ2
      | _ => .no
    | _ => .no
   else .no
def cmpS (g : W → Env → Mu → Out Env) (tt : BM) (me : EM) (ρ : Env) : List W → List W → Mu → Out W
  | [], acc, μ => .ok (.lst acc) μ
  | w :: r, acc, μ => match g w ρ μ with
    | .ok ρ1 μ1 => match tt ρ1 μ1 with
      | .ok true μ2 => match me ρ1 μ2 with
        | .ok y μ3 => if acc.length < sizeLine then cmpS g tt me ρ r (acc ++ [y]) μ3 else .no
        | _ => .no
      | .ok false μ2 => cmpS g tt me ρ r acc μ2
      | _ => .no
    | _ => .no
theorem cmpL_seq (l : List W) (g : W → Env → Mu → Out Env) (tt : BM) (me : EM) (ρ : Env) : ∀ (r acc : List W) (μ : Mu), cmpL (.seq l) l g tt me ρ r acc μ = cmpS g tt me ρ r acc μ
  | [], acc, μ => by
    unfold cmpL cmpS
    rw [if_pos (show (Iter.seq l).items μ = some l from rfl)]
  | w :: r, acc, μ => by
    unfold cmpL cmpS
    rw [if_pos (show (Iter.seq l).items μ = some l from rfl)]
    simp only [cmpL_seq l g tt me ρ r]
noncomputable def eCmp (it : IM) (vs : List Nat) (g : W → Env → Mu → Out Env) (tt : BM) (me : EM) : EM := fun ρ μ => (it ρ μ).bind fun i μ1 => match i with
  | .seq l => cmpS g tt me (wipeW ρ vs) l [] μ1
  | .cell n => match (Iter.cell n).items μ1 with
    | some l => cmpL (.cell n) l g tt me (wipeW ρ vs) l [] μ1
    | none => .no
def bYes : BM := fun _ μ => .ok true μ
/-- nothing may be let out -/
abbrev W0 : WX := fun _ _ _ _ => False
/-- the target stores at own places alone -/
def GOwn (g : TG) (vs : List Nat) : Prop := ∀ (v : V) (σ : St) (H : Hp) (Q : St → Hp → Prop), g v (wipe σ vs) H Q → g v (wipe σ vs) H fun σ2 H2 => wipe σ2 vs = wipe σ vs ∧ Q σ2 H2
theorem wipe_get {σ : St} : ∀ {vs : List Nat} {j : Nat}, (wipe σ vs)[j]? = if j ∈ vs ∧ j < σ.length then some none else σ[j]?
  | [], j => by simp [wipe]
  | v :: vs, j => by
    unfold wipe
    have ih := wipe_get (σ := σ) (vs := vs) (j := j)
    by_cases h : v = j
    · subst h
      by_cases hl : v < σ.length
      · rw [List.getElem?_set_self (by rw [wipe_length]; exact hl), if_pos ⟨List.mem_cons_self, hl⟩]
      · rw [List.getElem?_eq_none (by rw [List.length_set, wipe_length]; omega), if_neg (fun z => hl z.2), List.getElem?_eq_none (by omega)]
    · rw [List.getElem?_set_ne h, ih]
      by_cases hm : j ∈ vs ∧ j < σ.length
      · rw [if_pos hm, if_pos ⟨List.mem_cons_of_mem _ hm.1, hm.2⟩]
      · rw [if_neg hm, if_neg fun z => hm ⟨(List.mem_cons.mp z.1).elim (fun e => absurd e.symm h) id, z.2⟩]
theorem wipe_set {σ : St} {vs : List Nat} {i : Nat} {o : Option V} (hi : i ∈ vs) : wipe (σ.set i o) vs = wipe σ vs := by
  refine List.ext_getElem? fun j => ?_
  rw [wipe_get, wipe_get, List.length_set]
  by_cases h : j ∈ vs ∧ j < σ.length
  · rw [if_pos h, if_pos h]
  · rw [if_neg h, if_neg h]
    by_cases e : i = j
    · subst e
      have : ¬ i < σ.length := fun z => h ⟨hi, z⟩
      rw [List.getElem?_eq_none (by rw [List.length_set]; omega), List.getElem?_eq_none (by omega)]
    · rw [List.getElem?_set_ne e]
theorem wipe_wipe {σ : St} {vs : List Nat} : wipe (wipe σ vs) vs = wipe σ vs := by
  refine List.ext_getElem? fun j => ?_
  rw [wipe_get, wipe_length, wipe_get]
  by_cases h : j ∈ vs ∧ j < σ.length
  · rw [if_pos h, if_pos h]
  · rw [if_neg h, if_neg h]
theorem gown_name {i : Nat} {vs : List Nat} (h : i ∈ vs) : GOwn (gName i) vs := by
  intro v σ H Q q
  exact ⟨by rw [wipe_set h, wipe_wipe], q⟩
structure PTsD (X : Cx) (Wx : WX) (ifs : List Expr) (t : TT) (m : BM) : Prop where
  pt : PTs X ifs t
  ad : Ad X.K Wx REq t m
theorem ptsd_nil {X : Cx} {Wx : WX} : PTsD X Wx [] tYes bYes := ⟨pts_nil, fun σ H Q θ F ρ μ S E ok => Out.Ok.here ok S rfl⟩
theorem ptsd_one {X : Cx} {Wx : WX} {c : Expr} {t : TT} {m : BM} (h : PTD X Wx c t m) : PTsD X Wx [c] t m := ⟨pts_one h.pt, h.ad⟩
theorem ad_lc {K : PySem.W.Frag} {g : TG} {tt : TT} {te : TE} {vs : List Nat} {J : It} {it : Iter} {l : List W} {mg : W → Env → Mu → Out Env} {mt : BM} {me : EM} {θ : List Addr} {F H : Hp} {σ : St} {ρ : Env} {μ : Mu} {E0 : Addr → Hp → Prop} {Q : VK}
    (hw : GOwn g vs) (hg : ∀ (v : V) (w : W) (σ : St) (H : Hp) (Q : St → Hp → Prop) (θ : List Addr) (F : Hp) (ρ : Env) (μ : Mu), Sim K θ F H μ → SimE K θ F σ ρ → Rep K θ F v w → (mg w ρ μ).Ok K (SimE K) θ F H (fun c H' => W0 (.ref c) none σ H') Q → g v σ H Q)
    (ht : Ad K W0 REq tt mt) (he : Ad K W0 (Rep K) te me) (hJ : Impl K θ F J it) (S : Sim K θ F H μ) (E : SimE K θ F σ ρ) (ok : (cmpL it l mg mt me (wipeW ρ vs) l [] μ).Ok K (Rep K) θ F H E0 Q) :
    ∀ D, H D = none → ∃ Wv : Nat → Nat → Hp → Prop, (∃ m, Wv 0 m (upd H D (.lst []))) ∧ ∀ i m H, Wv i m H →
      (J.stop i H ∧ Q (.ref D) H) ∨ (J.go i H ∧ ∃ Nx : Hp → Prop, (∀ H', Nx H' → ∃ m', m' < m ∧ Wv (i + 1) m' H') ∧ ∀ x H', J.yld i H x H' → g x (wipe σ vs) H' fun σ2 H2 => wipe σ2 vs = wipe σ vs ∧ tt σ2 H2 fun b H3 =>
        if b = true then te σ2 H3 fun y H4 => ∃ acc, H4 D = some (.lst acc) ∧ acc.length < sizeLine ∧ Nx (upd H4 D (.lst (acc ++ [y]))) else Nx H3) := by
  intro D hD
  have hDF := S.outF hD
  have hDθ := S.out hD
  -- a state between two turns
  let St1 : List W → Hp → Prop := fun r H1 => ∃ (θ1 : List Addr) (F1 : Hp) (μ1 : Mu) (vacc : List V) (acc : List W), Ext θ F H θ1 F1 H1 ∧ Sim K θ1 F1 H1 μ1 ∧ F1 D = none ∧ D ∉ θ1 ∧ H1 D = some (.lst vacc) ∧ RepAll K θ1 F1 vacc acc ∧
    (cmpL it l mg mt me (wipeW ρ vs) r acc μ1).Ok K (Rep K) θ F H E0 Q
  refine ⟨fun i m H1 => ∃ r, m = r.length ∧ l.drop i = r ∧ St1 r H1, ⟨l.length, l, rfl, rfl, θ, F, μ, [], [], ⟨List.prefix_refl _, .refl _, fun b u e _ => .of (by rw [upd_ne (ne_of_none e hD)]; exact e), fun _ m => .inl m, fun _ _ e => .inl e⟩,
    S.aside _ hDF hDθ (by rw [hD]; intro _ z; cases z), hDF, hDθ, upd_same, .nil, ok⟩, ?_⟩
  rintro i m H1 ⟨r, rfl, hr, θ1, F1, μ1, vacc, acc, x1, S1, nF, nθ, hH, ra, ok1⟩
  cases r with
  | nil =>
    unfold cmpL at ok1
    split at ok1
    · rename_i hi
      refine .inl ⟨(hJ i θ1 F1 H1 μ1 l x1.pre x1.sub S1 hi).1 (List.drop_eq_nil_iff.mp hr), ?_⟩
      have hs := sub_upd (o := .lst vacc) nF
      refine ok1 θ1 (upd F1 D (.lst vacc)) H1 (.ref D) ⟨x1.pre, x1.sub.trans hs, x1.frame, x1.fresh, fun b u e => ?_⟩ ⟨fun b u e => ?_, S1.len, S1.nd, fun n b c h1 h2 => ?_, fun P hP => ⟨by rw [upd_ne (tab_ne (S1.tab P hP).2 (by rw [hH]; intro _ z; cases z))]; exact (S1.tab P hP).1, (S1.tab P hP).2⟩⟩ (.lst upd_same (ra.mono (List.prefix_refl _) hs))
      · by_cases hb : b = D
        · exact .inr (.inl (by rw [hb]; exact hD))
        · rw [upd_ne hb] at e; exact x1.news b u e
      · by_cases hb : b = D
        · subst hb; rw [upd_same] at e; cases e; exact hH
        · rw [upd_ne hb] at e; exact S1.sub b u e
      · have ne : b ≠ D := fun z => nθ (by rw [← z]; exact List.mem_of_getElem? h1)
        exact (S1.cell n b c h1 h2).mono (List.prefix_refl _) hs (fun z => by rw [upd_ne ne]; exact z) fun o e => e
    · exact ok1.elim
  | cons w r =>
    unfold cmpL at ok1
    split at ok1
    · rename_i hi
      have hwl : l[i]? = some w := by rw [← List.head?_drop, hr]; rfl
      have hr' : l.drop (i + 1) = r := by rw [← List.tail_drop, hr]; rfl
      obtain ⟨go, yl⟩ := (hJ i θ1 F1 H1 μ1 l x1.pre x1.sub S1 hi).2 w hwl
      refine .inr ⟨go, St1 r, fun H2 h2 => ⟨r.length, by simp, r, rfl, hr', h2⟩, fun v H2 y => ?_⟩
      obtain ⟨F2, x2, S2, r2⟩ := yl v H2 y
      have E2 : SimE K θ1 F2 (wipe σ vs) (wipeW ρ vs) := (E.mono (x1.trans x2).pre (x1.trans x2).sub).wipe vs
      -- where D stands as things go on
      have keepD : ∀ {θ' : List Addr} {F' H' : Hp}, Ext θ1 F1 H1 θ' F' H' → H' D = some (.lst vacc) ∧ D ∉ θ' ∧ F' D = none := fun {θ' F' H'} x => by
        refine ⟨x.frame D _ hH nθ, fun m => ?_, ?_⟩
        · rcases x.fresh D m with z | z
          · exact nθ z
          · rw [hH] at z; cases z
        · cases q : F' D with
          | none => rfl
          | some o =>
            rcases x.news D o q with z | z | z
            · rw [nF] at z; cases z
            · rw [hH] at z; cases z
            · exact absurd z nθ
      refine hw v σ H2 _ ?_
      refine hg v w _ H2 _ θ1 F2 _ μ1 S2 E2 r2 ?_
      cases eg : mg w (wipeW ρ vs) μ1 with
      | no => rw [eg] at ok1; exact ok1.elim
      | er c μ2 => rw [eg] at ok1; exact ok1.elim
      | ok ρ3 μ3 =>
        rw [eg] at ok1
        intro θ3 F3 H3 σ3 x3 S3 E3
        refine ht σ3 H3 _ θ3 F3 ρ3 μ3 S3 E3 ?_
        dsimp only at ok1
        cases et : mt ρ3 μ3 with
        | no => rw [et] at ok1; exact ok1.elim
        | er c μ4 => rw [et] at ok1; exact ok1.elim
        | ok b μ4 =>
          rw [et] at ok1
          intro θ4 F4 H4 b' x4 S4 hb
          have hb : b' = b := hb
          subst hb
          cases b' with
          | false =>
            rw [if_neg Bool.false_ne_true]
            have x14 := (x2.trans x3).trans x4
            obtain ⟨d1, d2, d3⟩ := keepD x14
            exact ⟨θ4, F4, μ4, vacc, acc, x1.trans x14, S4, d3, d2, d1, ra.mono x14.pre x14.sub, ok1⟩
          | true =>
            rw [if_pos rfl]
            refine he σ3 H4 _ θ4 F4 ρ3 μ4 S4 (E3.mono x4.pre x4.sub) ?_
            dsimp only at ok1
            cases ee : me ρ3 μ4 with
            | no => rw [ee] at ok1; exact ok1.elim
            | er c μ5 => rw [ee] at ok1; exact ok1.elim
            | ok yw μ5 =>
              rw [ee] at ok1
              intro θ5 F5 H5 yv x5 S5 r5
              have x15 := ((x2.trans x3).trans x4).trans x5
              obtain ⟨d1, d2, d3⟩ := keepD x15
              dsimp only at ok1
              split at ok1
              · rename_i hl
                have ra5 := ra.mono x15.pre x15.sub
                refine ⟨vacc, d1, by rw [ra5.length]; exact hl, θ5, F5, μ5, vacc ++ [yv], acc ++ [yw], ?_, S5.aside _ d3 d2 (by rw [d1]; intro _ z; cases z), d3, d2, upd_same, ra5.append (.cons r5 .nil), ok1⟩
                have x6 := x1.trans x15
                refine ⟨x6.pre, x6.sub, fun b u e hb => ?_, x6.fresh, x6.news⟩
                rw [upd_ne (ne_of_none e hD)]
                exact x6.frame b u e hb
              · exact ok1.elim
    · exact ok1.elim
section
variable {X : Cx} {Wx : WX} {tg elt iter : Expr} {ifs : List Expr} {scope : Scope} {own : List (Str × Nat)} {pos : Pos} {wi : TI} {mi : IM} {g : TG} {mg : W → Env → Mu → Out Env} {tt : TT} {mt : BM} {te : TE} {me : EM}
theorem ped_cmp1 (hc : X.calm = true) (hN : X.N.Nodup) (hi : PID X Wx tg iter wi mi) (ok : BlkOk X.N X.env.scope scope own) (hw : GOwn g (own.map (·.2)))
    (hg : ∀ (s : Shared) (H : Hp) (C : Addr) (cl : List (Str × Addr)) (fp : List Addr), PGD (X.blk s H scope (compEnvC scope cl C X.env) fp) W0 tg g mg) (ht : ∀ (s : Shared) (H : Hp) (C : Addr) (cl : List (Str × Addr)) (fp : List Addr), PTsD (X.blk s H scope (compEnvC scope cl C X.env) fp) W0 ifs tt mt)
    (he : ∀ (s : Shared) (H : Hp) (C : Addr) (cl : List (Str × Addr)) (fp : List Addr), PED (X.blk s H scope (compEnvC scope cl C X.env) fp) W0 elt te me) (hs : ∀ x, foldedSetIterable iter X.env x = pure x := by intro _; rfl) :
    PED X Wx (.ListComp elt [⟨tg, iter, ifs, 0⟩] scope pos) (tLc wi g tt te (own.map (·.2))) (eCmp mi (own.map (·.2)) mg mt me) := by
  refine ⟨pe_lc hc hN hi.pi ok (fun s H C cl fp => (hg s H C cl fp).pg) (fun s H C cl fp => (ht s H C cl fp).pt) (fun s H C cl fp => (he s H C cl fp).pe) hs, fun σ H Q θ F ρ μ S E okk => ?_⟩
  have hg0 := (hg X.s_0 X.H_0 0 [] []).ad
  have ht0 := (ht X.s_0 X.H_0 0 [] []).ad
  have he0 := (he X.s_0 X.H_0 0 [] []).ad
  refine hi.ad.use S E okk fun θ1 F1 H1 μ1 J it x1 S1 E1 hJ ok1 => ?_
  cases it with
  | seq l => exact ad_lc (l := l) (ρ := ρ) hw hg0 ht0 he0 hJ S1 E1 (by rw [cmpL_seq]; exact ok1)
  | cell n =>
    dsimp only at ok1
    cases e2 : (Iter.cell n).items μ1 with
    | none => rw [e2] at ok1; exact ok1.elim
    | some l =>
      rw [e2] at ok1
      exact ad_lc (l := l) (ρ := ρ) hw hg0 ht0 he0 hJ S1 E1 ok1
end

/-! ### isinstance of built-in classes -/
inductive Bt where
  | non | bl | int | str | tup | lst
  deriving DecidableEq
def Bt.name : Bt → String
  | .non => "NoneType" | .bl => "bool" | .int => "int" | .str => "str" | .tup => "tuple" | .lst => "list"
def Bt.isA : Bt → Bt → Bool
  | .bl, .int => true
  | t, u => decide (t = u)
theorem Bt.kit (K : PySem.W.Frag) (t u : Bt) : PySem.W.kitOne K (.type t.name) (.type u.name) = some (t.isA u) := by
  cases t <;> cases u <;> kernel_rfl
def tyB (μ : Mu) : W → Option Bt
  | .non => some .non | .bl _ => some .bl | .int _ => some .int | .str _ => some .str | .tup _ => some .tup | .lst _ => some .lst | .scr _ => some .lst
  | .loc n => match μ[n]? with
    | some (.lst _) => some .lst
    | _ => none
  | _ => none
def btOf (n : String) : Option Bt := if n = "int" then some .int else if n = "bool" then some .bl else if n = "str" then some .str else if n = "tuple" then some .tup else if n = "list" then some .lst else none
theorem btOf_name {n : String} {t : Bt} (h : btOf n = some t) : n = t.name := by
  unfold btOf at h
  repeat' split at h
  all_goals first | (cases h; assumption) | cases h
theorem tyB_rep {K : PySem.W.Frag} {θ : List Addr} {F H : Hp} {μ : Mu} (S : Sim K θ F H μ) {v : V} {w : W} {t : Bt} (r : Rep K θ F v w) (h : tyB μ w = some t) : TyX K H v (.type t.name) := by
  cases r with
  | non => cases h; exact .base .non
  | bl b => cases h; exact .base (.bl b)
  | int i => cases h; exact .base (.int i)
  | str x => cases h; exact .base (.str x)
  | ty n => cases h
  | ref a => cases h
  | @loc n a e =>
    unfold tyB at h
    simp only at h
    split at h
    · rename_i l e1
      cases h
      obtain ⟨b, e2, c⟩ := S.at e1
      rw [e] at e2; cases e2
      obtain ⟨_, vs, q1, _⟩ := c
      exact .base (.lst q1)
    · cases h
  | tup q _ =>
    cases h
    rcases q with (q | ⟨o, q⟩) | ⟨o, its, n, q, c, _⟩
    · exact .base (.tup (S.sub _ _ q))
    · exact .fTuple (S.sub _ _ q)
    · exact .kTuple q c
  | lst q _ => cases h; exact .base (.lst (S.sub _ _ q))
  | scr q _ =>
    cases h
    rcases q with (q | ⟨o, q⟩) | ⟨o, its, n, q, c, _⟩
    · exact .base (.lst (S.sub _ _ q))
    · exact .base (.frz (S.sub _ _ q))
    · exact .kList q c
def cIsi : GC := fun ws μ => match ws with
  | [w, .ty n] => match tyB μ w, btOf n with
    | some t, some u => .ok (.bl (t.isA u)) μ
    | _, _ => .no
  | _ => .no
theorem adc_isi {K : PySem.W.Frag} : AdC K (rIsi K) cIsi := by
  intro vs ws E Q H θ F μ S rs ok
  unfold cIsi at ok
  split at ok
  · split at ok
    · rename_i w n t u h1 h2
      obtain ⟨v, c, rfl, r1, r2⟩ := rep2 rs
      cases r2
      have e := btOf_name h2
      subst e
      exact ⟨v, _, _, _, _, rfl, .ty _, tyB_rep S r1 h1, Bt.kit K t u, ok.here S (.bl _)⟩
    · exact ok.elim
  · exact ok.elim

/-! ### methods of lists -/
abbrev GM := W → List W → Mu → Out W
def AdM (K : PySem.W.Frag) (r : V → List V → Hp → VK → Prop) (g : GM) : Prop := ∀ {x : V} {vs : List V} {w : W} {ws : List W} {E : Addr → Hp → Prop} {Q : VK} {H : Hp} {θ : List Addr} {F : Hp} {μ : Mu}, Sim K θ F H μ → Rep K θ F x w → RepAll K θ F vs ws → (g w ws μ).Ok K (Rep K) θ F H E Q → r x vs H Q
def isL (μ : Mu) (w : W) : Bool := (asL μ w).isSome
theorem isL_rep {K : PySem.W.Frag} {θ : List Addr} {F H : Hp} {μ : Mu} (S : Sim K θ F H μ) {v : V} {w : W} (r : Rep K θ F v w) (h : isL μ w = true) : tyV K "list" v H := by
  unfold isL at h
  obtain ⟨l, e⟩ := Option.isSome_iff_exists.mp h
  obtain ⟨a, vs, rfl, h1, _⟩ := asL_rep S r e
  exact .inl ⟨rfl, vs, .of h1⟩
def eMeL (g : GM) (o : EM) (m : AM) : EM := fun ρ μ => (o ρ μ).bind fun x μ1 => if isL μ1 x = true then (m ρ μ1).bind fun ws μ2 => g x ws μ2 else .no
def eMeL0 (g : GM) (o : EM) : EM := fun ρ μ => (o ρ μ).bind fun x μ1 => if isL μ1 x = true then g x [] μ1 else .no
section
variable {X : Cx} {Wx : WX} {o e : Expr} {es : List Expr} {to : TE} {t : TA} {mo : EM} {m : AM} {name : Str} {apos cpos : Pos} {id : String} {r : V → List V → Hp → VK → Prop} {g : GM}
theorem ped_meL (slot : Slot "list" name id) (hty : typeOf (.builtin id) = pure (.type "method_descriptor")) (hm : MtR X id r) (hG : AdM X.K r g) (ho : PED X Wx o to mo) (ha : PAD X Wx (e :: es) t m)
    (hbase : attributeBase o name X.env (eval o X.env) = eval o X.env := by rfl)
    (hfew : ((backTo cpos (starEach (e :: es) X.env)).all (fun x => !x.1) && (backToKw cpos (keywordEach [] X.env)).all (fun x => x.1.isSome)
      && decide ((e :: es).length + ([] : List Keyword).length + (if ([] : List Keyword).isEmpty then 0 else 1) < 30)) = true := by rfl)
    (hline : (apos.endLine == cpos.line) = true := by rfl) (hs : starEach (e :: es) X.env = (false, eval e X.env) :: starEach es X.env := by rfl) (hplain : (backTo cpos (starEach es X.env)).any (·.1) = false := by rfl) :
    PED X Wx (.Call (.Attribute o name apos) (e :: es) [] cpos) (tBM X.K "list" r to t) (eMeL g mo m) := by
  refine ⟨pe_bm PySem.F.plainAttrs_list slot hty hm ho.pe ha.pa hbase hfew hline hs hplain, fun σ H Q θ F ρ μ S E ok => ?_⟩
  refine ho.ad.use S E ok fun θ1 F1 H1 μ1 v w x1 S1 E1 r1 ok1 => ?_
  split at ok1
  · rename_i hl
    refine ⟨isL_rep S1 r1 hl, ?_⟩
    refine ha.ad.use S1 E1 ok1 fun θ2 F2 H2 μ2 vs ws x2 S2 E2 r2 ok2 => ?_
    exact hG S2 (r1.mono x2.pre x2.sub) r2 ok2
  · exact ok1.elim
theorem ped_meL0 (slot : Slot "list" name id) (hty : typeOf (.builtin id) = pure (.type "method_descriptor")) (hm : MtR X id r) (hG : AdM X.K r g) (ho : PED X Wx o to mo)
    (hbase : attributeBase o name X.env (eval o X.env) = eval o X.env := by rfl) (hline : (apos.endLine == cpos.line) = true := by rfl) : PED X Wx (.Call (.Attribute o name apos) [] [] cpos) (tBM0 X.K "list" r to) (eMeL0 g mo) := by
  refine ⟨pe_bm0 PySem.F.plainAttrs_list slot hty hm ho.pe hbase hline, fun σ H Q θ F ρ μ S E ok => ?_⟩
  refine ho.ad.use S E ok fun θ1 F1 H1 μ1 v w x1 S1 E1 r1 ok1 => ?_
  split at ok1
  · rename_i hl
    exact ⟨isL_rep S1 r1 hl, hG S1 r1 .nil ok1⟩
  · exact ok1.elim
end
section
variable {K : PySem.W.Frag}
theorem loc_rep {θ : List Addr} {F H : Hp} {μ : Mu} (S : Sim K θ F H μ) {v : V} {n : Nat} {l : List W} (r : Rep K θ F v (.loc n)) (h : μ[n]? = some (.lst l)) : ∃ a vs, v = .ref a ∧ θ[n]? = some a ∧ F a = none ∧ H a = some (.lst vs) ∧ RepAll K θ F vs l := by
  cases r with
  | loc e =>
    obtain ⟨b, e2, c⟩ := S.at h
    rw [e] at e2; cases e2
    obtain ⟨f, vs, q1, q2⟩ := c
    exact ⟨_, vs, rfl, e, f, q1, q2⟩
theorem write_lst {θ : List Addr} {F H : Hp} {μ : Mu} (S : Sim K θ F H μ) {n : Nat} {a : Addr} {vs : List V} {l : List W} (ha : θ[n]? = some a) (hF : F a = none) (q : RepAll K θ F vs l) :
    Sim K θ F (upd H a (.lst vs)) (μ.set n (.lst l)) ∧ Ext θ F H θ F (upd H a (.lst vs)) := S.write ha hF ⟨hF, vs, upd_same, q⟩
def mAppend : GM := fun x ws μ => match x, ws with
  | .loc n, [w] => match μ[n]? with
    | some (.lst l) => if l.length < sizeLine then .ok .non (μ.set n (.lst (l ++ [w]))) else .no
    | _ => .no
  | _, _ => .no
theorem adm_append : AdM K rAppend mAppend := by
  intro x vs w ws E Q H θ F μ S rx rs ok
  unfold mAppend at ok
  split at ok
  · rename_i n w
    split at ok
    · rename_i l h
      split at ok
      · rename_i hl
        obtain ⟨a, us, rfl, h1, h2, h3, q⟩ := loc_rep S rx h
        obtain ⟨v, rfl, r⟩ := rep1 rs
        refine ⟨a, us, v, rfl, rfl, h3, by rw [q.length]; exact hl, ?_⟩
        obtain ⟨S1, x1⟩ := write_lst S h1 h2 (q.append (.cons r .nil))
        exact ok _ _ _ _ x1 S1 .non
      · exact ok.elim
    · exact ok.elim
  · exact ok.elim
def mPop : GM := fun x ws μ => match x, ws with
  | .loc n, [] => match μ[n]? with
    | some (.lst l) => match l[l.length - 1]? with
      | some w => .ok w (μ.set n (.lst l.dropLast))
      | none => .no
    | _ => .no
  | _, _ => .no
theorem adm_pop : AdM K rPop mPop := by
  intro x vs w ws E Q H θ F μ S rx rs ok
  unfold mPop at ok
  split at ok
  · rename_i n
    split at ok
    · rename_i l h
      split at ok
      · rename_i w hw
        obtain ⟨a, us, rfl, h1, h2, h3, q⟩ := loc_rep S rx h
        cases rs
        obtain ⟨v, hv, r⟩ := q.get hw
        refine ⟨a, us, v, rfl, rfl, h3, by rw [q.length]; exact hv, ?_⟩
        obtain ⟨S1, x1⟩ := write_lst S h1 h2 q.dropLast
        exact ok _ _ _ _ x1 S1 r
      · exact ok.elim
    · exact ok.elim
  · exact ok.elim
def mPopAt : GM := fun x ws μ => match x, ws with
  | .loc n, [.int i] => match μ[n]? with
    | some (.lst l) => if -(2 ^ 63) ≤ i ∧ i < 2 ^ 63 then match seqIndex? i l.length with
      | some k => match l[k]? with
        | some w => .ok w (μ.set n (.lst (l.eraseIdx k)))
        | none => .no
      | none => .no else .no
    | _ => .no
  | _, _ => .no
theorem adm_popAt : AdM K rPopAt mPopAt := by
  intro x vs w ws E Q H θ F μ S rx rs ok
  unfold mPopAt at ok
  split at ok
  · rename_i n i
    split at ok
    · rename_i l h
      split at ok
      · rename_i hi
        split at ok
        · rename_i k hk
          split at ok
          · rename_i w hw
            obtain ⟨a, us, rfl, h1, h2, h3, q⟩ := loc_rep S rx h
            obtain ⟨vi, rfl, ri⟩ := rep1 rs
            cases ri
            obtain ⟨v, hv, r⟩ := q.get hw
            refine ⟨a, us, i, k, v, rfl, rfl, h3, hi.1, hi.2, by rw [q.length]; exact hk, hv, ?_⟩
            obtain ⟨S1, x1⟩ := write_lst S h1 h2 (q.eraseIdx k)
            exact ok _ _ _ _ x1 S1 r
          · exact ok.elim
        · exact ok.elim
      · exact ok.elim
    · exact ok.elim
  · exact ok.elim
def mIndex : GM := fun x ws μ => match ws with
  | [y] => match topD μ x, topD μ y with
    | some (.list ds), some d => if SeqAt.shaped (.list ds) = true ∧ SeqAt.shaped d = true then match ds.findIdx? fun z => PyData.eqv z d with
      | some j => .ok (.int (j : Nat)) μ
      | none => .no else .no
    | _, _ => .no
  | _ => .no
theorem adm_index : AdM K (rIndexD K) mIndex := by
  intro x vs w ws E Q H θ F μ S rx rs ok
  unfold mIndex at ok
  split at ok
  · split at ok
    · split at ok
      · rename_i ds d h1 h2 h3
        split at ok
        · rename_i j hj
          obtain ⟨v, rfl, r⟩ := rep1 rs
          have hd := topD_rep S rx h1
          have hy := topD_rep S r h2
          cases hd with
          | @lst a xs _ hs ha =>
            rw [List.findIdx?_eq_some_iff_getElem] at hj
            obtain ⟨hl, hz, hno⟩ := hj
            refine ⟨a, v, d, ds, j, ds[j], rfl, rfl, .lst hs ha, hy, h3.1, h3.2, List.getElem?_eq_getElem hl, hz, fun m z' hm hz' => ?_, ok.here S (.int _)⟩
            obtain ⟨hml, rfl⟩ := List.getElem?_eq_some_iff.mp hz'
            have := hno m hm
            simpa using this
        · exact ok.elim
      · exact ok.elim
    · exact ok.elim
  · exact ok.elim
end

/-! ### calls of the program's own defs -/
abbrev FM := List W → Mu → Out W
def spD (K : PySem.W.Frag) (n : Nat) (f : FM) : Sp := fun vs H Q E => vs.length = n ∧ ∃ (θ : List Addr) (F : Hp) (ws : List W) (μ : Mu), Sim K θ F H μ ∧ RepAll K θ F vs ws ∧ (f ws μ).Ok K (Rep K) θ F H (fun c H' => E (.ref c) none H') Q
/-- the def at a does what f says -/
abbrev FnD (P : Program) (w : World) (K : PySem.W.Frag) (mg : Str → Option Value) (base : Heap) (k : Nat) (a : Addr) (fd : FuncData) (ps : List Str) (f : FM) : Prop := FnOk P w K mg base (L2N.CX P w) k a fd ps (spD K ps.length f)
def eFn (n : Nat) (f : FM) (m : AM) : EM := fun ρ μ => (m ρ μ).bind fun ws μ1 => if ws.length = n then f ws μ1 else .no
section
variable {X : Cx} {Wx : WX} {k : Nat} {a C : Addr} {fd : FuncData} {ps : List Str} {f : FM} {x m : Str} {p pos apos : Pos} {e o : Expr} {es : List Expr} {t : TA} {ta : TE} {ma : AM} {mo : EM} {E : St → XK} {sp : Sp}
theorem ped_fn (F : FnD X.prog X.w X.K X.mg X.base k a fd ps f) (hr : Room k X.A) (tk : L2N.Takes X Wx) (hg : Gl X x) (hm : X.mg x = some (.ref a)) (hk : PySem.W.keepIn X.K (.ref a) = true) (hb : Binds X.K fd ps []) (ha : PAD X Wx (e :: es) t ma)
    (hdb : (x == ("__debug__" : Str)) = false := by decide) (he : starEach (e :: es) X.env = (false, eval e X.env) :: starEach es X.env := by rfl) (hpl : (backTo pos (starEach es X.env)).any (·.1) = false := by rfl) :
    PED X Wx (.Call (.Name x p) (e :: es) [] pos) (tCallS (spD X.K ps.length f) (WE Wx) t) (eFn ps.length f ma) := by
  refine ⟨pe_callS F hr hg hm hk hb (fun σ => L2N.passAt tk σ) ha.pa hdb he hpl, fun σ H Q θ G ρ μ S E ok => ?_⟩
  refine ha.ad.use S E ok fun θ1 F1 H1 μ1 vs ws x1 S1 E1 r1 ok1 => ?_
  split at ok1
  · rename_i hl
    exact ⟨by rw [r1.length]; exact hl, θ1, F1, ws, μ1, S1, r1, ok1⟩
  · exact ok1.elim
/-- a call of a def of one's own without arguments -/
theorem pe_fn0 (F : FnOk X.prog X.w X.K X.mg X.base (L2N.CX X.prog X.w) k a fd ps sp) (hr : Room k X.A) (hg : Gl X x) (hm : X.mg x = some (.ref a)) (hk : PySem.W.keepIn X.K (.ref a) = true) (hb : Binds X.K fd ps []) (hx : ∀ σ, PassesAt (L2N.CX X.prog X.w) X σ (E σ))
    (hdb : (x == ("__debug__" : Str)) = false := by decide) : PE X (.Call (.Name x p) [] [] pos) (fun σ H Q => sp [] H Q (E σ)) :=
  ⟨fun pins s σ H Q I h => wpAny_Call_Name_kw (ld_glob I hg hm (PySem.W.callWith_K0 I.kIn hk (run_fnS (us := []) (vs := []) F hr hb (hx σ) I .nil h)) hdb)⟩
theorem ped_fn0 (F : FnD X.prog X.w X.K X.mg X.base k a fd ps f) (hr : Room k X.A) (tk : L2N.Takes X Wx) (hg : Gl X x) (hm : X.mg x = some (.ref a)) (hk : PySem.W.keepIn X.K (.ref a) = true) (hb : Binds X.K fd ps []) (h0 : ps.length = 0) (hdb : (x == ("__debug__" : Str)) = false := by decide) :
    PED X Wx (.Call (.Name x p) [] [] pos) (fun σ H Q => spD X.K ps.length f [] H Q (WE Wx σ)) (eFn ps.length f aNil) :=
  ⟨pe_fn0 F hr hg hm hk hb (fun σ => L2N.passAt tk σ) hdb, fun σ H Q θ G ρ μ S E ok => ⟨h0.symm, θ, G, [], μ, S, .nil, by
    unfold eFn aNil at ok
    simp only [Out.bind, List.length_nil, h0, if_true] at ok
    exact ok⟩⟩
/-- o.m(e, ..), what is raised is wished for at the slots -/
def tMeS (C : Addr) (m : Str) (sp : Sp) (E : St → XK) (ta : TE) (t : TA) : TE := fun σ H Q => ta σ H fun x H1 => ∃ a dx fs, x = .ref a ∧ H1 a = some (.ins C dx fs) ∧ fs.lookup m = none ∧ t σ H1 fun vs H2 => sp (x :: vs) H2 Q (E σ)
theorem pe_meA {pl : Sem Bool} (ho : PE X o ta) (c : Cls X.K C) (hm : Meth X.K C m a) (F : FnOk X.prog X.w X.K X.mg X.base (L2N.CX X.prog X.w) k a fd ps sp) (hr : Room k X.A) (hb : Binds X.K fd ps []) (hx : ∀ σ, PassesAt (L2N.CX X.prog X.w) X σ (E σ)) (ha : PA X (e :: es) t)
    (hst : starEach (e :: es) X.env = (false, eval e X.env) :: starEach es X.env := by rfl) (hpl : (backTo pos (starEach es X.env)).any (·.1) = false := by rfl)
    (ht : eval (.Call (.Attribute o m apos) (e :: es) [] pos) X.env = (do
      let ov ← eval o X.env
      standAt apos.atName
      let (f, first) ← holding [ov] (getMethod ov m pl)
      callWith pos f first (backTo pos (starEach (e :: es) X.env)) (backToKw pos (keywordEach [] X.env))) := by rfl) :
    PE X (.Call (.Attribute o m apos) (e :: es) [] pos) (tMeS C m sp E ta t) := by
  constructor
  intro pins s σ H Q I h
  refine PySem.W.methodCall_KW (pl := pl) (thn (ho.run pins s σ H _ I h) fun u s1 ⟨y, H1, I1, ry, b, dx, fs, ey, eb, l, q⟩ => ?_) ht
  subst ey
  have eu : u = Value.ref b := ry
  subst eu
  refine getmeth_ok I1 eb c hm l (PySem.W.callWith_K (first := [.ref b]) (h₀ := X.base) I.ok.mod.kin hm.kp (thn (ha.run pos pins s1 σ H1 _ I1 q) fun us s2 ⟨vs, H2, I2, r, q2⟩ => ⟨I2.kIn, ?_⟩) hst hpl)
  exact run_fnS (us := .ref b :: us) (vs := .ref b :: vs) F hr hb (hx σ) I2 (.cons rfl r) q2
theorem pe_meA0 {pl : Sem Bool} (ho : PE X o ta) (c : Cls X.K C) (hm : Meth X.K C m a) (F : FnOk X.prog X.w X.K X.mg X.base (L2N.CX X.prog X.w) k a fd ps sp) (hr : Room k X.A) (hb : Binds X.K fd ps []) (hx : ∀ σ, PassesAt (L2N.CX X.prog X.w) X σ (E σ))
    (ht : eval (.Call (.Attribute o m apos) [] [] pos) X.env = (do
      let ov ← eval o X.env
      standAt apos.atName
      let (f, first) ← holding [ov] (getMethod ov m pl)
      callWith pos f first (backTo pos (starEach [] X.env)) (backToKw pos (keywordEach [] X.env))) := by rfl) :
    PE X (.Call (.Attribute o m apos) [] [] pos) (tMeS C m sp E ta tNil) := by
  constructor
  intro pins s σ H Q I h
  refine PySem.W.methodCall_KW (pl := pl) (thn (ho.run pins s σ H _ I h) fun u s1 ⟨y, H1, I1, ry, b, dx, fs, ey, eb, l, q⟩ => ?_) ht
  subst ey
  have eu : u = Value.ref b := ry
  subst eu
  exact getmeth_ok I1 eb c hm l (PySem.W.callWith_K0 (first := [.ref b]) I1.kIn hm.kp (run_fnS (us := [.ref b]) (vs := [.ref b]) F hr hb (hx σ) I1 (.cons rfl .nil) q))
/-- the receiver is an instance of the class at C without the attribute m -/
def insOf (C : Addr) (m : Str) (μ : Mu) : W → Bool
  | .loc n => match μ[n]? with
    | some (.ins D fs) => decide (D = C) && (fs.lookup m).isNone
    | _ => false
  | _ => false
theorem insOf_rep {K : PySem.W.Frag} {θ : List Addr} {F H : Hp} {μ : Mu} (S : Sim K θ F H μ) {v : V} {w : W} (r : Rep K θ F v w) (h : insOf C m μ w = true) : ∃ a dx fs, v = .ref a ∧ H a = some (.ins C dx fs) ∧ fs.lookup m = none := by
  unfold insOf at h
  split at h
  · split at h
    · rename_i n D fs e1
      rw [Bool.and_eq_true, decide_eq_true_eq] at h
      obtain ⟨rfl, h2⟩ := h
      cases r with
      | loc e =>
        obtain ⟨b, e2, c⟩ := S.at e1
        rw [e] at e2; cases e2
        obtain ⟨_, dx, gs, q1, q2⟩ := c
        exact ⟨_, dx, gs, rfl, q1, q2.no (by simpa using h2)⟩
    · cases h
  · cases h
def eMe (C : Addr) (m : Str) (n : Nat) (f : FM) (o : EM) (ma : AM) : EM := fun ρ μ => (o ρ μ).bind fun x μ1 => if insOf C m μ1 x = true then (ma ρ μ1).bind fun ws μ2 => if ws.length + 1 = n then f (x :: ws) μ2 else .no else .no
theorem ad_me {K : PySem.W.Frag} {n : Nat} (ho : Ad K Wx (Rep K) ta mo) (ha : Ad K Wx (RepAll K) t ma) : Ad K Wx (Rep K) (tMeS C m (spD K n f) (WE Wx) ta t) (eMe C m n f mo ma) := by
  intro σ H Q θ F ρ μ S E ok
  refine ho.use S E ok fun θ1 F1 H1 μ1 v w x1 S1 E1 r1 ok1 => ?_
  split at ok1
  · rename_i hi
    obtain ⟨a, dx, fs, rfl, h1, h2⟩ := insOf_rep S1 r1 hi
    refine ⟨a, dx, fs, rfl, h1, h2, ?_⟩
    refine ha.use S1 E1 ok1 fun θ2 F2 H2 μ2 vs ws x2 S2 E2 r2 ok2 => ?_
    split at ok2
    · rename_i hl
      exact ⟨by rw [← hl, ← r2.length]; rfl, θ2, F2, w :: ws, μ2, S2, .cons (r1.mono x2.pre x2.sub) r2, ok2⟩
    · exact ok2.elim
  · exact ok1.elim
theorem ped_me {pl : Sem Bool} (ho : PED X Wx o ta mo) (c : Cls X.K C) (hm : Meth X.K C m a) (F : FnD X.prog X.w X.K X.mg X.base k a fd ps f) (hr : Room k X.A) (tk : L2N.Takes X Wx) (hb : Binds X.K fd ps []) (ha : PAD X Wx (e :: es) t ma)
    (hst : starEach (e :: es) X.env = (false, eval e X.env) :: starEach es X.env := by rfl) (hpl : (backTo pos (starEach es X.env)).any (·.1) = false := by rfl)
    (ht : eval (.Call (.Attribute o m apos) (e :: es) [] pos) X.env = (do
      let ov ← eval o X.env
      standAt apos.atName
      let (f, first) ← holding [ov] (getMethod ov m pl)
      callWith pos f first (backTo pos (starEach (e :: es) X.env)) (backToKw pos (keywordEach [] X.env))) := by rfl) :
    PED X Wx (.Call (.Attribute o m apos) (e :: es) [] pos) (tMeS C m (spD X.K ps.length f) (WE Wx) ta t) (eMe C m ps.length f mo ma) :=
  ⟨pe_meA (pl := pl) ho.pe c hm F hr hb (fun σ => L2N.passAt tk σ) ha.pa hst hpl ht, ad_me ho.ad ha.ad⟩
theorem ped_me0 {pl : Sem Bool} (ho : PED X Wx o ta mo) (c : Cls X.K C) (hm : Meth X.K C m a) (F : FnD X.prog X.w X.K X.mg X.base k a fd ps f) (hr : Room k X.A) (tk : L2N.Takes X Wx) (hb : Binds X.K fd ps [])
    (ht : eval (.Call (.Attribute o m apos) [] [] pos) X.env = (do
      let ov ← eval o X.env
      standAt apos.atName
      let (f, first) ← holding [ov] (getMethod ov m pl)
      callWith pos f first (backTo pos (starEach [] X.env)) (backToKw pos (keywordEach [] X.env))) := by rfl) :
    PED X Wx (.Call (.Attribute o m apos) [] [] pos) (tMeS C m (spD X.K ps.length f) (WE Wx) ta tNil) (eMe C m ps.length f mo aNil) :=
  ⟨pe_meA0 (pl := pl) ho.pe c hm F hr hb (fun σ => L2N.passAt tk σ) ht, ad_me ho.ad (fun σ H Q θ F ρ μ S E ok => ok.here S .nil)⟩
end

/-! ### instances -/
section
variable {X : Cx} {Wx : WX} {k : Nat} {a C : Addr} {fd : FuncData} {ps : List Str} {f : FM} {x m fl : Str} {p pos pos' tpos apos : Pos} {e o value : Expr} {es : List Expr} {t : TA} {ta tv : TE} {ma : AM} {mo mv : EM} {E : St → XK} {sp : Sp}
def tMkS (C : Addr) (sp : Sp) (E : St → XK) (t : TA) : TE := fun σ H Q => t σ H fun vs H1 => ∀ x dx, H1 x = none → H1 dx = none → dx ≠ x → sp (.ref x :: vs) (upd (upd H1 dx (.own x)) x (.ins C dx [])) (fun v H2 => v = .non ∧ Q (.ref x) H2) (E σ)
theorem run_mk {pins : List (Addr × Obj)} {σ : St} {H : Hp} {s : Shared} {Q : VK} {us : List Value} {vs : List V} (M : Mk X.K C a) (F : FnOk X.prog X.w X.K X.mg X.base (L2N.CX X.prog X.w) k a fd ps sp) (hr : Room (k + 1) X.A) (hb : Binds X.K fd ps [])
    (hx : PassesAt (L2N.CX X.prog X.w) X σ (E σ)) (I : Inv X pins σ H s) (r : Vals vs us)
    (h : ∀ x dx, H x = none → H dx = none → dx ≠ x → sp (.ref x :: vs) (upd (upd H dx (.own x)) x (.ins C dx [])) (fun v H2 => v = .non ∧ Q (.ref x) H2) (E σ)) :
    wpAny (model X.prog X.w) X.A (call (.ref C) us) (EP X pins σ Q) X.xe s := by
  have hq := h (s.heap.objs.size + 1) s.heap.objs.size (I.hok.fresh (Nat.le_succ _)) (I.hok.fresh (Nat.le_refl _)) (Nat.ne_of_lt (Nat.lt_succ_self _))
  have I2 := Inv.made (C := C) I
  have r2 : Vals (V.ref (s.heap.objs.size + 1) :: vs) (Value.ref (s.heap.objs.size + 1) :: us) := .cons rfl r
  have hl : (Value.ref (s.heap.objs.size + 1) :: us).length = ps.length := by rw [← r2.length]; exact F.len _ _ _ _ hq
  have b := hb _ (Value.ref (s.heap.objs.size + 1) :: us) I2.kIn (by rw [List.append_nil]; exact hl)
  rw [List.append_nil] at b
  refine wpAny_call (make_map (f := a) I.kIn M.makes M.init (beq_iff_eq.mp M.fn) (codeAny_mono (F.run _ X.stack _ _ ⟨Value.ref (s.heap.objs.size + 1) :: us, []⟩ (Value.ref (s.heap.objs.size + 1) :: us) _ _ (E σ) (hr.make C us []) (I2.env0.make C us []) b r2 hq) fun r s' hq' => ?_))
  cases r with
  | error e => exact hx pins _ _ e s' I2 hq'
  | ok fw =>
    cases fw with
    | ret u =>
      obtain ⟨v, H', I3, rv, ev, q3⟩ := I2.after hq'
      subst ev
      exact ⟨rv, V.ref (s.heap.objs.size + 1), H', I3, rfl, q3⟩
    | next => exact hq'.elim
    | brk => exact hq'.elim
    | cont => exact hq'.elim
theorem pe_mkA (M : Mk X.K C a) (F : FnOk X.prog X.w X.K X.mg X.base (L2N.CX X.prog X.w) k a fd ps sp) (hr : Room (k + 1) X.A) (hg : Gl X x) (hm : X.mg x = some (.ref C)) (hb : Binds X.K fd ps []) (hx : ∀ σ, PassesAt (L2N.CX X.prog X.w) X σ (E σ))
    (ha : PA X (e :: es) t) (hdb : (x == ("__debug__" : Str)) = false := by decide) (he : starEach (e :: es) X.env = (false, eval e X.env) :: starEach es X.env := by rfl) (hpl : (backTo pos (starEach es X.env)).any (·.1) = false := by rfl) :
    PE X (.Call (.Name x p) (e :: es) [] pos) (tMkS C sp E t) := by
  constructor
  intro pins s σ H Q I h
  refine wpAny_Call_Name_kw (ld_glob I hg hm (PySem.W.callWith_K (h₀ := X.base) I.ok.mod.kin M.kp (thn (ha.run pos pins s σ H _ I h) fun us s1 ⟨vs, H1, I1, r, q⟩ => ⟨I1.kIn, ?_⟩) he hpl) hdb)
  exact run_mk M F hr hb (hx σ) I1 r q
theorem pe_mkA0 (M : Mk X.K C a) (F : FnOk X.prog X.w X.K X.mg X.base (L2N.CX X.prog X.w) k a fd ps sp) (hr : Room (k + 1) X.A) (hg : Gl X x) (hm : X.mg x = some (.ref C)) (hb : Binds X.K fd ps []) (hx : ∀ σ, PassesAt (L2N.CX X.prog X.w) X σ (E σ))
    (hdb : (x == ("__debug__" : Str)) = false := by decide) : PE X (.Call (.Name x p) [] [] pos) (tMkS C sp E tNil) := by
  constructor
  intro pins s σ H Q I h
  exact wpAny_Call_Name_kw (ld_glob I hg hm (PySem.W.callWith_K0 I.kIn M.kp (run_mk (us := []) M F hr hb (hx σ) I .nil h)) hdb)
/-- a new instance, then what __init__ does -/
def eMk (C : Addr) (n : Nat) (f : FM) (m : AM) : EM := fun ρ μ => (m ρ μ).bind fun ws μ1 => if ws.length + 1 = n then (f (.loc μ1.length :: ws) (μ1 ++ [.ins C []])).bind fun r μ2 => match r with
  | .non => .ok (.loc μ1.length) μ2
  | _ => .no else .no
theorem ad_mk {K : PySem.W.Frag} {n : Nat} (ha : Ad K Wx (RepAll K) t ma) : Ad K Wx (Rep K) (tMkS C (spD K n f) (WE Wx) t) (eMk C n f ma) := by
  intro σ H Q θ F ρ μ S E ok
  refine ha.use S E ok fun θ1 F1 H1 μ1 vs ws x1 S1 E1 r1 ok1 => ?_
  split at ok1
  · rename_i hl
    intro x dx hx hdx hne
    have S2 := S1.aside (p := dx) (.own x) (S1.outF hdx) (S1.out hdx) (by rw [hdx]; intro _ z; cases z)
    have hx2 : upd H1 dx (.own x) x = none := by rw [upd_ne (Ne.symm hne)]; exact hx
    have x2 : Ext θ1 F1 H1 θ1 F1 (upd H1 dx (.own x)) := ⟨List.prefix_refl _, .refl _, fun b u e _ => .of (by rw [upd_ne (ne_of_none e hdx)]; exact e), fun _ m => .inl m, fun _ _ e => .inl e⟩
    obtain ⟨S3, x3⟩ := S2.alloc (p := x) (o := .ins C dx []) (c := .ins C []) hx2 ⟨S1.outF hx, dx, [], upd_same, .nil⟩
    have x23 := x2.trans x3
    have rx : Rep K (θ1 ++ [x]) F1 (.ref x) (.loc μ1.length) := .loc (by rw [← S1.len, List.getElem?_append_right (Nat.le_refl _)]; simp)
    refine ⟨by rw [← hl, ← r1.length]; rfl, θ1 ++ [x], F1, .loc μ1.length :: ws, μ1 ++ [.ins C []], S3, .cons rx (r1.mono x23.pre x23.sub), ?_⟩
    have ok2 := Out.Ok.mono ok1 x23
    cases e : f (.loc μ1.length :: ws) (μ1 ++ [.ins C []]) with
    | no => rw [e] at ok2; exact ok2
    | er c μ2 => rw [e] at ok2; exact ok2
    | ok r μ2 =>
      rw [e] at ok2
      intro θ4 F4 H4 v x4 S4 r4
      cases r4 with
      | non => exact ⟨rfl, ok2 θ4 F4 H4 _ x4 S4 (rx.mono x4.pre x4.sub)⟩
      | bl _ => exact ok2.elim
      | int _ => exact ok2.elim
      | str _ => exact ok2.elim
      | ty _ => exact ok2.elim
      | ref _ => exact ok2.elim
      | loc _ => exact ok2.elim
      | tup _ _ => exact ok2.elim
      | lst _ _ => exact ok2.elim
      | scr _ _ => exact ok2.elim
  · exact ok1.elim
theorem ped_mk (M : Mk X.K C a) (F : FnD X.prog X.w X.K X.mg X.base k a fd ps f) (hr : Room (k + 1) X.A) (tk : L2N.Takes X Wx) (hg : Gl X x) (hm : X.mg x = some (.ref C)) (hb : Binds X.K fd ps []) (ha : PAD X Wx (e :: es) t ma)
    (hdb : (x == ("__debug__" : Str)) = false := by decide) (he : starEach (e :: es) X.env = (false, eval e X.env) :: starEach es X.env := by rfl) (hpl : (backTo pos (starEach es X.env)).any (·.1) = false := by rfl) :
    PED X Wx (.Call (.Name x p) (e :: es) [] pos) (tMkS C (spD X.K ps.length f) (WE Wx) t) (eMk C ps.length f ma) := ⟨pe_mkA M F hr hg hm hb (fun σ => L2N.passAt tk σ) ha.pa hdb he hpl, ad_mk ha.ad⟩
theorem ped_mk0 (M : Mk X.K C a) (F : FnD X.prog X.w X.K X.mg X.base k a fd ps f) (hr : Room (k + 1) X.A) (tk : L2N.Takes X Wx) (hg : Gl X x) (hm : X.mg x = some (.ref C)) (hb : Binds X.K fd ps []) (hdb : (x == ("__debug__" : Str)) = false := by decide) :
    PED X Wx (.Call (.Name x p) [] [] pos) (tMkS C (spD X.K ps.length f) (WE Wx) tNil) (eMk C ps.length f aNil) := ⟨pe_mkA0 M F hr hg hm hb (fun σ => L2N.passAt tk σ) hdb, ad_mk (fun σ H Q θ F ρ μ S E ok => ok.here S .nil)⟩
/-- o.f -/
def fldOf (C : Addr) (fl : Str) (μ : Mu) : W → Option W
  | .loc n => match μ[n]? with
    | some (.ins D fs) => if D = C then fs.lookup fl else none
    | _ => none
  | _ => none
def eFld (C : Addr) (fl : Str) (o : EM) : EM := fun ρ μ => (o ρ μ).bind fun x μ1 => match fldOf C fl μ1 x with
  | some w => .ok w μ1
  | none => .no
theorem fldOf_rep {K : PySem.W.Frag} {θ : List Addr} {F H : Hp} {μ : Mu} (S : Sim K θ F H μ) {v : V} {w z : W} (r : Rep K θ F v w) (h : fldOf C fl μ w = some z) : ∃ a dx gs y, v = .ref a ∧ H a = some (.ins C dx gs) ∧ gs.lookup fl = some y ∧ Rep K θ F y z := by
  unfold fldOf at h
  split at h
  · split at h
    · rename_i n D fs e1
      split at h
      · rename_i hD
        subst hD
        cases r with
        | loc e =>
          obtain ⟨b, e2, c⟩ := S.at e1
          rw [e] at e2; cases e2
          obtain ⟨_, dx, gs, q1, q2⟩ := c
          obtain ⟨y, h3, r3⟩ := q2.look h
          exact ⟨_, dx, gs, y, rfl, q1, h3, r3⟩
      · cases h
    · cases h
  · cases h
theorem ped_fld (c : Cls X.K C) (n : NoAttr X.K C fl) (ho : PED X Wx o ta mo) (hb : attributeBase o fl X.env (eval o X.env) = eval o X.env := by rfl) : PED X Wx (.Attribute o fl pos) (tFld X.K ta fl) (eFld C fl mo) := by
  refine ⟨pe_fld ho.pe hb, fun σ H Q θ F ρ μ S E ok => ?_⟩
  refine ho.ad.use S E ok fun θ1 F1 H1 μ1 v w x1 S1 E1 r1 ok1 => ?_
  split at ok1
  · rename_i z hz
    obtain ⟨b, dx, gs, y, rfl, h1, h2, r2⟩ := fldOf_rep S1 r1 hz
    exact ⟨b, C, dx, gs, y, rfl, h1, c, n, h2, ok1.here S1 r2⟩
  · exact ok1.elim
/-- o.f = value -/
def setFld (C : Addr) (fl : Str) (y : W) (μ : Mu) : W → Option Mu
  | .loc n => match μ[n]? with
    | some (.ins D fs) => if D = C ∧ fs.length < 1000 then some (μ.set n (.ins C (putW fl y fs))) else none
    | _ => none
  | _ => none
theorem setFld_rep {K : PySem.W.Frag} {θ : List Addr} {F H : Hp} {μ μ' : Mu} (S : Sim K θ F H μ) {v u : V} {w y : W} (r : Rep K θ F v w) (q : Rep K θ F u y) (h : setFld C fl y μ w = some μ') : ∃ a dx gs, v = .ref a ∧ H a = some (.ins C dx gs) ∧ gs.length < 1000 ∧
    Sim K θ F (upd H a (.ins C dx (putF fl u gs))) μ' ∧ Ext θ F H θ F (upd H a (.ins C dx (putF fl u gs))) := by
  unfold setFld at h
  split at h
  · split at h
    · rename_i n D fs e1
      split at h
      · rename_i hD
        obtain ⟨hD, hl⟩ := hD
        subst hD
        cases h
        cases r with
        | loc e =>
          obtain ⟨b, e2, c⟩ := S.at e1
          rw [e] at e2; cases e2
          obtain ⟨hF, dx, gs, q1, q2⟩ := c
          obtain ⟨S1, x1⟩ := S.write (o := .ins D dx (putF fl u gs)) (c := .ins D (putW fl y fs)) e hF ⟨hF, dx, _, upd_same, q2.put q⟩
          exact ⟨_, dx, gs, rfl, q1, by rw [q2.length]; exact hl, S1, x1⟩
      · cases h
    · cases h
  · cases h
def sFldM (C : Addr) (fl : Str) (mv mo : EM) : SM := fun ρ μ => (mv ρ μ).st ρ fun y μ1 => (mo ρ μ1).st ρ fun x μ2 => match setFld C fl y μ2 x with
  | some μ3 => .nx ρ μ3
  | none => .no
theorem psd_fld (c : Cls X.K C) (n : NoAttr X.K C fl) (ho : PED X Wx o ta mo) (hv : PED X Wx value tv mv) (hs : swapsWith value (some (.Attribute o fl pos')) pos.line X.env = pure false := by rfl) : PSD X Wx (.Assign [.Attribute o fl pos'] value pos) (sFld X.K ta tv fl) (sFldM C fl mv mo) := by
  refine ⟨ps_fld ho.pe hv.pe hs, ?_⟩
  refine Ad.st (u := fun y D σ H1 => ta σ H1 fun x H2 => ∃ a C dx fs, x = .ref a ∧ H2 a = some (.ins C dx fs) ∧ Cls X.K C ∧ NoAttr X.K C fl ∧ fs.length < 1000 ∧ D.nx σ (upd H2 a (.ins C dx (putF fl y fs))))
    (f := fun y ρ μ1 => (mo ρ μ1).st ρ fun x μ2 => match setFld C fl y μ2 x with
      | some μ3 => .nx ρ μ3
      | none => .no) hv.ad fun D σ H θ F ρ μ y yw S E ry ok => ?_
  refine ho.ad σ H _ θ F ρ μ S E ?_
  cases e : mo ρ μ with
  | no => rw [e] at ok; exact ok
  | er c μ1 => rw [e] at ok; exact fun θ1 F1 H1 x1 S1 => ok θ1 F1 H1 σ x1 S1 (E.mono x1.pre x1.sub)
  | ok w μ1 =>
    rw [e] at ok
    intro θ1 F1 H1 v x1 S1 r1
    replace ok : SO.Ok X.K Wx θ F H D (match setFld C fl yw μ1 w with
      | some μ3 => .nx ρ μ3
      | none => .no) := ok
    split at ok
    · rename_i μ3 h3
      obtain ⟨b, dx, gs, rfl, h1, h2, S2, x2⟩ := setFld_rep S1 r1 (ry.mono x1.pre x1.sub) h3
      exact ⟨b, C, dx, gs, rfl, h1, c, n, h2, ok θ1 F1 _ σ (x1.trans x2) S2 (E.mono x1.pre x1.sub)⟩
    · exact ok.elim
/-- o.f += value, ints -/
def sFldAdd (C : Addr) (fl : Str) (mo mv : EM) : SM := fun ρ μ => (mo ρ μ).st ρ fun x μ1 => match fldOf C fl μ1 x with
  | some (.int i) => (mv ρ μ1).st ρ fun y μ2 => match y with
    | .int j => match setFld C fl (.int (i + j)) μ2 x with
      | some μ3 => .nx ρ μ3
      | none => .no
    | _ => .no
  | _ => .no
theorem psd_fldadd (c : Cls X.K C) (n : NoAttr X.K C fl) (ho : PED X Wx o ta mo) (hv : PED X Wx value tv mv) : PSD X Wx (.AugAssign (.Attribute o fl tpos) .Add value pos) (sFldAug X.K ta tv rAdd fl) (sFldAdd C fl mo mv) := by
  refine ⟨ps_fldaug ho.pe hv.pe in_add, ?_⟩
  refine Ad.st (u := fun x D σ H1 => ∃ a C dx fs v, x = .ref a ∧ H1 a = some (.ins C dx fs) ∧ Cls X.K C ∧ NoAttr X.K C fl ∧ fs.lookup fl = some v ∧ tv σ H1 fun y H2 => rAdd v y H2 fun z H3 => ∃ dx' fs', H3 a = some (.ins C dx' fs') ∧ fs'.length < 1000 ∧ D.nx σ (upd H3 a (.ins C dx' (putF fl z fs'))))
    (f := fun x ρ μ1 => match fldOf C fl μ1 x with
      | some (.int i) => (mv ρ μ1).st ρ fun y μ2 => match y with
        | .int j => match setFld C fl (.int (i + j)) μ2 x with
          | some μ3 => .nx ρ μ3
          | none => .no
        | _ => .no
      | _ => .no) ho.ad fun D σ H θ F ρ μ v w S E r ok => ?_
  split at ok
  · rename_i i hi
    obtain ⟨b, dx, gs, y, rfl, h1, h2, r2⟩ := fldOf_rep S r hi
    cases r2
    refine ⟨b, C, dx, gs, _, rfl, h1, c, n, h2, ?_⟩
    refine hv.ad σ H _ θ F ρ μ S E ?_
    cases e : mv ρ μ with
    | no => rw [e] at ok; exact ok
    | er c μ1 => rw [e] at ok; exact fun θ1 F1 H1 x1 S1 => ok θ1 F1 H1 σ x1 S1 (E.mono x1.pre x1.sub)
    | ok yw μ1 =>
      rw [e] at ok
      intro θ1 F1 H1 yv x1 S1 r1
      simp only [Out.st] at ok
      split at ok
      · rename_i j
        cases r1
        split at ok
        · rename_i μ3 h3
          obtain ⟨b', dx', gs', e', h1', h2', S2, x2⟩ := setFld_rep S1 (r.mono x1.pre x1.sub) (.int (i + j)) h3
          cases e'
          exact ⟨i, j, rfl, rfl, dx', gs', h1', h2', ok θ1 F1 _ σ (x1.trans x2) S2 (E.mono x1.pre x1.sub)⟩
        · exact ok.elim
      · exact ok.elim
  · exact ok.elim
end

/-! ### raise -/
def sRaise (C : Addr) : SM := fun ρ μ => .er C ρ μ
theorem psd_raise {X : Cx} {Wx : WX} {C : Addr} {e : Expr} {pos : Pos} (hc : X.calm = true) (tk : L2N.Takes X Wx) (he : L2N.PMk X e (fun _ H Q => Q (.ref C) none H)) : PSD X Wx (.Raise (some e) none pos) (fun _ σ H => Wx (.ref C) none σ H) (sRaise C) :=
  ⟨L2N.ps_raise hc tk he, fun D σ H θ F ρ μ S E ok => ok θ F H σ (.refl _ _ _) S E⟩

/-! ### targets -/
section
variable {X : Cx} {Wx : WX}
def gsNil : List W → Env → Mu → Out Env := fun ws ρ μ => match ws with
  | [] => .ok ρ μ
  | _ => .no
def gsName (i : Nat) (r : List W → Env → Mu → Out Env) : List W → Env → Mu → Out Env := fun ws ρ μ => match ws with
  | w :: ws => r ws (ρ.set i (some w)) μ
  | [] => .no
theorem pgsd_nil : PGsD X Wx [] gNil gsNil := by
  refine ⟨pgs_nil, fun vs ws σ H Q θ F ρ μ S E r ok => ?_⟩
  cases r with
  | nil => exact ⟨rfl, Out.Ok.here ok S E⟩
  | cons _ _ => exact ok.elim
theorem pgsd_name {i : Nat} {x : Str} {pos : Pos} {es : List Expr} {u : TGs} {mu : List W → Env → Mu → Out Env} (hN : X.N.Nodup) (hi : X.N[i]? = some x) (hx : Loc X.env.scope x) (h2 : PGsD X Wx es u mu)
    (hs : (assignEach (.Name x pos :: es) X.env).map (·.2) = assign (.Name x pos) X.env :: (assignEach es X.env).map (·.2) := by rfl) (hf : X.fn x = true ∨ X.env.scope.names.lookup x = some .local := by first | exact .inl rfl | exact .inr rfl | assumption) :
    PGsD X Wx (.Name x pos :: es) (gCons (gName i) u) (gsName i mu) := by
  refine ⟨pgs_cons (pg_name hN hi hx hf) h2.pg hs, fun vs ws σ H Q θ F ρ μ S E r ok => ?_⟩
  cases r with
  | nil => exact ok.elim
  | cons r1 r2 => exact ⟨_, _, rfl, h2.ad _ _ _ H Q θ F _ μ S (E.set i r1) r2 ok⟩
def gTupM (n : Nat) (r : List W → Env → Mu → Out Env) : W → Env → Mu → Out Env := fun w ρ μ => match w with
  | .tup l => if l.length = n then r l ρ μ else .no
  | _ => .no
theorem pgd_tup {es : List Expr} {k : Nat} {pos : Pos} {t : TGs} {n : Nat} {m : List W → Env → Mu → Out Env} (hc : X.calm = true) (h : PGsD X Wx es t m) (hn : (assignEach es X.env).length = n := by rfl) (hst : (assignEach es X.env).findIdx? (·.1) = none := by rfl)
    (her : ∀ ws ρ μ c μ', m ws ρ μ ≠ .er c μ') : PGD X Wx (.Tuple es k pos) (gTup X.K n t) (gTupM n m) := by
  refine ⟨pg_tup hc h.pg hn hst, fun v w σ H Q θ F ρ μ S E r ok => ?_⟩
  unfold gTupM at ok
  split at ok
  · split at ok
    · rename_i l hl
      cases r with
      | @tup a vs _ h1 q =>
        refine ⟨a, vs, rfl, S.sub.sqT h1, by rw [q.length]; exact hl, h.ad vs l σ H Q θ F ρ μ S E q ?_⟩
        cases e : m l ρ μ with
        | ok ρ' μ' => rw [e] at ok; exact ok
        | er c μ' => exact absurd e (her _ _ _ _ _)
        | no => rw [e] at ok; exact ok
    · exact ok.elim
  · exact ok.elim
/-- xs[i] = .. -/
def gSubM (o i : EM) : W → Env → Mu → Out Env := fun w ρ μ => (o ρ μ).bind fun x μ1 => (i ρ μ1).bind fun y μ2 => match x, y with
  | .loc n, .int k => match μ2[n]? with
    | some (.lst l) => match ixN l.length k with
      | some j => .ok ρ (μ2.set n (.lst (l.set j w)))
      | none => .no
    | _ => .no
  | _, _ => .no
theorem pgd_sub {o i : Expr} {pos : Pos} {to ti : TE} {mo mi : EM} (ho : PED X Wx o to mo) (hi : PED X Wx i ti mi)
    (ha : ∀ v, assign (.Subscript o i pos) X.env v = (do
      let ov ← holding [v] (eval o X.env)
      let iv ← holding [v, ov] (eval i X.env)
      standAt pos
      holding [v, ov, iv] (setItem ov iv v)
      release [v, ov, iv] []) := by intro _; rfl) : PGD X Wx (.Subscript o i pos) (L2.gSub to ti rSetL) (gSubM mo mi) := by
  refine ⟨pg_sub ho.pe hi.pe set_list ha, fun v w σ H Q θ F ρ μ S E r ok => ?_⟩
  refine ho.ad.use S E ok fun θ1 F1 H1 μ1 x xw x1 S1 E1 r1 ok1 => ?_
  refine hi.ad.use S1 E1 ok1 fun θ2 F2 H2 μ2 y yw x2 S2 E2 r2 ok2 => ?_
  split at ok2
  · split at ok2
    · rename_i n k _ l hl
      split at ok2
      · rename_i j hj
        cases r2
        obtain ⟨a, us, rfl, h1, h2, h3, q⟩ := loc_rep S2 (r1.mono x2.pre x2.sub) hl
        have x12 := x1.trans x2
        refine ⟨a, us, k, j, rfl, rfl, h3, by rw [q.length]; exact hj, ?_⟩
        obtain ⟨S3, x3⟩ := write_lst S2 h1 h2 (q.set (r.mono x12.pre x12.sub) j)
        exact ok2 _ _ _ _ x3 S3 (E2.mono x3.pre x3.sub)
      · exact ok2.elim
    · exact ok2.elim
  · exact ok2.elim
end

/-! ### a def's promise by its body -/
def startW (n : Nat) (ws : List W) : Env := ws.map some ++ List.replicate (n - ws.length) none
def fin : SO → Out W
  | .nx _ μ => .ok .non μ
  | .rt w μ => .ok w μ
  | .er c _ μ => .er c μ
  | _ => .no
def runB (n : Nat) (m : SM) : FM := fun ws μ => fin (m (startW n ws) μ)
theorem simE_start {K : PySem.W.Frag} {θ : List Addr} {F : Hp} {N : List Str} {vs : List V} {ws : List W} (q : RepAll K θ F vs ws) : SimE K θ F (L2.start N vs) (startW N.length ws) := by
  refine ⟨by unfold L2.start startW; simp [q.length], fun i w e => ?_⟩
  unfold startW at e
  by_cases hi : i < ws.length
  · rw [List.getElem?_append_left (by simpa using hi), List.getElem?_map] at e
    cases e1 : ws[i]? with
    | none => rw [e1] at e; cases e
    | some z =>
      rw [e1] at e; cases e
      obtain ⟨v, h1, r⟩ := q.get e1
      refine ⟨v, ?_, r⟩
      unfold L2.start
      rw [List.getElem?_append_left (by rw [List.length_map, q.length]; exact hi), List.getElem?_map, h1]
      rfl
  · rw [List.getElem?_append_right (by simpa using hi), List.getElem?_replicate] at e
    split at e <;> cases e
section
variable {P : Program} {w : World} {K : PySem.W.Frag} {mg : Str → Option Value} {base : Heap}
theorem fnd_of {x qual : Str} {st : Stmt} {f : Addr} {fd : FuncData} {N ps : List Str} {k : Nat} {m : SM} (F : Fun K x qual st f fd) (S : FnScope N ps (defScope st))
    (hb : ∀ (cdv : Value) (A : Around) (outer : List PySem.Env) (s : Shared) (H : Hp) (E : XK), Room k (A.deeper (envOfC qual (defScope st) s.heap.objs.size f cdv)) →
      ∃ t, PSsD (cxOf (L2N.CX P w) P w K mg base N qual (defScope st) f cdv A outer s H E) (fun cls d _ H => E cls d H) (defBody st) t m) : FnD P w K mg base (k + 1) f fd ps (runB N.length m) := by
  obtain ⟨oc, od, kV, doc, pm, an, cdv, ct, osl, rfl, lk, hcd⟩ := F.ex
  refine fn_of lk hcd S (fun vs H Q E h => h.1) fun A outer s H vs Q E hr hsp => ?_
  obtain ⟨t, ht⟩ := hb cdv A outer s H E hr
  refine ⟨t, ht.ps, ?_⟩
  obtain ⟨_, θ, G, ws, μ, S0, q, ok⟩ := hsp
  refine ht.ad _ _ H θ G (startW N.length ws) μ S0 (simE_start q) ?_
  unfold runB at ok
  cases e : m (startW N.length ws) μ with
  | nx ρ' μ' => rw [e] at ok; exact fun θ' F' H' σ' x S' _ => ok θ' F' H' .non x S' .non
  | rt w μ' => rw [e] at ok; exact ok
  | bk ρ' μ' => rw [e] at ok; exact ok.elim
  | ct ρ' μ' => rw [e] at ok; exact ok.elim
  | er c ρ' μ' => rw [e] at ok; exact fun θ' F' H' σ' x S' _ => ok θ' F' H' x S'
  | no => rw [e] at ok; exact ok.elim
end

/-! ### more statements and calls -/
section
variable {X : Cx} {Wx : WX} {pos : Pos} {e : Expr} {te : TE} {me : EM}
theorem pvd (i : Nat) {x : Str} {pos : Pos} (hN : X.N[i]? = some x := by rfl) (hv : Vis X.env.scope x := by first | exact Or.inl rfl | exact Or.inr (Or.inl rfl) | exact Or.inr (Or.inr rfl)) (hd : (x == ("__debug__" : Str)) = false := by decide)
    (hcd : (x == ("__classdict__" : Str)) = false := by decide) : PED X Wx (.Name x pos) (tVar i) (eVar i) := ped_var (pe_var hN hv hd hcd)
theorem ped_ty {x : Str} {n : String} (hg : Gl X x) (hm : X.mg x = none) (hv : bootBuiltins x = some (.type n)) (hn : x ≠ "__name__" := by decide) (hd : (x == ("__debug__" : Str)) = false := by decide) : PED X Wx (.Name x pos) (tC (.ty n)) (eC (.ty n)) :=
  ped_c (pe_bltn hg hm hv rfl hn hd) fun _ _ => .ty n
theorem ped_gint {x : Str} {i : Int} {t : Tok} (hg : Gl X x) (hm : X.mg x = some (.int i t)) (hd : (x == ("__debug__" : Str)) = false := by decide) : PED X Wx (.Name x pos) (tC (.int i)) (eC (.int i)) :=
  ped_c (pe_glob hg hm ⟨t, rfl⟩ hd) fun _ _ => .int i
theorem ped_gstr {x y : Str} {t : Tok} (hg : Gl X x) (hm : X.mg x = some (.str y t)) (hd : (x == ("__debug__" : Str)) = false := by decide) : PED X Wx (.Name x pos) (tC (.str y)) (eC (.str y)) :=
  ped_c (pe_glob hg hm ⟨t, rfl⟩ hd) fun _ _ => .str y
theorem ped_gtup {x : Str} {a : Addr} {vs : List V} {ws : List W} (hg : Gl X x) (hm : X.mg x = some (.ref a)) (h : ∀ F, SqT X.K F a vs) (q : ∀ θ F, RepAll X.K θ F vs ws) (hd : (x == ("__debug__" : Str)) = false := by decide) : PED X Wx (.Name x pos) (tC (.ref a)) (eC (.tup ws)) :=
  ped_c (pe_glob hg hm rfl hd) fun θ F => .tup (h F) (q θ F)
def sPar (i j : Nat) (m : AM) : SM := fun ρ μ => (m ρ μ).st ρ fun ws μ1 => match ws with
  | [x, y] => .nx ((ρ.set i (some x)).set j (some y)) μ1
  | _ => .no
theorem psd_par {i j : Nat} {x y : Str} {a b : Expr} {ta : TA} {ma : AM} {px py pt : Pos} {kt k2 : Nat} {pt2 : Pos} (hc : X.calm = true) (hN : X.N.Nodup) (hi : X.N[i]? = some x) (hj : X.N[j]? = some y) (hij : i ≠ j)
    (hx : X.env.scope.names.lookup x = some .local) (hy : X.env.scope.names.lookup y = some .local) (ha : PAD X Wx [a, b] ta ma)
    (hw : swappedStores [.Tuple [.Name x px, .Name y py] kt pt] (.Tuple [a, b] k2 pt2) X.env = pure (some [x, y])) (hs : swapsWithSole [.Tuple [.Name x px, .Name y py] kt pt] (.Tuple [a, b] k2 pt2) pos.line X.env = pure false := by rfl) :
    PSD X Wx (.Assign [.Tuple [.Name x px, .Name y py] kt pt] (.Tuple [a, b] k2 pt2) pos) (tPar i j ta) (sPar i j ma) := by
  refine ⟨ps_par hc hN hi hj hij hx hy ha.pa hw hs, ?_⟩
  refine Ad.st (u := fun vs D σ H => ∃ v w, vs = [v, w] ∧ D.nx ((σ.set i (some v)).set j (some w)) H) (f := fun ws ρ μ1 => match ws with
    | [x, y] => .nx ((ρ.set i (some x)).set j (some y)) μ1
    | _ => .no) ha.ad fun D σ H θ F ρ μ vs ws S E r ok => ?_
  split at ok
  · obtain ⟨v, w, rfl, r1, r2⟩ := rep2 r
    exact ⟨v, w, rfl, ok θ F H _ (.refl _ _ _) S ((E.set i r1).set j r2)⟩
  · exact ok.elim
/-- x += e, ints -/
def sAdd (i : Nat) (m : EM) : SM := fun ρ μ => match ρ[i]? with
  | some (some (.int a)) => (m ρ μ).st ρ fun w μ1 => match w with
    | .int b => .nx (ρ.set i (some (.int (a + b)))) μ1
    | _ => .no
  | _ => .no
theorem psd_add {i : Nat} {x : Str} {pos' : Pos} (hN : X.N.Nodup) (hi : X.N[i]? = some x) (hx : Loc X.env.scope x) (h : PED X Wx e te me) (hf : X.fn x = true ∨ X.env.scope.names.lookup x = some .local := by first | exact .inl rfl | exact .inr rfl | assumption) :
    PSD X Wx (.AugAssign (.Name x pos') .Add e pos) (tAug i te (ipI fun i j => i + j)) (sAdd i me) := by
  refine ⟨ps_aug hN hi hx h.pe ip_add hf, fun D σ H θ F ρ μ S E ok => ?_⟩
  unfold sAdd at ok
  split at ok
  · rename_i a ha
    obtain ⟨v, h1, r1⟩ := E.get i _ ha
    cases r1
    refine ⟨_, h1, h.ad σ H _ θ F ρ μ S E ?_⟩
    cases e1 : me ρ μ with
    | no => rw [e1] at ok; exact ok
    | er c μ1 => rw [e1] at ok; exact fun θ1 F1 H1 x1 S1 => ok θ1 F1 H1 σ x1 S1 (E.mono x1.pre x1.sub)
    | ok w μ1 =>
      rw [e1] at ok
      intro θ1 F1 H1 v x1 S1 r
      simp only [Out.st] at ok
      split at ok
      · cases r
        exact ⟨_, _, rfl, rfl, ok θ1 F1 H1 _ x1 S1 ((E.mono x1.pre x1.sub).set i (.int _))⟩
      · exact ok.elim
  · exact ok.elim
/-- -n -/
def eNeg (m : EM) : EM := fun ρ μ => (m ρ μ).bind fun w μ1 => match w with
  | .int i => .ok (.int (-i)) μ1
  | _ => .no
theorem ped_neg (h : PED X Wx e te me) : PED X Wx (.UnaryOp .USub e pos) (tUn (rU fun i => .int (-i)) te) (eNeg me) := by
  refine ⟨pe_un un_neg h.pe, fun σ H Q θ F ρ μ S E ok => ?_⟩
  refine h.ad.use S E ok fun θ1 F1 H1 μ1 v w x1 S1 E1 r ok1 => ?_
  split at ok1
  · cases r
    exact ⟨_, rfl, ok1.here S1 (.int _)⟩
  · exact ok1.elim
theorem takes0N {X : Cx} : L2N.Takes X W0 := fun u s' ⟨_, _, _, _, _, _, _, _, _, _, _, _, _, _, _, _, w⟩ => w.elim
end
end PD
namespace PDM
open PySem PySem.Spec PyProof.Rows L2
abbrev leP (p q : Int × Int) : Bool := !SrtO.lexB q p
def sortP (ps : List (Int × Int)) : List (Int × Int) := ps.mergeSort leP
theorem leP_trans (a b c : Int × Int) : leP a b = true → leP b c = true → leP a c = true := by
  simp only [leP, Bool.not_eq_true', SrtO.lexB_no]
  omega
theorem leP_total (a b : Int × Int) : (leP a b || leP b a) = true := by
  simp only [leP, Bool.or_eq_true, Bool.not_eq_true', SrtO.lexB_no]
  omega
theorem leP_anti {a b : Int × Int} (h : leP a b = true) (h' : leP b a = true) : a = b := by
  simp only [leP, Bool.not_eq_true', SrtO.lexB_no] at h h'
  obtain ⟨a1, a2⟩ := a
  obtain ⟨b1, b2⟩ := b
  simp only at h h'
  have : a1 = b1 := by omega
  have : a2 = b2 := by omega
  simp_all
theorem sortP_uniq {l ps : List (Int × Int)} (h : l.Pairwise fun a b => leP a b = true) (p : l.Perm ps) : l = sortP ps := by
  refine List.Perm.eq_of_pairwise (le := fun a b => leP a b = true) (fun a b _ _ h h' => leP_anti h h') h ?_ (p.trans (List.mergeSort_perm _ _).symm)
  exact List.pairwise_mergeSort (fun a b c => leP_trans a b c) (fun a b => leP_total a b) _
theorem sortP_eq {l ps : List (Int × Int)} (p : l.Perm ps) : sortP l = sortP ps := by
  refine sortP_uniq ?_ ((List.mergeSort_perm _ _).trans p)
  exact List.pairwise_mergeSort (fun a b c => leP_trans a b c) (fun a b => leP_total a b) _
theorem sortP_perm {l ps : List (Int × Int)} (e : sortP l = sortP ps) : l.Perm ps := (List.mergeSort_perm l leP).symm.trans ((show l.mergeSort leP = ps.mergeSort leP from e) ▸ List.mergeSort_perm ps leP)
def PairAt (K : PySem.W.Frag) (H : Hp) (x : V) (p : Int × Int) : Prop := ∃ t, x = .ref t ∧ SqT K H t [.int p.1, .int p.2]
def rSortedQ (K : PySem.W.Frag) : List V → Hp → VK → Prop := fun vs H Q => ∃ (a : Addr) (xs : List V) (ps : List (Int × Int)), vs = [.ref a] ∧ SqL K H a xs ∧ xs.length = ps.length ∧ (∀ (i : Nat) (x : V) (p : Int × Int), xs[i]? = some x → ps[i]? = some p → PairAt K H x p) ∧
  ∀ (ys : List V) (q : Addr), ys.length = ps.length → (∀ (i : Nat) (x : V) (p : Int × Int), ys[i]? = some x → (sortP ps)[i]? = some p → ∃ j : Nat, xs[j]? = some x ∧ ps[j]? = some p) → H q = none → Q (.ref q) (upd H q (.lst ys))
theorem pair_uniq {h : Heap} {v : Value} {a b c d : Int} (p : Srt.IsPair h v a b) (q : Srt.IsPair h v c d) : a = c ∧ b = d := by
  obtain ⟨t, o, t1, t2, n, rfl, ho, hc, hd⟩ := p
  obtain ⟨t', o', t1', t2', n', e, ho', hc', hd'⟩ := q
  cases e
  rw [ho] at ho'; cases ho'
  rw [hd] at hd'
  cases hd'
  exact ⟨rfl, rfl⟩
open Classical in
noncomputable def keyAt (h : Heap) (v : Value) : Int × Int := if e : ∃ p : Int × Int, Srt.IsPair h v p.1 p.2 then e.choose else (0, 0)
theorem keyAt_eq {h : Heap} {v : Value} {p : Int × Int} (e : Srt.IsPair h v p.1 p.2) : keyAt h v = p := by
  have e' : ∃ p : Int × Int, Srt.IsPair h v p.1 p.2 := ⟨p, e⟩
  unfold keyAt
  rw [dif_pos e']
  obtain ⟨h1, h2⟩ := pair_uniq e'.choose_spec e
  exact Prod.ext h1 h2
theorem Vals.at : ∀ {xs : List V} {us : List Value} {i : Nat} {u : Value}, Vals xs us → us[i]? = some u → ∃ x, xs[i]? = some x ∧ RelV x u
  | _, _, _, _, .nil, e => by simp at e
  | _, _, 0, _, .cons r _, e => by simp at e; subst e; exact ⟨_, rfl, r⟩
  | _, _, i + 1, u, .cons _ t, e => by
    obtain ⟨x, h1, h2⟩ := Vals.at (i := i) (u := u) t (by simpa using e)
    exact ⟨x, by simpa using h1, h2⟩
section
variable {X : Cx}
theorem pair_raw {pins : List (Addr × Obj)} {σ : L2.St} {H : Hp} {s : Shared} (I : Inv X pins σ H s) {t : Addr} {p : Int × Int} (h : SqT X.K H t [.int p.1, .int p.2]) : Srt.IsPair s.heap (.ref t) p.1 p.2 := by
  obtain ⟨its, rv, hl, hz⟩ := I.tuple h
  obtain ⟨u1, u2, rfl, ri, rj⟩ := vals2 rv
  obtain ⟨t1, rfl⟩ := ri
  obtain ⟨t2, rfl⟩ := rj
  obtain ⟨o, ho, hc, n, hd⟩ := hl
  exact ⟨t, o, t1, t2, n, rfl, ho, hc, hd⟩
theorem cr_sortedQ : CallR X (.builtin "sorted") (rSortedQ X.K) := by
  intro pins s σ H vs us Q I r h
  obtain ⟨a, xs, ps, rfl, hs, hlen, hx, q⟩ := h
  obtain ⟨its, rv, hl, hz⟩ := I.list hs
  obtain ⟨u, rfl, ru⟩ := vals1 r
  obtain rfl : u = Value.ref a := ru
  have ri : ∀ x ∈ xs, ∃ t, x = V.ref t := fun x m => by
    obtain ⟨i, hi⟩ := List.mem_iff_getElem?.mp m
    have hi2 : i < ps.length := by rw [← hlen]; exact (List.getElem?_eq_some_iff.mp hi).1
    obtain ⟨t, e, _⟩ := hx i x ps[i] hi (List.getElem?_eq_getElem hi2)
    exact ⟨t, e⟩
  obtain ⟨e1, e2⟩ := refs_back rv ri
  have at_ : ∀ (i : Nat) (v : Value), its[i]? = some v → ∃ p, ps[i]? = some p ∧ Srt.IsPair s.heap v p.1 p.2 ∧ PairAt X.K H (backV v) p := fun i v hv => by
    have hxi : xs[i]? = some (backV v) := by rw [e1, List.getElem?_map, hv]; rfl
    have hi2 : i < ps.length := by rw [← hlen]; exact (List.getElem?_eq_some_iff.mp hxi).1
    obtain ⟨t, e, hsq⟩ := hx i _ ps[i] hxi (List.getElem?_eq_getElem hi2)
    obtain ⟨t', rfl⟩ := e2 v (List.mem_of_getElem? hv)
    have et : t' = t := by
      have e' : V.ref t' = V.ref t := e
      cases e'; rfl
    subst et
    exact ⟨ps[i], List.getElem?_eq_getElem hi2, pair_raw I hsq, t', rfl, hsq⟩
  have kps : its.map (keyAt s.heap) = ps := by
    have hl2 : its.length = ps.length := by rw [← hlen, rv.length]
    refine List.ext_getElem? fun i => ?_
    rw [List.getElem?_map]
    cases hi : its[i]? with
    | none =>
      rw [List.getElem?_eq_none (by rw [← hl2]; exact List.getElem?_eq_none_iff.mp hi)]; rfl
    | some v =>
      obtain ⟨p, h1, h2, _⟩ := at_ i v hi
      rw [h1]
      show some (keyAt s.heap v) = _
      rw [keyAt_eq h2]
  refine SrtO.sorted_pairsO (k := keyAt s.heap) hl.isList (by rw [← rv.length]; exact hz) (fun v hv => ?_) fun h' d out h1 h2 kp hd hn => ?_
  · obtain ⟨i, hi⟩ := List.mem_iff_getElem?.mp hv
    obtain ⟨p, _, h2, _⟩ := at_ i v hi
    rw [keyAt_eq h2]; exact h2
  · have h3 : ∀ u ∈ out, ∃ a, u = Value.ref a := fun u hu => e2 u (h2.perm.mem_iff.mp hu)
    obtain ⟨n, hn⟩ := hn
    have hlo : out.length = its.length := h2.perm.length_eq
    have hso : out.map (keyAt s.heap) = sortP ps := by
      refine sortP_uniq ?_ (by rw [← kps]; exact h2.perm.map _)
      rw [List.pairwise_map]
      refine List.Pairwise.imp (fun {x y} h => ?_) h1
      show (!SrtO.lexB (keyAt s.heap y) (keyAt s.heap x)) = true
      have h' : SrtO.lexB (keyAt s.heap y) (keyAt s.heap x) = false := h
      rw [h']; rfl
    refine ⟨.ref d, upd H d (.lst (out.map backV)), I.laid (t' := s.toks) kp hd ⟨?_, out, n, vals_back h3, hn⟩, rfl, q _ d ?_ (fun i x p hx' hp => ?_) (I.hok.fresh hd)⟩
    · rw [List.length_map, hlo, ← rv.length]; exact hz
    · rw [List.length_map, hlo, ← hlen, rv.length]
    · rw [List.getElem?_map] at hx'
      obtain ⟨v, hv, rfl⟩ := Option.map_eq_some_iff.mp hx'
      rw [← hso, List.getElem?_map, hv] at hp
      cases hp
      obtain ⟨j, hj⟩ := List.mem_iff_getElem?.mp (h2.perm.mem_iff.mp (List.mem_of_getElem? hv))
      obtain ⟨p, g1, g2, g3⟩ := at_ j v hj
      refine ⟨j, ?_, by rw [keyAt_eq g2]; exact g1⟩
      rw [e1, List.getElem?_map, hj]; rfl
end
end PDM
namespace PD
open PySem PySem.Spec PyProof.Rows L2
variable [Tbs]
/-! ### pairs of ints: min, sorted; reversed -/
def pairW (p : Int × Int) : W := .tup [.int p.1, .int p.2]
def pairOf : W → Option (Int × Int)
  | .tup [.int a, .int b] => some (a, b)
  | _ => none
def pairsOf : List W → Option (List (Int × Int))
  | [] => some []
  | w :: ws => match pairOf w, pairsOf ws with
    | some p, some ps => some (p :: ps)
    | _, _ => none
theorem pairOf_eq {w : W} {p : Int × Int} (h : pairOf w = some p) : w = pairW p := by
  unfold pairOf at h
  split at h
  · cases h; rfl
  · cases h
theorem pairsOf_eq : ∀ {ws : List W} {ps : List (Int × Int)}, pairsOf ws = some ps → ws = ps.map pairW
  | [], ps, h => by cases h; rfl
  | w :: ws, ps, h => by
    unfold pairsOf at h
    split at h
    · rename_i p qs h1 h2
      cases h
      rw [pairOf_eq h1, pairsOf_eq h2]; rfl
    · cases h
theorem pairsOf_map : ∀ (ps : List (Int × Int)), pairsOf (ps.map pairW) = some ps
  | [] => rfl
  | p :: ps => by
    rw [List.map_cons]
    unfold pairsOf
    rw [pairsOf_map ps]; rfl
def kOf (ps : List (Int × Int)) (i : Nat) : List Int := match ps[i]? with
  | some p => [p.1, p.2]
  | none => []
def minIx (ps : List (Int × Int)) : Nat := argBest (fun i j => HT.lexLt (kOf ps i) (kOf ps j)) (ps.length - 1)
def cMinP : GC := fun ws μ => match ws with
  | [w] => match asL μ w with
    | some l => match pairsOf l with
      | some ps => match ps[minIx ps]? with
        | some p => .ok (pairW p) μ
        | none => .no
      | none => .no
    | none => .no
  | _ => .no
def cSortP : GC := fun ws μ => match ws with
  | [w] => match asL μ w with
    | some l => match pairsOf l with
      | some ps => .ok (.lst ((PDM.sortP ps).map pairW)) μ
      | none => .no
    | none => .no
  | _ => .no
theorem rep_pair {K : PySem.W.Frag} {θ : List Addr} {F : Hp} {v : V} {p : Int × Int} (r : Rep K θ F v (pairW p)) : ∃ t, v = .ref t ∧ SqT K F t [.int p.1, .int p.2] := by
  cases r with
  | tup h q =>
    rename_i a vs
    cases q with
    | cons r1 q => cases r1; cases q with
      | cons r2 q => cases r2; cases q with
        | nil => exact ⟨a, rfl, h⟩
theorem pair_rep {K : PySem.W.Frag} {θ : List Addr} {F : Hp} {t : Addr} {p : Int × Int} (h : SqT K F t [.int p.1, .int p.2]) : Rep K θ F (.ref t) (pairW p) := .tup h (.cons (.int _) (.cons (.int _) .nil))
section
variable {K : PySem.W.Frag}
theorem adc_minP : AdC K (PDM.rMinP K) cMinP := by
  intro vs ws E Q H θ F μ S q ok
  unfold cMinP at ok
  split at ok
  · rename_i w
    obtain ⟨v, rfl, r⟩ := rep1 q
    split at ok
    · rename_i l hl
      split at ok
      · rename_i ps hp
        split at ok
        · rename_i p hm
          obtain ⟨a, xs, rfl, ha, hq⟩ := asL_rep S r hl
          rw [pairsOf_eq hp] at hq
          have hlen : xs.length = ps.length := by rw [hq.length, List.length_map]
          have hpos : 0 < ps.length := Nat.lt_of_le_of_lt (Nat.zero_le _) (List.getElem?_eq_some_iff.mp hm).1
          have at_ : ∀ (i : Nat) (x : V), xs[i]? = some x → ∃ p, ps[i]? = some p ∧ Rep K θ F x (pairW p) := fun i x hx => by
            obtain ⟨w, hw, rx⟩ := hq.getV hx
            rw [List.getElem?_map] at hw
            obtain ⟨p, h1, rfl⟩ := Option.map_eq_some_iff.mp hw
            exact ⟨p, h1, rx⟩
          refine ⟨a, xs, kOf ps, rfl, .of ha, fun i x hx => ?_, by rw [hlen]; exact hpos, fun x hx => ?_⟩
          · obtain ⟨p, h1, rx⟩ := at_ i x hx
            obtain ⟨t, rfl, ht⟩ := rep_pair rx
            refine ⟨t, rfl, ?_⟩
            have e : (kOf ps i).map V.int = [.int p.1, .int p.2] := by unfold kOf; rw [h1]; rfl
            rw [e]
            exact S.sub.sqT ht
          · rw [hlen] at hx
            obtain ⟨p', h1, rx⟩ := at_ _ x hx
            have h2 : ps[minIx ps]? = some p' := h1
            rw [hm] at h2
            cases h2
            exact ok.here S rx
        · exact ok.elim
      · exact ok.elim
    · exact ok.elim
  · exact ok.elim
theorem adc_sortP : AdC K (PDM.rSortedQ K) cSortP := by
  intro vs ws E Q H θ F μ S q ok
  unfold cSortP at ok
  split at ok
  · rename_i w
    obtain ⟨v, rfl, r⟩ := rep1 q
    split at ok
    · rename_i l hl
      split at ok
      · rename_i ps hp
        obtain ⟨a, xs, rfl, ha, hq⟩ := asL_rep S r hl
        rw [pairsOf_eq hp] at hq
        have hlen : xs.length = ps.length := by rw [hq.length, List.length_map]
        have at_ : ∀ (i : Nat) (x : V), xs[i]? = some x → ∃ p, ps[i]? = some p ∧ Rep K θ F x (pairW p) := fun i x hx => by
          obtain ⟨w, hw, rx⟩ := hq.getV hx
          rw [List.getElem?_map] at hw
          obtain ⟨p, h1, rfl⟩ := Option.map_eq_some_iff.mp hw
          exact ⟨p, h1, rx⟩
        refine ⟨a, xs, ps, rfl, .of ha, hlen, fun i x p hx hp' => ?_, fun ys d hy hat hd => ?_⟩
        · obtain ⟨p', h1, rx⟩ := at_ i x hx
          rw [hp'] at h1; cases h1
          obtain ⟨t, rfl, ht⟩ := rep_pair rx
          exact ⟨t, rfl, S.sub.sqT ht⟩
        · have rs : RepAll K θ F ys ((PDM.sortP ps).map pairW) := by
            have hl2 : ys.length = (PDM.sortP ps).length := by rw [hy]; exact (List.length_mergeSort ps).symm
            have gen : ∀ (ys : List V) (zs : List (Int × Int)), ys.length = zs.length → (∀ (i : Nat) (x : V) (p : Int × Int), ys[i]? = some x → zs[i]? = some p → ∃ j : Nat, xs[j]? = some x ∧ ps[j]? = some p) → RepAll K θ F ys (zs.map pairW) := by
              intro ys
              induction ys with
              | nil =>
                intro zs h _
                cases zs with
                | nil => exact .nil
                | cons z zs => simp at h
              | cons y ys ih =>
                intro zs h hh
                cases zs with
                | nil => simp at h
                | cons z zs =>
                  obtain ⟨j, h1, h2⟩ := hh 0 y z rfl rfl
                  obtain ⟨p', h3, rx⟩ := at_ j y h1
                  rw [h2] at h3; cases h3
                  exact .cons rx (ih zs (by simpa using h) fun i x p h1 h2 => hh (i + 1) x p h1 h2)
            exact gen ys _ hl2 hat
          obtain ⟨S2, x2⟩ := S.froze (.lst ys) hd
          exact ok _ _ _ _ x2 S2 (.lst upd_same (rs.mono (List.prefix_refl _) (sub_upd (S.outF hd))))
      · exact ok.elim
    · exact ok.elim
  · exact ok.elim
end
/-- list(reversed(x)), to be changed -/
def eRevM (m : EM) : EM := fun ρ μ => (m ρ μ).bind fun w μ1 => match asL μ1 w with
  | some l => .ok (.loc μ1.length) (μ1 ++ [.lst l.reverse])
  | none => .no
section
variable {X : Cx} {Wx : WX} {e : Expr} {te : TE} {m : EM} {p p2 pos pos2 : Pos}
theorem ped_revM (hc : X.calm = true) (hg : Gl X "list") (hm : X.mg "list" = none) (hg2 : Gl X "reversed") (hm2 : X.mg "reversed" = none) (he : PED X Wx e te m)
    (hs : starEach [e] X.env = (false, eval e X.env) :: starEach [] X.env := by rfl)
    (hs2 : starEach [.Call (.Name "reversed" p2) [e] [] pos2] X.env = (false, eval (.Call (.Name "reversed" p2) [e] [] pos2) X.env) :: starEach [] X.env := by rfl) :
    PED X Wx (.Call (.Name "list" p) [.Call (.Name "reversed" p2) [e] [] pos2] [] pos) (PDM.tRevL X.K te) (eRevM m) := by
  refine ⟨PDM.pe_revL hc hg hm hg2 hm2 he.pe hs hs2, fun σ H Q θ F ρ μ S E ok => ?_⟩
  refine he.ad.use S E ok fun θ1 F1 H1 μ1 v w x1 S1 E1 r ok1 => ?_
  split at ok1
  · rename_i l hl
    obtain ⟨a, vs, rfl, ha, q⟩ := asL_rep S1 r hl
    refine ⟨a, vs, rfl, .of ha, fun d hd => ?_⟩
    obtain ⟨S2, x2, r2⟩ := new_cell S1 q.reverse hd
    exact ok1 _ _ _ _ x2 S2 r2
  · exact ok1.elim

end
end PD
namespace PD
open PySem PySem.Spec PyProof.Rows L2
variable [Tbs]
/-! ### while an exception is handled -/
section
variable {X : Cx} {Wx : WX} {tg elt iter : Expr} {ifs : List Expr} {scope : Scope} {own : List (Str × Nat)} {pos : Pos} {tl : TE} {ml : EM} {g : TG} {mg : W → Env → Mu → Out Env} {tt : TT} {mt : BM} {te : TE} {me : EM}
/-- a list or cell walked, as a list -/
def iLst (m : EM) : IM := fun ρ μ => (m ρ μ).bind fun w μ1 => match w with
  | .lst l => .ok (.seq l) μ1
  | _ => .no
theorem ad_iLst {K : PySem.W.Frag} (h : Ad K Wx (Rep K) tl ml) : Ad K Wx (Impl K) (iList K tl) (iLst ml) := by
  intro σ H Q θ F ρ μ S E ok
  refine h.use S E ok fun θ1 F1 H1 μ1 v w x1 S1 E1 r ok1 => ?_
  split at ok1
  · rename_i l
    cases r with
    | lst ha q => exact ⟨_, rfl, ⟨_, .of (S1.sub _ _ ha)⟩, ok1.here S1 (impl_list (.of ha) q)⟩
  · exact ok1.elim
theorem ped_cmpH (hot : L2H.HotC X) (hN : X.N.Nodup) (hi : PED X Wx iter tl ml) (ok : BlkOk X.N X.env.scope scope own) (hw : GOwn g (own.map (·.2)))
    (hg : ∀ (s : Shared) (H : Hp) (C : Addr) (cl : List (Str × Addr)) (fp : List Addr), PGD (X.blk s H scope (compEnvC scope cl C X.env) fp) W0 tg g mg) (ht : ∀ (s : Shared) (H : Hp) (C : Addr) (cl : List (Str × Addr)) (fp : List Addr), PTsD (X.blk s H scope (compEnvC scope cl C X.env) fp) W0 ifs tt mt)
    (he : ∀ (s : Shared) (H : Hp) (C : Addr) (cl : List (Str × Addr)) (fp : List Addr), PED (X.blk s H scope (compEnvC scope cl C X.env) fp) W0 elt te me) (hs : ∀ x, foldedSetIterable iter X.env x = pure x := by intro _; rfl) :
    PED X Wx (.ListComp elt [⟨tg, iter, ifs, 0⟩] scope pos) (tLc (iList X.K tl) g tt te (own.map (·.2))) (eCmp (iLst ml) (own.map (·.2)) mg mt me) := by
  refine ⟨PDM.pe_lcH hot hN hi.pe ok (fun s H C cl fp => (hg s H C cl fp).pg) (fun s H C cl fp => (ht s H C cl fp).pt) (fun s H C cl fp => (he s H C cl fp).pe) hs, fun σ H Q θ F ρ μ S E okk => ?_⟩
  have hg0 := (hg X.s_0 X.H_0 0 [] []).ad
  have ht0 := (ht X.s_0 X.H_0 0 [] []).ad
  have he0 := (he X.s_0 X.H_0 0 [] []).ad
  refine (ad_iLst hi.ad).use S E okk fun θ1 F1 H1 μ1 J it x1 S1 E1 hJ ok1 => ?_
  cases it with
  | seq l => exact ad_lc (l := l) (ρ := ρ) hw hg0 ht0 he0 hJ S1 E1 (by rw [cmpL_seq]; exact ok1)
  | cell n =>
    dsimp only at ok1
    cases e2 : (Iter.cell n).items μ1 with
    | none => rw [e2] at ok1; exact ok1.elim
    | some l =>
      rw [e2] at ok1
      exact ad_lc (l := l) (ρ := ρ) hw hg0 ht0 he0 hJ S1 E1 ok1
/-- isinstance(e, C), e the handled exception of the class at D -/
def cIsE (k : Addr → Option Bool) (a : Addr) : GC := fun ws μ => match ws with
  | [.ref b, .ref C] => if b = a then match k C with
    | some r => .ok (.bl r) μ
    | none => .no
   else .no
  | _ => .no
theorem adc_isE {K : PySem.W.Frag} {D a : Addr} {k : Addr → Option Bool} (hk : ∀ C b, k C = some b → PySem.W.kitOne K (.ref D) (.ref C) = some b) : AdC K (rIsE K D a) (cIsE k a) := by
  intro vs ws E Q H θ F μ S q ok
  unfold cIsE at ok
  split at ok
  · rename_i b C
    split at ok
    · rename_i hb
      subst hb
      split at ok
      · rename_i r hr
        obtain ⟨v, u, rfl, r1, r2⟩ := rep2 q
        cases r1
        cases r2
        exact ⟨_, .ref C, r, rfl, fun u h => h, hk _ _ hr, ok.here S (.bl r)⟩
      · exact ok.elim
    · exact ok.elim
  · exact ok.elim
theorem ped_gref {x : Str} {a : Addr} (hg : Gl X x) (hm : X.mg x = some (.ref a)) (hd : (x == ("__debug__" : Str)) = false := by decide) : PED X Wx (.Name x pos) (tC (.ref a)) (eC (.ref a)) :=
  ped_c (pe_glob hg hm rfl hd) fun θ F => .ref a
end
/-- what a def called by a handled exception promises: class c gives w -/
def spW (K : PySem.W.Frag) (wd : Addr → Option W) (p : Addr × Obj) : Sp := fun vs H Q E => vs = [.ref p.1] ∧ ∃ (c : Addr) (w : W) (θ : List Addr) (F : Hp) (μ : Mu), p.2.cls = .ref c ∧ p.2.dict = none ∧ (∃ us, p.2.data = .fields us) ∧ wd c = some w ∧ Sim K θ F H μ ∧
  ∀ (θ' : List Addr) (F' H' : Hp) (v : V), Ext θ F H θ' F' H' → Sim K θ' F' H' μ → Rep K θ' F' v w → Q v H'
section
variable {P : Program} {w : World} {K : PySem.W.Frag} {mg : Str → Option Value} {base : Heap}
theorem fnw_of {x qual : Str} {st : Stmt} {f : Addr} {fd : FuncData} {N : List Str} {y : Str} {k : Nat} {wd : Addr → Option W} {m : Addr → Addr → SM} (F : Fun K x qual st f fd) (S : FnScope N [y] (defScope st))
    (hm : ∀ a c r μ, wd c = some r → fin (m a c (startW N.length [.ref a]) μ) = .ok r μ)
    (hb : ∀ (cdv : Value) (A : Around) (outer : List PySem.Env) (s : Shared) (H : Hp) (E : XK) (p : Addr × Obj) (c : Addr), L2H.Hot1 A p → L2H.RoomH k (A.deeper (envOfC qual (defScope st) s.heap.objs.size f cdv)) → p.2.cls = .ref c → p.2.dict = none → (∃ us, p.2.data = .fields us) → (wd c).isSome = true →
      ∃ t, PSsD (L2H.cxH (L2N.CX P w) P w K mg base N qual (defScope st) f cdv A outer s H E p) W0 (defBody st) t (m p.1 c)) : PDM.FnP P w K mg base (L2N.CX P w) (k + 1) f fd [y] (spW K wd) := by
  obtain ⟨oc, od, kV, doc, pm, an, cdv, ct, osl, rfl, lk, hcd⟩ := F.ex
  refine PDM.fnp_of lk hcd S (fun p vs H Q E h => by rw [h.1]; rfl) fun A outer s H vs Q E p hot hr sp => ?_
  obtain ⟨rfl, c, r, θ, F, μ, h1, h2, h3, h4, S0, hQ⟩ := sp
  obtain ⟨t, ht⟩ := hb cdv A outer s H E p c hot hr h1 h2 h3 (by rw [h4]; rfl)
  refine ⟨t, ht.ps, ht.ad _ _ _ θ F _ μ S0 (simE_start (.cons (.ref p.1) .nil)) ?_⟩
  have e := hm p.1 c r μ h4
  generalize m p.1 c (startW N.length [.ref p.1]) μ = o at e ⊢
  cases o with
  | nx ρ μ' =>
    have e' : Out.ok W.non μ' = .ok r μ := e
    cases e'
    exact fun θ' F' H' σ' x' S' _ => hQ _ _ _ _ x' S' .non
  | rt v μ' =>
    have e' : Out.ok v μ' = .ok r μ := e
    cases e'
    exact fun θ' F' H' v x' S' r => hQ _ _ _ _ x' S' r
  | bk ρ μ' => cases e
  | ct ρ μ' => cases e
  | er c ρ μ' => cases e
  | no => cases e
end

/-! ### try: .. except C as n: return f(n) -/
theorem pss_imp {X : Cx} {b : List Stmt} {t t' : TS} (h : PSs X b t) (i : ∀ D σ H, t' D σ H → t D σ H) : PSs X b t' := ⟨fun pins s σ H D I r => h.run pins s σ H D I (i D σ H r)⟩
def sTryW (i : Nat) (hit : Addr → Option Bool) (wd : Addr → Option W) (m : SM) : SM := fun ρ μ => match m ρ μ with
  | .er c ρ1 μ1 => match hit c with
    | some true => match wd c with
      | some w => if i < ρ1.length then .rt w μ1 else .no
      | none => .no
    | some false => .er c ρ1 μ1
    | none => .no
  | o => o
section
variable {X : Cx} {Wx : WX} {x n f : Str} {cv : Value} {i k : Nat} {body : List Stmt} {np q qn q2 pos pos' pos2 : Pos} {a : Addr} {fd : FuncData} {y : Str} {wd : Addr → Option W} {hit : Addr → Option Bool} {m : SM}
/-- the suite's reading -/
def tWord (K : PySem.W.Frag) (wd : Addr → Option W) (i : Nat) (e : Addr) (cls : Value) (d : Option Addr) : TS := fun D σ H => ∃ (c : Addr) (w : W) (θ : List Addr) (F : Hp) (μ : Mu), cls = .ref c ∧ d = none ∧ wd c = some w ∧ σ[i]? = some (some (.ref e)) ∧ Sim K θ F H μ ∧
  ∀ (θ' : List Addr) (F' H' : Hp) (v : V), Ext θ F H θ' F' H' → Sim K θ' F' H' μ → Rep K θ' F' v w → D.rt v H'
theorem psd_tryw (hs : X.stack = X.env :: X.outer) (hf : X.env.frame = some X.env.locals) (hN : X.N.Nodup) (hi : X.N[i]? = some n) (hln : X.env.kindOf n = some .local) (hc : Names X x cv) (tk : L2N.Takes X Wx)
    (hh : ∀ c b, hit c = some b → PySem.W.exmOne X.K (.ref c) cv = some b) (Fw : PDM.FnP X.prog X.w X.K X.mg X.base (L2N.CX X.prog X.w) k a fd [y] (spW X.K wd)) (hr : Room k X.A)
    (hg : Gl X f) (hm : X.mg f = some (.ref a)) (hk : PySem.W.keepIn X.K (.ref a) = true) (hbd : Binds X.K fd [y] [])
    (hb : ∀ W : WX, ∃ t, ∀ (pn : List (Addr × Obj)) (xe : Value → Shared → Prop), L2N.Takes (X.tr pn xe) W → PSsD (X.tr pn xe) W body t m)
    (hdb : (f == ("__debug__" : Str)) = false := by decide)
    (hst : starEach [.Name n qn] X.env = (false, eval (.Name n qn) X.env) :: starEach [] X.env := by rfl) (hpl : (backTo q2 (starEach [] X.env)).any (·.1) = false := by rfl)
    (hvar : ∀ (a : Addr) (pn : List (Addr × Obj)), PE (X.suite a pn) (.Name n qn) (tVar i)) :
    ∃ t, PSD X Wx (.Try body [.ExceptHandler (some (.Name x np)) (some n) [.Return (some (.Call (.Name f q) [.Name n qn] [] q2)) pos2] pos'] [] [] pos) t (sTryW i hit wd m) := by
  have hb' : ∃ tb : WX → TS, ∀ W : WX, ∀ (pn : List (Addr × Obj)) (xe : Value → Shared → Prop), L2N.Takes (X.tr pn xe) W → PSsD (X.tr pn xe) W body (tb W) m := ⟨fun W => (hb W).choose, fun W => (hb W).choose_spec⟩
  obtain ⟨tb, htb⟩ := hb'
  refine ⟨_, L2N.ps_try_as (ts := fun e cls d => tWord X.K wd i e cls d) (tb := tb) (Wout := Wx) hs hf hN hi hln hc tk (fun W pn xe h1 h2 => (htb W pn xe h1).ps) fun e oe cls d pn hz hfl => ?_, ?_⟩
  · have hot : L2H.Hot1 (X.suite e ((e, oe) :: pn)).A (e, oe) := ⟨rfl, by obtain ⟨vs, hv⟩ := hfl; exact ⟨vs, hv, hz.2.2 vs hv⟩⟩
    have hp := PDM.pe_callP (X := X.suite e ((e, oe) :: pn)) (E := WE W0) (p := (e, oe)) (q := q) (pos := q2) (e := .Name n qn) (es := []) Fw (⟨hr.dp, hr.un⟩) hot List.mem_cons_self hg hm hk hbd (L2N.passAt takes0N) (pa_cons (hvar e ((e, oe) :: pn)) pa_nil hst) hdb hst hpl
    refine pss_imp (pss_one (ps_ret hp)) fun D σ H ⟨c, w, θ, F, μ, h1, h2, h3, h4, S, hQ⟩ => ?_
    subst h1 h2
    refine ⟨.ref e, h4, ?_⟩
    exact ⟨rfl, c, w, θ, F, μ, hz.1, hz.2.1, hfl, h3, S, hQ⟩
  · intro D σ H θ F ρ μ S E ok
    show tb (wAs X.K cv i (fun e cls d => tWord X.K wd i e cls d) Wx D) D σ H
    refine (htb _ [] (fun _ _ => True) fun _ _ _ => trivial).ad D σ H θ F ρ μ S E ?_
    unfold sTryW at ok
    cases e : m ρ μ with
    | er c ρ1 μ1 =>
      rw [e] at ok
      dsimp only at ok
      intro θ' F' H' σ' x1 S1 E1
      cases eh : hit c with
      | none => rw [eh] at ok; exact ok.elim
      | some b =>
        rw [eh] at ok
        refine ⟨b, hh _ _ eh, fun hb => ?_, fun hb => ?_⟩
        · subst hb
          intro e' he'
          dsimp only at ok
          cases ew : wd c with
          | none => rw [ew] at ok; exact ok.elim
          | some w =>
            rw [ew] at ok
            dsimp only at ok
            split at ok
            · rename_i hlt
              refine ⟨c, w, θ', F', μ1, rfl, rfl, ew, ?_, S1, fun θ2 F2 H2 v x2 S2 r => ok _ _ _ _ (x1.trans x2) S2 r⟩
              rw [List.getElem?_set_self (by rw [E1.len]; exact hlt)]
            · exact ok.elim
        · subst hb
          exact ok _ _ _ _ x1 S1 E1
    | nx ρ1 μ1 => rw [e] at ok; exact ok
    | rt w μ1 => rw [e] at ok; exact ok
    | bk ρ1 μ1 => rw [e] at ok; exact ok
    | ct ρ1 μ1 => rw [e] at ok; exact ok
    | no => rw [e] at ok; exact ok
end
end PD
namespace PD
open PySem PySem.Spec PyProof.Rows L2
variable [Tbs]
/-! ### a def, a method, a class of the program, with what its calls ask -/
structure DOk (P : Program) (w : World) (K : PySem.W.Frag) (mg : Str → Option Value) (base : Heap) (x : Str) (k : Nat) (a : Addr) (fd : FuncData) (ps : List Str) (f : FM) : Prop where
  F : FnD P w K mg base k a fd ps f
  g : mg x = some (.ref a)
  k : PySem.W.keepIn K (.ref a) = true
  b : Binds K fd ps []
structure MOk (P : Program) (w : World) (K : PySem.W.Frag) (mg : Str → Option Value) (base : Heap) (C : Addr) (x : Str) (k : Nat) (a : Addr) (fd : FuncData) (ps : List Str) (f : FM) : Prop where
  F : FnD P w K mg base k a fd ps f
  m : Meth K C x a
  b : Binds K fd ps []
structure IOk (P : Program) (w : World) (K : PySem.W.Frag) (mg : Str → Option Value) (base : Heap) (C : Addr) (x : Str) (k : Nat) (a : Addr) (fd : FuncData) (ps : List Str) (f : FM) : Prop where
  F : FnD P w K mg base k a fd ps f
  M : Mk K C a
  g : mg x = some (.ref C)
  b : Binds K fd ps []
/-- an own class of exceptions, raised with a text -/
structure EOk (K : PySem.W.Frag) (mg : Str → Option Value) (x : Str) (C : Addr) : Prop where
  xi : PySem.W.excIn K C [.type "ValueError", .type "Exception", .type "BaseException", .type "object"] "ValueError.__new__" = true
  g : mg x = some (.ref C)
  k : PySem.W.keepIn K (.ref C) = true
  b : PySem.W.subIn K (.ref C) (.type "BaseException") = some true
  t : PySem.W.typeIn K (.ref C) = some (.type "type")
  i : PySem.W.isClsIn K C = true
theorem room1 {k : Nat} {A : Around} (r : Room k A) : A.units + 1 < cLine := by have := r.un; omega
theorem roomH64 {k : Nat} {A : Around} (r : L2H.RoomH k A) : A.units + 64 < cLine := by have := r.un; omega
theorem roomH65 {k : Nat} {A : Around} (r : L2H.RoomH k A) : A.units + 65 < cLine := by have := r.un; omega
theorem ner_nil : ∀ ws ρ μ c μ', gsNil ws ρ μ ≠ .er c μ' := fun ws ρ μ c μ' h => by
  unfold gsNil at h
  split at h <;> cases h
theorem ner_name {i : Nat} {r : List W → Env → Mu → Out Env} (hr : ∀ ws ρ μ c μ', r ws ρ μ ≠ .er c μ') : ∀ ws ρ μ c μ', gsName i r ws ρ μ ≠ .er c μ' := fun ws ρ μ c μ' h => by
  unfold gsName at h
  split at h
  · exact hr _ _ _ _ _ h
  · cases h
/-- a def that is never asked -/
theorem fnd_no {P : Program} {w : World} {K : PySem.W.Frag} {mg : Str → Option Value} {base : Heap} {k : Nat} {a : Addr} {fd : FuncData} {ps : List Str} : FnD P w K mg base k a fd ps (fun _ _ => .no) :=
  ⟨fun vs H Q E h => h.1, fun A outer s H args us vs Q E _ _ _ _ sp => by obtain ⟨_, θ, F, ws, μ, _, _, ok⟩ := sp; exact ok.elim⟩
/-- isinstance(e, C) of a handled exception, where it is known -/
def cIsE1 (a C : Addr) (r : Bool) : GC := fun ws μ => match ws with
  | [.ref b, .ref D] => if b = a ∧ D = C then .ok (.bl r) μ else .no
  | _ => .no
theorem adc_isE1 {K : PySem.W.Frag} {c a C : Addr} {r : Bool} (hk : PySem.W.kitOne K (.ref c) (.ref C) = some r) : AdC K (rIsE K c a) (cIsE1 a C r) := by
  intro vs ws E Q H θ F μ S q ok
  unfold cIsE1 at ok
  split at ok
  · split at ok
    · rename_i b D hb
      obtain ⟨rfl, rfl⟩ := hb
      obtain ⟨v, u, rfl, r1, r2⟩ := rep2 q
      cases r1
      cases r2
      exact ⟨_, .ref D, r, rfl, fun u h => h, hk, ok.here S (.bl r)⟩
    · exact ok.elim
  · exact ok.elim
theorem kit_own {K : PySem.W.Frag} {c C : Addr} {r : Bool} (h1 : PySem.W.isClsIn K C = true) (h2 : PySem.W.typeIn K (.ref C) = some (.type "type")) (h3 : PySem.W.subIn K (.ref c) (.ref C) = some r) (h4 : c = C → r = true) : PySem.W.kitOne K (.ref c) (.ref C) = some r := by
  unfold PySem.W.kitOne
  by_cases e : c = C
  · subst e
    rw [if_pos (by exact beq_self_eq_true _), h4 rfl]
  · rw [if_neg (by intro h; exact e (by have := eq_of_beq h; cases this; rfl))]
    show (if ((PySem.W.clsIn K C).isSome && PySem.W.typeIn K (.ref C) == some (.type "type")) = true then PySem.W.subIn K (.ref c) (.ref C) else none) = some r
    have h1' : (PySem.W.clsIn K C).isSome = true := h1
    rw [if_pos (by rw [h1', h2]; rfl)]
    exact h3
theorem exm_own {K : PySem.W.Frag} {c C : Addr} {r : Bool} (h0 : PySem.W.subIn K (.ref C) (.type "BaseException") = some true) (h1 : PySem.W.isClsIn K C = true) (h2 : PySem.W.typeIn K (.ref C) = some (.type "type")) (h3 : PySem.W.subIn K (.ref c) (.ref C) = some r) : PySem.W.exmOne K (.ref c) (.ref C) = some r := by
  have e1 : (PySem.W.subIn K (.ref C) (.type "BaseException") == some true) = true := by rw [h0]; rfl
  have e2 : ((PySem.W.clsIn K C).isSome && PySem.W.typeIn K (.ref C) == some (.type "type")) = true := by
    have h1' : (PySem.W.clsIn K C).isSome = true := h1
    rw [h1', h2]; rfl
  show (if (PySem.W.subIn K (.ref C) (.type "BaseException") == some true) = true then (if ((PySem.W.clsIn K C).isSome && PySem.W.typeIn K (.ref C) == some (.type "type")) = true then PySem.W.subIn K (.ref c) (.ref C) else none) else none) = some r
  rw [if_pos e1, if_pos e2]
  exact h3
/-! ### readings by the function alone -/
def tOf {α β : Type} (K : PySem.W.Frag) (Wx : WX) (R : List Addr → Hp → β → α → Prop) (m : Env → Mu → Out α) : St → Hp → (β → Hp → Prop) → Prop := fun σ H Q => ∃ (θ : List Addr) (F : Hp) (ρ : Env) (μ : Mu), Sim K θ F H μ ∧ SimE K θ F σ ρ ∧ (m ρ μ).Ok K R θ F H (fun c H' => Wx (.ref c) none σ H') Q
def tOfS (K : PySem.W.Frag) (Wx : WX) (m : SM) : TS := fun D σ H => ∃ (θ : List Addr) (F : Hp) (ρ : Env) (μ : Mu), Sim K θ F H μ ∧ SimE K θ F σ ρ ∧ (m ρ μ).Ok K Wx θ F H D
theorem ex_one {X : Cx} {Wx : WX} {s : Stmt} {m : SM} (h : ∃ t, PSD X Wx s t m) : ∃ t, PSsD X Wx [s] t m := ⟨_, psd_one h.choose_spec⟩
theorem ad_of {α β : Type} {K : PySem.W.Frag} {Wx : WX} {R : List Addr → Hp → β → α → Prop} {m : Env → Mu → Out α} : Ad K Wx R (tOf K Wx R m) m := fun σ H Q θ F ρ μ S E ok => ⟨θ, F, ρ, μ, S, E, ok⟩
section
variable {X : Cx} {Wx : WX}
theorem PED.can {e : Expr} {t : TE} {m : EM} (h : PED X Wx e t m) : PED X Wx e (tOf X.K Wx (Rep X.K) m) m :=
  ⟨⟨fun pins s σ H Q I ⟨θ, F, ρ, μ, S, E, ok⟩ => h.pe.run pins s σ H Q I (h.ad σ H Q θ F ρ μ S E ok)⟩, ad_of⟩
theorem PTsD.can {es : List Expr} {t : TT} {m : BM} (h : PTsD X Wx es t m) : PTsD X Wx es (tOf X.K Wx REq m) m :=
  ⟨⟨fun pins s σ H Q I ⟨θ, F, ρ, μ, S, E, ok⟩ => h.pt.run pins s σ H Q I (h.ad σ H Q θ F ρ μ S E ok)⟩, ad_of⟩
theorem PSsD.can {b : List Stmt} {t : TS} {m : SM} (h : PSsD X Wx b t m) : PSsD X Wx b (tOfS X.K Wx m) m :=
  ⟨⟨fun pins s σ H D I ⟨θ, F, ρ, μ, S, E, ok⟩ => h.ps.run pins s σ H D I (h.ad D σ H θ F ρ μ S E ok)⟩, fun D σ H θ F ρ μ S E ok => ⟨θ, F, ρ, μ, S, E, ok⟩⟩
variable {tg elt iter : Expr} {ifs : List Expr} {scope : Scope} {own : List (Str × Nat)} {pos : Pos} {wi : TI} {mi : IM} {tl : TE} {ml : EM} {g : TG} {mg : W → Env → Mu → Out Env} {mt : BM} {me : EM}
theorem ped_cmpC (hc : X.calm = true) (hN : X.N.Nodup) (hi : PID X Wx tg iter wi mi) (ok : BlkOk X.N X.env.scope scope own) (hw : GOwn g (own.map (·.2)))
    (hg : ∀ (s : Shared) (H : Hp) (C : Addr) (cl : List (Str × Addr)) (fp : List Addr), PGD (X.blk s H scope (compEnvC scope cl C X.env) fp) W0 tg g mg) (ht : ∀ (s : Shared) (H : Hp) (C : Addr) (cl : List (Str × Addr)) (fp : List Addr), ∃ t, PTsD (X.blk s H scope (compEnvC scope cl C X.env) fp) W0 ifs t mt)
    (he : ∀ (s : Shared) (H : Hp) (C : Addr) (cl : List (Str × Addr)) (fp : List Addr), ∃ t, PED (X.blk s H scope (compEnvC scope cl C X.env) fp) W0 elt t me) (hs : ∀ x, foldedSetIterable iter X.env x = pure x := by intro _; rfl) :
    PED X Wx (.ListComp elt [⟨tg, iter, ifs, 0⟩] scope pos) (tLc wi g (tOf X.K W0 REq mt) (tOf X.K W0 (Rep X.K) me) (own.map (·.2))) (eCmp mi (own.map (·.2)) mg mt me) :=
  ped_cmp1 hc hN hi ok hw hg (fun s H C cl fp => (ht s H C cl fp).choose_spec.can) (fun s H C cl fp => (he s H C cl fp).choose_spec.can) hs
theorem ped_cmpHC (hot : L2H.HotC X) (hN : X.N.Nodup) (hi : PED X Wx iter tl ml) (ok : BlkOk X.N X.env.scope scope own) (hw : GOwn g (own.map (·.2)))
    (hg : ∀ (s : Shared) (H : Hp) (C : Addr) (cl : List (Str × Addr)) (fp : List Addr), PGD (X.blk s H scope (compEnvC scope cl C X.env) fp) W0 tg g mg) (ht : ∀ (s : Shared) (H : Hp) (C : Addr) (cl : List (Str × Addr)) (fp : List Addr), ∃ t, PTsD (X.blk s H scope (compEnvC scope cl C X.env) fp) W0 ifs t mt)
    (he : ∀ (s : Shared) (H : Hp) (C : Addr) (cl : List (Str × Addr)) (fp : List Addr), ∃ t, PED (X.blk s H scope (compEnvC scope cl C X.env) fp) W0 elt t me) (hs : ∀ x, foldedSetIterable iter X.env x = pure x := by intro _; rfl) :
    PED X Wx (.ListComp elt [⟨tg, iter, ifs, 0⟩] scope pos) (tLc (iList X.K tl) g (tOf X.K W0 REq mt) (tOf X.K W0 (Rep X.K) me) (own.map (·.2))) (eCmp (iLst ml) (own.map (·.2)) mg mt me) :=
  ped_cmpH hot hN hi ok hw hg (fun s H C cl fp => (ht s H C cl fp).choose_spec.can) (fun s H C cl fp => (he s H C cl fp).choose_spec.can) hs
end
section
variable {X : Cx} {Wx : WX} {x n f : Str} {cv : Value} {i k : Nat} {body : List Stmt} {np q qn q2 pos pos' pos2 : Pos} {a : Addr} {fd : FuncData} {y : Str} {wd : Addr → Option W} {hit : Addr → Option Bool} {m : SM}
theorem psd_trywC (hs : X.stack = X.env :: X.outer) (hf : X.env.frame = some X.env.locals) (hN : X.N.Nodup) (hi : X.N[i]? = some n) (hln : X.env.kindOf n = some .local) (hc : Names X x cv) (tk : L2N.Takes X Wx)
    (hh : ∀ c b, hit c = some b → PySem.W.exmOne X.K (.ref c) cv = some b) (Fw : PDM.FnP X.prog X.w X.K X.mg X.base (L2N.CX X.prog X.w) k a fd [y] (spW X.K wd)) (hr : Room k X.A)
    (hg : Gl X f) (hm : X.mg f = some (.ref a)) (hk : PySem.W.keepIn X.K (.ref a) = true) (hbd : Binds X.K fd [y] [])
    (hb : ∀ (W : WX) (pn : List (Addr × Obj)) (xe : Value → Shared → Prop), L2N.Takes (X.tr pn xe) W → ∃ t, PSsD (X.tr pn xe) W body t m)
    (hdb : (f == ("__debug__" : Str)) = false := by decide)
    (hst : starEach [.Name n qn] X.env = (false, eval (.Name n qn) X.env) :: starEach [] X.env := by rfl) (hpl : (backTo q2 (starEach [] X.env)).any (·.1) = false := by rfl)
    (hvar : ∀ (a : Addr) (pn : List (Addr × Obj)), PE (X.suite a pn) (.Name n qn) (tVar i)) :
    ∃ t, PSD X Wx (.Try body [.ExceptHandler (some (.Name x np)) (some n) [.Return (some (.Call (.Name f q) [.Name n qn] [] q2)) pos2] pos'] [] [] pos) t (sTryW i hit wd m) :=
  psd_tryw hs hf hN hi hln hc tk hh Fw hr hg hm hk hbd (fun W => ⟨tOfS X.K W m, fun pn xe tk => (hb W pn xe tk).choose_spec.can⟩) hdb hst hpl hvar
end
end PD
namespace PD
open PySem PySem.Spec PyProof.Rows L2
variable [Tbs]
/-! ### the functions worked out -/
section
variable {μ : Mu}
theorem gEq_int {i j : Int} : gEq (.int i) (.int j) μ = .ok (.bl (i == j)) μ := rfl
theorem gNe_int {i j : Int} : gNe (.int i) (.int j) μ = .ok (.bl (!(i == j))) μ := rfl
theorem gEq_bl {i j : Bool} : gEq (.bl i) (.bl j) μ = .ok (.bl (i == j)) μ := rfl
theorem gNe_bl {i j : Bool} : gNe (.bl i) (.bl j) μ = .ok (.bl (!(i == j))) μ := rfl
theorem gEq_nil : gEq (.lst []) (.lst []) μ = .ok (.bl true) μ := rfl
mutual
theorem eqv_refl : ∀ {d : PyData}, PyData.canLay0 d = true → PyData.eqv d d = true
  | .none, _ => rfl
  | .bool b, _ => by simp [PyData.eqv]
  | .int i, _ => by simp [PyData.eqv]
  | .str x, _ => by simp [PyData.eqv]
  | .list xs, h => by
    simp only [PyData.canLay0] at h
    simp only [PyData.eqv]
    exact eqvAll_refl h
  | .tuple xs, h => by
    simp only [PyData.canLay0] at h
    simp only [PyData.eqv]
    exact eqvAll_refl h
  | .dict _, h => by simp [PyData.canLay0] at h
theorem eqvAll_refl : ∀ {ds : List PyData}, PyData.canLayAll0 ds = true → PyData.eqvAll ds ds = true
  | [], _ => rfl
  | d :: ds, h => by
    simp only [PyData.canLayAll0, Bool.and_eq_true] at h
    simp only [PyData.eqvAll, Bool.and_eq_true]
    exact ⟨eqv_refl h.1, eqvAll_refl h.2⟩
end
/-- w reads as a value that may be compared -/
def Sh (n : Nat) (w : W) (d : PyData) : Prop := toD w = some d ∧ PyData.canLay0 d = true ∧ PyData.depth d ≤ n
def ShL (n : Nat) (ws : List W) (ds : List PyData) : Prop := toDs ws = some ds ∧ PyData.canLayAll0 ds = true ∧ PyData.depthAll ds ≤ n
theorem Sh.sh {n : Nat} {w : W} {d : PyData} (h : Sh n w d) (hn : n ≤ 64) : SeqAt.shaped d = true := by
  unfold SeqAt.shaped
  rw [h.2.1, Bool.true_and, decide_eq_true_eq]
  exact Nat.le_trans h.2.2 hn
theorem Sh.eqv {n : Nat} {w : W} {d : PyData} (h : Sh n w d) : PyData.eqv d d = true := eqv_refl h.2.1
theorem Sh.int {i : Int} : Sh 0 (.int i) (.int i) := ⟨rfl, rfl, Nat.le_refl _⟩
theorem ShL.nil {n : Nat} : ShL n [] [] := ⟨rfl, rfl, Nat.zero_le _⟩
theorem ShL.cons {n : Nat} {w : W} {ws : List W} {d : PyData} {ds : List PyData} (h : Sh n w d) (t : ShL n ws ds) : ShL n (w :: ws) (d :: ds) := by
  refine ⟨?_, ?_, ?_⟩
  · simp only [toDs, h.1, t.1, Option.map_some]
  · simp only [PyData.canLayAll0, h.2.1, t.2.1, Bool.and_self]
  · simp only [PyData.depthAll]
    exact Nat.max_le.mpr ⟨h.2.2, t.2.2⟩
theorem Sh.tup {n : Nat} {ws : List W} {ds : List PyData} (h : ShL n ws ds) : Sh (n + 1) (.tup ws) (.tuple ds) := by
  refine ⟨by simp only [toD, h.1, Option.map_some], by simp only [PyData.canLay0, h.2.1], ?_⟩
  simp only [PyData.depth]
  exact Nat.succ_le_succ h.2.2
theorem Sh.lst {n : Nat} {ws : List W} {ds : List PyData} (h : ShL n ws ds) : Sh (n + 1) (.lst ws) (.list ds) := by
  refine ⟨by simp only [toD, h.1, Option.map_some], by simp only [PyData.canLay0, h.2.1], ?_⟩
  simp only [PyData.depth]
  exact Nat.succ_le_succ h.2.2
theorem Sh.mono {n m : Nat} {w : W} {d : PyData} (h : Sh n w d) (hm : n ≤ m) : Sh m w d := ⟨h.1, h.2.1, Nat.le_trans h.2.2 hm⟩
theorem Sh.str {x : Str} (h : PyData.canLay0 (.str x) = true) : Sh 0 (.str x) (.str x) := ⟨rfl, h, Nat.le_refl _⟩
theorem gEq_str {x y : Str} (hx : PyData.canLay0 (.str x) = true) (hy : PyData.canLay0 (.str y) = true) : gEq (.str x) (.str y) μ = .ok (.bl (x == y)) μ := by
  have e1 : SeqAt.shaped (.str x) = true := (Sh.str hx).sh (by decide)
  have e2 : SeqAt.shaped (.str y) = true := (Sh.str hy).sh (by decide)
  simp only [gEq, topD, toD, e1, e2, and_self, if_true, PyData.eqv]
theorem gNe_str {x y : Str} (hx : PyData.canLay0 (.str x) = true) (hy : PyData.canLay0 (.str y) = true) : gNe (.str x) (.str y) μ = .ok (.bl (!(x == y))) μ := by
  have e1 : SeqAt.shaped (.str x) = true := (Sh.str hx).sh (by decide)
  have e2 : SeqAt.shaped (.str y) = true := (Sh.str hy).sh (by decide)
  simp only [gNe, topD, toD, e1, e2, and_self, if_true, PyData.eqv]
def pairD (p : Int × Int) : PyData := .tuple [.int p.1, .int p.2]
theorem Sh.pair {p : Int × Int} : Sh 1 (pairW p) (pairD p) := .tup (.cons .int (.cons .int .nil))
theorem ShL.pairs : ∀ (ps : List (Int × Int)), ShL 1 (ps.map pairW) (ps.map pairD)
  | [] => .nil
  | p :: ps => .cons .pair (ShL.pairs ps)
theorem Sh.pairs (ps : List (Int × Int)) : Sh 2 (.lst (ps.map pairW)) (.list (ps.map pairD)) := .lst (.pairs ps)
theorem topD_sh {n : Nat} {w : W} {d : PyData} (h : Sh n w d) : topD μ w = some d := by
  cases w <;> first | exact h.1 | (have := h.1; simp [toD] at this)
theorem topD_loc {n k : Nat} {ws : List W} {ds : List PyData} (h : ShL n ws ds) (hm : μ[k]? = some (.lst ws)) : topD μ (.loc k) = some (.list ds) := by
  simp only [topD, hm, h.1, Option.map_some]
theorem gEq_sh {n m : Nat} {x y : W} {d e : PyData} (h : Sh n x d) (h' : Sh m y e) (hn : n ≤ 64 := by decide) (hm : m ≤ 64 := by decide) : gEq x y μ = .ok (.bl (PyData.eqv d e)) μ := by
  unfold gEq
  rw [topD_sh h, topD_sh h']
  exact if_pos ⟨h.sh hn, h'.sh hm⟩
theorem gNe_sh {n m : Nat} {x y : W} {d e : PyData} (h : Sh n x d) (h' : Sh m y e) (hn : n ≤ 64 := by decide) (hm : m ≤ 64 := by decide) : gNe x y μ = .ok (.bl (!PyData.eqv d e)) μ := by
  unfold gNe
  rw [topD_sh h, topD_sh h']
  exact if_pos ⟨h.sh hn, h'.sh hm⟩
theorem gEq_same {n : Nat} {x : W} {d : PyData} (h : Sh n x d) (hn : n ≤ 64 := by decide) : gEq x x μ = .ok (.bl true) μ := by rw [gEq_sh h h hn hn, h.eqv]
theorem gNe_same {n : Nat} {x : W} {d : PyData} (h : Sh n x d) (hn : n ≤ 64 := by decide) : gNe x x μ = .ok (.bl false) μ := by rw [gNe_sh h h hn hn, h.eqv]; rfl
theorem eqv_pair {p q : Int × Int} : PyData.eqv (pairD p) (pairD q) = decide (p = q) := by
  obtain ⟨a, b⟩ := p
  obtain ⟨c, d⟩ := q
  simp only [pairD, PyData.eqv, PyData.eqvAll, Bool.and_true]
  by_cases h1 : a = c <;> by_cases h2 : b = d <;> simp [h1, h2]
theorem seq_nx {a b : SM} {ρ ρ1 : Env} {μ1 : Mu} (h : a ρ μ = .nx ρ1 μ1) : sSeq a b ρ μ = b ρ1 μ1 := by
  unfold sSeq
  rw [h]
  rfl
theorem cmpS_none {g : W → Env → Mu → Out Env} {tt : BM} {me : EM} {ρ : Env} {acc : List W} : ∀ {l : List W}, (∀ x ∈ l, ∃ ρ1, g x ρ μ = .ok ρ1 μ ∧ tt ρ1 μ = .ok false μ) → cmpS g tt me ρ l acc μ = .ok (.lst acc) μ
  | [], _ => rfl
  | x :: l, h => by
    obtain ⟨ρ1, e1, e2⟩ := h x List.mem_cons_self
    unfold cmpS
    rw [e1]
    dsimp only
    rw [e2]
    exact cmpS_none fun y hy => h y (List.mem_cons_of_mem _ hy)
theorem mem_irange {n : Nat} {x : W} (h : x ∈ irange 0 n) : ∃ i : Nat, i < n ∧ x = .int (i : Nat) := by
  simp only [irange, List.mem_map, List.mem_range] at h
  obtain ⟨i, hi, rfl⟩ := h
  exact ⟨i, hi, by simp⟩
theorem cLen_q {w : W} {l : List W} (h : asQ μ w = some l) : cLen [w] μ = .ok (.int l.length) μ := by
  unfold cLen orC cLenQ
  simp only [h, Out.els]
theorem cLen_lst {l : List W} : cLen [.lst l] μ = .ok (.int l.length) μ := cLen_q rfl
theorem cLen_tup {l : List W} : cLen [.tup l] μ = .ok (.int l.length) μ := cLen_q rfl
theorem cLen_loc {n : Nat} {l : List W} (h : μ[n]? = some (.lst l)) : cLen [.loc n] μ = .ok (.int l.length) μ := cLen_q (by simp only [asQ, asL, h])
theorem seq_rt {a b : SM} {ρ : Env} {w : W} {μ1 : Mu} (h : a ρ μ = .rt w μ1) : sSeq a b ρ μ = .rt w μ1 := by
  unfold sSeq
  rw [h]
  rfl
theorem if_yes {c : BM} {a b : SM} {ρ : Env} (μ1 : Mu) (h : c ρ μ = .ok true μ1) : sIf c a b ρ μ = a ρ μ1 := by
  unfold sIf
  rw [h]
  rfl
theorem if_not {c : BM} {a b : SM} {ρ : Env} (μ1 : Mu) (h : c ρ μ = .ok false μ1) : sIf c a b ρ μ = b ρ μ1 := by
  unfold sIf
  rw [h]
  rfl
theorem asg_set {m : EM} {i : Nat} {ρ : Env} {w : W} {μ1 : Mu} (h : m ρ μ = .ok w μ1) : sAsg m (gSet i) ρ μ = .nx (ρ.set i (some w)) μ1 := by
  unfold sAsg
  rw [h]
  rfl
theorem ret_of {m : EM} {ρ : Env} {w : W} {μ1 : Mu} (h : m ρ μ = .ok w μ1) : sRet m ρ μ = .rt w μ1 := by
  unfold sRet
  rw [h]
  rfl
theorem ex_of {m : EM} {ρ : Env} {w : W} {μ1 : Mu} (h : m ρ μ = .ok w μ1) : sEx m ρ μ = .nx ρ μ1 := by
  unfold sEx
  rw [h]
  rfl
theorem cat_at {c : Cell} {r : Mu} : (μ ++ c :: r)[μ.length]? = some c := by simp
theorem cat_set {c d : Cell} {r : Mu} : (μ ++ c :: r).set μ.length d = μ ++ d :: r := by simp
/-! loops -/
theorem forS_inv {g : W → Env → Mu → Out Env} {body : SM} (P : Nat → Env → Mu → Prop) : ∀ (l : List W) (i : Nat) (ρ : Env) (μ : Mu), P i ρ μ →
    (∀ (j : Nat) (w : W) (ρ : Env) (μ : Mu), i ≤ j → l[j - i]? = some w → P j ρ μ → ∃ ρ1 μ1 ρ2 μ2, g w ρ μ = .ok ρ1 μ1 ∧ body ρ1 μ1 = .nx ρ2 μ2 ∧ P (j + 1) ρ2 μ2) → ∃ ρ' μ', forS g body l ρ μ = .nx ρ' μ' ∧ P (i + l.length) ρ' μ'
  | [], i, ρ, μ, h, _ => ⟨ρ, μ, rfl, h⟩
  | w :: l, i, ρ, μ, h, st => by
    obtain ⟨ρ1, μ1, ρ2, μ2, e1, e2, h2⟩ := st i w ρ μ (Nat.le_refl _) (by simp) h
    obtain ⟨ρ', μ', e3, h3⟩ := forS_inv P l (i + 1) ρ2 μ2 h2 fun j w ρ μ hj hw hP => st j w ρ μ (by omega) (by rw [show j - i = (j - (i + 1)) + 1 by omega, List.getElem?_cons_succ]; exact hw) hP
    refine ⟨ρ', μ', ?_, by rw [List.length_cons, show i + (l.length + 1) = i + 1 + l.length by omega]; exact h3⟩
    show ((g w ρ μ).st ρ fun ρ1 μ1 => match body ρ1 μ1 with
      | .nx ρ2 μ2 => forS g body l ρ2 μ2
      | .ct ρ2 μ2 => forS g body l ρ2 μ2
      | .bk ρ2 μ2 => .nx ρ2 μ2
      | o => o) = _
    rw [e1]
    show (match body ρ1 μ1 with
      | .nx ρ2 μ2 => forS g body l ρ2 μ2
      | .ct ρ2 μ2 => forS g body l ρ2 μ2
      | .bk ρ2 μ2 => .nx ρ2 μ2
      | o => o) = _
    rw [e2]
    exact e3
end
end PD
namespace PD
open PySem PySem.Spec PyProof.Rows L2
variable [Tbs]
/-! ### a comprehension's list, frozen or to be changed -/
theorem ad_lcF {K : PySem.W.Frag} {fz : W → Mu → Out W} {g : TG} {tt : TT} {te : TE} {vs : List Nat} {J : It} {it : Iter} {l : List W} {mg : W → Env → Mu → Out Env} {mt : BM} {me : EM} {θ : List Addr} {F H : Hp} {σ : St} {ρ : Env} {μ : Mu} {E0 : Addr → Hp → Prop} {Q : VK}
    (hw : GOwn g vs) (hg : ∀ (v : V) (w : W) (σ : St) (H : Hp) (Q : St → Hp → Prop) (θ : List Addr) (F : Hp) (ρ : Env) (μ : Mu), Sim K θ F H μ → SimE K θ F σ ρ → Rep K θ F v w → (mg w ρ μ).Ok K (SimE K) θ F H (fun c H' => W0 (.ref c) none σ H') Q → g v σ H Q)
    (ht : Ad K W0 REq tt mt) (he : Ad K W0 (Rep K) te me) (hJ : Impl K θ F J it) (S : Sim K θ F H μ) (E : SimE K θ F σ ρ) (ok : ((cmpL it l mg mt me (wipeW ρ vs) l [] μ).bind fz).Ok K (Rep K) θ F H E0 Q)
    (hfz : ∀ (D : Addr) (θ1 : List Addr) (F1 H1 : Hp) (μ1 : Mu) (vacc : List V) (acc : List W), H D = none → Ext θ F H θ1 F1 H1 → Sim K θ1 F1 H1 μ1 → F1 D = none → D ∉ θ1 → H1 D = some (.lst vacc) → RepAll K θ1 F1 vacc acc → (fz (.lst acc) μ1).Ok K (Rep K) θ F H E0 Q → Q (.ref D) H1) :
    ∀ D, H D = none → ∃ Wv : Nat → Nat → Hp → Prop, (∃ m, Wv 0 m (upd H D (.lst []))) ∧ ∀ i m H, Wv i m H →
      (J.stop i H ∧ Q (.ref D) H) ∨ (J.go i H ∧ ∃ Nx : Hp → Prop, (∀ H', Nx H' → ∃ m', m' < m ∧ Wv (i + 1) m' H') ∧ ∀ x H', J.yld i H x H' → g x (wipe σ vs) H' fun σ2 H2 => wipe σ2 vs = wipe σ vs ∧ tt σ2 H2 fun b H3 =>
        if b = true then te σ2 H3 fun y H4 => ∃ acc, H4 D = some (.lst acc) ∧ acc.length < sizeLine ∧ Nx (upd H4 D (.lst (acc ++ [y]))) else Nx H3) := by
  intro D hD
  have hDF := S.outF hD
  have hDθ := S.out hD
  -- a state between two turns
  let St1 : List W → Hp → Prop := fun r H1 => ∃ (θ1 : List Addr) (F1 : Hp) (μ1 : Mu) (vacc : List V) (acc : List W), Ext θ F H θ1 F1 H1 ∧ Sim K θ1 F1 H1 μ1 ∧ F1 D = none ∧ D ∉ θ1 ∧ H1 D = some (.lst vacc) ∧ RepAll K θ1 F1 vacc acc ∧
    ((cmpL it l mg mt me (wipeW ρ vs) r acc μ1).bind fz).Ok K (Rep K) θ F H E0 Q
  refine ⟨fun i m H1 => ∃ r, m = r.length ∧ l.drop i = r ∧ St1 r H1, ⟨l.length, l, rfl, rfl, θ, F, μ, [], [], ⟨List.prefix_refl _, .refl _, fun b u e _ => .of (by rw [upd_ne (ne_of_none e hD)]; exact e), fun _ m => .inl m, fun _ _ e => .inl e⟩,
    S.aside _ hDF hDθ (by rw [hD]; intro _ z; cases z), hDF, hDθ, upd_same, .nil, ok⟩, ?_⟩
  rintro i m H1 ⟨r, rfl, hr, θ1, F1, μ1, vacc, acc, x1, S1, nF, nθ, hH, ra, ok1⟩
  cases r with
  | nil =>
    unfold cmpL at ok1
    split at ok1
    · rename_i hi
      refine .inl ⟨(hJ i θ1 F1 H1 μ1 l x1.pre x1.sub S1 hi).1 (List.drop_eq_nil_iff.mp hr), ?_⟩
      exact hfz D θ1 F1 H1 μ1 vacc acc hD x1 S1 nF nθ hH ra ok1
    · exact ok1.elim
  | cons w r =>
    unfold cmpL at ok1
    split at ok1
    · rename_i hi
      have hwl : l[i]? = some w := by rw [← List.head?_drop, hr]; rfl
      have hr' : l.drop (i + 1) = r := by rw [← List.tail_drop, hr]; rfl
      obtain ⟨go, yl⟩ := (hJ i θ1 F1 H1 μ1 l x1.pre x1.sub S1 hi).2 w hwl
      refine .inr ⟨go, St1 r, fun H2 h2 => ⟨r.length, by simp, r, rfl, hr', h2⟩, fun v H2 y => ?_⟩
      obtain ⟨F2, x2, S2, r2⟩ := yl v H2 y
      have E2 : SimE K θ1 F2 (wipe σ vs) (wipeW ρ vs) := (E.mono (x1.trans x2).pre (x1.trans x2).sub).wipe vs
      -- where D stands as things go on
      have keepD : ∀ {θ' : List Addr} {F' H' : Hp}, Ext θ1 F1 H1 θ' F' H' → H' D = some (.lst vacc) ∧ D ∉ θ' ∧ F' D = none := fun {θ' F' H'} x => by
        refine ⟨x.frame D _ hH nθ, fun m => ?_, ?_⟩
        · rcases x.fresh D m with z | z
          · exact nθ z
          · rw [hH] at z; cases z
        · cases q : F' D with
          | none => rfl
          | some o =>
            rcases x.news D o q with z | z | z
            · rw [nF] at z; cases z
            · rw [hH] at z; cases z
            · exact absurd z nθ
      refine hw v σ H2 _ ?_
      refine hg v w _ H2 _ θ1 F2 _ μ1 S2 E2 r2 ?_
      cases eg : mg w (wipeW ρ vs) μ1 with
      | no => rw [eg] at ok1; exact ok1.elim
      | er c μ2 => rw [eg] at ok1; exact ok1.elim
      | ok ρ3 μ3 =>
        rw [eg] at ok1
        intro θ3 F3 H3 σ3 x3 S3 E3
        refine ht σ3 H3 _ θ3 F3 ρ3 μ3 S3 E3 ?_
        dsimp only at ok1
        cases et : mt ρ3 μ3 with
        | no => rw [et] at ok1; exact ok1.elim
        | er c μ4 => rw [et] at ok1; exact ok1.elim
        | ok b μ4 =>
          rw [et] at ok1
          intro θ4 F4 H4 b' x4 S4 hb
          have hb : b' = b := hb
          subst hb
          cases b' with
          | false =>
            rw [if_neg Bool.false_ne_true]
            have x14 := (x2.trans x3).trans x4
            obtain ⟨d1, d2, d3⟩ := keepD x14
            exact ⟨θ4, F4, μ4, vacc, acc, x1.trans x14, S4, d3, d2, d1, ra.mono x14.pre x14.sub, ok1⟩
          | true =>
            rw [if_pos rfl]
            refine he σ3 H4 _ θ4 F4 ρ3 μ4 S4 (E3.mono x4.pre x4.sub) ?_
            dsimp only at ok1
            cases ee : me ρ3 μ4 with
            | no => rw [ee] at ok1; exact ok1.elim
            | er c μ5 => rw [ee] at ok1; exact ok1.elim
            | ok yw μ5 =>
              rw [ee] at ok1
              intro θ5 F5 H5 yv x5 S5 r5
              have x15 := ((x2.trans x3).trans x4).trans x5
              obtain ⟨d1, d2, d3⟩ := keepD x15
              dsimp only at ok1
              split at ok1
              · rename_i hl
                have ra5 := ra.mono x15.pre x15.sub
                refine ⟨vacc, d1, by rw [ra5.length]; exact hl, θ5, F5, μ5, vacc ++ [yv], acc ++ [yw], ?_, S5.aside _ d3 d2 (by rw [d1]; intro _ z; cases z), d3, d2, upd_same, ra5.append (.cons r5 .nil), ok1⟩
                have x6 := x1.trans x15
                refine ⟨x6.pre, x6.sub, fun b u e hb => ?_, x6.fresh, x6.news⟩
                rw [upd_ne (ne_of_none e hD)]
                exact x6.frame b u e hb
              · exact ok1.elim
    · exact ok1.elim
/-- the list is a cell -/
def thaw : W → Mu → Out W := fun w μ => match w with
  | .lst l => .ok (.loc μ.length) (μ ++ [.lst l])
  | _ => .no
theorem thaw_fin {K : PySem.W.Frag} {θ : List Addr} {F H : Hp} {E0 : Addr → Hp → Prop} {Q : VK} (D : Addr) (θ1 : List Addr) (F1 H1 : Hp) (μ1 : Mu) (vacc : List V) (acc : List W) (hD : H D = none) (x1 : Ext θ F H θ1 F1 H1) (S1 : Sim K θ1 F1 H1 μ1) (nF : F1 D = none) (nθ : D ∉ θ1) (hH : H1 D = some (.lst vacc)) (ra : RepAll K θ1 F1 vacc acc)
    (ok : (thaw (.lst acc) μ1).Ok K (Rep K) θ F H E0 Q) : Q (.ref D) H1 := by
  refine ok (θ1 ++ [D]) F1 H1 (.ref D) ⟨x1.pre.trans (pre_app θ1 D), x1.sub, x1.frame, fun b m => ?_, x1.news⟩ ⟨S1.sub, by simp [S1.len], ?_, fun n a c h1 h2 => ?_, S1.tab⟩ (.loc ?_)
  · rcases List.mem_append.mp m with z | z
    · exact x1.fresh b z
    · rw [List.mem_singleton.mp z]; exact .inr hD
  · rw [List.nodup_append]
    refine ⟨S1.nd, by simp, fun a ha b hb => ?_⟩
    rw [List.mem_singleton] at hb
    subst hb
    exact fun e => nθ (e ▸ ha)
  · by_cases hl : n < θ1.length
    · rw [List.getElem?_append_left hl] at h1
      rw [List.getElem?_append_left (by rw [← S1.len]; exact hl)] at h2
      exact (S1.cell n a c h1 h2).mono (pre_app θ1 D) (.refl _) (fun z => z) fun o e => e
    · have hl' := (List.getElem?_eq_some_iff.mp h1).1
      rw [List.length_append, List.length_singleton] at hl'
      have en : n = θ1.length := by omega
      subst en
      rw [List.getElem?_append_right (Nat.le_refl _), Nat.sub_self] at h1
      cases h1
      rw [S1.len, List.getElem?_append_right (Nat.le_refl _), Nat.sub_self] at h2
      cases h2
      exact ⟨nF, vacc, hH, ra.mono (pre_app θ1 D) (.refl _)⟩
  · rw [← S1.len, List.getElem?_append_right (Nat.le_refl _), Nat.sub_self]
    rfl
noncomputable def eCmpM (it : IM) (vs : List Nat) (g : W → Env → Mu → Out Env) (tt : BM) (me : EM) : EM := fun ρ μ => (eCmp it vs g tt me ρ μ).bind thaw
section
variable {X : Cx} {Wx : WX} {tg elt iter : Expr} {ifs : List Expr} {scope : Scope} {own : List (Str × Nat)} {pos : Pos} {wi : TI} {mi : IM} {g : TG} {mg : W → Env → Mu → Out Env} {mt : BM} {me : EM}
theorem bind_bind {α β γ : Type} (o : Out α) (f : α → Mu → Out β) (g : β → Mu → Out γ) : (o.bind f).bind g = o.bind fun a μ => (f a μ).bind g := by cases o <;> rfl
theorem ped_cmpM (hc : X.calm = true) (hN : X.N.Nodup) (hi : PID X Wx tg iter wi mi) (ok : BlkOk X.N X.env.scope scope own) (hw : GOwn g (own.map (·.2)))
    (hg : ∀ (s : Shared) (H : Hp) (C : Addr) (cl : List (Str × Addr)) (fp : List Addr), PGD (X.blk s H scope (compEnvC scope cl C X.env) fp) W0 tg g mg) (ht : ∀ (s : Shared) (H : Hp) (C : Addr) (cl : List (Str × Addr)) (fp : List Addr), ∃ t, PTsD (X.blk s H scope (compEnvC scope cl C X.env) fp) W0 ifs t mt)
    (he : ∀ (s : Shared) (H : Hp) (C : Addr) (cl : List (Str × Addr)) (fp : List Addr), ∃ t, PED (X.blk s H scope (compEnvC scope cl C X.env) fp) W0 elt t me) (hs : ∀ x, foldedSetIterable iter X.env x = pure x := by intro _; rfl) :
    PED X Wx (.ListComp elt [⟨tg, iter, ifs, 0⟩] scope pos) (tLc wi g (tOf X.K W0 REq mt) (tOf X.K W0 (Rep X.K) me) (own.map (·.2))) (eCmpM mi (own.map (·.2)) mg mt me) := by
  have ht' := fun s H C cl fp => (ht s H C cl fp).choose_spec.can
  have he' := fun s H C cl fp => (he s H C cl fp).choose_spec.can
  refine ⟨pe_lc hc hN hi.pi ok (fun s H C cl fp => (hg s H C cl fp).pg) (fun s H C cl fp => (ht' s H C cl fp).pt) (fun s H C cl fp => (he' s H C cl fp).pe) hs, fun σ H Q θ F ρ μ S E okk => ?_⟩
  have hg0 := (hg X.s_0 X.H_0 0 [] []).ad
  have ht0 := (ht' X.s_0 X.H_0 0 [] []).ad
  have he0 := (he' X.s_0 X.H_0 0 [] []).ad
  have okk : ((mi ρ μ).bind fun i μ1 => (match i with
    | .seq l => cmpS mg mt me (wipeW ρ (own.map fun p : Str × Nat => p.2)) l [] μ1
    | .cell n => match (Iter.cell n).items μ1 with
      | some l => cmpL (.cell n) l mg mt me (wipeW ρ (own.map fun p : Str × Nat => p.2)) l [] μ1
      | none => .no).bind thaw).Ok X.K (Rep X.K) θ F H (fun c H' => Wx (.ref c) none σ H') Q := by
    have e : eCmpM mi (own.map fun p : Str × Nat => p.2) mg mt me ρ μ = _ := bind_bind (mi ρ μ) _ thaw
    rw [e] at okk
    exact okk
  refine hi.ad.use S E okk fun θ1 F1 H1 μ1 J it x1 S1 E1 hJ ok1 => ?_
  cases it with
  | seq l => exact ad_lcF (l := l) (ρ := ρ) (fz := thaw) hw hg0 ht0 he0 hJ S1 E1 (by rw [cmpL_seq]; exact ok1) thaw_fin
  | cell n =>
    dsimp only at ok1
    cases e2 : (Iter.cell n).items μ1 with
    | none => rw [e2] at ok1; exact ok1.elim
    | some l =>
      rw [e2] at ok1
      exact ad_lcF (l := l) (ρ := ρ) (fz := thaw) hw hg0 ht0 he0 hJ S1 E1 ok1 thaw_fin
end
end PD
namespace PD
open PySem PySem.Spec PyProof.Rows L2
variable [Tbs]
section
variable {X : Cx} {Wx : WX} {tg elt iter : Expr} {ifs : List Expr} {scope : Scope} {own : List (Str × Nat)} {pos spos : Pos} {wi : TI} {mi : IM} {g : TG} {mg : W → Env → Mu → Out Env} {mt : BM} {me : EM} {i : Nat} {y : Str} {py : Pos}
theorem psd_setLcC (hc : X.calm = true) (hN : X.N.Nodup) (hy : X.N[i]? = some y) (hyl : X.env.scope.names.lookup y = some .local) (hsw : swapsWith (.ListComp elt [⟨tg, iter, ifs, 0⟩] scope pos) (some (.Name y py)) spos.line X.env = pure true) (hi : PID X Wx tg iter wi mi) (ok : BlkOk X.N X.env.scope scope own) (hw : GOwn g (own.map (·.2)))
    (hg : ∀ (s : Shared) (H : Hp) (C : Addr) (cl : List (Str × Addr)) (fp : List Addr), PGD (X.blk s H scope (compEnvC scope cl C X.env) fp) W0 tg g mg) (ht : ∀ (s : Shared) (H : Hp) (C : Addr) (cl : List (Str × Addr)) (fp : List Addr), ∃ t, PTsD (X.blk s H scope (compEnvC scope cl C X.env) fp) W0 ifs t mt)
    (he : ∀ (s : Shared) (H : Hp) (C : Addr) (cl : List (Str × Addr)) (fp : List Addr), ∃ t, PED (X.blk s H scope (compEnvC scope cl C X.env) fp) W0 elt t me) (hs : ∀ x, foldedSetIterable iter X.env x = pure x := by intro _; rfl) :
    PSD X Wx (.Assign [.Name y py] (.ListComp elt [⟨tg, iter, ifs, 0⟩] scope pos) spos) (tAsg (tLc wi g (tOf X.K W0 REq mt) (tOf X.K W0 (Rep X.K) me) (own.map (·.2))) (gName i)) (sAsg (eCmp mi (own.map (·.2)) mg mt me) (gSet i)) := by
  refine ⟨ps_setLc hc hN hy hyl hsw hi.pi ok (fun s H C cl fp => (hg s H C cl fp).pg) (fun s H C cl fp => (ht s H C cl fp).choose_spec.can.pt) (fun s H C cl fp => (he s H C cl fp).choose_spec.can.pe) hs, ?_⟩
  have h := (ped_cmpC hc hN hi ok hw hg ht he hs (pos := pos)).ad
  exact Ad.st (u := fun v D σ H => gName i v σ H D.nx) (f := fun w ρ μ => (gSet i w ρ μ).st ρ fun ρ' μ2 => .nx ρ' μ2) h fun D σ H θ F ρ μ v w S E r okk => okk θ F H _ (.refl _ _ _) S (E.set i r)
end
/-! sum -/
def intsOf : List W → Option (List Int)
  | [] => some []
  | .int i :: ws => (intsOf ws).map (i :: ·)
  | _ :: _ => none
theorem intsOf_eq : ∀ {ws : List W} {ns : List Int}, intsOf ws = some ns → ws = ns.map W.int
  | [], ns, h => by cases h; rfl
  | .int i :: ws, ns, h => by
    simp only [intsOf, Option.map_eq_some_iff] at h
    obtain ⟨ms, h1, rfl⟩ := h
    rw [intsOf_eq h1]; rfl
  | .non :: _, _, h => by cases h
  | .bl _ :: _, _, h => by cases h
  | .str _ :: _, _, h => by cases h
  | .tup _ :: _, _, h => by cases h
  | .lst _ :: _, _, h => by cases h
  | .scr _ :: _, _, h => by cases h
  | .loc _ :: _, _, h => by cases h
  | .ref _ :: _, _, h => by cases h
  | .ty _ :: _, _, h => by cases h
theorem intsOf_map : ∀ ns : List Int, intsOf (ns.map W.int) = some ns
  | [] => rfl
  | n :: ns => by simp only [List.map_cons, intsOf, intsOf_map ns, Option.map_some]
def cSum : GC := fun ws μ => match ws with
  | [w] => match asL μ w with
    | some l => match intsOf l with
      | some ns => .ok (.int ns.sum) μ
      | none => .no
    | none => .no
  | _ => .no
theorem adc_sum {K : PySem.W.Frag} : AdC K (rSum K) cSum := by
  intro vs ws E Q H θ F μ S q ok
  unfold cSum at ok
  split at ok
  · obtain ⟨v, rfl, r⟩ := rep1 q
    split at ok
    · rename_i l hl
      split at ok
      · rename_i ns hn
        obtain ⟨a, xs, rfl, ha, hq⟩ := asL_rep S r hl
        rw [intsOf_eq hn] at hq
        have e := hq.ints
        subst e
        exact ⟨a, ns, rfl, .of ha, ok.here S (.int _)⟩
      · exact ok.elim
    · exact ok.elim
  · exact ok.elim
end PD
namespace PD
open PySem PySem.Spec PyProof.Rows L2
variable [Tbs]
/-! sorted, of a few tuples of d ints in [0, B) -/
theorem code_inj {B : Int} : ∀ {a b : List Int}, a.length = b.length → TS.Bd B a → TS.Bd B b → TS.code B a = TS.code B b → a = b
  | [], [], _, _, _, _ => rfl
  | [], _ :: _, h, _, _, _ => by simp at h
  | _ :: _, [], h, _, _, _ => by simp at h
  | d :: r, e :: q, h, ha, hb, hc => by
    have hl : r.length = q.length := by simpa using h
    have lt := fun z : d < e => TS.code_lt (B := B) hl ha.tail hb.tail z
    have gt := fun z : e < d => TS.code_lt (B := B) hl.symm hb.tail ha.tail z
    have de : d = e := by
      rcases Int.lt_trichotomy d e with z | z | z
      · have := lt z; omega
      · exact z
      · have := gt z; omega
    subst de
    have h1 : d * B ^ r.length + TS.code B r = d * B ^ q.length + TS.code B q := hc
    rw [hl] at h1
    rw [code_inj hl ha.tail hb.tail (by omega)]
def tupW (k : List Int) : W := .tup (k.map .int)
def tupsOf : List W → Option (List (List Int))
  | [] => some []
  | .tup l :: ws => match intsOf l, tupsOf ws with
    | some k, some ks => some (k :: ks)
    | _, _ => none
  | _ :: _ => none
theorem tupsOf_eq : ∀ {ws : List W} {ks : List (List Int)}, tupsOf ws = some ks → ws = ks.map tupW
  | [], ks, h => by cases h; rfl
  | .tup l :: ws, ks, h => by
    simp only [tupsOf] at h
    split at h
    · rename_i k ks' h1 h2
      cases h
      rw [intsOf_eq h1, tupsOf_eq h2]; rfl
    · cases h
  | .non :: _, _, h => by cases h
  | .bl _ :: _, _, h => by cases h
  | .str _ :: _, _, h => by cases h
  | .int _ :: _, _, h => by cases h
  | .lst _ :: _, _, h => by cases h
  | .scr _ :: _, _, h => by cases h
  | .loc _ :: _, _, h => by cases h
  | .ref _ :: _, _, h => by cases h
  | .ty _ :: _, _, h => by cases h
theorem tupsOf_map : ∀ ks : List (List Int), tupsOf (ks.map tupW) = some ks
  | [] => rfl
  | k :: ks => by simp only [List.map_cons, tupW, tupsOf, intsOf_map, show tupsOf (ks.map tupW) = some ks from tupsOf_map ks]
def sortT (B : Int) (ks : List (List Int)) : List (List Int) := ks.mergeSort fun a b => decide (TS.code B a ≤ TS.code B b)
theorem sortT_perm {B : Int} {ks : List (List Int)} : (sortT B ks).Perm ks := List.mergeSort_perm _ _
def inT (d : Nat) (B : Int) (k : List Int) : Bool := decide (k.length = d) && k.all fun m => decide (0 ≤ m) && decide (m < B)
theorem inT_iff {d : Nat} {B : Int} {k : List Int} : inT d B k = true ↔ k.length = d ∧ TS.Bd B k := by
  simp [inT, TS.Bd]
theorem sortT_uniq {d : Nat} {B : Int} {l ks : List (List Int)} (h : l.Pairwise fun a b => TS.code B a ≤ TS.code B b) (p : l.Perm ks) (hk : ∀ k ∈ ks, inT d B k = true) : l = sortT B ks := by
  have p2 : l.Perm (sortT B ks) := p.trans sortT_perm.symm
  refine List.Perm.eq_of_pairwise (le := fun a b => TS.code B a ≤ TS.code B b) (fun a b ha hb h1 h2 => ?_) h ?_ p2
  · obtain ⟨l1, b1⟩ := inT_iff.mp (hk a (p.mem_iff.mp ha))
    obtain ⟨l2, b2⟩ := inT_iff.mp (hk b (sortT_perm.mem_iff.mp hb))
    exact code_inj (l1.trans l2.symm) b1 b2 (Int.le_antisymm h1 h2)
  · have := List.pairwise_mergeSort (le := fun a b : List Int => decide (TS.code B a ≤ TS.code B b)) (fun a b c h1 h2 => by
      simp only [decide_eq_true_eq] at h1 h2 ⊢
      omega) (fun a b => by
      simp only [Bool.or_eq_true, decide_eq_true_eq]
      omega) ks
    exact this.imp fun h => of_decide_eq_true h
theorem RepAll.perm {K : PySem.W.Frag} {θ : List Addr} {F : Hp} {α : Type} {f : α → W} {vs us : List V} (p : us.Perm vs) : ∀ {ks : List α}, RepAll K θ F vs (ks.map f) → ∃ ks' : List α, ks'.Perm ks ∧ RepAll K θ F us (ks'.map f) := by
  induction p with
  | nil => exact fun {ks} h => ⟨ks, .refl _, h⟩
  | cons x p ih =>
    intro ks h
    cases ks with
    | nil => cases h
    | cons k ks =>
      cases h with
      | cons r t =>
        obtain ⟨ks', h1, h2⟩ := ih t
        exact ⟨k :: ks', h1.cons k, .cons r h2⟩
  | swap x y l =>
    intro ks h
    match ks, h with
    | k1 :: k2 :: ks, .cons r1 (.cons r2 t) => exact ⟨k2 :: k1 :: ks, .swap _ _ _, .cons r2 (.cons r1 t)⟩
  | trans p q ih1 ih2 =>
    intro ks h
    obtain ⟨ks1, h1, r1⟩ := ih2 h
    obtain ⟨ks2, h2, r2⟩ := ih1 r1
    exact ⟨ks2, h2.trans h1, r2⟩
def cSortT (d : Nat) (B : Int) : GC := fun ws μ => match ws with
  | [w] => match asL μ w with
    | some l => match tupsOf l with
      | some ks => if ks.length < 64 ∧ ks.all (inT d B) = true then .ok (.lst ((sortT B ks).map tupW)) μ else .no
      | none => .no
    | none => .no
  | _ => .no
theorem rep_tup {K : PySem.W.Frag} {θ : List Addr} {F H : Hp} (e : Sub F H) {v : V} {k : List Int} (r : Rep K θ F v (tupW k)) : TupI K H v k := by
  cases r with
  | tup h q =>
    have e2 := q.ints
    subst e2
    exact ⟨_, rfl, e.sqT h⟩
theorem pw_rep {K : PySem.W.Frag} {θ : List Addr} {F H : Hp} {B : Int} (e : Sub F H) : ∀ {ys : List V} {ks : List (List Int)}, RepAll K θ F ys (ks.map tupW) → ys.Pairwise (fun x y => ∀ n m, TupI K H x n → TupI K H y m → TS.code B n ≤ TS.code B m) → ks.Pairwise fun a b => TS.code B a ≤ TS.code B b
  | _, [], _, _ => .nil
  | y :: ys, k :: ks, .cons r t, h => by
    rw [List.pairwise_cons] at h
    refine List.pairwise_cons.mpr ⟨fun k' hk' => ?_, pw_rep e t h.2⟩
    obtain ⟨i, hi⟩ := List.mem_iff_getElem?.mp hk'
    obtain ⟨v, hv, rv⟩ := t.get (i := i) (w := tupW k') (by rw [List.getElem?_map, hi]; rfl)
    exact h.1 v (List.mem_of_getElem? hv) k k' (rep_tup e r) (rep_tup e rv)
theorem adc_sortT {K : PySem.W.Frag} {d : Nat} {B : Int} : AdC K (rSortU K d B) (cSortT d B) := by
  intro vs ws E Q H θ F μ S q ok
  unfold cSortT at ok
  split at ok
  · obtain ⟨v, rfl, r⟩ := rep1 q
    split at ok
    · rename_i l hl
      split at ok
      · rename_i ks hk
        split at ok
        · rename_i hb
          obtain ⟨h64, hall⟩ := hb
          obtain ⟨a, xs, rfl, ha, hq⟩ := asL_rep S r hl
          rw [tupsOf_eq hk] at hq
          have hall' : ∀ k ∈ ks, inT d B k = true := List.all_eq_true.mp hall
          refine ⟨a, xs, rfl, .of ha, by rw [hq.length, List.length_map]; exact h64, fun x hx => ?_, fun ys p hp hw hn => ?_⟩
          · obtain ⟨i, hi⟩ := List.mem_iff_getElem?.mp hx
            obtain ⟨w, hw, rx⟩ := hq.getV hi
            rw [List.getElem?_map] at hw
            obtain ⟨k, hk2, rfl⟩ := Option.map_eq_some_iff.mp hw
            obtain ⟨h1, h2⟩ := inT_iff.mp (hall' k (List.mem_of_getElem? hk2))
            exact ⟨k, rep_tup S.sub rx, h1, h2⟩
          · obtain ⟨ks', p1, r1⟩ := RepAll.perm hp hq
            have hw' : ks'.Pairwise fun a b => TS.code B a ≤ TS.code B b := pw_rep S.sub r1 hw
            have e := sortT_uniq hw' p1 hall'
            rw [e] at r1
            obtain ⟨S2, x2⟩ := S.froze (.lst ys) hn
            exact ok _ _ _ _ x2 S2 (.lst upd_same (r1.mono (List.prefix_refl _) (sub_upd (S.outF hn))))
        · exact ok.elim
      · exact ok.elim
    · exact ok.elim
  · exact ok.elim
end PD
namespace PDM
open PySem PySem.Spec PyProof.Rows L2
/-! ### enumerate over a tuple -/
set_option maxHeartbeats 1000000 in
theorem meets_enum1 {v : Value} {ob : Obj} {G : Heap → Prop} (B : Begins v ob G) :
    Meets (Builtin.«enumerate.__new__» ⟨[.type "enumerate", v], []⟩) (fun _ R s => G s.heap ∧
      R (.ok (.ret (.ref (s.heap.push ob).objs.size))) { s with heap := (s.heap.push ob).push { cls := .type "enumerate", data := .fields #[.none, .bool false, .ref s.heap.objs.size, rawInt 0, .none, .none] } }) :=
  .of_wp fun prog w A R s h => by
    obtain ⟨hp, gg, dr, tk, sys⟩ := s
    obtain ⟨g1, fin⟩ := h
    have sb := sub_enumerate
    have it1 : ∀ {A' : Around} {E : Value → Shared → Prop} {Q : Value → Shared → Prop}, Q (.ref hp.objs.size) ⟨hp.push ob, gg, dr, tk, sys⟩ → wpAny (model prog w) A' (pyIter v) Q E ⟨hp, gg, dr, tk, sys⟩ := fun q => B.iter prog w _ _ ⟨hp, gg, dr, tk, sys⟩ _ g1 q
    wp_walk using it1
    refine wpAny_stack_any fun st => wpAny_pure ?_
    split
    · rename_i c _ _ _ _ _
      cases (c == Value.type "enumerate") <;> (wp_walk using it1; exact ⟨_, rfl, fin⟩)
    · wp_walk using it1
      exact ⟨_, rfl, fin⟩
section
variable {prog : Program} {w : World} {A : Around} {E : Value → Shared → Prop} {s : Shared}
theorem call_enum_tup {t : Addr} {items : Array Value} {Q : Value → Shared → Prop} (ht : s.heap.IsTuple t items)
    (q : ∀ h', IsEnum h' (s.heap.objs.size + 1) s.heap.objs.size 0 .none → h'.IsTupleIter s.heap.objs.size t 0 → h'.objs.size = s.heap.objs.size + 2 → (∀ b o, s.heap.get? b = some o → h'.get? b = some o) → Q (.ref (s.heap.objs.size + 1)) { s with heap := h' }) :
    wpAny (model prog w) A (call (.type "enumerate") [.ref t]) Q E s := by
  generalize hob : ({ cls := .type "tuple_iterator", data := .fields #[.ref t, .int 0 0] } : Obj) = ob
  have B := begins_tuple t items
  rw [hob] at B
  refine callType_new F.called_enumerate (by decide) (F.typeCall_enumerate_1 _) (F.newCall_enumerate_1 _) (fun obj => F.args_object_init_2 obj _) F.entry_enumerate_new (meets_enum1 B) ⟨ht, ?_⟩
  have hz : (s.heap.push ob).objs.size = s.heap.objs.size + 1 := Heap.size_push ..
  show _ ∧ _
  rw [hz]
  have he : IsEnum ((s.heap.push ob).push { cls := .type "enumerate", data := .fields #[.none, .bool false, .ref s.heap.objs.size, rawInt 0, .none, .none] }) (s.heap.objs.size + 1) s.heap.objs.size 0 .none := by
    have e := Heap.get?_push_size (s.heap.push ob) (o := { cls := .type "enumerate", data := .fields #[.none, .bool false, .ref s.heap.objs.size, rawInt 0, .none, .none] }) rfl
    rw [hz] at e
    exact e
  refine ⟨⟨_, he, rfl⟩, q _ he ⟨_, Heap.get?_push_of_some _ (Heap.get?_push_size _ B.free), by rw [← hob], by rw [← hob]; rfl⟩ (by rw [Heap.size_push, hz]) fun b o x => Heap.get?_push_of_some _ (Heap.get?_push_of_some _ x)⟩
theorem next_enum_tup_end {en it t : Addr} {i : Nat} {c : Int} {items : Array Value} {old : Value} {Q : Option Value → Shared → Prop} (hh : A.handled = none) (he : IsEnum s.heap en it c old) (hit : s.heap.IsTupleIter it t i) (ht : s.heap.IsTuple t items) (hx : items[i]? = none)
    (q : ∀ h', Heap.ExtBut it s.heap h' → Q none { s with heap := h' }) : wpAny (model prog w) A (pyNext (.ref en)) Q E s := by
  have ty : s.TypeIs (.ref en) "enumerate" := ⟨_, he, rfl⟩
  unfold pyNext
  refine wpAny_bind (wpAny_attempt (wpAny_callSpecial?_slot (name := Str.ofString "__next__") ty F.slot_enumerate_next (wpAny_call_entry F.slot_enumerate_next ty F.entry_enumerate_next ?_ (F.args_enumerate_next_1 _))))
  show wpAny _ _ (field (.ref en) 2 >>= _) _ _ _
  refine wpAny_bind (wpAny_field he rfl (x := .ref it) rfl (wpAny_bind (wpAny_nextOf_tuple_end hh hit ht hx fun h' x eb hst => ?_)))
  obtain ⟨o, ho, hc⟩ := hst
  exact wpAny_bind (wpAny_isInstance (T := "StopIteration") (b := true) ⟨o, ho, hc⟩ isSubtype_stop (wpAny_pure (q _ eb)))
end
/-- the items of the tuple at a, each in a new pair -/
def Iut (K : PySem.W.Frag) (a : Addr) : It :=
  ⟨fun i H => ∃ (xs : List V) (x : V), SqT K H a xs ∧ xs[i]? = some x, fun i H v H' => ∃ T x, v = .ref T ∧ H T = none ∧ H' = upd H T (.tup [.int (i : Nat), x]) ∧ ∀ xs, SqT K H a xs → xs[i]? = some x, fun i H => ∃ xs : List V, SqT K H a xs ∧ xs.length ≤ i⟩
theorem turn_enumT {P : Program} {w : World} {K : PySem.W.Frag} {elts : List Expr} {kk : Nat} {tpos : Pos} (a en it : Addr) :
    Turn P w K (.Tuple elts kk tpos) (Iut K a) [en, it] en (fun i h => (∃ old, IsEnum h en it ((i : Nat) : Int) old) ∧ h.IsTupleIter it a i ∧ en ≠ it) where
  mem := List.mem_cons_self
  obj := fun i h st b hb => by
    obtain ⟨⟨old, he⟩, ⟨o, ho, hc, hd⟩, _⟩ := st
    rcases List.mem_cons.mp hb with z | z
    · subst z; exact ⟨_, he, fun v q => nomatch q⟩
    · rw [List.mem_singleton.mp z]; exact ⟨o, ho, fun v q => by rw [hd] at q; cases q⟩
  keep := fun i h h' st k => by
    obtain ⟨⟨old, he⟩, hi, hne⟩ := st
    exact ⟨⟨old, k en List.mem_cons_self _ he⟩, hi.at fun o q => k it (by simp) o q, hne⟩
  item := by
    intro X hP hw hK hc i pins s σ H E I hf st hg
    subst hP hw hK
    obtain ⟨⟨old, he⟩, hit, hne⟩ := st
    obtain ⟨xs, x, hq, hx⟩ := hg
    obtain ⟨its, rv, p, hz⟩ := I.tuple hq
    obtain ⟨u, hu, ru⟩ := rv.get hx
    have hT : s.heap.IsTuple a its.toArray := p
    have nta : a ≠ it := fun z => by
      obtain ⟨o1, g1, c1, _⟩ := hT
      obtain ⟨o2, g2, c2, _⟩ := hit
      rw [z, g2] at g1
      cases g1
      rw [c1] at c2
      exact absurd (Value.type.inj c2) (by decide)
    have nea : en ∉ [it, a] := fun m => by
      rcases List.mem_cons.mp m with z | z
      · exact hne z
      · obtain ⟨o1, g1, c1, _⟩ := hT
        rw [List.mem_singleton] at z
        rw [← z, he] at g1
        cases g1
        exact absurd (Value.type.inj c1) (by decide)
    have hel : en < s.heap.objs.size := Heap.lt_size he
    have hil : it < s.heap.objs.size := by obtain ⟨_, q, _⟩ := hit; exact Heap.lt_size q
    have hi : i < its.toArray.size := by
      have := (List.getElem?_eq_some_iff.mp hu).1
      simpa using this
    refine wpAny_pyNext_enum_itemD (Draws.tuple (A := X.A.in1) (I.ok.hd hc) it a nta its.toArray) he ⟨hit, hT⟩ hi hne nea fun u' h' tk hu' ho hit' hTn hsz hk => ?_
    have eu : u' = u := by
      have : its.toArray[i]? = some u' := hu'
      rw [List.getElem?_toArray, hu] at this
      exact (Option.some.inj this).symm
    subst eu
    refine ⟨_, rfl, wpAny_letOwnedTupleGo_enum (s := { s with heap := h', toks := tk + 1 }) ho fun h'' he' sb => ?_⟩
    have hT2 : h''.get? s.heap.objs.size = some { cls := .type "tuple", data := .seq #[.int i tk, u'] } := (sb.2 _ (Nat.ne_of_gt hel)).trans hTn
    have new : ObjOk X.prog X.w (upd H s.heap.objs.size (.tup [.int (i : Nat), x])) h'' s.heap.objs.size (.tup [.int (i : Nat), x]) := ⟨by show 2 ≤ sizeLine; decide, [.int i tk, u'], .cons ⟨_, rfl⟩ (.cons ru .nil), ⟨_, hT2, rfl, _, rfl⟩⟩
    have I1 : Inv X pins σ (upd H s.heap.objs.size (.tup [.int (i : Nat), x])) { s with heap := h'', toks := tk + 1 } :=
      I.turnedNew (ch := [en, it]) (fun b ob hb q => (sb.2 b (fun z => hb (by simp [z]))).trans (hk b ob (fun z => hb (by simp [z])) (fun z => hb (by simp [z])) q)) hf (Nat.le_refl _) new
    refine ⟨.ref s.heap.objs.size, _, I1, rfl, ⟨_, x, rfl, I.hok.fresh (Nat.le_refl _), rfl, fun ys hy => by rw [I.tuple_inj hy hq]; exact hx⟩, ⟨⟨u', ?_⟩, hit'.1.at fun o q => (sb.2 it (Ne.symm hne)).trans q, hne⟩, fun b hb => ?_⟩
    · rw [show ((i + 1 : Nat) : Int) = (i : Int) + 1 by omega]
      exact he'
    · have hb' : b < s.heap.objs.size := by
        rcases List.mem_cons.mp hb with z | z
        · rw [z]; exact hel
        · rw [List.mem_singleton.mp z]; exact hil
      rw [upd_ne (Nat.ne_of_lt hb')]
      exact (hf b hb).1
  done := by
    intro X hP hw hK hc i pins s σ H E I hf st hg
    subst hP hw hK
    obtain ⟨⟨old, he⟩, hit, hne⟩ := st
    obtain ⟨xs, hq, hx⟩ := hg
    obtain ⟨its, rv, p, hz⟩ := I.tuple hq
    obtain ⟨f0, f1, f2, f3, f4, f5⟩ := hf it (by simp)
    have hn : its.toArray[i]? = none := by
      rw [List.getElem?_toArray, List.getElem?_eq_none]
      rw [← rv.length]; exact hx
    exact next_enum_tup_end (I.ok.hd hc) he hit p hn fun h' eb => ⟨rfl, I.turned (t' := s.toks) (fun b o hb q => eb b o hb q) f0 f1 f3 f4 f5⟩
  self := fun A i s Q E st h => by
    obtain ⟨⟨old, he⟩, _⟩ := st
    exact wpAny_pyIter_enum he h
def iEnumT (K : PySem.W.Frag) (ta : TA) : TI := fun σ H R => ta σ H fun vs H1 => ∃ a xs, vs = [.ref a] ∧ SqT K H1 a xs ∧ R (Iut K a) H1
theorem pi_enumT {X : Cx} {e : Expr} {ta : TA} {p pos tpos : Pos} {elts : List Expr} {kk : Nat} (hg : Gl X "enumerate") (hm : X.mg "enumerate" = none) (ha : PA X [e] ta) (hs : starEach [e] X.env = [(false, eval e X.env)] := by rfl) :
    PI X (.Tuple elts kk tpos) (.Call (.Name "enumerate" p) [e] [] pos) (iEnumT X.K ta) := by
  refine ⟨fun pins s σ H R I h => Call_ (ld_blt I hg hm boot_enumerate (PyProof.Rows.callWith_type1 (thn (ha.run pos pins s σ H _ I h) fun us s1 ⟨vs, H1, I1, r1, a, xs, ev, hq, q⟩ => ?_) hs rfl))⟩
  subst ev
  rw [Vals.ref1 r1]
  obtain ⟨its, rv, p', hz⟩ := I1.tuple hq
  refine call_enum_tup (show s1.heap.IsTuple a its.toArray from p') fun h' he hit hsz hk => wpAny_pyIter_enum he ?_
  refine ⟨s1.heap.objs.size + 1, [s1.heap.objs.size + 1, s1.heap.objs.size], _, _, H1, rfl, I1.kept (t' := s1.toks) hk, turn_enumT a (s1.heap.objs.size + 1) s1.heap.objs.size, ⟨⟨.none, he⟩, hit, Nat.succ_ne_self _⟩, fun b hb => ?_, q⟩
  have hle : s1.heap.objs.size ≤ b := by
    rcases List.mem_cons.mp hb with z | z
    · rw [z]; exact Nat.le_add_right _ _
    · rw [List.mem_singleton.mp z]; exact Nat.le_refl _
  exact I1.fpOk hle (I1.hok.fresh hle)
end PDM
namespace PD
open PySem PySem.Spec PyProof.Rows L2
variable [Tbs]
def enumW (l : List W) : List W := l.zipIdx.map fun p => .tup [.int (p.2 : Nat), p.1]
theorem enumW_get {l : List W} {i : Nat} {w : W} (h : (enumW l)[i]? = some w) : ∃ x, l[i]? = some x ∧ w = .tup [.int (i : Nat), x] := by
  unfold enumW at h
  rw [List.getElem?_map, List.getElem?_zipIdx] at h
  cases e : l[i]? with
  | none => rw [e] at h; simp at h
  | some x => rw [e] at h; simp at h; exact ⟨x, rfl, h.symm⟩
theorem enumW_length {l : List W} : (enumW l).length = l.length := by simp [enumW]
theorem froze_pair {K : PySem.W.Frag} {θ : List Addr} {F H : Hp} {μ : Mu} (S : Sim K θ F H μ) {T : Addr} {i : Nat} {x : V} {w : W} (r : Rep K θ F x w) (hT : H T = none) :
    ∃ F2, Ext θ F H θ F2 (upd H T (.tup [.int (i : Nat), x])) ∧ Sim K θ F2 (upd H T (.tup [.int (i : Nat), x])) μ ∧ Rep K θ F2 (.ref T) (.tup [.int (i : Nat), w]) := by
  obtain ⟨S2, x2⟩ := S.froze (.tup [.int (i : Nat), x]) hT
  exact ⟨_, x2, S2, .tup (.inl (.inl upd_same)) (.cons (.int _) (.cons (r.mono (List.prefix_refl _) (sub_upd (S.outF hT))) .nil))⟩
theorem impl_enumL {K : PySem.W.Frag} {θ : List Addr} {F : Hp} {a : Addr} {vs : List V} {l : List W} (h : SqL K F a vs) (q : RepAll K θ F vs l) : Impl K θ F (Ite K a) (.seq (enumW l)) := by
  intro i θ1 F1 H1 μ1 l1 p e S hl
  cases hl
  have hs : SqL K H1 a vs := S.sub.sqL (e.sqL h)
  refine ⟨fun hi => ⟨vs, hs, by rw [q.length]; rw [enumW_length] at hi; exact hi⟩, fun w hw => ?_⟩
  obtain ⟨x, hx, rfl⟩ := enumW_get hw
  obtain ⟨v, hv, r⟩ := q.get hx
  refine ⟨⟨vs, v, hs, hv⟩, fun y H2 hy => ?_⟩
  obtain ⟨T, x', rfl, hT, rfl, hx'⟩ := hy
  have ex : x' = v := by
    have := hx' vs hs
    rw [hv] at this
    exact (Option.some.inj this).symm
  subst ex
  exact froze_pair S (r.mono p e) hT
theorem impl_enumT {K : PySem.W.Frag} {θ : List Addr} {F : Hp} {a : Addr} {vs : List V} {l : List W} (h : SqT K F a vs) (q : RepAll K θ F vs l) : Impl K θ F (PDM.Iut K a) (.seq (enumW l)) := by
  intro i θ1 F1 H1 μ1 l1 p e S hl
  cases hl
  have hs : SqT K H1 a vs := S.sub.sqT (e.sqT h)
  refine ⟨fun hi => ⟨vs, hs, by rw [q.length]; rw [enumW_length] at hi; exact hi⟩, fun w hw => ?_⟩
  obtain ⟨x, hx, rfl⟩ := enumW_get hw
  obtain ⟨v, hv, r⟩ := q.get hx
  refine ⟨⟨vs, v, hs, hv⟩, fun y H2 hy => ?_⟩
  obtain ⟨T, x', rfl, hT, rfl, hx'⟩ := hy
  have ex : x' = v := by
    have := hx' vs hs
    rw [hv] at this
    exact (Option.some.inj this).symm
  subst ex
  exact froze_pair S (r.mono p e) hT
/-- enumerate(x): a tuple, or a list that stays -/
def iEnumM (m : AM) : IM := fun ρ μ => (m ρ μ).bind fun ws μ1 => match ws with
  | [.tup l] => .ok (.seq (enumW l)) μ1
  | [.lst l] => .ok (.seq (enumW l)) μ1
  | _ => .no
section
variable {X : Cx} {Wx : WX} {e : Expr} {ta : TA} {mm : AM} {p pos tpos : Pos} {elts : List Expr} {kk : Nat}
theorem pid_enum (hg : Gl X "enumerate") (hm : X.mg "enumerate" = none) (h : PAD X Wx [e] ta mm) (hs : starEach [e] X.env = [(false, eval e X.env)] := by rfl) :
    PID X Wx (.Tuple elts kk tpos) (.Call (.Name "enumerate" p) [e] [] pos) (fun σ H R => iEnum X.K ta σ H R ∨ PDM.iEnumT X.K ta σ H R) (iEnumM mm) := by
  refine ⟨PI.or (pi_enum hg hm h.pa hs) (PDM.pi_enumT hg hm h.pa hs), fun σ H R θ F ρ μ S E ok => ?_⟩
  have hh := ok
  unfold iEnumM at ok
  cases em : mm ρ μ with
  | no => rw [em] at ok; exact ok.elim
  | er c μ1 =>
    rw [em] at ok
    exact .inl (h.ad σ H _ θ F ρ μ S E (by rw [em]; exact ok))
  | ok ws μ1 =>
    rw [em] at ok
    dsimp only [Out.bind] at ok
    split at ok
    · rename_i l
      refine .inr (h.ad σ H _ θ F ρ μ S E ?_)
      rw [em]
      intro θ1 F1 H1 vs x1 S1 r1
      obtain ⟨v, rfl, rv⟩ := rep1 r1
      cases rv with
      | tup ha q => exact ⟨_, _, rfl, S1.sub.sqT ha, ok θ1 F1 H1 _ x1 S1 (impl_enumT ha q)⟩
    · rename_i l
      refine .inl (h.ad σ H _ θ F ρ μ S E ?_)
      rw [em]
      intro θ1 F1 H1 vs x1 S1 r1
      obtain ⟨v, rfl, rv⟩ := rep1 r1
      cases rv with
      | lst ha q => exact ⟨_, _, rfl, .of (S1.sub _ _ ha), ok θ1 F1 H1 _ x1 S1 (impl_enumL (.of ha) q)⟩
    · exact ok.elim
end
end PD
namespace PDM
open PySem PySem.Spec PyProof.Rows L2
/-! ### xs += t, t a tuple -/
theorem iadd_lt (l : Addr) (xs : Array Value) (n : Nat) (b : Addr) (ys : Array Value) (n2 : Nat) (dd : Option Addr) (sl : Array (Option Value)) (h0 : ¬(!xs.isEmpty && Builtin.List.listTooLong (xs.size + ys.size)) = true) (h1 : xs.size ≤ sizeLine) (h2 : xs.size + ys.size ≤ sizeLine + 1) :
    Meets (Builtin.«list.__iadd__» ⟨[.ref l, .ref b], []⟩) (fun _ R s => s.heap.get? l = some { cls := .type "list", dict := none, data := .seq xs n, slots := #[] } ∧ s.heap.get? b = some { cls := .type "tuple", dict := dd, data := .seq ys n2, slots := sl } ∧ R (.ok (.ret (Value.ref l))) { s with heap := s.heap.update l (Obj.mapSeq fun x => x ++ ys), toks := s.toks }) :=
  .of_wp fun prog w A R s h => by
    obtain ⟨hp, gg, dr, tk, sys⟩ := s
    obtain ⟨hl, hb, fin⟩ := h
    have g1 := AutoSeq1.idx_int
    have g2 := AutoSeq1.sub_tuple_tuple
    have g3 := AutoSeq1.sub_list_list
    have g4 := AutoSeq1.sub_tuple_list
    have g5 := AutoSeq1.sub_list_tuple
    have hz' : (xs ++ ys).size ≤ sizeLine + 1 := by rw [Array.size_append]; exact h2
    wp_walk using (wpAny_updateSeq hl rfl (hz := h1) (_hz' := hz')), AutoSeq1.wpAny_loadPart' hl, AutoSeq1.wpAny_loadPart' hb
    exact ⟨_, rfl, fin⟩
theorem road_lt {M : Model} {A : Around} {E : Value → Shared → Prop} {s : Shared} {a b : Value} {Q : Value → Shared → Prop} (ha : s.TypeIs a "list") (hb : s.TypeIs b "tuple") (hc : wpAny M A (call (.builtin "list.__iadd__") [a, b]) Q E s) : wpAny M A (inplaceOp .Add a b) Q E s := by
  have look : typeLookup (.type "list") (dunderI "add") = pure (some (.builtin "list.__iadd__")) := PySem.F.slot_list_iadd.lookup
  have isq : isSeqSlot (some (.builtin "list.__iadd__")) = true := by decide +kernel
  have fil : fillsInplaceSlot (.type "list") "add" (Operator.Add == .Add) = pure false := by
    unfold fillsInplaceSlot
    show (typeLookup (.type "list") (dunderI "add") >>= fun fi => pure (fi.isSome && !isSeqSlot fi)) = pure false
    rw [look]
    show (pure (true && !isSeqSlot (some (.builtin "list.__iadd__"))) : Sem Bool) = pure false
    rw [isq] <;> rfl
  have sq : seqSlot? (.type "list") (dunderI "add") = pure (some (.builtin "list.__iadd__")) := PySem.seqSlot_of look isq
  have none1 : ∀ {Q : Option Value → Shared → Prop}, Q none s → wpAny M A (binaryOp1 "add" a b) Q E s := fun {Q} q => by
    simp only [binaryOp1]
    refine wpAny_bind (wpAny_typeOf ha (wpAny_bind (wpAny_typeOf hb (wpAny_bind (wpAny_of_eq noFill_list_add ?_)))))
    have ne : (Value.type "list" == Value.type "tuple") = false := by decide +kernel
    simp only [ne, Bool.false_eq_true, if_false]
    refine wpAny_bind (wpAny_of_eq noFill_tuple_add ?_)
    simp only [pure_bind, Bool.false_and, Bool.false_eq_true, if_false, Bool.and_false]
    exact wpAny_pure q
  unfold inplaceOp
  refine wpAny_holding (wpAny_bind (wpAny_typeOf ha (wpAny_bind (wpAny_of_eq fil ?_))))
  show wpAny M A (if false = true then _ else _) Q E s
  rw [if_neg Bool.false_ne_true]
  exact wpAny_bind (none1 (wpAny_bind (wpAny_of_eq sq (wpAny_bind (wpAny_rule hc)))))
def rExtT (K : PySem.W.Frag) : R2 := fun x y H Q => ∃ l b xs zs, x = .ref l ∧ y = .ref b ∧ H l = some (.lst xs) ∧ SqT K H b zs ∧ xs.length + zs.length ≤ sizeLine ∧ Q (.ref l) (upd H l (.lst (xs ++ zs)))
theorem iop_extT {X : Cx} : OpR X (inplaceOp .Add) (rExtT X.K) := by
  intro pins s σ H x y v u Q I rx ry h
  obtain ⟨l, b, xs, zs, rfl, rfl, hH, hB, hz, q⟩ := h
  cases rx
  cases ry
  obtain ⟨z, its, n, r, hl, e⟩ := I.lstM hH
  obtain ⟨its2, r2, ⟨⟨c2, d2, dt2, sl2⟩, ho2, hc2, n2, hd2⟩, hz2⟩ := I.tuple hB
  replace hc2 : c2 = .type "tuple" := hc2
  replace hd2 : dt2 = .seq its2.toArray n2 := hd2
  subst hc2 hd2
  have hr2 := r2.length
  have hsz : its.toArray.size + its2.toArray.size ≤ sizeLine := by rw [List.size_toArray, List.size_toArray]; omega
  have hlong : ¬ (!its.toArray.isEmpty && Builtin.List.listTooLong (its.toArray.size + its2.toArray.size)) = true := by
    rw [notLongL hsz, Bool.and_false]
    exact Bool.false_ne_true
  refine road_lt ⟨_, e, rfl⟩ ⟨_, ho2, rfl⟩ (call_meets PySem.F.slot_list_iadd ⟨_, e, rfl⟩ PySem.F.entry_list_iadd (PySem.F.args_list_iadd_2 _ _) (iadd_lt l its.toArray n b its2.toArray n2 d2 sl2 hlong (by rw [List.size_toArray]; omega) (by omega)) ⟨e, ho2, ?_⟩)
  exact ⟨.ref l, _, I.lset (its' := its ++ its2) (t' := s.toks) hH e (by simp) (r.append r2) (by rw [List.length_append]; omega), rfl, q⟩
end PDM
namespace PD
open PySem PySem.Spec PyProof.Rows L2
variable [Tbs]
/-! x += y, a list -/
def sExt (i : Nat) (m : EM) : SM := fun ρ μ => match ρ[i]? with
  | some (some (.loc n)) => (m ρ μ).st ρ fun w μ1 => match μ1[n]?, w with
    | some (.lst l), .tup r => if l.length + r.length ≤ sizeLine then .nx (ρ.set i (some (.loc n))) (μ1.set n (.lst (l ++ r))) else .no
    | some (.lst l), .lst r => if l.length + r.length ≤ sizeLine then .nx (ρ.set i (some (.loc n))) (μ1.set n (.lst (l ++ r))) else .no
    | _, _ => .no
  | _ => .no
section
variable {X : Cx} {Wx : WX} {pos : Pos} {e : Expr} {te : TE} {me : EM}
theorem psd_ext {i : Nat} {x : Str} {pos' : Pos} (hN : X.N.Nodup) (hi : X.N[i]? = some x) (hx : Loc X.env.scope x) (h : PED X Wx e te me) (hf : X.fn x = true ∨ X.env.scope.names.lookup x = some .local := by first | exact .inl rfl | exact .inr rfl | assumption) :
    PSD X Wx (.AugAssign (.Name x pos') .Add e pos) (tAug i te (fun x y H Q => PDM.rExtT X.K x y H Q ∨ rExt2 x y H Q)) (sExt i me) := by
  refine ⟨ps_aug hN hi hx h.pe (PDM.iop_extT.or iop_ext) hf, fun D σ H θ F ρ μ S E ok => ?_⟩
  unfold sExt at ok
  split at ok
  · rename_i n hρ
    obtain ⟨v, hv, rv⟩ := E.get i _ hρ
    refine ⟨v, hv, ?_⟩
    cases em : me ρ μ with
    | no => rw [em] at ok; exact ok.elim
    | er c μ1 =>
      rw [em] at ok
      refine h.ad σ H _ θ F ρ μ S E ?_
      rw [em]
      exact fun θ1 F1 H1 x1 S1 => ok θ1 F1 H1 σ x1 S1 (E.mono x1.pre x1.sub)
    | ok w μ1 =>
      rw [em] at ok
      refine h.ad σ H _ θ F ρ μ S E ?_
      rw [em]
      intro θ1 F1 H1 y x1 S1 ry
      have E1 := E.mono x1.pre x1.sub
      have rv1 := rv.mono x1.pre x1.sub
      dsimp only [Out.st] at ok
      split at ok
      · rename_i l r hl
        split at ok
        · rename_i hz
          obtain ⟨a, vs, rfl, ha, hF, hH, q⟩ := loc_rep S1 rv1 hl
          cases ry with
          | tup hb qb =>
            rename_i b zs
            refine .inl ⟨a, b, vs, zs, rfl, rfl, hH, S1.sub.sqT hb, by rw [q.length, qb.length]; exact hz, ?_⟩
            obtain ⟨S2, x2⟩ := write_lst S1 ha hF (q.append qb)
            exact ok θ1 F1 _ _ (x1.trans x2) S2 (E1.set i (.loc ha))
        · exact ok.elim
      · rename_i l r hl
        split at ok
        · rename_i hz
          obtain ⟨a, vs, rfl, ha, hF, hH, q⟩ := loc_rep S1 rv1 hl
          cases ry with
          | lst hb qb =>
            rename_i b zs
            refine .inr ⟨a, b, vs, zs, rfl, rfl, hH, S1.sub _ _ hb, by rw [q.length, qb.length]; exact hz, ?_⟩
            obtain ⟨S2, x2⟩ := write_lst S1 ha hF (q.append qb)
            exact ok θ1 F1 _ _ (x1.trans x2) S2 (E1.set i (.loc ha))
        · exact ok.elim
      · exact ok.elim
  · exact ok.elim
end
end PD
namespace PD
open PySem PySem.Spec PyProof.Rows L2
variable [Tbs]
/-! ### targets within targets -/
def gsCons (g : W → Env → Mu → Out Env) (r : List W → Env → Mu → Out Env) : List W → Env → Mu → Out Env := fun ws ρ μ => match ws with
  | w :: ws => (g w ρ μ).bind fun ρ1 μ1 => r ws ρ1 μ1
  | [] => .no
section
variable {X : Cx} {Wx : WX}
theorem pgsd_cons {tg : Expr} {es : List Expr} {g : TG} {u : TGs} {mg : W → Env → Mu → Out Env} {mu : List W → Env → Mu → Out Env} (h1 : PGD X Wx tg g mg) (h2 : PGsD X Wx es u mu)
    (hs : (assignEach (tg :: es) X.env).map (·.2) = assign tg X.env :: (assignEach es X.env).map (·.2) := by rfl) : PGsD X Wx (tg :: es) (gCons g u) (gsCons mg mu) := by
  refine ⟨pgs_cons h1.pg h2.pg hs, fun vs ws σ H Q θ F ρ μ S E r ok => ?_⟩
  cases r with
  | nil => exact ok.elim
  | @cons v vs w ws r1 r2 =>
    refine ⟨_, _, rfl, h1.ad _ _ σ H _ θ F ρ μ S E r1 ?_⟩
    have ok' : ((mg w ρ μ).bind fun ρ1 μ1 => mu ws ρ1 μ1).Ok X.K (SimE X.K) θ F H (fun c H' => ∀ σ', Wx (.ref c) none σ' H') Q := ok
    cases e : mg w ρ μ with
    | no => rw [e] at ok'; exact ok'.elim
    | er c μ1 =>
      rw [e] at ok'
      exact fun θ1 F1 H1 x1 S1 => ok' θ1 F1 H1 x1 S1 σ
    | ok ρ1 μ1 =>
      rw [e] at ok'
      intro θ1 F1 H1 σ1 x1 S1 E1
      exact h2.ad _ _ σ1 H1 Q θ1 F1 ρ1 μ1 S1 E1 (r2.mono x1.pre x1.sub) (Out.Ok.mono (o := mu ws ρ1 μ1) ok' x1)
end
theorem ner_set {i : Nat} : ∀ w ρ μ c μ', gSet i w ρ μ ≠ .er c μ' := fun w ρ μ c μ' h => by cases h
theorem ner_cons {g : W → Env → Mu → Out Env} {r : List W → Env → Mu → Out Env} (hg : ∀ w ρ μ c μ', g w ρ μ ≠ .er c μ') (hr : ∀ ws ρ μ c μ', r ws ρ μ ≠ .er c μ') : ∀ ws ρ μ c μ', gsCons g r ws ρ μ ≠ .er c μ' := fun ws ρ μ c μ' h => by
  unfold gsCons at h
  split at h
  · rename_i w ws
    cases e : g w ρ μ with
    | no => rw [e] at h; cases h
    | er c1 μ1 => exact hg _ _ _ _ _ e
    | ok ρ1 μ1 => rw [e] at h; exact hr _ _ _ _ _ h
  · cases h
theorem ner_tup {n : Nat} {r : List W → Env → Mu → Out Env} (hr : ∀ ws ρ μ c μ', r ws ρ μ ≠ .er c μ') : ∀ w ρ μ c μ', gTupM n r w ρ μ ≠ .er c μ' := fun w ρ μ c μ' h => by
  unfold gTupM at h
  split at h
  · split at h
    · exact hr _ _ _ _ _ h
    · cases h
  · cases h
theorem ner_var {i : Nat} : ∀ ρ μ c μ', eVar i ρ μ ≠ .er c μ' := fun ρ μ c μ' h => by
  unfold eVar at h
  split at h <;> cases h
theorem ner_sub {o i : EM} (ho : ∀ ρ μ c μ', o ρ μ ≠ .er c μ') (hi : ∀ ρ μ c μ', i ρ μ ≠ .er c μ') : ∀ w ρ μ c μ', gSubM o i w ρ μ ≠ .er c μ' := fun w ρ μ c μ' h => by
  unfold gSubM at h
  cases e : o ρ μ with
  | no => rw [e] at h; cases h
  | er c1 μ1 => exact ho _ _ _ _ e
  | ok x μ1 =>
    rw [e] at h
    dsimp only [Out.bind] at h
    cases e2 : i ρ μ1 with
    | no => rw [e2] at h; cases h
    | er c1 μ1 => exact hi _ _ _ _ e2
    | ok y μ2 =>
      rw [e2] at h
      dsimp only [Out.bind] at h
      split at h
      · split at h
        · split at h <;> cases h
        · cases h
      · cases h
/-- a target stores at own places alone, from any state alike outside -/
def GOw (g : TG) (vs : List Nat) : Prop := ∀ (v : V) (σ0 σ : St) (H : Hp) (Q : St → Hp → Prop), wipe σ vs = wipe σ0 vs → g v σ H Q → g v σ H fun σ2 H2 => wipe σ2 vs = wipe σ0 vs ∧ Q σ2 H2
def GsOw (g : TGs) (vs : List Nat) : Prop := ∀ (us : List V) (σ0 σ : St) (H : Hp) (Q : St → Hp → Prop), wipe σ vs = wipe σ0 vs → g us σ H Q → g us σ H fun σ2 H2 => wipe σ2 vs = wipe σ0 vs ∧ Q σ2 H2
theorem GOw.own {g : TG} {vs : List Nat} (h : GOw g vs) : GOwn g vs := fun v σ H Q q => h v σ (wipe σ vs) H Q wipe_wipe q
theorem gow_name {i : Nat} {vs : List Nat} (h : i ∈ vs) : GOw (gName i) vs := fun v σ0 σ H Q e q => ⟨by rw [wipe_set h, e], q⟩
theorem gsow_nil {vs : List Nat} : GsOw gNil vs := fun us σ0 σ H Q e q => ⟨q.1, e, q.2⟩
theorem gsow_cons {g : TG} {u : TGs} {vs : List Nat} (h1 : GOw g vs) (hm : ∀ v σ H (Q Q' : St → Hp → Prop), (∀ σ H, Q σ H → Q' σ H) → g v σ H Q → g v σ H Q') (h2 : GsOw u vs) : GsOw (gCons g u) vs := fun us σ0 σ H Q e q => by
  obtain ⟨v, vs', rfl, q⟩ := q
  refine ⟨v, vs', rfl, hm v σ H _ _ (fun σ1 H1 z => ?_) (h1 v σ0 σ H _ e q)⟩
  exact h2 vs' σ0 σ1 H1 Q z.1 z.2
theorem gmono_name {i : Nat} : ∀ v σ H (Q Q' : St → Hp → Prop), (∀ σ H, Q σ H → Q' σ H) → gName i v σ H Q → gName i v σ H Q' := fun v σ H Q Q' h q => h _ _ q
theorem gsmono_nil : ∀ vs σ H (Q Q' : St → Hp → Prop), (∀ σ H, Q σ H → Q' σ H) → gNil vs σ H Q → gNil vs σ H Q' := fun v σ H Q Q' h q => ⟨q.1, h _ _ q.2⟩
theorem gsmono_cons {g : TG} {u : TGs} (h1 : ∀ v σ H (Q Q' : St → Hp → Prop), (∀ σ H, Q σ H → Q' σ H) → g v σ H Q → g v σ H Q') (h2 : ∀ vs σ H (Q Q' : St → Hp → Prop), (∀ σ H, Q σ H → Q' σ H) → u vs σ H Q → u vs σ H Q') : ∀ vs σ H (Q Q' : St → Hp → Prop), (∀ σ H, Q σ H → Q' σ H) → gCons g u vs σ H Q → gCons g u vs σ H Q' := fun vs σ H Q Q' h q => by
  obtain ⟨v, vs', rfl, q⟩ := q
  exact ⟨v, vs', rfl, h1 v σ H _ _ (fun σ1 H1 z => h2 vs' σ1 H1 Q Q' h z) q⟩
theorem gmono_tup {K : PySem.W.Frag} {n : Nat} {u : TGs} (h : ∀ vs σ H (Q Q' : St → Hp → Prop), (∀ σ H, Q σ H → Q' σ H) → u vs σ H Q → u vs σ H Q') : ∀ v σ H (Q Q' : St → Hp → Prop), (∀ σ H, Q σ H → Q' σ H) → gTup K n u v σ H Q → gTup K n u v σ H Q' := fun v σ H Q Q' hh q => by
  obtain ⟨a, xs, e, hq, hl, q⟩ := q
  exact ⟨a, xs, e, hq, hl, h xs σ H Q Q' hh q⟩
theorem gow_tup {K : PySem.W.Frag} {n : Nat} {u : TGs} {vs : List Nat} (h : GsOw u vs) : GOw (gTup K n u) vs := fun v σ0 σ H Q e q => by
  obtain ⟨a, xs, e1, hq, hl, q⟩ := q
  exact ⟨a, xs, e1, hq, hl, h xs σ0 σ H Q e q⟩
end PD
namespace PD
open PySem PySem.Spec PyProof.Rows L2
variable [Tbs]
/-! ### more functions worked out: walks by place -/
section
variable {μ : Mu}
theorem at_set {i j : Nat} {c e : Cell} (h : μ[i]? = some e) : (μ.set i c)[j]? = if i = j then some c else μ[j]? := by
  by_cases hij : i = j
  · subst hij
    rw [if_pos rfl, List.getElem?_set_self (List.getElem?_eq_some_iff.mp h).1]
  · rw [if_neg hij, List.getElem?_set_ne hij]
theorem cmpS_ix {g : W → Env → Mu → Out Env} {tt : BM} {me : EM} {ρ : Env} {f : Nat → Option W} : ∀ (l : List W) (k : Nat) (acc : List W),
    (∀ (i : Nat) (x : W), l[i]? = some x → ∃ ρ1, g x ρ μ = .ok ρ1 μ ∧ ((f (k + i) = none ∧ tt ρ1 μ = .ok false μ) ∨ ∃ y, f (k + i) = some y ∧ tt ρ1 μ = .ok true μ ∧ me ρ1 μ = .ok y μ)) →
    acc.length + l.length ≤ sizeLine → cmpS g tt me ρ l acc μ = .ok (.lst (acc ++ (List.range' k l.length).filterMap f)) μ
  | [], k, acc, _, _ => by simp [cmpS]
  | x :: l, k, acc, h, hs => by
    obtain ⟨ρ1, e1, h2⟩ := h 0 x rfl
    rw [Nat.add_zero] at h2
    have hl : acc.length < sizeLine := by rw [List.length_cons] at hs; omega
    have h' : ∀ (i : Nat) (y : W), l[i]? = some y → ∃ ρ1, g y ρ μ = .ok ρ1 μ ∧ ((f (k + 1 + i) = none ∧ tt ρ1 μ = .ok false μ) ∨ ∃ z, f (k + 1 + i) = some z ∧ tt ρ1 μ = .ok true μ ∧ me ρ1 μ = .ok z μ) := fun i y hy => by
      have := h (i + 1) y (by rw [List.getElem?_cons_succ]; exact hy)
      rw [show k + 1 + i = k + (i + 1) by omega]
      exact this
    unfold cmpS
    rw [e1]
    dsimp only
    rcases h2 with ⟨h3, e2⟩ | ⟨y, h3, e2, e3⟩
    · rw [e2]
      dsimp only
      rw [cmpS_ix l (k + 1) acc h' (by rw [List.length_cons] at hs; omega), List.length_cons, List.range'_succ, List.filterMap_cons_none h3]
    · rw [e2]
      dsimp only
      rw [e3]
      dsimp only
      rw [if_pos hl, cmpS_ix l (k + 1) (acc ++ [y]) h' (by rw [List.length_append, List.length_singleton]; rw [List.length_cons] at hs; omega), List.length_cons, List.range'_succ, List.filterMap_cons_some h3]
      simp
theorem cmpL_ix {it : Iter} {l0 : List W} (hit : it.items μ = some l0) {g : W → Env → Mu → Out Env} {tt : BM} {me : EM} {ρ : Env} {f : Nat → Option W} : ∀ (l : List W) (k : Nat) (acc : List W),
    (∀ (i : Nat) (x : W), l[i]? = some x → ∃ ρ1, g x ρ μ = .ok ρ1 μ ∧ ((f (k + i) = none ∧ tt ρ1 μ = .ok false μ) ∨ ∃ y, f (k + i) = some y ∧ tt ρ1 μ = .ok true μ ∧ me ρ1 μ = .ok y μ)) →
    acc.length + l.length ≤ sizeLine → cmpL it l0 g tt me ρ l acc μ = .ok (.lst (acc ++ (List.range' k l.length).filterMap f)) μ
  | [], k, acc, _, _ => by unfold cmpL; rw [if_pos hit]; simp
  | x :: l, k, acc, h, hs => by
    obtain ⟨ρ1, e1, h2⟩ := h 0 x rfl
    rw [Nat.add_zero] at h2
    have hl : acc.length < sizeLine := by rw [List.length_cons] at hs; omega
    have h' : ∀ (i : Nat) (y : W), l[i]? = some y → ∃ ρ1, g y ρ μ = .ok ρ1 μ ∧ ((f (k + 1 + i) = none ∧ tt ρ1 μ = .ok false μ) ∨ ∃ z, f (k + 1 + i) = some z ∧ tt ρ1 μ = .ok true μ ∧ me ρ1 μ = .ok z μ) := fun i y hy => by
      have := h (i + 1) y (by rw [List.getElem?_cons_succ]; exact hy)
      rw [show k + 1 + i = k + (i + 1) by omega]
      exact this
    unfold cmpL
    rw [if_pos hit, e1]
    dsimp only
    rcases h2 with ⟨h3, e2⟩ | ⟨y, h3, e2, e3⟩
    · rw [e2]
      dsimp only
      rw [cmpL_ix hit l (k + 1) acc h' (by rw [List.length_cons] at hs; omega), List.length_cons, List.range'_succ, List.filterMap_cons_none h3]
    · rw [e2]
      dsimp only
      rw [e3]
      dsimp only
      rw [if_pos hl, cmpL_ix hit l (k + 1) (acc ++ [y]) h' (by rw [List.length_append, List.length_singleton]; rw [List.length_cons] at hs; omega), List.length_cons, List.range'_succ, List.filterMap_cons_some h3]
      simp
/-- a walk that ends at the first that is right -/
theorem forS_first {g : W → Env → Mu → Out Env} {body : SM} {f : Nat → Option W} (I : Env → Prop) : ∀ (l : List W) (k : Nat) (ρ : Env), I ρ →
    (∀ (i : Nat) (x : W) (ρ : Env), l[i]? = some x → I ρ → ∃ ρ1, g x ρ μ = .ok ρ1 μ ∧ ((f (k + i) = none ∧ ∃ ρ2, body ρ1 μ = .nx ρ2 μ ∧ I ρ2) ∨ ∃ y, f (k + i) = some y ∧ body ρ1 μ = .rt y μ)) →
    ((List.range' k l.length).findSome? f = none ∧ ∃ ρ', forS g body l ρ μ = .nx ρ' μ ∧ I ρ') ∨ ∃ y, (List.range' k l.length).findSome? f = some y ∧ forS g body l ρ μ = .rt y μ
  | [], k, ρ, h, _ => .inl ⟨rfl, ρ, rfl, h⟩
  | x :: l, k, ρ, h, st => by
    obtain ⟨ρ1, e1, h2⟩ := st 0 x ρ rfl h
    rw [Nat.add_zero] at h2
    rw [List.length_cons, List.range'_succ]
    have eq : forS g body (x :: l) ρ μ = match body ρ1 μ with
        | .nx ρ2 μ2 => forS g body l ρ2 μ2
        | .ct ρ2 μ2 => forS g body l ρ2 μ2
        | .bk ρ2 μ2 => .nx ρ2 μ2
        | o => o := by
      show ((g x ρ μ).st ρ fun ρ1 μ1 => match body ρ1 μ1 with
        | .nx ρ2 μ2 => forS g body l ρ2 μ2
        | .ct ρ2 μ2 => forS g body l ρ2 μ2
        | .bk ρ2 μ2 => .nx ρ2 μ2
        | o => o) = _
      rw [e1]
      rfl
    rw [eq]
    rcases h2 with ⟨h3, ρ2, e2, h4⟩ | ⟨y, h3, e2⟩
    · rw [e2]
      rw [List.findSome?_cons_of_isNone (by rw [h3]; rfl)]
      exact forS_first I l (k + 1) ρ2 h4 fun i y ρ hy hI => by
        rw [show k + 1 + i = k + (i + 1) by omega]
        exact st (i + 1) y ρ (by rw [List.getElem?_cons_succ]; exact hy) hI
    · rw [e2]
      exact .inr ⟨y, by rw [List.findSome?_cons, show f k = some y from h3], rfl⟩
/-- a walk along a cell that stays -/
theorem forL_inv {it : Iter} {l0 : List W} {g : W → Env → Mu → Out Env} {body : SM} (P : Nat → Env → Mu → Prop) (hit : ∀ i ρ μ, P i ρ μ → it.items μ = some l0) : ∀ (l : List W) (i : Nat) (ρ : Env) (μ : Mu), P i ρ μ →
    (∀ (j : Nat) (w : W) (ρ : Env) (μ : Mu), i ≤ j → l[j - i]? = some w → P j ρ μ → ∃ ρ1 μ1 ρ2 μ2, g w ρ μ = .ok ρ1 μ1 ∧ body ρ1 μ1 = .nx ρ2 μ2 ∧ P (j + 1) ρ2 μ2) → ∃ ρ' μ', forL it l0 g body l ρ μ = .nx ρ' μ' ∧ P (i + l.length) ρ' μ'
  | [], i, ρ, μ, h, _ => ⟨ρ, μ, by unfold forL; rw [if_pos (hit _ _ _ h)], h⟩
  | w :: l, i, ρ, μ, h, st => by
    obtain ⟨ρ1, μ1, ρ2, μ2, e1, e2, h2⟩ := st i w ρ μ (Nat.le_refl _) (by simp) h
    obtain ⟨ρ', μ', e3, h3⟩ := forL_inv P hit l (i + 1) ρ2 μ2 h2 fun j w ρ μ hj hw hP => st j w ρ μ (by omega) (by rw [show j - i = (j - (i + 1)) + 1 by omega, List.getElem?_cons_succ]; exact hw) hP
    refine ⟨ρ', μ', ?_, by rw [List.length_cons, show i + (l.length + 1) = i + 1 + l.length by omega]; exact h3⟩
    unfold forL
    rw [if_pos (hit _ _ _ h), e1]
    show (match body ρ1 μ1 with
      | .nx ρ2 μ2 => forL it l0 g body l ρ2 μ2
      | .ct ρ2 μ2 => forL it l0 g body l ρ2 μ2
      | .bk ρ2 μ2 => .nx ρ2 μ2
      | o => o) = _
    rw [e2]
    exact e3
theorem call1 {g : GC} {m : EM} {ρ : Env} {v : W} {μ1 : Mu} (h : m ρ μ = .ok v μ1) : eCall g (aCons m aNil) ρ μ = g [v] μ1 := by
  simp only [eCall, aCons, h, Out.bind, aNil]
theorem irange_get {lo : Int} {n i : Nat} {x : W} (h : (irange lo n)[i]? = some x) : i < n ∧ x = .int (lo + (i : Nat)) := by
  unfold irange at h
  rw [List.getElem?_map] at h
  obtain ⟨j, hj, rfl⟩ := Option.map_eq_some_iff.mp h
  obtain ⟨h1, h2⟩ := List.getElem?_eq_some_iff.mp hj
  rw [List.length_range] at h1
  rw [List.getElem_range] at h2
  subst h2
  exact ⟨h1, rfl⟩
theorem irange_len {lo : Int} {n : Nat} : (irange lo n).length = n := by simp [irange]
theorem rangeA {n : Nat} (h : n < 2 ^ 62) {m : AM} {ρ : Env} {μ1 : Mu} (e : m ρ μ = .ok [.int (n : Nat)] μ1) : iRngA m ρ μ = .ok (.seq (irange 0 n)) μ1 := by
  have h1 : -(2 ^ 62) ≤ ((n : Nat) : Int) ∧ ((n : Nat) : Int) < 2 ^ 62 := by omega
  simp only [iRngA, e, Out.bind, if_pos h1, Int.toNat_natCast]
theorem cutHead {l : List W} {k : Nat} : cutW l none (some (k : Int)) = l.take k := by
  unfold cutW
  rw [HT.sIx_none, HT.sIx_nat, List.drop_zero, Nat.sub_zero]
  by_cases h : k ≤ l.length
  · rw [Nat.min_eq_left h]
  · rw [Nat.min_eq_right (by omega), List.take_length, List.take_of_length_le (by omega)]
theorem cutTail {l : List W} {k : Nat} : cutW l (some (k : Int)) none = l.drop k := by
  unfold cutW
  rw [HT.sIx_none, HT.sIx_nat]
  by_cases h : k ≤ l.length
  · rw [Nat.min_eq_left h, List.take_of_length_le]
    rw [List.length_drop]
    omega
  · rw [Nat.min_eq_right (by omega), Nat.sub_self, List.take_zero, List.drop_eq_nil_of_le (by omega)]
/-! ints in tuples and lists -/
theorem ShL.ints : ∀ (ns : List Int), ShL 0 (ns.map W.int) (ns.map PyData.int)
  | [] => .nil
  | n :: ns => .cons .int (ShL.ints ns)
theorem Sh.tupW (k : List Int) : Sh 1 (tupW k) (.tuple (k.map .int)) := .tup (.ints k)
theorem Sh.intsL (k : List Int) : Sh 1 (.lst (k.map .int)) (.list (k.map .int)) := .lst (.ints k)
theorem ShL.tups : ∀ (ks : List (List Int)), ShL 1 (ks.map tupW) (ks.map fun k => .tuple (k.map .int))
  | [] => .nil
  | k :: ks => .cons (.tupW k) (ShL.tups ks)
theorem ShL.rows : ∀ (ks : List (List Int)), ShL 1 (ks.map fun k => .lst (k.map .int)) (ks.map fun k => .list (k.map .int))
  | [] => .nil
  | k :: ks => .cons (.intsL k) (ShL.rows ks)
theorem eqv_ints : ∀ (a b : List Int), PyData.eqvAll (a.map .int) (b.map .int) = decide (a = b)
  | [], [] => by simp [PyData.eqvAll]
  | [], _ :: _ => by simp [PyData.eqvAll]
  | _ :: _, [] => by simp [PyData.eqvAll]
  | x :: a, y :: b => by
    simp only [List.map_cons, PyData.eqvAll, PyData.eqv, eqv_ints a b]
    by_cases h1 : x = y <;> by_cases h2 : a = b <;> simp [h1, h2]
theorem gEq_tupW {a b : List Int} : gEq (tupW a) (tupW b) μ = .ok (.bl (decide (a = b))) μ := by
  rw [gEq_sh (.tupW a) (.tupW b)]
  simp only [PyData.eqv, eqv_ints]
theorem gEq_intsL {a b : List Int} : gEq (.lst (a.map .int)) (.lst (b.map .int)) μ = .ok (.bl (decide (a = b))) μ := by
  rw [gEq_sh (.intsL a) (.intsL b)]
  simp only [PyData.eqv, eqv_ints]
theorem gNe_intsL {a b : List Int} : gNe (.lst (a.map .int)) (.lst (b.map .int)) μ = .ok (.bl (!decide (a = b))) μ := by
  rw [gNe_sh (.intsL a) (.intsL b)]
  simp only [PyData.eqv, eqv_ints]
theorem gNe_tups_nil {ks : List (List Int)} : gNe (.tup (ks.map tupW)) (.tup []) μ = .ok (.bl (!ks.isEmpty)) μ := by
  rw [gNe_sh (.tup (.tups ks)) (.tup (n := 0) .nil)]
  cases ks <;> simp [PyData.eqv, PyData.eqvAll]
end
end PD
namespace PDM
open PySem PySem.Spec PyProof.Rows L2 GxR GenW
/-! ### generator expressions within all and any, whatever is walked and tested -/
/-- the context of the generator's frame -/
abbrev Cx.gx (X : Cx) (s : Shared) (H : Hp) (scope : Scope) (genv : PySem.Env) (fp : List Addr) : Cx :=
  { X with s_0 := s, H_0 := H, A := X.A.in1.in1.deeper genv, env := genv, outer := X.stack, stack := genv :: X.stack, ex := fp, fn := fun _ => false, pn := [], xe := fun _ _ => False }
/-- a generator's names: its own (with their places in N), captured ones, the walked thing at «.0» -/
structure GxOk (N : List Str) (sc scope : Scope) (own : List (Str × Nat)) : Prop where
  blk : BlkOk N sc scope own
  co : scope.isCoroutine = false
  cell : ∀ y ∈ scope.names, y.2 ≠ .cell
  dot : scope.names.lookup (".0" : Str) = some NameKind.local
section
variable {X : Cx} {pins : List (Addr × Obj)} {σ : L2.St} {H : Hp} {s : Shared}
theorem gx_start {scope : Scope} {own : List (Str × Nat)} {fp : List Addr} {code : Value} {m0 : Str → Option Value} {sb : Shared} {gobj : Obj} (hdC : X.calm = true) (I : Inv X pins σ H s) (ok : GxOk X.N X.env.scope scope own) (hN : X.N.Nodup) (hfp : ∀ b ∈ fp, FpOk X pins H b ∧ b < s.heap.objs.size)
    (kp : ∀ b o, s.heap.get? b = some o → sb.heap.get? b = some o) (ho : sb.os = s.os) (hbare : AllBare sb.gens) (hns : sb.heap.Ns s.heap.objs.size m0) (hgo : sb.heap.get? (s.heap.objs.size + 1) = some gobj) (hgd : ∀ v, gobj.data ≠ .cell v) :
    Inv (Cx.gx X s H scope (genEnv scope (cloFrom X.env.cells scope.names []) s.heap.objs.size code builtinsNs X.env) fp) [(s.heap.objs.size + 1, gobj)] (wipe σ (own.map (·.2))) H sb := by
  have hfree : ∀ y ∈ scope.names, y.2 = .free → ∃ c, X.env.cells.lookup y.1 = some c := fun y hy e => by
    rcases ok.blk.free y hy e with k | k
    · exact I.ok.has _ (.inl k)
    · exact I.ok.has _ (.inr k)
  generalize hcenv : genEnv scope (cloFrom X.env.cells scope.names []) s.heap.objs.size code builtinsNs X.env = cenv
  have hL : cenv.locals = s.heap.objs.size := by rw [← hcenv]; rfl
  have hcl : cenv.cells = cloFrom X.env.cells scope.names [] := by rw [← hcenv]; rfl
  have hsc : cenv.scope = scope := by rw [← hcenv]; rfl
  have hfr : cenv.frame = some s.heap.objs.size := by rw [← hcenv]; rfl
  have cm : ∀ {y c}, (y, c) ∈ cloFrom X.env.cells scope.names [] → X.env.cells.lookup y = some c ∧ c < s.heap.objs.size := fun {y c} hm => by
    rcases cloFrom_mem hm with hm | ⟨h1, rfl⟩
    · cases hm
    · obtain ⟨c, hc⟩ := hfree _ h1 rfl
      rw [hc]
      obtain ⟨w, z⟩ := I.cell _ _ hc
      exact ⟨rfl, z.lt⟩
  have mem : ∀ {y c}, cenv.cells.lookup y = some c → X.env.cells.lookup y = some c ∧ c < s.heap.objs.size := fun {y c} e => by
    rw [hcl] at e
    exact cm (PySem.mem_of_lookup e)
  have look : ∀ {y}, scope.names.lookup y = some .free → ∃ c, cenv.cells.lookup y = some c ∧ X.env.cells.lookup y = some c := fun {y} hl => by
    have hy : (y, NameKind.free) ∈ scope.names := PySem.mem_of_lookup hl
    obtain ⟨c', e'⟩ := mem_lookup (cloFrom_has (cells := X.env.cells) (acc := []) hy)
    refine ⟨c', by rw [hcl]; exact e', (cm (PySem.mem_of_lookup e')).1⟩
  have nocell : ∀ {y}, scope.names.lookup y ≠ some .cell := fun {y} e => ok.cell _ (PySem.mem_of_lookup e) rfl
  have okB : (Cx.gx X s H scope cenv fp).Ok := by
    refine ⟨I.ok.mod, by show cenv.scope.kind = _; rw [hsc]; exact ok.blk.kind, by show cenv.globals = _; rw [← hcenv]; exact I.ok.glob, by show cenv.builtins = _; rw [← hcenv]; rfl, by show s.heap.objs.size ≤ cenv.locals; rw [hL]; exact Nat.le_refl _,
      fun y z c e1 e2 => ?_, fun y hy => ?_, fun y c z e => ?_, fun h => I.ok.hd h, ?_, .inr ⟨rfl, by show cenv.frame = some cenv.locals; rw [hfr, hL]⟩, fun b hb => ⟨?_, fun y c e z => ?_⟩, I.bs, Nat.le_trans I.ok.bsz I.sz, fun b o e hb => ?_, fun b hb z => ?_, I.stack, I.stkFree⟩
    · exact I.ok.inj y z c (mem e1).1 (mem e2).1
    · rcases hy with hy | hy
      · have hy : cenv.scope.names.lookup y = some .cell := hy
        rw [hsc] at hy
        exact absurd hy nocell
      · have hy : cenv.scope.names.lookup y = some .free := hy
        rw [hsc] at hy
        obtain ⟨c, h1, _⟩ := look hy
        exact ⟨c, h1⟩
    · cases z
    · show pushEnvs [cenv] X.A.frames = some (cenv :: X.stack)
      rw [I.ok.frames]
      rfl
    · show b ≠ cenv.locals
      rw [hL]; exact Nat.ne_of_lt (hfp b hb).2
    · have e : cenv.cells.lookup y = some c := e
      exact (hfp b hb).1.2.2.2.2.1 y c (mem e).1 z
    · rcases (hfp b hb).1.2.2.2.1 with z | z
      · exact I.ok.noex b o e z
      · exact absurd (Nat.lt_of_lt_of_le (Heap.lt_size e) (Nat.le_trans I.ok.bsz z)) (Nat.lt_irrefl _)
    · rcases List.mem_cons.mp (I.stkSub b z) with z | z
      · exact (hfp b hb).1.2.1 z
      · exact (hfp b hb).1.2.2.1 z
  refine ⟨okB, ho, hbare, Un.kept kp, ⟨m0, by show sb.heap.Ns cenv.locals m0; rw [hL]; exact hns, fun i y av e1 e2 e3 => ?_⟩, fun y c e => ?_, ?_, fun y c e => ?_, fun p hp => ?_, I.hok.kept kp, by rw [wipe_length]; exact I.len⟩
  · obtain ⟨e2, hne⟩ := wipe_some e2
    have hfr : scope.names.lookup y = some .free ∧ (cenv.kindOf y = some .cell ∨ cenv.kindOf y = some .free) := by
      have e3 : Vis cenv.scope y := e3
      unfold Vis at e3
      rw [hsc] at e3
      rcases e3 with e3 | e3 | e3
      · rcases ok.blk.own _ (PySem.mem_of_lookup e3) (.inl rfl) with e' | e'
        · obtain ⟨p, hp, hpy⟩ := List.mem_map.mp e'
          have e4 := ok.blk.ix p hp
          have : p.1 = y := hpy
          rw [this] at e4
          exact absurd (List.mem_map.mpr ⟨p, hp, nodup_ix hN e4 e1⟩) hne
        · exact absurd (List.mem_of_getElem? e1) e'
      · exact absurd e3 nocell
      · refine ⟨e3, .inr ?_⟩
        show cenv.scope.names.lookup y = some .free
        rw [hsc]; exact e3
    obtain ⟨m, hn, hl⟩ := I.loc
    have hvis : Vis X.env.scope y := (ok.blk.free _ (PySem.mem_of_lookup hfr.1) rfl).elim (fun k => .inr (.inl k)) (fun k => .inr (.inr k))
    obtain ⟨w, r, q⟩ := hl i y av e1 e2 hvis
    refine ⟨w, r, .inr ⟨hfr.2, ?_⟩⟩
    obtain ⟨c, h1, h2⟩ := look hfr.1
    rcases q with ⟨k, _⟩ | ⟨_, c', e', z⟩
    · have k : X.env.scope.names.lookup y = some .local := k
      rcases ok.blk.free _ (PySem.mem_of_lookup hfr.1) rfl with k' | k' <;> rw [show X.env.scope.names.lookup y = _ from k'] at k <;> cases k
    · rw [h2] at e'; cases e'
      exact ⟨c, h1, z.keeps kp⟩
  · have e : cenv.cells.lookup y = some c := e
    obtain ⟨w, z⟩ := I.cell y c (mem e).1
    exact ⟨w, z.keeps kp⟩
  · show H cenv.locals = none
    rw [hL]; exact I.hok.fresh (Nat.le_refl _)
  · have e : cenv.cells.lookup y = some c := e
    exact I.freeC y c (mem e).1
  · have hp : p ∈ [(s.heap.objs.size + 1, gobj)] := hp
    rw [List.mem_singleton.mp hp]
    refine ⟨hgo, I.hok.fresh (Nat.le_succ _), ?_, fun z => ?_, hgd⟩
    · show s.heap.objs.size + 1 ≠ cenv.locals
      rw [hL]; exact Nat.succ_ne_self _
    · have z : s.heap.objs.size + 1 ∈ frs X.stack := z
      obtain ⟨_, o, hz, _⟩ := I.stack.mem z
      exact absurd (Nat.lt_of_succ_lt (Heap.lt_size hz)) (Nat.lt_irrefl _)
end
/-! ### the generator's turns -/
section
variable {X : Cx}
/-- the state of the generator's frame -/
def GxAt (Xg : Cx) (pin : List (Addr × Obj)) (gid : Nat) (σ : L2.St) (H : Hp) (s : Shared) : Prop := Inv Xg pin σ H s ∧ gid < s.gens.size
/-- a state alike but for the generators -/
structure AlikeG (gid : Nat) (s s' : Shared) : Prop where
  heap : s'.heap = s.heap
  os : s'.os = s.os
  bare : AllBare s'.gens
  size : gid < s'.gens.size
theorem GxAt.alike {Xg : Cx} {pin : List (Addr × Obj)} {gid : Nat} {σ : L2.St} {H : Hp} {s s' : Shared} (h : GxAt Xg pin gid σ H s) (z : AlikeG gid s s') : GxAt Xg pin gid σ H s' := by
  obtain ⟨I, _⟩ := h
  refine ⟨?_, z.size⟩
  obtain ⟨hh, g, d, t, o⟩ := s'
  obtain ⟨z1, z2, z3, _⟩ := z
  have e1 : hh = s.heap := z1
  have e2 : o = s.os := z2
  subst e1 e2
  exact ⟨I.ok, I.os, z3, I.base, I.loc, I.cell, I.free, I.freeC, I.pin, I.hok, I.len⟩
/-- how it ends -/
def gxEnd (Xg : Cx) (pin : List (Addr × Obj)) (gid : Nat) (b0 : Bool) (Q : VK) : GenEnd := fun _ _ r s1 => r = .ok .next ∧ ∃ σ' H', GxAt Xg pin gid σ' H' s1 ∧ Q (.bl b0) H'
/-- what it hands out -/
def gxOut (Xg : Cx) (pin : List (Addr × Obj)) (gid : Nat) (b0 : Bool) (Q : VK) : Protocol := fun _ _ v s1 kap => ∃ (k : Bool) (σ' : L2.St) (H' : Hp), v = .bool k ∧ GxAt Xg pin gid σ' H' s1 ∧ if k = b0 then ∀ s2, AlikeG gid s1 s2 → kap (.send .none) s2 else Q (.bl (!b0)) H'
/-- the turns, read -/
def gxW (J : It) (g : TG) (tt : TT) (te : TE) (vs : List Nat) (σ : L2.St) (b0 : Bool) (Q : VK) (W : Nat → Nat → Hp → Prop) : Prop := ∀ i m H, W i m H →
  (J.stop i H ∧ Q (.bl b0) H) ∨ (J.go i H ∧ ∃ Nx : Hp → Prop, (∀ H', Nx H' → ∃ m', m' < m ∧ W (i + 1) m' H') ∧ ∀ x H', J.yld i H x H' → g x (wipe σ vs) H' fun σ2 H2 => wipe σ2 vs = wipe σ vs ∧ tt σ2 H2 fun b H3 =>
    if b = true then te σ2 H3 fun y H4 => ∃ k : Bool, y = .bl k ∧ if k = b0 then Nx H4 else Q (.bl (!b0)) H4 else Nx H3)
theorem seg_gx {A : Around} {Xg : Cx} {tg elt iter : Expr} {ifs : List Expr} {scope : Scope} {pos : Pos} {cenv : PySem.Env} {fp : List Addr} {it ga : Addr} {gobj : Obj} {gid : Nat} {tn : Nat → Heap → Prop} {J : It} {g : TG} {tt : TT} {te : TE} {vs : List Nat} {σ : L2.St} {b0 : Bool} {Q : VK} {W : Nat → Nat → Hp → Prop}
    (hA : Xg.A = A.deeper cenv) (he0 : Xg.env = cenv) (hc : Xg.calm = true) (hpn : Xg.pn = []) (hex : Xg.ex = fp) (hgf : ga ∉ fp) (T : Turn Xg.prog Xg.w Xg.K tg J fp it tn) (pg : PG Xg tg g) (pt : PTs Xg ifs tt) (pe : PE Xg elt te) (hxe : Xg.xe = fun _ _ => False) (hco : cenv.scope.isCoroutine = false)
    (turn : gxW J g tt te vs σ b0 Q W) :
    ∀ (m i n : Nat) (s₀ s : Shared) (H : Hp), m < n → GxAt Xg [(ga, gobj)] gid (wipe σ vs) H s → tn i s.heap → (∀ b ∈ fp, H b = none) → W i m H →
      Seg (model Xg.prog Xg.w) A (gxEnd Xg [(ga, gobj)] gid b0 Q) (gxOut Xg [(ga, gobj)] gid b0 Q) n s₀ (.compLoop (.GeneratorExp elt [⟨tg, iter, ifs, 0⟩] scope pos) 0 (.ref it) .none cenv)
        ((model Xg.prog Xg.w).den (.compLoop (.GeneratorExp elt [⟨tg, iter, ifs, 0⟩] scope pos) 0 (.ref it) .none cenv)) [] s := by
  have over : A.over (.compLoop (.GeneratorExp elt [⟨tg, iter, ifs, 0⟩] scope pos) 0 (.ref it) .none cenv) [] = Xg.A := by rw [hA]; rfl
  have stat : ∀ {σ' : L2.St} {H' : Hp} {s' : Shared}, Inv Xg [(ga, gobj)] σ' H' s' → (∀ b ∈ fp, H' b = none) → ∀ b ∈ fp, FpOk Xg [(ga, gobj)] H' b := fun {σ' H' s'} I' hn b hb => by
    have hb' : b ∈ Xg.ex := by rw [hex]; exact hb
    refine ⟨hn b hb, (I'.ok.exf b hb').1, I'.ok.exfs b hb', .inl hb', fun x c e => (I'.ok.exf b hb').2 x c e, fun p hp => ?_⟩
    rw [hpn] at hp
    rw [List.mem_singleton.mp (show p ∈ [(ga, gobj)] from hp)]
    exact fun z => hgf (by have z : ga = b := z; rw [z]; exact hb)
  intro m
  induction m using Nat.strongRecOn with
  | ind m ih =>
  intro i n s₀ s H hmn hG st nf hw
  obtain ⟨I, hgs⟩ := hG
  show Seg _ A _ _ n s₀ _ ((compTurn (.GeneratorExp elt [⟨tg, iter, ifs, 0⟩] scope pos) 0 (.ref it) .none cenv).onRaise (leaving cenv)) [] s
  rw [compTurn_gen, Sem.onRaise_eq_wrap]
  refine seg_bind_wrap (wpAny_standAt ?_)
  rcases turn i m H hw with ⟨stop, qq⟩ | ⟨go, Nx, hNx, step⟩
  · refine seg_bind_wrap ?_
    rw [over]
    refine wpAny_gsz (n := gid + 1) hgs (thnF (T.done Xg rfl rfl rfl hc i _ s _ H (fun _ _ => False) I (stat I nf) st stop) fun r s1 ⟨hr, I1⟩ hg1 => ?_)
    subst hr
    exact seg_end (.ok .next) ⟨rfl, _, H, ⟨I1, hg1⟩, qq⟩
  · refine seg_bind_wrap ?_
    rw [over]
    refine wpAny_gsz (n := gid + 1) hgs (thnF (T.item Xg rfl rfl rfl hc i _ s _ H (fun _ _ => False) I (stat I nf) st go) fun r s1 ⟨u, hr, h1⟩ hg1 => ?_)
    subst hr
    dsimp only
    refine seg_bind_wrap ?_
    rw [over]
    refine wpAny_gsz (n := gid + 1) hg1 (thnF h1 fun _ s2 ⟨x, H2, I2, r2, y2, st2, n2⟩ hg2 => ?_)
    have I2' := I2.pinned (stat I2 n2) (T.obj _ _ st2)
    refine seg_bind_wrap ?_
    rw [over]
    have pg' := pg.run _ s2 _ H2 x u _ I2' r2 (step x H2 y2)
    rw [hxe, he0] at pg'
    refine wpAny_gsz (n := gid + 1) hg2 (thnF pg' fun _ s3 ⟨σ3, H3, I3, hw3, q3⟩ hg3 => ?_)
    refine seg_bind_wrap ?_
    rw [over]
    have pt' := pt.run _ s3 σ3 H3 _ I3 q3
    rw [hxe, he0] at pt'
    refine wpAny_gsz (n := gid + 1) hg3 (thnF pt' fun b s4 ⟨H4, I4, q4⟩ hg4 => ?_)
    -- the turn's end
    have fin : ∀ {s' : Shared} {H' : Hp}, Inv Xg ([(ga, gobj)] ++ pinsAt fp s2.heap) σ3 H' s' → Nx H' → ∃ m' < m, Inv Xg [(ga, gobj)] (wipe σ vs) H' s' ∧ tn (i + 1) s'.heap ∧ (∀ b ∈ fp, H' b = none) ∧ W (i + 1) m' H' := fun {s' H'} I' nx => by
      obtain ⟨m', hm, w'⟩ := hNx H' nx
      have pin' : ∀ b ∈ fp, ∀ o, s2.heap.get? b = some o → s'.heap.get? b = some o ∧ H' b = none := fun b hb o e =>
        let z := I'.pin (b, o) (List.mem_append_right _ (List.mem_append_right _ (mem_pinsAt hb e)))
        ⟨z.1, z.2.1⟩
      have hl : (wipe σ vs).length = σ3.length := by rw [← hw3, wipe_length]
      refine ⟨m', hm, (I'.unpinned (pins := [(ga, gobj)])).weak hl (fun j v e => ?_), T.keep _ _ _ st2 fun b hb o e => (pin' b hb o e).1, fun b hb => ?_, w'⟩
      · rw [← hw3] at e
        exact (wipe_some e).1
      · obtain ⟨o, e, _⟩ := T.obj _ _ st2 b hb
        exact (pin' b hb o e).2
    cases b with
    | false =>
      simp only [Bool.false_eq_true, if_false] at q4 ⊢
      obtain ⟨m', hm, I5, st5, n5, w5⟩ := fin I4 q4
      exact seg_again rfl (ih m' hm (i + 1) n s₀ s4 H4 (by omega) ⟨I5, hg4⟩ st5 n5 w5)
    | true =>
      simp only [if_true] at q4 ⊢
      have hy : ∀ v, yieldOut cenv v = yieldValue v := fun v => by simp only [yieldOut, hco, Bool.false_eq_true, if_false]
      simp only [hy]
      rw [Sem.bind_eq_wrap', Sem.bind_eq_wrap', Sem.wrap_wrap, Sem.wrap_wrap]
      refine seg_wrap ?_
      rw [over]
      have pe' := pe.run _ s4 σ3 H4 _ I4 q4
      rw [hxe, he0] at pe'
      refine wpAny_gsz (n := gid + 1) hg4 (thnF pe' fun z s5 ⟨yv, H5, I5, r5, k, ek, q5⟩ hg5 => ?_)
      subst ek
      obtain rfl : z = Value.bool k := r5
      by_cases hk : k = b0
      · rw [if_pos hk] at q5
        obtain ⟨m', hm, I6, st6, n6, w6⟩ := fin I5 q5
        obtain ⟨n', rfl⟩ : ∃ n', n = n' + 1 := ⟨n - 1, by omega⟩
        refine seg_at (seg_yield rfl rfl rfl ⟨k, _, H5, rfl, ⟨I6, hg5⟩, ?_⟩)
        rw [if_pos hk]
        intro s6 z6
        have G7 := GxAt.alike ⟨I6, hg5⟩ z6
        refine seg_again rfl (ih m' hm (i + 1) n' s6 s6 H5 (by omega) G7 ?_ n6 w6)
        rw [z6.heap]
        exact st6
      · rw [if_neg hk] at q5
        obtain ⟨n', rfl⟩ : ∃ n', n = n' + 1 := ⟨n - 1, by omega⟩
        refine seg_at (seg_yield rfl rfl rfl ⟨k, σ3, H5, rfl, ⟨I5.unpinned (pins := [(ga, gobj)]), hg5⟩, ?_⟩)
        rw [if_neg hk]
        exact q5
end
/-! ### the consumers -/
theorem bare_set {s : Shared} {gid : Nat} {x : GenState} (h : AllBare s.gens) (hx : x.bare = true) : AllBare (s.setGen gid x).gens := by
  intro y hy
  obtain ⟨i, hi, rfl⟩ := Array.mem_iff_getElem.mp hy
  have hs : (s.setGen gid x).gens.size = s.gens.size := setGen_size s gid x
  by_cases e : i = gid
  · subst e
    have hlt : i < s.gens.size := by rw [← hs]; exact hi
    have : (s.setGen i x).gens[i]? = some x := by simp [Shared.setGen, hlt]
    rw [Array.getElem?_eq_getElem hi] at this
    rw [Option.some.inj this]
    exact hx
  · have h1 := (GenOnly.setGen s gid x).2 i e
    rw [Array.getElem?_eq_getElem hi] at h1
    obtain ⟨hi', e'⟩ := Array.getElem?_eq_some_iff.mp h1.symm
    exact e' ▸ h _ (Array.getElem_mem hi')
theorem alike_set {s : Shared} {gid : Nat} {x : GenState} (h : AllBare s.gens) (hx : x.bare = true) (hs : gid < s.gens.size) : AlikeG gid s (s.setGen gid x) :=
  ⟨rfl, rfl, bare_set h hx, by rw [setGen_size]; exact hs⟩
theorem AlikeG.trans {gid : Nat} {a b c : Shared} (x : AlikeG gid a b) (y : AlikeG gid b c) : AlikeG gid a c := ⟨y.heap.trans x.heap, y.os.trans x.os, y.bare, y.size⟩
theorem inv_gens {X : Cx} {pins : List (Addr × Obj)} {σ : L2.St} {H : Hp} {s : Shared} {h' : Heap} {g' : Array GenState} (I : Inv X pins σ H s) (hg : AllBare g') (k : ∀ b o, s.heap.get? b = some o → h'.get? b = some o) : Inv X pins σ H { s with gens := g', heap := h' } := by
  have J := I.kept (t' := s.toks) k
  exact ⟨J.ok, J.os, hg, J.base, J.loc, J.cell, J.free, J.freeC, J.pin, J.hok, J.len⟩
theorem get_set {s : Shared} {gid : Nat} {x : GenState} (h : gid < s.gens.size) : (s.setGen gid x).gens[gid]? = some x := by simp [Shared.setGen, h]
section
variable {Xg : Cx} {A : Around} {R0 : Result → Shared → Prop} {ga : Addr} {gobj : Obj} {gid : Nat} {Q : VK}
theorem all_gx (hh : A.handled = none) (hroom : A.depth < recursionLimit) (hgen : ∀ h : Heap, h.get? ga = some gobj → h.IsGen ga gid)
    (hfin : ∀ (k : Bool) (σ' : L2.St) (H' : Hp) (s' : Shared), Inv Xg [(ga, gobj)] σ' H' s' → Q (.bl k) H' → R0 (.ok (.ret (.bool k))) s') :
    ∀ (n : Nat) (gs : GenState) (σ' : L2.St) (H' : Hp) (s : Shared), GxAt Xg [(ga, gobj)] gid σ' H' s → s.gens[gid]? = some gs →
      (∀ s2, AlikeG gid s s2 → gs.Goes (model Xg.prog Xg.w) A.in1.in1 (gxEnd Xg [(ga, gobj)] gid true Q) (gxOut Xg [(ga, gobj)] gid true Q) n (.send .none) s2) →
      codeAny (model Xg.prog Xg.w) A (.builtin "all.loop" ⟨[.ref ga], []⟩) R0 s := by
  intro n
  induction n with
  | zero =>
    intro gs σ' H' s hG hgs hgo
    refine codeAny_builtin F.entry_all_loop ?_
    rw [Around.under_plainId F.plain_all_loop _]
    show wpAny _ A.in1 (pyNext (.ref ga) >>= _) _ _ s
    have hg := hgen s.heap (hG.1.pin (ga, gobj) (List.mem_append_right _ List.mem_cons_self)).1
    refine wpAny_bind (wpAny_pyNext_genexpQ (A := A.in1) (n := 0) hh hG.1.nolimit hroom hg hgs (hgo _ (alike_set hG.1.bare rfl hG.2)) (fun v s₁ gs' hb hv => ?_) fun s₁ hp h' hk => ?_)
    · obtain ⟨k, σ1, H1, rfl, G1, q1⟩ := hv
      have hsz : gid < s₁.gens.size := G1.2
      refine wpAny_bind (wpAny_holding ?_)
      refine wpAny_truthy_bool ?_
      refine wpAny_bind (wpAny_letGo ?_)
      cases k with
      | true =>
        rw [if_pos rfl] at q1
        exact (q1 s₁ ⟨rfl, rfl, G1.1.bare, hsz⟩).elim
      | false =>
        rw [if_neg Bool.false_ne_true] at q1
        simp only [Bool.false_eq_true, if_false]
        refine wpAny_bind (wpAny_rule (wpAny_pure ?_))
        exact hfin false σ1 H1 _ (GxAt.alike G1 (alike_set G1.1.bare hb hsz)).1 q1
    · obtain ⟨σ1, H1, G1, q1⟩ := hp
      refine wpAny_bind (wpAny_rule (wpAny_pure ?_))
      exact hfin true σ1 H1 _ (inv_gens (GxAt.alike G1 (alike_set G1.1.bare rfl G1.2)).1 (bare_set G1.1.bare rfl) hk) q1
  | succ n ih =>
    intro gs σ' H' s hG hgs hgo
    refine codeAny_builtin F.entry_all_loop ?_
    rw [Around.under_plainId F.plain_all_loop _]
    show wpAny _ A.in1 (pyNext (.ref ga) >>= _) _ _ s
    have hg := hgen s.heap (hG.1.pin (ga, gobj) (List.mem_append_right _ List.mem_cons_self)).1
    refine wpAny_bind (wpAny_pyNext_genexpQ (A := A.in1) (n := n + 1) hh hG.1.nolimit hroom hg hgs (hgo _ (alike_set hG.1.bare rfl hG.2)) (fun v s₁ gs' hb hv => ?_) fun s₁ hp h' hk => ?_)
    · obtain ⟨k, σ1, H1, rfl, G1, q1⟩ := hv
      have hsz : gid < s₁.gens.size := G1.2
      refine wpAny_bind (wpAny_holding ?_)
      refine wpAny_truthy_bool ?_
      refine wpAny_bind (wpAny_letGo ?_)
      cases k with
      | true =>
        rw [if_pos rfl] at q1
        simp only [if_true]
        refine wpAny_pure ⟨plainId_quiet F.plain_all_loop _, ih gs' σ1 H1 _ (GxAt.alike G1 (alike_set G1.1.bare hb hsz)) (get_set hsz) fun s2 z => ?_⟩
        exact q1 s2 ((alike_set G1.1.bare hb hsz).trans z)
      | false =>
        rw [if_neg Bool.false_ne_true] at q1
        simp only [Bool.false_eq_true, if_false]
        refine wpAny_bind (wpAny_rule (wpAny_pure ?_))
        exact hfin false σ1 H1 _ (GxAt.alike G1 (alike_set G1.1.bare hb hsz)).1 q1
    · obtain ⟨σ1, H1, G1, q1⟩ := hp
      refine wpAny_bind (wpAny_rule (wpAny_pure ?_))
      exact hfin true σ1 H1 _ (inv_gens (GxAt.alike G1 (alike_set G1.1.bare rfl G1.2)).1 (bare_set G1.1.bare rfl) hk) q1
theorem any_gx (hh : A.handled = none) (hroom : A.depth < recursionLimit) (hgen : ∀ h : Heap, h.get? ga = some gobj → h.IsGen ga gid)
    (hfin : ∀ (k : Bool) (σ' : L2.St) (H' : Hp) (s' : Shared), Inv Xg [(ga, gobj)] σ' H' s' → Q (.bl k) H' → R0 (.ok (.ret (.bool k))) s') :
    ∀ (n : Nat) (gs : GenState) (σ' : L2.St) (H' : Hp) (s : Shared), GxAt Xg [(ga, gobj)] gid σ' H' s → s.gens[gid]? = some gs →
      (∀ s2, AlikeG gid s s2 → gs.Goes (model Xg.prog Xg.w) A.in1.in1 (gxEnd Xg [(ga, gobj)] gid false Q) (gxOut Xg [(ga, gobj)] gid false Q) n (.send .none) s2) →
      codeAny (model Xg.prog Xg.w) A (.builtin "any.loop" ⟨[.ref ga], []⟩) R0 s := by
  intro n
  induction n with
  | zero =>
    intro gs σ' H' s hG hgs hgo
    refine codeAny_builtin F.entry_any_loop ?_
    rw [Around.under_plainId F.plain_any_loop _]
    show wpAny _ A.in1 (pyNext (.ref ga) >>= _) _ _ s
    have hg := hgen s.heap (hG.1.pin (ga, gobj) (List.mem_append_right _ List.mem_cons_self)).1
    refine wpAny_bind (wpAny_pyNext_genexpQ (A := A.in1) (n := 0) hh hG.1.nolimit hroom hg hgs (hgo _ (alike_set hG.1.bare rfl hG.2)) (fun v s₁ gs' hb hv => ?_) fun s₁ hp h' hk => ?_)
    · obtain ⟨k, σ1, H1, rfl, G1, q1⟩ := hv
      have hsz : gid < s₁.gens.size := G1.2
      refine wpAny_bind (wpAny_holding ?_)
      refine wpAny_truthy_bool ?_
      refine wpAny_bind (wpAny_letGo ?_)
      cases k with
      | false =>
        rw [if_pos rfl] at q1
        exact (q1 s₁ ⟨rfl, rfl, G1.1.bare, hsz⟩).elim
      | true =>
        rw [if_neg (by decide)] at q1
        simp only [if_true]
        refine wpAny_bind (wpAny_rule (wpAny_pure ?_))
        exact hfin true σ1 H1 _ (GxAt.alike G1 (alike_set G1.1.bare hb hsz)).1 q1
    · obtain ⟨σ1, H1, G1, q1⟩ := hp
      refine wpAny_bind (wpAny_rule (wpAny_pure ?_))
      exact hfin false σ1 H1 _ (inv_gens (GxAt.alike G1 (alike_set G1.1.bare rfl G1.2)).1 (bare_set G1.1.bare rfl) hk) q1
  | succ n ih =>
    intro gs σ' H' s hG hgs hgo
    refine codeAny_builtin F.entry_any_loop ?_
    rw [Around.under_plainId F.plain_any_loop _]
    show wpAny _ A.in1 (pyNext (.ref ga) >>= _) _ _ s
    have hg := hgen s.heap (hG.1.pin (ga, gobj) (List.mem_append_right _ List.mem_cons_self)).1
    refine wpAny_bind (wpAny_pyNext_genexpQ (A := A.in1) (n := n + 1) hh hG.1.nolimit hroom hg hgs (hgo _ (alike_set hG.1.bare rfl hG.2)) (fun v s₁ gs' hb hv => ?_) fun s₁ hp h' hk => ?_)
    · obtain ⟨k, σ1, H1, rfl, G1, q1⟩ := hv
      have hsz : gid < s₁.gens.size := G1.2
      refine wpAny_bind (wpAny_holding ?_)
      refine wpAny_truthy_bool ?_
      refine wpAny_bind (wpAny_letGo ?_)
      cases k with
      | false =>
        rw [if_pos rfl] at q1
        simp only [Bool.false_eq_true, if_false]
        refine wpAny_pure ⟨plainId_quiet F.plain_any_loop _, ih gs' σ1 H1 _ (GxAt.alike G1 (alike_set G1.1.bare hb hsz)) (get_set hsz) fun s2 z => ?_⟩
        exact q1 s2 ((alike_set G1.1.bare hb hsz).trans z)
      | true =>
        rw [if_neg (by decide)] at q1
        simp only [if_true]
        refine wpAny_bind (wpAny_rule (wpAny_pure ?_))
        exact hfin true σ1 H1 _ (GxAt.alike G1 (alike_set G1.1.bare hb hsz)).1 q1
    · obtain ⟨σ1, H1, G1, q1⟩ := hp
      refine wpAny_bind (wpAny_rule (wpAny_pure ?_))
      exact hfin false σ1 H1 _ (inv_gens (GxAt.alike G1 (alike_set G1.1.bare rfl G1.2)).1 (bare_set G1.1.bare rfl) hk) q1
end
/-! ### the rule -/
theorem seg_gx0 {prog : Program} {w : World} {A : Around} {R : GenEnd} {Y : Protocol} {n : Nat} {s₀ s : Shared} {elt tg iter : Expr} {ifs : List Expr} {scope : Scope} {pos : Pos} {cenv : PySem.Env} {it : Addr}
    (self : ∀ (A' : Around) (Q : Value → Shared → Prop) (E : Value → Shared → Prop), Q (.ref it) s → wpAny (model prog w) A' (pyIter (.ref it)) Q E s)
    (loop : Seg (model prog w) A R Y n s₀ (.compLoop (.GeneratorExp elt [⟨tg, iter, ifs, 0⟩] scope pos) 0 (.ref it) .none cenv) ((model prog w).den (.compLoop (.GeneratorExp elt [⟨tg, iter, ifs, 0⟩] scope pos) 0 (.ref it) .none cenv)) [] s) :
    Seg (model prog w) A R Y n s₀ (.compStart (.GeneratorExp elt [⟨tg, iter, ifs, 0⟩] scope pos) 0 (.ref it) .none cenv) ((model prog w).den (.compStart (.GeneratorExp elt [⟨tg, iter, ifs, 0⟩] scope pos) 0 (.ref it) .none cenv)) [] s := by
  show Seg _ A _ _ _ s₀ _ ((compStart (.GeneratorExp elt [⟨tg, iter, ifs, 0⟩] scope pos) 0 (.ref it) .none cenv).onRaise (leaving cenv)) [] s
  unfold compStart
  rw [Sem.onRaise_eq_wrap]
  show Seg _ A _ _ _ s₀ _ ((ask >>= _).wrap _ _ _ _) [] s
  refine seg_bind_wrap (wpAny_askSetting ?_)
  split
  · exact seg_again rfl loop
  · first
      | exact seg_bind_wrap (wpAny_rule (seg_bind_wrap (wpAny_standAt (seg_bind_wrap (self _ _ _ (seg_again rfl loop))))))
      | (refine seg_bind_wrap (wpAny_rule ?_); show Seg _ A _ _ _ s₀ _ ((standAt iter.pos >>= _).wrap _ _ _ _) [] s; exact seg_bind_wrap (wpAny_standAt (seg_bind_wrap (self _ _ _ (seg_again rfl loop)))))
/-- all, any of tests: what is asked -/
def tGx (b0 : Bool) (P : Addr) (wi : TI) (g : TG) (tt : TT) (te : TE) (vs : List Nat) : TE := fun σ H Q => wi σ H fun J H1 => TabG H1 P ∧ ∀ H2, Tabbed P H1 H2 → ∃ W : Nat → Nat → Hp → Prop, gxW J g tt te vs σ b0 Q W ∧ ∃ m, W 0 m H2
section
variable {X : Cx} {pins : List (Addr × Obj)} {σ : L2.St} {H : Hp} {s : Shared}
/-- the generator ga stands ready in s5 -/
def GxReady (X : Cx) (pins : List (Addr × Obj)) (σ : L2.St) (b0 : Bool) (Q : VK) (ga : Addr) (s5 : Shared) : Prop :=
  ∃ (s4 : Shared) (H4 : Hp) (scope : Scope) (genv : PySem.Env) (fp : List Addr) (gobj : Obj) (gid n : Nat) (gs : GenState) (σ' : L2.St) (H' : Hp), (∀ h : Heap, h.get? ga = some gobj → h.IsGen ga gid) ∧ GxAt (Cx.gx X s4 H4 scope genv fp) [(ga, gobj)] gid σ' H' s5 ∧ s5.gens[gid]? = some gs ∧
    (∀ s2, AlikeG gid s5 s2 → gs.Goes (model X.prog X.w) X.A.in1.in1 (gxEnd (Cx.gx X s4 H4 scope genv fp) [(ga, gobj)] gid b0 Q) (gxOut (Cx.gx X s4 H4 scope genv fp) [(ga, gobj)] gid b0 Q) n (.send .none) s2) ∧
    ∀ (σ' : L2.St) (H' : Hp) (s' : Shared), Inv (Cx.gx X s4 H4 scope genv fp) [(ga, gobj)] σ' H' s' → Inv X pins σ H' s'
theorem gx_make {c P : Addr} {elt tg iter : Expr} {ifs : List Expr} {scope : Scope} {own : List (Str × Nat)} {gpos : Pos} {wi : TI} {g : TG} {tt : TT} {te : TE} {b0 : Bool} {Q : VK} {k : Nat} {Q' : Value → Shared → Prop}
    (hr : Room k X.A) (hc : X.calm = true) (hN : X.N.Nodup) (TB : GxR.TabB X.base X.mg c P) (hcode : X.env.code = .ref c) (S : GxOk X.N X.env.scope scope own) (hi : PI X tg iter wi)
    (hgt : ∀ (s : Shared) (H : Hp) (C : Addr) (cl : List (Str × Addr)) (code : Value) (fp : List Addr), PG (Cx.gx X s H scope (genEnv scope cl C code builtinsNs X.env) fp) tg g)
    (htt : ∀ (s : Shared) (H : Hp) (C : Addr) (cl : List (Str × Addr)) (code : Value) (fp : List Addr), PTs (Cx.gx X s H scope (genEnv scope cl C code builtinsNs X.env) fp) ifs tt)
    (hel : ∀ (s : Shared) (H : Hp) (C : Addr) (cl : List (Str × Addr)) (code : Value) (fp : List Addr), PE (Cx.gx X s H scope (genEnv scope cl C code builtinsNs X.env) fp) elt te)
    (hs : ∀ v, genFold iter X.env v = pure v) (I : Inv X pins σ H s) (h : tGx b0 P wi g tt te (own.map (·.2)) σ H Q)
    (hQ : ∀ ga s5, GxReady X pins σ b0 Q ga s5 → Q' (.ref ga) s5) :
    wpAny (model X.prog X.w) X.A (eval (.GeneratorExp elt [⟨tg, iter, ifs, 0⟩] scope gpos) X.env) Q' X.xe s := by
  have hfree : ∀ y ∈ scope.names, y.2 = .free → ∃ c, X.env.cells.lookup y.1 = some c := fun y hy e => by
    rcases S.blk.free y hy e with k | k
    · exact I.ok.has _ (.inl k)
    · exact I.ok.has _ (.inr k)
  refine wpAny_GeneratorExp_make S.co (closure_ok hfree) S.cell S.dot S.blk.kind (by have := hr.dp; omega) ?_ hs
  refine thn (hi.run pins s σ H _ I h) fun xv s1 hx => thn hx fun itv s2 h2 => ?_
  obtain ⟨it, fp, tn, J, H2, e, I2, T, st2, f2, ⟨ps, hP, ht⟩, q⟩ := h2
  subst e
  have hPs : s2.heap.get? P = some { cls := .none, data := .fields ps } := I2.hok P _ hP
  have cd : PySem.W.CodeHd s2.heap c P := TB.code.keeps fun b u e => I2.bk b u e
  have cont : ∀ (code : Value) (h3 : Heap) (tk : Nat) (ps' : Array Value), Heap.ExtBut P s2.heap h3 → h3.get? P = some { cls := .none, data := .fields ps' } → (∃ more, ps' = ps ++ more) → TriplesOk ps'.toList →
      wpAny (model X.prog X.w) X.A (builtinsFor X.env.globals X.env.builtins) (fun bi s₄ =>
        ∀ h', h'.Ns s₄.heap.objs.size (fun y => if y = ".0" then some (.ref it) else none) → Heap.SameBut s₄.heap.objs.size (s₄.heap.push { cls := .type "frame", data := .dict #[] }) h' →
          Q' (.ref h'.objs.size) { s₄ with
            gens := s₄.gens.push (.fresh (.compStart (.GeneratorExp elt [⟨tg, iter, ifs, 0⟩] scope gpos) 0 (.ref it) .none (genEnv scope (cloFrom X.env.cells scope.names []) s₄.heap.objs.size code bi X.env))),
            toks := s₄.toks + 1 + 1 + 1,
            heap := h'.push { cls := .type "generator", data := .fields #[.int s₄.gens.size 0, .str "<genexpr>" (s₄.toks + 1), .str (X.env.qual ++ "<genexpr>") (s₄.toks + 1 + 1)] } }) X.xe { s2 with heap := h3, toks := tk } := by
    intro code h3 tk ps' hx hP3 ⟨more, em⟩ ht3
    subst em
    obtain ⟨bm, ob, e1, e2, e3, e4, e5, e6, e7, e8⟩ := TB.bm
    have keep3 : ∀ b u, b ≠ P → s2.heap.get? b = some u → h3.get? b = some u := fun b u hb e => hx b u hb e
    have I3 : Inv X pins σ (upd H2 P (.tbl (ps ++ more))) { s2 with heap := h3, toks := tk } :=
      inv_tab (more := more) (h' := h3) (g' := s2.gens) (d' := s2.drawn) (t' := tk) I2 hP keep3 hP3 I2.bare
    refine wpAny_builtinsFor (m := X.mg) (by rw [I2.ok.glob]; exact (I2.mod.glob.keeps I2.bk).extBut hx TB.gP) e1 e2 (keep3 _ _ e4 (I2.bk _ _ e5)) e6 e7 e8 ?_
    intro h' hns hsb
    generalize hs3 : ({ s2 with heap := h3, toks := tk } : Shared) = s3 at I3 hns hsb ⊢
    generalize hH3 : upd H2 P (.tbl (ps ++ more)) = H3 at I3
    have hTab : Tabbed P H2 H3 := by
      rw [← hH3]
      exact ⟨⟨ps ++ more, upd_same, ht3⟩, fun b hb => upd_ne hb⟩
    have hsz : h'.objs.size = s3.heap.objs.size + 1 := by rw [hsb.1, Heap.size_push]
    have fpP : ∀ b ∈ fp, b ≠ P := fun b hb z => by
      have := (f2 b hb).1
      rw [z, hP] at this; cases this
    have h3e : s3.heap = h3 := by rw [← hs3]
    have f3 : ∀ b ∈ fp, FpOk X pins H3 b ∧ b < s3.heap.objs.size := fun b hb => by
      obtain ⟨o, e, _⟩ := T.obj _ _ st2 b hb
      refine ⟨⟨?_, (f2 b hb).2⟩, ?_⟩
      · rw [← hH3, upd_ne (fpP b hb)]; exact (f2 b hb).1
      · rw [h3e]; exact Heap.lt_size (keep3 b o (fpP b hb) e)
    have st3 : tn 0 s3.heap := T.keep _ _ _ st2 fun b hb o e => by rw [h3e]; exact keep3 b o (fpP b hb) e
    have kp : ∀ b o, s3.heap.get? b = some o → (h'.push ({ cls := .type "generator", data := .fields #[.int s3.gens.size 0, .str "<genexpr>" (s3.toks + 1), .str (X.env.qual ++ "<genexpr>") (s3.toks + 1 + 1)] } : Obj)).get? b = some o := fun b o e =>
      Heap.get?_push_of_some _ (hsb.extBut b o (Nat.ne_of_lt (Heap.lt_size e)) (Heap.get?_push_of_some _ e))
    rw [hsz]
    generalize hgo : ({ cls := .type "generator", data := .fields #[.int s3.gens.size 0, .str "<genexpr>" (s3.toks + 1), .str (X.env.qual ++ "<genexpr>") (s3.toks + 1 + 1)] } : Obj) = gobj at kp ⊢
    have hgen : ∀ h : Heap, h.get? (s3.heap.objs.size + 1) = some gobj → h.IsGen (s3.heap.objs.size + 1) s3.gens.size := fun h e => by
      rw [← hgo] at e
      exact ⟨_, _, _, e, rfl, rfl, rfl⟩
    have hgp : (h'.push gobj).get? (s3.heap.objs.size + 1) = some gobj := by
      rw [← hsz, ← hgo]; exact Heap.get?_push_size _ rfl
    have I5 := gx_start (code := code) (m0 := fun y => if y = ".0" then some (.ref it) else none) (gobj := gobj) hc I3 S hN f3
      (sb := { s3 with gens := s3.gens.push (.fresh (.compStart (.GeneratorExp elt [⟨tg, iter, ifs, 0⟩] scope gpos) 0 (.ref it) .none (genEnv scope (cloFrom X.env.cells scope.names []) s3.heap.objs.size code builtinsNs X.env))), toks := s3.toks + 1 + 1 + 1, heap := h'.push gobj })
      kp rfl (I3.bare.push rfl) (hns.push _) hgp (fun v z => by rw [← hgo] at z; cases z)
    obtain ⟨W, tW, m, w0⟩ := q H3 hTab
    have pg := hgt s3 H3 s3.heap.objs.size (cloFrom X.env.cells scope.names []) code fp
    have pt := htt s3 H3 s3.heap.objs.size (cloFrom X.env.cells scope.names []) code fp
    have pe := hel s3 H3 s3.heap.objs.size (cloFrom X.env.cells scope.names []) code fp
    generalize hge : genEnv scope (cloFrom X.env.cells scope.names []) s3.heap.objs.size code builtinsNs X.env = genv at I5 pg pt pe ⊢
    refine hQ _ _ ⟨s3, H3, scope, genv, fp, gobj, s3.gens.size, m + 1, _, _, H3, hgen, ⟨I5, by show s3.gens.size < (s3.gens.push _).size; rw [Array.size_push]; exact Nat.lt_succ_self _⟩, Array.getElem?_push_size, fun s6 z => ?_, fun σ' H' s' I' => ?_⟩
    · have st6 : tn 0 s6.heap := T.keep _ _ _ st3 fun b _ o e => by
        rw [z.heap]
        exact kp b o e
      have G6 := GxAt.alike (s := { s3 with gens := s3.gens.push (.fresh (.compStart (.GeneratorExp elt [⟨tg, iter, ifs, 0⟩] scope gpos) 0 (.ref it) .none genv)), toks := s3.toks + 1 + 1 + 1, heap := h'.push gobj }) ⟨I5, by show s3.gens.size < (s3.gens.push _).size; rw [Array.size_push]; exact Nat.lt_succ_self _⟩ z
      refine ⟨rfl, seg_gx0 (fun A' Q E hq => T.self A' 0 s6 Q E st6 hq) ?_⟩
      exact seg_gx (A := X.A.in1.in1) (Xg := Cx.gx X s3 H3 scope genv fp) rfl rfl hc rfl rfl (fun hb => Nat.lt_irrefl _ (Nat.lt_trans (Nat.lt_succ_self _) (f3 _ hb).2)) T pg pt pe rfl (by rw [← hge]; exact S.co) tW m 0 (m + 1) s6 s6 H3 (Nat.lt_succ_self _) G6 st6 (fun b hb => (f3 b hb).1.1) w0
    · exact I3.call' (ch := fp) I'.os I'.base I'.hok I'.bare fun b hb => ⟨(f3 b hb).1.2.2.2.1, (f3 b hb).1.2.1, (f3 b hb).1.2.2.2.2.1, (f3 b hb).1.2.2.2.2.2⟩
  refine ⟨I2.nolimit, ?_⟩
  cases hf : codeAmong gpos ps.toList with
  | none =>
    refine wpAny_genexprCodeX hcode (cd.code hPs ht) (cd.tab hPs) hf fun c' h' tk hx hge hlt hco' _ htab' _ => ?_
    obtain ⟨o1, vs, f1, tf, fl, tg', inF, tx, tt', op, _, _, _, _, _, _, _, _, _, htr, _⟩ := hco'
    exact cont _ h' tk _ hx htab'.2 ⟨_, rfl⟩ htr
  | some cv =>
    refine wpAny_genexprCode_hit hcode (cd.code hPs ht) hf ?_
    exact cont cv s2.heap s2.toks ps (Heap.ExtBut.refl _ _) hPs ⟨#[], by simp⟩ ht
theorem pe_all {c P : Addr} {elt tg iter : Expr} {ifs : List Expr} {scope : Scope} {own : List (Str × Nat)} {p pos gpos : Pos} {wi : TI} {g : TG} {tt : TT} {te : TE} {k : Nat}
    (hr : Room k X.A) (hc : X.calm = true) (hN : X.N.Nodup) (hg : Gl X "all") (hm : X.mg "all" = none) (hb : bootBuiltins "all" = some (.builtin "all")) (TB : GxR.TabB X.base X.mg c P) (hcode : X.env.code = .ref c) (S : GxOk X.N X.env.scope scope own) (hi : PI X tg iter wi)
    (hgt : ∀ (s : Shared) (H : Hp) (C : Addr) (cl : List (Str × Addr)) (code : Value) (fp : List Addr), PG (Cx.gx X s H scope (genEnv scope cl C code builtinsNs X.env) fp) tg g)
    (htt : ∀ (s : Shared) (H : Hp) (C : Addr) (cl : List (Str × Addr)) (code : Value) (fp : List Addr), PTs (Cx.gx X s H scope (genEnv scope cl C code builtinsNs X.env) fp) ifs tt)
    (hel : ∀ (s : Shared) (H : Hp) (C : Addr) (cl : List (Str × Addr)) (code : Value) (fp : List Addr), PE (Cx.gx X s H scope (genEnv scope cl C code builtinsNs X.env) fp) elt te)
    (hs : ∀ v, genFold iter X.env v = pure v)
    (he : starEach [.GeneratorExp elt [⟨tg, iter, ifs, 0⟩] scope gpos] X.env = (false, eval (.GeneratorExp elt [⟨tg, iter, ifs, 0⟩] scope gpos) X.env) :: starEach [] X.env := by rfl) :
    PE X (.Call (.Name "all" p) [.GeneratorExp elt [⟨tg, iter, ifs, 0⟩] scope gpos] [] pos) (tGx true P wi g tt te (own.map (·.2))) := by
  refine ⟨fun pins s σ H Q I h => ?_⟩
  refine wpAny_Call_Name_kw (ld_blt I hg hm hb ?_)
  refine PyProof.Rows.callWith_builtin1 ?_ he (by rfl)
  rw [he]
  show wpAny _ _ (spliced ((false, eval (.GeneratorExp elt [⟨tg, iter, ifs, 0⟩] scope gpos) X.env) :: backTo pos (starEach [] X.env))) _ _ s
  refine Calls.spliced_cons (gx_make hr hc hN TB hcode S hi hgt htt hel hs I h fun ga s5 hG => ?_)
  obtain ⟨s4, H4, sc, genv, fp, gobj, gid, n, gs, σ', H', hgen, G5, hgs, hgo, back⟩ := hG
  refine Calls.spliced_nil ?_
  refine call_function_tree F.kind_all F.plain_all F.entry_all (F.args_all1 _) ?_
  unfold Builtin.«all»
  refine wpAny_bind (m := oneArg "all" _) (wpAny_pure ?_)
  refine wpAny_bind (wpAny_pyIter_gen (hgen _ (G5.1.pin (ga, gobj) (List.mem_append_right _ List.mem_cons_self)).1) ?_)
  refine wpAny_pure ⟨plainId_quiet F.plain_all_loop _, all_gx (Xg := Cx.gx X s4 H4 sc genv fp) (A := X.A) (hr.hd) (by have := hr.dp; omega) hgen (fun kk σ2 H2 s2 I2 q2 => ?_) n gs σ' H' s5 G5 hgs hgo⟩
  exact ⟨.bl kk, H2, back σ2 H2 s2 I2, rfl, q2⟩
theorem pe_any {c P : Addr} {elt tg iter : Expr} {ifs : List Expr} {scope : Scope} {own : List (Str × Nat)} {p pos gpos : Pos} {wi : TI} {g : TG} {tt : TT} {te : TE} {k : Nat}
    (hr : Room k X.A) (hc : X.calm = true) (hN : X.N.Nodup) (hg : Gl X "any") (hm : X.mg "any" = none) (TB : GxR.TabB X.base X.mg c P) (hcode : X.env.code = .ref c) (S : GxOk X.N X.env.scope scope own) (hi : PI X tg iter wi)
    (hgt : ∀ (s : Shared) (H : Hp) (C : Addr) (cl : List (Str × Addr)) (code : Value) (fp : List Addr), PG (Cx.gx X s H scope (genEnv scope cl C code builtinsNs X.env) fp) tg g)
    (htt : ∀ (s : Shared) (H : Hp) (C : Addr) (cl : List (Str × Addr)) (code : Value) (fp : List Addr), PTs (Cx.gx X s H scope (genEnv scope cl C code builtinsNs X.env) fp) ifs tt)
    (hel : ∀ (s : Shared) (H : Hp) (C : Addr) (cl : List (Str × Addr)) (code : Value) (fp : List Addr), PE (Cx.gx X s H scope (genEnv scope cl C code builtinsNs X.env) fp) elt te)
    (hs : ∀ v, genFold iter X.env v = pure v)
    (he : starEach [.GeneratorExp elt [⟨tg, iter, ifs, 0⟩] scope gpos] X.env = (false, eval (.GeneratorExp elt [⟨tg, iter, ifs, 0⟩] scope gpos) X.env) :: starEach [] X.env := by rfl) :
    PE X (.Call (.Name "any" p) [.GeneratorExp elt [⟨tg, iter, ifs, 0⟩] scope gpos] [] pos) (tGx false P wi g tt te (own.map (·.2))) := by
  refine ⟨fun pins s σ H Q I h => ?_⟩
  refine wpAny_Call_Name_kw (ld_blt I hg hm boot_any ?_)
  refine PyProof.Rows.callWith_builtin1 ?_ he (by rfl)
  rw [he]
  show wpAny _ _ (spliced ((false, eval (.GeneratorExp elt [⟨tg, iter, ifs, 0⟩] scope gpos) X.env) :: backTo pos (starEach [] X.env))) _ _ s
  refine Calls.spliced_cons (gx_make hr hc hN TB hcode S hi hgt htt hel hs I h fun ga s5 hG => ?_)
  obtain ⟨s4, H4, sc, genv, fp, gobj, gid, n, gs, σ', H', hgen, G5, hgs, hgo, back⟩ := hG
  refine Calls.spliced_nil ?_
  refine call_function_tree F.kind_any F.plain_any F.entry_any (F.args_any1 _) ?_
  unfold Builtin.«any»
  refine wpAny_bind (m := oneArg "any" _) (wpAny_pure ?_)
  refine wpAny_bind (wpAny_pyIter_gen (hgen _ (G5.1.pin (ga, gobj) (List.mem_append_right _ List.mem_cons_self)).1) ?_)
  refine wpAny_pure ⟨plainId_quiet F.plain_any_loop _, any_gx (Xg := Cx.gx X s4 H4 sc genv fp) (A := X.A) (hr.hd) (by have := hr.dp; omega) hgen (fun kk σ2 H2 s2 I2 q2 => ?_) n gs σ' H' s5 G5 hgs hgo⟩
  exact ⟨.bl kk, H2, back σ2 H2 s2 I2, rfl, q2⟩
end
end PDM
namespace PD
open PySem PySem.Spec PyProof.Rows L2
variable [Tbs]
/-! ### all and any of generator expressions -/
def gxS (b0 : Bool) (g : W → Env → Mu → Out Env) (tt : BM) (me : EM) (ρ : Env) : List W → Mu → Out W
  | [], μ => .ok (.bl b0) μ
  | w :: r, μ => match g w ρ μ with
    | .ok ρ1 μ1 => match tt ρ1 μ1 with
      | .ok true μ2 => match me ρ1 μ2 with
        | .ok (.bl k) μ3 => if k = b0 then gxS b0 g tt me ρ r μ3 else .ok (.bl (!b0)) μ3
        | _ => .no
      | .ok false μ2 => gxS b0 g tt me ρ r μ2
      | _ => .no
    | _ => .no
open Classical in
noncomputable def gxL (it : Iter) (l : List W) (b0 : Bool) (g : W → Env → Mu → Out Env) (tt : BM) (me : EM) (ρ : Env) : List W → Mu → Out W
  | [], μ => if it.items μ = some l then .ok (.bl b0) μ else .no
  | w :: r, μ => if it.items μ = some l then match g w ρ μ with
    | .ok ρ1 μ1 => match tt ρ1 μ1 with
      | .ok true μ2 => match me ρ1 μ2 with
        | .ok (.bl k) μ3 => if k = b0 then gxL it l b0 g tt me ρ r μ3 else .ok (.bl (!b0)) μ3
        | _ => .no
      | .ok false μ2 => gxL it l b0 g tt me ρ r μ2
      | _ => .no
    | _ => .no
   else .no
theorem gxL_seq (l : List W) (b0 : Bool) (g : W → Env → Mu → Out Env) (tt : BM) (me : EM) (ρ : Env) : ∀ (r : List W) (μ : Mu), gxL (.seq l) l b0 g tt me ρ r μ = gxS b0 g tt me ρ r μ
  | [], μ => by
    unfold gxL gxS
    rw [if_pos (show (Iter.seq l).items μ = some l from rfl)]
  | w :: r, μ => by
    unfold gxL gxS
    rw [if_pos (show (Iter.seq l).items μ = some l from rfl)]
    simp only [gxL_seq l b0 g tt me ρ r]
noncomputable def eGx (b0 : Bool) (it : IM) (vs : List Nat) (g : W → Env → Mu → Out Env) (tt : BM) (me : EM) : EM := fun ρ μ => (it ρ μ).bind fun i μ1 => match i with
  | .seq l => gxS b0 g tt me (wipeW ρ vs) l μ1
  | .cell n => match (Iter.cell n).items μ1 with
    | some l => gxL (.cell n) l b0 g tt me (wipeW ρ vs) l μ1
    | none => .no
theorem ad_gx {K : PySem.W.Frag} {g : TG} {tt : TT} {te : TE} {vs : List Nat} {J : It} {it : Iter} {l : List W} {mg : W → Env → Mu → Out Env} {mt : BM} {me : EM} {θ : List Addr} {F H : Hp} {σ : St} {ρ : Env} {μ : Mu} {E0 : Addr → Hp → Prop} {Q : VK} {b0 : Bool}
    (hw : GOwn g vs) (hg : ∀ (v : V) (w : W) (σ : St) (H : Hp) (Q : St → Hp → Prop) (θ : List Addr) (F : Hp) (ρ : Env) (μ : Mu), Sim K θ F H μ → SimE K θ F σ ρ → Rep K θ F v w → (mg w ρ μ).Ok K (SimE K) θ F H (fun c H' => W0 (.ref c) none σ H') Q → g v σ H Q)
    (ht : Ad K W0 REq tt mt) (he : Ad K W0 (Rep K) te me) (hJ : Impl K θ F J it) (S : Sim K θ F H μ) (E : SimE K θ F σ ρ) (ok : (gxL it l b0 mg mt me (wipeW ρ vs) l μ).Ok K (Rep K) θ F H E0 Q) :
    ∃ Wv : Nat → Nat → Hp → Prop, PDM.gxW J g tt te vs σ b0 Q Wv ∧ ∃ m, Wv 0 m H := by
  let St1 : List W → Hp → Prop := fun r H1 => ∃ (θ1 : List Addr) (F1 : Hp) (μ1 : Mu), Ext θ F H θ1 F1 H1 ∧ Sim K θ1 F1 H1 μ1 ∧ (gxL it l b0 mg mt me (wipeW ρ vs) r μ1).Ok K (Rep K) θ F H E0 Q
  refine ⟨fun i m H1 => ∃ r, m = r.length ∧ l.drop i = r ∧ St1 r H1, ?_, l.length, l, rfl, rfl, θ, F, μ, .refl _ _ _, S, ok⟩
  rintro i m H1 ⟨r, rfl, hr, θ1, F1, μ1, x1, S1, ok1⟩
  cases r with
  | nil =>
    unfold gxL at ok1
    split at ok1
    · rename_i hi
      refine .inl ⟨(hJ i θ1 F1 H1 μ1 l x1.pre x1.sub S1 hi).1 (List.drop_eq_nil_iff.mp hr), ?_⟩
      exact ok1 θ1 F1 H1 (.bl b0) x1 S1 (.bl b0)
    · exact ok1.elim
  | cons w r =>
    unfold gxL at ok1
    split at ok1
    · rename_i hi
      have hwl : l[i]? = some w := by rw [← List.head?_drop, hr]; rfl
      have hr' : l.drop (i + 1) = r := by rw [← List.tail_drop, hr]; rfl
      obtain ⟨go, yl⟩ := (hJ i θ1 F1 H1 μ1 l x1.pre x1.sub S1 hi).2 w hwl
      refine .inr ⟨go, St1 r, fun H2 h2 => ⟨r.length, by simp, r, rfl, hr', h2⟩, fun v H2 y => ?_⟩
      obtain ⟨F2, x2, S2, r2⟩ := yl v H2 y
      have E2 : SimE K θ1 F2 (wipe σ vs) (wipeW ρ vs) := (E.mono (x1.trans x2).pre (x1.trans x2).sub).wipe vs
      refine hw v σ H2 _ ?_
      refine hg v w _ H2 _ θ1 F2 _ μ1 S2 E2 r2 ?_
      cases eg : mg w (wipeW ρ vs) μ1 with
      | no => rw [eg] at ok1; exact ok1.elim
      | er c μ2 => rw [eg] at ok1; exact ok1.elim
      | ok ρ3 μ3 =>
        rw [eg] at ok1
        intro θ3 F3 H3 σ3 x3 S3 E3
        refine ht σ3 H3 _ θ3 F3 ρ3 μ3 S3 E3 ?_
        dsimp only at ok1
        cases et : mt ρ3 μ3 with
        | no => rw [et] at ok1; exact ok1.elim
        | er c μ4 => rw [et] at ok1; exact ok1.elim
        | ok b μ4 =>
          rw [et] at ok1
          intro θ4 F4 H4 b' x4 S4 hb
          have hb : b' = b := hb
          subst hb
          cases b' with
          | false =>
            rw [if_neg Bool.false_ne_true]
            exact ⟨θ4, F4, μ4, x1.trans ((x2.trans x3).trans x4), S4, ok1⟩
          | true =>
            rw [if_pos rfl]
            refine he σ3 H4 _ θ4 F4 ρ3 μ4 S4 (E3.mono x4.pre x4.sub) ?_
            dsimp only at ok1
            cases ee : me ρ3 μ4 with
            | no => rw [ee] at ok1; exact ok1.elim
            | er c μ5 => rw [ee] at ok1; exact ok1.elim
            | ok yw μ5 =>
              rw [ee] at ok1
              intro θ5 F5 H5 yv x5 S5 r5
              have x15 := x1.trans (((x2.trans x3).trans x4).trans x5)
              cases yw with
              | bl k =>
                cases r5
                dsimp only at ok1
                refine ⟨k, rfl, ?_⟩
                by_cases hk : k = b0
                · rw [if_pos hk] at ok1 ⊢
                  exact ⟨θ5, F5, μ5, x15, S5, ok1⟩
                · rw [if_neg hk] at ok1 ⊢
                  exact ok1 θ5 F5 H5 (.bl (!b0)) x15 S5 (.bl _)
              | _ => exact ok1.elim
    · exact ok1.elim
section
variable {X : Cx} {Wx : WX} {c P : Addr} {elt tg iter : Expr} {ifs : List Expr} {scope : Scope} {own : List (Str × Nat)} {p pos gpos : Pos} {wi : TI} {mi : IM} {g : TG} {mg : W → Env → Mu → Out Env} {mt : BM} {me : EM} {k : Nat}
theorem ad_tGx {b0 : Bool} {tt : TT} {te : TE} (hP : P ∈ Tbs.tabs) (hi : PID X Wx tg iter wi mi) (hw : GOwn g (own.map (·.2))) (hg : ∀ (v : V) (w : W) (σ : St) (H : Hp) (Q : St → Hp → Prop) (θ : List Addr) (F : Hp) (ρ : Env) (μ : Mu), Sim X.K θ F H μ → SimE X.K θ F σ ρ → Rep X.K θ F v w → (mg w ρ μ).Ok X.K (SimE X.K) θ F H (fun c H' => W0 (.ref c) none σ H') Q → g v σ H Q)
    (ht : Ad X.K W0 REq tt mt) (he : Ad X.K W0 (Rep X.K) te me) : Ad X.K Wx (Rep X.K) (PDM.tGx b0 P wi g tt te (own.map (·.2))) (eGx b0 mi (own.map (·.2)) mg mt me) := by
  intro σ H Q θ F ρ μ S E ok
  refine hi.ad.use S E ok fun θ1 F1 H1 μ1 J it x1 S1 E1 hJ ok1 => ⟨(S1.tab P hP).2, fun H2 hT => ?_⟩
  obtain ⟨S2, x2⟩ := S1.tabbed hP hT
  have ok2 : ∃ l, (gxL it l b0 mg mt me (wipeW ρ (own.map (·.2))) l μ1).Ok X.K (Rep X.K) θ1 F1 H1 (fun c H' => Wx (.ref c) none σ H') Q := by
    cases it with
    | seq l => exact ⟨l, by rw [gxL_seq]; exact ok1⟩
    | cell n =>
      dsimp only at ok1
      cases e2 : (Iter.cell n).items μ1 with
      | none => rw [e2] at ok1; exact ok1.elim
      | some l => rw [e2] at ok1; exact ⟨l, ok1⟩
  obtain ⟨l, ok2⟩ := ok2
  exact ad_gx (l := l) (ρ := ρ) hw hg ht he hJ S2 E1 (Out.Ok.mono (o := gxL it l b0 mg mt me (wipeW ρ (own.map (·.2))) l μ1) ok2 x2)
theorem ped_all (hr : Room k X.A) (hc : X.calm = true) (hN : X.N.Nodup) (hgl : Gl X "all") (hm : X.mg "all" = none) (hb : bootBuiltins "all" = some (.builtin "all")) (hP : P ∈ Tbs.tabs) (TB : GxR.TabB X.base X.mg c P) (hcode : X.env.code = .ref c) (S : PDM.GxOk X.N X.env.scope scope own) (hi : PID X Wx tg iter wi mi) (hw : GOwn g (own.map (·.2)))
    (hg : ∀ (s : Shared) (H : Hp) (C : Addr) (cl : List (Str × Addr)) (code : Value) (fp : List Addr), PGD (PDM.Cx.gx X s H scope (genEnv scope cl C code builtinsNs X.env) fp) W0 tg g mg)
    (ht : ∀ (s : Shared) (H : Hp) (C : Addr) (cl : List (Str × Addr)) (code : Value) (fp : List Addr), ∃ t, PTsD (PDM.Cx.gx X s H scope (genEnv scope cl C code builtinsNs X.env) fp) W0 ifs t mt)
    (he : ∀ (s : Shared) (H : Hp) (C : Addr) (cl : List (Str × Addr)) (code : Value) (fp : List Addr), ∃ t, PED (PDM.Cx.gx X s H scope (genEnv scope cl C code builtinsNs X.env) fp) W0 elt t me)
    (hs : ∀ v, genFold iter X.env v = pure v := by intro _; rfl)
    (hst : starEach [.GeneratorExp elt [⟨tg, iter, ifs, 0⟩] scope gpos] X.env = (false, eval (.GeneratorExp elt [⟨tg, iter, ifs, 0⟩] scope gpos) X.env) :: starEach [] X.env := by rfl) :
    PED X Wx (.Call (.Name "all" p) [.GeneratorExp elt [⟨tg, iter, ifs, 0⟩] scope gpos] [] pos) (PDM.tGx true P wi g (tOf X.K W0 REq mt) (tOf X.K W0 (Rep X.K) me) (own.map (·.2))) (eGx true mi (own.map (·.2)) mg mt me) := by
  have ht' := fun s H C cl code fp => (ht s H C cl code fp).choose_spec.can
  have he' := fun s H C cl code fp => (he s H C cl code fp).choose_spec.can
  refine ⟨PDM.pe_all hr hc hN hgl hm hb TB hcode S hi.pi (fun s H C cl code fp => (hg s H C cl code fp).pg) (fun s H C cl code fp => (ht' s H C cl code fp).pt) (fun s H C cl code fp => (he' s H C cl code fp).pe) hs hst, ?_⟩
  exact ad_tGx hP hi hw (hg X.s_0 X.H_0 0 [] .none []).ad (ht' X.s_0 X.H_0 0 [] .none []).ad (he' X.s_0 X.H_0 0 [] .none []).ad
theorem ped_any (hr : Room k X.A) (hc : X.calm = true) (hN : X.N.Nodup) (hgl : Gl X "any") (hm : X.mg "any" = none) (hP : P ∈ Tbs.tabs) (TB : GxR.TabB X.base X.mg c P) (hcode : X.env.code = .ref c) (S : PDM.GxOk X.N X.env.scope scope own) (hi : PID X Wx tg iter wi mi) (hw : GOwn g (own.map (·.2)))
    (hg : ∀ (s : Shared) (H : Hp) (C : Addr) (cl : List (Str × Addr)) (code : Value) (fp : List Addr), PGD (PDM.Cx.gx X s H scope (genEnv scope cl C code builtinsNs X.env) fp) W0 tg g mg)
    (ht : ∀ (s : Shared) (H : Hp) (C : Addr) (cl : List (Str × Addr)) (code : Value) (fp : List Addr), ∃ t, PTsD (PDM.Cx.gx X s H scope (genEnv scope cl C code builtinsNs X.env) fp) W0 ifs t mt)
    (he : ∀ (s : Shared) (H : Hp) (C : Addr) (cl : List (Str × Addr)) (code : Value) (fp : List Addr), ∃ t, PED (PDM.Cx.gx X s H scope (genEnv scope cl C code builtinsNs X.env) fp) W0 elt t me)
    (hs : ∀ v, genFold iter X.env v = pure v := by intro _; rfl)
    (hst : starEach [.GeneratorExp elt [⟨tg, iter, ifs, 0⟩] scope gpos] X.env = (false, eval (.GeneratorExp elt [⟨tg, iter, ifs, 0⟩] scope gpos) X.env) :: starEach [] X.env := by rfl) :
    PED X Wx (.Call (.Name "any" p) [.GeneratorExp elt [⟨tg, iter, ifs, 0⟩] scope gpos] [] pos) (PDM.tGx false P wi g (tOf X.K W0 REq mt) (tOf X.K W0 (Rep X.K) me) (own.map (·.2))) (eGx false mi (own.map (·.2)) mg mt me) := by
  have ht' := fun s H C cl code fp => (ht s H C cl code fp).choose_spec.can
  have he' := fun s H C cl code fp => (he s H C cl code fp).choose_spec.can
  refine ⟨PDM.pe_any hr hc hN hgl hm TB hcode S hi.pi (fun s H C cl code fp => (hg s H C cl code fp).pg) (fun s H C cl code fp => (ht' s H C cl code fp).pt) (fun s H C cl code fp => (he' s H C cl code fp).pe) hs hst, ?_⟩
  exact ad_tGx hP hi hw (hg X.s_0 X.H_0 0 [] .none []).ad (ht' X.s_0 X.H_0 0 [] .none []).ad (he' X.s_0 X.H_0 0 [] .none []).ad
end
/-! ### names of a generator, checked -/
def gxC (N : List Str) (sc scope : Scope) (own : List (Str × Nat)) : Bool := blkC N sc scope own && (!scope.isCoroutine && ((scope.names.all fun y => match y.2 with
  | .cell => false
  | _ => true) && (match scope.names.lookup (".0" : Str) with
  | some .local => true
  | _ => false)))
theorem gxOk_by {N : List Str} {sc scope : Scope} {own : List (Str × Nat)} (h : gxC N sc scope own = true) : PDM.GxOk N sc scope own := by
  unfold gxC at h
  simp only [Bool.and_eq_true, List.all_eq_true] at h
  obtain ⟨h1, h2, h3, h4⟩ := h
  refine ⟨blkOk_by h1, by simpa using h2, fun y hy e => ?_, ?_⟩
  · have := h3 y hy
    rw [e] at this
    cases this
  · split at h4
    · assumption
    · cases h4
theorem room_gx {k : Nat} {A : Around} {env : PySem.Env} (r : Room (k + 1) A) : Room k (A.in1.in1.deeper env) :=
  ⟨r.hd, by have := r.dp; show A.depth + 1 + 3 * k + 5 < _; omega, by have := r.un; show A.units + 1 + 1 + 3 + 16 * k + 200 < _; omega⟩
/-! ### a def whose code object is known -/
structure FunC (K : PySem.W.Frag) (x qual : Str) (st : Stmt) (f : Addr) (fd : FuncData) (c : Addr) : Prop where
  ex : ∃ (oc : Value) (od : Option Addr) (kV doc pm : Value) (an : Option Addr) (ct : Value) (osl : Array (Option Value)),
    fd = PySem.W.fnOf x qual (defArgs st) (defBody st) (defScope st) .none kV doc pm an (.ref c) ct ∧ K.lookup f = some ⟨oc, od, .func fd, osl⟩ ∧ PySem.W.codeIn K (.ref c) qual = true
  kp : PySem.W.keepIn K (.ref f) = true
section
variable {P : Program} {w : World} {K : PySem.W.Frag} {mg : Str → Option Value} {base : Heap}
theorem FunC.fun {x qual : Str} {st : Stmt} {f : Addr} {fd : FuncData} {c : Addr} (F : FunC K x qual st f fd c) : Fun K x qual st f fd := by
  obtain ⟨oc, od, kV, doc, pm, an, ct, osl, e, lk, hcd⟩ := F.ex
  exact ⟨⟨oc, od, kV, doc, pm, an, _, ct, osl, e, lk, hcd⟩, F.kp⟩
theorem funC_of {x qual : Str} {st : Stmt} {p : Str × Option Str} {fd : FuncData} {kws : List (Str × V)} (F : FunD K x qual (defArgs st) (defBody st) (defScope st) [] kws (He.fAd K p) fd) : FunC K x qual st (He.fAd K p) fd (He.codeOf K p) := by
  obtain ⟨oc, od, dV, kV, doc, pm, an, cdv, ct, osl, rfl, lk, hcd, hD, hK⟩ := F.ex
  obtain ⟨c, rfl⟩ := He.codeIn_ref hcd
  have e := He.codeOf_eq (c := c) lk rfl
  rw [e]
  rcases hD with ⟨_, rfl⟩ | ⟨e, _⟩
  · exact ⟨⟨oc, od, kV, doc, pm, an, ct, osl, rfl, lk, hcd⟩, F.kp⟩
  · exact absurd rfl e
theorem fnd_ofC {x qual : Str} {st : Stmt} {f c : Addr} {fd : FuncData} {N ps : List Str} {k : Nat} {m : SM} (F : FunC K x qual st f fd c) (S : FnScope N ps (defScope st))
    (hb : ∀ (A : Around) (outer : List PySem.Env) (s : Shared) (H : Hp) (E : XK), Room k (A.deeper (envOfC qual (defScope st) s.heap.objs.size f (.ref c))) →
      ∃ t, PSsD (cxOf (L2N.CX P w) P w K mg base N qual (defScope st) f (.ref c) A outer s H E) (fun cls d _ H => E cls d H) (defBody st) t m) : FnD P w K mg base (k + 1) f fd ps (runB N.length m) := by
  obtain ⟨oc, od, kV, doc, pm, an, ct, osl, rfl, lk, hcd⟩ := F.ex
  refine fn_of lk hcd S (fun vs H Q E h => h.1) fun A outer s H vs Q E hr hsp => ?_
  obtain ⟨t, ht⟩ := hb A outer s H E hr
  refine ⟨t, ht.ps, ?_⟩
  obtain ⟨_, θ, G, ws, μ, S0, q, ok⟩ := hsp
  refine ht.ad _ _ H θ G (startW N.length ws) μ S0 (simE_start q) ?_
  unfold runB at ok
  cases e : m (startW N.length ws) μ with
  | nx ρ' μ' => rw [e] at ok; exact fun θ' F' H' σ' x S' _ => ok θ' F' H' .non x S' .non
  | rt w μ' => rw [e] at ok; exact ok
  | bk ρ' μ' => rw [e] at ok; exact ok.elim
  | ct ρ' μ' => rw [e] at ok; exact ok.elim
  | er c ρ' μ' => rw [e] at ok; exact fun θ' F' H' σ' x S' _ => ok θ' F' H' x S'
  | no => rw [e] at ok; exact ok.elim
/-! ### the law's own promise -/
def hideT (H : Hp) : Hp := fun b => match H b with
  | some (.tbl _) => none
  | o => o
theorem hideT_of {H : Hp} {b : Addr} {o : HO} (h : H b = some o) (hn : ∀ ps, o ≠ .tbl ps) : hideT H b = some o := by
  unfold hideT
  rw [h]
  cases o <;> first | rfl | exact absurd rfl (hn _)
theorem of_hideT {H : Hp} {b : Addr} {o : HO} (h : hideT H b = some o) : H b = some o := by
  unfold hideT at h
  split at h
  · cases h
  · exact h
def spLawT (K : PySem.W.Frag) : Sp := fun vs H Q _ => ∃ (a : Addr) (ns : List Int), vs = [.ref a] ∧ ns.length ≤ 63 ∧ (∀ P ∈ Tbs.tabs, H P = some (.tbl #[])) ∧ SqL K H a (ns.map V.int) ∧ ∀ H', Q (.bl true) H'
theorem law_okT {lv : Nat} {a : Addr} {fd : FuncData} {f_law : FM} (F : FnD P w K mg base lv a fd ["script"] f_law) (ht : ∀ ns : List Int, ns.length ≤ 63 → ∃ μ, f_law [.scr (ns.map .int)] [] = .ok (.bl true) μ) : FnOk P w K mg base (L2N.CX P w) lv a fd ["script"] (spLawT K) :=
  ⟨fun vs H Q E h => by
    obtain ⟨_, _, rfl, _⟩ := h
    rfl, fun A' outer s H args us vs Q E hr e0 hb rv h => by
    refine F.run A' outer s H args us vs Q E hr e0 hb rv ?_
    obtain ⟨p, ns, rfl, hn, hT, hs, k⟩ := h
    obtain ⟨μ, e⟩ := ht ns hn
    have hs' : SqL K (hideT H) p (ns.map V.int) := by
      rcases hs with (hs | ⟨o, hs⟩) | hs
      · exact .inl (.inl (hideT_of hs fun _ z => by cases z))
      · exact .inl (.inr ⟨o, hideT_of hs fun _ z => by cases z⟩)
      · exact .inr hs
    refine ⟨rfl, [], hideT H, [.scr (ns.map .int)], [], ⟨fun _ _ h => of_hideT h, rfl, .nil, fun n a c h _ => by simp at h, fun P hP => ⟨by unfold hideT; rw [hT P hP], #[], hT P hP, trivial⟩⟩, .cons (.scr hs' (RepAll.map_int ns)) .nil, ?_⟩
    rw [e]
    intro θ' F' H' v x S r
    cases r
    exact k _⟩
end
end PD
/-! dicts of int and text keys as cells -/
namespace PD
open PySem PySem.Spec PyProof.Rows L2
variable [Tbs]

def keyW : Key → W
  | .inl i => .int i
  | .inr s => .str s
def asK : W → Option Key
  | .int i => some (.inl i)
  | .str s => some (.inr s)
  | _ => none
theorem asK_keyW (k : Key) : asK (keyW k) = some k := by cases k <;> rfl
def dVal : List (Key × W) → Key → Option W
  | [], _ => none
  | (j, w) :: r, k => if j = k then some w else dVal r k
def dHas (kvs : List (Key × W)) (k : Key) : Bool := kvs.any fun kv => decide (kv.1 = k)
def dPut (kvs : List (Key × W)) (k : Key) (w : W) : List (Key × W) := if dHas kvs k = true then kvs.map (fun kv => if kv.1 = k then (kv.1, w) else kv) else kvs ++ [(k, w)]
def dDrop (kvs : List (Key × W)) (k : Key) : List (Key × W) := kvs.filter fun kv => decide (kv.1 ≠ k)
def dKeys (kvs : List (Key × W)) : List W := kvs.map fun kv => keyW kv.1
section
variable {K : PySem.W.Frag} {θ : List Addr} {F H : Hp} {μ : Mu}
theorem keyW_rep (k : Key) : Rep K θ F (kV k) (keyW k) := by
  cases k with
  | inl i => exact .int i
  | inr s => exact .str s
theorem asK_rep {v : V} {w : W} {k : Key} (r : Rep K θ F v w) (h : asK w = some k) : v = kV k := by
  cases r <;> cases h <;> rfl
theorem KvR.length : ∀ {gs : List (Key × V)} {kvs : List (Key × W)}, KvR K θ F gs kvs → gs.length = kvs.length
  | _, _, .nil => rfl
  | _, _, .cons _ t => by rw [List.length_cons, List.length_cons, KvR.length t]
theorem KvR.keys : ∀ {gs : List (Key × V)} {kvs : List (Key × W)}, KvR K θ F gs kvs → gs.map (·.1) = kvs.map (·.1)
  | _, _, .nil => rfl
  | _, _, .cons _ t => by rw [List.map_cons, List.map_cons, KvR.keys t]
theorem KvR.val {k : Key} : ∀ {gs : List (Key × V)} {kvs : List (Key × W)}, KvR K θ F gs kvs → (∀ w, dVal kvs k = some w → ∃ v, valV gs k = some v ∧ Rep K θ F v w) ∧ (dVal kvs k = none → valV gs k = none)
  | _, _, .nil => ⟨fun w h => (by cases h), fun _ => rfl⟩
  | _, _, .cons (k := j) (v := v) (w := w0) r t => by
    unfold dVal
    by_cases e : j = k
    · rw [if_pos e]
      exact ⟨fun w h => by cases h; exact ⟨v, valV_pos (p := (j, v)) e, r⟩, fun h => by cases h⟩
    · rw [if_neg e, valV_neg (p := (j, v)) e]
      exact KvR.val t
theorem KvR.any {k : Key} : ∀ {gs : List (Key × V)} {kvs : List (Key × W)}, KvR K θ F gs kvs → (gs.any fun kv => decide (kv.1 = k)) = dHas kvs k
  | _, _, .nil => rfl
  | _, _, .cons (k := j) _ t => by
    unfold dHas
    rw [List.any_cons, List.any_cons, KvR.any t]
    rfl
theorem KvR.app {gs gs' : List (Key × V)} {kvs kvs' : List (Key × W)} (q : KvR K θ F gs' kvs') : ∀ {gs : List (Key × V)} {kvs : List (Key × W)}, KvR K θ F gs kvs → KvR K θ F (gs ++ gs') (kvs ++ kvs')
  | _, _, .nil => q
  | _, _, .cons r t => .cons r (KvR.app (gs := gs) (kvs := kvs) q t)
theorem KvR.repl {k : Key} {v : V} {w : W} (q : Rep K θ F v w) : ∀ {gs : List (Key × V)} {kvs : List (Key × W)}, KvR K θ F gs kvs → KvR K θ F (gs.map fun kv => if kv.1 = k then (kv.1, v) else kv) (kvs.map fun kv => if kv.1 = k then (kv.1, w) else kv)
  | _, _, .nil => .nil
  | _, _, .cons (k := j) r t => by
    rw [List.map_cons, List.map_cons]
    dsimp only
    by_cases e : j = k
    · rw [if_pos e, if_pos e]; exact .cons q (KvR.repl q t)
    · rw [if_neg e, if_neg e]; exact .cons r (KvR.repl q t)
theorem KvR.put {k : Key} {v : V} {w : W} (q : Rep K θ F v w) {gs : List (Key × V)} {kvs : List (Key × W)} (h : KvR K θ F gs kvs) : KvR K θ F (putK gs k v) (dPut kvs k w) := by
  unfold putK dPut
  rw [h.any]
  by_cases e : dHas kvs k = true
  · rw [if_pos e, if_pos e]; exact h.repl q
  · rw [if_neg e, if_neg e]; exact KvR.app (gs := gs) (kvs := kvs) (.cons q .nil) h
theorem KvR.drop {k : Key} : ∀ {gs : List (Key × V)} {kvs : List (Key × W)}, KvR K θ F gs kvs → KvR K θ F (dropK gs k) (dDrop kvs k)
  | _, _, .nil => .nil
  | _, _, .cons (k := j) r t => by
    have ih := KvR.drop (k := k) t
    unfold dropK dDrop at ih ⊢
    rw [List.filter_cons, List.filter_cons]
    dsimp only
    by_cases e : decide (j ≠ k) = true
    · rw [if_pos e, if_pos e]; exact .cons r ih
    · rw [if_neg e, if_neg e]; exact ih
theorem KvR.keysW {gs : List (Key × V)} {kvs : List (Key × W)} (h : KvR K θ F gs kvs) : RepAll K θ F (gs.map fun kv => kV kv.1) (dKeys kvs) := by
  induction h with
  | nil => exact .nil
  | cons r t ih => exact .cons (keyW_rep _) ih

/-! ### what stands at a dict -/
def dAt (μ : Mu) : W → Option (List (Key × W) × Bool)
  | .loc n => match μ[n]? with
    | some (.dK kvs lk) => some (kvs, lk)
    | _ => none
  | _ => none
theorem dAt_loc {w : W} {p : List (Key × W) × Bool} (h : dAt μ w = some p) : ∃ n, w = .loc n ∧ μ[n]? = some (.dK p.1 p.2) := by
  unfold dAt at h
  split at h
  · split at h
    · rename_i e
      cases h
      exact ⟨_, rfl, e⟩
    · cases h
  · cases h
theorem dk_rep (S : Sim K θ F H μ) {v : V} {n : Nat} {kvs : List (Key × W)} {lk : Bool} (r : Rep K θ F v (.loc n)) (h : μ[n]? = some (.dK kvs lk)) : ∃ a gs, v = .ref a ∧ θ[n]? = some a ∧ DkAt F H a gs lk ∧ KvR K θ F gs kvs := by
  cases r with
  | loc e =>
    obtain ⟨b, e2, c⟩ := S.at h
    rw [e] at e2; cases e2
    obtain ⟨gs, q1, q2⟩ := c
    exact ⟨_, gs, rfl, e, q1, q2⟩
theorem write_dk (S : Sim K θ F H μ) {n : Nat} {a : Addr} {gs : List (Key × V)} {kvs : List (Key × W)} (ha : θ[n]? = some a) (hF : F a = none) (q : KvR K θ F gs kvs) :
    Sim K θ F (upd H a (.dK gs)) (μ.set n (.dK kvs false)) ∧ Ext θ F H θ F (upd H a (.dK gs)) := S.write ha hF ⟨gs, ⟨hF, upd_same⟩, q⟩

/-! ### in, [] -/
def gInK (neg : Bool) : GOp := fun x y μ => match asK x, dAt μ y with
  | some k, some (kvs, _) => .ok (.bl (if neg = true then !(dVal kvs k).isSome else (dVal kvs k).isSome)) μ
  | _, _ => .no
def rInK (neg : Bool) : R2 := fun y x H Q => ∃ a o, x = .ref a ∧ DGet H a y o ∧ Q (.bl (if neg = true then !o.isSome else o.isSome)) H
theorem KvR.isSome {k : Key} {gs : List (Key × V)} {kvs : List (Key × W)} (h : KvR K θ F gs kvs) : (valV gs k).isSome = (dVal kvs k).isSome := by
  obtain ⟨h1, h2⟩ := h.val (k := k)
  cases e : dVal kvs k with
  | none => rw [h2 e]; rfl
  | some w => obtain ⟨v, e2, _⟩ := h1 w e; rw [e2]; rfl
theorem ad_inK (neg : Bool) : AdOp K (rInK neg) (gInK neg) := by
  intro x y wx wy E Q H θ F μ S rx ry ok
  unfold gInK at ok
  split at ok
  · rename_i k kvs lk h1 h2
    obtain ⟨n, rfl, h3⟩ := dAt_loc h2
    obtain ⟨a, gs, rfl, h4, h5, h6⟩ := dk_rep S ry h3
    have ex := asK_rep rx h1
    subst ex
    refine ⟨a, valV gs k, rfl, .inl ⟨gs, k, h5.rd, rfl, rfl⟩, ?_⟩
    rw [h6.isSome]
    exact ok.here S (.bl _)
  · exact ok.elim
def gIxK : GOp := fun x y μ => match dAt μ x, asK y with
  | some (kvs, _), some k => match dVal kvs k with
    | some w => .ok w μ
    | none => .no
  | _, _ => .no
def rIxK : R2 := fun x y H Q => ∃ a v, x = .ref a ∧ DGet H a y (some v) ∧ Q v H
theorem ad_ixK : AdOp K rIxK gIxK := by
  intro x y wx wy E Q H θ F μ S rx ry ok
  unfold gIxK at ok
  split at ok
  · rename_i kvs lk k h2 h1
    split at ok
    · rename_i w hw
      obtain ⟨n, rfl, h3⟩ := dAt_loc h2
      obtain ⟨a, gs, rfl, h4, h5, h6⟩ := dk_rep S rx h3
      have ex := asK_rep ry h1
      subst ex
      obtain ⟨v, h7, h8⟩ := (h6.val (k := k)).1 w hw
      exact ⟨a, v, rfl, .inl ⟨gs, k, h5.rd, rfl, h7.symm⟩, ok.here S h8⟩
    · exact ok.elim
  · exact ok.elim
end
section
variable {X : Cx}
theorem op_inK (hu : X.A.units + 65 < cLine) : OpR X (compareOp .In) (rInK false) := by
  intro pins s σ H x y v u Q I rx ry h
  obtain ⟨a, o, rfl, g, q⟩ := h
  obtain rfl : u = Value.ref a := ry
  exact d_in (by omega) I g rx fun s3 I3 => ⟨.bl o.isSome, H, I3, rfl, q⟩
theorem op_notInK (hu : X.A.units + 65 < cLine) : OpR X (compareOp .NotIn) (rInK true) := by
  intro pins s σ H x y v u Q I rx ry h
  obtain ⟨a, o, rfl, g, q⟩ := h
  obtain rfl : u = Value.ref a := ry
  exact d_notIn (by omega) I g rx fun s3 I3 => ⟨.bl (!o.isSome), H, I3, rfl, q⟩
theorem ixK (hu : X.A.units + 65 < cLine) : IxR X rIxK := by
  intro value slice pins s σ H x y v u Q I rx ry h hs
  obtain ⟨a, r, rfl, g, q⟩ := h
  obtain rfl : v = Value.ref a := rx
  exact tail_any (dict_typeIs I g) PySem.F.slot_dict_getitem.lookup (d_getItem (by omega) I g ry fun w' s' I' r' => ⟨r, H, I', r', q⟩) hs
def rSetK : TSet := fun o i v H Q => ∃ a H', o = .ref a ∧ DPut H a i v H' ∧ Q H'
theorem setK (hu : X.A.units + 65 < cLine) : PSet X rSetK := by
  intro pins s σ H o i v ov iv u Q I ro ri rv h
  obtain ⟨a, H', rfl, g, q⟩ := h
  obtain rfl : ov = Value.ref a := ro
  exact d_setItem (by omega) I g ri rv fun s' I' => ⟨H', I', q⟩
variable {Wx : WX} {pos p2 : Pos} {a b : Expr} {ta tb : TE} {ma mb : EM}
theorem ped_ixK (hu : X.A.units + 65 < cLine) (ha : PED X Wx a ta ma) (hb : PED X Wx b tb mb) (hs : PlainIx b := by exact fun _ _ => rfl) : PED X Wx (.Subscript a b pos) (tOp rIxK ta tb) (eBin gIxK ma mb) :=
  ⟨pe_ix (ixK hu) ha.pe hb.pe hs, ad_bin ad_ixK ha.ad hb.ad⟩
/-- d[k] = .. -/
def gSubK (o i : EM) : W → Env → Mu → Out Env := fun w ρ μ => (o ρ μ).bind fun x μ1 => (i ρ μ1).bind fun y μ2 => match x, asK y with
  | .loc n, some k => match μ2[n]? with
    | some (.dK kvs false) => if kvs.length < sizeLine then .ok ρ (μ2.set n (.dK (dPut kvs k w) false)) else .no
    | _ => .no
  | _, _ => .no
theorem pgd_subK (hu : X.A.units + 65 < cLine) {o i : Expr} {pos : Pos} {to ti : TE} {mo mi : EM} (ho : PED X Wx o to mo) (hi : PED X Wx i ti mi)
    (ha : ∀ v, assign (.Subscript o i pos) X.env v = (do
      let ov ← holding [v] (eval o X.env)
      let iv ← holding [v, ov] (eval i X.env)
      standAt pos
      holding [v, ov, iv] (setItem ov iv v)
      release [v, ov, iv] []) := by intro _; rfl) : PGD X Wx (.Subscript o i pos) (L2.gSub to ti rSetK) (gSubK mo mi) := by
  refine ⟨pg_sub ho.pe hi.pe (setK hu) ha, fun v w σ H Q θ F ρ μ S E r ok => ?_⟩
  refine ho.ad.use S E ok fun θ1 F1 H1 μ1 x xw x1 S1 E1 r1 ok1 => ?_
  refine hi.ad.use S1 E1 ok1 fun θ2 F2 H2 μ2 y yw x2 S2 E2 r2 ok2 => ?_
  split at ok2
  · rename_i n k hk
    split at ok2
    · rename_i kvs hl
      split at ok2
      · rename_i hz
        have ey := asK_rep r2 hk
        subst ey
        obtain ⟨a, gs, rfl, h1, h2, h3⟩ := dk_rep S2 (r1.mono x2.pre x2.sub) hl
        obtain ⟨f, h2⟩ := h2
        have x12 := x1.trans x2
        obtain ⟨S3, x3⟩ := write_dk S2 h1 f (h3.put (k := k) (r.mono x12.pre x12.sub))
        exact ⟨a, _, rfl, DPut.k h2 (by rw [h3.length]; exact hz), ok2 _ _ _ _ x3 S3 (E2.mono x3.pre x3.sub)⟩
      · exact ok2.elim
    · exact ok2.elim
  · exact ok2.elim
/-- {} -/
def eDNew : EM := fun _ μ => .ok (.loc μ.length) (μ ++ [.dK [] false])
theorem new_dk {K : PySem.W.Frag} {θ : List Addr} {F H : Hp} {μ : Mu} (S : Sim K θ F H μ) {gs : List (Key × V)} {kvs : List (Key × W)} (q : KvR K θ F gs kvs) {p : Addr} (hp : H p = none) :
    Sim K (θ ++ [p]) F (upd H p (.dK gs)) (μ ++ [.dK kvs false]) ∧ Ext θ F H (θ ++ [p]) F (upd H p (.dK gs)) ∧ Rep K (θ ++ [p]) F (.ref p) (.loc μ.length) := by
  obtain ⟨S1, x1⟩ := S.alloc (o := .dK gs) (c := .dK kvs false) hp ⟨gs, ⟨S.outF hp, upd_same⟩, q.mono (pre_app θ p) (.refl _)⟩
  refine ⟨S1, x1, .loc ?_⟩
  rw [← S.len, List.getElem?_append_right (Nat.le_refl _), Nat.sub_self]
  rfl
theorem ped_dnew : PED X Wx (.Dict [] [] pos) tDNewK eDNew := by
  refine ⟨pe_dnewK, fun σ H Q θ F ρ μ S E ok p hp => ?_⟩
  obtain ⟨S1, x1, r1⟩ := new_dk S (gs := []) (kvs := []) .nil hp
  exact ok _ _ _ _ x1 S1 r1
/-- d.pop(k), there -/
def eDPop (o i : EM) : EM := fun ρ μ => (o ρ μ).bind fun x μ1 => if (dAt μ1 x).isSome = true then (i ρ μ1).bind fun y μ2 => match x, asK y with
  | .loc n, some k => match μ2[n]? with
    | some (.dK kvs false) => match dVal kvs k with
      | some w => .ok w (μ2.set n (.dK (dDrop kvs k) false))
      | none => .no
    | _ => .no
  | _, _ => .no else .no
theorem ped_dpop {o e : Expr} {apos cpos : Pos} {td ty : TE} {mo mi : EM} (ho : PED X Wx o td mo) (he : PED X Wx e ty mi) (m : M1 X o "pop" apos e cpos := by exact ⟨rfl, rfl, rfl, rfl⟩) : PED X Wx (.Call (.Attribute o "pop" apos) [e] [] cpos) (tDPop1 td ty) (eDPop mo mi) := by
  refine ⟨pe_dpop1 ho.pe he.pe m, fun σ H Q θ F ρ μ S E ok => ?_⟩
  refine ho.ad.use S E ok fun θ1 F1 H1 μ1 x xw x1 S1 E1 r1 ok1 => ?_
  split at ok1
  · rename_i hd
    obtain ⟨⟨kvs0, lk0⟩, hd⟩ := Option.isSome_iff_exists.mp hd
    obtain ⟨n, rfl, h3⟩ := dAt_loc hd
    obtain ⟨a, gs, rfl, h4, h5, h6⟩ := dk_rep S1 r1 h3
    refine ⟨a, rfl, .inl ⟨gs, h5.rd⟩, ?_⟩
    refine he.ad.use S1 E1 ok1 fun θ2 F2 H2 μ2 y yw x2 S2 E2 r2 ok2 => ?_
    split at ok2
    · rename_i n' k en hk
      cases en
      split at ok2
      · rename_i kvs hl
        split at ok2
        · rename_i w hw
          have ey := asK_rep r2 hk
          subst ey
          obtain ⟨b, gs2, eb, g1, g2, g3⟩ := dk_rep S2 (r1.mono x2.pre x2.sub) hl
          cases eb
          obtain ⟨f, g2⟩ := g2
          obtain ⟨v, g4, g5⟩ := (g3.val (k := k)).1 w hw
          obtain ⟨S3, x3⟩ := write_dk S2 g1 f (g3.drop (k := k))
          exact ⟨gs2, k, v, g2, rfl, g4, ok2 _ _ _ _ x3 S3 (g5.mono x3.pre x3.sub)⟩
        · exact ok2.elim
      · exact ok2.elim
    · exact ok2.elim
  · exact ok1.elim
end
end PD
/-! walks over dicts -/
namespace PD
open PySem PySem.Spec PyProof.Rows L2
variable [Tbs]
/-! ### locking -/
def dropF (F : Hp) (a : Addr) : Hp := fun b => if b = a then none else F b
theorem dropF_ne {F : Hp} {a b : Addr} (h : b ≠ a) : dropF F a b = F b := if_neg h
theorem dropF_same {F : Hp} {a : Addr} : dropF F a a = none := if_pos rfl
theorem dropF_of {F : Hp} {a b : Addr} {o : HO} (h : dropF F a b = some o) : b ≠ a ∧ F b = some o := by
  unfold dropF at h
  split at h
  · cases h
  · rename_i n; exact ⟨n, h⟩
section
variable {K : PySem.W.Frag} {θ : List Addr} {F : Hp} {a : Addr} {o : Obj} {gs : List (Key × V)}
theorem frz_ne {b : Addr} {u : HO} (hF : F a = some (.frz o (.dK gs))) (h : F b = some u) (hn : ∀ o' gs', u ≠ .frz o' (.dK gs')) : b ≠ a := fun e => by
  rw [e, hF] at h
  exact hn _ _ (Option.some.inj h).symm
theorem dropF_sqT (hF : F a = some (.frz o (.dK gs))) {b : Addr} {xs : List V} (h : SqT K F b xs) : SqT K (dropF F a) b xs := by
  rcases h with (h | ⟨o', h⟩) | h
  · exact .inl (.inl (by rw [dropF_ne (frz_ne hF h (fun _ _ z => nomatch z))]; exact h))
  · exact .inl (.inr ⟨o', by rw [dropF_ne (frz_ne hF h (fun _ _ z => nomatch z))]; exact h⟩)
  · exact .inr h
theorem dropF_sqL (hF : F a = some (.frz o (.dK gs))) {b : Addr} {xs : List V} (h : SqL K F b xs) : SqL K (dropF F a) b xs := by
  rcases h with (h | ⟨o', h⟩) | h
  · exact .inl (.inl (by rw [dropF_ne (frz_ne hF h (fun _ _ z => nomatch z))]; exact h))
  · exact .inl (.inr ⟨o', by rw [dropF_ne (frz_ne hF h (fun _ _ z => nomatch z))]; exact h⟩)
  · exact .inr h
mutual
theorem Rep.dropF (hF : F a = some (.frz o (.dK gs))) : ∀ {v : V} {w : W}, Rep K θ F v w → Rep K θ (PD.dropF F a) v w
  | _, _, .non => .non
  | _, _, .bl b => .bl b
  | _, _, .int i => .int i
  | _, _, .str x => .str x
  | _, _, .ty n => .ty n
  | _, _, .ref b => .ref b
  | _, _, .loc e => .loc e
  | _, _, .tup h q => .tup (dropF_sqT hF h) (RepAll.dropF hF q)
  | _, _, .lst h q => .lst (by rw [dropF_ne (frz_ne hF h (fun _ _ z => nomatch z))]; exact h) (RepAll.dropF hF q)
  | _, _, .scr h q => .scr (dropF_sqL hF h) (RepAll.dropF hF q)
theorem RepAll.dropF (hF : F a = some (.frz o (.dK gs))) : ∀ {vs : List V} {ws : List W}, RepAll K θ F vs ws → RepAll K θ (PD.dropF F a) vs ws
  | _, _, .nil => .nil
  | _, _, .cons r t => .cons (Rep.dropF hF r) (RepAll.dropF hF t)
end
theorem KvR.dropF (hF : F a = some (.frz o (.dK gs))) : ∀ {gs' : List (Key × V)} {kvs : List (Key × W)}, KvR K θ F gs' kvs → KvR K θ (PD.dropF F a) gs' kvs
  | _, _, .nil => .nil
  | _, _, .cons r t => .cons (r.dropF hF) (KvR.dropF hF t)
theorem Flds.dropF (hF : F a = some (.frz o (.dK gs))) : ∀ {gs' : List (Str × V)} {fs : List (Str × W)}, Flds K θ F gs' fs → Flds K θ (PD.dropF F a) gs' fs
  | _, _, .nil => .nil
  | _, _, .cons r t => .cons (r.dropF hF) (Flds.dropF hF t)
theorem SimE.dropF (hF : F a = some (.frz o (.dK gs))) {σ : St} {ρ : Env} (h : SimE K θ F σ ρ) : SimE K θ (PD.dropF F a) σ ρ :=
  ⟨h.len, fun i w e => let ⟨v, h1, h2⟩ := h.get i w e; ⟨v, h1, h2.dropF hF⟩⟩
end
section
variable {K : PySem.W.Frag} {θ : List Addr} {F H : Hp} {μ : Mu}
theorem Sim.lock (S : Sim K θ F H μ) {n : Nat} {a : Addr} {o : Obj} {gs : List (Key × V)} {kvs : List (Key × W)} (ha : θ[n]? = some a) (hF : F a = none) (hH : H a = some (.dK gs)) (q : KvR K θ F gs kvs) :
    Sim K θ (upd F a (.frz o (.dK gs))) (upd H a (.frz o (.dK gs))) (μ.set n (.dK kvs true)) ∧ Ext θ F H θ (upd F a (.frz o (.dK gs))) (upd H a (.frz o (.dK gs))) := by
  refine ⟨⟨fun b u e => ?_, by simp [S.len], S.nd, fun m b d h1 h2 => ?_, fun P hP => ?_⟩, ⟨List.prefix_refl _, sub_upd hF, fun b u e hb => .of ?_, fun _ m => .inl m, fun b u e => ?_⟩⟩
  · by_cases hb : b = a
    · subst hb; rw [upd_same] at e ⊢; exact e
    · rw [upd_ne hb] at e ⊢; exact S.sub b u e
  · by_cases hm : m = n
    · subst hm
      rw [ha] at h1; cases h1
      have : m < μ.length := by rw [← S.len]; exact (List.getElem?_eq_some_iff.mp ha).1
      rw [List.getElem?_set_self this] at h2; cases h2
      exact ⟨gs, ⟨o, upd_same, upd_same⟩, q.mono (List.prefix_refl _) (sub_upd hF)⟩
    · rw [List.getElem?_set_ne (Ne.symm hm)] at h2
      have ne : b ≠ a := fun z => hm (by
        subst z
        obtain ⟨l1, e1⟩ := List.getElem?_eq_some_iff.mp h1
        obtain ⟨l2, e2⟩ := List.getElem?_eq_some_iff.mp ha
        exact (List.getElem_inj S.nd).mp (e1.trans e2.symm))
      exact (S.cell m b d h1 h2).mono (List.prefix_refl _) (sub_upd hF) (fun z => by rw [upd_ne ne]; exact z) fun o e => by rw [upd_ne ne]; exact e
  · have na := S.ntab (List.mem_of_getElem? ha)
    exact ⟨by rw [upd_ne (tab_ne (S.tab P hP).2 na)]; exact (S.tab P hP).1, tab_upd (S.tab P hP).2 na⟩
  · rw [upd_ne (fun z => hb (by rw [z]; exact List.mem_of_getElem? ha))]; exact e
  · by_cases hb : b = a
    · exact .inr (.inr (by rw [hb]; exact List.mem_of_getElem? ha))
    · rw [upd_ne hb] at e; exact .inl e
theorem CellOk.dropF {a : Addr} {o : Obj} {gs : List (Key × V)} (hF : F a = some (.frz o (.dK gs))) {b : Addr} {c : Cell} (hb : b ≠ a) (h : CellOk K θ F H b c) : CellOk K θ (PD.dropF F a) (upd H a (.dK gs)) b c := by
  cases c with
  | dead => obtain ⟨o, e, n⟩ := h; exact ⟨o, by rw [upd_ne hb]; exact e, n⟩
  | lst ws => obtain ⟨f, vs, q, r⟩ := h; exact ⟨by rw [dropF_ne hb]; exact f, vs, by rw [upd_ne hb]; exact q, r.dropF hF⟩
  | ins C fs => obtain ⟨f, dx, gs, q, r⟩ := h; exact ⟨by rw [dropF_ne hb]; exact f, dx, gs, by rw [upd_ne hb]; exact q, r.dropF hF⟩
  | dK kvs lk =>
    obtain ⟨gs', q, r⟩ := h
    refine ⟨gs', ?_, r.dropF hF⟩
    cases lk with
    | false => exact ⟨by rw [dropF_ne hb]; exact q.1, by rw [upd_ne hb]; exact q.2⟩
    | true => obtain ⟨o', q1, q⟩ := q; exact ⟨o', by rw [dropF_ne hb]; exact q1, by rw [upd_ne hb]; exact q⟩
def unM (n : Nat) (μ : Mu) : Option Mu := match μ[n]? with
  | some (.dK kvs true) => some (μ.set n (.dK kvs false))
  | _ => none
theorem Sim.unlock {θ' : List Addr} {F' H' : Hp} {μ' μ2 : Mu} {n : Nat} {a : Addr} {o : Obj} {gs : List (Key × V)} (ha : θ[n]? = some a) (hF : F a = none) (hH : H a = some (.dK gs))
    (x : Ext θ (upd F a (.frz o (.dK gs))) (upd H a (.frz o (.dK gs))) θ' F' H') (S : Sim K θ' F' H' μ') (hm : unM n μ' = some μ2) :
    F' a = some (.frz o (.dK gs)) ∧ H' a = some (.frz o (.dK gs)) ∧ Sim K θ' (PD.dropF F' a) (upd H' a (.dK gs)) μ2 ∧ Ext θ F H θ' (PD.dropF F' a) (upd H' a (.dK gs)) := by
  have hF' : F' a = some (.frz o (.dK gs)) := x.sub _ _ upd_same
  have hH' : H' a = some (.frz o (.dK gs)) := S.sub _ _ hF'
  have ha' : θ'[n]? = some a := pre_get x.pre ha
  have haθ : a ∈ θ := List.mem_of_getElem? ha
  unfold unM at hm
  split at hm
  · rename_i kvs hk
    cases hm
    obtain ⟨b, e, gs', q, r⟩ := S.at hk
    rw [ha'] at e; cases e
    obtain ⟨o', q1, _⟩ := q
    rw [hF'] at q1; cases q1
    refine ⟨hF', hH', ⟨fun b u e => ?_, by simp [S.len], S.nd, fun m b d h1 h2 => ?_, fun P hP => ?_⟩, ⟨x.pre, fun b u e => ?_, fun b u e hb => ?_, fun b m => ?_, fun b u e => ?_⟩⟩
    · obtain ⟨n1, e⟩ := dropF_of e
      rw [upd_ne n1]; exact S.sub b u e
    · by_cases hm : m = n
      · subst hm
        rw [ha'] at h1; cases h1
        have : m < μ'.length := by rw [← S.len]; exact (List.getElem?_eq_some_iff.mp ha').1
        rw [List.getElem?_set_self this] at h2; cases h2
        exact ⟨gs, ⟨dropF_same, upd_same⟩, r.dropF hF'⟩
      · rw [List.getElem?_set_ne (Ne.symm hm)] at h2
        have ne : b ≠ a := fun z => hm (by
          subst z
          obtain ⟨l1, e1⟩ := List.getElem?_eq_some_iff.mp h1
          obtain ⟨l2, e2⟩ := List.getElem?_eq_some_iff.mp ha'
          exact (List.getElem_inj S.nd).mp (e1.trans e2.symm))
        exact (S.cell m b d h1 h2).dropF hF' ne
    · have na := S.ntab (List.mem_of_getElem? ha')
      exact ⟨by rw [dropF_ne (tab_ne (S.tab P hP).2 na)]; exact (S.tab P hP).1, tab_upd (S.tab P hP).2 na⟩
    · have hb : b ≠ a := fun z => by rw [z, hF] at e; cases e
      rw [dropF_ne hb]; exact x.sub b u (by rw [upd_ne hb]; exact e)
    · have hb' : b ≠ a := fun z => hb (by rw [z]; exact haθ)
      rw [upd_ne hb']
      exact x.frame b u (by rw [upd_ne hb']; exact e) hb
    · rcases x.fresh b m with z | z
      · exact .inl z
      · by_cases hb : b = a
        · exact .inl (by rw [hb]; exact haθ)
        · rw [upd_ne hb] at z; exact .inr z
    · obtain ⟨hb, e⟩ := dropF_of e
      rcases x.news b u e with z | z | z
      · rw [upd_ne hb] at z; exact .inl z
      · rw [upd_ne hb] at z; exact .inr (.inl z)
      · exact .inr (.inr z)
  · cases hm
theorem impl_keys {a : Addr} {o : Obj} {gs : List (Key × V)} {kvs : List (Key × W)} (h : F a = some (.frz o (.dK gs))) (q : KvR K θ F gs kvs) : Impl K θ F (Itk a o gs) (.seq (dKeys kvs)) := by
  intro i θ1 F1 H1 μ1 l' p e S hi
  cases hi
  have hH : H1 a = some (.frz o (.dK gs)) := S.sub _ _ (e _ _ h)
  have hl : (dKeys kvs).length = gs.length := by unfold dKeys; rw [List.length_map, q.length]
  refine ⟨fun hi => ⟨hH, by rw [← hl]; exact hi⟩, fun w hw => ?_⟩
  have hlt : i < gs.length := by rw [← hl]; exact (List.getElem?_eq_some_iff.mp hw).1
  refine ⟨⟨hH, hlt⟩, fun x H2 y => ?_⟩
  obtain ⟨rfl, k, v, e1, rfl⟩ := y
  refine ⟨F1, .refl _ _ _, S, ?_⟩
  have e2 : (gs.map (·.1))[i]? = some k := by rw [List.getElem?_map, e1]; rfl
  rw [q.keys, List.getElem?_map] at e2
  unfold dKeys at hw
  rw [List.getElem?_map] at hw
  cases e3 : kvs[i]? with
  | none => rw [e3] at e2; cases e2
  | some p =>
    rw [e3] at e2 hw
    cases e2; cases hw
    exact keyW_rep _
end
section
variable {X : Cx}
abbrev NoFrz (X : Cx) (d : Addr) : Prop := ∀ o' u', X.H_0 d ≠ some (.frz o' u')
def unlQ (X : Cx) (P : St → Hp → Prop) : St → Hp → Prop := fun σ H => P σ H ∨ ∃ d od u, H d = some (.frz od u) ∧ NoFrz X d ∧ P σ (upd H d u)
def unlV (X : Cx) (P : VK) : VK := fun v H => P v H ∨ ∃ d od u, H d = some (.frz od u) ∧ NoFrz X d ∧ P v (upd H d u)
def tUnl (X : Cx) (t : TS) : TS := fun D σ H => t ⟨unlQ X D.nx, unlV X D.rt, unlQ X D.bk, unlQ X D.ct⟩ σ H
def tUnlE (X : Cx) (t : TE) : TE := fun σ H Q => t σ H (unlV X Q)
def WxL (X : Cx) (Wx : WX) : WX := fun v k σ H => Wx v k σ H ∨ ∃ d od u, H d = some (.frz od u) ∧ NoFrz X d ∧ Wx v k σ (upd H d u)
theorem ps_unl {st : Stmt} {t : TS} (h : PS X st t) : PS X st (tUnl X t) := by
  refine ⟨fun pins s σ H D I hw => ?_⟩
  refine thn (h.run pins s σ _ _ I hw) fun f s1 q => ?_
  cases f with
  | next => obtain ⟨σ', H', I2, q⟩ := q; rcases q with q | ⟨d, od, u, e, n, q⟩ <;> first | exact ⟨σ', H', I2, q⟩ | exact ⟨σ', _, I2.unlock e n, q⟩
  | brk => obtain ⟨σ', H', I2, q⟩ := q; rcases q with q | ⟨d, od, u, e, n, q⟩ <;> first | exact ⟨σ', H', I2, q⟩ | exact ⟨σ', _, I2.unlock e n, q⟩
  | cont => obtain ⟨σ', H', I2, q⟩ := q; rcases q with q | ⟨d, od, u, e, n, q⟩ <;> first | exact ⟨σ', H', I2, q⟩ | exact ⟨σ', _, I2.unlock e n, q⟩
  | ret v => obtain ⟨x, σ', H', I2, r, q⟩ := q; rcases q with q | ⟨d, od, u, e, n, q⟩ <;> first | exact ⟨x, σ', H', I2, r, q⟩ | exact ⟨x, σ', _, I2.unlock e n, r, q⟩
theorem pe_unl {e : Expr} {t : TE} (h : PE X e t) : PE X e (tUnlE X t) := by
  refine ⟨fun pins s σ H Q I hw => ?_⟩
  refine thn (h.run pins s σ _ _ I hw) fun v s1 ⟨x, H1, I2, r, q⟩ => ?_
  rcases q with q | ⟨d, od, u, e, n, q⟩
  · exact ⟨x, H1, I2, r, q⟩
  · exact ⟨x, _, I2.unlock e n, r, q⟩
theorem takes_lock {Wx : WX} (tk : L2N.Takes X Wx) : L2N.Takes X (WxL X Wx) := fun u s' ⟨a, B, sI, pins, σ, H, cls, d, e, I, nb, up, sky, na, os, ag, w⟩ => by
  rcases w with w | ⟨d', od, u', e', n, w⟩
  · exact tk u s' ⟨a, B, sI, pins, σ, H, cls, d, e, I, nb, up, sky, na, os, ag, w⟩
  · exact tk u s' ⟨a, B, sI, pins, σ, _, cls, d, e, I.unlock e' n, nb, up, sky, by rw [upd_ne (ne_of_none e' na).symm]; exact na, os, ag, w⟩
def iKeysL (X : Cx) (td : TE) : TI := fun σ H R => td σ H fun x H1 => ∃ d gs, x = .ref d ∧
  ((H1 d = some (.dK gs) ∧ (NoFrz X d → ∀ o, R (Itk d o gs) (upd H1 d (.frz o (.dK gs))))) ∨ ∃ o, H1 d = some (.frz o (.dK gs)) ∧ R (Itk d o gs) H1)
theorem pi_keysL {tg e : Expr} {td : TE} (he : PE X e td) : PI X tg e (iKeysL X td) := by
  refine ⟨fun pins s σ H R I h => ?_⟩
  refine thn (he.run pins s σ H _ I h) fun u s1 ⟨x, H1, I1, rx, d, gs, ex, q⟩ => ?_
  subst ex
  obtain rfl : u = Value.ref d := rx
  have fin : ∀ {H1 : Hp} {o : Obj} (I1 : Inv X pins σ H1 s1) (hd : H1 d = some (.frz o (.dK gs))) (q : R (Itk d o gs) H1), wpAny (model X.prog X.w) X.A (pyIter (.ref d)) (PIE X pins σ tg R) X.xe s1 := fun {H1 o} I1 hd q => by
    obtain ⟨hs, hgd, hx, es, ep, vs, hdt, hsz, kv, hm⟩ := I1.frzK hd
    refine iter_keys hs hgd hx hdt (pi_one (tk := s1.toks) I1 _ (turn_keys _ hdt) ⟨_, Heap.get?_push_size _ rfl, rfl, ?_⟩ q)
    rw [hsz] <;> rfl
  rcases q with ⟨hd, q⟩ | ⟨o, hd, q⟩
  · obtain ⟨od, I2⟩ := I1.lock hd trivial
    exact fin I2 upd_same (q (I1.nofrz hd trivial) od)
  · exact fin I1 hd q
end
/-! ### for k in d -/
def SO.unl (n : Nat) : SO → SO
  | .nx ρ μ => match unM n μ with
    | some μ2 => .nx ρ μ2
    | none => .no
  | .rt w μ => match unM n μ with
    | some μ2 => .rt w μ2
    | none => .no
  | .bk ρ μ => match unM n μ with
    | some μ2 => .bk ρ μ2
    | none => .no
  | .ct ρ μ => match unM n μ with
    | some μ2 => .ct ρ μ2
    | none => .no
  | .er c ρ μ => match unM n μ with
    | some μ2 => .er c ρ μ2
    | none => .no
  | .no => .no
def Out.unl (n : Nat) : Out W → Out W
  | .ok w μ => match unM n μ with
    | some μ2 => .ok w μ2
    | none => .no
  | _ => .no
section
variable {X : Cx} {Wx : WX} {tg iter : Expr} {td : TE} {me : EM} {g : TG} {mg : W → Env → Mu → Out Env} {tb : TS} {mb : SM} {body : List Stmt} {pos : Pos}
def sForK (m : EM) (g : W → Env → Mu → Out Env) (body : SM) : SM := fun ρ μ => (m ρ μ).st ρ fun w μ1 => match w with
  | .loc n => match μ1[n]? with
    | some (.dK kvs false) => (forS g body (dKeys kvs) ρ (μ1.set n (.dK kvs true))).unl n
    | some (.dK kvs true) => forS g body (dKeys kvs) ρ μ1
    | _ => .no
  | _ => .no
theorem unl_ok {K : PySem.W.Frag} {θ : List Addr} {F H : Hp} {n : Nat} {a : Addr} {o : Obj} {gs : List (Key × V)} (ha : θ[n]? = some a) (hF : F a = none) (hH : H a = some (.dK gs)) (nf : NoFrz X a) {D : Ends} {so : SO}
    (ok : (so.unl n).Ok K Wx θ F H D) : so.Ok K (WxL X Wx) θ (upd F a (.frz o (.dK gs))) (upd H a (.frz o (.dK gs))) ⟨unlQ X D.nx, unlV X D.rt, unlQ X D.bk, unlQ X D.ct⟩ := by
  cases so with
  | no => exact ok
  | nx ρ μ' =>
    cases hm : unM n μ' with
    | none => simp only [SO.unl, hm] at ok; exact ok.elim
    | some μ2 =>
      simp only [SO.unl, hm] at ok
      intro θ' F' H' σ' x S E
      obtain ⟨f1, h1, S2, x2⟩ := Sim.unlock ha hF hH x S hm
      exact .inr ⟨a, o, _, h1, nf, ok θ' _ _ σ' x2 S2 (E.dropF f1)⟩
  | bk ρ μ' =>
    cases hm : unM n μ' with
    | none => simp only [SO.unl, hm] at ok; exact ok.elim
    | some μ2 =>
      simp only [SO.unl, hm] at ok
      intro θ' F' H' σ' x S E
      obtain ⟨f1, h1, S2, x2⟩ := Sim.unlock ha hF hH x S hm
      exact .inr ⟨a, o, _, h1, nf, ok θ' _ _ σ' x2 S2 (E.dropF f1)⟩
  | ct ρ μ' =>
    cases hm : unM n μ' with
    | none => simp only [SO.unl, hm] at ok; exact ok.elim
    | some μ2 =>
      simp only [SO.unl, hm] at ok
      intro θ' F' H' σ' x S E
      obtain ⟨f1, h1, S2, x2⟩ := Sim.unlock ha hF hH x S hm
      exact .inr ⟨a, o, _, h1, nf, ok θ' _ _ σ' x2 S2 (E.dropF f1)⟩
  | er c ρ μ' =>
    cases hm : unM n μ' with
    | none => simp only [SO.unl, hm] at ok; exact ok.elim
    | some μ2 =>
      simp only [SO.unl, hm] at ok
      intro θ' F' H' σ' x S E
      obtain ⟨f1, h1, S2, x2⟩ := Sim.unlock ha hF hH x S hm
      exact .inr ⟨a, o, _, h1, nf, ok θ' _ _ σ' x2 S2 (E.dropF f1)⟩
  | rt w μ' =>
    cases hm : unM n μ' with
    | none => simp only [SO.unl, hm] at ok; exact ok.elim
    | some μ2 =>
      simp only [SO.unl, hm] at ok
      intro θ' F' H' v x S r
      obtain ⟨f1, h1, S2, x2⟩ := Sim.unlock ha hF hH x S hm
      exact .inr ⟨a, o, _, h1, nf, ok θ' _ _ v x2 S2 (r.dropF f1)⟩
theorem wider {K : PySem.W.Frag} {θ : List Addr} {F H : Hp} {D : Ends} {so : SO} (ok : so.Ok K Wx θ F H D) : so.Ok K (WxL X Wx) θ F H ⟨unlQ X D.nx, unlV X D.rt, unlQ X D.bk, unlQ X D.ct⟩ := by
  cases so with
  | no => exact ok
  | nx ρ μ' => exact fun θ' F' H' σ' x S E => .inl (ok θ' F' H' σ' x S E)
  | bk ρ μ' => exact fun θ' F' H' σ' x S E => .inl (ok θ' F' H' σ' x S E)
  | ct ρ μ' => exact fun θ' F' H' σ' x S E => .inl (ok θ' F' H' σ' x S E)
  | er c ρ μ' => exact fun θ' F' H' σ' x S E => .inl (ok θ' F' H' σ' x S E)
  | rt w μ' => exact fun θ' F' H' v x S E => .inl (ok θ' F' H' v x S E)
theorem psd_forK (hp : PassesOwn (model X.prog X.w) X.A X.env X.xe) (hc : X.calm = true) (hi : PED X Wx iter td me) (hg : PGD X (WxL X Wx) tg g mg) (hb : PSsD X (WxL X Wx) body tb mb) (hs : ∀ x, foldedSetIterable iter X.env x = pure x := by intro _; rfl) :
    PSD X Wx (.For tg iter body [] pos) (tUnl X (tFor (iKeysL X td) g tb)) (sForK me mg mb) := by
  refine ⟨ps_unl (ps_for hp hc (pi_keysL hi.pe) hg.pg hb.ps hs), fun D σ H θ F ρ μ S E ok => ?_⟩
  refine hi.ad σ H _ θ F ρ μ S E ?_
  unfold sForK at ok
  cases e : me ρ μ with
  | no => rw [e] at ok; exact ok
  | er c μ1 =>
    rw [e] at ok
    exact fun θ1 F1 H1 x1 S1 => ok θ1 F1 H1 σ x1 S1 (E.mono x1.pre x1.sub)
  | ok w μ1 =>
    rw [e] at ok
    intro θ1 F1 H1 v x1 S1 r
    have E1 := E.mono x1.pre x1.sub
    simp only [Out.st] at ok
    split at ok
    · rename_i n
      split at ok
      · rename_i kvs hk
        obtain ⟨a, gs, rfl, h1, ⟨h2, h3⟩, h4⟩ := dk_rep S1 r hk
        refine ⟨a, gs, rfl, .inl ⟨h3, fun nf o => ?_⟩⟩
        obtain ⟨S2, x2⟩ := S1.lock (o := o) h1 h2 h3 h4
        refine ad_forL (l := dKeys kvs) hg.ad hb.ad (impl_keys upd_same (h4.mono (List.prefix_refl _) (sub_upd h2))) S2 (E1.mono x2.pre x2.sub) ?_
        rw [forL_seq]
        exact unl_ok h1 h2 h3 nf (SO.Ok.mono ok x1)
      · rename_i kvs hk
        obtain ⟨a, gs, rfl, h1, ⟨o, h2, h3⟩, h4⟩ := dk_rep S1 r hk
        refine ⟨a, gs, rfl, .inr ⟨o, h3, ?_⟩⟩
        refine ad_forL (l := dKeys kvs) hg.ad hb.ad (impl_keys h2 h4) S1 E1 ?_
        rw [forL_seq]
        exact wider (SO.Ok.mono ok x1)
      · exact ok.elim
    · exact ok.elim
end
end PD
/-! comprehensions over dicts, dict comprehensions, dict(), list(), sorted() of dicts; texts -/
namespace PD
open PySem PySem.Spec PyProof.Rows L2
variable [Tbs]
section
variable {X : Cx} {Wx : WX} {tg elt iter : Expr} {ifs : List Expr} {scope : Scope} {own : List (Str × Nat)} {pos : Pos} {td : TE} {md : EM} {g : TG} {mg : W → Env → Mu → Out Env} {mt : BM} {me mk : EM}
def eCmpK (m : EM) (vs : List Nat) (g : W → Env → Mu → Out Env) (tt : BM) (me : EM) : EM := fun ρ μ => (m ρ μ).bind fun w μ1 => match w with
  | .loc n => match μ1[n]? with
    | some (.dK kvs false) => (cmpS g tt me (wipeW ρ vs) (dKeys kvs) [] (μ1.set n (.dK kvs true))).unl n
    | some (.dK kvs true) => cmpS g tt me (wipeW ρ vs) (dKeys kvs) [] μ1
    | _ => .no
  | _ => .no
theorem unl_okE {K : PySem.W.Frag} {θ : List Addr} {F H : Hp} {n : Nat} {a : Addr} {o : Obj} {gs : List (Key × V)} (ha : θ[n]? = some a) (hF : F a = none) (hH : H a = some (.dK gs)) (nf : NoFrz X a) {E : Addr → Hp → Prop} {Q : VK} {so : Out W}
    (ok : (so.unl n).Ok K (Rep K) θ F H E Q) : so.Ok K (Rep K) θ (upd F a (.frz o (.dK gs))) (upd H a (.frz o (.dK gs))) (fun _ _ => False) (unlV X Q) := by
  cases so with
  | no => exact ok
  | er c μ' => exact ok.elim
  | ok w μ' =>
    cases hm : unM n μ' with
    | none => simp only [Out.unl, hm] at ok; exact ok.elim
    | some μ2 =>
      simp only [Out.unl, hm] at ok
      intro θ' F' H' v x S r
      obtain ⟨f1, h1, S2, x2⟩ := Sim.unlock ha hF hH x S hm
      exact .inr ⟨a, o, _, h1, nf, ok θ' _ _ v x2 S2 (r.dropF f1)⟩
theorem widerE {K : PySem.W.Frag} {θ : List Addr} {F H : Hp} {E : Addr → Hp → Prop} {Q : VK} {so : Out W} (ok : so.Ok K (Rep K) θ F H E Q) : so.Ok K (Rep K) θ F H E (unlV X Q) := by
  cases so with
  | no => exact ok
  | er c μ' => exact ok
  | ok w μ' => exact fun θ' F' H' v x S r => .inl (ok θ' F' H' v x S r)
theorem ped_cmpKC (hc : X.calm = true) (hN : X.N.Nodup) (hi : PED X Wx iter td md) (ok : BlkOk X.N X.env.scope scope own) (hw : GOwn g (own.map (·.2)))
    (hg : ∀ (s : Shared) (H : Hp) (C : Addr) (cl : List (Str × Addr)) (fp : List Addr), PGD (X.blk s H scope (compEnvC scope cl C X.env) fp) W0 tg g mg) (ht : ∀ (s : Shared) (H : Hp) (C : Addr) (cl : List (Str × Addr)) (fp : List Addr), ∃ t, PTsD (X.blk s H scope (compEnvC scope cl C X.env) fp) W0 ifs t mt)
    (he : ∀ (s : Shared) (H : Hp) (C : Addr) (cl : List (Str × Addr)) (fp : List Addr), ∃ t, PED (X.blk s H scope (compEnvC scope cl C X.env) fp) W0 elt t me) (hs : ∀ x, foldedSetIterable iter X.env x = pure x := by intro _; rfl) :
    PED X Wx (.ListComp elt [⟨tg, iter, ifs, 0⟩] scope pos) (tUnlE X (tLc (iKeysL X td) g (tOf X.K W0 REq mt) (tOf X.K W0 (Rep X.K) me) (own.map (·.2)))) (eCmpK md (own.map (·.2)) mg mt me) := by
  have ht' := fun s H C cl fp => (ht s H C cl fp).choose_spec.can
  have he' := fun s H C cl fp => (he s H C cl fp).choose_spec.can
  refine ⟨pe_unl (pe_lc hc hN (pi_keysL hi.pe) ok (fun s H C cl fp => (hg s H C cl fp).pg) (fun s H C cl fp => (ht' s H C cl fp).pt) (fun s H C cl fp => (he' s H C cl fp).pe) hs), fun σ H Q θ F ρ μ S E okk => ?_⟩
  have hg0 := (hg X.s_0 X.H_0 0 [] []).ad
  have ht0 := (ht' X.s_0 X.H_0 0 [] []).ad
  have he0 := (he' X.s_0 X.H_0 0 [] []).ad
  refine hi.ad.use S E okk fun θ1 F1 H1 μ1 v w x1 S1 E1 r ok1 => ?_
  split at ok1
  · rename_i n
    split at ok1
    · rename_i kvs hk
      obtain ⟨a, gs, rfl, h1, ⟨h2, h3⟩, h4⟩ := dk_rep S1 r hk
      refine ⟨a, gs, rfl, .inl ⟨h3, fun nf o => ?_⟩⟩
      obtain ⟨S2, x2⟩ := S1.lock (o := o) h1 h2 h3 h4
      refine ad_lc (E0 := fun _ _ => False) (l := dKeys kvs) (ρ := ρ) hw hg0 ht0 he0 (impl_keys upd_same (h4.mono (List.prefix_refl _) (sub_upd h2))) S2 (E1.mono x2.pre x2.sub) ?_
      rw [cmpL_seq]
      exact unl_okE h1 h2 h3 nf ok1
    · rename_i kvs hk
      obtain ⟨a, gs, rfl, h1, ⟨o, h2, h3⟩, h4⟩ := dk_rep S1 r hk
      refine ⟨a, gs, rfl, .inr ⟨o, h3, ?_⟩⟩
      refine ad_lc (E0 := fun c H' => Wx (.ref c) none σ H') (l := dKeys kvs) (ρ := ρ) hw hg0 ht0 he0 (impl_keys h2 h4) S1 E1 ?_
      rw [cmpL_seq]
      exact widerE ok1
    · exact ok1.elim
  · exact ok1.elim

/-! ### dict comprehensions -/
def dcS (g : W → Env → Mu → Out Env) (tt : BM) (mk mv : EM) (ρ : Env) : List W → List (Key × W) → Mu → Out W
  | [], acc, μ => .ok (.loc μ.length) (μ ++ [.dK acc false])
  | w :: r, acc, μ => match g w ρ μ with
    | .ok ρ1 μ1 => match tt ρ1 μ1 with
      | .ok true μ2 => match mk ρ1 μ2 with
        | .ok y μ3 => match mv ρ1 μ3 with
          | .ok z μ4 => match asK y with
            | some k => if acc.length < sizeLine then dcS g tt mk mv ρ r (dPut acc k z) μ4 else .no
            | none => .no
          | _ => .no
        | _ => .no
      | .ok false μ2 => dcS g tt mk mv ρ r acc μ2
      | _ => .no
    | _ => .no
def eDc (it : IM) (vs : List Nat) (g : W → Env → Mu → Out Env) (tt : BM) (mk mv : EM) : EM := fun ρ μ => (it ρ μ).bind fun i μ1 => match i with
  | .seq l => dcS g tt mk mv (wipeW ρ vs) l [] μ1
  | _ => .no
theorem ad_dc {K : PySem.W.Frag} {g : TG} {tt : TT} {tk tv : TE} {vs : List Nat} {J : It} {l : List W} {mg : W → Env → Mu → Out Env} {mt : BM} {mk me : EM} {θ : List Addr} {F H : Hp} {σ : St} {ρ : Env} {μ : Mu} {E0 : Addr → Hp → Prop} {Q : VK}
    (hw : GOwn g vs) (hg : ∀ (v : V) (w : W) (σ : St) (H : Hp) (Q : St → Hp → Prop) (θ : List Addr) (F : Hp) (ρ : Env) (μ : Mu), Sim K θ F H μ → SimE K θ F σ ρ → Rep K θ F v w → (mg w ρ μ).Ok K (SimE K) θ F H (fun c H' => W0 (.ref c) none σ H') Q → g v σ H Q)
    (ht : Ad K W0 REq tt mt) (hk : Ad K W0 (Rep K) tk mk) (he : Ad K W0 (Rep K) tv me) (hJ : Impl K θ F J (.seq l)) (S : Sim K θ F H μ) (E : SimE K θ F σ ρ) (ok : (dcS mg mt mk me (wipeW ρ vs) l [] μ).Ok K (Rep K) θ F H E0 Q) :
    ∀ D, H D = none → ∃ Wv : Nat → Nat → Hp → Prop, (∃ m, Wv 0 m (upd H D (.dK []))) ∧ ∀ i m H, Wv i m H →
      (J.stop i H ∧ Q (.ref D) H) ∨ (J.go i H ∧ ∃ Nx : Hp → Prop, (∀ H', Nx H' → ∃ m', m' < m ∧ Wv (i + 1) m' H') ∧ ∀ x H', J.yld i H x H' → g x (wipe σ vs) H' fun σ2 H2 => wipe σ2 vs = wipe σ vs ∧ tt σ2 H2 fun b H3 =>
        if b = true then tk σ2 H3 fun y H4 => tv σ2 H4 fun z H5 => ∃ kvs k, y = kV k ∧ H5 D = some (.dK kvs) ∧ kvs.length < sizeLine ∧ Nx (upd H5 D (.dK (putK kvs k z))) else Nx H3) := by
  intro D hD
  have hDF := S.outF hD
  have hDθ := S.out hD
  let St1 : List W → Hp → Prop := fun r H1 => ∃ (θ1 : List Addr) (F1 : Hp) (μ1 : Mu) (gs : List (Key × V)) (acc : List (Key × W)), Ext θ F H θ1 F1 H1 ∧ Sim K θ1 F1 H1 μ1 ∧ F1 D = none ∧ D ∉ θ1 ∧ H1 D = some (.dK gs) ∧ KvR K θ1 F1 gs acc ∧
    (dcS mg mt mk me (wipeW ρ vs) r acc μ1).Ok K (Rep K) θ F H E0 Q
  refine ⟨fun i m H1 => ∃ r, m = r.length ∧ l.drop i = r ∧ St1 r H1, ⟨l.length, l, rfl, rfl, θ, F, μ, [], [], ⟨List.prefix_refl _, .refl _, fun b u e _ => .of (by rw [upd_ne (ne_of_none e hD)]; exact e), fun _ m => .inl m, fun _ _ e => .inl e⟩,
    S.aside _ hDF hDθ (by rw [hD]; intro _ z; cases z), hDF, hDθ, upd_same, .nil, ok⟩, ?_⟩
  rintro i m H1 ⟨r, rfl, hr, θ1, F1, μ1, gs, acc, x1, S1, nF, nθ, hH, ra, ok1⟩
  cases r with
  | nil =>
    unfold dcS at ok1
    refine .inl ⟨(hJ i θ1 F1 H1 μ1 l x1.pre x1.sub S1 rfl).1 (List.drop_eq_nil_iff.mp hr), ?_⟩
    refine ok1 (θ1 ++ [D]) F1 H1 (.ref D) ⟨x1.pre.trans (pre_app θ1 D), x1.sub, x1.frame, fun b m => ?_, x1.news⟩ ⟨S1.sub, by simp [S1.len], ?_, fun n a c h1 h2 => ?_, S1.tab⟩ (.loc ?_)
    · rcases List.mem_append.mp m with m | m
      · exact x1.fresh b m
      · rw [List.mem_singleton] at m; subst m; exact .inr hD
    · rw [List.nodup_append]
      refine ⟨S1.nd, by simp, fun a ha b hb => ?_⟩
      rw [List.mem_singleton] at hb
      subst hb
      exact fun e => nθ (e ▸ ha)
    · by_cases hl : n < θ1.length
      · rw [List.getElem?_append_left hl] at h1
        rw [List.getElem?_append_left (by rw [← S1.len]; exact hl)] at h2
        exact (S1.cell n a c h1 h2).mono (pre_app θ1 D) (.refl _) (fun z => z) fun o e => e
      · have hl' := (List.getElem?_eq_some_iff.mp h1).1
        rw [List.length_append, List.length_singleton] at hl'
        have en : n = θ1.length := by omega
        subst en
        rw [List.getElem?_append_right (Nat.le_refl _), Nat.sub_self] at h1
        cases h1
        rw [S1.len, List.getElem?_append_right (Nat.le_refl _), Nat.sub_self] at h2
        cases h2
        exact ⟨gs, ⟨nF, hH⟩, ra.mono (pre_app θ1 D) (.refl _)⟩
    · rw [← S1.len, List.getElem?_append_right (Nat.le_refl _), Nat.sub_self]
      rfl
  | cons w r =>
    unfold dcS at ok1
    have hwl : l[i]? = some w := by rw [← List.head?_drop, hr]; rfl
    have hr' : l.drop (i + 1) = r := by rw [← List.tail_drop, hr]; rfl
    obtain ⟨go, yl⟩ := (hJ i θ1 F1 H1 μ1 l x1.pre x1.sub S1 rfl).2 w hwl
    refine .inr ⟨go, St1 r, fun H2 h2 => ⟨r.length, by simp, r, rfl, hr', h2⟩, fun v H2 y => ?_⟩
    obtain ⟨F2, x2, S2, r2⟩ := yl v H2 y
    have E2 : SimE K θ1 F2 (wipe σ vs) (wipeW ρ vs) := (E.mono (x1.trans x2).pre (x1.trans x2).sub).wipe vs
    have keepD : ∀ {θ' : List Addr} {F' H' : Hp}, Ext θ1 F1 H1 θ' F' H' → H' D = some (.dK gs) ∧ D ∉ θ' ∧ F' D = none := fun {θ' F' H'} x => by
      refine ⟨x.frame D _ hH nθ, fun m => ?_, ?_⟩
      · rcases x.fresh D m with z | z
        · exact nθ z
        · rw [hH] at z; cases z
      · cases q : F' D with
        | none => rfl
        | some o =>
          rcases x.news D o q with z | z | z
          · rw [nF] at z; cases z
          · rw [hH] at z; cases z
          · exact absurd z nθ
    refine hw v σ H2 _ ?_
    refine hg v w _ H2 _ θ1 F2 _ μ1 S2 E2 r2 ?_
    cases eg : mg w (wipeW ρ vs) μ1 with
    | no => rw [eg] at ok1; exact ok1.elim
    | er c μ2 => rw [eg] at ok1; exact ok1.elim
    | ok ρ3 μ3 =>
      rw [eg] at ok1
      intro θ3 F3 H3 σ3 x3 S3 E3
      refine ht σ3 H3 _ θ3 F3 ρ3 μ3 S3 E3 ?_
      dsimp only at ok1
      cases et : mt ρ3 μ3 with
      | no => rw [et] at ok1; exact ok1.elim
      | er c μ4 => rw [et] at ok1; exact ok1.elim
      | ok b μ4 =>
        rw [et] at ok1
        intro θ4 F4 H4 b' x4 S4 hb
        have hb : b' = b := hb
        subst hb
        cases b' with
        | false =>
          rw [if_neg Bool.false_ne_true]
          have x14 := (x2.trans x3).trans x4
          obtain ⟨d1, d2, d3⟩ := keepD x14
          exact ⟨θ4, F4, μ4, gs, acc, x1.trans x14, S4, d3, d2, d1, ra.mono x14.pre x14.sub, ok1⟩
        | true =>
          rw [if_pos rfl]
          refine hk σ3 H4 _ θ4 F4 ρ3 μ4 S4 (E3.mono x4.pre x4.sub) ?_
          dsimp only at ok1
          cases ek : mk ρ3 μ4 with
          | no => rw [ek] at ok1; exact ok1.elim
          | er c μ5 => rw [ek] at ok1; exact ok1.elim
          | ok yw μ5 =>
            rw [ek] at ok1
            intro θ5 F5 H5 yv x5 S5 r5
            refine he σ3 H5 _ θ5 F5 ρ3 μ5 S5 (E3.mono (x4.trans x5).pre (x4.trans x5).sub) ?_
            dsimp only at ok1
            cases ee : me ρ3 μ5 with
            | no => rw [ee] at ok1; exact ok1.elim
            | er c μ6 => rw [ee] at ok1; exact ok1.elim
            | ok zw μ6 =>
              rw [ee] at ok1
              intro θ6 F6 H6 zv x6 S6 r6
              have x16 := (((x2.trans x3).trans x4).trans x5).trans x6
              obtain ⟨d1, d2, d3⟩ := keepD x16
              dsimp only at ok1
              split at ok1
              · rename_i k hk'
                split at ok1
                · rename_i hl
                  have ra6 := ra.mono x16.pre x16.sub
                  have ey := asK_rep r5 hk'
                  subst ey
                  refine ⟨gs, k, rfl, d1, by rw [ra6.length]; exact hl, θ6, F6, μ6, putK gs k zv, dPut acc k zw, ?_, S6.aside _ d3 d2 (by rw [d1]; intro _ z; cases z), d3, d2, upd_same, ra6.put r6, ok1⟩
                  have x7 := x1.trans x16
                  refine ⟨x7.pre, x7.sub, fun b u e hb => ?_, x7.fresh, x7.news⟩
                  rw [upd_ne (ne_of_none e hD)]
                  exact x7.frame b u e hb
                · exact ok1.elim
              · exact ok1.elim
theorem ped_dcC {kx vx : Expr} {wi : TI} {mi : IM} (hc : X.calm = true) (hN : X.N.Nodup) (hi : PID X Wx tg iter wi mi) (ok : BlkOk X.N X.env.scope scope own) (hw : GOwn g (own.map (·.2)))
    (hg : ∀ (s : Shared) (H : Hp) (C : Addr) (cl : List (Str × Addr)) (fp : List Addr), PGD (X.blk s H scope (compEnvC scope cl C X.env) fp) W0 tg g mg) (ht : ∀ (s : Shared) (H : Hp) (C : Addr) (cl : List (Str × Addr)) (fp : List Addr), ∃ t, PTsD (X.blk s H scope (compEnvC scope cl C X.env) fp) W0 ifs t mt)
    (hk : ∀ (s : Shared) (H : Hp) (C : Addr) (cl : List (Str × Addr)) (fp : List Addr), ∃ t, PED (X.blk s H scope (compEnvC scope cl C X.env) fp) W0 kx t mk)
    (he : ∀ (s : Shared) (H : Hp) (C : Addr) (cl : List (Str × Addr)) (fp : List Addr), ∃ t, PED (X.blk s H scope (compEnvC scope cl C X.env) fp) W0 vx t me) (hs : ∀ x, foldedSetIterable iter X.env x = pure x := by intro _; rfl) :
    PED X Wx (.DictComp kx vx [⟨tg, iter, ifs, 0⟩] scope pos) (tDc wi g (tOf X.K W0 REq mt) (tOf X.K W0 (Rep X.K) mk) (tOf X.K W0 (Rep X.K) me) (own.map (·.2))) (eDc mi (own.map (·.2)) mg mt mk me) := by
  have ht' := fun s H C cl fp => (ht s H C cl fp).choose_spec.can
  have hk' := fun s H C cl fp => (hk s H C cl fp).choose_spec.can
  have he' := fun s H C cl fp => (he s H C cl fp).choose_spec.can
  refine ⟨pe_dc hc hN hi.pi ok (fun s H C cl fp => (hg s H C cl fp).pg) (fun s H C cl fp => (ht' s H C cl fp).pt) (fun s H C cl fp => (hk' s H C cl fp).pe) (fun s H C cl fp => (he' s H C cl fp).pe) hs, fun σ H Q θ F ρ μ S E okk => ?_⟩
  have hg0 := (hg X.s_0 X.H_0 0 [] []).ad
  have ht0 := (ht' X.s_0 X.H_0 0 [] []).ad
  have hk0 := (hk' X.s_0 X.H_0 0 [] []).ad
  have he0 := (he' X.s_0 X.H_0 0 [] []).ad
  refine hi.ad.use S E okk fun θ1 F1 H1 μ1 J it x1 S1 E1 hJ ok1 => ?_
  cases it with
  | seq l => exact ad_dc (l := l) (ρ := ρ) hw hg0 ht0 hk0 he0 hJ S1 E1 ok1
  | cell n => exact ok1.elim
end

/-! ### list(d), dict(d), dict(pairs), sorted(d) -/
section
variable {K : PySem.W.Frag}
def cListK : GC := fun ws μ => match ws with
  | [w] => match dAt μ w with
    | some (kvs, false) => .ok (.loc μ.length) (μ ++ [.lst (dKeys kvs)])
    | _ => .no
  | _ => .no
theorem adc_listK : AdC K rListD cListK := by
  intro vs ws E Q H θ F μ S rs ok
  unfold cListK at ok
  split at ok
  · split at ok
    · rename_i w kvs h
      obtain ⟨v, rfl, r⟩ := rep1 rs
      obtain ⟨n, rfl, h3⟩ := dAt_loc h
      obtain ⟨a, gs, rfl, h4, h5, h6⟩ := dk_rep S r h3
      refine ⟨a, gs, rfl, h5.2, fun q hq => ?_⟩
      obtain ⟨S1, x1, r1⟩ := new_cell S h6.keysW hq
      exact ok _ _ _ _ x1 S1 r1
    · exact ok.elim
  · exact ok.elim
/-- sorted(list(d)), list(d) as a frozen value -/
def cListKF : GC := fun ws μ => match ws with
  | [w] => match dAt μ w with
    | some (kvs, false) => .ok (.lst (dKeys kvs)) μ
    | _ => .no
  | _ => .no
theorem adc_listKF : AdC K rListD cListKF := by
  intro vs ws E Q H θ F μ S rs ok
  unfold cListKF at ok
  split at ok
  · split at ok
    · rename_i w kvs h
      obtain ⟨v, rfl, r⟩ := rep1 rs
      obtain ⟨n, rfl, h3⟩ := dAt_loc h
      obtain ⟨a, gs, rfl, h4, h5, h6⟩ := dk_rep S r h3
      refine ⟨a, gs, rfl, h5.2, fun q hq => ?_⟩
      obtain ⟨S1, x1⟩ := S.froze (.lst (gs.map fun kv => kV kv.1)) hq
      exact ok _ _ _ _ x1 S1 (.lst upd_same (h6.keysW.mono (List.prefix_refl _) (sub_upd (S.outF hq))))
    · exact ok.elim
  · exact ok.elim
def cDictD : GC := fun ws μ => match ws with
  | [w] => match dAt μ w with
    | some (kvs, _) => .ok (.loc μ.length) (μ ++ [.dK kvs false])
    | _ => .no
  | _ => .no
def rDictD : List V → Hp → VK → Prop := fun xs H Q => ∃ a kvs, xs = [.ref a] ∧ Rd H a (.dK kvs) ∧ ∀ p, H p = none → Q (.ref p) (upd H p (.dK kvs))
theorem call_dictD {X : Cx} : CallR X (.type "dict") rDictD := by
  intro pins s σ H xs us Q I r h
  obtain ⟨a, kvs, ex, hd, q⟩ := h
  subst ex
  obtain ⟨u, eu, rx⟩ := vals1 r
  subst eu
  cases rx
  exact d_copyOf I hd fun p s' hp I' => ⟨.ref p, _, I', rfl, q p hp⟩
theorem adc_dictD : AdC K rDictD cDictD := by
  intro vs ws E Q H θ F μ S rs ok
  unfold cDictD at ok
  split at ok
  · split at ok
    · rename_i w kvs lk h
      obtain ⟨v, rfl, r⟩ := rep1 rs
      obtain ⟨n, rfl, h3⟩ := dAt_loc h
      obtain ⟨a, gs, rfl, h4, h5, h6⟩ := dk_rep S r h3
      refine ⟨a, gs, rfl, h5.rd, fun q hq => ?_⟩
      obtain ⟨S1, x1, r1⟩ := new_dk S h6 hq
      exact ok _ _ _ _ x1 S1 r1
    · exact ok.elim
  · exact ok.elim
def pairsK : List W → Option (List (Key × W))
  | [] => some []
  | .tup [x, y] :: r => match asK x, pairsK r with
    | some k, some ps => some ((k, y) :: ps)
    | _, _ => none
  | _ => none
def dMerge (kvs more : List (Key × W)) : List (Key × W) := more.foldl (fun acc kv => dPut acc kv.1 kv.2) kvs
theorem KvR.merge {θ : List Addr} {F : Hp} : ∀ {ms : List (Key × V)} {more : List (Key × W)} {gs : List (Key × V)} {kvs : List (Key × W)}, KvR K θ F ms more → KvR K θ F gs kvs → KvR K θ F (mergeK gs ms) (dMerge kvs more)
  | _, _, _, _, .nil, q => q
  | _, _, gs, kvs, .cons (k := k) (v := v) (w := w) (gs := ms) (kvs := more) r t, q => by
    show KvR K θ F (mergeK (putK gs k v) ms) (dMerge (dPut kvs k w) more)
    exact KvR.merge t (q.put r)
theorem pairsK_rep {θ : List Addr} {F H : Hp} (sub : Sub F H) : ∀ {vs : List V} {l : List W} {more : List (Key × W)}, RepAll K θ F vs l → pairsK l = some more → ∃ (ps : List Addr) (ms : List (Key × V)), vs = ps.map V.ref ∧ Paired (fun p kv => SqT K H p [kV kv.1, kv.2]) ps ms ∧ KvR K θ F ms more := by
  intro vs l
  induction l generalizing vs with
  | nil => intro more q h; cases q; cases h; exact ⟨[], [], rfl, .nil, .nil⟩
  | cons w l ih =>
    intro more q h
    cases q with
    | cons r t =>
      unfold pairsK at h
      split at h
      · rename_i e; cases e
      · rename_i x y r' e
        cases e
        split at h
        · rename_i k ps hk hp
          cases h
          obtain ⟨as, ms, rfl, p1, p2⟩ := ih t hp
          cases r with
          | tup hq q =>
            obtain ⟨u, z, rfl, r1, r2⟩ := rep2 q
            have eu := asK_rep r1 hk
            subst eu
            exact ⟨_ :: as, (k, z) :: ms, rfl, .cons (sub.sqT hq) p1, .cons r2 p2⟩
        · cases h
      · cases h
def cDictP : GC := fun ws μ => match ws with
  | [w] => match asL μ w with
    | some l => match pairsK l with
      | some more => .ok (.loc μ.length) (μ ++ [.dK (dMerge [] more) false])
      | none => .no
    | none => .no
  | _ => .no
theorem adc_dictP : AdC K (fun xs H Q => ∃ (a : Addr) (ps : List Addr) (kvs : List (Key × V)), xs = [.ref a] ∧ SqL K H a (ps.map V.ref) ∧ Paired (fun p kv => SqT K H p [kV kv.1, kv.2]) ps kvs ∧ ∀ p, H p = none → Q (.ref p) (upd H p (.dK (mergeK [] kvs)))) cDictP := by
  intro vs ws E Q H θ F μ S rs ok
  unfold cDictP at ok
  split at ok
  · split at ok
    · rename_i w l h
      split at ok
      · rename_i more hm
        obtain ⟨v, rfl, r⟩ := rep1 rs
        obtain ⟨a, vs, rfl, h1, q⟩ := asL_rep S r h
        obtain ⟨ps, ms, rfl, p1, p2⟩ := pairsK_rep S.sub q hm
        refine ⟨a, ps, ms, rfl, .of h1, p1, fun p hp => ?_⟩
        obtain ⟨S1, x1, r1⟩ := new_dk S (p2.merge .nil) hp
        exact ok _ _ _ _ x1 S1 r1
      · exact ok.elim
    · exact ok.elim
  · exact ok.elim

/-! ### sorted -/
def sortI (ns : List Int) : List Int := ns.mergeSort fun a b => decide (a ≤ b)
theorem sortI_uniq {l ns : List Int} (h : l.Pairwise (· ≤ ·)) (p : l.Perm ns) : l = sortI ns := by
  refine List.Perm.eq_of_pairwise (le := fun a b => decide (a ≤ b) = true) (fun a b _ _ h h' => Int.le_antisymm (by simpa using h) (by simpa using h')) (h.imp fun h => by simpa using h) ?_ (p.trans (List.mergeSort_perm _ _).symm)
  exact List.pairwise_mergeSort (fun a b c h h' => by simp at h h' ⊢; omega) (fun a b => by simp; omega) _
def wInts : List W → Option (List Int)
  | [] => some []
  | .int i :: r => (wInts r).map (i :: ·)
  | _ => none
theorem wInts_eq : ∀ {l : List W} {ns : List Int}, wInts l = some ns → l = ns.map W.int := by
  intro l
  induction l with
  | nil => intro ns h; cases h; rfl
  | cons w l ih =>
    intro ns h
    unfold wInts at h
    split at h
    · rename_i e; cases e
    · rename_i i r e
      cases e
      obtain ⟨ms, h1, rfl⟩ := Option.map_eq_some_iff.mp h
      rw [ih h1]; rfl
    · cases h
theorem wInts_map (ns : List Int) : wInts (ns.map W.int) = some ns := by
  induction ns with
  | nil => rfl
  | cons n ns ih => show (wInts (ns.map W.int)).map (n :: ·) = _; rw [ih]; rfl
def cSortI : GC := fun ws μ => match ws with
  | [w] => match asL μ w with
    | some l => match wInts l with
      | some ns => .ok (.lst ((sortI ns).map .int)) μ
      | none => .no
    | none => .no
  | _ => .no
theorem adc_sortI : AdC K (rSortedI K) cSortI := by
  intro vs ws E Q H θ F μ S rs ok
  unfold cSortI at ok
  split at ok
  · split at ok
    · rename_i w l h
      split at ok
      · rename_i ns hn
        obtain ⟨v, rfl, r⟩ := rep1 rs
        obtain ⟨a, vs, rfl, h1, q⟩ := asL_rep S r h
        rw [wInts_eq hn] at q
        have ev := RepAll.ints q
        subst ev
        refine ⟨a, ns, rfl, .of h1, fun ns' p hp hs hq => ?_⟩
        have e := sortI_uniq hs hp
        subst e
        obtain ⟨S1, x1⟩ := S.froze (.lst ((sortI ns).map V.int)) hq
        exact ok _ _ _ _ x1 S1 (.lst upd_same (RepAll.map_int _))
      · exact ok.elim
    · exact ok.elim
  · exact ok.elim
def kInts : List (Key × W) → Option (List Int)
  | [] => some []
  | (.inl i, _) :: r => (kInts r).map (i :: ·)
  | _ => none
theorem kInts_eq : ∀ {l : List (Key × W)} {ns : List Int}, kInts l = some ns → l.map (·.1) = ns.map Sum.inl := by
  intro l
  induction l with
  | nil => intro ns h; cases h; rfl
  | cons w l ih =>
    intro ns h
    unfold kInts at h
    split at h
    · rename_i e; cases e
    · rename_i i x r e
      cases e
      obtain ⟨ms, h1, rfl⟩ := Option.map_eq_some_iff.mp h
      rw [List.map_cons, ih h1]; rfl
    · cases h
def kStrs : List (Key × W) → Option (List Str)
  | [] => some []
  | (.inr i, _) :: r => (kStrs r).map (i :: ·)
  | _ => none
theorem kStrs_eq : ∀ {l : List (Key × W)} {ns : List Str}, kStrs l = some ns → l.map (·.1) = ns.map Sum.inr := by
  intro l
  induction l with
  | nil => intro ns h; cases h; rfl
  | cons w l ih =>
    intro ns h
    unfold kStrs at h
    split at h
    · rename_i e; cases e
    · rename_i i x r e
      cases e
      obtain ⟨ms, h1, rfl⟩ := Option.map_eq_some_iff.mp h
      rw [List.map_cons, ih h1]; rfl
    · cases h
def leS (a b : Str) : Bool := !ltCps b.cps.toList a.cps.toList
theorem leS_iff {a b : Str} : leS a b = true ↔ a.cps.toList ≤ b.cps.toList := by
  unfold leS
  rw [ltCps_eq]
  constructor
  · intro h; exact List.not_lt.mp (by simpa using h)
  · intro h; simpa using List.not_lt.mpr h
theorem str_ext {a b : Str} (h : a.cps.toList = b.cps.toList) : a = b := by
  cases a; cases b
  simp at h ⊢
  exact h
theorem leS_anti {a b : Str} (h : leS a b = true) (h' : leS b a = true) : a = b := str_ext (List.le_antisymm (leS_iff.mp h) (leS_iff.mp h'))
theorem leS_trans {a b c : Str} (h : leS a b = true) (h' : leS b c = true) : leS a c = true := leS_iff.mpr (List.le_trans (leS_iff.mp h) (leS_iff.mp h'))
theorem leS_total (a b : Str) : (leS a b || leS b a) = true := by
  rcases List.le_total a.cps.toList b.cps.toList with h | h
  · rw [leS_iff.mpr h]; rfl
  · rw [leS_iff.mpr h, Bool.or_true]
def sortSt (ks : List Str) : List Str := ks.mergeSort leS
theorem risingS_pair : ∀ {l : List Str} {p : Str}, risingS p l = true → (p :: l).Pairwise fun a b => leS a b = true
  | [], p, _ => by simp
  | x :: r, p, h => by
    unfold risingS at h
    rw [Bool.and_eq_true] at h
    have ih := risingS_pair h.2
    have hpx : leS p x = true := h.1
    refine List.pairwise_cons.mpr ⟨fun b hb => ?_, ih⟩
    rcases List.mem_cons.mp hb with e | hb
    · rw [e]; exact hpx
    · exact leS_trans hpx ((List.pairwise_cons.mp ih).1 b hb)
theorem sortSt_uniq {l ks : List Str} (h : sortedS l = true) (p : l.Perm ks) : l = sortSt ks := by
  refine List.Perm.eq_of_pairwise (le := fun a b => leS a b = true) (fun a b _ _ h h' => leS_anti h h') ?_ ?_ (p.trans (List.mergeSort_perm _ _).symm)
  · cases l with
    | nil => exact .nil
    | cons x r => exact risingS_pair h
  · exact List.pairwise_mergeSort (le := leS) (fun a b c h h' => leS_trans h h') (fun a b => leS_total a b) _
def cSortK : GC := fun ws μ => match ws with
  | [w] => match dAt μ w with
    | some (kvs, _) => match kInts kvs with
      | some ns => if ns.length < 64 then .ok (.lst ((sortI ns).map .int)) μ else .no
      | none => match kStrs kvs with
        | some ks => if ks.length < 64 then .ok (.lst ((sortSt ks).map .str)) μ else .no
        | none => .no
    | none => .no
  | _ => .no
def rSortK : List V → Hp → VK → Prop := fun xs H Q => (∃ (a : Addr) (kvs : List (Key × V)) (ks : List Str), xs = [.ref a] ∧ Rd H a (.dK kvs) ∧ kvs.map (·.1) = ks.map Sum.inr ∧ ks.length < 64 ∧
    ∀ ys p, ys.Perm ks → sortedS ys = true → H p = none → Q (.ref p) (upd H p (.lst (ys.map V.str)))) ∨ (∃ (a : Addr) (kvs : List (Key × V)) (ks : List Int), xs = [.ref a] ∧ Rd H a (.dK kvs) ∧ kvs.map (·.1) = ks.map Sum.inl ∧ ks.length < 64 ∧
    ∀ (ys : List Int) (p : Addr), ys.Perm ks → ys.Pairwise (· ≤ ·) → H p = none → Q (.ref p) (upd H p (.lst (ys.map V.int))))
theorem call_sortK {X : Cx} (hcalm : X.calm = true) : CallR X (.builtin "sorted") rSortK := CallR.or (call_sortedD hcalm) (call_sortedDI hcalm)
theorem RepAll.map_str {θ : List Addr} {F : Hp} (ns : List Str) : RepAll K θ F (ns.map V.str) (ns.map W.str) := by
  induction ns with
  | nil => exact .nil
  | cons n ns ih => exact .cons (.str n) ih
theorem adc_sortK : AdC K rSortK cSortK := by
  intro vs ws E Q H θ F μ S rs ok
  unfold cSortK at ok
  split at ok
  · split at ok
    · rename_i w kvs lk h
      obtain ⟨v, rfl, r⟩ := rep1 rs
      obtain ⟨n, rfl, h3⟩ := dAt_loc h
      obtain ⟨a, gs, rfl, h4, h5, h6⟩ := dk_rep S r h3
      split at ok
      · rename_i ns hn
        split at ok
        · rename_i hz
          refine .inr ⟨a, gs, ns, rfl, h5.rd, by rw [h6.keys, kInts_eq hn], hz, fun ys p hp hs hq => ?_⟩
          have e := sortI_uniq hs hp
          subst e
          obtain ⟨S1, x1⟩ := S.froze (.lst ((sortI ns).map V.int)) hq
          exact ok _ _ _ _ x1 S1 (.lst upd_same (RepAll.map_int _))
        · exact ok.elim
      · split at ok
        · rename_i ks hk
          split at ok
          · rename_i hz
            refine .inl ⟨a, gs, ks, rfl, h5.rd, by rw [h6.keys, kStrs_eq hk], hz, fun ys p hp hs hq => ?_⟩
            have e := sortSt_uniq hs hp
            subst e
            obtain ⟨S1, x1⟩ := S.froze (.lst ((sortSt ks).map V.str)) hq
            exact ok _ _ _ _ x1 S1 (.lst upd_same (RepAll.map_str _))
          · exact ok.elim
        · exact ok.elim
    · exact ok.elim
  · exact ok.elim
end

/-! ### texts -/
def signsW (x : Str) : List W := x.cps.toList.map fun c => .str ⟨#[c]⟩
theorem impl_str {K : PySem.W.Frag} {θ : List Addr} {F : Hp} (x : Str) : Impl K θ F (Its x) (.seq (signsW x)) := by
  intro i θ1 F1 H1 μ1 l' p e S hi
  cases hi
  have hl : (signsW x).length = x.cps.size := by unfold signsW; rw [List.length_map, Array.length_toList]
  refine ⟨fun h => by rw [hl] at h; exact h, fun w hw => ?_⟩
  have hlt : i < x.cps.size := by rw [← hl]; exact (List.getElem?_eq_some_iff.mp hw).1
  refine ⟨hlt, fun v H2 y => ?_⟩
  obtain ⟨rfl, c, e1, rfl⟩ := y
  unfold signsW at hw
  rw [List.getElem?_map, Array.getElem?_toList, e1] at hw
  cases hw
  exact ⟨F1, .refl _ _ _, S, .str _⟩
def iStrM (m : EM) : IM := fun ρ μ => (m ρ μ).bind fun w μ1 => match w with
  | .str x => .ok (.seq (signsW x)) μ1
  | _ => .no
theorem pid_str {X : Cx} {Wx : WX} {tg e : Expr} {te : TE} {m : EM} (h : PED X Wx e te m) : PID X Wx tg e (iStr te) (iStrM m) := by
  refine ⟨pi_str h.pe, fun σ H R θ F ρ μ S E ok => ?_⟩
  refine h.ad.use S E ok fun θ1 F1 H1 μ1 v w x1 S1 E1 r ok1 => ?_
  split at ok1
  · rename_i x
    cases r
    exact ⟨x, rfl, ok1.here S1 (impl_str x)⟩
  · exact ok1.elim
def gInS : GOp := fun x y μ => match x, y with
  | .str s, .str z => match s.cps.toList with
    | [c] => .ok (.bl (decide (c ∈ z.cps.toList))) μ
    | _ => .no
  | _, _ => .no
theorem ad_inS {K : PySem.W.Frag} : AdOp K (fun x y H Q => ∃ (c : Nat) (z : Str), x = .str ⟨#[c]⟩ ∧ y = .str z ∧ Q (.bl (decide (c ∈ z.cps.toList))) H) gInS := by
  intro x y wx wy E Q H θ F μ S rx ry ok
  unfold gInS at ok
  split at ok
  · rename_i s z
    split at ok
    · rename_i c hc
      cases rx; cases ry
      have e : s = ⟨#[c]⟩ := str_ext hc
      subst e
      exact ⟨c, z, rfl, rfl, ok.here S (.bl _)⟩
    · exact ok.elim
  · exact ok.elim
def gLtS : GOp := fun x y μ => match x, y with
  | .str s, .str z => .ok (.bl (decide (s.cps.toList < z.cps.toList))) μ
  | _, _ => .no
theorem ad_ltS {K : PySem.W.Frag} : AdOp K (fun x y H Q => ∃ i j, x = .str i ∧ y = .str j ∧ Q (.bl (decide (i.cps.toList < j.cps.toList))) H) gLtS := by
  intro x y wx wy E Q H θ F μ S rx ry ok
  unfold gLtS at ok
  split at ok
  · rename_i s z
    cases rx; cases ry
    exact ⟨s, z, rfl, rfl, ok.here S (.bl _)⟩
  · exact ok.elim
/-- xs[::-1] -/
def eRevF (m : EM) : EM := fun ρ μ => (m ρ μ).bind fun w μ1 => match asL μ1 w with
  | some l => .ok (.lst l.reverse) μ1
  | none => .no
theorem ped_revF {X : Cx} {Wx : WX} {e : Expr} {te : TE} {m : EM} {k : Nat} {p1 p2 p3 pos : Pos} (h : PED X Wx e te m) : PED X Wx (.Subscript e (.Slice none none (some (.UnaryOp .USub (.Constant (.int 1) k p1) p2)) p3) pos) (L2.tRevL X.K te) (eRevF m) := by
  refine ⟨L2.pe_revL h.pe, fun σ H Q θ F ρ μ S E ok => ?_⟩
  refine h.ad.use S E ok fun θ1 F1 H1 μ1 v w x1 S1 E1 r ok1 => ?_
  split at ok1
  · rename_i l hl
    obtain ⟨a, vs, rfl, ha, q⟩ := asL_rep S1 r hl
    refine ⟨a, vs, rfl, .of ha, fun d hd => ?_⟩
    obtain ⟨S2, x2⟩ := S1.froze (.lst vs.reverse) hd
    exact ok1 _ _ _ _ x2 S2 (.lst upd_same (q.reverse.mono (List.prefix_refl _) (sub_upd (S1.outF hd))))
  · exact ok1.elim
end PD
/-! attributes as targets within a tuple -/
namespace PD
open PySem PySem.Spec PyProof.Rows L2
variable [Tbs]
section
variable {X : Cx} {Wx : WX} {o : Expr} {to : TE} {mo : EM} {fl : Str} {C : Addr} {pos : Pos}
def gFldT (K : PySem.W.Frag) (C : Addr) (fl : Str) (to : TE) : TG := fun v σ H Q => to σ H fun x H1 => ∃ a dx fs, x = .ref a ∧ H1 a = some (.ins C dx fs) ∧ fs.length < 1000 ∧ Q σ (upd H1 a (.ins C dx (putF fl v fs)))
theorem pg_fldT (c : Cls X.K C) (n : NoAttr X.K C fl) (ho : PE X o to) : PG X (.Attribute o fl pos) (gFldT X.K C fl to) := by
  refine ⟨fun pins s σ H v u Q I r h => ?_⟩
  rw [assign_Attribute]
  refine wpAny_bind (wpAny_holding (thn (ho.run pins s σ H _ I h) fun ov s1 ⟨x, H1, I1, r1, a, dx, fs, ex, ea, hl, q1⟩ => ?_))
  subst ex
  obtain rfl : ov = Value.ref a := r1
  refine wpAny_bind (wpAny_standAt (wpAny_bind (wpAny_holding (setattr_ok I1 ea c n hl r fun s3 I3 => ?_))))
  exact wpAny_release ⟨σ, _, I3, q1⟩
def gFldS (C : Addr) (fl : Str) (mo : EM) : W → Env → Mu → Out Env := fun w ρ μ => (mo ρ μ).bind fun x μ1 => match setFld C fl w μ1 x with
  | some μ2 => .ok ρ μ2
  | none => .no
theorem pgd_fldT (c : Cls X.K C) (n : NoAttr X.K C fl) (ho : PED X Wx o to mo) : PGD X Wx (.Attribute o fl pos) (gFldT X.K C fl to) (gFldS C fl mo) := by
  refine ⟨pg_fldT c n ho.pe, fun v w σ H Q θ F ρ μ S E r ok => ?_⟩
  refine ho.ad.use S E ok fun θ1 F1 H1 μ1 x xw x1 S1 E1 r1 ok1 => ?_
  split at ok1
  · rename_i μ2 h2
    obtain ⟨a, dx, gs, rfl, h3, h4, S2, x2⟩ := setFld_rep S1 r1 (r.mono x1.pre x1.sub) h2
    exact ⟨a, dx, gs, rfl, h3, h4, ok1 _ _ _ _ x2 S2 (E1.mono x2.pre x2.sub)⟩
  · exact ok1.elim
theorem ner_fldT (ho : ∀ ρ μ c μ', mo ρ μ ≠ .er c μ') : ∀ w ρ μ c μ', gFldS C fl mo w ρ μ ≠ .er c μ' := fun w ρ μ c μ' h => by
  unfold gFldS at h
  cases e : mo ρ μ with
  | no => rw [e] at h; cases h
  | er c1 μ1 => exact ho _ _ _ _ e
  | ok x μ1 =>
    rw [e] at h
    dsimp only [Out.bind] at h
    split at h <;> cases h
end
end PD
namespace K76
open PySem PySem.Spec PyProof.Rows L2 PD
variable [Tbs]
def top (i : Nat) : Stmt := PySem.Challenge.pw_pathsallowed_k76_whole_yards_that_crash.main.body.getD i (.Pass ⟨0, 0, 0, 0⟩)
abbrev t_is_number : Stmt := top 8
abbrev t_is_word : Stmt := top 12
abbrev t_are_cells : Stmt := top 15
abbrev t_Yard_init : Stmt := inClass (top 16) 0
abbrev t_Yard_text : Stmt := inClass (top 16) 1
abbrev t_Yard_works : Stmt := inClass (top 16) 2
abbrev t_Yard_begin : Stmt := inClass (top 16) 3
abbrev t_Yard_rows_of : Stmt := inClass (top 16) 4
abbrev t_Yard_put : Stmt := inClass (top 16) 5
abbrev t_Yard_end : Stmt := inClass (top 16) 6
abbrev t_Yard_drop : Stmt := inClass (top 16) 7
abbrev t_Yard_sync : Stmt := inClass (top 16) 8
abbrev t_Yard_flush : Stmt := inClass (top 16) 9
abbrev t_Yard_waiting : Stmt := inClass (top 16) 10
abbrev t_Yard_crashed : Stmt := inClass (top 16) 11
abbrev t_Yard_mended : Stmt := inClass (top 16) 12
abbrev t_law_draws : Stmt := top 18
abbrev t_law_take : Stmt := top 19
abbrev t_law_alike : Stmt := top 20
abbrev t_law_word : Stmt := top 21
abbrev t_law_tried : Stmt := top 22
abbrev t_law_crashed : Stmt := top 23
abbrev t_law_behind : Stmt := top 24
abbrev t_law : Stmt := top 25
structure Adr where
  PathError : Addr
  OutOfRange : Addr
  Malformed : Addr
  NotThere : Addr
  Refused : Addr
  TooMuch : Addr
  Yard : Addr
structure Txt (K : PySem.W.Frag) (mg : Str → Option Value) (A : Adr) : Prop where
  n_bool : mg "bool" = none
  n_isinstance : mg "isinstance" = none
  n_int : mg "int" = none
  n_all : mg "all" = none
  n_len : mg "len" = none
  n_str : mg "str" = none
  n_range : mg "range" = none
  n_tuple : mg "tuple" = none
  n_sorted : mg "sorted" = none
  n_dict : mg "dict" = none
  n_list : mg "list" = none
  n_reversed : mg "reversed" = none
  n_abs : mg "abs" = none
  c_MOST_WORD : ∃ t, mg "MOST_WORD" = some (.int 6 t)
  c_LETTERS : ∃ t, mg "LETTERS" = some (.str "abcdefghijklmnopqrstuvwxyz" t)
  c_MOST_CELLS : ∃ t, mg "MOST_CELLS" = some (.int 60 t)
  e_PathError : EOk K mg "PathError" A.PathError
  e_OutOfRange : EOk K mg "OutOfRange" A.OutOfRange
  e_Malformed : EOk K mg "Malformed" A.Malformed
  e_NotThere : EOk K mg "NotThere" A.NotThere
  e_Refused : EOk K mg "Refused" A.Refused
  e_TooMuch : EOk K mg "TooMuch" A.TooMuch
  cl_Yard : Cls K A.Yard
  no_Yard_begun : NoAttr K A.Yard "begun"
  no_Yard_disk : NoAttr K A.Yard "disk"
  no_Yard_hand : NoAttr K A.Yard "hand"
  no_Yard_log : NoAttr K A.Yard "log"
  no_Yard_many : NoAttr K A.Yard "many"
  no_Yard_safe : NoAttr K A.Yard "safe"
  ec_OutOfRange : ExcC K A.OutOfRange
  sp_OutOfRange : PySem.W.subIn K (.ref A.OutOfRange) (.ref A.PathError) = some true
  sub_OutOfRange_OutOfRange : PySem.W.subIn K (.ref A.OutOfRange) (.ref A.OutOfRange) = some true
  sub_OutOfRange_Malformed : PySem.W.subIn K (.ref A.OutOfRange) (.ref A.Malformed) = some false
  sub_OutOfRange_NotThere : PySem.W.subIn K (.ref A.OutOfRange) (.ref A.NotThere) = some false
  sub_OutOfRange_Refused : PySem.W.subIn K (.ref A.OutOfRange) (.ref A.Refused) = some false
  sub_OutOfRange_TooMuch : PySem.W.subIn K (.ref A.OutOfRange) (.ref A.TooMuch) = some false
  ec_Malformed : ExcC K A.Malformed
  sp_Malformed : PySem.W.subIn K (.ref A.Malformed) (.ref A.PathError) = some true
  sub_Malformed_OutOfRange : PySem.W.subIn K (.ref A.Malformed) (.ref A.OutOfRange) = some false
  sub_Malformed_Malformed : PySem.W.subIn K (.ref A.Malformed) (.ref A.Malformed) = some true
  sub_Malformed_NotThere : PySem.W.subIn K (.ref A.Malformed) (.ref A.NotThere) = some false
  sub_Malformed_Refused : PySem.W.subIn K (.ref A.Malformed) (.ref A.Refused) = some false
  sub_Malformed_TooMuch : PySem.W.subIn K (.ref A.Malformed) (.ref A.TooMuch) = some false
  ec_NotThere : ExcC K A.NotThere
  sp_NotThere : PySem.W.subIn K (.ref A.NotThere) (.ref A.PathError) = some true
  sub_NotThere_OutOfRange : PySem.W.subIn K (.ref A.NotThere) (.ref A.OutOfRange) = some false
  sub_NotThere_Malformed : PySem.W.subIn K (.ref A.NotThere) (.ref A.Malformed) = some false
  sub_NotThere_NotThere : PySem.W.subIn K (.ref A.NotThere) (.ref A.NotThere) = some true
  sub_NotThere_Refused : PySem.W.subIn K (.ref A.NotThere) (.ref A.Refused) = some false
  sub_NotThere_TooMuch : PySem.W.subIn K (.ref A.NotThere) (.ref A.TooMuch) = some false
  ec_Refused : ExcC K A.Refused
  sp_Refused : PySem.W.subIn K (.ref A.Refused) (.ref A.PathError) = some true
  sub_Refused_OutOfRange : PySem.W.subIn K (.ref A.Refused) (.ref A.OutOfRange) = some false
  sub_Refused_Malformed : PySem.W.subIn K (.ref A.Refused) (.ref A.Malformed) = some false
  sub_Refused_NotThere : PySem.W.subIn K (.ref A.Refused) (.ref A.NotThere) = some false
  sub_Refused_Refused : PySem.W.subIn K (.ref A.Refused) (.ref A.Refused) = some true
  sub_Refused_TooMuch : PySem.W.subIn K (.ref A.Refused) (.ref A.TooMuch) = some false
  ec_TooMuch : ExcC K A.TooMuch
  sp_TooMuch : PySem.W.subIn K (.ref A.TooMuch) (.ref A.PathError) = some true
  sub_TooMuch_OutOfRange : PySem.W.subIn K (.ref A.TooMuch) (.ref A.OutOfRange) = some false
  sub_TooMuch_Malformed : PySem.W.subIn K (.ref A.TooMuch) (.ref A.Malformed) = some false
  sub_TooMuch_NotThere : PySem.W.subIn K (.ref A.TooMuch) (.ref A.NotThere) = some false
  sub_TooMuch_Refused : PySem.W.subIn K (.ref A.TooMuch) (.ref A.Refused) = some false
  sub_TooMuch_TooMuch : PySem.W.subIn K (.ref A.TooMuch) (.ref A.TooMuch) = some true
def IsE (A : Adr) (c : Addr) : Prop := c = A.OutOfRange ∨ c = A.Malformed ∨ c = A.NotThere ∨ c = A.Refused ∨ c = A.TooMuch
def wd (A : Adr) (c : Addr) : Option W := if c = A.OutOfRange then some (.str "range") else if c = A.Malformed then some (.str "form") else if c = A.NotThere then some (.str "none") else if c = A.Refused then some (.str "refused") else if c = A.TooMuch then some (.str "much") else none
def hit (A : Adr) (c : Addr) : Option Bool := if c = A.OutOfRange ∨ c = A.Malformed ∨ c = A.NotThere ∨ c = A.Refused ∨ c = A.TooMuch then some true else none
section
variable {K : PySem.W.Frag} {mg : Str → Option Value} {A : Adr}
theorem Txt.ne_OutOfRange_Malformed (T : Txt K mg A) : A.OutOfRange ≠ A.Malformed := fun e => by
  have h := T.sub_OutOfRange_Malformed
  rw [e, T.sub_Malformed_Malformed] at h
  cases h
theorem Txt.ne_OutOfRange_NotThere (T : Txt K mg A) : A.OutOfRange ≠ A.NotThere := fun e => by
  have h := T.sub_OutOfRange_NotThere
  rw [e, T.sub_NotThere_NotThere] at h
  cases h
theorem Txt.ne_OutOfRange_Refused (T : Txt K mg A) : A.OutOfRange ≠ A.Refused := fun e => by
  have h := T.sub_OutOfRange_Refused
  rw [e, T.sub_Refused_Refused] at h
  cases h
theorem Txt.ne_OutOfRange_TooMuch (T : Txt K mg A) : A.OutOfRange ≠ A.TooMuch := fun e => by
  have h := T.sub_OutOfRange_TooMuch
  rw [e, T.sub_TooMuch_TooMuch] at h
  cases h
theorem Txt.ne_Malformed_OutOfRange (T : Txt K mg A) : A.Malformed ≠ A.OutOfRange := fun e => by
  have h := T.sub_Malformed_OutOfRange
  rw [e, T.sub_OutOfRange_OutOfRange] at h
  cases h
theorem Txt.ne_Malformed_NotThere (T : Txt K mg A) : A.Malformed ≠ A.NotThere := fun e => by
  have h := T.sub_Malformed_NotThere
  rw [e, T.sub_NotThere_NotThere] at h
  cases h
theorem Txt.ne_Malformed_Refused (T : Txt K mg A) : A.Malformed ≠ A.Refused := fun e => by
  have h := T.sub_Malformed_Refused
  rw [e, T.sub_Refused_Refused] at h
  cases h
theorem Txt.ne_Malformed_TooMuch (T : Txt K mg A) : A.Malformed ≠ A.TooMuch := fun e => by
  have h := T.sub_Malformed_TooMuch
  rw [e, T.sub_TooMuch_TooMuch] at h
  cases h
theorem Txt.ne_NotThere_OutOfRange (T : Txt K mg A) : A.NotThere ≠ A.OutOfRange := fun e => by
  have h := T.sub_NotThere_OutOfRange
  rw [e, T.sub_OutOfRange_OutOfRange] at h
  cases h
theorem Txt.ne_NotThere_Malformed (T : Txt K mg A) : A.NotThere ≠ A.Malformed := fun e => by
  have h := T.sub_NotThere_Malformed
  rw [e, T.sub_Malformed_Malformed] at h
  cases h
theorem Txt.ne_NotThere_Refused (T : Txt K mg A) : A.NotThere ≠ A.Refused := fun e => by
  have h := T.sub_NotThere_Refused
  rw [e, T.sub_Refused_Refused] at h
  cases h
theorem Txt.ne_NotThere_TooMuch (T : Txt K mg A) : A.NotThere ≠ A.TooMuch := fun e => by
  have h := T.sub_NotThere_TooMuch
  rw [e, T.sub_TooMuch_TooMuch] at h
  cases h
theorem Txt.ne_Refused_OutOfRange (T : Txt K mg A) : A.Refused ≠ A.OutOfRange := fun e => by
  have h := T.sub_Refused_OutOfRange
  rw [e, T.sub_OutOfRange_OutOfRange] at h
  cases h
theorem Txt.ne_Refused_Malformed (T : Txt K mg A) : A.Refused ≠ A.Malformed := fun e => by
  have h := T.sub_Refused_Malformed
  rw [e, T.sub_Malformed_Malformed] at h
  cases h
theorem Txt.ne_Refused_NotThere (T : Txt K mg A) : A.Refused ≠ A.NotThere := fun e => by
  have h := T.sub_Refused_NotThere
  rw [e, T.sub_NotThere_NotThere] at h
  cases h
theorem Txt.ne_Refused_TooMuch (T : Txt K mg A) : A.Refused ≠ A.TooMuch := fun e => by
  have h := T.sub_Refused_TooMuch
  rw [e, T.sub_TooMuch_TooMuch] at h
  cases h
theorem Txt.ne_TooMuch_OutOfRange (T : Txt K mg A) : A.TooMuch ≠ A.OutOfRange := fun e => by
  have h := T.sub_TooMuch_OutOfRange
  rw [e, T.sub_OutOfRange_OutOfRange] at h
  cases h
theorem Txt.ne_TooMuch_Malformed (T : Txt K mg A) : A.TooMuch ≠ A.Malformed := fun e => by
  have h := T.sub_TooMuch_Malformed
  rw [e, T.sub_Malformed_Malformed] at h
  cases h
theorem Txt.ne_TooMuch_NotThere (T : Txt K mg A) : A.TooMuch ≠ A.NotThere := fun e => by
  have h := T.sub_TooMuch_NotThere
  rw [e, T.sub_NotThere_NotThere] at h
  cases h
theorem Txt.ne_TooMuch_Refused (T : Txt K mg A) : A.TooMuch ≠ A.Refused := fun e => by
  have h := T.sub_TooMuch_Refused
  rw [e, T.sub_Refused_Refused] at h
  cases h
theorem Txt.exc (T : Txt K mg A) {c : Addr} (h : IsE A c) : ExcC K c := by
  rcases h with rfl | rfl | rfl | rfl | rfl
  · exact T.ec_OutOfRange
  · exact T.ec_Malformed
  · exact T.ec_NotThere
  · exact T.ec_Refused
  · exact T.ec_TooMuch
theorem Txt.kit_OutOfRange (T : Txt K mg A) {c : Addr} (h : IsE A c) : PySem.W.kitOne K (.ref c) (.ref A.OutOfRange) = some (decide (c = A.OutOfRange)) := by
  rcases h with rfl | rfl | rfl | rfl | rfl
  · rw [decide_eq_true rfl]; exact kit_own T.e_OutOfRange.i T.e_OutOfRange.t T.sub_OutOfRange_OutOfRange fun _ => rfl
  · rw [decide_eq_false T.ne_Malformed_OutOfRange]; exact kit_own T.e_OutOfRange.i T.e_OutOfRange.t T.sub_Malformed_OutOfRange fun e => absurd e T.ne_Malformed_OutOfRange
  · rw [decide_eq_false T.ne_NotThere_OutOfRange]; exact kit_own T.e_OutOfRange.i T.e_OutOfRange.t T.sub_NotThere_OutOfRange fun e => absurd e T.ne_NotThere_OutOfRange
  · rw [decide_eq_false T.ne_Refused_OutOfRange]; exact kit_own T.e_OutOfRange.i T.e_OutOfRange.t T.sub_Refused_OutOfRange fun e => absurd e T.ne_Refused_OutOfRange
  · rw [decide_eq_false T.ne_TooMuch_OutOfRange]; exact kit_own T.e_OutOfRange.i T.e_OutOfRange.t T.sub_TooMuch_OutOfRange fun e => absurd e T.ne_TooMuch_OutOfRange
theorem Txt.kit_Malformed (T : Txt K mg A) {c : Addr} (h : IsE A c) : PySem.W.kitOne K (.ref c) (.ref A.Malformed) = some (decide (c = A.Malformed)) := by
  rcases h with rfl | rfl | rfl | rfl | rfl
  · rw [decide_eq_false T.ne_OutOfRange_Malformed]; exact kit_own T.e_Malformed.i T.e_Malformed.t T.sub_OutOfRange_Malformed fun e => absurd e T.ne_OutOfRange_Malformed
  · rw [decide_eq_true rfl]; exact kit_own T.e_Malformed.i T.e_Malformed.t T.sub_Malformed_Malformed fun _ => rfl
  · rw [decide_eq_false T.ne_NotThere_Malformed]; exact kit_own T.e_Malformed.i T.e_Malformed.t T.sub_NotThere_Malformed fun e => absurd e T.ne_NotThere_Malformed
  · rw [decide_eq_false T.ne_Refused_Malformed]; exact kit_own T.e_Malformed.i T.e_Malformed.t T.sub_Refused_Malformed fun e => absurd e T.ne_Refused_Malformed
  · rw [decide_eq_false T.ne_TooMuch_Malformed]; exact kit_own T.e_Malformed.i T.e_Malformed.t T.sub_TooMuch_Malformed fun e => absurd e T.ne_TooMuch_Malformed
theorem Txt.kit_NotThere (T : Txt K mg A) {c : Addr} (h : IsE A c) : PySem.W.kitOne K (.ref c) (.ref A.NotThere) = some (decide (c = A.NotThere)) := by
  rcases h with rfl | rfl | rfl | rfl | rfl
  · rw [decide_eq_false T.ne_OutOfRange_NotThere]; exact kit_own T.e_NotThere.i T.e_NotThere.t T.sub_OutOfRange_NotThere fun e => absurd e T.ne_OutOfRange_NotThere
  · rw [decide_eq_false T.ne_Malformed_NotThere]; exact kit_own T.e_NotThere.i T.e_NotThere.t T.sub_Malformed_NotThere fun e => absurd e T.ne_Malformed_NotThere
  · rw [decide_eq_true rfl]; exact kit_own T.e_NotThere.i T.e_NotThere.t T.sub_NotThere_NotThere fun _ => rfl
  · rw [decide_eq_false T.ne_Refused_NotThere]; exact kit_own T.e_NotThere.i T.e_NotThere.t T.sub_Refused_NotThere fun e => absurd e T.ne_Refused_NotThere
  · rw [decide_eq_false T.ne_TooMuch_NotThere]; exact kit_own T.e_NotThere.i T.e_NotThere.t T.sub_TooMuch_NotThere fun e => absurd e T.ne_TooMuch_NotThere
theorem Txt.kit_Refused (T : Txt K mg A) {c : Addr} (h : IsE A c) : PySem.W.kitOne K (.ref c) (.ref A.Refused) = some (decide (c = A.Refused)) := by
  rcases h with rfl | rfl | rfl | rfl | rfl
  · rw [decide_eq_false T.ne_OutOfRange_Refused]; exact kit_own T.e_Refused.i T.e_Refused.t T.sub_OutOfRange_Refused fun e => absurd e T.ne_OutOfRange_Refused
  · rw [decide_eq_false T.ne_Malformed_Refused]; exact kit_own T.e_Refused.i T.e_Refused.t T.sub_Malformed_Refused fun e => absurd e T.ne_Malformed_Refused
  · rw [decide_eq_false T.ne_NotThere_Refused]; exact kit_own T.e_Refused.i T.e_Refused.t T.sub_NotThere_Refused fun e => absurd e T.ne_NotThere_Refused
  · rw [decide_eq_true rfl]; exact kit_own T.e_Refused.i T.e_Refused.t T.sub_Refused_Refused fun _ => rfl
  · rw [decide_eq_false T.ne_TooMuch_Refused]; exact kit_own T.e_Refused.i T.e_Refused.t T.sub_TooMuch_Refused fun e => absurd e T.ne_TooMuch_Refused
theorem Txt.kit_TooMuch (T : Txt K mg A) {c : Addr} (h : IsE A c) : PySem.W.kitOne K (.ref c) (.ref A.TooMuch) = some (decide (c = A.TooMuch)) := by
  rcases h with rfl | rfl | rfl | rfl | rfl
  · rw [decide_eq_false T.ne_OutOfRange_TooMuch]; exact kit_own T.e_TooMuch.i T.e_TooMuch.t T.sub_OutOfRange_TooMuch fun e => absurd e T.ne_OutOfRange_TooMuch
  · rw [decide_eq_false T.ne_Malformed_TooMuch]; exact kit_own T.e_TooMuch.i T.e_TooMuch.t T.sub_Malformed_TooMuch fun e => absurd e T.ne_Malformed_TooMuch
  · rw [decide_eq_false T.ne_NotThere_TooMuch]; exact kit_own T.e_TooMuch.i T.e_TooMuch.t T.sub_NotThere_TooMuch fun e => absurd e T.ne_NotThere_TooMuch
  · rw [decide_eq_false T.ne_Refused_TooMuch]; exact kit_own T.e_TooMuch.i T.e_TooMuch.t T.sub_Refused_TooMuch fun e => absurd e T.ne_Refused_TooMuch
  · rw [decide_eq_true rfl]; exact kit_own T.e_TooMuch.i T.e_TooMuch.t T.sub_TooMuch_TooMuch fun _ => rfl
theorem Txt.hits (T : Txt K mg A) (c : Addr) (b : Bool) (h : hit A c = some b) : PySem.W.exmOne K (.ref c) (.ref A.PathError) = some b := by
  unfold hit at h
  split at h
  · rename_i hc
    cases h
    refine exm_own T.e_PathError.b T.e_PathError.i T.e_PathError.t ?_
    rcases hc with rfl | rfl | rfl | rfl | rfl
    · exact T.sp_OutOfRange
    · exact T.sp_Malformed
    · exact T.sp_NotThere
    · exact T.sp_Refused
    · exact T.sp_TooMuch
  · cases h
theorem wd_isE {c : Addr} (h : (wd A c).isSome = true) : IsE A c := by
  unfold wd at h
  unfold IsE
  split at h
  · exact .inl ‹_›
  split at h
  · exact .inr (.inl ‹_›)
  split at h
  · exact .inr (.inr (.inl ‹_›))
  split at h
  · exact .inr (.inr (.inr (.inl ‹_›)))
  split at h
  · exact .inr (.inr (.inr (.inr ‹_›)))
  · cases h
end
def N_is_number : List Str := ["value", "least", "most"]
theorem sc_is_number : FnScope N_is_number ["value", "least", "most"] (defScope t_is_number) := ⟨rfl, rfl, rfl, by decide +kernel, rfl, by decide +kernel, by decide +kernel⟩
noncomputable def s_is_number (A : Adr) : SM := (sRet (eAnd (eCall cIsi (aCons (eVar 0) (aCons (eC (.ty "int")) aNil))) (eAnd (eNot (eCall cIsi (aCons (eVar 0) (aCons (eC (.ty "bool")) aNil)))) (eChain gLe gLe (eVar 1) (eVar 0) (eVar 2)))))
noncomputable def f_is_number (A : Adr) : FM := runB N_is_number.length (s_is_number A)
theorem ok_is_number {P : Program} {w : World} {K : PySem.W.Frag} {mg : Str → Option Value} {base : Heap} {A : Adr} {a : Addr} {fd : FuncData} (T : Txt K mg A) (F : Fun K "is_number" "is_number" t_is_number a fd) : FnD P w K mg base 1 a fd ["value", "least", "most"] (f_is_number A) := by
  have h : FnD P w K mg base (0 + 1) a fd ["value", "least", "most"] (runB N_is_number.length (s_is_number A)) := by
    apply fnd_of F sc_is_number
    intro cdv A' outer s H E hr
    exact ⟨_, (by exact psd_one (by exact psd_ret (by exact ped_and (by exact ped_callB call_isi adc_isi rfl T.n_isinstance boot_isinstance (by exact pad_cons (pvd 0) (by exact pad_cons (by exact ped_ty (by exact rfl) T.n_int boot_int) pad_nil))) (by exact ped_and (by exact ped_not (by exact ped_callB call_isi adc_isi rfl T.n_isinstance boot_isinstance (by exact pad_cons (pvd 0) (by exact pad_cons (by exact ped_ty (by exact rfl) T.n_bool boot_bool) pad_nil)))) (by exact ped_one (by exact ped_chain op_le ad_le op_le ad_le (pvd 1) (pvd 0) (pvd 2)))))))⟩
  exact h
def N_is_word : List Str := ["value", "sign"]
theorem sc_is_word : FnScope N_is_word ["value"] (defScope t_is_word) := ⟨rfl, rfl, rfl, by decide +kernel, rfl, by decide +kernel, by decide +kernel⟩
noncomputable def s_is_word (A : Adr) : SM := (sRet (eAnd (eCall cIsi (aCons (eVar 0) (aCons (eC (.ty "str")) aNil))) (eAnd (eChain gLe gLe (eC (.int 1)) (eCall cLen (aCons (eVar 0) aNil)) (eC (.int 6))) (eGx true (iStrM (eVar 0)) [1] (gSet 1) bYes (eBin gInS (eVar 1) (eC (.str "abcdefghijklmnopqrstuvwxyz")))))))
noncomputable def f_is_word (A : Adr) : FM := runB N_is_word.length (s_is_word A)
theorem ok_is_word {P : Program} {w : World} {K : PySem.W.Frag} {mg : Str → Option Value} {base : Heap} {A : Adr} {a co ta : Addr} {fd : FuncData} (T : Txt K mg A) (F : FunC K "is_word" "is_word" t_is_word a fd co) (hP : ta ∈ Tbs.tabs) (TB : GxR.TabB base mg co ta) : FnD P w K mg base 2 a fd ["value"] (f_is_word A) := by
  have h : FnD P w K mg base (1 + 1) a fd ["value"] (runB N_is_word.length (s_is_word A)) := by
    apply fnd_ofC F sc_is_word
    intro A' outer s H E hr
    obtain ⟨_, C_MOST_WORD⟩ := T.c_MOST_WORD
    obtain ⟨_, C_LETTERS⟩ := T.c_LETTERS
    exact ⟨_, (by exact psd_one (by exact psd_ret (by exact ped_and (by exact ped_callB call_isi adc_isi rfl T.n_isinstance boot_isinstance (by exact pad_cons (pvd 0) (by exact pad_cons (by exact ped_ty (by exact rfl) T.n_str boot_str) pad_nil))) (by exact ped_and (by exact ped_chain op_le ad_le op_le ad_le ped_int (by exact ped_callB PD.cr_len adc_len rfl T.n_len boot_len (by exact pad_cons (pvd 0) pad_nil)) (by exact ped_gint (by exact rfl) C_MOST_WORD)) (by exact ped_one (by exact ped_all (own := [("sign", 1)]) (g := (gName 1)) (by exact hr) rfl sc_is_word.nd rfl T.n_all (by decide +kernel) hP TB rfl (gxOk_by (own := [("sign", 1)]) (N := N_is_word) (sc := defScope t_is_word) (by decide +kernel)) (by exact pid_str (pvd 0)) (gown_name (by decide)) (fun _ _ _ _ _ _ => (by exact pgd_name (i := 1) sc_is_word.nd rfl (Or.inl rfl))) (fun _ _ _ _ _ _ => ⟨_, ptsd_nil⟩) (fun _ _ _ _ _ _ => ⟨_, (by exact ped_cmp op_in_sign (by exact ad_inS) (pvd 1) (by exact ped_gstr (by exact rfl) C_LETTERS) rfl)⟩)))))))⟩
  exact h
def N_are_cells : List Str := ["value", "one", "at"]
theorem sc_are_cells : FnScope N_are_cells ["value"] (defScope t_are_cells) := ⟨rfl, rfl, rfl, by decide +kernel, rfl, by decide +kernel, by decide +kernel⟩
noncomputable def s_are_cells (A : Adr) : SM := (sSeq (sIf (bOr (bNot (eTru (eCall cIsi (aCons (eVar 0) (aCons (eC (.ty "tuple")) aNil))))) (bOr (bNot (eTest (eChain gLe gLe (eC (.int 1)) (eCall cLen (aCons (eVar 0) aNil)) (eC (.int 60))))) (bNot (eTru (eGx true (iSeq (eVar 0)) [1] (gSet 1) bYes (eFn 1 (f_is_word A) (aCons (eVar 1) aNil))))))) (sRet (eC (.bl false))) sNx)
 (sRet (eGx true (iRngB (aCons (eC (.int 1)) (aCons (eCall cLen (aCons (eVar 0) aNil)) aNil))) [2] (gSet 2) bYes (eBin gLtS (eBin gIx (eVar 0) (eBin gSub (eVar 2) (eC (.int 1)))) (eBin gIx (eVar 0) (eVar 2))))))
noncomputable def f_are_cells (A : Adr) : FM := runB N_are_cells.length (s_are_cells A)
theorem ok_are_cells {P : Program} {w : World} {K : PySem.W.Frag} {mg : Str → Option Value} {base : Heap} {A : Adr} {a a_is_word co ta : Addr} {fd fd_is_word : FuncData} (T : Txt K mg A) (F : FunC K "are_cells" "are_cells" t_are_cells a fd co) (D_is_word : DOk P w K mg base "is_word" 2 a_is_word fd_is_word ["value"] (f_is_word A)) (hP : ta ∈ Tbs.tabs) (TB : GxR.TabB base mg co ta) : FnD P w K mg base 4 a fd ["value"] (f_are_cells A) := by
  have h : FnD P w K mg base (3 + 1) a fd ["value"] (runB N_are_cells.length (s_are_cells A)) := by
    apply fnd_ofC F sc_are_cells
    intro A' outer s H E hr
    obtain ⟨_, C_MOST_CELLS⟩ := T.c_MOST_CELLS
    exact ⟨_, (by exact psd_cons (by exact psd_if (by exact PWD.pt (by exact pwd_or (by exact ptd_not (by exact ptd_truth (by exact ped_callB call_isi adc_isi rfl T.n_isinstance boot_isinstance (by exact pad_cons (pvd 0) (by exact pad_cons (by exact ped_ty (by exact rfl) T.n_tuple boot_tuple) pad_nil))))) (by exact pwd_or (by exact ptd_not (by exact ptd_chain op_le ad_le op_le ad_le ped_int (by exact ped_callB PD.cr_len adc_len rfl T.n_len boot_len (by exact pad_cons (pvd 0) pad_nil)) (by exact ped_gint (by exact rfl) C_MOST_CELLS))) (by exact pwd_or1 (by exact ptd_not (by exact ptd_truth (by exact ped_all (own := [("one", 1)]) (g := (gName 1)) (by exact hr) rfl sc_are_cells.nd rfl T.n_all (by decide +kernel) hP TB rfl (gxOk_by (own := [("one", 1)]) (N := N_are_cells) (sc := defScope t_are_cells) (by decide +kernel)) (by exact pid_seq (pvd 0)) (gown_name (by decide)) (fun _ _ _ _ _ _ => (by exact pgd_name (i := 1) sc_are_cells.nd rfl (Or.inl rfl))) (fun _ _ _ _ _ _ => ⟨_, ptsd_nil⟩) (fun _ _ _ _ _ _ => ⟨_, (by exact ped_fn (ps := ["value"]) (by exact D_is_word.F) (by exact Room.mono (room_gx hr) (by decide)) takes0N (by exact rfl) (by exact D_is_word.g) (by exact D_is_word.k) (by exact D_is_word.b) (by exact pad_cons (pvd 1) pad_nil))⟩)))))))) (by exact psd_one (by exact psd_ret ped_bl)) psd_nil) (by exact psd_one (by exact psd_ret (by exact ped_all (own := [("at", 2)]) (g := (gName 2)) (by exact hr) rfl sc_are_cells.nd rfl T.n_all (by decide +kernel) hP TB rfl (gxOk_by (own := [("at", 2)]) (N := N_are_cells) (sc := defScope t_are_cells) (by decide +kernel)) (by exact pid_rng2 rfl T.n_range (by exact pad_cons ped_int (by exact pad_cons (by exact ped_callB PD.cr_len adc_len rfl T.n_len boot_len (by exact pad_cons (pvd 0) pad_nil)) pad_nil))) (gown_name (by decide)) (fun _ _ _ _ _ _ => (by exact pgd_name (i := 2) sc_are_cells.nd rfl (Or.inl rfl))) (fun _ _ _ _ _ _ => ⟨_, ptsd_nil⟩) (fun _ _ _ _ _ _ => ⟨_, (by exact ped_cmp op_lt_str (by exact ad_ltS) (by exact ped_ix (pvd 0) (by exact ped_op op_sub ad_sub (pvd 2) ped_int)) (by exact ped_ix (pvd 0) (pvd 2)) (by exact nomark _))⟩)))))⟩
  exact h
def N_Yard_init : List Str := ["self", "names", "name"]
theorem sc_Yard_init : FnScope N_Yard_init ["self", "names"] (defScope t_Yard_init) := ⟨rfl, rfl, rfl, by decide +kernel, rfl, by decide +kernel, by decide +kernel⟩
noncomputable def s_Yard_init (A : Adr) : SM := (sSeq (sIf (bNot (eTru (eFn 1 (f_are_cells A) (aCons (eVar 1) aNil)))) (sRaise A.Malformed) sNx)
 (sSeq (sFldM A.Yard "hand" (eDc (iSeq (eVar 1)) [2] (gSet 2) bYes (eVar 2) (eC (.str ""))) (eVar 0))
 (sSeq (sFldM A.Yard "disk" (eDc (iSeq (eVar 1)) [2] (gSet 2) bYes (eVar 2) (eC (.str ""))) (eVar 0))
 (sSeq (sFldM A.Yard "log" (eNew aNil) (eVar 0))
 (sSeq (sFldM A.Yard "safe" (eC (.int 0)) (eVar 0))
 (sSeq (sFldM A.Yard "begun" eDNew (eVar 0))
 (sFldM A.Yard "many" (eC (.int 0)) (eVar 0))))))))
noncomputable def f_Yard_init (A : Adr) : FM := runB N_Yard_init.length (s_Yard_init A)
theorem ok_Yard_init {P : Program} {w : World} {K : PySem.W.Frag} {mg : Str → Option Value} {base : Heap} {A : Adr} {a a_are_cells : Addr} {fd fd_are_cells : FuncData} (T : Txt K mg A) (F : Fun K "__init__" "Yard.__init__" t_Yard_init a fd) (D_are_cells : DOk P w K mg base "are_cells" 4 a_are_cells fd_are_cells ["value"] (f_are_cells A)) : FnD P w K mg base 5 a fd ["self", "names"] (f_Yard_init A) := by
  have h : FnD P w K mg base (4 + 1) a fd ["self", "names"] (runB N_Yard_init.length (s_Yard_init A)) := by
    apply fnd_of F sc_Yard_init
    intro cdv A' outer s H E hr
    have HR_are_cells : Room 4 _ := hr.mono (by decide)
    exact ⟨_, (by exact psd_cons (by exact psd_if (by exact ptd_not (by exact ptd_truth (by exact ped_fn (ps := ["value"]) (by exact D_are_cells.F) (by exact HR_are_cells) (by exact L2N.takes_of rfl rfl rfl rfl) (by exact rfl) (by exact D_are_cells.g) (by exact D_are_cells.k) (by exact D_are_cells.b) (by exact pad_cons (pvd 1) pad_nil)))) (by exact psd_one (by exact psd_raise rfl (by exact L2N.takes_of rfl rfl rfl rfl) (L2N.pmk_own PySem.F.excBase_ValueError T.e_Malformed.xi T.e_Malformed.g T.e_Malformed.k (raises_own T.e_Malformed.b T.e_Malformed.t) (by exact rfl)))) psd_nil) (by exact psd_cons (by exact psd_fld T.cl_Yard T.no_Yard_hand (pvd 0) (by exact ped_dcC (own := [("name", 2)]) (g := (gName 2)) rfl sc_Yard_init.nd (by exact pid_seq (pvd 1)) (blkOk_by (own := [("name", 2)]) (N := N_Yard_init) (sc := defScope t_Yard_init) (by decide +kernel)) (gown_name (by decide)) (fun _ _ _ _ _ => (by exact pgd_name (i := 2) sc_Yard_init.nd rfl (Or.inl rfl))) (fun _ _ _ _ _ => ⟨_, ptsd_nil⟩) (fun _ _ _ _ _ => ⟨_, (pvd 2)⟩) (fun _ _ _ _ _ => ⟨_, ped_str⟩))) (by exact psd_cons (by exact psd_fld T.cl_Yard T.no_Yard_disk (pvd 0) (by exact ped_dcC (own := [("name", 2)]) (g := (gName 2)) rfl sc_Yard_init.nd (by exact pid_seq (pvd 1)) (blkOk_by (own := [("name", 2)]) (N := N_Yard_init) (sc := defScope t_Yard_init) (by decide +kernel)) (gown_name (by decide)) (fun _ _ _ _ _ => (by exact pgd_name (i := 2) sc_Yard_init.nd rfl (Or.inl rfl))) (fun _ _ _ _ _ => ⟨_, ptsd_nil⟩) (fun _ _ _ _ _ => ⟨_, (pvd 2)⟩) (fun _ _ _ _ _ => ⟨_, ped_str⟩))) (by exact psd_cons (by exact psd_fld T.cl_Yard T.no_Yard_log (pvd 0) (by exact ped_new pad_nil)) (by exact psd_cons (by exact psd_fld T.cl_Yard T.no_Yard_safe (pvd 0) ped_int) (by exact psd_cons (by exact psd_fld T.cl_Yard T.no_Yard_begun (pvd 0) ped_dnew) (by exact psd_one (by exact psd_fld T.cl_Yard T.no_Yard_many (pvd 0) ped_int))))))))⟩
  exact h
def N_Yard_text : List Str := ["self", "name"]
theorem sc_Yard_text : FnScope N_Yard_text ["self", "name"] (defScope t_Yard_text) := ⟨rfl, rfl, rfl, by decide +kernel, rfl, by decide +kernel, by decide +kernel⟩
noncomputable def s_Yard_text (A : Adr) : SM := (sSeq (sIf (bOr (bNot (eTru (eFn 1 (f_is_word A) (aCons (eVar 1) aNil)))) (eTest (eBin (gInK true) (eVar 1) (eFld A.Yard "hand" (eVar 0))))) (sRaise A.NotThere) sNx)
 (sRet (eBin gIxK (eFld A.Yard "hand" (eVar 0)) (eVar 1))))
noncomputable def f_Yard_text (A : Adr) : FM := runB N_Yard_text.length (s_Yard_text A)
theorem ok_Yard_text {P : Program} {w : World} {K : PySem.W.Frag} {mg : Str → Option Value} {base : Heap} {A : Adr} {a a_is_word : Addr} {fd fd_is_word : FuncData} (T : Txt K mg A) (F : Fun K "text" "Yard.text" t_Yard_text a fd) (D_is_word : DOk P w K mg base "is_word" 2 a_is_word fd_is_word ["value"] (f_is_word A)) : FnD P w K mg base 3 a fd ["self", "name"] (f_Yard_text A) := by
  have h : FnD P w K mg base (2 + 1) a fd ["self", "name"] (runB N_Yard_text.length (s_Yard_text A)) := by
    apply fnd_of F sc_Yard_text
    intro cdv A' outer s H E hr
    have HR_is_word : Room 2 _ := hr.mono (by decide)
    exact ⟨_, (by exact psd_cons (by exact psd_if (by exact PWD.pt (by exact pwd_or (by exact ptd_not (by exact ptd_truth (by exact ped_fn (ps := ["value"]) (by exact D_is_word.F) (by exact HR_is_word) (by exact L2N.takes_of rfl rfl rfl rfl) (by exact rfl) (by exact D_is_word.g) (by exact D_is_word.k) (by exact D_is_word.b) (by exact pad_cons (pvd 1) pad_nil)))) (by exact pwd_or1 (by exact ptd_cmp (by exact op_notInK (room65 hr)) (by exact ad_inK true) (pvd 1) (by exact ped_fld T.cl_Yard T.no_Yard_hand (pvd 0)) rfl)))) (by exact psd_one (by exact psd_raise rfl (by exact L2N.takes_of rfl rfl rfl rfl) (L2N.pmk_own PySem.F.excBase_ValueError T.e_NotThere.xi T.e_NotThere.g T.e_NotThere.k (raises_own T.e_NotThere.b T.e_NotThere.t) (by exact rfl)))) psd_nil) (by exact psd_one (by exact psd_ret (by exact ped_ixK (room65 hr) (by exact ped_fld T.cl_Yard T.no_Yard_hand (pvd 0)) (pvd 1)))))⟩
  exact h
def N_Yard_works : List Str := ["self"]
theorem sc_Yard_works : FnScope N_Yard_works ["self"] (defScope t_Yard_works) := ⟨rfl, rfl, rfl, by decide +kernel, rfl, by decide +kernel, by decide +kernel⟩
noncomputable def s_Yard_works (A : Adr) : SM := (sRet (eCall cTuple (aCons (eCall cSortK (aCons (eFld A.Yard "begun" (eVar 0)) aNil)) aNil)))
noncomputable def f_Yard_works (A : Adr) : FM := runB N_Yard_works.length (s_Yard_works A)
theorem ok_Yard_works {P : Program} {w : World} {K : PySem.W.Frag} {mg : Str → Option Value} {base : Heap} {A : Adr} {a : Addr} {fd : FuncData} (T : Txt K mg A) (F : Fun K "works" "Yard.works" t_Yard_works a fd) : FnD P w K mg base 1 a fd ["self"] (f_Yard_works A) := by
  have h : FnD P w K mg base (0 + 1) a fd ["self"] (runB N_Yard_works.length (s_Yard_works A)) := by
    apply fnd_of F sc_Yard_works
    intro cdv A' outer s H E hr
    exact ⟨_, (by exact psd_one (by exact psd_ret (by exact ped_callTy call_tuple_of adc_tuple rfl T.n_tuple boot_tuple (by exact pad_cons (by exact ped_callB (call_sortK rfl) adc_sortK rfl T.n_sorted boot_sorted (by exact pad_cons (by exact ped_fld T.cl_Yard T.no_Yard_begun (pvd 0)) pad_nil)) pad_nil))))⟩
  exact h
def N_Yard_begin : List Str := ["self"]
theorem sc_Yard_begin : FnScope N_Yard_begin ["self"] (defScope t_Yard_begin) := ⟨rfl, rfl, rfl, by decide +kernel, rfl, by decide +kernel, by decide +kernel⟩
noncomputable def s_Yard_begin (A : Adr) : SM := (sSeq (sFldAdd A.Yard "many" (eVar 0) (eC (.int 1)))
 (sSeq (sAsg (eNew aNil) (gSubK (eFld A.Yard "begun" (eVar 0)) (eFld A.Yard "many" (eVar 0))))
 (sRet (eFld A.Yard "many" (eVar 0)))))
noncomputable def f_Yard_begin (A : Adr) : FM := runB N_Yard_begin.length (s_Yard_begin A)
theorem ok_Yard_begin {P : Program} {w : World} {K : PySem.W.Frag} {mg : Str → Option Value} {base : Heap} {A : Adr} {a : Addr} {fd : FuncData} (T : Txt K mg A) (F : Fun K "begin" "Yard.begin" t_Yard_begin a fd) : FnD P w K mg base 1 a fd ["self"] (f_Yard_begin A) := by
  have h : FnD P w K mg base (0 + 1) a fd ["self"] (runB N_Yard_begin.length (s_Yard_begin A)) := by
    apply fnd_of F sc_Yard_begin
    intro cdv A' outer s H E hr
    exact ⟨_, (by exact psd_cons (by exact psd_fldadd T.cl_Yard T.no_Yard_many (pvd 0) ped_int) (by exact psd_cons (by exact psd_asg (by exact ped_new pad_nil) (by exact pgd_subK (room65 hr) (by exact ped_fld T.cl_Yard T.no_Yard_begun (pvd 0)) (by exact ped_fld T.cl_Yard T.no_Yard_many (pvd 0)))) (by exact psd_one (by exact psd_ret (by exact ped_fld T.cl_Yard T.no_Yard_many (pvd 0))))))⟩
  exact h
def N_Yard_rows_of : List Str := ["self", "work"]
theorem sc_Yard_rows_of : FnScope N_Yard_rows_of ["self", "work"] (defScope t_Yard_rows_of) := ⟨rfl, rfl, rfl, by decide +kernel, rfl, by decide +kernel, by decide +kernel⟩
noncomputable def s_Yard_rows_of (A : Adr) : SM := (sSeq (sIf (bOr (bNot (eTru (eFn 3 (f_is_number A) (aCons (eVar 1) (aCons (eC (.int 1)) (aCons (eFld A.Yard "many" (eVar 0)) aNil)))))) (eTest (eBin (gInK true) (eVar 1) (eFld A.Yard "begun" (eVar 0))))) (sRaise A.NotThere) sNx)
 (sRet (eBin gIxK (eFld A.Yard "begun" (eVar 0)) (eVar 1))))
noncomputable def f_Yard_rows_of (A : Adr) : FM := runB N_Yard_rows_of.length (s_Yard_rows_of A)
theorem ok_Yard_rows_of {P : Program} {w : World} {K : PySem.W.Frag} {mg : Str → Option Value} {base : Heap} {A : Adr} {a a_is_number : Addr} {fd fd_is_number : FuncData} (T : Txt K mg A) (F : Fun K "rows_of" "Yard.rows_of" t_Yard_rows_of a fd) (D_is_number : DOk P w K mg base "is_number" 1 a_is_number fd_is_number ["value", "least", "most"] (f_is_number A)) : FnD P w K mg base 2 a fd ["self", "work"] (f_Yard_rows_of A) := by
  have h : FnD P w K mg base (1 + 1) a fd ["self", "work"] (runB N_Yard_rows_of.length (s_Yard_rows_of A)) := by
    apply fnd_of F sc_Yard_rows_of
    intro cdv A' outer s H E hr
    have HR_is_number : Room 1 _ := hr.mono (by decide)
    exact ⟨_, (by exact psd_cons (by exact psd_if (by exact PWD.pt (by exact pwd_or (by exact ptd_not (by exact ptd_truth (by exact ped_fn (ps := ["value", "least", "most"]) (by exact D_is_number.F) (by exact HR_is_number) (by exact L2N.takes_of rfl rfl rfl rfl) (by exact rfl) (by exact D_is_number.g) (by exact D_is_number.k) (by exact D_is_number.b) (by exact pad_cons (pvd 1) (by exact pad_cons ped_int (by exact pad_cons (by exact ped_fld T.cl_Yard T.no_Yard_many (pvd 0)) pad_nil)))))) (by exact pwd_or1 (by exact ptd_cmp (by exact op_notInK (room65 hr)) (by exact ad_inK true) (pvd 1) (by exact ped_fld T.cl_Yard T.no_Yard_begun (pvd 0)) rfl)))) (by exact psd_one (by exact psd_raise rfl (by exact L2N.takes_of rfl rfl rfl rfl) (L2N.pmk_own PySem.F.excBase_ValueError T.e_NotThere.xi T.e_NotThere.g T.e_NotThere.k (raises_own T.e_NotThere.b T.e_NotThere.t) (by exact rfl)))) psd_nil) (by exact psd_one (by exact psd_ret (by exact ped_ixK (room65 hr) (by exact ped_fld T.cl_Yard T.no_Yard_begun (pvd 0)) (pvd 1)))))⟩
  exact h
def N_Yard_put : List Str := ["self", "work", "name", "text", "rows", "old", "other", "row"]
theorem sc_Yard_put : FnScope N_Yard_put ["self", "work", "name", "text"] (defScope t_Yard_put) := ⟨rfl, rfl, rfl, by decide +kernel, rfl, by decide +kernel, by decide +kernel⟩
noncomputable def s_Yard_put_0 (A : Adr) : SM := (sIf (bAnd (eTest (eBin gNe (eVar 6) (eVar 1))) (eTest (eBin gIn (eVar 2) (eCmp (iSeq (eBin gIxK (eFld A.Yard "begun" (eVar 0)) (eVar 6))) [7] (gSet 7) bYes (eBin gIx (eVar 7) (eC (.int 0))))))) (sRaise A.Refused) sNx)
noncomputable def s_Yard_put (A : Adr) : SM := (sSeq (sAsg (eMe A.Yard "rows_of" 2 (f_Yard_rows_of A) (eVar 0) (aCons (eVar 1) aNil)) (gSet 4))
 (sSeq (sAsg (eMe A.Yard "text" 2 (f_Yard_text A) (eVar 0) (aCons (eVar 2) aNil)) (gSet 5))
 (sSeq (sIf (bNot (eTru (eCall cIsi (aCons (eVar 3) (aCons (eC (.ty "str")) aNil))))) (sRaise A.Malformed) sNx)
 (sSeq (sForK (eFld A.Yard "begun" (eVar 0)) (gSet 6) (s_Yard_put_0 A))
 (sSeq (sEx (eMeL mAppend (eFld A.Yard "log" (eVar 0)) (aCons (eTup (aCons (eC (.str "put")) (aCons (eVar 1) (aCons (eVar 2) (aCons (eVar 5) (aCons (eVar 3) aNil)))))) aNil)))
 (sSeq (sEx (eMeL mAppend (eVar 4) (aCons (eTup (aCons (eVar 2) (aCons (eVar 5) aNil))) aNil)))
 (sAsg (eVar 3) (gSubK (eFld A.Yard "hand" (eVar 0)) (eVar 2)))))))))
noncomputable def f_Yard_put (A : Adr) : FM := runB N_Yard_put.length (s_Yard_put A)
theorem ok_Yard_put {P : Program} {w : World} {K : PySem.W.Frag} {mg : Str → Option Value} {base : Heap} {A : Adr} {a a_Yard_text a_Yard_rows_of : Addr} {fd fd_Yard_text fd_Yard_rows_of : FuncData} (T : Txt K mg A) (F : Fun K "put" "Yard.put" t_Yard_put a fd) (D_Yard_text : MOk P w K mg base A.Yard "text" 3 a_Yard_text fd_Yard_text ["self", "name"] (f_Yard_text A)) (D_Yard_rows_of : MOk P w K mg base A.Yard "rows_of" 2 a_Yard_rows_of fd_Yard_rows_of ["self", "work"] (f_Yard_rows_of A)) : FnD P w K mg base 4 a fd ["self", "work", "name", "text"] (f_Yard_put A) := by
  have h : FnD P w K mg base (3 + 1) a fd ["self", "work", "name", "text"] (runB N_Yard_put.length (s_Yard_put A)) := by
    apply fnd_of F sc_Yard_put
    intro cdv A' outer s H E hr
    have HR_Yard_text : Room 3 _ := hr.mono (by decide)
    have HR_Yard_rows_of : Room 2 _ := hr.mono (by decide)
    exact ⟨_, (by exact psd_cons (by exact psd_asg (by exact ped_me (ps := ["self", "work"]) (pvd 0) (by exact T.cl_Yard) (by exact D_Yard_rows_of.m) (by exact D_Yard_rows_of.F) (by exact HR_Yard_rows_of) (by exact L2N.takes_of rfl rfl rfl rfl) (by exact D_Yard_rows_of.b) (by exact pad_cons (pvd 1) pad_nil)) (by exact pgd_name (i := 4) sc_Yard_put.nd rfl (Or.inl rfl))) (by exact psd_cons (by exact psd_asg (by exact ped_me (ps := ["self", "name"]) (pvd 0) (by exact T.cl_Yard) (by exact D_Yard_text.m) (by exact D_Yard_text.F) (by exact HR_Yard_text) (by exact L2N.takes_of rfl rfl rfl rfl) (by exact D_Yard_text.b) (by exact pad_cons (pvd 2) pad_nil)) (by exact pgd_name (i := 5) sc_Yard_put.nd rfl (Or.inl rfl))) (by exact psd_cons (by exact psd_if (by exact ptd_not (by exact ptd_truth (by exact ped_callB call_isi adc_isi rfl T.n_isinstance boot_isinstance (by exact pad_cons (pvd 3) (by exact pad_cons (by exact ped_ty (by exact rfl) T.n_str boot_str) pad_nil))))) (by exact psd_one (by exact psd_raise rfl (by exact L2N.takes_of rfl rfl rfl rfl) (L2N.pmk_own PySem.F.excBase_ValueError T.e_Malformed.xi T.e_Malformed.g T.e_Malformed.k (raises_own T.e_Malformed.b T.e_Malformed.t) (by exact rfl)))) psd_nil) (by exact psd_cons (by exact psd_forK (passes_of rfl) rfl (by exact ped_fld T.cl_Yard T.no_Yard_begun (pvd 0)) (by exact pgd_name (i := 6) sc_Yard_put.nd rfl (Or.inl rfl)) (by exact psd_one (by exact psd_if (by exact PWD.pt (by exact pwd_and (by exact ptd_cmp (by exact op_neD (room64 hr)) (by exact ad_ne) (pvd 6) (pvd 1) (by exact nomark _)) (by exact pwd_and1 (by exact ptd_cmp (by exact opd_in (room65 hr)) (by exact ad_in) (pvd 2) (by exact ped_cmpC (own := [("row", 7)]) (g := (gName 7)) rfl sc_Yard_put.nd (by exact pid_seq (by exact ped_ixK (room65 hr) (by exact ped_fld T.cl_Yard T.no_Yard_begun (pvd 0)) (pvd 6))) (blkOk_by (own := [("row", 7)]) (N := N_Yard_put) (sc := defScope t_Yard_put) (by decide +kernel)) (gown_name (by decide)) (fun _ _ _ _ _ => (by exact pgd_name (i := 7) sc_Yard_put.nd rfl (Or.inl rfl))) (fun _ _ _ _ _ => ⟨_, ptsd_nil⟩) (fun _ _ _ _ _ => ⟨_, (by exact ped_ix (pvd 7) ped_int)⟩)) rfl)))) (by exact psd_one (by exact psd_raise rfl (takes_lock (by exact L2N.takes_of rfl rfl rfl rfl)) (L2N.pmk_own PySem.F.excBase_ValueError T.e_Refused.xi T.e_Refused.g T.e_Refused.k (raises_own T.e_Refused.b T.e_Refused.t) (by exact rfl)))) psd_nil))) (by exact psd_cons (by exact psd_expr (by exact ped_meL PySem.F.slot_list_append PySem.F.type_list_append mt_append adm_append (by exact ped_fld T.cl_Yard T.no_Yard_log (pvd 0)) (by exact pad_cons (by exact ped_tup (by exact pad_cons ped_str (by exact pad_cons (pvd 1) (by exact pad_cons (pvd 2) (by exact pad_cons (pvd 5) (by exact pad_cons (pvd 3) pad_nil)))))) pad_nil))) (by exact psd_cons (by exact psd_expr (by exact ped_meL PySem.F.slot_list_append PySem.F.type_list_append mt_append adm_append (pvd 4) (by exact pad_cons (by exact ped_tup (by exact pad_cons (pvd 2) (by exact pad_cons (pvd 5) pad_nil))) pad_nil))) (by exact psd_one (by exact psd_asg (pvd 3) (by exact pgd_subK (room65 hr) (by exact ped_fld T.cl_Yard T.no_Yard_hand (pvd 0)) (pvd 2))))))))))⟩
  exact h
def N_Yard_end : List Str := ["self", "work"]
theorem sc_Yard_end : FnScope N_Yard_end ["self", "work"] (defScope t_Yard_end) := ⟨rfl, rfl, rfl, by decide +kernel, rfl, by decide +kernel, by decide +kernel⟩
noncomputable def s_Yard_end (A : Adr) : SM := (sSeq (sEx (eMe A.Yard "rows_of" 2 (f_Yard_rows_of A) (eVar 0) (aCons (eVar 1) aNil)))
 (sSeq (sEx (eMeL mAppend (eFld A.Yard "log" (eVar 0)) (aCons (eTup (aCons (eC (.str "end")) (aCons (eVar 1) aNil))) aNil)))
 (sEx (eDPop (eFld A.Yard "begun" (eVar 0)) (eVar 1)))))
noncomputable def f_Yard_end (A : Adr) : FM := runB N_Yard_end.length (s_Yard_end A)
theorem ok_Yard_end {P : Program} {w : World} {K : PySem.W.Frag} {mg : Str → Option Value} {base : Heap} {A : Adr} {a a_Yard_rows_of : Addr} {fd fd_Yard_rows_of : FuncData} (T : Txt K mg A) (F : Fun K "end" "Yard.end" t_Yard_end a fd) (D_Yard_rows_of : MOk P w K mg base A.Yard "rows_of" 2 a_Yard_rows_of fd_Yard_rows_of ["self", "work"] (f_Yard_rows_of A)) : FnD P w K mg base 3 a fd ["self", "work"] (f_Yard_end A) := by
  have h : FnD P w K mg base (2 + 1) a fd ["self", "work"] (runB N_Yard_end.length (s_Yard_end A)) := by
    apply fnd_of F sc_Yard_end
    intro cdv A' outer s H E hr
    have HR_Yard_rows_of : Room 2 _ := hr.mono (by decide)
    exact ⟨_, (by exact psd_cons (by exact psd_expr (by exact ped_me (ps := ["self", "work"]) (pvd 0) (by exact T.cl_Yard) (by exact D_Yard_rows_of.m) (by exact D_Yard_rows_of.F) (by exact HR_Yard_rows_of) (by exact L2N.takes_of rfl rfl rfl rfl) (by exact D_Yard_rows_of.b) (by exact pad_cons (pvd 1) pad_nil))) (by exact psd_cons (by exact psd_expr (by exact ped_meL PySem.F.slot_list_append PySem.F.type_list_append mt_append adm_append (by exact ped_fld T.cl_Yard T.no_Yard_log (pvd 0)) (by exact pad_cons (by exact ped_tup (by exact pad_cons ped_str (by exact pad_cons (pvd 1) pad_nil))) pad_nil))) (by exact psd_one (by exact psd_expr (by exact ped_dpop (by exact ped_fld T.cl_Yard T.no_Yard_begun (pvd 0)) (pvd 1))))))⟩
  exact h
def N_Yard_drop : List Str := ["self", "work", "name", "old"]
theorem sc_Yard_drop : FnScope N_Yard_drop ["self", "work"] (defScope t_Yard_drop) := ⟨rfl, rfl, rfl, by decide +kernel, rfl, by decide +kernel, by decide +kernel⟩
noncomputable def s_Yard_drop_0 (A : Adr) : SM := (sSeq (sEx (eMeL mAppend (eFld A.Yard "log" (eVar 0)) (aCons (eTup (aCons (eC (.str "put")) (aCons (eVar 1) (aCons (eVar 2) (aCons (eBin gIxK (eFld A.Yard "hand" (eVar 0)) (eVar 2)) (aCons (eVar 3) aNil)))))) aNil)))
 (sAsg (eVar 3) (gSubK (eFld A.Yard "hand" (eVar 0)) (eVar 2))))
noncomputable def s_Yard_drop (A : Adr) : SM := (sSeq (sFor (iSeq (eRevF (eMe A.Yard "rows_of" 2 (f_Yard_rows_of A) (eVar 0) (aCons (eVar 1) aNil)))) (gTupM 2 (gsCons (gSet 2) (gsCons (gSet 3) gsNil))) (s_Yard_drop_0 A))
 (sEx (eMe A.Yard "end" 2 (f_Yard_end A) (eVar 0) (aCons (eVar 1) aNil))))
noncomputable def f_Yard_drop (A : Adr) : FM := runB N_Yard_drop.length (s_Yard_drop A)
theorem ok_Yard_drop {P : Program} {w : World} {K : PySem.W.Frag} {mg : Str → Option Value} {base : Heap} {A : Adr} {a a_Yard_end a_Yard_rows_of : Addr} {fd fd_Yard_end fd_Yard_rows_of : FuncData} (T : Txt K mg A) (F : Fun K "drop" "Yard.drop" t_Yard_drop a fd) (D_Yard_end : MOk P w K mg base A.Yard "end" 3 a_Yard_end fd_Yard_end ["self", "work"] (f_Yard_end A)) (D_Yard_rows_of : MOk P w K mg base A.Yard "rows_of" 2 a_Yard_rows_of fd_Yard_rows_of ["self", "work"] (f_Yard_rows_of A)) : FnD P w K mg base 4 a fd ["self", "work"] (f_Yard_drop A) := by
  have h : FnD P w K mg base (3 + 1) a fd ["self", "work"] (runB N_Yard_drop.length (s_Yard_drop A)) := by
    apply fnd_of F sc_Yard_drop
    intro cdv A' outer s H E hr
    have HR_Yard_end : Room 3 _ := hr.mono (by decide)
    have HR_Yard_rows_of : Room 2 _ := hr.mono (by decide)
    exact ⟨_, (by exact psd_cons (by exact psd_for (passes_of rfl) rfl (by exact pid_seq (by exact ped_revF (by exact ped_me (ps := ["self", "work"]) (pvd 0) (by exact T.cl_Yard) (by exact D_Yard_rows_of.m) (by exact D_Yard_rows_of.F) (by exact HR_Yard_rows_of) (by exact L2N.takes_of rfl rfl rfl rfl) (by exact D_Yard_rows_of.b) (by exact pad_cons (pvd 1) pad_nil)))) (by exact pgd_tup rfl (by exact pgsd_cons (by exact pgd_name (i := 2) sc_Yard_drop.nd rfl (Or.inl rfl)) (by exact pgsd_cons (by exact pgd_name (i := 3) sc_Yard_drop.nd rfl (Or.inl rfl)) pgsd_nil)) rfl rfl (ner_cons ner_set (ner_cons ner_set ner_nil))) (by exact psd_cons (by exact psd_expr (by exact ped_meL PySem.F.slot_list_append PySem.F.type_list_append mt_append adm_append (by exact ped_fld T.cl_Yard T.no_Yard_log (pvd 0)) (by exact pad_cons (by exact ped_tup (by exact pad_cons ped_str (by exact pad_cons (pvd 1) (by exact pad_cons (pvd 2) (by exact pad_cons (by exact ped_ixK (room65 hr) (by exact ped_fld T.cl_Yard T.no_Yard_hand (pvd 0)) (pvd 2)) (by exact pad_cons (pvd 3) pad_nil)))))) pad_nil))) (by exact psd_one (by exact psd_asg (pvd 3) (by exact pgd_subK (room65 hr) (by exact ped_fld T.cl_Yard T.no_Yard_hand (pvd 0)) (pvd 2)))))) (by exact psd_one (by exact psd_expr (by exact ped_me (ps := ["self", "work"]) (pvd 0) (by exact T.cl_Yard) (by exact D_Yard_end.m) (by exact D_Yard_end.F) (by exact HR_Yard_end) (by exact L2N.takes_of rfl rfl rfl rfl) (by exact D_Yard_end.b) (by exact pad_cons (pvd 1) pad_nil)))))⟩
  exact h
def N_Yard_sync : List Str := ["self"]
theorem sc_Yard_sync : FnScope N_Yard_sync ["self"] (defScope t_Yard_sync) := ⟨rfl, rfl, rfl, by decide +kernel, rfl, by decide +kernel, by decide +kernel⟩
noncomputable def s_Yard_sync (A : Adr) : SM := (sFldM A.Yard "safe" (eCall cLen (aCons (eFld A.Yard "log" (eVar 0)) aNil)) (eVar 0))
noncomputable def f_Yard_sync (A : Adr) : FM := runB N_Yard_sync.length (s_Yard_sync A)
theorem ok_Yard_sync {P : Program} {w : World} {K : PySem.W.Frag} {mg : Str → Option Value} {base : Heap} {A : Adr} {a : Addr} {fd : FuncData} (T : Txt K mg A) (F : Fun K "sync" "Yard.sync" t_Yard_sync a fd) : FnD P w K mg base 1 a fd ["self"] (f_Yard_sync A) := by
  have h : FnD P w K mg base (0 + 1) a fd ["self"] (runB N_Yard_sync.length (s_Yard_sync A)) := by
    apply fnd_of F sc_Yard_sync
    intro cdv A' outer s H E hr
    exact ⟨_, (by exact psd_one (by exact psd_fld T.cl_Yard T.no_Yard_safe (pvd 0) (by exact ped_callB PD.cr_len adc_len rfl T.n_len boot_len (by exact pad_cons (by exact ped_fld T.cl_Yard T.no_Yard_log (pvd 0)) pad_nil))))⟩
  exact h
def N_Yard_flush : List Str := ["self", "name", "text"]
theorem sc_Yard_flush : FnScope N_Yard_flush ["self", "name"] (defScope t_Yard_flush) := ⟨rfl, rfl, rfl, by decide +kernel, rfl, by decide +kernel, by decide +kernel⟩
noncomputable def s_Yard_flush (A : Adr) : SM := (sSeq (sAsg (eMe A.Yard "text" 2 (f_Yard_text A) (eVar 0) (aCons (eVar 1) aNil)) (gSet 2))
 (sSeq (sEx (eMe A.Yard "sync" 1 (f_Yard_sync A) (eVar 0) aNil))
 (sAsg (eVar 2) (gSubK (eFld A.Yard "disk" (eVar 0)) (eVar 1)))))
noncomputable def f_Yard_flush (A : Adr) : FM := runB N_Yard_flush.length (s_Yard_flush A)
theorem ok_Yard_flush {P : Program} {w : World} {K : PySem.W.Frag} {mg : Str → Option Value} {base : Heap} {A : Adr} {a a_Yard_sync a_Yard_text : Addr} {fd fd_Yard_sync fd_Yard_text : FuncData} (T : Txt K mg A) (F : Fun K "flush" "Yard.flush" t_Yard_flush a fd) (D_Yard_sync : MOk P w K mg base A.Yard "sync" 1 a_Yard_sync fd_Yard_sync ["self"] (f_Yard_sync A)) (D_Yard_text : MOk P w K mg base A.Yard "text" 3 a_Yard_text fd_Yard_text ["self", "name"] (f_Yard_text A)) : FnD P w K mg base 4 a fd ["self", "name"] (f_Yard_flush A) := by
  have h : FnD P w K mg base (3 + 1) a fd ["self", "name"] (runB N_Yard_flush.length (s_Yard_flush A)) := by
    apply fnd_of F sc_Yard_flush
    intro cdv A' outer s H E hr
    have HR_Yard_sync : Room 1 _ := hr.mono (by decide)
    have HR_Yard_text : Room 3 _ := hr.mono (by decide)
    exact ⟨_, (by exact psd_cons (by exact psd_asg (by exact ped_me (ps := ["self", "name"]) (pvd 0) (by exact T.cl_Yard) (by exact D_Yard_text.m) (by exact D_Yard_text.F) (by exact HR_Yard_text) (by exact L2N.takes_of rfl rfl rfl rfl) (by exact D_Yard_text.b) (by exact pad_cons (pvd 1) pad_nil)) (by exact pgd_name (i := 2) sc_Yard_flush.nd rfl (Or.inl rfl))) (by exact psd_cons (by exact psd_expr (by exact ped_me0 (ps := ["self"]) (pvd 0) (by exact T.cl_Yard) (by exact D_Yard_sync.m) (by exact D_Yard_sync.F) (by exact HR_Yard_sync) (by exact L2N.takes_of rfl rfl rfl rfl) (by exact D_Yard_sync.b))) (by exact psd_one (by exact psd_asg (pvd 2) (by exact pgd_subK (room65 hr) (by exact ped_fld T.cl_Yard T.no_Yard_disk (pvd 0)) (pvd 1))))))⟩
  exact h
def N_Yard_waiting : List Str := ["self"]
theorem sc_Yard_waiting : FnScope N_Yard_waiting ["self"] (defScope t_Yard_waiting) := ⟨rfl, rfl, rfl, by decide +kernel, rfl, by decide +kernel, by decide +kernel⟩
noncomputable def s_Yard_waiting (A : Adr) : SM := (sRet (eBin gSub (eCall cLen (aCons (eFld A.Yard "log" (eVar 0)) aNil)) (eFld A.Yard "safe" (eVar 0))))
noncomputable def f_Yard_waiting (A : Adr) : FM := runB N_Yard_waiting.length (s_Yard_waiting A)
theorem ok_Yard_waiting {P : Program} {w : World} {K : PySem.W.Frag} {mg : Str → Option Value} {base : Heap} {A : Adr} {a : Addr} {fd : FuncData} (T : Txt K mg A) (F : Fun K "waiting" "Yard.waiting" t_Yard_waiting a fd) : FnD P w K mg base 1 a fd ["self"] (f_Yard_waiting A) := by
  have h : FnD P w K mg base (0 + 1) a fd ["self"] (runB N_Yard_waiting.length (s_Yard_waiting A)) := by
    apply fnd_of F sc_Yard_waiting
    intro cdv A' outer s H E hr
    exact ⟨_, (by exact psd_one (by exact psd_ret (by exact ped_op op_sub ad_sub (by exact ped_callB PD.cr_len adc_len rfl T.n_len boot_len (by exact pad_cons (by exact ped_fld T.cl_Yard T.no_Yard_log (pvd 0)) pad_nil)) (by exact ped_fld T.cl_Yard T.no_Yard_safe (pvd 0)))))⟩
  exact h
def N_Yard_mended : List Str := ["self", "cells", "ended", "row"]
theorem sc_Yard_mended : FnScope N_Yard_mended ["self"] (defScope t_Yard_mended) := ⟨rfl, rfl, rfl, by decide +kernel, rfl, by decide +kernel, by decide +kernel⟩
noncomputable def s_Yard_mended_0 (A : Adr) : SM := (sIf (bAnd (eTest (eBin gEq (eBin gIx (eVar 3) (eC (.int 0))) (eC (.str "put")))) (eTest (eBin gNotIn (eBin gIx (eVar 3) (eC (.int 1))) (eVar 2)))) (sAsg (eBin gIx (eVar 3) (eC (.int 3))) (gSubK (eVar 1) (eBin gIx (eVar 3) (eC (.int 2))))) sNx)
noncomputable def s_Yard_mended_1 (A : Adr) : SM := (sIf (eTest (eBin gEq (eBin gIx (eVar 3) (eC (.int 0))) (eC (.str "put")))) (sAsg (eBin gIx (eVar 3) (eC (.int 4))) (gSubK (eVar 1) (eBin gIx (eVar 3) (eC (.int 2))))) sNx)
noncomputable def s_Yard_mended (A : Adr) : SM := (sSeq (sAsg (eCall cDictD (aCons (eFld A.Yard "disk" (eVar 0)) aNil)) (gSet 1))
 (sSeq (sAsg (eCmp (iSeq (eFld A.Yard "log" (eVar 0))) [3] (gSet 3) (eTest (eBin gEq (eBin gIx (eVar 3) (eC (.int 0))) (eC (.str "end")))) (eBin gIx (eVar 3) (eC (.int 1)))) (gSet 2))
 (sSeq (sFor (iSeq (eFld A.Yard "log" (eVar 0))) (gSet 3) (s_Yard_mended_1 A))
 (sSeq (sFor (iSeq (eRevF (eFld A.Yard "log" (eVar 0)))) (gSet 3) (s_Yard_mended_0 A))
 (sSeq (sAsg (eTup (aCons (eCall cDictD (aCons (eVar 1) aNil)) (aCons (eCall cDictD (aCons (eVar 1) aNil)) aNil))) (gTupM 2 (gsCons (gFldS A.Yard "hand" (eVar 0)) (gsCons (gFldS A.Yard "disk" (eVar 0)) gsNil))))
 (sSeq (sAsg (eTup (aCons (eNew aNil) (aCons (eC (.int 0)) (aCons eDNew aNil)))) (gTupM 3 (gsCons (gFldS A.Yard "log" (eVar 0)) (gsCons (gFldS A.Yard "safe" (eVar 0)) (gsCons (gFldS A.Yard "begun" (eVar 0)) gsNil)))))
 (sRet (eVar 0))))))))
noncomputable def f_Yard_mended (A : Adr) : FM := runB N_Yard_mended.length (s_Yard_mended A)
theorem ok_Yard_mended {P : Program} {w : World} {K : PySem.W.Frag} {mg : Str → Option Value} {base : Heap} {A : Adr} {a : Addr} {fd : FuncData} (T : Txt K mg A) (F : Fun K "mended" "Yard.mended" t_Yard_mended a fd) : FnD P w K mg base 1 a fd ["self"] (f_Yard_mended A) := by
  have h : FnD P w K mg base (0 + 1) a fd ["self"] (runB N_Yard_mended.length (s_Yard_mended A)) := by
    apply fnd_of F sc_Yard_mended
    intro cdv A' outer s H E hr
    exact ⟨_, (by exact psd_cons (by exact psd_asg (by exact ped_callTy PD.call_dictD adc_dictD rfl T.n_dict boot_dict (by exact pad_cons (by exact ped_fld T.cl_Yard T.no_Yard_disk (pvd 0)) pad_nil)) (by exact pgd_name (i := 1) sc_Yard_mended.nd rfl (Or.inl rfl))) (by exact psd_cons (by exact psd_setLcC (i := 2) (own := [("row", 3)]) (g := (gName 3)) rfl sc_Yard_mended.nd rfl rfl (sw_true rfl rfl rfl (by decide +kernel)) (by exact pid_seq (by exact ped_fld T.cl_Yard T.no_Yard_log (pvd 0))) (blkOk_by (own := [("row", 3)]) (N := N_Yard_mended) (sc := defScope t_Yard_mended) (by decide +kernel)) (gown_name (by decide)) (fun _ _ _ _ _ => (by exact pgd_name (i := 3) sc_Yard_mended.nd rfl (Or.inl rfl))) (fun _ _ _ _ _ => ⟨_, (by exact ptsd_one (by exact ptd_cmp (by exact op_eqD (room64 hr)) (by exact ad_eq) (by exact ped_ix (pvd 3) ped_int) ped_str (by exact nomark _)))⟩) (fun _ _ _ _ _ => ⟨_, (by exact ped_ix (pvd 3) ped_int)⟩)) (by exact psd_cons (by exact psd_for (passes_of rfl) rfl (by exact pid_seq (by exact ped_fld T.cl_Yard T.no_Yard_log (pvd 0))) (by exact pgd_name (i := 3) sc_Yard_mended.nd rfl (Or.inl rfl)) (by exact psd_one (by exact psd_if (by exact ptd_cmp (by exact op_eqD (room64 hr)) (by exact ad_eq) (by exact ped_ix (pvd 3) ped_int) ped_str (by exact nomark _)) (by exact psd_one (by exact psd_asg (by exact ped_ix (pvd 3) ped_int) (by exact pgd_subK (room65 hr) (pvd 1) (by exact ped_ix (pvd 3) ped_int)))) psd_nil))) (by exact psd_cons (by exact psd_for (passes_of rfl) rfl (by exact pid_seq (by exact ped_revF (by exact ped_fld T.cl_Yard T.no_Yard_log (pvd 0)))) (by exact pgd_name (i := 3) sc_Yard_mended.nd rfl (Or.inl rfl)) (by exact psd_one (by exact psd_if (by exact PWD.pt (by exact pwd_and (by exact ptd_cmp (by exact op_eqD (room64 hr)) (by exact ad_eq) (by exact ped_ix (pvd 3) ped_int) ped_str (by exact nomark _)) (by exact pwd_and1 (by exact ptd_cmp (by exact opd_notIn (room65 hr)) (by exact ad_notIn) (by exact ped_ix (pvd 3) ped_int) (pvd 2) rfl)))) (by exact psd_one (by exact psd_asg (by exact ped_ix (pvd 3) ped_int) (by exact pgd_subK (room65 hr) (pvd 1) (by exact ped_ix (pvd 3) ped_int)))) psd_nil))) (by exact psd_cons (by exact psd_asg (by exact ped_tup (by exact pad_cons (by exact ped_callTy PD.call_dictD adc_dictD rfl T.n_dict boot_dict (by exact pad_cons (pvd 1) pad_nil)) (by exact pad_cons (by exact ped_callTy PD.call_dictD adc_dictD rfl T.n_dict boot_dict (by exact pad_cons (pvd 1) pad_nil)) pad_nil))) (by exact pgd_tup rfl (by exact pgsd_cons (by exact pgd_fldT T.cl_Yard T.no_Yard_hand (pvd 0)) (by exact pgsd_cons (by exact pgd_fldT T.cl_Yard T.no_Yard_disk (pvd 0)) pgsd_nil)) rfl rfl (ner_cons (ner_fldT ner_var) (ner_cons (ner_fldT ner_var) ner_nil)))) (by exact psd_cons (by exact psd_asg (by exact ped_tup (by exact pad_cons (by exact ped_new pad_nil) (by exact pad_cons ped_int (by exact pad_cons ped_dnew pad_nil)))) (by exact pgd_tup rfl (by exact pgsd_cons (by exact pgd_fldT T.cl_Yard T.no_Yard_log (pvd 0)) (by exact pgsd_cons (by exact pgd_fldT T.cl_Yard T.no_Yard_safe (pvd 0)) (by exact pgsd_cons (by exact pgd_fldT T.cl_Yard T.no_Yard_begun (pvd 0)) pgsd_nil))) rfl rfl (ner_cons (ner_fldT ner_var) (ner_cons (ner_fldT ner_var) (ner_cons (ner_fldT ner_var) ner_nil))))) (by exact psd_one (by exact psd_ret (pvd 0)))))))))⟩
  exact h
def N_Yard_crashed : List Str := ["self", "kept", "found"]
theorem sc_Yard_crashed : FnScope N_Yard_crashed ["self", "kept"] (defScope t_Yard_crashed) := ⟨rfl, rfl, rfl, by decide +kernel, rfl, by decide +kernel, by decide +kernel⟩
noncomputable def s_Yard_crashed (A : Adr) : SM := (sSeq (sIf (bNot (eTru (eFn 3 (f_is_number A) (aCons (eVar 1) (aCons (eC (.int 0)) (aCons (eMe A.Yard "waiting" 1 (f_Yard_waiting A) (eVar 0) aNil) aNil)))))) (sRaise A.OutOfRange) sNx)
 (sSeq (sAsg (eMk A.Yard 2 (f_Yard_init A) (aCons (eCall cTuple (aCons (eCall cSortK (aCons (eFld A.Yard "hand" (eVar 0)) aNil)) aNil)) aNil)) (gSet 2))
 (sSeq (sFldM A.Yard "disk" (eCall cDictD (aCons (eFld A.Yard "disk" (eVar 0)) aNil)) (eVar 2))
 (sSeq (sFldM A.Yard "log" (eCut (eFld A.Yard "log" (eVar 0)) oNone (oSome (eBin gAdd (eFld A.Yard "safe" (eVar 0)) (eVar 1)))) (eVar 2))
 (sSeq (sFldM A.Yard "safe" (eCall cLen (aCons (eFld A.Yard "log" (eVar 2)) aNil)) (eVar 2))
 (sSeq (sFldM A.Yard "many" (eFld A.Yard "many" (eVar 0)) (eVar 2))
 (sRet (eMe A.Yard "mended" 1 (f_Yard_mended A) (eVar 2) aNil))))))))
noncomputable def f_Yard_crashed (A : Adr) : FM := runB N_Yard_crashed.length (s_Yard_crashed A)
theorem ok_Yard_crashed {P : Program} {w : World} {K : PySem.W.Frag} {mg : Str → Option Value} {base : Heap} {A : Adr} {a a_Yard_mended a_Yard_init a_Yard_waiting a_is_number : Addr} {fd fd_Yard_mended fd_Yard_init fd_Yard_waiting fd_is_number : FuncData} (T : Txt K mg A) (F : Fun K "crashed" "Yard.crashed" t_Yard_crashed a fd) (D_Yard_mended : MOk P w K mg base A.Yard "mended" 1 a_Yard_mended fd_Yard_mended ["self"] (f_Yard_mended A)) (D_Yard_init : IOk P w K mg base A.Yard "Yard" 5 a_Yard_init fd_Yard_init ["self", "names"] (f_Yard_init A)) (D_Yard_waiting : MOk P w K mg base A.Yard "waiting" 1 a_Yard_waiting fd_Yard_waiting ["self"] (f_Yard_waiting A)) (D_is_number : DOk P w K mg base "is_number" 1 a_is_number fd_is_number ["value", "least", "most"] (f_is_number A)) : FnD P w K mg base 7 a fd ["self", "kept"] (f_Yard_crashed A) := by
  have h : FnD P w K mg base (6 + 1) a fd ["self", "kept"] (runB N_Yard_crashed.length (s_Yard_crashed A)) := by
    apply fnd_of F sc_Yard_crashed
    intro cdv A' outer s H E hr
    have HR_Yard_mended : Room 1 _ := hr.mono (by decide)
    have HR2_Yard_init : Room (5 + 1) _ := hr.mono (by decide)
    have HR_Yard_waiting : Room 1 _ := hr.mono (by decide)
    have HR_is_number : Room 1 _ := hr.mono (by decide)
    exact ⟨_, (by exact psd_cons (by exact psd_if (by exact ptd_not (by exact ptd_truth (by exact ped_fn (ps := ["value", "least", "most"]) (by exact D_is_number.F) (by exact HR_is_number) (by exact L2N.takes_of rfl rfl rfl rfl) (by exact rfl) (by exact D_is_number.g) (by exact D_is_number.k) (by exact D_is_number.b) (by exact pad_cons (pvd 1) (by exact pad_cons ped_int (by exact pad_cons (by exact ped_me0 (ps := ["self"]) (pvd 0) (by exact T.cl_Yard) (by exact D_Yard_waiting.m) (by exact D_Yard_waiting.F) (by exact HR_Yard_waiting) (by exact L2N.takes_of rfl rfl rfl rfl) (by exact D_Yard_waiting.b)) pad_nil)))))) (by exact psd_one (by exact psd_raise rfl (by exact L2N.takes_of rfl rfl rfl rfl) (L2N.pmk_own PySem.F.excBase_ValueError T.e_OutOfRange.xi T.e_OutOfRange.g T.e_OutOfRange.k (raises_own T.e_OutOfRange.b T.e_OutOfRange.t) (by exact rfl)))) psd_nil) (by exact psd_cons (by exact psd_asg (by exact ped_mk (ps := ["self", "names"]) (by exact D_Yard_init.M) (by exact D_Yard_init.F) (by exact HR2_Yard_init) (by exact L2N.takes_of rfl rfl rfl rfl) (by exact rfl) (by exact D_Yard_init.g) (by exact D_Yard_init.b) (by exact pad_cons (by exact ped_callTy call_tuple_of adc_tuple rfl T.n_tuple boot_tuple (by exact pad_cons (by exact ped_callB (call_sortK rfl) adc_sortK rfl T.n_sorted boot_sorted (by exact pad_cons (by exact ped_fld T.cl_Yard T.no_Yard_hand (pvd 0)) pad_nil)) pad_nil)) pad_nil)) (by exact pgd_name (i := 2) sc_Yard_crashed.nd rfl (Or.inl rfl))) (by exact psd_cons (by exact psd_fld T.cl_Yard T.no_Yard_disk (pvd 2) (by exact ped_callTy PD.call_dictD adc_dictD rfl T.n_dict boot_dict (by exact pad_cons (by exact ped_fld T.cl_Yard T.no_Yard_disk (pvd 0)) pad_nil))) (by exact psd_cons (by exact psd_fld T.cl_Yard T.no_Yard_log (pvd 2) (by exact ped_cut (by exact ped_fld T.cl_Yard T.no_Yard_log (pvd 0)) pod_none (by exact pod_some (by exact ped_op opd_add ad_add (by exact ped_fld T.cl_Yard T.no_Yard_safe (pvd 0)) (pvd 1))))) (by exact psd_cons (by exact psd_fld T.cl_Yard T.no_Yard_safe (pvd 2) (by exact ped_callB PD.cr_len adc_len rfl T.n_len boot_len (by exact pad_cons (by exact ped_fld T.cl_Yard T.no_Yard_log (pvd 2)) pad_nil))) (by exact psd_cons (by exact psd_fld T.cl_Yard T.no_Yard_many (pvd 2) (by exact ped_fld T.cl_Yard T.no_Yard_many (pvd 0))) (by exact psd_one (by exact psd_ret (by exact ped_me0 (ps := ["self"]) (pvd 2) (by exact T.cl_Yard) (by exact D_Yard_mended.m) (by exact D_Yard_mended.F) (by exact HR_Yard_mended) (by exact L2N.takes_of rfl rfl rfl rfl) (by exact D_Yard_mended.b))))))))))⟩
  exact h
def N_law_draws : List Str := ["script", "draws", "cell", "number", "first", "k", "seed"]
theorem sc_law_draws : FnScope N_law_draws ["script"] (defScope t_law_draws) := ⟨rfl, rfl, rfl, by decide +kernel, rfl, by decide +kernel, by decide +kernel⟩
noncomputable def s_law_draws_0 (A : Adr) : SM := (sSeq (sAsg (eBin gMod (eCall cInt (aCons (eBin gAdd (eBin gMul (eVar 6) (eC (.int 48271))) (eC (.int 69621))) aNil)) (eC (.int 2147483647))) (gSet 6))
 (sEx (eMeL mAppend (eVar 1) (aCons (eBin gDiv (eVar 6) (eC (.int 5))) aNil))))
noncomputable def s_law_draws_1 (A : Adr) : SM := (sIf (eTest (eBin gGt (eVar 3) (eC (.int 0)))) (sSeq (sEx (eMeL mAppend (eVar 1) (aCons (eBin gMod (eCall cInt (aCons (eVar 3) aNil)) (eC (.int 997))) aNil)))
 (sAsg (eBin gDiv (eVar 3) (eC (.int 997))) (gSet 3))) sNx)
noncomputable def s_law_draws_2 (A : Adr) : SM := (sSeq (sAsg (eCall cAbs (aCons (eVar 2) aNil)) (gSet 3))
 (sSeq (sIf (eTest (eBin gLt (eVar 3) (eBin gPow (eC (.int 10)) (eC (.int 18))))) (sSeq (sAsg (eBin gMod (eCall cInt (aCons (eBin gAdd (eBin gMul (eVar 3) (eC (.int 48271))) (eC (.int 11))) aNil)) (eC (.int 2147483647))) (gSet 4))
 (sSeq (sEx (eMeL mAppend (eVar 1) (aCons (eBin gMod (eCall cInt (aCons (eBin gAdd (eBin gMul (eVar 4) (eC (.int 69621))) (eVar 3)) aNil)) (eC (.int 2147483629))) aNil)))
 (sSeq (sEx (eMeL mAppend (eVar 1) (aCons (eBin gMod (eCall cInt (aCons (eBin gAdd (eVar 4) (eBin gDiv (eVar 3) (eC (.int 7)))) aNil)) (eC (.int 1000003))) aNil)))
 (sAsg (eC (.int 0)) (gSet 3))))) sNx)
 (sFor (iRngA (aCons (eC (.int 60)) aNil)) (gSet 5) (s_law_draws_1 A))))
noncomputable def s_law_draws (A : Adr) : SM := (sSeq (sAsg (eNew aNil) (gSet 1))
 (sSeq (sFor (iSeq (eVar 0)) (gSet 2) (s_law_draws_2 A))
 (sSeq (sAsg (eC (.int 1)) (gSet 6))
 (sSeq (sIf (eTest (eBin gGt (eCall cLen (aCons (eVar 0) aNil)) (eC (.int 0)))) (sAsg (eBin gAdd (eC (.int 1)) (eCall cAbs (aCons (eBin gIx (eVar 0) (eC (.int 0))) aNil))) (gSet 6)) sNx)
 (sSeq (sFor (iRngA (aCons (eC (.int 900)) aNil)) (gSet 5) (s_law_draws_0 A))
 (sRet (eRevM (eVar 1))))))))
noncomputable def f_law_draws (A : Adr) : FM := runB N_law_draws.length (s_law_draws A)
theorem ok_law_draws {P : Program} {w : World} {K : PySem.W.Frag} {mg : Str → Option Value} {base : Heap} {A : Adr} {a : Addr} {fd : FuncData} (T : Txt K mg A) (F : Fun K "_law_draws" "_law_draws" t_law_draws a fd) : FnD P w K mg base 1 a fd ["script"] (f_law_draws A) := by
  have h : FnD P w K mg base (0 + 1) a fd ["script"] (runB N_law_draws.length (s_law_draws A)) := by
    apply fnd_of F sc_law_draws
    intro cdv A' outer s H E hr
    exact ⟨_, (by exact psd_cons (by exact psd_asg (by exact ped_new pad_nil) (by exact pgd_name (i := 1) sc_law_draws.nd rfl (Or.inl rfl))) (by exact psd_cons (by exact psd_for (passes_of rfl) rfl (by exact pid_seq (pvd 0)) (by exact pgd_name (i := 2) sc_law_draws.nd rfl (Or.inl rfl)) (by exact psd_cons (by exact psd_asg (by exact ped_callB call_abs adc_abs rfl T.n_abs boot_abs (by exact pad_cons (pvd 2) pad_nil)) (by exact pgd_name (i := 3) sc_law_draws.nd rfl (Or.inl rfl))) (by exact psd_cons (by exact psd_if (by exact ptd_cmp op_lt ad_lt (pvd 3) (by exact ped_op op_pow ad_pow ped_int ped_int) (by exact nomark _)) (by exact psd_cons (by exact psd_asg (by exact ped_op op_mod ad_mod (by exact ped_callTy call_int1 adc_int rfl T.n_int boot_int (by exact pad_cons (by exact ped_op opd_add ad_add (by exact ped_op opd_mul ad_mul (pvd 3) ped_int) ped_int) pad_nil)) ped_int) (by exact pgd_name (i := 4) sc_law_draws.nd rfl (Or.inl rfl))) (by exact psd_cons (by exact psd_expr (by exact ped_meL PySem.F.slot_list_append PySem.F.type_list_append mt_append adm_append (pvd 1) (by exact pad_cons (by exact ped_op op_mod ad_mod (by exact ped_callTy call_int1 adc_int rfl T.n_int boot_int (by exact pad_cons (by exact ped_op opd_add ad_add (by exact ped_op opd_mul ad_mul (pvd 4) ped_int) (pvd 3)) pad_nil)) ped_int) pad_nil))) (by exact psd_cons (by exact psd_expr (by exact ped_meL PySem.F.slot_list_append PySem.F.type_list_append mt_append adm_append (pvd 1) (by exact pad_cons (by exact ped_op op_mod ad_mod (by exact ped_callTy call_int1 adc_int rfl T.n_int boot_int (by exact pad_cons (by exact ped_op opd_add ad_add (pvd 4) (by exact ped_op op_fdiv ad_div (pvd 3) ped_int)) pad_nil)) ped_int) pad_nil))) (by exact psd_one (by exact psd_asg ped_int (by exact pgd_name (i := 3) sc_law_draws.nd rfl (Or.inl rfl))))))) psd_nil) (by exact psd_one (by exact psd_for (passes_of rfl) rfl (by exact pid_rng1 rfl T.n_range (by exact pad_cons ped_int pad_nil)) (by exact pgd_name (i := 5) sc_law_draws.nd rfl (Or.inl rfl)) (by exact psd_one (by exact psd_if (by exact ptd_cmp op_gt ad_gt (pvd 3) ped_int (by exact nomark _)) (by exact psd_cons (by exact psd_expr (by exact ped_meL PySem.F.slot_list_append PySem.F.type_list_append mt_append adm_append (pvd 1) (by exact pad_cons (by exact ped_op op_mod ad_mod (by exact ped_callTy call_int1 adc_int rfl T.n_int boot_int (by exact pad_cons (pvd 3) pad_nil)) ped_int) pad_nil))) (by exact psd_one (by exact psd_asg (by exact ped_op op_fdiv ad_div (pvd 3) ped_int) (by exact pgd_name (i := 3) sc_law_draws.nd rfl (Or.inl rfl))))) psd_nil))))))) (by exact psd_cons (by exact psd_asg ped_int (by exact pgd_name (i := 6) sc_law_draws.nd rfl (Or.inl rfl))) (by exact psd_cons (by exact psd_if (by exact ptd_cmp op_gt ad_gt (by exact ped_callB PD.cr_len adc_len rfl T.n_len boot_len (by exact pad_cons (pvd 0) pad_nil)) ped_int (by exact nomark _)) (by exact psd_one (by exact psd_asg (by exact ped_op opd_add ad_add ped_int (by exact ped_callB call_abs adc_abs rfl T.n_abs boot_abs (by exact pad_cons (by exact ped_ix (pvd 0) ped_int) pad_nil))) (by exact pgd_name (i := 6) sc_law_draws.nd rfl (Or.inl rfl)))) psd_nil) (by exact psd_cons (by exact psd_for (passes_of rfl) rfl (by exact pid_rng1 rfl T.n_range (by exact pad_cons ped_int pad_nil)) (by exact pgd_name (i := 5) sc_law_draws.nd rfl (Or.inl rfl)) (by exact psd_cons (by exact psd_asg (by exact ped_op op_mod ad_mod (by exact ped_callTy call_int1 adc_int rfl T.n_int boot_int (by exact pad_cons (by exact ped_op opd_add ad_add (by exact ped_op opd_mul ad_mul (pvd 6) ped_int) ped_int) pad_nil)) ped_int) (by exact pgd_name (i := 6) sc_law_draws.nd rfl (Or.inl rfl))) (by exact psd_one (by exact psd_expr (by exact ped_meL PySem.F.slot_list_append PySem.F.type_list_append mt_append adm_append (pvd 1) (by exact pad_cons (by exact ped_op op_fdiv ad_div (pvd 6) ped_int) pad_nil)))))) (by exact psd_one (by exact psd_ret (by exact ped_revM rfl rfl T.n_list rfl T.n_reversed (pvd 1)))))))))⟩
  exact h
def N_law_take : List Str := ["draws", "limit"]
theorem sc_law_take : FnScope N_law_take ["draws", "limit"] (defScope t_law_take) := ⟨rfl, rfl, rfl, by decide +kernel, rfl, by decide +kernel, by decide +kernel⟩
noncomputable def s_law_take (A : Adr) : SM := (sSeq (sIf (eTest (eBin gEq (eCall cLen (aCons (eVar 0) aNil)) (eC (.int 0)))) (sRet (eC (.int 0))) sNx)
 (sRet (eBin gMod (eCall cInt (aCons (eMeL0 mPop (eVar 0)) aNil)) (eVar 1))))
noncomputable def f_law_take (A : Adr) : FM := runB N_law_take.length (s_law_take A)
theorem ok_law_take {P : Program} {w : World} {K : PySem.W.Frag} {mg : Str → Option Value} {base : Heap} {A : Adr} {a : Addr} {fd : FuncData} (T : Txt K mg A) (F : Fun K "_law_take" "_law_take" t_law_take a fd) : FnD P w K mg base 1 a fd ["draws", "limit"] (f_law_take A) := by
  have h : FnD P w K mg base (0 + 1) a fd ["draws", "limit"] (runB N_law_take.length (s_law_take A)) := by
    apply fnd_of F sc_law_take
    intro cdv A' outer s H E hr
    exact ⟨_, (by exact psd_cons (by exact psd_if (by exact ptd_cmp (by exact op_eqD (room64 hr)) (by exact ad_eq) (by exact ped_callB PD.cr_len adc_len rfl T.n_len boot_len (by exact pad_cons (pvd 0) pad_nil)) ped_int (by exact nomark _)) (by exact psd_one (by exact psd_ret ped_int)) psd_nil) (by exact psd_one (by exact psd_ret (by exact ped_op op_mod ad_mod (by exact ped_callTy call_int1 adc_int rfl T.n_int boot_int (by exact pad_cons (by exact ped_meL0 PySem.F.slot_list_pop PySem.F.type_list_pop mt_pop adm_pop (pvd 0)) pad_nil)) (pvd 1)))))⟩
  exact h
def N_law_alike : List Str := ["found", "due", "k"]
theorem sc_law_alike : FnScope N_law_alike ["found", "due"] (defScope t_law_alike) := ⟨rfl, rfl, rfl, by decide +kernel, rfl, by decide +kernel, by decide +kernel⟩
noncomputable def s_law_alike (A : Adr) (fr : FM) : SM := (sSeq (sIf (bOr (eTru (eCall cIsi (aCons (eVar 1) (aCons (eC (.ty "list")) aNil)))) (eTru (eCall cIsi (aCons (eVar 1) (aCons (eC (.ty "tuple")) aNil))))) (sSeq (sIf (bOr (eTest (eBin gNe (eCall cIsi (aCons (eVar 0) (aCons (eC (.ty "list")) aNil))) (eCall cIsi (aCons (eVar 1) (aCons (eC (.ty "list")) aNil))))) (eTest (eBin gNe (eCall cIsi (aCons (eVar 0) (aCons (eC (.ty "tuple")) aNil))) (eCall cIsi (aCons (eVar 1) (aCons (eC (.ty "tuple")) aNil)))))) (sRet (eC (.bl false))) sNx)
 (sRet (eAnd (eBin gEq (eCall cLen (aCons (eVar 0) aNil)) (eCall cLen (aCons (eVar 1) aNil))) (eBin gEq (eCmp (iRngA (aCons (eCall cLen (aCons (eVar 1) aNil)) aNil)) [2] (gSet 2) (bNot (eTru (eFn 2 fr (aCons (eBin gIx (eVar 0) (eVar 2)) (aCons (eBin gIx (eVar 1) (eVar 2)) aNil))))) (eVar 2)) (eLst aNil))))) sNx)
 (sSeq (sIf (eTest (eBin gIsN (eVar 1) (eC .non))) (sRet (eBin gIsN (eVar 0) (eC .non))) sNx)
 (sSeq (sIf (bOr (eTru (eCall cIsi (aCons (eVar 1) (aCons (eC (.ty "bool")) aNil)))) (eTru (eCall cIsi (aCons (eVar 0) (aCons (eC (.ty "bool")) aNil))))) (sRet (eAnd (eCall cIsi (aCons (eVar 0) (aCons (eC (.ty "bool")) aNil))) (eAnd (eCall cIsi (aCons (eVar 1) (aCons (eC (.ty "bool")) aNil))) (eBin gEq (eVar 0) (eVar 1))))) sNx)
 (sSeq (sIf (eTru (eCall cIsi (aCons (eVar 1) (aCons (eC (.ty "int")) aNil)))) (sRet (eAnd (eCall cIsi (aCons (eVar 0) (aCons (eC (.ty "int")) aNil))) (eBin gEq (eVar 0) (eVar 1)))) sNx)
 (sRet (eAnd (eCall cIsi (aCons (eVar 0) (aCons (eC (.ty "str")) aNil))) (eBin gEq (eVar 0) (eVar 1))))))))
noncomputable def fr_law_alike (A : Adr) : Nat → FM
  | 0 => fun _ _ => .no
  | n + 1 => runB N_law_alike.length (s_law_alike A (fr_law_alike A n))
noncomputable abbrev f_law_alike (A : Adr) : FM := fr_law_alike A 6
theorem ok_law_alike {P : Program} {w : World} {K : PySem.W.Frag} {mg : Str → Option Value} {base : Heap} {A : Adr} {a : Addr} {fd : FuncData} (T : Txt K mg A) (F : Fun K "_law_alike" "_law_alike" t_law_alike a fd) (hg : mg "_law_alike" = some (.ref a)) (hk : PySem.W.keepIn K (.ref a) = true) (hb : Binds K fd ["found", "due"] []) : ∀ n : Nat, FnD P w K mg base (1 + n) a fd ["found", "due"] (fr_law_alike A n) := by
  intro n
  induction n with
  | zero => exact fnd_no
  | succ n ih =>
  have Fr : DOk P w K mg base "_law_alike" (1 + n) a fd ["found", "due"] (fr_law_alike A n) := ⟨ih, hg, hk, hb⟩
  have h : FnD P w K mg base (1 + n + 1) a fd ["found", "due"] (runB N_law_alike.length (s_law_alike A (fr_law_alike A n))) := by
    apply fnd_of F sc_law_alike
    intro cdv A' outer s H E hr
    have HRr : Room (1 + n) _ := hr
    exact ⟨_, (by exact psd_cons (by exact psd_if (by exact PWD.pt (by exact pwd_or (by exact ptd_truth (by exact ped_callB call_isi adc_isi rfl T.n_isinstance boot_isinstance (by exact pad_cons (pvd 1) (by exact pad_cons (by exact ped_ty (by exact rfl) T.n_list boot_list) pad_nil)))) (by exact pwd_or1 (by exact ptd_truth (by exact ped_callB call_isi adc_isi rfl T.n_isinstance boot_isinstance (by exact pad_cons (pvd 1) (by exact pad_cons (by exact ped_ty (by exact rfl) T.n_tuple boot_tuple) pad_nil))))))) (by exact psd_cons (by exact psd_if (by exact PWD.pt (by exact pwd_or (by exact ptd_cmp (by exact op_neD (room64 hr)) (by exact ad_ne) (by exact ped_callB call_isi adc_isi rfl T.n_isinstance boot_isinstance (by exact pad_cons (pvd 0) (by exact pad_cons (by exact ped_ty (by exact rfl) T.n_list boot_list) pad_nil))) (by exact ped_callB call_isi adc_isi rfl T.n_isinstance boot_isinstance (by exact pad_cons (pvd 1) (by exact pad_cons (by exact ped_ty (by exact rfl) T.n_list boot_list) pad_nil))) (by exact nomark _)) (by exact pwd_or1 (by exact ptd_cmp (by exact op_neD (room64 hr)) (by exact ad_ne) (by exact ped_callB call_isi adc_isi rfl T.n_isinstance boot_isinstance (by exact pad_cons (pvd 0) (by exact pad_cons (by exact ped_ty (by exact rfl) T.n_tuple boot_tuple) pad_nil))) (by exact ped_callB call_isi adc_isi rfl T.n_isinstance boot_isinstance (by exact pad_cons (pvd 1) (by exact pad_cons (by exact ped_ty (by exact rfl) T.n_tuple boot_tuple) pad_nil))) (by exact nomark _))))) (by exact psd_one (by exact psd_ret ped_bl)) psd_nil) (by exact psd_one (by exact psd_ret (by exact ped_and (by exact ped_cmp (by exact op_eqD (room64 hr)) (by exact ad_eq) (by exact ped_callB PD.cr_len adc_len rfl T.n_len boot_len (by exact pad_cons (pvd 0) pad_nil)) (by exact ped_callB PD.cr_len adc_len rfl T.n_len boot_len (by exact pad_cons (pvd 1) pad_nil)) (by exact nomark _)) (by exact ped_one (by exact ped_cmp (by exact op_eqD (room64 hr)) (by exact ad_eq) (by exact ped_cmpC (own := [("k", 2)]) (g := (gName 2)) rfl sc_law_alike.nd (by exact pid_rng1 rfl T.n_range (by exact pad_cons (by exact ped_callB PD.cr_len adc_len rfl T.n_len boot_len (by exact pad_cons (pvd 1) pad_nil)) pad_nil)) (blkOk_by (own := [("k", 2)]) (N := N_law_alike) (sc := defScope t_law_alike) (by decide +kernel)) (gown_name (by decide)) (fun _ _ _ _ _ => (by exact pgd_name (i := 2) sc_law_alike.nd rfl (Or.inl rfl))) (fun _ _ _ _ _ => ⟨_, (by exact ptsd_one (by exact ptd_not (by exact ptd_truth (by exact ped_fn (ps := ["found", "due"]) (by exact Fr.F) (by exact HRr) takes0N (by exact rfl) (by exact Fr.g) (by exact Fr.k) (by exact Fr.b) (by exact pad_cons (by exact ped_ix (pvd 0) (pvd 2)) (by exact pad_cons (by exact ped_ix (pvd 1) (pvd 2)) pad_nil))))))⟩) (fun _ _ _ _ _ => ⟨_, (pvd 2)⟩)) (by exact ped_lst pad_nil) (by exact nomark _))))))) psd_nil) (by exact psd_cons (by exact psd_if (by exact ptd_cmp op_isN ad_isN (pvd 1) ped_non (by exact nomark _)) (by exact psd_one (by exact psd_ret (by exact ped_cmp op_isN ad_isN (pvd 0) ped_non (by exact nomark _)))) psd_nil) (by exact psd_cons (by exact psd_if (by exact PWD.pt (by exact pwd_or (by exact ptd_truth (by exact ped_callB call_isi adc_isi rfl T.n_isinstance boot_isinstance (by exact pad_cons (pvd 1) (by exact pad_cons (by exact ped_ty (by exact rfl) T.n_bool boot_bool) pad_nil)))) (by exact pwd_or1 (by exact ptd_truth (by exact ped_callB call_isi adc_isi rfl T.n_isinstance boot_isinstance (by exact pad_cons (pvd 0) (by exact pad_cons (by exact ped_ty (by exact rfl) T.n_bool boot_bool) pad_nil))))))) (by exact psd_one (by exact psd_ret (by exact ped_and (by exact ped_callB call_isi adc_isi rfl T.n_isinstance boot_isinstance (by exact pad_cons (pvd 0) (by exact pad_cons (by exact ped_ty (by exact rfl) T.n_bool boot_bool) pad_nil))) (by exact ped_and (by exact ped_callB call_isi adc_isi rfl T.n_isinstance boot_isinstance (by exact pad_cons (pvd 1) (by exact pad_cons (by exact ped_ty (by exact rfl) T.n_bool boot_bool) pad_nil))) (by exact ped_one (by exact ped_cmp (by exact op_eqD (room64 hr)) (by exact ad_eq) (pvd 0) (pvd 1) (by exact nomark _))))))) psd_nil) (by exact psd_cons (by exact psd_if (by exact ptd_truth (by exact ped_callB call_isi adc_isi rfl T.n_isinstance boot_isinstance (by exact pad_cons (pvd 1) (by exact pad_cons (by exact ped_ty (by exact rfl) T.n_int boot_int) pad_nil)))) (by exact psd_one (by exact psd_ret (by exact ped_and (by exact ped_callB call_isi adc_isi rfl T.n_isinstance boot_isinstance (by exact pad_cons (pvd 0) (by exact pad_cons (by exact ped_ty (by exact rfl) T.n_int boot_int) pad_nil))) (by exact ped_one (by exact ped_cmp (by exact op_eqD (room64 hr)) (by exact ad_eq) (pvd 0) (pvd 1) (by exact nomark _)))))) psd_nil) (by exact psd_one (by exact psd_ret (by exact ped_and (by exact ped_callB call_isi adc_isi rfl T.n_isinstance boot_isinstance (by exact pad_cons (pvd 0) (by exact pad_cons (by exact ped_ty (by exact rfl) T.n_str boot_str) pad_nil))) (by exact ped_one (by exact ped_cmp (by exact op_eqD (room64 hr)) (by exact ad_eq) (pvd 0) (pvd 1) (by exact nomark _))))))))))⟩
  exact h
def N_law_word : List Str := ["e", "kinds", "kind"]
theorem sc_law_word : FnScope N_law_word ["e"] (defScope t_law_word) := ⟨rfl, rfl, rfl, by decide +kernel, rfl, by decide +kernel, by decide +kernel⟩
noncomputable def s_law_word (A : Adr) (a c : Addr) : SM := (sSeq (sAsg (eLst (aCons (eCall (cIsE1 a A.OutOfRange (decide (c = A.OutOfRange))) (aCons (eVar 0) (aCons (eC (.ref A.OutOfRange)) aNil))) (aCons (eCall (cIsE1 a A.Malformed (decide (c = A.Malformed))) (aCons (eVar 0) (aCons (eC (.ref A.Malformed)) aNil))) (aCons (eCall (cIsE1 a A.NotThere (decide (c = A.NotThere))) (aCons (eVar 0) (aCons (eC (.ref A.NotThere)) aNil))) (aCons (eCall (cIsE1 a A.Refused (decide (c = A.Refused))) (aCons (eVar 0) (aCons (eC (.ref A.Refused)) aNil))) (aCons (eCall (cIsE1 a A.TooMuch (decide (c = A.TooMuch))) (aCons (eVar 0) (aCons (eC (.ref A.TooMuch)) aNil))) aNil)))))) (gSet 1))
 (sSeq (sIf (eTest (eBin gNe (eCall cLen (aCons (eCmp (iLst (eVar 1)) [2] (gSet 2) (eTru (eVar 2)) (eVar 2)) aNil)) (eC (.int 1)))) (sRet (eC (.str "many"))) sNx)
 (sRet (eBin gIx (eLst (aCons (eC (.str "range")) (aCons (eC (.str "form")) (aCons (eC (.str "none")) (aCons (eC (.str "refused")) (aCons (eC (.str "much")) aNil)))))) (eMeL mIndex (eVar 1) (aCons (eC (.bl true)) aNil))))))
theorem ok_law_word {P : Program} {w : World} {K : PySem.W.Frag} {mg : Str → Option Value} {base : Heap} {A : Adr} {a : Addr} {fd : FuncData} (T : Txt K mg A) (F : Fun K "_law_word" "_law_word" t_law_word a fd) (hw : ∀ a c r μ, wd A c = some r → fin (s_law_word A a c (startW N_law_word.length [.ref a]) μ) = .ok r μ) : PDM.FnP P w K mg base (L2N.CX P w) 1 a fd ["e"] (spW K (wd A)) := by
  refine fnw_of (m := s_law_word A) F sc_law_word hw fun cdv A' outer s H E p c hot hr h1 h2 h3 hw => ?_
  have hc := wd_isE hw
  obtain ⟨a, oe⟩ := p
  have hm : (a, oe) ∈ [(a, oe)] := List.mem_cons_self
  exact ⟨_, (by exact psd_cons (by exact psd_asg (by exact ped_lst (by exact pad_cons (by exact ped_callB (PDM.call_isP (D := c) (T.exc hc) hm ⟨h1, h2⟩ h3) (adc_isE1 (T.kit_OutOfRange hc)) rfl T.n_isinstance boot_isinstance (by exact pad_cons (pvd 0) (by exact pad_cons (by exact ped_gref (by exact rfl) T.e_OutOfRange.g) pad_nil))) (by exact pad_cons (by exact ped_callB (PDM.call_isP (D := c) (T.exc hc) hm ⟨h1, h2⟩ h3) (adc_isE1 (T.kit_Malformed hc)) rfl T.n_isinstance boot_isinstance (by exact pad_cons (pvd 0) (by exact pad_cons (by exact ped_gref (by exact rfl) T.e_Malformed.g) pad_nil))) (by exact pad_cons (by exact ped_callB (PDM.call_isP (D := c) (T.exc hc) hm ⟨h1, h2⟩ h3) (adc_isE1 (T.kit_NotThere hc)) rfl T.n_isinstance boot_isinstance (by exact pad_cons (pvd 0) (by exact pad_cons (by exact ped_gref (by exact rfl) T.e_NotThere.g) pad_nil))) (by exact pad_cons (by exact ped_callB (PDM.call_isP (D := c) (T.exc hc) hm ⟨h1, h2⟩ h3) (adc_isE1 (T.kit_Refused hc)) rfl T.n_isinstance boot_isinstance (by exact pad_cons (pvd 0) (by exact pad_cons (by exact ped_gref (by exact rfl) T.e_Refused.g) pad_nil))) (by exact pad_cons (by exact ped_callB (PDM.call_isP (D := c) (T.exc hc) hm ⟨h1, h2⟩ h3) (adc_isE1 (T.kit_TooMuch hc)) rfl T.n_isinstance boot_isinstance (by exact pad_cons (pvd 0) (by exact pad_cons (by exact ped_gref (by exact rfl) T.e_TooMuch.g) pad_nil))) pad_nil)))))) (by exact pgd_name (i := 1) sc_law_word.nd rfl (Or.inl rfl))) (by exact psd_cons (by exact psd_if (by exact ptd_cmp (by exact op_neD (roomH64 hr)) (by exact ad_ne) (by exact ped_callB PD.cr_len adc_len rfl T.n_len boot_len (by exact pad_cons (by exact ped_cmpHC (own := [("kind", 2)]) (g := (gName 2)) ⟨_, hot, hm⟩ sc_law_word.nd (pvd 1) (blkOk_by (own := [("kind", 2)]) (N := N_law_word) (sc := defScope t_law_word) (by decide +kernel)) (gown_name (by decide)) (fun _ _ _ _ _ => (by exact pgd_name (i := 2) sc_law_word.nd rfl (Or.inl rfl))) (fun _ _ _ _ _ => ⟨_, (by exact ptsd_one (by exact ptd_truth (pvd 2)))⟩) (fun _ _ _ _ _ => ⟨_, (pvd 2)⟩)) pad_nil)) ped_int (by exact nomark _)) (by exact psd_one (by exact psd_ret ped_str)) psd_nil) (by exact psd_one (by exact psd_ret (by exact ped_ix (by exact ped_lst (by exact pad_cons ped_str (by exact pad_cons ped_str (by exact pad_cons ped_str (by exact pad_cons ped_str (by exact pad_cons ped_str pad_nil)))))) (by exact ped_meL PySem.F.slot_list_index PySem.F.type_list_index (mt_indexD (roomH65 hr)) adm_index (pvd 1) (by exact pad_cons ped_bl pad_nil)))))))⟩
def N_law_tried : List Str := ["which", "yard", "one", "other", "third", "e"]
theorem sc_law_tried : FnScope N_law_tried ["which", "yard", "one", "other", "third"] (defScope t_law_tried) := ⟨rfl, rfl, rfl, by decide +kernel, rfl, by decide +kernel, by decide +kernel⟩
noncomputable def b_law_tried (A : Adr) : SM := (sSeq (sIf (eTest (eBin gEq (eVar 0) (eC (.int 0)))) (sRet (eMe A.Yard "put" 4 (f_Yard_put A) (eVar 1) (aCons (eVar 2) (aCons (eVar 3) (aCons (eVar 4) aNil))))) sNx)
 (sSeq (sIf (eTest (eBin gEq (eVar 0) (eC (.int 1)))) (sRet (eMe A.Yard "end" 2 (f_Yard_end A) (eVar 1) (aCons (eVar 2) aNil))) sNx)
 (sSeq (sIf (eTest (eBin gEq (eVar 0) (eC (.int 2)))) (sRet (eMe A.Yard "drop" 2 (f_Yard_drop A) (eVar 1) (aCons (eVar 2) aNil))) sNx)
 (sSeq (sIf (eTest (eBin gEq (eVar 0) (eC (.int 3)))) (sRet (eMe A.Yard "flush" 2 (f_Yard_flush A) (eVar 1) (aCons (eVar 2) aNil))) sNx)
 (sRet (eIf (eTest (eBin gEq (eVar 0) (eC (.int 4)))) (eMe A.Yard "text" 2 (f_Yard_text A) (eVar 1) (aCons (eVar 2) aNil)) (eBin gNotN (eMk A.Yard 2 (f_Yard_init A) (aCons (eVar 2) aNil)) (eC .non))))))))
noncomputable def s_law_tried (A : Adr) : SM := sTryW 5 (hit A) (wd A) (b_law_tried A)
noncomputable def f_law_tried (A : Adr) : FM := runB N_law_tried.length (s_law_tried A)
theorem ok_law_tried {P : Program} {w : World} {K : PySem.W.Frag} {mg : Str → Option Value} {base : Heap} {A : Adr} {a a_Yard_text a_Yard_init a_Yard_flush a_Yard_drop a_Yard_end a_Yard_put a_w : Addr} {fd fd_Yard_text fd_Yard_init fd_Yard_flush fd_Yard_drop fd_Yard_end fd_Yard_put fd_w : FuncData} (T : Txt K mg A) (F : Fun K "_law_tried" "_law_tried" t_law_tried a fd) (D_Yard_text : MOk P w K mg base A.Yard "text" 3 a_Yard_text fd_Yard_text ["self", "name"] (f_Yard_text A)) (D_Yard_init : IOk P w K mg base A.Yard "Yard" 5 a_Yard_init fd_Yard_init ["self", "names"] (f_Yard_init A)) (D_Yard_flush : MOk P w K mg base A.Yard "flush" 4 a_Yard_flush fd_Yard_flush ["self", "name"] (f_Yard_flush A)) (D_Yard_drop : MOk P w K mg base A.Yard "drop" 4 a_Yard_drop fd_Yard_drop ["self", "work"] (f_Yard_drop A)) (D_Yard_end : MOk P w K mg base A.Yard "end" 3 a_Yard_end fd_Yard_end ["self", "work"] (f_Yard_end A)) (D_Yard_put : MOk P w K mg base A.Yard "put" 4 a_Yard_put fd_Yard_put ["self", "work", "name", "text"] (f_Yard_put A)) (W_F : PDM.FnP P w K mg base (L2N.CX P w) 1 a_w fd_w ["e"] (spW K (wd A))) (W_g : mg "_law_word" = some (.ref a_w)) (W_k : PySem.W.keepIn K (.ref a_w) = true) (W_b : Binds K fd_w ["e"] []) : FnD P w K mg base 7 a fd ["which", "yard", "one", "other", "third"] (f_law_tried A) := by
  have h : FnD P w K mg base (6 + 1) a fd ["which", "yard", "one", "other", "third"] (runB N_law_tried.length (s_law_tried A)) := by
    apply fnd_of F sc_law_tried
    intro cdv A' outer s H E hr
    have HR_Yard_text : Room 3 _ := hr.mono (by decide)
    have HR2_Yard_init : Room (5 + 1) _ := hr.mono (by decide)
    have HR_Yard_flush : Room 4 _ := hr.mono (by decide)
    have HR_Yard_drop : Room 4 _ := hr.mono (by decide)
    have HR_Yard_end : Room 3 _ := hr.mono (by decide)
    have HR_Yard_put : Room 4 _ := hr.mono (by decide)
    have HRw : Room 1 _ := hr.mono (by decide)
    exact ex_one (by exact psd_trywC (X := cxOf (L2N.CX P w) P w K mg base N_law_tried "_law_tried" (defScope t_law_tried) a cdv A' outer s H E) (Wx := fun cls d _ H => E cls d H) (x := "PathError") (n := "e") (f := "_law_word") (i := 5) (y := "e") (m := b_law_tried A) (hit := hit A) (wd := wd A) rfl rfl sc_law_tried.nd rfl rfl (by exact ⟨rfl, by decide, .inl T.e_PathError.g⟩) (by exact L2N.takes_of rfl rfl rfl rfl) (T.hits) W_F HRw (by exact rfl) W_g W_k W_b (fun W pn xe tk => ⟨_, (by exact psd_cons (by exact psd_if (by exact ptd_cmp (by exact op_eqD (room64 hr)) (by exact ad_eq) (pvd 0) ped_int (by exact nomark _)) (by exact psd_one (by exact psd_ret (by exact ped_me (ps := ["self", "work", "name", "text"]) (pvd 1) (by exact T.cl_Yard) (by exact D_Yard_put.m) (by exact D_Yard_put.F) (by exact HR_Yard_put) tk (by exact D_Yard_put.b) (by exact pad_cons (pvd 2) (by exact pad_cons (pvd 3) (by exact pad_cons (pvd 4) pad_nil)))))) psd_nil) (by exact psd_cons (by exact psd_if (by exact ptd_cmp (by exact op_eqD (room64 hr)) (by exact ad_eq) (pvd 0) ped_int (by exact nomark _)) (by exact psd_one (by exact psd_ret (by exact ped_me (ps := ["self", "work"]) (pvd 1) (by exact T.cl_Yard) (by exact D_Yard_end.m) (by exact D_Yard_end.F) (by exact HR_Yard_end) tk (by exact D_Yard_end.b) (by exact pad_cons (pvd 2) pad_nil)))) psd_nil) (by exact psd_cons (by exact psd_if (by exact ptd_cmp (by exact op_eqD (room64 hr)) (by exact ad_eq) (pvd 0) ped_int (by exact nomark _)) (by exact psd_one (by exact psd_ret (by exact ped_me (ps := ["self", "work"]) (pvd 1) (by exact T.cl_Yard) (by exact D_Yard_drop.m) (by exact D_Yard_drop.F) (by exact HR_Yard_drop) tk (by exact D_Yard_drop.b) (by exact pad_cons (pvd 2) pad_nil)))) psd_nil) (by exact psd_cons (by exact psd_if (by exact ptd_cmp (by exact op_eqD (room64 hr)) (by exact ad_eq) (pvd 0) ped_int (by exact nomark _)) (by exact psd_one (by exact psd_ret (by exact ped_me (ps := ["self", "name"]) (pvd 1) (by exact T.cl_Yard) (by exact D_Yard_flush.m) (by exact D_Yard_flush.F) (by exact HR_Yard_flush) tk (by exact D_Yard_flush.b) (by exact pad_cons (pvd 2) pad_nil)))) psd_nil) (by exact psd_one (by exact psd_ret (by exact ped_if (by exact ptd_cmp (by exact op_eqD (room64 hr)) (by exact ad_eq) (pvd 0) ped_int (by exact nomark _)) (by exact ped_me (ps := ["self", "name"]) (pvd 1) (by exact T.cl_Yard) (by exact D_Yard_text.m) (by exact D_Yard_text.F) (by exact HR_Yard_text) tk (by exact D_Yard_text.b) (by exact pad_cons (pvd 2) pad_nil)) (by exact ped_cmp op_notN ad_notN (by exact ped_mk (ps := ["self", "names"]) (by exact D_Yard_init.M) (by exact D_Yard_init.F) (by exact HR2_Yard_init) tk (by exact rfl) (by exact D_Yard_init.g) (by exact D_Yard_init.b) (by exact pad_cons (pvd 2) pad_nil)) ped_non (by exact nomark _)))))))))⟩) (hvar := fun _ _ => (pvd (Wx := W0) 5).pe))
  exact h
def N_law_crashed : List Str := ["yard", "kept", "e"]
theorem sc_law_crashed : FnScope N_law_crashed ["yard", "kept"] (defScope t_law_crashed) := ⟨rfl, rfl, rfl, by decide +kernel, rfl, by decide +kernel, by decide +kernel⟩
noncomputable def b_law_crashed (A : Adr) : SM := (sRet (eMe A.Yard "crashed" 2 (f_Yard_crashed A) (eVar 0) (aCons (eVar 1) aNil)))
noncomputable def s_law_crashed (A : Adr) : SM := sTryW 2 (hit A) (wd A) (b_law_crashed A)
noncomputable def f_law_crashed (A : Adr) : FM := runB N_law_crashed.length (s_law_crashed A)
theorem ok_law_crashed {P : Program} {w : World} {K : PySem.W.Frag} {mg : Str → Option Value} {base : Heap} {A : Adr} {a a_Yard_crashed a_w : Addr} {fd fd_Yard_crashed fd_w : FuncData} (T : Txt K mg A) (F : Fun K "_law_crashed" "_law_crashed" t_law_crashed a fd) (D_Yard_crashed : MOk P w K mg base A.Yard "crashed" 7 a_Yard_crashed fd_Yard_crashed ["self", "kept"] (f_Yard_crashed A)) (W_F : PDM.FnP P w K mg base (L2N.CX P w) 1 a_w fd_w ["e"] (spW K (wd A))) (W_g : mg "_law_word" = some (.ref a_w)) (W_k : PySem.W.keepIn K (.ref a_w) = true) (W_b : Binds K fd_w ["e"] []) : FnD P w K mg base 8 a fd ["yard", "kept"] (f_law_crashed A) := by
  have h : FnD P w K mg base (7 + 1) a fd ["yard", "kept"] (runB N_law_crashed.length (s_law_crashed A)) := by
    apply fnd_of F sc_law_crashed
    intro cdv A' outer s H E hr
    have HR_Yard_crashed : Room 7 _ := hr.mono (by decide)
    have HRw : Room 1 _ := hr.mono (by decide)
    exact ex_one (by exact psd_trywC (X := cxOf (L2N.CX P w) P w K mg base N_law_crashed "_law_crashed" (defScope t_law_crashed) a cdv A' outer s H E) (Wx := fun cls d _ H => E cls d H) (x := "PathError") (n := "e") (f := "_law_word") (i := 2) (y := "e") (m := b_law_crashed A) (hit := hit A) (wd := wd A) rfl rfl sc_law_crashed.nd rfl rfl (by exact ⟨rfl, by decide, .inl T.e_PathError.g⟩) (by exact L2N.takes_of rfl rfl rfl rfl) (T.hits) W_F HRw (by exact rfl) W_g W_k W_b (fun W pn xe tk => ⟨_, (by exact psd_one (by exact psd_ret (by exact ped_me (ps := ["self", "kept"]) (pvd 0) (by exact T.cl_Yard) (by exact D_Yard_crashed.m) (by exact D_Yard_crashed.F) (by exact HR_Yard_crashed) tk (by exact D_Yard_crashed.b) (by exact pad_cons (pvd 1) pad_nil))))⟩) (hvar := fun _ _ => (pvd (Wx := W0) 2).pe))
  exact h
def N_law_behind : List Str := ["first", "log", "cells", "ended", "row", "name"]
theorem sc_law_behind : FnScope N_law_behind ["first", "log"] (defScope t_law_behind) := ⟨rfl, rfl, rfl, by decide +kernel, rfl, by decide +kernel, by decide +kernel⟩
noncomputable def s_law_behind_0 (A : Adr) : SM := (sIf (bAnd (eTest (eBin gEq (eBin gIx (eVar 4) (eC (.int 0))) (eC (.str "put")))) (eTest (eBin gIn (eBin gIx (eVar 4) (eC (.int 1))) (eVar 3)))) (sAsg (eBin gIx (eVar 4) (eC (.int 3))) (gSubK (eVar 2) (eBin gIx (eVar 4) (eC (.int 2))))) sNx)
noncomputable def s_law_behind (A : Adr) : SM := (sSeq (sPar 2 3 (aCons (eCall cDictP (aCons (eCmpK (eVar 0) [5] (gSet 5) bYes (eTup (aCons (eVar 5) (aCons (eBin gIxK (eVar 0) (eVar 5)) aNil)))) aNil)) (aCons (eCmp (iSeq (eVar 1)) [4] (gSet 4) (eTest (eBin gEq (eBin gIx (eVar 4) (eC (.int 0))) (eC (.str "end")))) (eBin gIx (eVar 4) (eC (.int 1)))) aNil)))
 (sSeq (sFor (iSeq (eVar 1)) (gSet 4) (s_law_behind_0 A))
 (sRet (eVar 2))))
noncomputable def f_law_behind (A : Adr) : FM := runB N_law_behind.length (s_law_behind A)
theorem ok_law_behind {P : Program} {w : World} {K : PySem.W.Frag} {mg : Str → Option Value} {base : Heap} {A : Adr} {a : Addr} {fd : FuncData} (T : Txt K mg A) (F : Fun K "_law_behind" "_law_behind" t_law_behind a fd) : FnD P w K mg base 1 a fd ["first", "log"] (f_law_behind A) := by
  have h : FnD P w K mg base (0 + 1) a fd ["first", "log"] (runB N_law_behind.length (s_law_behind A)) := by
    apply fnd_of F sc_law_behind
    intro cdv A' outer s H E hr
    exact ⟨_, (by exact psd_cons (by exact psd_par rfl sc_law_behind.nd rfl rfl (by decide) rfl rfl (by exact pad_cons (by exact ped_callTy (call_dictP rfl) adc_dictP rfl T.n_dict boot_dict (by exact pad_cons (by exact ped_cmpKC (own := [("name", 5)]) (g := (gName 5)) rfl sc_law_behind.nd (pvd 0) (blkOk_by (own := [("name", 5)]) (N := N_law_behind) (sc := defScope t_law_behind) (by decide +kernel)) (gown_name (by decide)) (fun _ _ _ _ _ => (by exact pgd_name (i := 5) sc_law_behind.nd rfl (Or.inl rfl))) (fun _ _ _ _ _ => ⟨_, ptsd_nil⟩) (fun _ _ _ _ _ => ⟨_, (by exact ped_tup (by exact pad_cons (pvd 5) (by exact pad_cons (by exact ped_ixK (room65 hr) (pvd 0) (pvd 5)) pad_nil)))⟩)) pad_nil)) (by exact pad_cons (by exact ped_cmpC (own := [("row", 4)]) (g := (gName 4)) rfl sc_law_behind.nd (by exact pid_seq (pvd 1)) (blkOk_by (own := [("row", 4)]) (N := N_law_behind) (sc := defScope t_law_behind) (by decide +kernel)) (gown_name (by decide)) (fun _ _ _ _ _ => (by exact pgd_name (i := 4) sc_law_behind.nd rfl (Or.inl rfl))) (fun _ _ _ _ _ => ⟨_, (by exact ptsd_one (by exact ptd_cmp (by exact op_eqD (room64 hr)) (by exact ad_eq) (by exact ped_ix (pvd 4) ped_int) ped_str (by exact nomark _)))⟩) (fun _ _ _ _ _ => ⟨_, (by exact ped_ix (pvd 4) ped_int)⟩)) pad_nil)) rfl) (by exact psd_cons (by exact psd_for (passes_of rfl) rfl (by exact pid_seq (pvd 1)) (by exact pgd_name (i := 4) sc_law_behind.nd rfl (Or.inl rfl)) (by exact psd_one (by exact psd_if (by exact PWD.pt (by exact pwd_and (by exact ptd_cmp (by exact op_eqD (room64 hr)) (by exact ad_eq) (by exact ped_ix (pvd 4) ped_int) ped_str (by exact nomark _)) (by exact pwd_and1 (by exact ptd_cmp (by exact opd_in (room65 hr)) (by exact ad_in) (by exact ped_ix (pvd 4) ped_int) (pvd 3) rfl)))) (by exact psd_one (by exact psd_asg (by exact ped_ix (pvd 4) ped_int) (by exact pgd_subK (room65 hr) (pvd 2) (by exact ped_ix (pvd 4) ped_int)))) psd_nil))) (by exact psd_one (by exact psd_ret (pvd 2)))))⟩
  exact h
def N_law : List Str := ["script", "draws", "names", "yard", "hand", "first", "log", "safe", "going", "many", "turn", "pick_one", "name", "works", "work", "text", "held", "cell", "old", "kept", "words", "other", "row", "one", "which"]
theorem sc_law : FnScope N_law ["script"] (defScope t_law) := ⟨rfl, rfl, rfl, by decide +kernel, rfl, by decide +kernel, by decide +kernel⟩
noncomputable def s_law_0 (A : Adr) : SM := (sSeq (sEx (eMeL mAppend (eVar 6) (aCons (eTup (aCons (eC (.str "put")) (aCons (eVar 14) (aCons (eVar 17) (aCons (eVar 18) aNil))))) aNil)))
 (sAsg (eVar 18) (gSubK (eVar 4) (eVar 17))))
noncomputable def s_law_1 (A : Adr) : SM := (sSeq (sAsg (eTup (aCons (eFn 2 (f_law_take A) (aCons (eVar 1) (aCons (eC (.int 16)) aNil))) (aCons (eBin gIx (eVar 2) (eFn 2 (f_law_take A) (aCons (eVar 1) (aCons (eCall cLen (aCons (eVar 2) aNil)) aNil)))) aNil))) (gTupM 2 (gsCons (gSet 11) (gsCons (gSet 12) gsNil))))
 (sSeq (sAsg (eCall cSortI (aCons (eCall cListKF (aCons (eVar 8) aNil)) aNil)) (gSet 13))
 (sSeq (sIf (bAnd (eTest (eBin gLt (eVar 11) (eC (.int 2)))) (eTest (eBin gLt (eCall cLen (aCons (eVar 13) aNil)) (eC (.int 3))))) (sSeq (sAsg (eBin gAdd (eVar 9) (eC (.int 1))) (gSet 9))
 (sSeq (sIf (eTest (eBin gNe (eMe A.Yard "begin" 1 (f_Yard_begin A) (eVar 3) aNil) (eVar 9))) (sRet (eC (.bl false))) sNx)
 (sAsg (eNew aNil) (gSubK (eVar 8) (eVar 9))))) (sIf (bAnd (eTest (eBin gLt (eVar 11) (eC (.int 8)))) (eTest (eBin gNe (eVar 13) (eLst aNil)))) (sSeq (sAsg (eTup (aCons (eBin gIx (eVar 13) (eFn 2 (f_law_take A) (aCons (eVar 1) (aCons (eCall cLen (aCons (eVar 13) aNil)) aNil)))) (aCons (eBin gIx (eLst (aCons (eC (.str "x")) (aCons (eC (.str "yy")) (aCons (eC (.str "")) (aCons (eC (.str "z")) aNil))))) (eFn 2 (f_law_take A) (aCons (eVar 1) (aCons (eC (.int 4)) aNil)))) aNil))) (gTupM 2 (gsCons (gSet 14) (gsCons (gSet 15) gsNil))))
 (sSeq (sAsg (eCmp (iSeq (eVar 13)) [21] (gSet 21) (bAnd (eTest (eBin gNe (eVar 21) (eVar 14))) (eTest (eBin gIn (eVar 12) (eCmp (iSeq (eBin gIxK (eVar 8) (eVar 21))) [22] (gSet 22) bYes (eBin gIx (eVar 22) (eC (.int 0))))))) (eVar 21)) (gSet 16))
 (sSeq (sIf (eTest (eBin gNe (eFn 5 (f_law_tried A) (aCons (eC (.int 0)) (aCons (eVar 3) (aCons (eVar 14) (aCons (eVar 12) (aCons (eVar 15) aNil)))))) (eIf (eTest (eBin gNe (eVar 16) (eLst aNil))) (eC (.str "refused")) (eC .non)))) (sRet (eC (.bl false))) sNx)
 (sIf (eTest (eBin gEq (eVar 16) (eLst aNil))) (sSeq (sEx (eMeL mAppend (eVar 6) (aCons (eTup (aCons (eC (.str "put")) (aCons (eVar 14) (aCons (eVar 12) (aCons (eVar 15) aNil))))) aNil)))
 (sSeq (sEx (eMeL mAppend (eBin gIxK (eVar 8) (eVar 14)) (aCons (eTup (aCons (eVar 12) (aCons (eBin gIxK (eVar 4) (eVar 12)) aNil))) aNil)))
 (sAsg (eVar 15) (gSubK (eVar 4) (eVar 12))))) sNx)))) (sIf (bAnd (eTest (eBin gLt (eVar 11) (eC (.int 10)))) (eTest (eBin gNe (eVar 13) (eLst aNil)))) (sSeq (sAsg (eBin gIx (eVar 13) (eFn 2 (f_law_take A) (aCons (eVar 1) (aCons (eCall cLen (aCons (eVar 13) aNil)) aNil)))) (gSet 14))
 (sSeq (sIf (eTest (eBin gNotN (eFn 5 (f_law_tried A) (aCons (eC (.int 1)) (aCons (eVar 3) (aCons (eVar 14) (aCons (eC .non) (aCons (eC .non) aNil)))))) (eC .non))) (sRet (eC (.bl false))) sNx)
 (sSeq (sEx (eMeL mAppend (eVar 6) (aCons (eTup (aCons (eC (.str "end")) (aCons (eVar 14) aNil))) aNil)))
 (sEx (eDPop (eVar 8) (eVar 14)))))) (sIf (bAnd (eTest (eBin gEq (eVar 11) (eC (.int 10)))) (eTest (eBin gNe (eVar 13) (eLst aNil)))) (sSeq (sAsg (eBin gIx (eVar 13) (eFn 2 (f_law_take A) (aCons (eVar 1) (aCons (eCall cLen (aCons (eVar 13) aNil)) aNil)))) (gSet 14))
 (sSeq (sIf (eTest (eBin gNotN (eFn 5 (f_law_tried A) (aCons (eC (.int 2)) (aCons (eVar 3) (aCons (eVar 14) (aCons (eC .non) (aCons (eC .non) aNil)))))) (eC .non))) (sRet (eC (.bl false))) sNx)
 (sSeq (sFor (iSeq (eRevF (eBin gIxK (eVar 8) (eVar 14)))) (gTupM 2 (gsCons (gSet 17) (gsCons (gSet 18) gsNil))) (s_law_0 A))
 (sSeq (sEx (eMeL mAppend (eVar 6) (aCons (eTup (aCons (eC (.str "end")) (aCons (eVar 14) aNil))) aNil)))
 (sEx (eDPop (eVar 8) (eVar 14))))))) (sIf (eTest (eBin gEq (eVar 11) (eC (.int 11)))) (sSeq (sEx (eMe A.Yard "sync" 1 (f_Yard_sync A) (eVar 3) aNil))
 (sAsg (eCall cLen (aCons (eVar 6) aNil)) (gSet 7))) (sIf (eTest (eBin gLt (eVar 11) (eC (.int 14)))) (sSeq (sIf (eTest (eBin gNotN (eFn 5 (f_law_tried A) (aCons (eC (.int 3)) (aCons (eVar 3) (aCons (eVar 12) (aCons (eC .non) (aCons (eC .non) aNil)))))) (eC .non))) (sRet (eC (.bl false))) sNx)
 (sAsg (eCall cLen (aCons (eVar 6) aNil)) (gSet 7))) (sIf (eTest (eBin gEq (eVar 11) (eC (.int 15)))) (sSeq (sAsg (eBin gIx (eLst (aCons (eC (.int 0)) (aCons (eBin gSub (eCall cLen (aCons (eVar 6) aNil)) (eVar 7)) (aCons (eFn 2 (f_law_take A) (aCons (eVar 1) (aCons (eBin gAdd (eBin gSub (eCall cLen (aCons (eVar 6) aNil)) (eVar 7)) (eC (.int 1))) aNil))) aNil)))) (eFn 2 (f_law_take A) (aCons (eVar 1) (aCons (eC (.int 3)) aNil)))) (gSet 19))
 (sSeq (sAsg (eFn 2 (f_law_crashed A) (aCons (eVar 3) (aCons (eVar 19) aNil))) (gSet 3))
 (sSeq (sAsg (eFn 2 (f_law_behind A) (aCons (eVar 5) (aCons (eCut (eVar 6) oNone (oSome (eBin gAdd (eVar 7) (eVar 19)))) aNil))) (gSet 5))
 (sAsg (eTup (aCons (eCall cDictP (aCons (eCmpK (eVar 5) [23] (gSet 23) bYes (eTup (aCons (eVar 23) (aCons (eBin gIxK (eVar 5) (eVar 23)) aNil)))) aNil)) (aCons (eNew aNil) (aCons (eC (.int 0)) (aCons eDNew aNil))))) (gTupM 4 (gsCons (gSet 4) (gsCons (gSet 6) (gsCons (gSet 7) (gsCons (gSet 8) gsNil))))))))) sNx)))))))
 (sIf (bNot (eTru (eFn 2 (f_law_alike A) (aCons (eLst (aCons (eCmp (iSeq (eVar 2)) [23] (gSet 23) bYes (eMe A.Yard "text" 2 (f_Yard_text A) (eVar 3) (aCons (eVar 23) aNil))) (aCons (eMe A.Yard "works" 1 (f_Yard_works A) (eVar 3) aNil) (aCons (eMe A.Yard "waiting" 1 (f_Yard_waiting A) (eVar 3) aNil) aNil)))) (aCons (eLst (aCons (eCmp (iSeq (eVar 2)) [23] (gSet 23) bYes (eBin gIxK (eVar 4) (eVar 23))) (aCons (eCall cTuple (aCons (eCall cSortI (aCons (eCall cListKF (aCons (eVar 8) aNil)) aNil)) aNil)) (aCons (eBin gSub (eCall cLen (aCons (eVar 6) aNil)) (eVar 7)) aNil)))) aNil))))) (sRet (eC (.bl false))) sNx))))
noncomputable def s_law (A : Adr) : SM := (sSeq (sAsg (eFn 1 (f_law_draws A) (aCons (eVar 0) aNil)) (gSet 1))
 (sSeq (sAsg (eCut (eLst (aCons (eC (.str "a")) (aCons (eC (.str "b")) (aCons (eC (.str "cell")) (aCons (eC (.str "d")) (aCons (eC (.str "zz")) aNil)))))) oNone (oSome (eBin gAdd (eC (.int 2)) (eFn 2 (f_law_take A) (aCons (eVar 1) (aCons (eC (.int 4)) aNil)))))) (gSet 2))
 (sSeq (sAsg (eTup (aCons (eMk A.Yard 2 (f_Yard_init A) (aCons (eCall cTuple (aCons (eVar 2) aNil)) aNil)) (aCons (eCall cDictP (aCons (eCmp (iSeq (eVar 2)) [12] (gSet 12) bYes (eTup (aCons (eVar 12) (aCons (eC (.str "")) aNil)))) aNil)) (aCons (eCall cDictP (aCons (eCmp (iSeq (eVar 2)) [12] (gSet 12) bYes (eTup (aCons (eVar 12) (aCons (eC (.str "")) aNil)))) aNil)) aNil)))) (gTupM 3 (gsCons (gSet 3) (gsCons (gSet 4) (gsCons (gSet 5) gsNil)))))
 (sSeq (sAsg (eTup (aCons (eNew aNil) (aCons (eC (.int 0)) (aCons eDNew (aCons (eC (.int 0)) aNil))))) (gTupM 4 (gsCons (gSet 6) (gsCons (gSet 7) (gsCons (gSet 8) (gsCons (gSet 9) gsNil))))))
 (sSeq (sFor (iRngA (aCons (eBin gAdd (eC (.int 12)) (eFn 2 (f_law_take A) (aCons (eVar 1) (aCons (eC (.int 50)) aNil)))) aNil)) (gSet 10) (s_law_1 A))
 (sSeq (sAsg (eMe A.Yard "begin" 1 (f_Yard_begin A) (eVar 3) aNil) (gSet 14))
 (sSeq (sAsg (eBin gAdd (eCmp (iSeq (eLst (aCons (eC (.int 0)) (aCons (eBin gAdd (eVar 14) (eC (.int 1))) (aCons (eC .non) (aCons (eC (.str "1")) aNil)))))) [23] (gSet 23) bYes (eFn 5 (f_law_tried A) (aCons (eC (.int 0)) (aCons (eVar 3) (aCons (eVar 23) (aCons (eBin gIx (eVar 2) (eC (.int 0))) (aCons (eC (.str "a")) aNil))))))) (eCmp (iRngB (aCons (eC (.int 1)) (aCons (eC (.int 3)) aNil))) [24] (gSet 24) bYes (eFn 5 (f_law_tried A) (aCons (eVar 24) (aCons (eVar 3) (aCons (eBin gAdd (eVar 14) (eC (.int 1))) (aCons (eC .non) (aCons (eC .non) aNil)))))))) (gSet 20))
 (sSeq (sAsg (eBin gAdd (eBin gAdd (eVar 20) (eCmp (iSeq (eLst (aCons (eC (.str "nobody")) (aCons (eC .non) (aCons (eC (.int 5)) aNil))))) [23] (gSet 23) bYes (eFn 5 (f_law_tried A) (aCons (eC (.int 0)) (aCons (eVar 3) (aCons (eVar 14) (aCons (eVar 23) (aCons (eC (.str "a")) aNil)))))))) (eCmp (iRngB (aCons (eC (.int 3)) (aCons (eC (.int 5)) aNil))) [24] (gSet 24) bYes (eFn 5 (f_law_tried A) (aCons (eVar 24) (aCons (eVar 3) (aCons (eC (.str "nobody")) (aCons (eC .non) (aCons (eC .non) aNil)))))))) (gSet 20))
 (sSeq (sAsg (eBin gAdd (eBin gAdd (eVar 20) (eCmp (iSeq (eLst (aCons (eNeg (eC (.int 1))) (aCons (eBin gAdd (eMe A.Yard "waiting" 1 (f_Yard_waiting A) (eVar 3) aNil) (eC (.int 1))) (aCons (eC .non) aNil))))) [23] (gSet 23) bYes (eFn 2 (f_law_crashed A) (aCons (eVar 3) (aCons (eVar 23) aNil))))) (eCmp (iSeq (eLst (aCons (eC .non) (aCons (eC (.int 5)) (aCons (eTup (aCons (eC (.str "a")) aNil)) aNil))))) [23] (gSet 23) bYes (eFn 5 (f_law_tried A) (aCons (eC (.int 0)) (aCons (eVar 3) (aCons (eVar 14) (aCons (eBin gIx (eVar 2) (eC (.int 0))) (aCons (eVar 23) aNil)))))))) (gSet 20))
 (sSeq (sAsg (eBin gAdd (eVar 20) (eCmp (iSeq (eLst (aCons (eC .non) (aCons (eTup aNil) (aCons (eLst (aCons (eC (.str "a")) aNil)) (aCons (eTup (aCons (eC (.str "b")) (aCons (eC (.str "a")) aNil))) (aCons (eTup (aCons (eC (.str "a")) (aCons (eC (.str "a")) aNil))) (aCons (eTup (aCons (eC (.str "A")) aNil)) (aCons (eTup (aCons (eC (.str "a")) (aCons (eC .non) aNil))) (aCons (eC (.str "a")) aNil)))))))))) [23] (gSet 23) bYes (eFn 5 (f_law_tried A) (aCons (eC (.int 5)) (aCons (eC .non) (aCons (eVar 23) (aCons (eC .non) (aCons (eC .non) aNil)))))))) (gSet 20))
 (sRet (eAnd (eBin gEq (eVar 20) (eBin gAdd (eBin gAdd (eBin gMul (eLst (aCons (eC (.str "none")) aNil)) (eC (.int 11))) (eBin gMul (eLst (aCons (eC (.str "range")) aNil)) (eC (.int 3)))) (eBin gMul (eLst (aCons (eC (.str "form")) aNil)) (eC (.int 11))))) (eBin gEq (eCmp (iSeq (eVar 2)) [23] (gSet 23) bYes (eMe A.Yard "text" 2 (f_Yard_text A) (eVar 3) (aCons (eVar 23) aNil))) (eCmp (iSeq (eVar 2)) [23] (gSet 23) bYes (eBin gIxK (eVar 4) (eVar 23))))))))))))))))
noncomputable def f_law (A : Adr) : FM := runB N_law.length (s_law A)
theorem ok_law {P : Program} {w : World} {K : PySem.W.Frag} {mg : Str → Option Value} {base : Heap} {A : Adr} {a a_Yard_text a_law_tried a_law_crashed a_Yard_waiting a_Yard_begin a_law_take a_Yard_works a_law_alike a_Yard_sync a_law_behind a_Yard_init a_law_draws : Addr} {fd fd_Yard_text fd_law_tried fd_law_crashed fd_Yard_waiting fd_Yard_begin fd_law_take fd_Yard_works fd_law_alike fd_Yard_sync fd_law_behind fd_Yard_init fd_law_draws : FuncData} (T : Txt K mg A) (F : Fun K "law" "law" t_law a fd) (D_Yard_text : MOk P w K mg base A.Yard "text" 3 a_Yard_text fd_Yard_text ["self", "name"] (f_Yard_text A)) (D_law_tried : DOk P w K mg base "_law_tried" 7 a_law_tried fd_law_tried ["which", "yard", "one", "other", "third"] (f_law_tried A)) (D_law_crashed : DOk P w K mg base "_law_crashed" 8 a_law_crashed fd_law_crashed ["yard", "kept"] (f_law_crashed A)) (D_Yard_waiting : MOk P w K mg base A.Yard "waiting" 1 a_Yard_waiting fd_Yard_waiting ["self"] (f_Yard_waiting A)) (D_Yard_begin : MOk P w K mg base A.Yard "begin" 1 a_Yard_begin fd_Yard_begin ["self"] (f_Yard_begin A)) (D_law_take : DOk P w K mg base "_law_take" 1 a_law_take fd_law_take ["draws", "limit"] (f_law_take A)) (D_Yard_works : MOk P w K mg base A.Yard "works" 1 a_Yard_works fd_Yard_works ["self"] (f_Yard_works A)) (D_law_alike : DOk P w K mg base "_law_alike" 7 a_law_alike fd_law_alike ["found", "due"] (f_law_alike A)) (D_Yard_sync : MOk P w K mg base A.Yard "sync" 1 a_Yard_sync fd_Yard_sync ["self"] (f_Yard_sync A)) (D_law_behind : DOk P w K mg base "_law_behind" 1 a_law_behind fd_law_behind ["first", "log"] (f_law_behind A)) (D_Yard_init : IOk P w K mg base A.Yard "Yard" 5 a_Yard_init fd_Yard_init ["self", "names"] (f_Yard_init A)) (D_law_draws : DOk P w K mg base "_law_draws" 1 a_law_draws fd_law_draws ["script"] (f_law_draws A)) : FnD P w K mg base 9 a fd ["script"] (f_law A) := by
  have h : FnD P w K mg base (8 + 1) a fd ["script"] (runB N_law.length (s_law A)) := by
    apply fnd_of F sc_law
    intro cdv A' outer s H E hr
    have HR_Yard_text : Room 3 _ := hr.mono (by decide)
    have HR_law_tried : Room 7 _ := hr.mono (by decide)
    have HR_law_crashed : Room 8 _ := hr.mono (by decide)
    have HR_Yard_waiting : Room 1 _ := hr.mono (by decide)
    have HR_Yard_begin : Room 1 _ := hr.mono (by decide)
    have HR_law_take : Room 1 _ := hr.mono (by decide)
    have HR_Yard_works : Room 1 _ := hr.mono (by decide)
    have HR_law_alike : Room 7 _ := hr.mono (by decide)
    have HR_Yard_sync : Room 1 _ := hr.mono (by decide)
    have HR_law_behind : Room 1 _ := hr.mono (by decide)
    have HR2_Yard_init : Room (5 + 1) _ := hr.mono (by decide)
    have HR_law_draws : Room 1 _ := hr.mono (by decide)
    exact ⟨_, (by exact psd_cons (by exact psd_asg (by exact ped_fn (ps := ["script"]) (by exact D_law_draws.F) (by exact HR_law_draws) (by exact L2N.takes_of rfl rfl rfl rfl) (by exact rfl) (by exact D_law_draws.g) (by exact D_law_draws.k) (by exact D_law_draws.b) (by exact pad_cons (pvd 0) pad_nil)) (by exact pgd_name (i := 1) sc_law.nd rfl (Or.inl rfl))) (by exact psd_cons (by exact psd_asg (by exact ped_cut (by exact ped_lst (by exact pad_cons ped_str (by exact pad_cons ped_str (by exact pad_cons ped_str (by exact pad_cons ped_str (by exact pad_cons ped_str pad_nil)))))) pod_none (by exact pod_some (by exact ped_op opd_add ad_add ped_int (by exact ped_fn (ps := ["draws", "limit"]) (by exact D_law_take.F) (by exact HR_law_take) (by exact L2N.takes_of rfl rfl rfl rfl) (by exact rfl) (by exact D_law_take.g) (by exact D_law_take.k) (by exact D_law_take.b) (by exact pad_cons (pvd 1) (by exact pad_cons ped_int pad_nil)))))) (by exact pgd_name (i := 2) sc_law.nd rfl (Or.inr rfl))) (by exact psd_cons (by exact psd_asg (by exact ped_tup (by exact pad_cons (by exact ped_mk (ps := ["self", "names"]) (by exact D_Yard_init.M) (by exact D_Yard_init.F) (by exact HR2_Yard_init) (by exact L2N.takes_of rfl rfl rfl rfl) (by exact rfl) (by exact D_Yard_init.g) (by exact D_Yard_init.b) (by exact pad_cons (by exact ped_callTy call_tuple_of adc_tuple rfl T.n_tuple boot_tuple (by exact pad_cons (pvd 2) pad_nil)) pad_nil)) (by exact pad_cons (by exact ped_callTy (call_dictP rfl) adc_dictP rfl T.n_dict boot_dict (by exact pad_cons (by exact ped_cmpC (own := [("name", 12)]) (g := (gName 12)) rfl sc_law.nd (by exact pid_seq (pvd 2)) (blkOk_by (own := [("name", 12)]) (N := N_law) (sc := defScope t_law) (by decide +kernel)) (gown_name (by decide)) (fun _ _ _ _ _ => (by exact pgd_name (i := 12) sc_law.nd rfl (Or.inl rfl))) (fun _ _ _ _ _ => ⟨_, ptsd_nil⟩) (fun _ _ _ _ _ => ⟨_, (by exact ped_tup (by exact pad_cons (pvd 12) (by exact pad_cons ped_str pad_nil)))⟩)) pad_nil)) (by exact pad_cons (by exact ped_callTy (call_dictP rfl) adc_dictP rfl T.n_dict boot_dict (by exact pad_cons (by exact ped_cmpC (own := [("name", 12)]) (g := (gName 12)) rfl sc_law.nd (by exact pid_seq (pvd 2)) (blkOk_by (own := [("name", 12)]) (N := N_law) (sc := defScope t_law) (by decide +kernel)) (gown_name (by decide)) (fun _ _ _ _ _ => (by exact pgd_name (i := 12) sc_law.nd rfl (Or.inl rfl))) (fun _ _ _ _ _ => ⟨_, ptsd_nil⟩) (fun _ _ _ _ _ => ⟨_, (by exact ped_tup (by exact pad_cons (pvd 12) (by exact pad_cons ped_str pad_nil)))⟩)) pad_nil)) pad_nil)))) (by exact pgd_tup rfl (by exact pgsd_cons (by exact pgd_name (i := 3) sc_law.nd rfl (Or.inr rfl)) (by exact pgsd_cons (by exact pgd_name (i := 4) sc_law.nd rfl (Or.inr rfl)) (by exact pgsd_cons (by exact pgd_name (i := 5) sc_law.nd rfl (Or.inr rfl)) pgsd_nil))) rfl rfl (ner_cons ner_set (ner_cons ner_set (ner_cons ner_set ner_nil))))) (by exact psd_cons (by exact psd_asg (by exact ped_tup (by exact pad_cons (by exact ped_new pad_nil) (by exact pad_cons ped_int (by exact pad_cons ped_dnew (by exact pad_cons ped_int pad_nil))))) (by exact pgd_tup rfl (by exact pgsd_cons (by exact pgd_name (i := 6) sc_law.nd rfl (Or.inl rfl)) (by exact pgsd_cons (by exact pgd_name (i := 7) sc_law.nd rfl (Or.inl rfl)) (by exact pgsd_cons (by exact pgd_name (i := 8) sc_law.nd rfl (Or.inr rfl)) (by exact pgsd_cons (by exact pgd_name (i := 9) sc_law.nd rfl (Or.inl rfl)) pgsd_nil)))) rfl rfl (ner_cons ner_set (ner_cons ner_set (ner_cons ner_set (ner_cons ner_set ner_nil)))))) (by exact psd_cons (by exact psd_for (passes_of rfl) rfl (by exact pid_rng1 rfl T.n_range (by exact pad_cons (by exact ped_op opd_add ad_add ped_int (by exact ped_fn (ps := ["draws", "limit"]) (by exact D_law_take.F) (by exact HR_law_take) (by exact L2N.takes_of rfl rfl rfl rfl) (by exact rfl) (by exact D_law_take.g) (by exact D_law_take.k) (by exact D_law_take.b) (by exact pad_cons (pvd 1) (by exact pad_cons ped_int pad_nil)))) pad_nil)) (by exact pgd_name (i := 10) sc_law.nd rfl (Or.inl rfl)) (by exact psd_cons (by exact psd_asg (by exact ped_tup (by exact pad_cons (by exact ped_fn (ps := ["draws", "limit"]) (by exact D_law_take.F) (by exact HR_law_take) (by exact L2N.takes_of rfl rfl rfl rfl) (by exact rfl) (by exact D_law_take.g) (by exact D_law_take.k) (by exact D_law_take.b) (by exact pad_cons (pvd 1) (by exact pad_cons ped_int pad_nil))) (by exact pad_cons (by exact ped_ix (pvd 2) (by exact ped_fn (ps := ["draws", "limit"]) (by exact D_law_take.F) (by exact HR_law_take) (by exact L2N.takes_of rfl rfl rfl rfl) (by exact rfl) (by exact D_law_take.g) (by exact D_law_take.k) (by exact D_law_take.b) (by exact pad_cons (pvd 1) (by exact pad_cons (by exact ped_callB PD.cr_len adc_len rfl T.n_len boot_len (by exact pad_cons (pvd 2) pad_nil)) pad_nil)))) pad_nil))) (by exact pgd_tup rfl (by exact pgsd_cons (by exact pgd_name (i := 11) sc_law.nd rfl (Or.inl rfl)) (by exact pgsd_cons (by exact pgd_name (i := 12) sc_law.nd rfl (Or.inr rfl)) pgsd_nil)) rfl rfl (ner_cons ner_set (ner_cons ner_set ner_nil)))) (by exact psd_cons (by exact psd_asg (by exact ped_callB cr_sortedI adc_sortI rfl T.n_sorted boot_sorted (by exact pad_cons (by exact ped_callTy (call_list_dK rfl) adc_listKF rfl T.n_list boot_list (by exact pad_cons (pvd 8) pad_nil)) pad_nil)) (by exact pgd_name (i := 13) sc_law.nd rfl (Or.inl rfl))) (by exact psd_cons (by exact psd_if (by exact PWD.pt (by exact pwd_and (by exact ptd_cmp op_lt ad_lt (pvd 11) ped_int (by exact nomark _)) (by exact pwd_and1 (by exact ptd_cmp op_lt ad_lt (by exact ped_callB PD.cr_len adc_len rfl T.n_len boot_len (by exact pad_cons (pvd 13) pad_nil)) ped_int (by exact nomark _))))) (by exact psd_cons (by exact psd_asg (by exact ped_op opd_add ad_add (pvd 9) ped_int) (by exact pgd_name (i := 9) sc_law.nd rfl (Or.inl rfl))) (by exact psd_cons (by exact psd_if (by exact ptd_cmp (by exact op_neD (room64 hr)) (by exact ad_ne) (by exact ped_me0 (ps := ["self"]) (pvd 3) (by exact T.cl_Yard) (by exact D_Yard_begin.m) (by exact D_Yard_begin.F) (by exact HR_Yard_begin) (by exact L2N.takes_of rfl rfl rfl rfl) (by exact D_Yard_begin.b)) (pvd 9) (by exact nomark _)) (by exact psd_one (by exact psd_ret ped_bl)) psd_nil) (by exact psd_one (by exact psd_asg (by exact ped_new pad_nil) (by exact pgd_subK (room65 hr) (pvd 8) (pvd 9)))))) (by exact psd_one (by exact psd_if (by exact PWD.pt (by exact pwd_and (by exact ptd_cmp op_lt ad_lt (pvd 11) ped_int (by exact nomark _)) (by exact pwd_and1 (by exact ptd_cmp (by exact op_neD (room64 hr)) (by exact ad_ne) (pvd 13) (by exact ped_lst pad_nil) (by exact nomark _))))) (by exact psd_cons (by exact psd_asg (by exact ped_tup (by exact pad_cons (by exact ped_ix (pvd 13) (by exact ped_fn (ps := ["draws", "limit"]) (by exact D_law_take.F) (by exact HR_law_take) (by exact L2N.takes_of rfl rfl rfl rfl) (by exact rfl) (by exact D_law_take.g) (by exact D_law_take.k) (by exact D_law_take.b) (by exact pad_cons (pvd 1) (by exact pad_cons (by exact ped_callB PD.cr_len adc_len rfl T.n_len boot_len (by exact pad_cons (pvd 13) pad_nil)) pad_nil)))) (by exact pad_cons (by exact ped_ix (by exact ped_lst (by exact pad_cons ped_str (by exact pad_cons ped_str (by exact pad_cons ped_str (by exact pad_cons ped_str pad_nil))))) (by exact ped_fn (ps := ["draws", "limit"]) (by exact D_law_take.F) (by exact HR_law_take) (by exact L2N.takes_of rfl rfl rfl rfl) (by exact rfl) (by exact D_law_take.g) (by exact D_law_take.k) (by exact D_law_take.b) (by exact pad_cons (pvd 1) (by exact pad_cons ped_int pad_nil)))) pad_nil))) (by exact pgd_tup rfl (by exact pgsd_cons (by exact pgd_name (i := 14) sc_law.nd rfl (Or.inr rfl)) (by exact pgsd_cons (by exact pgd_name (i := 15) sc_law.nd rfl (Or.inl rfl)) pgsd_nil)) rfl rfl (ner_cons ner_set (ner_cons ner_set ner_nil)))) (by exact psd_cons (by exact psd_setLcC (i := 16) (own := [("other", 21)]) (g := (gName 21)) rfl sc_law.nd rfl rfl (sw_true rfl rfl rfl (by decide +kernel)) (by exact pid_seq (pvd 13)) (blkOk_by (own := [("other", 21)]) (N := N_law) (sc := defScope t_law) (by decide +kernel)) (gown_name (by decide)) (fun _ _ _ _ _ => (by exact pgd_name (i := 21) sc_law.nd rfl (Or.inl rfl))) (fun _ _ _ _ _ => ⟨_, (by exact ptsd_one (by exact PWD.pt (by exact pwd_and (by exact ptd_cmp (by exact op_neD (room64 hr)) (by exact ad_ne) (pvd 21) (pvd 14) (by exact nomark _)) (by exact pwd_and1 (by exact ptd_cmp (by exact opd_in (room65 hr)) (by exact ad_in) (pvd 12) (by exact ped_cmpC (own := [("row", 22)]) (g := (gName 22)) rfl sc_law.nd (by exact pid_seq (by exact ped_ixK (room65 hr) (pvd 8) (pvd 21))) (blkOk_by (own := [("row", 22)]) (N := N_law) (by kernel_rfl)) (gown_name (by decide)) (fun _ _ _ _ _ => (by exact pgd_name (i := 22) sc_law.nd rfl (Or.inl rfl))) (fun _ _ _ _ _ => ⟨_, ptsd_nil⟩) (fun _ _ _ _ _ => ⟨_, (by exact ped_ix (pvd 22) ped_int)⟩)) rfl)))))⟩) (fun _ _ _ _ _ => ⟨_, (pvd 21)⟩)) (by exact psd_cons (by exact psd_if (by exact ptd_cmp (by exact op_neD (room64 hr)) (by exact ad_ne) (by exact ped_fn (ps := ["which", "yard", "one", "other", "third"]) (by exact D_law_tried.F) (by exact HR_law_tried) (by exact L2N.takes_of rfl rfl rfl rfl) (by exact rfl) (by exact D_law_tried.g) (by exact D_law_tried.k) (by exact D_law_tried.b) (by exact pad_cons ped_int (by exact pad_cons (pvd 3) (by exact pad_cons (pvd 14) (by exact pad_cons (pvd 12) (by exact pad_cons (pvd 15) pad_nil)))))) (by exact ped_if (by exact ptd_cmp (by exact op_neD (room64 hr)) (by exact ad_ne) (pvd 16) (by exact ped_lst pad_nil) (by exact nomark _)) ped_str ped_non) (by exact nomark _)) (by exact psd_one (by exact psd_ret ped_bl)) psd_nil) (by exact psd_one (by exact psd_if (by exact ptd_cmp (by exact op_eqD (room64 hr)) (by exact ad_eq) (pvd 16) (by exact ped_lst pad_nil) (by exact nomark _)) (by exact psd_cons (by exact psd_expr (by exact ped_meL PySem.F.slot_list_append PySem.F.type_list_append mt_append adm_append (pvd 6) (by exact pad_cons (by exact ped_tup (by exact pad_cons ped_str (by exact pad_cons (pvd 14) (by exact pad_cons (pvd 12) (by exact pad_cons (pvd 15) pad_nil))))) pad_nil))) (by exact psd_cons (by exact psd_expr (by exact ped_meL PySem.F.slot_list_append PySem.F.type_list_append mt_append adm_append (by exact ped_ixK (room65 hr) (pvd 8) (pvd 14)) (by exact pad_cons (by exact ped_tup (by exact pad_cons (pvd 12) (by exact pad_cons (by exact ped_ixK (room65 hr) (pvd 4) (pvd 12)) pad_nil))) pad_nil))) (by exact psd_one (by exact psd_asg (pvd 15) (by exact pgd_subK (room65 hr) (pvd 4) (pvd 12)))))) psd_nil))))) (by exact psd_one (by exact psd_if (by exact PWD.pt (by exact pwd_and (by exact ptd_cmp op_lt ad_lt (pvd 11) ped_int (by exact nomark _)) (by exact pwd_and1 (by exact ptd_cmp (by exact op_neD (room64 hr)) (by exact ad_ne) (pvd 13) (by exact ped_lst pad_nil) (by exact nomark _))))) (by exact psd_cons (by exact psd_asg (by exact ped_ix (pvd 13) (by exact ped_fn (ps := ["draws", "limit"]) (by exact D_law_take.F) (by exact HR_law_take) (by exact L2N.takes_of rfl rfl rfl rfl) (by exact rfl) (by exact D_law_take.g) (by exact D_law_take.k) (by exact D_law_take.b) (by exact pad_cons (pvd 1) (by exact pad_cons (by exact ped_callB PD.cr_len adc_len rfl T.n_len boot_len (by exact pad_cons (pvd 13) pad_nil)) pad_nil)))) (by exact pgd_name (i := 14) sc_law.nd rfl (Or.inr rfl))) (by exact psd_cons (by exact psd_if (by exact ptd_cmp op_notN ad_notN (by exact ped_fn (ps := ["which", "yard", "one", "other", "third"]) (by exact D_law_tried.F) (by exact HR_law_tried) (by exact L2N.takes_of rfl rfl rfl rfl) (by exact rfl) (by exact D_law_tried.g) (by exact D_law_tried.k) (by exact D_law_tried.b) (by exact pad_cons ped_int (by exact pad_cons (pvd 3) (by exact pad_cons (pvd 14) (by exact pad_cons ped_non (by exact pad_cons ped_non pad_nil)))))) ped_non (by exact nomark _)) (by exact psd_one (by exact psd_ret ped_bl)) psd_nil) (by exact psd_cons (by exact psd_expr (by exact ped_meL PySem.F.slot_list_append PySem.F.type_list_append mt_append adm_append (pvd 6) (by exact pad_cons (by exact ped_tup (by exact pad_cons ped_str (by exact pad_cons (pvd 14) pad_nil))) pad_nil))) (by exact psd_one (by exact psd_expr (by exact ped_dpop (pvd 8) (pvd 14))))))) (by exact psd_one (by exact psd_if (by exact PWD.pt (by exact pwd_and (by exact ptd_cmp (by exact op_eqD (room64 hr)) (by exact ad_eq) (pvd 11) ped_int (by exact nomark _)) (by exact pwd_and1 (by exact ptd_cmp (by exact op_neD (room64 hr)) (by exact ad_ne) (pvd 13) (by exact ped_lst pad_nil) (by exact nomark _))))) (by exact psd_cons (by exact psd_asg (by exact ped_ix (pvd 13) (by exact ped_fn (ps := ["draws", "limit"]) (by exact D_law_take.F) (by exact HR_law_take) (by exact L2N.takes_of rfl rfl rfl rfl) (by exact rfl) (by exact D_law_take.g) (by exact D_law_take.k) (by exact D_law_take.b) (by exact pad_cons (pvd 1) (by exact pad_cons (by exact ped_callB PD.cr_len adc_len rfl T.n_len boot_len (by exact pad_cons (pvd 13) pad_nil)) pad_nil)))) (by exact pgd_name (i := 14) sc_law.nd rfl (Or.inr rfl))) (by exact psd_cons (by exact psd_if (by exact ptd_cmp op_notN ad_notN (by exact ped_fn (ps := ["which", "yard", "one", "other", "third"]) (by exact D_law_tried.F) (by exact HR_law_tried) (by exact L2N.takes_of rfl rfl rfl rfl) (by exact rfl) (by exact D_law_tried.g) (by exact D_law_tried.k) (by exact D_law_tried.b) (by exact pad_cons ped_int (by exact pad_cons (pvd 3) (by exact pad_cons (pvd 14) (by exact pad_cons ped_non (by exact pad_cons ped_non pad_nil)))))) ped_non (by exact nomark _)) (by exact psd_one (by exact psd_ret ped_bl)) psd_nil) (by exact psd_cons (by exact psd_for (passes_of rfl) rfl (by exact pid_seq (by exact ped_revF (by exact ped_ixK (room65 hr) (pvd 8) (pvd 14)))) (by exact pgd_tup rfl (by exact pgsd_cons (by exact pgd_name (i := 17) sc_law.nd rfl (Or.inl rfl)) (by exact pgsd_cons (by exact pgd_name (i := 18) sc_law.nd rfl (Or.inl rfl)) pgsd_nil)) rfl rfl (ner_cons ner_set (ner_cons ner_set ner_nil))) (by exact psd_cons (by exact psd_expr (by exact ped_meL PySem.F.slot_list_append PySem.F.type_list_append mt_append adm_append (pvd 6) (by exact pad_cons (by exact ped_tup (by exact pad_cons ped_str (by exact pad_cons (pvd 14) (by exact pad_cons (pvd 17) (by exact pad_cons (pvd 18) pad_nil))))) pad_nil))) (by exact psd_one (by exact psd_asg (pvd 18) (by exact pgd_subK (room65 hr) (pvd 4) (pvd 17)))))) (by exact psd_cons (by exact psd_expr (by exact ped_meL PySem.F.slot_list_append PySem.F.type_list_append mt_append adm_append (pvd 6) (by exact pad_cons (by exact ped_tup (by exact pad_cons ped_str (by exact pad_cons (pvd 14) pad_nil))) pad_nil))) (by exact psd_one (by exact psd_expr (by exact ped_dpop (pvd 8) (pvd 14)))))))) (by exact psd_one (by exact psd_if (by exact ptd_cmp (by exact op_eqD (room64 hr)) (by exact ad_eq) (pvd 11) ped_int (by exact nomark _)) (by exact psd_cons (by exact psd_expr (by exact ped_me0 (ps := ["self"]) (pvd 3) (by exact T.cl_Yard) (by exact D_Yard_sync.m) (by exact D_Yard_sync.F) (by exact HR_Yard_sync) (by exact L2N.takes_of rfl rfl rfl rfl) (by exact D_Yard_sync.b))) (by exact psd_one (by exact psd_asg (by exact ped_callB PD.cr_len adc_len rfl T.n_len boot_len (by exact pad_cons (pvd 6) pad_nil)) (by exact pgd_name (i := 7) sc_law.nd rfl (Or.inl rfl))))) (by exact psd_one (by exact psd_if (by exact ptd_cmp op_lt ad_lt (pvd 11) ped_int (by exact nomark _)) (by exact psd_cons (by exact psd_if (by exact ptd_cmp op_notN ad_notN (by exact ped_fn (ps := ["which", "yard", "one", "other", "third"]) (by exact D_law_tried.F) (by exact HR_law_tried) (by exact L2N.takes_of rfl rfl rfl rfl) (by exact rfl) (by exact D_law_tried.g) (by exact D_law_tried.k) (by exact D_law_tried.b) (by exact pad_cons ped_int (by exact pad_cons (pvd 3) (by exact pad_cons (pvd 12) (by exact pad_cons ped_non (by exact pad_cons ped_non pad_nil)))))) ped_non (by exact nomark _)) (by exact psd_one (by exact psd_ret ped_bl)) psd_nil) (by exact psd_one (by exact psd_asg (by exact ped_callB PD.cr_len adc_len rfl T.n_len boot_len (by exact pad_cons (pvd 6) pad_nil)) (by exact pgd_name (i := 7) sc_law.nd rfl (Or.inl rfl))))) (by exact psd_one (by exact psd_if (by exact ptd_cmp (by exact op_eqD (room64 hr)) (by exact ad_eq) (pvd 11) ped_int (by exact nomark _)) (by exact psd_cons (by exact psd_asg (by exact ped_ix (by exact ped_lst (by exact pad_cons ped_int (by exact pad_cons (by exact ped_op op_sub ad_sub (by exact ped_callB PD.cr_len adc_len rfl T.n_len boot_len (by exact pad_cons (pvd 6) pad_nil)) (pvd 7)) (by exact pad_cons (by exact ped_fn (ps := ["draws", "limit"]) (by exact D_law_take.F) (by exact HR_law_take) (by exact L2N.takes_of rfl rfl rfl rfl) (by exact rfl) (by exact D_law_take.g) (by exact D_law_take.k) (by exact D_law_take.b) (by exact pad_cons (pvd 1) (by exact pad_cons (by exact ped_op opd_add ad_add (by exact ped_op op_sub ad_sub (by exact ped_callB PD.cr_len adc_len rfl T.n_len boot_len (by exact pad_cons (pvd 6) pad_nil)) (pvd 7)) ped_int) pad_nil))) pad_nil)))) (by exact ped_fn (ps := ["draws", "limit"]) (by exact D_law_take.F) (by exact HR_law_take) (by exact L2N.takes_of rfl rfl rfl rfl) (by exact rfl) (by exact D_law_take.g) (by exact D_law_take.k) (by exact D_law_take.b) (by exact pad_cons (pvd 1) (by exact pad_cons ped_int pad_nil)))) (by exact pgd_name (i := 19) sc_law.nd rfl (Or.inl rfl))) (by exact psd_cons (by exact psd_asg (by exact ped_fn (ps := ["yard", "kept"]) (by exact D_law_crashed.F) (by exact HR_law_crashed) (by exact L2N.takes_of rfl rfl rfl rfl) (by exact rfl) (by exact D_law_crashed.g) (by exact D_law_crashed.k) (by exact D_law_crashed.b) (by exact pad_cons (pvd 3) (by exact pad_cons (pvd 19) pad_nil))) (by exact pgd_name (i := 3) sc_law.nd rfl (Or.inr rfl))) (by exact psd_cons (by exact psd_asg (by exact ped_fn (ps := ["first", "log"]) (by exact D_law_behind.F) (by exact HR_law_behind) (by exact L2N.takes_of rfl rfl rfl rfl) (by exact rfl) (by exact D_law_behind.g) (by exact D_law_behind.k) (by exact D_law_behind.b) (by exact pad_cons (pvd 5) (by exact pad_cons (by exact ped_cut (pvd 6) pod_none (by exact pod_some (by exact ped_op opd_add ad_add (pvd 7) (pvd 19)))) pad_nil))) (by exact pgd_name (i := 5) sc_law.nd rfl (Or.inr rfl))) (by exact psd_one (by exact psd_asg (by exact ped_tup (by exact pad_cons (by exact ped_callTy (call_dictP rfl) adc_dictP rfl T.n_dict boot_dict (by exact pad_cons (by exact ped_cmpKC (own := [("one", 23)]) (g := (gName 23)) rfl sc_law.nd (pvd 5) (blkOk_by (own := [("one", 23)]) (N := N_law) (sc := defScope t_law) (by decide +kernel)) (gown_name (by decide)) (fun _ _ _ _ _ => (by exact pgd_name (i := 23) sc_law.nd rfl (Or.inl rfl))) (fun _ _ _ _ _ => ⟨_, ptsd_nil⟩) (fun _ _ _ _ _ => ⟨_, (by exact ped_tup (by exact pad_cons (pvd 23) (by exact pad_cons (by exact ped_ixK (room65 hr) (pvd 5) (pvd 23)) pad_nil)))⟩)) pad_nil)) (by exact pad_cons (by exact ped_new pad_nil) (by exact pad_cons ped_int (by exact pad_cons ped_dnew pad_nil))))) (by exact pgd_tup rfl (by exact pgsd_cons (by exact pgd_name (i := 4) sc_law.nd rfl (Or.inr rfl)) (by exact pgsd_cons (by exact pgd_name (i := 6) sc_law.nd rfl (Or.inl rfl)) (by exact pgsd_cons (by exact pgd_name (i := 7) sc_law.nd rfl (Or.inl rfl)) (by exact pgsd_cons (by exact pgd_name (i := 8) sc_law.nd rfl (Or.inr rfl)) pgsd_nil)))) rfl rfl (ner_cons ner_set (ner_cons ner_set (ner_cons ner_set (ner_cons ner_set ner_nil)))))))))) psd_nil))))))))))))) (by exact psd_one (by exact psd_if (by exact ptd_not (by exact ptd_truth (by exact ped_fn (ps := ["found", "due"]) (by exact D_law_alike.F) (by exact HR_law_alike) (by exact L2N.takes_of rfl rfl rfl rfl) (by exact rfl) (by exact D_law_alike.g) (by exact D_law_alike.k) (by exact D_law_alike.b) (by exact pad_cons (by exact ped_lst (by exact pad_cons (by exact ped_cmpC (own := [("one", 23)]) (g := (gName 23)) rfl sc_law.nd (by exact pid_seq (pvd 2)) (blkOk_by (own := [("one", 23)]) (N := N_law) (sc := defScope t_law) (by decide +kernel)) (gown_name (by decide)) (fun _ _ _ _ _ => (by exact pgd_name (i := 23) sc_law.nd rfl (Or.inl rfl))) (fun _ _ _ _ _ => ⟨_, ptsd_nil⟩) (fun _ _ _ _ _ => ⟨_, (by exact ped_me (ps := ["self", "name"]) (pvd 3) (by exact T.cl_Yard) (by exact D_Yard_text.m) (by exact D_Yard_text.F) (by exact HR_Yard_text) takes0N (by exact D_Yard_text.b) (by exact pad_cons (pvd 23) pad_nil))⟩)) (by exact pad_cons (by exact ped_me0 (ps := ["self"]) (pvd 3) (by exact T.cl_Yard) (by exact D_Yard_works.m) (by exact D_Yard_works.F) (by exact HR_Yard_works) (by exact L2N.takes_of rfl rfl rfl rfl) (by exact D_Yard_works.b)) (by exact pad_cons (by exact ped_me0 (ps := ["self"]) (pvd 3) (by exact T.cl_Yard) (by exact D_Yard_waiting.m) (by exact D_Yard_waiting.F) (by exact HR_Yard_waiting) (by exact L2N.takes_of rfl rfl rfl rfl) (by exact D_Yard_waiting.b)) pad_nil)))) (by exact pad_cons (by exact ped_lst (by exact pad_cons (by exact ped_cmpC (own := [("one", 23)]) (g := (gName 23)) rfl sc_law.nd (by exact pid_seq (pvd 2)) (blkOk_by (own := [("one", 23)]) (N := N_law) (sc := defScope t_law) (by decide +kernel)) (gown_name (by decide)) (fun _ _ _ _ _ => (by exact pgd_name (i := 23) sc_law.nd rfl (Or.inl rfl))) (fun _ _ _ _ _ => ⟨_, ptsd_nil⟩) (fun _ _ _ _ _ => ⟨_, (by exact ped_ixK (room65 hr) (pvd 4) (pvd 23))⟩)) (by exact pad_cons (by exact ped_callTy call_tuple_of adc_tuple rfl T.n_tuple boot_tuple (by exact pad_cons (by exact ped_callB cr_sortedI adc_sortI rfl T.n_sorted boot_sorted (by exact pad_cons (by exact ped_callTy (call_list_dK rfl) adc_listKF rfl T.n_list boot_list (by exact pad_cons (pvd 8) pad_nil)) pad_nil)) pad_nil)) (by exact pad_cons (by exact ped_op op_sub ad_sub (by exact ped_callB PD.cr_len adc_len rfl T.n_len boot_len (by exact pad_cons (pvd 6) pad_nil)) (pvd 7)) pad_nil)))) pad_nil))))) (by exact psd_one (by exact psd_ret ped_bl)) psd_nil)))))) (by exact psd_cons (by exact psd_asg (by exact ped_me0 (ps := ["self"]) (pvd 3) (by exact T.cl_Yard) (by exact D_Yard_begin.m) (by exact D_Yard_begin.F) (by exact HR_Yard_begin) (by exact L2N.takes_of rfl rfl rfl rfl) (by exact D_Yard_begin.b)) (by exact pgd_name (i := 14) sc_law.nd rfl (Or.inr rfl))) (by exact psd_cons (by exact psd_asg (by exact ped_op opd_add ad_add (by exact ped_cmpC (own := [("one", 23)]) (g := (gName 23)) rfl sc_law.nd (by exact pid_seq (by exact ped_lst (by exact pad_cons ped_int (by exact pad_cons (by exact ped_op opd_add ad_add (pvd 14) ped_int) (by exact pad_cons ped_non (by exact pad_cons ped_str pad_nil)))))) (blkOk_by (own := [("one", 23)]) (N := N_law) (sc := defScope t_law) (by decide +kernel)) (gown_name (by decide)) (fun _ _ _ _ _ => (by exact pgd_name (i := 23) sc_law.nd rfl (Or.inl rfl))) (fun _ _ _ _ _ => ⟨_, ptsd_nil⟩) (fun _ _ _ _ _ => ⟨_, (by exact ped_fn (ps := ["which", "yard", "one", "other", "third"]) (by exact D_law_tried.F) (by exact HR_law_tried) takes0N (by exact rfl) (by exact D_law_tried.g) (by exact D_law_tried.k) (by exact D_law_tried.b) (by exact pad_cons ped_int (by exact pad_cons (pvd 3) (by exact pad_cons (pvd 23) (by exact pad_cons (by exact ped_ix (pvd 2) ped_int) (by exact pad_cons ped_str pad_nil))))))⟩)) (by exact ped_cmpC (own := [("which", 24)]) (g := (gName 24)) rfl sc_law.nd (by exact pid_rng2 rfl T.n_range (by exact pad_cons ped_int (by exact pad_cons ped_int pad_nil))) (blkOk_by (own := [("which", 24)]) (N := N_law) (sc := defScope t_law) (by decide +kernel)) (gown_name (by decide)) (fun _ _ _ _ _ => (by exact pgd_name (i := 24) sc_law.nd rfl (Or.inl rfl))) (fun _ _ _ _ _ => ⟨_, ptsd_nil⟩) (fun _ _ _ _ _ => ⟨_, (by exact ped_fn (ps := ["which", "yard", "one", "other", "third"]) (by exact D_law_tried.F) (by exact HR_law_tried) takes0N (by exact rfl) (by exact D_law_tried.g) (by exact D_law_tried.k) (by exact D_law_tried.b) (by exact pad_cons (pvd 24) (by exact pad_cons (pvd 3) (by exact pad_cons (by exact ped_op opd_add ad_add (pvd 14) ped_int) (by exact pad_cons ped_non (by exact pad_cons ped_non pad_nil))))))⟩))) (by exact pgd_name (i := 20) sc_law.nd rfl (Or.inl rfl))) (by exact psd_cons (by exact psd_asg (by exact ped_op opd_add ad_add (by exact ped_op opd_add ad_add (pvd 20) (by exact ped_cmpC (own := [("one", 23)]) (g := (gName 23)) rfl sc_law.nd (by exact pid_seq (by exact ped_lst (by exact pad_cons ped_str (by exact pad_cons ped_non (by exact pad_cons ped_int pad_nil))))) (blkOk_by (own := [("one", 23)]) (N := N_law) (sc := defScope t_law) (by decide +kernel)) (gown_name (by decide)) (fun _ _ _ _ _ => (by exact pgd_name (i := 23) sc_law.nd rfl (Or.inl rfl))) (fun _ _ _ _ _ => ⟨_, ptsd_nil⟩) (fun _ _ _ _ _ => ⟨_, (by exact ped_fn (ps := ["which", "yard", "one", "other", "third"]) (by exact D_law_tried.F) (by exact HR_law_tried) takes0N (by exact rfl) (by exact D_law_tried.g) (by exact D_law_tried.k) (by exact D_law_tried.b) (by exact pad_cons ped_int (by exact pad_cons (pvd 3) (by exact pad_cons (pvd 14) (by exact pad_cons (pvd 23) (by exact pad_cons ped_str pad_nil))))))⟩))) (by exact ped_cmpC (own := [("which", 24)]) (g := (gName 24)) rfl sc_law.nd (by exact pid_rng2 rfl T.n_range (by exact pad_cons ped_int (by exact pad_cons ped_int pad_nil))) (blkOk_by (own := [("which", 24)]) (N := N_law) (sc := defScope t_law) (by decide +kernel)) (gown_name (by decide)) (fun _ _ _ _ _ => (by exact pgd_name (i := 24) sc_law.nd rfl (Or.inl rfl))) (fun _ _ _ _ _ => ⟨_, ptsd_nil⟩) (fun _ _ _ _ _ => ⟨_, (by exact ped_fn (ps := ["which", "yard", "one", "other", "third"]) (by exact D_law_tried.F) (by exact HR_law_tried) takes0N (by exact rfl) (by exact D_law_tried.g) (by exact D_law_tried.k) (by exact D_law_tried.b) (by exact pad_cons (pvd 24) (by exact pad_cons (pvd 3) (by exact pad_cons ped_str (by exact pad_cons ped_non (by exact pad_cons ped_non pad_nil))))))⟩))) (by exact pgd_name (i := 20) sc_law.nd rfl (Or.inl rfl))) (by exact psd_cons (by exact psd_asg (by exact ped_op opd_add ad_add (by exact ped_op opd_add ad_add (pvd 20) (by exact ped_cmpC (own := [("one", 23)]) (g := (gName 23)) rfl sc_law.nd (by exact pid_seq (by exact ped_lst (by exact pad_cons (by exact ped_neg ped_int) (by exact pad_cons (by exact ped_op opd_add ad_add (by exact ped_me0 (ps := ["self"]) (pvd 3) (by exact T.cl_Yard) (by exact D_Yard_waiting.m) (by exact D_Yard_waiting.F) (by exact HR_Yard_waiting) (by exact L2N.takes_of rfl rfl rfl rfl) (by exact D_Yard_waiting.b)) ped_int) (by exact pad_cons ped_non pad_nil))))) (blkOk_by (own := [("one", 23)]) (N := N_law) (sc := defScope t_law) (by decide +kernel)) (gown_name (by decide)) (fun _ _ _ _ _ => (by exact pgd_name (i := 23) sc_law.nd rfl (Or.inl rfl))) (fun _ _ _ _ _ => ⟨_, ptsd_nil⟩) (fun _ _ _ _ _ => ⟨_, (by exact ped_fn (ps := ["yard", "kept"]) (by exact D_law_crashed.F) (by exact HR_law_crashed) takes0N (by exact rfl) (by exact D_law_crashed.g) (by exact D_law_crashed.k) (by exact D_law_crashed.b) (by exact pad_cons (pvd 3) (by exact pad_cons (pvd 23) pad_nil)))⟩))) (by exact ped_cmpC (own := [("one", 23)]) (g := (gName 23)) rfl sc_law.nd (by exact pid_seq (by exact ped_lst (by exact pad_cons ped_non (by exact pad_cons ped_int (by exact pad_cons (by exact ped_tup (by exact pad_cons ped_str pad_nil)) pad_nil))))) (blkOk_by (own := [("one", 23)]) (N := N_law) (sc := defScope t_law) (by decide +kernel)) (gown_name (by decide)) (fun _ _ _ _ _ => (by exact pgd_name (i := 23) sc_law.nd rfl (Or.inl rfl))) (fun _ _ _ _ _ => ⟨_, ptsd_nil⟩) (fun _ _ _ _ _ => ⟨_, (by exact ped_fn (ps := ["which", "yard", "one", "other", "third"]) (by exact D_law_tried.F) (by exact HR_law_tried) takes0N (by exact rfl) (by exact D_law_tried.g) (by exact D_law_tried.k) (by exact D_law_tried.b) (by exact pad_cons ped_int (by exact pad_cons (pvd 3) (by exact pad_cons (pvd 14) (by exact pad_cons (by exact ped_ix (pvd 2) ped_int) (by exact pad_cons (pvd 23) pad_nil))))))⟩))) (by exact pgd_name (i := 20) sc_law.nd rfl (Or.inl rfl))) (by exact psd_cons (by exact psd_asg (by exact ped_op opd_add ad_add (pvd 20) (by exact ped_cmpC (own := [("one", 23)]) (g := (gName 23)) rfl sc_law.nd (by exact pid_seq (by exact ped_lst (by exact pad_cons ped_non (by exact pad_cons (by exact ped_tup pad_nil) (by exact pad_cons (by exact ped_lst (by exact pad_cons ped_str pad_nil)) (by exact pad_cons (by exact ped_tup (by exact pad_cons ped_str (by exact pad_cons ped_str pad_nil))) (by exact pad_cons (by exact ped_tup (by exact pad_cons ped_str (by exact pad_cons ped_str pad_nil))) (by exact pad_cons (by exact ped_tup (by exact pad_cons ped_str pad_nil)) (by exact pad_cons (by exact ped_tup (by exact pad_cons ped_str (by exact pad_cons ped_non pad_nil))) (by exact pad_cons ped_str pad_nil)))))))))) (blkOk_by (own := [("one", 23)]) (N := N_law) (sc := defScope t_law) (by decide +kernel)) (gown_name (by decide)) (fun _ _ _ _ _ => (by exact pgd_name (i := 23) sc_law.nd rfl (Or.inl rfl))) (fun _ _ _ _ _ => ⟨_, ptsd_nil⟩) (fun _ _ _ _ _ => ⟨_, (by exact ped_fn (ps := ["which", "yard", "one", "other", "third"]) (by exact D_law_tried.F) (by exact HR_law_tried) takes0N (by exact rfl) (by exact D_law_tried.g) (by exact D_law_tried.k) (by exact D_law_tried.b) (by exact pad_cons ped_int (by exact pad_cons ped_non (by exact pad_cons (pvd 23) (by exact pad_cons ped_non (by exact pad_cons ped_non pad_nil))))))⟩))) (by exact pgd_name (i := 20) sc_law.nd rfl (Or.inl rfl))) (by exact psd_one (by exact psd_ret (by exact ped_and (by exact ped_cmp (by exact op_eqD (room64 hr)) (by exact ad_eq) (pvd 20) (by exact ped_op opd_add ad_add (by exact ped_op opd_add ad_add (by exact ped_op opd_mul ad_mul (by exact ped_lst (by exact pad_cons ped_str pad_nil)) ped_int) (by exact ped_op opd_mul ad_mul (by exact ped_lst (by exact pad_cons ped_str pad_nil)) ped_int)) (by exact ped_op opd_mul ad_mul (by exact ped_lst (by exact pad_cons ped_str pad_nil)) ped_int)) (by exact nomark _)) (by exact ped_one (by exact ped_cmp (by exact op_eqD (room64 hr)) (by exact ad_eq) (by exact ped_cmpC (own := [("one", 23)]) (g := (gName 23)) rfl sc_law.nd (by exact pid_seq (pvd 2)) (blkOk_by (own := [("one", 23)]) (N := N_law) (sc := defScope t_law) (by decide +kernel)) (gown_name (by decide)) (fun _ _ _ _ _ => (by exact pgd_name (i := 23) sc_law.nd rfl (Or.inl rfl))) (fun _ _ _ _ _ => ⟨_, ptsd_nil⟩) (fun _ _ _ _ _ => ⟨_, (by exact ped_me (ps := ["self", "name"]) (pvd 3) (by exact T.cl_Yard) (by exact D_Yard_text.m) (by exact D_Yard_text.F) (by exact HR_Yard_text) takes0N (by exact D_Yard_text.b) (by exact pad_cons (pvd 23) pad_nil))⟩)) (by exact ped_cmpC (own := [("one", 23)]) (g := (gName 23)) rfl sc_law.nd (by exact pid_seq (pvd 2)) (blkOk_by (own := [("one", 23)]) (N := N_law) (sc := defScope t_law) (by decide +kernel)) (gown_name (by decide)) (fun _ _ _ _ _ => (by exact pgd_name (i := 23) sc_law.nd rfl (Or.inl rfl))) (fun _ _ _ _ _ => ⟨_, ptsd_nil⟩) (fun _ _ _ _ _ => ⟨_, (by exact ped_ixK (room65 hr) (pvd 4) (pvd 23))⟩)) (by exact nomark _))))))))))))))))⟩
  exact h
end K76
namespace K76
open PySem PySem.Spec PyProof.Rows L2 PD
variable [Tbs]
theorem set_same {μ : Mu} {d : Nat} {c : Cell} (h : μ[d]? = some c) : μ.set d c = μ := by
  refine List.ext_getElem? fun i => ?_
  by_cases e : d = i
  · subst e
    rw [List.getElem?_set_self (List.getElem?_eq_some_iff.mp h).1, h]
  · rw [List.getElem?_set_ne e]
section
variable {A : Adr} {μ : Mu}
def intsW (l : List Int) : List W := l.map .int
theorem take_nil {d : Nat} {b : Int} (h : μ[d]? = some (.lst [])) : f_law_take A [.loc d, .int b] μ = .ok (.int 0) μ := by
  simp [eVar, eC, eBin, eTest, eTru, eAnd, eOr, eNot, eNeg, eIf, eTup, eLst, eNew, eCall, eFn, eMe, eMk, eFld, eMeL, eMeL0, aNil, aCons, bAnd, bOr, bNot, bYes, sSeq, sNx, sEx, sRet, sRetN, sIf, sAsg, gSet, sPar, sFldM, sFldAdd, sRaise, Out.bind, Out.st, SO.seq, fin, runB, startW, f_law_take, N_law_take, s_law_take, cLen, orC, cLenQ, asQ, asL, h, Out.els, gEq_int]
theorem take_snoc {d : Nat} {b z : Int} {l : List Int} (h : μ[d]? = some (.lst (intsW (l ++ [z])))) (hb : 0 < b) : f_law_take A [.loc d, .int b] μ = .ok (.int (z % b)) (μ.set d (.lst (intsW l))) := by
  have hne : ¬ ((l.length : Int) + 1 = 0) := by omega
  simp [eVar, eC, eBin, eTest, eTru, eAnd, eOr, eNot, eNeg, eIf, eTup, eLst, eNew, eCall, eFn, eMe, eMk, eFld, eMeL, eMeL0, aNil, aCons, bAnd, bOr, bNot, bYes, sSeq, sNx, sEx, sRet, sRetN, sIf, sAsg, gSet, sPar, sFldM, sFldAdd, sRaise, Out.bind, Out.st, SO.seq, fin, runB, startW, f_law_take, N_law_take, s_law_take, cLen, orC, cLenQ, asQ, asL, h, Out.els, gEq_int, isL, mPop, intsW, cInt, gMod, gIC, hb, hne]
theorem take_ok {d : Nat} {b : Int} {l : List Int} (h : μ[d]? = some (.lst (intsW l))) (hb : 0 < b) : ∃ z l', f_law_take A [.loc d, .int b] μ = .ok (.int z) (μ.set d (.lst (intsW l'))) ∧ 0 ≤ z ∧ z < b := by
  rcases List.eq_nil_or_concat l with rfl | ⟨l', z, rfl⟩
  · exact ⟨0, [], by rw [take_nil h, set_same h], Int.le_refl _, hb⟩
  · rw [List.concat_eq_append] at h
    exact ⟨z % b, l', take_snoc h hb, Int.emod_nonneg _ (by omega), Int.emod_lt_of_pos _ hb⟩
/-! the draws: a list of ints, whatever the script -/
theorem sizeLine_val : sizeLine = 16777216 := by rw [sizeLine_eq]
theorem intsW_snoc (l : List Int) (z : Int) : intsW l ++ [.int z] = intsW (l ++ [z]) := by simp [eVar, eC, eBin, eTest, eTru, eAnd, eOr, eNot, eNeg, eIf, eTup, eLst, eNew, eCall, eFn, eMe, eMk, eFld, eMeL, eMeL0, aNil, aCons, bAnd, bOr, bNot, bYes, sSeq, sNx, sEx, sRet, sRetN, sIf, sAsg, gSet, sPar, sFldM, sFldAdd, sRaise, Out.bind, Out.st, SO.seq, fin, runB, startW, intsW]
theorem intsW_length (l : List Int) : (intsW l).length = l.length := by simp [eVar, eC, eBin, eTest, eTru, eAnd, eOr, eNot, eNeg, eIf, eTup, eLst, eNew, eCall, eFn, eMe, eMk, eFld, eMeL, eMeL0, aNil, aCons, bAnd, bOr, bNot, bYes, sSeq, sNx, sEx, sRet, sRetN, sIf, sAsg, gSet, sPar, sFldM, sFldAdd, sRaise, Out.bind, Out.st, SO.seq, fin, runB, startW, intsW]
theorem dr1 {w : W} {a b c d : Option W} {n : Int} {l : List Int} (h : l.length < sizeLine) : ∃ n' l', s_law_draws_1 A [some w, some (.loc 0), a, some (.int n), b, c, d] [.lst (intsW l)] = .nx [some w, some (.loc 0), a, some (.int n'), b, c, d] [.lst (intsW l')] ∧ l'.length ≤ l.length + 1 := by
  by_cases hn : 0 < n
  · refine ⟨n / 997, l ++ [n % 997], ?_, by simp⟩
    simp [eVar, eC, eBin, eTest, eTru, eAnd, eOr, eNot, eNeg, eIf, eTup, eLst, eNew, eCall, eFn, eMe, eMk, eFld, eMeL, eMeL0, aNil, aCons, bAnd, bOr, bNot, bYes, sSeq, sNx, sEx, sRet, sRetN, sIf, sAsg, gSet, sPar, sFldM, sFldAdd, sRaise, Out.bind, Out.st, SO.seq, fin, runB, startW, s_law_draws_1, gGt, gI, hn, cInt, gMod, gIC, isL, asL, mAppend, intsW_length, h, gDiv, intsW_snoc]
  · exact ⟨n, l, by simp [eVar, eC, eBin, eTest, eTru, eAnd, eOr, eNot, eNeg, eIf, eTup, eLst, eNew, eCall, eFn, eMe, eMk, eFld, eMeL, eMeL0, aNil, aCons, bAnd, bOr, bNot, bYes, sSeq, sNx, sEx, sRet, sRetN, sIf, sAsg, gSet, sPar, sFldM, sFldAdd, sRaise, Out.bind, Out.st, SO.seq, fin, runB, startW, s_law_draws_1, gGt, gI, hn], Nat.le_succ _⟩
theorem dr0 {w : W} {a b c d e : Option W} {n : Int} {l : List Int} (h : l.length < sizeLine) : ∃ n' l', s_law_draws_0 A [some w, some (.loc 0), a, b, c, d, some (.int n)] [.lst (intsW l)] = .nx [some w, some (.loc 0), a, b, c, d, some (.int n')] [.lst (intsW l')] ∧ l'.length ≤ l.length + 1 := by
  refine ⟨(n * 48271 + 69621) % 2147483647, l ++ [(n * 48271 + 69621) % 2147483647 / 5], ?_, by simp⟩
  simp [eVar, eC, eBin, eTest, eTru, eAnd, eOr, eNot, eNeg, eIf, eTup, eLst, eNew, eCall, eFn, eMe, eMk, eFld, eMeL, eMeL0, aNil, aCons, bAnd, bOr, bNot, bYes, sSeq, sNx, sEx, sRet, sRetN, sIf, sAsg, gSet, sPar, sFldM, sFldAdd, sRaise, Out.bind, Out.st, SO.seq, fin, runB, startW, s_law_draws_0, gAdd, gMul, gMulI, orG, Out.els, gAddI, gI, cInt, gMod, gIC, isL, asL, mAppend, intsW_length, h, gDiv, intsW_snoc]
theorem dr2 {w : W} {b c d e : Option W} {n : Int} {l : List Int} (h : l.length + 62 < sizeLine) : ∃ b' c' d' l', s_law_draws_2 A [some w, some (.loc 0), some (.int n), b, c, d, e] [.lst (intsW l)] = .nx [some w, some (.loc 0), some (.int n), b', c', d', e] [.lst (intsW l')] ∧ l'.length ≤ l.length + 62 := by
  -- the inner loop from any number on
  have inner : ∀ (m : Int) (c : Option W) (l : List Int), l.length + 60 < sizeLine → ∃ b' c' d' l', sFor (iRngA (aCons (eC (.int 60)) aNil)) (gSet 5) (s_law_draws_1 A) [some w, some (.loc 0), some (.int n), some (.int m), c, d, e] [.lst (intsW l)] = .nx [some w, some (.loc 0), some (.int n), b', c', d', e] [.lst (intsW l')] ∧ l'.length ≤ l.length + 60 := by
    intro m c l hl
    obtain ⟨ρ', μ', e1, c1, d1, m1, l1, rfl, rfl, h1⟩ := forS_inv (g := gSet 5) (body := s_law_draws_1 A) (fun i ρ μ => ∃ (c1 d1 : Option W) (m1 : Int) (l1 : List Int), ρ = [some w, some (.loc 0), some (.int n), some (.int m1), c1, d1, e] ∧ μ = [.lst (intsW l1)] ∧ l1.length ≤ l.length + i) (irange 0 60) 0
      [some w, some (.loc 0), some (.int n), some (.int m), c, d, e] [.lst (intsW l)] ⟨c, d, m, l, rfl, rfl, Nat.le_refl _⟩ fun j x ρ μ _ hx ⟨c1, d1, m1, l1, e1, e2, h1⟩ => by
        subst e1 e2
        have hj : j < 60 := by
          have := (List.getElem?_eq_some_iff.mp hx).1
          simpa [irange] using this
        obtain ⟨n', l', e3, h3⟩ := dr1 (A := A) (w := w) (a := some (.int n)) (b := c1) (c := some x) (d := e) (n := m1) (l := l1) (by omega)
        exact ⟨_, _, _, _, rfl, e3, _, _, _, _, rfl, rfl, by omega⟩
    refine ⟨some (.int m1), c1, d1, l1, ?_, by simpa [irange] using h1⟩
    simp [eVar, eC, eBin, eTest, eTru, eAnd, eOr, eNot, eNeg, eIf, eTup, eLst, eNew, eCall, eFn, eMe, eMk, eFld, eMeL, eMeL0, aNil, aCons, bAnd, bOr, bNot, bYes, sSeq, sNx, sEx, sRet, sRetN, sIf, sAsg, gSet, sPar, sFldM, sFldAdd, sRaise, Out.bind, Out.st, SO.seq, fin, runB, startW, sFor, iRngA]
    exact e1
  generalize hm : (if n < 0 then -n else n) = m at *
  by_cases hn : m < 1000000000000000000
  · obtain ⟨b', c', d', l', e1, h1⟩ := inner 0 (some (.int ((m * 48271 + 11) % 2147483647))) (l ++ [((m * 48271 + 11) % 2147483647 * 69621 + m) % 2147483629] ++ [((m * 48271 + 11) % 2147483647 + m / 7) % 1000003]) (by simp [eVar, eC, eBin, eTest, eTru, eAnd, eOr, eNot, eNeg, eIf, eTup, eLst, eNew, eCall, eFn, eMe, eMk, eFld, eMeL, eMeL0, aNil, aCons, bAnd, bOr, bNot, bYes, sSeq, sNx, sEx, sRet, sRetN, sIf, sAsg, gSet, sPar, sFldM, sFldAdd, sRaise, Out.bind, Out.st, SO.seq, fin, runB, startW]; omega)
    refine ⟨b', c', d', l', ?_, by simp at h1; omega⟩
    have hl1 : l.length < sizeLine := by omega
    have hl2 : l.length + 1 < sizeLine := by omega
    rw [← e1]
    simp [eVar, eC, eBin, eTest, eTru, eAnd, eOr, eNot, eNeg, eIf, eTup, eLst, eNew, eCall, eFn, eMe, eMk, eFld, eMeL, eMeL0, aNil, aCons, bAnd, bOr, bNot, bYes, sSeq, sNx, sEx, sRet, sRetN, sIf, sAsg, gSet, sPar, sFldM, sFldAdd, sRaise, Out.bind, Out.st, SO.seq, fin, runB, startW, s_law_draws_2, cAbs, hm, gLt, gI, gPow, gIC, hn, gAdd, gMul, gMulI, orG, Out.els, gAddI, cInt, gMod, isL, asL, mAppend, intsW_length, hl1, hl2, gDiv, intsW_snoc]
  · obtain ⟨b', c', d', l', e1, h1⟩ := inner m c l (by omega)
    refine ⟨b', c', d', l', ?_, by omega⟩
    rw [← e1]
    simp [eVar, eC, eBin, eTest, eTru, eAnd, eOr, eNot, eNeg, eIf, eTup, eLst, eNew, eCall, eFn, eMe, eMk, eFld, eMeL, eMeL0, aNil, aCons, bAnd, bOr, bNot, bYes, sSeq, sNx, sEx, sRet, sRetN, sIf, sAsg, gSet, sPar, sFldM, sFldAdd, sRaise, Out.bind, Out.st, SO.seq, fin, runB, startW, s_law_draws_2, cAbs, hm, gLt, gI, gPow, gIC, hn]
theorem draws_ok (ns : List Int) (hn : ns.length ≤ 63) : ∃ μ n l, f_law_draws A [.scr (ns.map .int)] [] = .ok (.loc n) μ ∧ μ[n]? = some (.lst (intsW l)) := by
  have sl := sizeLine_val
  -- the first loop
  obtain ⟨ρ1, μ1, e1, a1, b1, c1, d1, l1, rfl, rfl, h1⟩ := forS_inv (g := gSet 2) (body := s_law_draws_2 A) (fun i ρ μ => ∃ (a b c d : Option W) (l : List Int), ρ = [some (.scr (ns.map .int)), some (.loc 0), a, b, c, d, none] ∧ μ = [.lst (intsW l)] ∧ l.length ≤ 62 * i) (ns.map .int) 0
    [some (.scr (ns.map .int)), some (.loc 0), none, none, none, none, none] [.lst (intsW [])] ⟨none, none, none, none, [], rfl, rfl, Nat.le_refl _⟩ fun j x ρ μ _ hx ⟨a, b, c, d, l, e1, e2, h1⟩ => by
      subst e1 e2
      rw [Nat.sub_zero, List.getElem?_map] at hx
      obtain ⟨z, hz, rfl⟩ := Option.map_eq_some_iff.mp hx
      have hj : j < ns.length := (List.getElem?_eq_some_iff.mp hz).1
      obtain ⟨b', c', d', l', e3, h3⟩ := dr2 (A := A) (w := .scr (ns.map .int)) (b := b) (c := c) (d := d) (e := none) (n := z) (l := l) (by omega)
      exact ⟨_, _, _, _, rfl, e3, _, _, _, _, _, rfl, rfl, by omega⟩
  simp at h1
  -- the seed
  have seed : ∃ z : Int, (sIf (eTest (eBin gGt (eCall cLen (aCons (eVar 0) aNil)) (eC (.int 0)))) (sAsg (eBin gAdd (eC (.int 1)) (eCall cAbs (aCons (eBin gIx (eVar 0) (eC (.int 0))) aNil))) (gSet 6)) sNx) [some (.scr (ns.map .int)), some (.loc 0), a1, b1, c1, d1, some (.int 1)] [.lst (intsW l1)] =
      .nx [some (.scr (ns.map .int)), some (.loc 0), a1, b1, c1, d1, some (.int z)] [.lst (intsW l1)] := by
    cases ns with
    | nil => exact ⟨1, by simp [eVar, eC, eBin, eTest, eTru, eAnd, eOr, eNot, eNeg, eIf, eTup, eLst, eNew, eCall, eFn, eMe, eMk, eFld, eMeL, eMeL0, aNil, aCons, bAnd, bOr, bNot, bYes, sSeq, sNx, sEx, sRet, sRetN, sIf, sAsg, gSet, sPar, sFldM, sFldAdd, sRaise, Out.bind, Out.st, SO.seq, fin, runB, startW, cLen, orC, cLenQ, asQ, Out.els, gGt, gI]⟩
    | cons n ns =>
      have hne : ¬ ((0 : Int) < (ns.length : Int) + 1) → False := by omega
      have hp : (0 : Int) < (ns.length : Int) + 1 := by omega
      exact ⟨1 + (if n < 0 then -n else n), by simp [eVar, eC, eBin, eTest, eTru, eAnd, eOr, eNot, eNeg, eIf, eTup, eLst, eNew, eCall, eFn, eMe, eMk, eFld, eMeL, eMeL0, aNil, aCons, bAnd, bOr, bNot, bYes, sSeq, sNx, sEx, sRet, sRetN, sIf, sAsg, gSet, sPar, sFldM, sFldAdd, sRaise, Out.bind, Out.st, SO.seq, fin, runB, startW, cLen, orC, cLenQ, asQ, Out.els, gGt, gI, hp, gIx, gIxQ, orG, atI, ixN, cAbs, gAdd, gAddI]⟩
  obtain ⟨z, e2⟩ := seed
  obtain ⟨ρ3, μ3, e3, d3, z3, l3, rfl, rfl, h3⟩ := forS_inv (g := gSet 5) (body := s_law_draws_0 A) (fun i ρ μ => ∃ (d : Option W) (z : Int) (l : List Int), ρ = [some (.scr (ns.map .int)), some (.loc 0), a1, b1, c1, d, some (.int z)] ∧ μ = [.lst (intsW l)] ∧ l.length ≤ l1.length + i) (irange 0 900) 0
    [some (.scr (ns.map .int)), some (.loc 0), a1, b1, c1, d1, some (.int z)] [.lst (intsW l1)] ⟨d1, z, l1, rfl, rfl, Nat.le_refl _⟩ fun j x ρ μ _ hx ⟨d, z, l, e1, e2, h1⟩ => by
      subst e1 e2
      have hj : j < 900 := by
        have := (List.getElem?_eq_some_iff.mp hx).1
        simpa [irange] using this
      obtain ⟨n', l', e3, h3⟩ := dr0 (A := A) (w := .scr (ns.map .int)) (a := a1) (b := b1) (c := c1) (d := some x) (e := d) (n := z) (l := l) (by omega)
      exact ⟨_, _, _, _, rfl, e3, _, _, _, rfl, rfl, by omega⟩
  refine ⟨[.lst (intsW l3), .lst (intsW l3.reverse)], 1, l3.reverse, ?_, rfl⟩
  have f1 : sFor (iSeq (eVar 0)) (gSet 2) (s_law_draws_2 A) [some (.scr (ns.map .int)), some (.loc 0), none, none, none, none, none] [.lst []] = .nx [some (.scr (ns.map .int)), some (.loc 0), a1, b1, c1, d1, none] [.lst (intsW l1)] := by
    rw [← e1]
    simp [eVar, eC, eBin, eTest, eTru, eAnd, eOr, eNot, eNeg, eIf, eTup, eLst, eNew, eCall, eFn, eMe, eMk, eFld, eMeL, eMeL0, aNil, aCons, bAnd, bOr, bNot, bYes, sSeq, sNx, sEx, sRet, sRetN, sIf, sAsg, gSet, sPar, sFldM, sFldAdd, sRaise, Out.bind, Out.st, SO.seq, fin, runB, startW, sFor, iSeq, itOf, asQ, intsW]
  have f3 : sFor (iRngA (aCons (eC (.int 900)) aNil)) (gSet 5) (s_law_draws_0 A) [some (.scr (ns.map .int)), some (.loc 0), a1, b1, c1, d1, some (.int z)] [.lst (intsW l1)] = .nx [some (.scr (ns.map .int)), some (.loc 0), a1, b1, c1, d3, some (.int z3)] [.lst (intsW l3)] := by
    rw [← e3]
    simp [eVar, eC, eBin, eTest, eTru, eAnd, eOr, eNot, eNeg, eIf, eTup, eLst, eNew, eCall, eFn, eMe, eMk, eFld, eMeL, eMeL0, aNil, aCons, bAnd, bOr, bNot, bYes, sSeq, sNx, sEx, sRet, sRetN, sIf, sAsg, gSet, sPar, sFldM, sFldAdd, sRaise, Out.bind, Out.st, SO.seq, fin, runB, startW, sFor, iRngA]
  have hz : 0 ≤ sizeLine := Nat.zero_le _
  have s1 : s_law_draws A [some (.scr (ns.map .int)), none, none, none, none, none, none] [] = .rt (.loc 1) [.lst (intsW l3), .lst (intsW l3.reverse)] := by
    refine (seq_nx (ρ1 := [some (.scr (ns.map .int)), some (.loc 0), none, none, none, none, none]) (μ1 := [.lst []]) (by simp [eVar, eC, eBin, eTest, eTru, eAnd, eOr, eNot, eNeg, eIf, eTup, eLst, eNew, eCall, eFn, eMe, eMk, eFld, eMeL, eMeL0, aNil, aCons, bAnd, bOr, bNot, bYes, sSeq, sNx, sEx, sRet, sRetN, sIf, sAsg, gSet, sPar, sFldM, sFldAdd, sRaise, Out.bind, Out.st, SO.seq, fin, runB, startW, hz])).trans ((seq_nx f1).trans ((seq_nx (ρ1 := [some (.scr (ns.map .int)), some (.loc 0), a1, b1, c1, d1, some (.int 1)]) (μ1 := [.lst (intsW l1)]) (by simp [eVar, eC, eBin, eTest, eTru, eAnd, eOr, eNot, eNeg, eIf, eTup, eLst, eNew, eCall, eFn, eMe, eMk, eFld, eMeL, eMeL0, aNil, aCons, bAnd, bOr, bNot, bYes, sSeq, sNx, sEx, sRet, sRetN, sIf, sAsg, gSet, sPar, sFldM, sFldAdd, sRaise, Out.bind, Out.st, SO.seq, fin, runB, startW])).trans ((seq_nx e2).trans ((seq_nx f3).trans ?_))))
    simp [eVar, eC, eBin, eTest, eTru, eAnd, eOr, eNot, eNeg, eIf, eTup, eLst, eNew, eCall, eFn, eMe, eMk, eFld, eMeL, eMeL0, aNil, aCons, bAnd, bOr, bNot, bYes, sSeq, sNx, sEx, sRet, sRetN, sIf, sAsg, gSet, sPar, sFldM, sFldAdd, sRaise, Out.bind, Out.st, SO.seq, fin, runB, startW, eRevM, asL, intsW]
  simp [eVar, eC, eBin, eTest, eTru, eAnd, eOr, eNot, eNeg, eIf, eTup, eLst, eNew, eCall, eFn, eMe, eMk, eFld, eMeL, eMeL0, aNil, aCons, bAnd, bOr, bNot, bYes, sSeq, sNx, sEx, sRet, sRetN, sIf, sAsg, gSet, sPar, sFldM, sFldAdd, sRaise, Out.bind, Out.st, SO.seq, fin, runB, startW, f_law_draws, N_law_draws, s1]
end
end K76
namespace K76
open PySem PySem.Spec PyProof.Rows L2 PD
variable [Tbs]
section
variable {A : Adr} {μ : Mu}
theorem alike_int (n : Nat) (i : Int) : fr_law_alike A (n + 1) [.int i, .int i] μ = .ok (.bl true) μ := by
  simp [eVar, eC, eBin, eTest, eTru, eAnd, eOr, eNot, eNeg, eIf, eTup, eLst, eNew, eCall, eFn, eMe, eMk, eFld, eMeL, eMeL0, aNil, aCons, bAnd, bOr, bNot, bYes, sSeq, sNx, sEx, sRet, sRetN, sIf, sAsg, gSet, sPar, sFldM, sFldAdd, sRaise, Out.bind, Out.st, SO.seq, fin, runB, startW, fr_law_alike, N_law_alike, s_law_alike, cIsi, tyB, btOf, Bt.isA, truW, gIsN, PD.isNon, gEq_int]
theorem alike_walk {n : Nat} {l : List W} {f d : W} (hf : asQ μ f = some l) (hd : asQ μ d = some l) (h : ∀ x ∈ l, fr_law_alike A n [x, x] μ = .ok (.bl true) μ) (hl : l.length ≤ sizeLine) :
    eCmp (iRngA (aCons (eCall cLen (aCons (eVar 1) aNil)) aNil)) [2] (gSet 2) (bNot (eTru (eFn 2 (fr_law_alike A n) (aCons (eBin gIx (eVar 0) (eVar 2)) (aCons (eBin gIx (eVar 1) (eVar 2)) aNil))))) (eVar 2) [some f, some d, none] μ = .ok (.lst []) μ := by
  have sl := sizeLine_val
  have b1 : -(2 ^ 62) ≤ (l.length : Int) ∧ (l.length : Int) < 2 ^ 62 := by omega
  have b2 : -4611686018427387904 ≤ (l.length : Int) := by omega
  have b3 : (l.length : Int) < 4611686018427387904 := by omega
  simp [eVar, eC, eBin, eTest, eTru, eAnd, eOr, eNot, eNeg, eIf, eTup, eLst, eNew, eCall, eFn, eMe, eMk, eFld, eMeL, eMeL0, aNil, aCons, bAnd, bOr, bNot, bYes, sSeq, sNx, sEx, sRet, sRetN, sIf, sAsg, gSet, sPar, sFldM, sFldAdd, sRaise, Out.bind, Out.st, SO.seq, fin, runB, startW, eCmp, iRngA, cLen_q hd, b2, b3]
  refine cmpS_none fun x hx => ?_
  obtain ⟨i, hi, rfl⟩ := mem_irange hx
  have hx : l[i]? = some l[i] := List.getElem?_eq_getElem hi
  have ha := L2.atI_nat hx
  refine ⟨_, rfl, ?_⟩
  simp [eVar, eC, eBin, eTest, eTru, eAnd, eOr, eNot, eNeg, eIf, eTup, eLst, eNew, eCall, eFn, eMe, eMk, eFld, eMeL, eMeL0, aNil, aCons, bAnd, bOr, bNot, bYes, sSeq, sNx, sEx, sRet, sRetN, sIf, sAsg, gSet, sPar, sFldM, sFldAdd, sRaise, Out.bind, Out.st, SO.seq, fin, runB, startW, wipeW, gIx, orG, gIxQ, hf, hd, ha, Out.els, h l[i] (List.getElem_mem hi), truW]
theorem alike_ret_tup {l : List W} {c : EM} (e : c [some (.tup l), some (.tup l), none] μ = .ok (.lst []) μ) : (sRet (eAnd (eBin gEq (eCall cLen (aCons (eVar 0) aNil)) (eCall cLen (aCons (eVar 1) aNil))) (eBin gEq c (eLst aNil)))) [some (.tup l), some (.tup l), none] μ = .rt (.bl true) μ := by
  simp [eVar, eC, eBin, eTest, eTru, eAnd, eOr, eNot, eNeg, eIf, eTup, eLst, eNew, eCall, eFn, eMe, eMk, eFld, eMeL, eMeL0, aNil, aCons, bAnd, bOr, bNot, bYes, sSeq, sNx, sEx, sRet, sRetN, sIf, sAsg, gSet, sPar, sFldM, sFldAdd, sRaise, Out.bind, Out.st, SO.seq, fin, runB, startW, cLen_tup, gEq_int, gEq_nil, e]
theorem alike_tup {n : Nat} {l : List W} (h : ∀ x ∈ l, fr_law_alike A n [x, x] μ = .ok (.bl true) μ) (hl : l.length ≤ sizeLine) : fr_law_alike A (n + 1) [.tup l, .tup l] μ = .ok (.bl true) μ := by
  have e := alike_walk (f := .tup l) (d := .tup l) rfl rfl h hl
  have h : s_law_alike A (fr_law_alike A n) [some (.tup l), some (.tup l), none] μ = .rt (.bl true) μ :=
    seq_rt ((if_yes μ (by simp [eVar, eC, eBin, eTest, eTru, eAnd, eOr, eNot, eNeg, eIf, eTup, eLst, eNew, eCall, eFn, eMe, eMk, eFld, eMeL, eMeL0, aNil, aCons, bAnd, bOr, bNot, bYes, sSeq, sNx, sEx, sRet, sRetN, sIf, sAsg, gSet, sPar, sFldM, sFldAdd, sRaise, Out.bind, Out.st, SO.seq, fin, runB, startW, cIsi, tyB, btOf, Bt.isA, truW])).trans ((seq_nx (ρ1 := [some (.tup l), some (.tup l), none]) (μ1 := μ) (by simp [eVar, eC, eBin, eTest, eTru, eAnd, eOr, eNot, eNeg, eIf, eTup, eLst, eNew, eCall, eFn, eMe, eMk, eFld, eMeL, eMeL0, aNil, aCons, bAnd, bOr, bNot, bYes, sSeq, sNx, sEx, sRet, sRetN, sIf, sAsg, gSet, sPar, sFldM, sFldAdd, sRaise, Out.bind, Out.st, SO.seq, fin, runB, startW, cIsi, tyB, btOf, Bt.isA, gNe_bl])).trans (alike_ret_tup e)))
  show fin (s_law_alike A (fr_law_alike A n) [some (.tup l), some (.tup l), none] μ) = _
  rw [h]
  rfl
theorem alike_ret_lst {l : List W} {c : EM} (e : c [some (.lst l), some (.lst l), none] μ = .ok (.lst []) μ) : (sRet (eAnd (eBin gEq (eCall cLen (aCons (eVar 0) aNil)) (eCall cLen (aCons (eVar 1) aNil))) (eBin gEq c (eLst aNil)))) [some (.lst l), some (.lst l), none] μ = .rt (.bl true) μ := by
  simp [eVar, eC, eBin, eTest, eTru, eAnd, eOr, eNot, eNeg, eIf, eTup, eLst, eNew, eCall, eFn, eMe, eMk, eFld, eMeL, eMeL0, aNil, aCons, bAnd, bOr, bNot, bYes, sSeq, sNx, sEx, sRet, sRetN, sIf, sAsg, gSet, sPar, sFldM, sFldAdd, sRaise, Out.bind, Out.st, SO.seq, fin, runB, startW, cLen_lst, gEq_int, gEq_nil, e]
theorem alike_lst {n : Nat} {l : List W} (h : ∀ x ∈ l, fr_law_alike A n [x, x] μ = .ok (.bl true) μ) (hl : l.length ≤ sizeLine) : fr_law_alike A (n + 1) [.lst l, .lst l] μ = .ok (.bl true) μ := by
  have e := alike_walk (f := .lst l) (d := .lst l) rfl rfl h hl
  have h : s_law_alike A (fr_law_alike A n) [some (.lst l), some (.lst l), none] μ = .rt (.bl true) μ :=
    seq_rt ((if_yes μ (by simp [eVar, eC, eBin, eTest, eTru, eAnd, eOr, eNot, eNeg, eIf, eTup, eLst, eNew, eCall, eFn, eMe, eMk, eFld, eMeL, eMeL0, aNil, aCons, bAnd, bOr, bNot, bYes, sSeq, sNx, sEx, sRet, sRetN, sIf, sAsg, gSet, sPar, sFldM, sFldAdd, sRaise, Out.bind, Out.st, SO.seq, fin, runB, startW, cIsi, tyB, btOf, Bt.isA, truW])).trans ((seq_nx (ρ1 := [some (.lst l), some (.lst l), none]) (μ1 := μ) (by simp [eVar, eC, eBin, eTest, eTru, eAnd, eOr, eNot, eNeg, eIf, eTup, eLst, eNew, eCall, eFn, eMe, eMk, eFld, eMeL, eMeL0, aNil, aCons, bAnd, bOr, bNot, bYes, sSeq, sNx, sEx, sRet, sRetN, sIf, sAsg, gSet, sPar, sFldM, sFldAdd, sRaise, Out.bind, Out.st, SO.seq, fin, runB, startW, cIsi, tyB, btOf, Bt.isA, gNe_bl])).trans (alike_ret_lst e)))
  show fin (s_law_alike A (fr_law_alike A n) [some (.lst l), some (.lst l), none] μ) = _
  rw [h]
  rfl
theorem alike_walk2 {n : Nat} {lf ld : List W} {f d : W} (hf : asQ μ f = some lf) (hd : asQ μ d = some ld) (hn : lf.length = ld.length) (h : ∀ (i : Nat) x y, lf[i]? = some x → ld[i]? = some y → fr_law_alike A n [x, y] μ = .ok (.bl true) μ) (hl : ld.length ≤ sizeLine) :
    eCmp (iRngA (aCons (eCall cLen (aCons (eVar 1) aNil)) aNil)) [2] (gSet 2) (bNot (eTru (eFn 2 (fr_law_alike A n) (aCons (eBin gIx (eVar 0) (eVar 2)) (aCons (eBin gIx (eVar 1) (eVar 2)) aNil))))) (eVar 2) [some f, some d, none] μ = .ok (.lst []) μ := by
  have sl := sizeLine_val
  have b1 : -(2 ^ 62) ≤ (ld.length : Int) ∧ (ld.length : Int) < 2 ^ 62 := by omega
  have b2 : -4611686018427387904 ≤ (ld.length : Int) := by omega
  have b3 : (ld.length : Int) < 4611686018427387904 := by omega
  simp [eVar, eC, eBin, eTest, eTru, eAnd, eOr, eNot, eNeg, eIf, eTup, eLst, eNew, eCall, eFn, eMe, eMk, eFld, eMeL, eMeL0, aNil, aCons, bAnd, bOr, bNot, bYes, sSeq, sNx, sEx, sRet, sRetN, sIf, sAsg, gSet, sPar, sFldM, sFldAdd, sRaise, Out.bind, Out.st, SO.seq, fin, runB, startW, eCmp, iRngA, cLen_q hd, b2, b3]
  refine cmpS_none fun x hx => ?_
  obtain ⟨i, hi, rfl⟩ := mem_irange hx
  have hy : ld[i]? = some ld[i] := List.getElem?_eq_getElem hi
  have hx : lf[i]? = some (lf[i]'(by omega)) := List.getElem?_eq_getElem (by omega)
  have ha := L2.atI_nat hx
  have hb := L2.atI_nat hy
  refine ⟨_, rfl, ?_⟩
  simp [eVar, eC, eBin, eTest, eTru, eAnd, eOr, eNot, eNeg, eIf, eTup, eLst, eNew, eCall, eFn, eMe, eMk, eFld, eMeL, eMeL0, aNil, aCons, bAnd, bOr, bNot, bYes, sSeq, sNx, sEx, sRet, sRetN, sIf, sAsg, gSet, sPar, sFldM, sFldAdd, sRaise, Out.bind, Out.st, SO.seq, fin, runB, startW, wipeW, gIx, orG, gIxQ, hf, hd, ha, hb, Out.els, h i _ _ hx hy, truW]
theorem alike_ret2 {f d : W} {lf ld : List W} (hf : asQ μ f = some lf) (hd : asQ μ d = some ld) (hn : lf.length = ld.length) {c : EM} (e : c [some f, some d, none] μ = .ok (.lst []) μ) : (sRet (eAnd (eBin gEq (eCall cLen (aCons (eVar 0) aNil)) (eCall cLen (aCons (eVar 1) aNil))) (eBin gEq c (eLst aNil)))) [some f, some d, none] μ = .rt (.bl true) μ := by
  simp [eVar, eC, eBin, eTest, eTru, eAnd, eOr, eNot, eNeg, eIf, eTup, eLst, eNew, eCall, eFn, eMe, eMk, eFld, eMeL, eMeL0, aNil, aCons, bAnd, bOr, bNot, bYes, sSeq, sNx, sEx, sRet, sRetN, sIf, sAsg, gSet, sPar, sFldM, sFldAdd, sRaise, Out.bind, Out.st, SO.seq, fin, runB, startW, cLen_q hf, cLen_q hd, gEq_int, gEq_nil, e, hn]
theorem alike_loc {n m : Nat} {l : List W} (hm : μ[m]? = some (.lst l)) (h : ∀ x ∈ l, fr_law_alike A n [x, x] μ = .ok (.bl true) μ) (hl : l.length ≤ sizeLine) : fr_law_alike A (n + 1) [.loc m, .lst l] μ = .ok (.bl true) μ := by
  have hf : asQ μ (.loc m) = some l := by simp only [asQ, asL, hm]
  have hd : asQ μ (.lst l) = some l := rfl
  have e := alike_walk2 (A := A) (n := n) hf hd rfl (fun i x y hx hy => by rw [hx] at hy; cases hy; exact h x (List.mem_of_getElem? hx)) hl
  have h : s_law_alike A (fr_law_alike A n) [some (.loc m), some (.lst l), none] μ = .rt (.bl true) μ :=
    seq_rt ((if_yes μ (by simp [eVar, eC, eBin, eTest, eTru, eAnd, eOr, eNot, eNeg, eIf, eTup, eLst, eNew, eCall, eFn, eMe, eMk, eFld, eMeL, eMeL0, aNil, aCons, bAnd, bOr, bNot, bYes, sSeq, sNx, sEx, sRet, sRetN, sIf, sAsg, gSet, sPar, sFldM, sFldAdd, sRaise, Out.bind, Out.st, SO.seq, fin, runB, startW, cIsi, tyB, btOf, Bt.isA, truW])).trans ((seq_nx (ρ1 := [some (.loc m), some (.lst l), none]) (μ1 := μ) (by simp [eVar, eC, eBin, eTest, eTru, eAnd, eOr, eNot, eNeg, eIf, eTup, eLst, eNew, eCall, eFn, eMe, eMk, eFld, eMeL, eMeL0, aNil, aCons, bAnd, bOr, bNot, bYes, sSeq, sNx, sEx, sRet, sRetN, sIf, sAsg, gSet, sPar, sFldM, sFldAdd, sRaise, Out.bind, Out.st, SO.seq, fin, runB, startW, cIsi, tyB, btOf, Bt.isA, gNe_bl, hm])).trans (alike_ret2 hf hd rfl e)))
  show fin (s_law_alike A (fr_law_alike A n) [some (.loc m), some (.lst l), none] μ) = _
  rw [h]
  rfl
theorem alike_lst2 {n : Nat} {lf ld : List W} (hn : lf.length = ld.length) (h : ∀ (i : Nat) x y, lf[i]? = some x → ld[i]? = some y → fr_law_alike A n [x, y] μ = .ok (.bl true) μ) (hl : ld.length ≤ sizeLine) : fr_law_alike A (n + 1) [.lst lf, .lst ld] μ = .ok (.bl true) μ := by
  have e := alike_walk2 (A := A) (n := n) (f := .lst lf) (d := .lst ld) rfl rfl hn h hl
  have h : s_law_alike A (fr_law_alike A n) [some (.lst lf), some (.lst ld), none] μ = .rt (.bl true) μ :=
    seq_rt ((if_yes μ (by simp [eVar, eC, eBin, eTest, eTru, eAnd, eOr, eNot, eNeg, eIf, eTup, eLst, eNew, eCall, eFn, eMe, eMk, eFld, eMeL, eMeL0, aNil, aCons, bAnd, bOr, bNot, bYes, sSeq, sNx, sEx, sRet, sRetN, sIf, sAsg, gSet, sPar, sFldM, sFldAdd, sRaise, Out.bind, Out.st, SO.seq, fin, runB, startW, cIsi, tyB, btOf, Bt.isA, truW])).trans ((seq_nx (ρ1 := [some (.lst lf), some (.lst ld), none]) (μ1 := μ) (by simp [eVar, eC, eBin, eTest, eTru, eAnd, eOr, eNot, eNeg, eIf, eTup, eLst, eNew, eCall, eFn, eMe, eMk, eFld, eMeL, eMeL0, aNil, aCons, bAnd, bOr, bNot, bYes, sSeq, sNx, sEx, sRet, sRetN, sIf, sAsg, gSet, sPar, sFldM, sFldAdd, sRaise, Out.bind, Out.st, SO.seq, fin, runB, startW, cIsi, tyB, btOf, Bt.isA, gNe_bl])).trans (alike_ret2 rfl rfl hn e)))
  show fin (s_law_alike A (fr_law_alike A n) [some (.lst lf), some (.lst ld), none] μ) = _
  rw [h]
  rfl
theorem alike_non (n : Nat) : fr_law_alike A (n + 1) [.non, .non] μ = .ok (.bl true) μ := by
  simp [eVar, eC, eBin, eTest, eTru, eAnd, eOr, eNot, eNeg, eIf, eTup, eLst, eNew, eCall, eFn, eMe, eMk, eFld, eMeL, eMeL0, aNil, aCons, bAnd, bOr, bNot, bYes, sSeq, sNx, sEx, sRet, sRetN, sIf, sAsg, gSet, sPar, sFldM, sFldAdd, sRaise, Out.bind, Out.st, SO.seq, fin, runB, startW, fr_law_alike, N_law_alike, s_law_alike, cIsi, tyB, btOf, Bt.isA, truW, gIsN, PD.isNon]
theorem alike_str (n : Nat) {x : Str} (hx : PyData.canLay0 (.str x) = true) : fr_law_alike A (n + 1) [.str x, .str x] μ = .ok (.bl true) μ := by
  have e : gEq (.str x) (.str x) μ = .ok (.bl true) μ := by rw [gEq_str hx hx]; simp [eVar, eC, eBin, eTest, eTru, eAnd, eOr, eNot, eNeg, eIf, eTup, eLst, eNew, eCall, eFn, eMe, eMk, eFld, eMeL, eMeL0, aNil, aCons, bAnd, bOr, bNot, bYes, sSeq, sNx, sEx, sRet, sRetN, sIf, sAsg, gSet, sPar, sFldM, sFldAdd, sRaise, Out.bind, Out.st, SO.seq, fin, runB, startW]
  simp [eVar, eC, eBin, eTest, eTru, eAnd, eOr, eNot, eNeg, eIf, eTup, eLst, eNew, eCall, eFn, eMe, eMk, eFld, eMeL, eMeL0, aNil, aCons, bAnd, bOr, bNot, bYes, sSeq, sNx, sEx, sRet, sRetN, sIf, sAsg, gSet, sPar, sFldM, sFldAdd, sRaise, Out.bind, Out.st, SO.seq, fin, runB, startW, fr_law_alike, N_law_alike, s_law_alike, cIsi, tyB, btOf, Bt.isA, truW, gIsN, PD.isNon, e]
theorem alike_pair (n : Nat) (p : Int × Int) : fr_law_alike A (n + 2) [pairW p, pairW p] μ = .ok (.bl true) μ := by
  refine alike_tup (fun x hx => ?_) (by have := sizeLine_val; simp [eVar, eC, eBin, eTest, eTru, eAnd, eOr, eNot, eNeg, eIf, eTup, eLst, eNew, eCall, eFn, eMe, eMk, eFld, eMeL, eMeL0, aNil, aCons, bAnd, bOr, bNot, bYes, sSeq, sNx, sEx, sRet, sRetN, sIf, sAsg, gSet, sPar, sFldM, sFldAdd, sRaise, Out.bind, Out.st, SO.seq, fin, runB, startW]; omega)
  simp at hx
  rcases hx with rfl | rfl <;> exact alike_int _ _
end
end K76
namespace K76
open PySem
/-! the log: rows written ahead, done again, undone -/
inductive Row where
  | put (w : Int) (n old new : Str) | fin (w : Int)
  deriving DecidableEq
abbrev Cells := Str → Str
def setC (c : Cells) (n x : Str) : Cells := fun m => if m = n then x else c m
def redo1 (c : Cells) : Row → Cells
  | .put _ n _ x => setC c n x
  | .fin _ => c
def redo (p : List Row) (c : Cells) : Cells := p.foldl redo1 c
def undo1 (E : Int → Bool) (c : Cells) : Row → Cells
  | .put w n o _ => if E w = true then c else setC c n o
  | .fin _ => c
def undo (E : Int → Bool) (p : List Row) (c : Cells) : Cells := p.reverse.foldl (undo1 E) c
def beh1 (E : Int → Bool) (c : Cells) : Row → Cells
  | .put w n _ x => if E w = true then setC c n x else c
  | .fin _ => c
def behind (E : Int → Bool) (p : List Row) (c : Cells) : Cells := p.foldl (beh1 E) c
def finIds : List Row → List Int
  | [] => []
  | .put _ _ _ _ :: r => finIds r
  | .fin w :: r => w :: finIds r
def ends (p : List Row) (w : Int) : Bool := (finIds p).contains w
theorem mem_finIds {w : Int} : ∀ {p : List Row}, w ∈ finIds p ↔ Row.fin w ∈ p
  | [] => by simp [finIds]
  | .put _ _ _ _ :: r => by simp [finIds, mem_finIds (p := r)]
  | .fin v :: r => by simp [finIds, mem_finIds (p := r)]
theorem ends_iff {p : List Row} {w : Int} : ends p w = true ↔ Row.fin w ∈ p := by
  unfold ends
  rw [List.contains_iff_mem, mem_finIds]
/-- the old text of the first put of n that is not ended -/
def fu (E : Int → Bool) (n : Str) : List Row → Option Str
  | [] => none
  | .put w m o _ :: r => if m = n ∧ E w = false then some o else fu E n r
  | .fin _ :: r => fu E n r
theorem undo_cons {E : Int → Bool} {r : Row} {p : List Row} {c : Cells} : undo E (r :: p) c = undo1 E (undo E p c) r := by
  unfold undo
  rw [List.reverse_cons, List.foldl_append]
  rfl
theorem undo_at {E : Int → Bool} {n : Str} {c : Cells} : ∀ {p : List Row}, undo E p c n = (fu E n p).getD (c n)
  | [] => rfl
  | .fin w :: r => by rw [undo_cons]; exact undo_at (p := r)
  | .put w m o x :: r => by
    rw [undo_cons]
    have ih := undo_at (E := E) (n := n) (c := c) (p := r)
    have e1 : undo1 E (undo E r c) (.put w m o x) = if E w = true then undo E r c else setC (undo E r c) m o := rfl
    have e2 : fu E n (.put w m o x :: r) = if m = n ∧ E w = false then some o else fu E n r := rfl
    rw [e1, e2]
    cases e : E w with
    | true => rw [if_pos rfl, if_neg (fun z => nomatch z.2)]; exact ih
    | false =>
      rw [if_neg Bool.false_ne_true]
      by_cases h : m = n
      · subst h; simp [setC]
      · have h' : ¬ n = m := fun z => h z.symm
        rw [if_neg (fun z => h z.1)]; simp [setC, h', ih]
theorem fu_snoc {E : Int → Bool} {n : Str} {r : Row} : ∀ {p : List Row}, fu E n (p ++ [r]) = (fu E n p).or (fu E n [r])
  | [] => by simp [fu]
  | .fin w :: p => by
    show fu E n (p ++ [r]) = _
    rw [fu_snoc (p := p)]; rfl
  | .put w m o x :: p => by
    rw [List.cons_append]
    by_cases h : m = n ∧ E w = false
    · simp [fu, h]
    · have e1 : fu E n (.put w m o x :: (p ++ [r])) = fu E n (p ++ [r]) := by
        show (if m = n ∧ E w = false then some o else fu E n (p ++ [r])) = _
        rw [if_neg h]
      have e2 : fu E n (.put w m o x :: p) = fu E n p := by
        show (if m = n ∧ E w = false then some o else fu E n p) = _
        rw [if_neg h]
      rw [e1, e2]; exact fu_snoc (p := p)
theorem redo_snoc {p : List Row} {r : Row} {c : Cells} : redo (p ++ [r]) c = redo1 (redo p c) r := by simp [redo]
theorem behind_snoc {E : Int → Bool} {p : List Row} {r : Row} {c : Cells} : behind E (p ++ [r]) c = beh1 E (behind E p c) r := by simp [behind]
/-- what is told of a log -/
structure Lg (first : Cells) (p : List Row) : Prop where
  old : ∀ q w n o x r, p = q ++ Row.put w n o x :: r → o = redo q first n
  own : ∀ q w n o x r, p = q ++ Row.put w n o x :: r → ∀ w' o' x', Row.put w' n o' x' ∈ q → w' ≠ w → Row.fin w' ∈ q
theorem Lg.pre {first : Cells} {p r : List Row} (h : Lg first (p ++ r)) : Lg first p :=
  ⟨fun q w n o x s e => h.old q w n o x (s ++ r) (by rw [e]; simp), fun q w n o x s e => h.own q w n o x (s ++ r) (by rw [e]; simp)⟩
theorem snoc_cases {α : Type} {p q s : List α} {r y : α} (e : p ++ [r] = q ++ y :: s) : (s = [] ∧ q = p ∧ y = r) ∨ ∃ s', s = s' ++ [r] ∧ p = q ++ y :: s' := by
  rcases List.eq_nil_or_concat s with rfl | ⟨s', z, rfl⟩
  · have := List.append_inj' e rfl
    exact .inl ⟨rfl, this.1.symm, by simpa using this.2.symm⟩
  · rw [List.concat_eq_append] at e ⊢
    have e2 : p ++ [r] = (q ++ y :: s') ++ [z] := by rw [e]; simp
    have := List.append_inj' e2 rfl
    have hr : r = z := by simpa using this.2
    exact .inr ⟨s', by rw [hr], this.1⟩
theorem Lg.fin {first : Cells} {p : List Row} (h : Lg first p) (w : Int) : Lg first (p ++ [Row.fin w]) := by
  refine ⟨fun q v n o x s e => ?_, fun q v n o x s e => ?_⟩
  · rcases snoc_cases e with ⟨_, _, z⟩ | ⟨s', _, e'⟩
    · cases z
    · exact h.old q v n o x s' e'
  · rcases snoc_cases e with ⟨_, _, z⟩ | ⟨s', _, e'⟩
    · cases z
    · exact h.own q v n o x s' e'
theorem Lg.put {first : Cells} {p : List Row} (h : Lg first p) {w : Int} {n x : Str} (ho : ∀ w' o' x', Row.put w' n o' x' ∈ p → w' ≠ w → Row.fin w' ∈ p) : Lg first (p ++ [Row.put w n (redo p first n) x]) := by
  refine ⟨fun q v m o y s e => ?_, fun q v m o y s e => ?_⟩
  · rcases snoc_cases e with ⟨_, e1, z⟩ | ⟨s', _, e'⟩
    · cases z; rw [e1]
    · exact h.old q v m o y s' e'
  · rcases snoc_cases e with ⟨_, e1, z⟩ | ⟨s', _, e'⟩
    · cases z; rw [e1]; exact ho
    · exact h.own q v m o y s' e'
theorem Lg.nil {first : Cells} : Lg first [] := ⟨fun q w n o x r e => by simp at e, fun q w n o x r e => by simp at e⟩
theorem clean_or {first : Cells} {P : List Row} (h : Lg first P) (n : Str) : ∀ (k : Nat), k ≤ P.length → (fu (ends P) n (P.take k) = none ∧ behind (ends P) (P.take k) first n = redo (P.take k) first n) ∨ (fu (ends P) n (P.take k) = some (behind (ends P) (P.take k) first n) ∧ ∃ w o x, Row.put w n o x ∈ P.take k ∧ ends P w = false)
  | 0, _ => .inl ⟨rfl, rfl⟩
  | k + 1, hk => by
    have hr : P[k]? = some P[k] := List.getElem?_eq_getElem hk
    have et : P.take (k + 1) = P.take k ++ [P[k]] := by rw [List.take_add_one, hr]; rfl
    have ed : P = P.take k ++ P[k] :: P.drop (k + 1) := by
      conv => lhs; rw [← List.take_append_drop k P, List.drop_eq_getElem_cons hk]
    have ih := clean_or h n k (by omega)
    rw [et, fu_snoc, behind_snoc, redo_snoc]
    generalize P[k] = r at *
    cases r with
    | fin w =>
      rcases ih with ⟨h1, h2⟩ | ⟨h1, w', o', x', hm, he⟩
      · exact .inl ⟨by rw [h1]; rfl, h2⟩
      · exact .inr ⟨by rw [h1]; rfl, w', o', x', List.mem_append_left _ hm, he⟩
    | put w m o x =>
      by_cases hmn : m = n
      · subst hmn
        have ho := h.old _ w m o x _ ed
        cases e : ends P w with
        | true =>
          rcases ih with ⟨h1, h2⟩ | ⟨h1, w', o', x', hm, he⟩
          · refine .inl ⟨by rw [h1]; simp [fu, e], by simp [beh1, e, redo1, setC]⟩
          · by_cases hw : w' = w
            · rw [hw, e] at he; cases he
            · have := h.own _ w m o x _ ed w' o' x' hm hw
              have h3 : ends P w' = true := ends_iff.mpr (List.mem_of_mem_take this)
              rw [he] at h3; cases h3
        | false =>
          refine .inr ⟨?_, w, o, x, List.mem_append_right _ (List.mem_singleton.mpr rfl), e⟩
          rcases ih with ⟨h1, h2⟩ | ⟨h1, w', o', x', hm, he⟩
          · rw [h1]; simp [fu, e, beh1, h2, ho]
          · rw [h1]; simp [fu, e, beh1]
      · have h' : ¬ n = m := fun z => hmn z.symm
        have b : beh1 (ends P) (behind (ends P) (P.take k) first) (.put w m o x) n = behind (ends P) (P.take k) first n := by
          show (if ends P w = true then setC (behind (ends P) (P.take k) first) m x else behind (ends P) (P.take k) first) n = _
          split <;> simp [setC, h']
        have c : redo1 (redo (P.take k) first) (.put w m o x) n = redo (P.take k) first n := by simp [redo1, setC, h']
        have d : fu (ends P) n [Row.put w m o x] = none := by simp [fu, hmn]
        rw [b, c, d, Option.or_none]
        rcases ih with h1 | ⟨h1, w', o', x', hm, he⟩
        · exact .inl h1
        · exact .inr ⟨h1, w', o', x', List.mem_append_left _ hm, he⟩
theorem redo_cases (n : Str) : ∀ (p : List Row), (∀ w o x, Row.put w n o x ∉ p) ∧ (∀ c, redo p c n = c n) ∨ (∀ c c', redo p c n = redo p c' n)
  | [] => .inl ⟨by simp, fun c => rfl⟩
  | .fin w :: r => by
    rcases redo_cases n r with ⟨h1, h2⟩ | h
    · exact .inl ⟨fun w o x => by simp [h1], fun c => h2 c⟩
    · exact .inr fun c c' => h c c'
  | .put w m o x :: r => by
    rcases redo_cases n r with ⟨h1, h2⟩ | h
    · by_cases hm : m = n
      · subst hm
        refine .inr fun c c' => ?_
        show redo r (setC c m x) m = redo r (setC c' m x) m
        rw [h2, h2]; simp [setC]
      · have h' : ¬ n = m := fun z => hm z.symm
        refine .inl ⟨fun w o x => by simp [h1, h'], fun c => ?_⟩
        show redo r (setC c m x) n = _
        rw [h2]; simp [setC, h']
    · exact .inr fun c c' => h _ _
theorem redo_none {n : Str} : ∀ {p : List Row} {c : Cells}, (∀ w o x, Row.put w n o x ∉ p) → redo p c n = c n
  | [], _, _ => rfl
  | .fin w :: r, c, h => redo_none (p := r) fun w o x hm => h w o x (List.mem_cons_of_mem _ hm)
  | .put w m o x :: r, c, h => by
    have hm : ¬ n = m := fun z => h w o x (by rw [z]; exact List.mem_cons_self)
    show redo r (setC c m x) n = _
    rw [redo_none (p := r) fun w o x hm => h w o x (List.mem_cons_of_mem _ hm)]
    simp [setC, hm]
/-- behind a crash the cells are what the ended works made -/
theorem mended_eq {first disk : Cells} {log : List Row} {k safe : Nat} (h : Lg first log) (hs : safe ≤ k) (hd : ∀ n, ∃ j, j ≤ safe ∧ disk n = redo (log.take j) first n) :
    undo (ends (log.take k)) (log.take k) (redo (log.take k) disk) = behind (ends (log.take k)) (log.take k) first := by
  have hp : Lg first (log.take k) := Lg.pre (r := log.drop k) (by rw [List.take_append_drop]; exact h)
  funext n
  obtain ⟨j, hj, ed⟩ := hd n
  have e : redo (log.take k) disk n = redo (log.take k) first n := by
    rcases redo_cases n (log.take k) with ⟨h1, h2⟩ | h2
    · rw [h2, h2, ed]
      refine redo_none fun w o x hm => h1 w o x ?_
      have : log.take j <+: log.take k := List.take_prefix_take_left (by omega)
      exact this.subset hm
    · exact h2 _ _
  rw [undo_at, e]
  have c := clean_or hp n (log.take k).length (Nat.le_refl _)
  rw [List.take_length] at c
  rcases c with ⟨h1, h2⟩ | ⟨h1, _⟩
  · rw [h1, h2]; rfl
  · rw [h1]; rfl
end K76
namespace K76
open PySem PySem.Spec PyProof.Rows L2 PD
variable [Tbs]
/-! ### stores told by lists -/
structure Ag (μ : Mu) (L : List (Nat × Cell)) : Prop where
  nd : (L.map (·.1)).Nodup
  at_ : ∀ n c, (n, c) ∈ L → μ[n]? = some c
section
variable {μ : Mu} {L : List (Nat × Cell)}
theorem Ag.lt (h : Ag μ L) {n : Nat} {c : Cell} (m : (n, c) ∈ L) : n < μ.length := (List.getElem?_eq_some_iff.mp (h.at_ n c m)).1
theorem Ag.perm {L' : List (Nat × Cell)} (h : Ag μ L) (p : L.Perm L') : Ag μ L' := ⟨(p.map _).nodup_iff.mp h.nd, fun n c m => h.at_ n c (p.mem_iff.mpr m)⟩
theorem Ag.sub {L' : List (Nat × Cell)} (h : Ag μ L) (p : L'.Sublist L) : Ag μ L' := ⟨(p.map _).nodup h.nd, fun n c m => h.at_ n c (p.subset m)⟩
theorem Ag.put {A B : List (Nat × Cell)} {n : Nat} {c c' : Cell} (h : Ag μ (A ++ (n, c) :: B)) : Ag (μ.set n c') (A ++ (n, c') :: B) := by
  have hn : n < μ.length := h.lt (List.mem_append_right _ List.mem_cons_self)
  have nd := h.nd
  rw [List.map_append, List.map_cons, List.nodup_append, List.nodup_cons] at nd
  obtain ⟨n1, ⟨n2, n3⟩, n4⟩ := nd
  refine ⟨by rw [List.map_append, List.map_cons, List.nodup_append, List.nodup_cons]; exact ⟨n1, ⟨n2, n3⟩, n4⟩, fun m d hm => ?_⟩
  rcases List.mem_append.mp hm with hm | hm
  · have ne : n ≠ m := fun e => n4 m (List.mem_map_of_mem (f := (·.1)) hm) n List.mem_cons_self e.symm
    rw [List.getElem?_set_ne ne]
    exact h.at_ m d (List.mem_append_left _ hm)
  · rcases List.mem_cons.mp hm with e | hm
    · cases e; exact List.getElem?_set_self hn
    · have ne : n ≠ m := fun e => n2 (by rw [e]; exact List.mem_map_of_mem (f := (·.1)) hm)
      rw [List.getElem?_set_ne ne]
      exact h.at_ m d (List.mem_append_right _ (List.mem_cons_of_mem _ hm))
theorem Ag.new (h : Ag μ L) (c : Cell) : Ag (μ ++ [c]) (L ++ [(μ.length, c)]) := by
  refine ⟨?_, fun n d m => ?_⟩
  · rw [List.map_append, List.nodup_append]
    refine ⟨h.nd, by simp, fun a ha b hb => ?_⟩
    obtain ⟨⟨n, d⟩, hm, rfl⟩ := List.mem_map.mp ha
    simp at hb
    have := h.lt hm
    subst hb
    exact fun e => by dsimp only at e; omega
  · rcases List.mem_append.mp m with m | m
    · rw [List.getElem?_append_left (h.lt m)]; exact h.at_ n d m
    · simp at m
      obtain ⟨rfl, rfl⟩ := m
      simp [eVar, eC, eBin, eTest, eTru, eAnd, eOr, eNot, eNeg, eIf, eTup, eLst, eNew, eCall, eFn, eMe, eMk, eFld, eMeL, eMeL0, aNil, aCons, bAnd, bOr, bNot, bYes, sSeq, sNx, sEx, sRet, sRetN, sIf, sAsg, gSet, sPar, sFldM, sFldAdd, sRaise, Out.bind, Out.st, SO.seq, fin, runB, startW]
end
/-! ### dicts of cells -/
def dct (ns : List Str) (c : Cells) : List (Key × W) := ns.map fun n => (Sum.inr n, .str (c n))
theorem inr_ne {a b : Str} (h : ¬ a = b) : ¬ ((Sum.inr a : Key) = Sum.inr b) := fun e => h (Sum.inr.inj e)
theorem dct_val {c : Cells} {n : Str} : ∀ {ns : List Str}, n ∈ ns → dVal (dct ns c) (.inr n) = some (.str (c n))
  | m :: r, h => by
    show (if (Sum.inr m : Key) = Sum.inr n then some (W.str (c m)) else dVal (dct r c) (.inr n)) = _
    by_cases e : m = n
    · rw [e, if_pos rfl]
    · rw [if_neg (inr_ne e)]
      exact dct_val ((List.mem_cons.mp h).resolve_left fun z => e z.symm)
theorem dct_no {c : Cells} {k : Key} : ∀ {ns : List Str}, (∀ n ∈ ns, k ≠ .inr n) → dVal (dct ns c) k = none
  | [], _ => rfl
  | m :: r, h => by
    show (if (Sum.inr m : Key) = k then some (W.str (c m)) else dVal (dct r c) k) = _
    rw [if_neg (fun z => h m List.mem_cons_self z.symm)]
    exact dct_no fun n hn => h n (List.mem_cons_of_mem _ hn)
theorem dct_put {c : Cells} {n x : Str} {ns : List Str} (h : n ∈ ns) : dPut (dct ns c) (.inr n) (.str x) = dct ns (setC c n x) := by
  have hh : dHas (dct ns c) (.inr n) = true := List.any_eq_true.mpr ⟨(.inr n, .str (c n)), List.mem_map_of_mem (f := fun n => ((Sum.inr n : Key), W.str (c n))) h, decide_eq_true rfl⟩
  unfold dPut
  rw [if_pos hh]
  unfold dct
  rw [List.map_map]
  refine List.map_congr_left fun m _ => ?_
  show (if (Sum.inr m : Key) = Sum.inr n then ((Sum.inr m : Key), W.str x) else (Sum.inr m, .str (c m))) = (Sum.inr m, W.str (if m = n then x else c m))
  by_cases e : m = n
  · rw [if_pos (by rw [e]), if_pos e]
  · rw [if_neg (inr_ne e), if_neg e]
theorem dct_len {ns : List Str} {c : Cells} : (dct ns c).length = ns.length := by simp [eVar, eC, eBin, eTest, eTru, eAnd, eOr, eNot, eNeg, eIf, eTup, eLst, eNew, eCall, eFn, eMe, eMk, eFld, eMeL, eMeL0, aNil, aCons, bAnd, bOr, bNot, bYes, sSeq, sNx, sEx, sRet, sRetN, sIf, sAsg, gSet, sPar, sFldM, sFldAdd, sRaise, Out.bind, Out.st, SO.seq, fin, runB, startW, dct]
theorem dct_keys {ns : List Str} {c : Cells} : dKeys (dct ns c) = ns.map .str := by simp [eVar, eC, eBin, eTest, eTru, eAnd, eOr, eNot, eNeg, eIf, eTup, eLst, eNew, eCall, eFn, eMe, eMk, eFld, eMeL, eMeL0, aNil, aCons, bAnd, bOr, bNot, bYes, sSeq, sNx, sEx, sRet, sRetN, sIf, sAsg, gSet, sPar, sFldM, sFldAdd, sRaise, Out.bind, Out.st, SO.seq, fin, runB, startW, dct, dKeys, keyW]
/-! ### names -/
def n5 : List Str := ["a", "b", "cell", "d", "zz"]
def isNames (ns : List Str) : Prop := ∃ k, k < 4 ∧ ns = n5.take (2 + k)
theorem isNames.cases {ns : List Str} (h : isNames ns) {P : List Str → Prop} (h0 : P ["a", "b"]) (h1 : P ["a", "b", "cell"]) (h2 : P ["a", "b", "cell", "d"]) (h3 : P ["a", "b", "cell", "d", "zz"]) : P ns := by
  obtain ⟨k, hk, rfl⟩ := h
  match k, hk with
  | 0, _ => exact h0
  | 1, _ => exact h1
  | 2, _ => exact h2
  | 3, _ => exact h3
theorem isNames.sub {ns : List Str} (h : isNames ns) {n : Str} (hn : n ∈ ns) : n ∈ n5 := by
  obtain ⟨k, _, rfl⟩ := h
  exact List.mem_of_mem_take hn
section
variable {A : Adr} {μ : Mu}
theorem number_ok {n a b : Int} : f_is_number A [.int n, .int a, .int b] μ = .ok (.bl (decide (a ≤ n) && decide (n ≤ b))) μ := by
  by_cases h : a ≤ n
  · simp [eVar, eC, eBin, eTest, eTru, eAnd, eOr, eNot, eNeg, eIf, eTup, eLst, eNew, eCall, eFn, eMe, eMk, eFld, eMeL, eMeL0, aNil, aCons, bAnd, bOr, bNot, bYes, sSeq, sNx, sEx, sRet, sRetN, sIf, sAsg, gSet, sPar, sFldM, sFldAdd, sRaise, Out.bind, Out.st, SO.seq, fin, runB, startW, f_is_number, N_is_number, s_is_number, cIsi, tyB, btOf, Bt.isA, eChain, gLe, gI, h]
  · simp [eVar, eC, eBin, eTest, eTru, eAnd, eOr, eNot, eNeg, eIf, eTup, eLst, eNew, eCall, eFn, eMe, eMk, eFld, eMeL, eMeL0, aNil, aCons, bAnd, bOr, bNot, bYes, sSeq, sNx, sEx, sRet, sRetN, sIf, sAsg, gSet, sPar, sFldM, sFldAdd, sRaise, Out.bind, Out.st, SO.seq, fin, runB, startW, f_is_number, N_is_number, s_is_number, cIsi, tyB, btOf, Bt.isA, eChain, gLe, gI, h]
theorem number_non {a b : W} : f_is_number A [.non, a, b] μ = .ok (.bl false) μ := by simp [eVar, eC, eBin, eTest, eTru, eAnd, eOr, eNot, eNeg, eIf, eTup, eLst, eNew, eCall, eFn, eMe, eMk, eFld, eMeL, eMeL0, aNil, aCons, bAnd, bOr, bNot, bYes, sSeq, sNx, sEx, sRet, sRetN, sIf, sAsg, gSet, sPar, sFldM, sFldAdd, sRaise, Out.bind, Out.st, SO.seq, fin, runB, startW, f_is_number, N_is_number, s_is_number, cIsi, tyB, btOf, Bt.isA]
theorem number_str {x : Str} {a b : W} : f_is_number A [.str x, a, b] μ = .ok (.bl false) μ := by simp [eVar, eC, eBin, eTest, eTru, eAnd, eOr, eNot, eNeg, eIf, eTup, eLst, eNew, eCall, eFn, eMe, eMk, eFld, eMeL, eMeL0, aNil, aCons, bAnd, bOr, bNot, bYes, sSeq, sNx, sEx, sRet, sRetN, sIf, sAsg, gSet, sPar, sFldM, sFldAdd, sRaise, Out.bind, Out.st, SO.seq, fin, runB, startW, f_is_number, N_is_number, s_is_number, cIsi, tyB, btOf, Bt.isA]
theorem word_a : f_is_word A [.str "a"] μ = .ok (.bl true) μ := by rfl
theorem word_b : f_is_word A [.str "b"] μ = .ok (.bl true) μ := by rfl
theorem word_cell : f_is_word A [.str "cell"] μ = .ok (.bl true) μ := by rfl
theorem word_d : f_is_word A [.str "d"] μ = .ok (.bl true) μ := by rfl
theorem word_zz : f_is_word A [.str "zz"] μ = .ok (.bl true) μ := by rfl
theorem word_nobody : f_is_word A [.str "nobody"] μ = .ok (.bl true) μ := by rfl
theorem word_A : f_is_word A [.str "A"] μ = .ok (.bl false) μ := by rfl
theorem word_non : f_is_word A [.non] μ = .ok (.bl false) μ := by rfl
theorem word_int {i : Int} : f_is_word A [.int i] μ = .ok (.bl false) μ := by rfl
theorem word_n5 {n : Str} (h : n ∈ n5) : f_is_word A [.str n] μ = .ok (.bl true) μ := by
  simp [eVar, eC, eBin, eTest, eTru, eAnd, eOr, eNot, eNeg, eIf, eTup, eLst, eNew, eCall, eFn, eMe, eMk, eFld, eMeL, eMeL0, aNil, aCons, bAnd, bOr, bNot, bYes, sSeq, sNx, sEx, sRet, sRetN, sIf, sAsg, gSet, sPar, sFldM, sFldAdd, sRaise, Out.bind, Out.st, SO.seq, fin, runB, startW, n5] at h
  rcases h with rfl | rfl | rfl | rfl | rfl
  · exact word_a
  · exact word_b
  · exact word_cell
  · exact word_d
  · exact word_zz
theorem cells_ok {ns : List Str} (h : isNames ns) : f_are_cells A [.tup (ns.map .str)] μ = .ok (.bl true) μ := by
  refine h.cases (P := fun ns => f_are_cells A [.tup (ns.map .str)] μ = .ok (.bl true) μ) ?_ ?_ ?_ ?_ <;> rfl
end
end K76
namespace K76
open PySem PySem.Spec PyProof.Rows L2 PD
variable [Tbs]
/-! ### a yard's attributes -/
def yf (h d l s b m : W) : List (Str × W) := [("hand", h), ("disk", d), ("log", l), ("safe", s), ("begun", b), ("many", m)]
section
variable {A : Adr} {μ : Mu} {y : Nat} {h d l s b m : W}
theorem yf_hand (hy : μ[y]? = some (.ins A.Yard (yf h d l s b m))) : fldOf A.Yard "hand" μ (.loc y) = some h := by simp only [fldOf, hy, if_true]; rfl
theorem yf_disk (hy : μ[y]? = some (.ins A.Yard (yf h d l s b m))) : fldOf A.Yard "disk" μ (.loc y) = some d := by simp only [fldOf, hy, if_true]; rfl
theorem yf_log (hy : μ[y]? = some (.ins A.Yard (yf h d l s b m))) : fldOf A.Yard "log" μ (.loc y) = some l := by simp only [fldOf, hy, if_true]; rfl
theorem yf_safe (hy : μ[y]? = some (.ins A.Yard (yf h d l s b m))) : fldOf A.Yard "safe" μ (.loc y) = some s := by simp only [fldOf, hy, if_true]; rfl
theorem yf_begun (hy : μ[y]? = some (.ins A.Yard (yf h d l s b m))) : fldOf A.Yard "begun" μ (.loc y) = some b := by simp only [fldOf, hy, if_true]; rfl
theorem yf_many (hy : μ[y]? = some (.ins A.Yard (yf h d l s b m))) : fldOf A.Yard "many" μ (.loc y) = some m := by simp only [fldOf, hy, if_true]; rfl
theorem set_hand (hy : μ[y]? = some (.ins A.Yard (yf h d l s b m))) {x : W} : setFld A.Yard "hand" x μ (.loc y) = some (μ.set y (.ins A.Yard (yf x d l s b m))) := by
  simp only [setFld, hy]; rfl
theorem set_disk (hy : μ[y]? = some (.ins A.Yard (yf h d l s b m))) {x : W} : setFld A.Yard "disk" x μ (.loc y) = some (μ.set y (.ins A.Yard (yf h x l s b m))) := by
  simp only [setFld, hy]; rfl
theorem set_log (hy : μ[y]? = some (.ins A.Yard (yf h d l s b m))) {x : W} : setFld A.Yard "log" x μ (.loc y) = some (μ.set y (.ins A.Yard (yf h d x s b m))) := by
  simp only [setFld, hy]; rfl
theorem set_safe (hy : μ[y]? = some (.ins A.Yard (yf h d l s b m))) {x : W} : setFld A.Yard "safe" x μ (.loc y) = some (μ.set y (.ins A.Yard (yf h d l x b m))) := by
  simp only [setFld, hy]; rfl
theorem set_begun (hy : μ[y]? = some (.ins A.Yard (yf h d l s b m))) {x : W} : setFld A.Yard "begun" x μ (.loc y) = some (μ.set y (.ins A.Yard (yf h d l s x m))) := by
  simp only [setFld, hy]; rfl
theorem set_many (hy : μ[y]? = some (.ins A.Yard (yf h d l s b m))) {x : W} : setFld A.Yard "many" x μ (.loc y) = some (μ.set y (.ins A.Yard (yf h d l s b x))) := by
  simp only [setFld, hy]; rfl
def meths : List Str := ["text", "works", "begin", "rows_of", "put", "end", "drop", "sync", "flush", "waiting", "crashed", "mended"]
theorem yf_no (hy : μ[y]? = some (.ins A.Yard (yf h d l s b m))) {x : Str} (hx : x ∈ meths) : insOf A.Yard x μ (.loc y) = true := by
  have e : ∀ x ∈ meths, ((yf h d l s b m).lookup x).isNone = true := by
    intro x hx
    simp [eVar, eC, eBin, eTest, eTru, eAnd, eOr, eNot, eNeg, eIf, eTup, eLst, eNew, eCall, eFn, eMe, eMk, eFld, eMeL, eMeL0, aNil, aCons, bAnd, bOr, bNot, bYes, sSeq, sNx, sEx, sRet, sRetN, sIf, sAsg, gSet, sPar, sFldM, sFldAdd, sRaise, Out.bind, Out.st, SO.seq, fin, runB, startW, meths] at hx
    rcases hx with rfl | rfl | rfl | rfl | rfl | rfl | rfl | rfl | rfl | rfl | rfl | rfl <;> rfl
  simp only [insOf, hy, e x hx, decide_true, Bool.true_and]
end
section
variable {A : Adr} {μ : Mu} {y hn dn ln bn : Nat} {s m : Int} {ns : List Str} {c : Cells} {bd : List (Key × W)}
theorem text_ok {d l s b m : W} (hN : isNames ns) (hy : μ[y]? = some (.ins A.Yard (yf (.loc hn) d l s b m))) (hh : μ[hn]? = some (.dK (dct ns c) false)) {n : Str} (h : n ∈ ns) : f_Yard_text A [.loc y, .str n] μ = .ok (.str (c n)) μ := by
  have w := word_n5 (A := A) (μ := μ) (hN.sub h)
  simp [eVar, eC, eBin, eTest, eTru, eAnd, eOr, eNot, eNeg, eIf, eTup, eLst, eNew, eCall, eFn, eMe, eMk, eFld, eMeL, eMeL0, aNil, aCons, bAnd, bOr, bNot, bYes, sSeq, sNx, sEx, sRet, sRetN, sIf, sAsg, gSet, sPar, sFldM, sFldAdd, sRaise, Out.bind, Out.st, SO.seq, fin, runB, startW, f_Yard_text, N_Yard_text, s_Yard_text, w, yf_hand hy, gInK, asK, dAt, hh, dct_val h, gIxK, truW]
theorem text_no {d l s b m x : W} (hy : μ[y]? = some (.ins A.Yard (yf (.loc hn) d l s b m))) (hh : μ[hn]? = some (.dK (dct ns c) false)) (h : f_is_word A [x] μ = .ok (.bl false) μ ∨ f_is_word A [x] μ = .ok (.bl true) μ ∧ ∃ k, asK x = some k ∧ ∀ n ∈ ns, k ≠ .inr n) : f_Yard_text A [.loc y, x] μ = .er A.NotThere μ := by
  rcases h with h | ⟨h, k, hk, hn⟩
  · simp [eVar, eC, eBin, eTest, eTru, eAnd, eOr, eNot, eNeg, eIf, eTup, eLst, eNew, eCall, eFn, eMe, eMk, eFld, eMeL, eMeL0, aNil, aCons, bAnd, bOr, bNot, bYes, sSeq, sNx, sEx, sRet, sRetN, sIf, sAsg, gSet, sPar, sFldM, sFldAdd, sRaise, Out.bind, Out.st, SO.seq, fin, runB, startW, f_Yard_text, N_Yard_text, s_Yard_text, h, truW]
  · simp [eVar, eC, eBin, eTest, eTru, eAnd, eOr, eNot, eNeg, eIf, eTup, eLst, eNew, eCall, eFn, eMe, eMk, eFld, eMeL, eMeL0, aNil, aCons, bAnd, bOr, bNot, bYes, sSeq, sNx, sEx, sRet, sRetN, sIf, sAsg, gSet, sPar, sFldM, sFldAdd, sRaise, Out.bind, Out.st, SO.seq, fin, runB, startW, f_Yard_text, N_Yard_text, s_Yard_text, h, truW, yf_hand hy, gInK, hk, dAt, hh, dct_no hn]
theorem rows_ok {h d l s : W} (hy : μ[y]? = some (.ins A.Yard (yf h d l s (.loc bn) (.int m)))) (hb : μ[bn]? = some (.dK bd false)) {i : Int} {w : W} (h1 : 1 ≤ i) (h2 : i ≤ m) (hv : dVal bd (.inl i) = some w) : f_Yard_rows_of A [.loc y, .int i] μ = .ok w μ := by
  simp [eVar, eC, eBin, eTest, eTru, eAnd, eOr, eNot, eNeg, eIf, eTup, eLst, eNew, eCall, eFn, eMe, eMk, eFld, eMeL, eMeL0, aNil, aCons, bAnd, bOr, bNot, bYes, sSeq, sNx, sEx, sRet, sRetN, sIf, sAsg, gSet, sPar, sFldM, sFldAdd, sRaise, Out.bind, Out.st, SO.seq, fin, runB, startW, f_Yard_rows_of, N_Yard_rows_of, s_Yard_rows_of, yf_many hy, number_ok, h1, h2, yf_begun hy, gInK, asK, dAt, hb, hv, gIxK, truW]
theorem rows_no {h d l s : W} (hy : μ[y]? = some (.ins A.Yard (yf h d l s (.loc bn) (.int m)))) {x : W} (hx : f_is_number A [x, .int 1, .int m] μ = .ok (.bl false) μ) : f_Yard_rows_of A [.loc y, x] μ = .er A.NotThere μ := by
  simp [eVar, eC, eBin, eTest, eTru, eAnd, eOr, eNot, eNeg, eIf, eTup, eLst, eNew, eCall, eFn, eMe, eMk, eFld, eMeL, eMeL0, aNil, aCons, bAnd, bOr, bNot, bYes, sSeq, sNx, sEx, sRet, sRetN, sIf, sAsg, gSet, sPar, sFldM, sFldAdd, sRaise, Out.bind, Out.st, SO.seq, fin, runB, startW, f_Yard_rows_of, N_Yard_rows_of, s_Yard_rows_of, yf_many hy, hx, truW]
theorem waiting_ok {h d b m : W} (hy : μ[y]? = some (.ins A.Yard (yf h d (.loc ln) (.int s) b m))) {rs : List W} (hl : μ[ln]? = some (.lst rs)) : f_Yard_waiting A [.loc y] μ = .ok (.int (rs.length - s)) μ := by
  simp [eVar, eC, eBin, eTest, eTru, eAnd, eOr, eNot, eNeg, eIf, eTup, eLst, eNew, eCall, eFn, eMe, eMk, eFld, eMeL, eMeL0, aNil, aCons, bAnd, bOr, bNot, bYes, sSeq, sNx, sEx, sRet, sRetN, sIf, sAsg, gSet, sPar, sFldM, sFldAdd, sRaise, Out.bind, Out.st, SO.seq, fin, runB, startW, f_Yard_waiting, N_Yard_waiting, s_Yard_waiting, yf_log hy, yf_safe hy, cLen_loc hl, PD.gSub, gI]
theorem sync_ok {h d b m s : W} (hy : μ[y]? = some (.ins A.Yard (yf h d (.loc ln) s b m))) {rs : List W} (hl : μ[ln]? = some (.lst rs)) : f_Yard_sync A [.loc y] μ = .ok .non (μ.set y (.ins A.Yard (yf h d (.loc ln) (.int rs.length) b m))) := by
  simp [eVar, eC, eBin, eTest, eTru, eAnd, eOr, eNot, eNeg, eIf, eTup, eLst, eNew, eCall, eFn, eMe, eMk, eFld, eMeL, eMeL0, aNil, aCons, bAnd, bOr, bNot, bYes, sSeq, sNx, sEx, sRet, sRetN, sIf, sAsg, gSet, sPar, sFldM, sFldAdd, sRaise, Out.bind, Out.st, SO.seq, fin, runB, startW, f_Yard_sync, N_Yard_sync, s_Yard_sync, yf_log hy, cLen_loc hl, set_safe hy]
theorem begin_ok {h d l s : W} (hy : μ[y]? = some (.ins A.Yard (yf h d l s (.loc bn) (.int m)))) (hb : μ[bn]? = some (.dK bd false)) (hne : bn ≠ y) (hz : bd.length < sizeLine) :
    f_Yard_begin A [.loc y] μ = .ok (.int (m + 1)) ((μ.set y (.ins A.Yard (yf h d l s (.loc bn) (.int (m + 1)))) ++ [Cell.lst []]).set bn (.dK (dPut bd (.inl (m + 1)) (.loc μ.length)) false)) := by
  have hz0 : (0 : Nat) ≤ sizeLine := Nat.zero_le _
  have hyl : y < μ.length := (List.getElem?_eq_some_iff.mp hy).1
  have hbl : bn < μ.length := (List.getElem?_eq_some_iff.mp hb).1
  generalize e1 : μ.set y (.ins A.Yard (yf h d l s (.loc bn) (.int (m + 1)))) = μ1
  have l1 : μ1.length = μ.length := by rw [← e1]; simp [eVar, eC, eBin, eTest, eTru, eAnd, eOr, eNot, eNeg, eIf, eTup, eLst, eNew, eCall, eFn, eMe, eMk, eFld, eMeL, eMeL0, aNil, aCons, bAnd, bOr, bNot, bYes, sSeq, sNx, sEx, sRet, sRetN, sIf, sAsg, gSet, sPar, sFldM, sFldAdd, sRaise, Out.bind, Out.st, SO.seq, fin, runB, startW]
  have hy1 : μ1[y]? = some (.ins A.Yard (yf h d l s (.loc bn) (.int (m + 1)))) := by rw [← e1]; exact List.getElem?_set_self hyl
  have hb1 : μ1[bn]? = some (.dK bd false) := by rw [← e1, List.getElem?_set_ne (fun e => hne e.symm)]; exact hb
  generalize e2 : μ1 ++ [.lst []] = μ2
  have hy2 : μ2[y]? = some (.ins A.Yard (yf h d l s (.loc bn) (.int (m + 1)))) := by rw [← e2, List.getElem?_append_left (by omega)]; exact hy1
  have hb2 : μ2[bn]? = some (.dK bd false) := by rw [← e2, List.getElem?_append_left (by omega)]; exact hb1
  generalize e3 : μ2.set bn (.dK (dPut bd (.inl (m + 1)) (.loc μ.length)) false) = μ3
  have hy3 : μ3[y]? = some (.ins A.Yard (yf h d l s (.loc bn) (.int (m + 1)))) := by rw [← e3, List.getElem?_set_ne hne]; exact hy2
  have key : s_Yard_begin A [some (.loc y)] μ = .rt (.int (m + 1)) μ3 := by
    refine (seq_nx (ρ1 := [some (.loc y)]) (μ1 := μ1) (by simp [eVar, eC, eBin, eTest, eTru, eAnd, eOr, eNot, eNeg, eIf, eTup, eLst, eNew, eCall, eFn, eMe, eMk, eFld, eMeL, eMeL0, aNil, aCons, bAnd, bOr, bNot, bYes, sSeq, sNx, sEx, sRet, sRetN, sIf, sAsg, gSet, sPar, sFldM, sFldAdd, sRaise, Out.bind, Out.st, SO.seq, fin, runB, startW, yf_many hy, set_many hy, e1])).trans ?_
    refine (seq_nx (ρ1 := [some (.loc y)]) (μ1 := μ3) (by simp [eVar, eC, eBin, eTest, eTru, eAnd, eOr, eNot, eNeg, eIf, eTup, eLst, eNew, eCall, eFn, eMe, eMk, eFld, eMeL, eMeL0, aNil, aCons, bAnd, bOr, bNot, bYes, sSeq, sNx, sEx, sRet, sRetN, sIf, sAsg, gSet, sPar, sFldM, sFldAdd, sRaise, Out.bind, Out.st, SO.seq, fin, runB, startW, gSubK, hz0, e2, yf_begun hy2, yf_many hy2, asK, hb2, hz, l1, e3])).trans ?_
    simp [eVar, eC, eBin, eTest, eTru, eAnd, eOr, eNot, eNeg, eIf, eTup, eLst, eNew, eCall, eFn, eMe, eMk, eFld, eMeL, eMeL0, aNil, aCons, bAnd, bOr, bNot, bYes, sSeq, sNx, sEx, sRet, sRetN, sIf, sAsg, gSet, sPar, sFldM, sFldAdd, sRaise, Out.bind, Out.st, SO.seq, fin, runB, startW, yf_many hy3]
  simp [eVar, eC, eBin, eTest, eTru, eAnd, eOr, eNot, eNeg, eIf, eTup, eLst, eNew, eCall, eFn, eMe, eMk, eFld, eMeL, eMeL0, aNil, aCons, bAnd, bOr, bNot, bYes, sSeq, sNx, sEx, sRet, sRetN, sIf, sAsg, gSet, sPar, sFldM, sFldAdd, sRaise, Out.bind, Out.st, SO.seq, fin, runB, startW, f_Yard_begin, N_Yard_begin, key]
theorem end_ok {h d s : W} (hy : μ[y]? = some (.ins A.Yard (yf h d (.loc ln) s (.loc bn) (.int m)))) (hb : μ[bn]? = some (.dK bd false)) {rs : List W} (hl : μ[ln]? = some (.lst rs)) (hz : rs.length < sizeLine) (n1 : ln ≠ y) (n2 : ln ≠ bn) {i : Int} {w : W} (h1 : 1 ≤ i) (h2 : i ≤ m) (hv : dVal bd (.inl i) = some w) :
    f_Yard_end A [.loc y, .int i] μ = .ok .non ((μ.set ln (.lst (rs ++ [.tup [.str "end", .int i]]))).set bn (.dK (dDrop bd (.inl i)) false)) := by
  have z2 : 2 ≤ sizeLine := by have := sizeLine_val; omega
  generalize e1 : μ.set ln (.lst (rs ++ [.tup [.str "end", .int i]])) = μ1
  have hy1 : μ1[y]? = some (.ins A.Yard (yf h d (.loc ln) s (.loc bn) (.int m))) := by rw [← e1, List.getElem?_set_ne n1]; exact hy
  have hb1 : μ1[bn]? = some (.dK bd false) := by rw [← e1, List.getElem?_set_ne n2]; exact hb
  have key : s_Yard_end A [some (.loc y), some (.int i)] μ = .nx [some (.loc y), some (.int i)] (μ1.set bn (.dK (dDrop bd (.inl i)) false)) := by
    refine (seq_nx (ρ1 := [some (.loc y), some (.int i)]) (μ1 := μ) (by simp [eVar, eC, eBin, eTest, eTru, eAnd, eOr, eNot, eNeg, eIf, eTup, eLst, eNew, eCall, eFn, eMe, eMk, eFld, eMeL, eMeL0, aNil, aCons, bAnd, bOr, bNot, bYes, sSeq, sNx, sEx, sRet, sRetN, sIf, sAsg, gSet, sPar, sFldM, sFldAdd, sRaise, Out.bind, Out.st, SO.seq, fin, runB, startW, yf_no hy (show Str.ofString "rows_of" ∈ meths by simp [eVar, eC, eBin, eTest, eTru, eAnd, eOr, eNot, eNeg, eIf, eTup, eLst, eNew, eCall, eFn, eMe, eMk, eFld, eMeL, eMeL0, aNil, aCons, bAnd, bOr, bNot, bYes, sSeq, sNx, sEx, sRet, sRetN, sIf, sAsg, gSet, sPar, sFldM, sFldAdd, sRaise, Out.bind, Out.st, SO.seq, fin, runB, startW, meths]), rows_ok hy hb h1 h2 hv])).trans ?_
    refine (seq_nx (ρ1 := [some (.loc y), some (.int i)]) (μ1 := μ1) (by simp [eVar, eC, eBin, eTest, eTru, eAnd, eOr, eNot, eNeg, eIf, eTup, eLst, eNew, eCall, eFn, eMe, eMk, eFld, eMeL, eMeL0, aNil, aCons, bAnd, bOr, bNot, bYes, sSeq, sNx, sEx, sRet, sRetN, sIf, sAsg, gSet, sPar, sFldM, sFldAdd, sRaise, Out.bind, Out.st, SO.seq, fin, runB, startW, yf_log hy, isL, asL, hl, z2, mAppend, hz, e1])).trans ?_
    simp [eVar, eC, eBin, eTest, eTru, eAnd, eOr, eNot, eNeg, eIf, eTup, eLst, eNew, eCall, eFn, eMe, eMk, eFld, eMeL, eMeL0, aNil, aCons, bAnd, bOr, bNot, bYes, sSeq, sNx, sEx, sRet, sRetN, sIf, sAsg, gSet, sPar, sFldM, sFldAdd, sRaise, Out.bind, Out.st, SO.seq, fin, runB, startW, eDPop, yf_begun hy1, dAt, hb1, asK, hv]
  simp [eVar, eC, eBin, eTest, eTru, eAnd, eOr, eNot, eNeg, eIf, eTup, eLst, eNew, eCall, eFn, eMe, eMk, eFld, eMeL, eMeL0, aNil, aCons, bAnd, bOr, bNot, bYes, sSeq, sNx, sEx, sRet, sRetN, sIf, sAsg, gSet, sPar, sFldM, sFldAdd, sRaise, Out.bind, Out.st, SO.seq, fin, runB, startW, f_Yard_end, N_Yard_end, key]
theorem flush_ok {l b m s : W} {dc : Cells} (hN : isNames ns) (hy : μ[y]? = some (.ins A.Yard (yf (.loc hn) (.loc dn) (.loc ln) s b m))) (hh : μ[hn]? = some (.dK (dct ns c) false)) (hd : μ[dn]? = some (.dK (dct ns dc) false)) {rs : List W} (hl : μ[ln]? = some (.lst rs)) (n1 : dn ≠ y) {n : Str} (h : n ∈ ns) :
    f_Yard_flush A [.loc y, .str n] μ = .ok .non ((μ.set y (.ins A.Yard (yf (.loc hn) (.loc dn) (.loc ln) (.int rs.length) b m))).set dn (.dK (dct ns (setC dc n (c n))) false)) := by
  have hyl : y < μ.length := (List.getElem?_eq_some_iff.mp hy).1
  have hz : ns.length < sizeLine := by
    have := sizeLine_val
    obtain ⟨k, hk, rfl⟩ := hN
    simp [eVar, eC, eBin, eTest, eTru, eAnd, eOr, eNot, eNeg, eIf, eTup, eLst, eNew, eCall, eFn, eMe, eMk, eFld, eMeL, eMeL0, aNil, aCons, bAnd, bOr, bNot, bYes, sSeq, sNx, sEx, sRet, sRetN, sIf, sAsg, gSet, sPar, sFldM, sFldAdd, sRaise, Out.bind, Out.st, SO.seq, fin, runB, startW, n5]; omega
  have zl : (dct ns dc).length < sizeLine := by rw [dct_len]; exact hz
  generalize e1 : μ.set y (.ins A.Yard (yf (.loc hn) (.loc dn) (.loc ln) (.int rs.length) b m)) = μ1
  have hy1 : μ1[y]? = some (.ins A.Yard (yf (.loc hn) (.loc dn) (.loc ln) (.int rs.length) b m)) := by rw [← e1]; exact List.getElem?_set_self hyl
  have hd1 : μ1[dn]? = some (.dK (dct ns dc) false) := by rw [← e1, List.getElem?_set_ne (fun e => n1 e.symm)]; exact hd
  have key : s_Yard_flush A [some (.loc y), some (.str n), none] μ = .nx [some (.loc y), some (.str n), some (.str (c n))] (μ1.set dn (.dK (dct ns (setC dc n (c n))) false)) := by
    refine (seq_nx (ρ1 := [some (.loc y), some (.str n), some (.str (c n))]) (μ1 := μ) (by simp [eVar, eC, eBin, eTest, eTru, eAnd, eOr, eNot, eNeg, eIf, eTup, eLst, eNew, eCall, eFn, eMe, eMk, eFld, eMeL, eMeL0, aNil, aCons, bAnd, bOr, bNot, bYes, sSeq, sNx, sEx, sRet, sRetN, sIf, sAsg, gSet, sPar, sFldM, sFldAdd, sRaise, Out.bind, Out.st, SO.seq, fin, runB, startW, yf_no hy (show Str.ofString "text" ∈ meths by simp [eVar, eC, eBin, eTest, eTru, eAnd, eOr, eNot, eNeg, eIf, eTup, eLst, eNew, eCall, eFn, eMe, eMk, eFld, eMeL, eMeL0, aNil, aCons, bAnd, bOr, bNot, bYes, sSeq, sNx, sEx, sRet, sRetN, sIf, sAsg, gSet, sPar, sFldM, sFldAdd, sRaise, Out.bind, Out.st, SO.seq, fin, runB, startW, meths]), text_ok hN hy hh h])).trans ?_
    refine (seq_nx (ρ1 := [some (.loc y), some (.str n), some (.str (c n))]) (μ1 := μ1) (by simp [eVar, eC, eBin, eTest, eTru, eAnd, eOr, eNot, eNeg, eIf, eTup, eLst, eNew, eCall, eFn, eMe, eMk, eFld, eMeL, eMeL0, aNil, aCons, bAnd, bOr, bNot, bYes, sSeq, sNx, sEx, sRet, sRetN, sIf, sAsg, gSet, sPar, sFldM, sFldAdd, sRaise, Out.bind, Out.st, SO.seq, fin, runB, startW, yf_no hy (show Str.ofString "sync" ∈ meths by simp [eVar, eC, eBin, eTest, eTru, eAnd, eOr, eNot, eNeg, eIf, eTup, eLst, eNew, eCall, eFn, eMe, eMk, eFld, eMeL, eMeL0, aNil, aCons, bAnd, bOr, bNot, bYes, sSeq, sNx, sEx, sRet, sRetN, sIf, sAsg, gSet, sPar, sFldM, sFldAdd, sRaise, Out.bind, Out.st, SO.seq, fin, runB, startW, meths]), sync_ok hy hl, e1])).trans ?_
    simp [eVar, eC, eBin, eTest, eTru, eAnd, eOr, eNot, eNeg, eIf, eTup, eLst, eNew, eCall, eFn, eMe, eMk, eFld, eMeL, eMeL0, aNil, aCons, bAnd, bOr, bNot, bYes, sSeq, sNx, sEx, sRet, sRetN, sIf, sAsg, gSet, sPar, sFldM, sFldAdd, sRaise, Out.bind, Out.st, SO.seq, fin, runB, startW, gSubK, yf_disk hy1, asK, hd1, zl, dct_put h]
  simp [eVar, eC, eBin, eTest, eTru, eAnd, eOr, eNot, eNeg, eIf, eTup, eLst, eNew, eCall, eFn, eMe, eMk, eFld, eMeL, eMeL0, aNil, aCons, bAnd, bOr, bNot, bYes, sSeq, sNx, sEx, sRet, sRetN, sIf, sAsg, gSet, sPar, sFldM, sFldAdd, sRaise, Out.bind, Out.st, SO.seq, fin, runB, startW, f_Yard_flush, N_Yard_flush, key]
end
end K76
namespace K76
open PySem PySem.Spec PyProof.Rows L2 PD
variable [Tbs]
/-! ### walks -/
section
variable {μ : Mu}
theorem cmpS_map {g : W → PD.Env → Mu → Out PD.Env} {tt : BM} {me : EM} {ρ : PD.Env} {φ : W → W} : ∀ (l acc : List W), (∀ x ∈ l, ∃ ρ1, g x ρ μ = .ok ρ1 μ ∧ tt ρ1 μ = .ok true μ ∧ me ρ1 μ = .ok (φ x) μ) → acc.length + l.length ≤ sizeLine →
    cmpS g tt me ρ l acc μ = .ok (.lst (acc ++ l.map φ)) μ
  | [], acc, _, _ => by simp [eVar, eC, eBin, eTest, eTru, eAnd, eOr, eNot, eNeg, eIf, eTup, eLst, eNew, eCall, eFn, eMe, eMk, eFld, eMeL, eMeL0, aNil, aCons, bAnd, bOr, bNot, bYes, sSeq, sNx, sEx, sRet, sRetN, sIf, sAsg, gSet, sPar, sFldM, sFldAdd, sRaise, Out.bind, Out.st, SO.seq, fin, runB, startW, cmpS]
  | x :: l, acc, h, hs => by
    obtain ⟨ρ1, e1, e2, e3⟩ := h x List.mem_cons_self
    rw [List.length_cons] at hs
    unfold cmpS
    simp only [e1, e2, e3]
    rw [if_pos (by omega), cmpS_map l (acc ++ [φ x]) (fun y hy => h y (List.mem_cons_of_mem _ hy)) (by rw [List.length_append, List.length_singleton]; omega)]
    simp [eVar, eC, eBin, eTest, eTru, eAnd, eOr, eNot, eNeg, eIf, eTup, eLst, eNew, eCall, eFn, eMe, eMk, eFld, eMeL, eMeL0, aNil, aCons, bAnd, bOr, bNot, bYes, sSeq, sNx, sEx, sRet, sRetN, sIf, sAsg, gSet, sPar, sFldM, sFldAdd, sRaise, Out.bind, Out.st, SO.seq, fin, runB, startW]
theorem cmpL_map {it : Iter} {l0 : List W} (hit : it.items μ = some l0) {g : W → PD.Env → Mu → Out PD.Env} {tt : BM} {me : EM} {ρ : PD.Env} {φ : W → W} : ∀ (l acc : List W), (∀ x ∈ l, ∃ ρ1, g x ρ μ = .ok ρ1 μ ∧ tt ρ1 μ = .ok true μ ∧ me ρ1 μ = .ok (φ x) μ) → acc.length + l.length ≤ sizeLine →
    cmpL it l0 g tt me ρ l acc μ = .ok (.lst (acc ++ l.map φ)) μ
  | [], acc, _, _ => by unfold cmpL; rw [if_pos hit]; simp [eVar, eC, eBin, eTest, eTru, eAnd, eOr, eNot, eNeg, eIf, eTup, eLst, eNew, eCall, eFn, eMe, eMk, eFld, eMeL, eMeL0, aNil, aCons, bAnd, bOr, bNot, bYes, sSeq, sNx, sEx, sRet, sRetN, sIf, sAsg, gSet, sPar, sFldM, sFldAdd, sRaise, Out.bind, Out.st, SO.seq, fin, runB, startW]
  | x :: l, acc, h, hs => by
    obtain ⟨ρ1, e1, e2, e3⟩ := h x List.mem_cons_self
    rw [List.length_cons] at hs
    unfold cmpL
    rw [if_pos hit]
    simp only [e1, e2, e3]
    rw [if_pos (by omega), cmpL_map hit l (acc ++ [φ x]) (fun y hy => h y (List.mem_cons_of_mem _ hy)) (by rw [List.length_append, List.length_singleton]; omega)]
    simp [eVar, eC, eBin, eTest, eTru, eAnd, eOr, eNot, eNeg, eIf, eTup, eLst, eNew, eCall, eFn, eMe, eMk, eFld, eMeL, eMeL0, aNil, aCons, bAnd, bOr, bNot, bYes, sSeq, sNx, sEx, sRet, sRetN, sIf, sAsg, gSet, sPar, sFldM, sFldAdd, sRaise, Out.bind, Out.st, SO.seq, fin, runB, startW]
theorem forS_er {g : W → PD.Env → Mu → Out PD.Env} {body : SM} {c : Addr} {test : W → Bool} (I : PD.Env → Prop) : ∀ (l : List W) (ρ : PD.Env), I ρ →
    (∀ x ∈ l, ∀ ρ, I ρ → ∃ ρ1, g x ρ μ = .ok ρ1 μ ∧ ((test x = false ∧ ∃ ρ2, body ρ1 μ = .nx ρ2 μ ∧ I ρ2) ∨ (test x = true ∧ ∃ ρ2, body ρ1 μ = .er c ρ2 μ))) →
    (l.any test = false ∧ ∃ ρ', forS g body l ρ μ = .nx ρ' μ ∧ I ρ') ∨ (l.any test = true ∧ ∃ ρ', forS g body l ρ μ = .er c ρ' μ)
  | [], ρ, h, _ => .inl ⟨rfl, ρ, rfl, h⟩
  | x :: l, ρ, h, st => by
    obtain ⟨ρ1, e1, h2⟩ := st x List.mem_cons_self ρ h
    rcases h2 with ⟨t, ρ2, e2, i2⟩ | ⟨t, ρ2, e2⟩
    · have ef : forS g body (x :: l) ρ μ = forS g body l ρ2 μ := by
        show (g x ρ μ).st ρ _ = _
        rw [e1]
        show (match body ρ1 μ with
          | .nx ρ2 μ2 => forS g body l ρ2 μ2
          | .ct ρ2 μ2 => forS g body l ρ2 μ2
          | .bk ρ2 μ2 => SO.nx ρ2 μ2
          | o => o) = _
        rw [e2]
      rw [List.any_cons, t, Bool.false_or, ef]
      exact forS_er I l ρ2 i2 fun y hy => st y (List.mem_cons_of_mem _ hy)
    · refine .inr ⟨by rw [List.any_cons, t, Bool.true_or], ρ2, ?_⟩
      show (g x ρ μ).st ρ _ = _
      rw [e1]
      show (match body ρ1 μ with
          | .nx ρ2 μ2 => forS g body l ρ2 μ2
          | .ct ρ2 μ2 => forS g body l ρ2 μ2
          | .bk ρ2 μ2 => SO.nx ρ2 μ2
          | o => o) = _
      rw [e2]
theorem set_back {n : Nat} {c d : Cell} (h : μ[n]? = some c) : (μ.set n d).set n c = μ := by rw [List.set_set, set_same h]
theorem set2 {i j : Nat} {a b a' b' : Cell} (h : i ≠ j) : (((μ.set i a).set j b).set i a').set j b' = (μ.set i a').set j b' := by
  rw [List.set_comm a b h, List.set_set, List.set_comm b a' (fun e => h e.symm), List.set_set]
/-! texts and numbers in lists -/
theorem in_strs {n : Str} {xs : List Str} : gIn (.str n) (.lst (xs.map .str)) μ = .ok (.bl (decide (n ∈ xs))) μ := by
  have f : (xs.map W.str).all flatW = true := by rw [List.all_eq_true]; intro w hw; obtain ⟨x, _, rfl⟩ := List.mem_map.mp hw; rfl
  have e : ((xs.map W.str).any fun z => eqW z (.str n)) = decide (n ∈ xs) := by
    rw [List.any_map]
    refine Bool.eq_iff_iff.mpr ?_
    rw [List.any_eq_true, decide_eq_true_iff]
    constructor
    · rintro ⟨x, hx, h⟩
      have : x = n := by simpa [eqW] using h
      exact this ▸ hx
    · intro h; exact ⟨n, h, by simp [eVar, eC, eBin, eTest, eTru, eAnd, eOr, eNot, eNeg, eIf, eTup, eLst, eNew, eCall, eFn, eMe, eMk, eFld, eMeL, eMeL0, aNil, aCons, bAnd, bOr, bNot, bYes, sSeq, sNx, sEx, sRet, sRetN, sIf, sAsg, gSet, sPar, sFldM, sFldAdd, sRaise, Out.bind, Out.st, SO.seq, fin, runB, startW, eqW]⟩
  show (gInF false (.str n) (.lst (xs.map .str)) μ).els _ = _
  have h1 : gInF false (.str n) (.lst (xs.map .str)) μ = .ok (.bl (decide (n ∈ xs))) μ := by
    unfold gInF
    simp only [asQ, asL, f, flatW, and_self, if_true, Bool.false_eq_true, if_false, e]
  rw [h1]; rfl
theorem any_ints {i : Int} {xs : List Int} : ((xs.map W.int).any fun z => eqW z (.int i)) = decide (i ∈ xs) := by
  rw [List.any_map]
  refine Bool.eq_iff_iff.mpr ?_
  rw [List.any_eq_true, decide_eq_true_iff]
  constructor
  · rintro ⟨x, hx, h⟩
    have : x = i := by simpa [eqW] using h
    exact this ▸ hx
  · intro h; exact ⟨i, h, by simp [eVar, eC, eBin, eTest, eTru, eAnd, eOr, eNot, eNeg, eIf, eTup, eLst, eNew, eCall, eFn, eMe, eMk, eFld, eMeL, eMeL0, aNil, aCons, bAnd, bOr, bNot, bYes, sSeq, sNx, sEx, sRet, sRetN, sIf, sAsg, gSet, sPar, sFldM, sFldAdd, sRaise, Out.bind, Out.st, SO.seq, fin, runB, startW, eqW]⟩
theorem flat_ints {xs : List Int} : (xs.map W.int).all flatW = true := by rw [List.all_eq_true]; intro w hw; obtain ⟨x, _, rfl⟩ := List.mem_map.mp hw; rfl
theorem in_ints {i : Int} {xs : List Int} : gIn (.int i) (.lst (xs.map .int)) μ = .ok (.bl (decide (i ∈ xs))) μ := by
  show (gInF false (.int i) (.lst (xs.map .int)) μ).els _ = _
  have h1 : gInF false (.int i) (.lst (xs.map .int)) μ = .ok (.bl (decide (i ∈ xs))) μ := by
    unfold gInF
    simp only [asQ, asL, flat_ints, flatW, and_self, if_true, Bool.false_eq_true, if_false, any_ints]
  rw [h1]; rfl
theorem notIn_ints {i : Int} {xs : List Int} : gNotIn (.int i) (.lst (xs.map .int)) μ = .ok (.bl (!decide (i ∈ xs))) μ := by
  show (gInF true (.int i) (.lst (xs.map .int)) μ).els _ = _
  have h1 : gInF true (.int i) (.lst (xs.map .int)) μ = .ok (.bl (!decide (i ∈ xs))) μ := by
    unfold gInF
    simp only [asQ, asL, flat_ints, flatW, and_self, if_true, any_ints]
  rw [h1]; rfl
end
/-! ### works -/
structure Wk where
  id : Int
  rows : List (Str × Str)
  ly : Nat
  ll : Nat
def rowW (p : Str × Str) : W := .tup [.str p.1, .str p.2]
def bdOf (f : Wk → Nat) (ws : List Wk) : List (Key × W) := ws.map fun p => (Sum.inl p.id, .loc (f p))
theorem inl_ne {a b : Int} (h : ¬ a = b) : ¬ ((Sum.inl a : Key) = Sum.inl b) := fun e => h (Sum.inl.inj e)
theorem bd_val {f : Wk → Nat} : ∀ {ws : List Wk}, (ws.map (·.id)).Nodup → ∀ {p : Wk}, p ∈ ws → dVal (bdOf f ws) (.inl p.id) = some (.loc (f p))
  | q :: r, nd, p, h => by
    show (if (Sum.inl q.id : Key) = Sum.inl p.id then some (W.loc (f q)) else dVal (bdOf f r) (.inl p.id)) = _
    rw [List.map_cons, List.nodup_cons] at nd
    rcases List.mem_cons.mp h with e | h
    · rw [e, if_pos rfl]
    · have ne : ¬ q.id = p.id := fun e => nd.1 (by rw [e]; exact List.mem_map_of_mem (f := (·.id)) h)
      rw [if_neg (inl_ne ne)]
      exact bd_val nd.2 h
def yrow : Row → W
  | .put w n o x => .tup [.str "put", .int w, .str n, .str o, .str x]
  | .fin w => .tup [.str "end", .int w]
def lrow : Row → W
  | .put w n _ x => .tup [.str "put", .int w, .str n, .str x]
  | .fin w => .tup [.str "end", .int w]
def heldBy (ws : List Wk) (i : Int) (n : Str) : Bool := ws.any fun p => decide (p.id ≠ i) && decide (n ∈ p.rows.map (·.1))
section
variable {A : Adr} {μ : Mu} {y hn dn ln bn : Nat} {m : Int} {ns : List Str} {c : Cells} {ws : List Wk}
theorem held_walk {h d l s : W} {i : Int} {n : Str} {a3 a4 a5 : Option W} {a6 : Option W} (hy : μ[y]? = some (.ins A.Yard (yf h d l s (.loc bn) (.int m)))) (hb : μ[bn]? = some (.dK (bdOf (·.ly) ws) false)) (nd : (ws.map (·.id)).Nodup)
    (hr : ∀ p ∈ ws, μ[p.ly]? = some (.lst (p.rows.map rowW))) (hz : ∀ p ∈ ws, p.rows.length ≤ sizeLine) :
    (heldBy ws i n = false ∧ ∃ b6, sForK (eFld A.Yard "begun" (eVar 0)) (gSet 6) (s_Yard_put_0 A) [some (.loc y), some (.int i), some (.str n), a3, a4, a5, a6, none] μ = .nx [some (.loc y), some (.int i), some (.str n), a3, a4, a5, b6, none] μ) ∨
    (heldBy ws i n = true ∧ ∃ ρ', sForK (eFld A.Yard "begun" (eVar 0)) (gSet 6) (s_Yard_put_0 A) [some (.loc y), some (.int i), some (.str n), a3, a4, a5, a6, none] μ = .er A.Refused ρ' μ) := by
  have hbl : bn < μ.length := (List.getElem?_eq_some_iff.mp hb).1
  have hne : bn ≠ y := fun e => by rw [e, hy] at hb; cases hb
  generalize e1 : μ.set bn (.dK (bdOf (·.ly) ws) true) = μ1
  have hy1 : μ1[y]? = some (.ins A.Yard (yf h d l s (.loc bn) (.int m))) := by rw [← e1, List.getElem?_set_ne hne]; exact hy
  have hb1 : μ1[bn]? = some (.dK (bdOf (·.ly) ws) true) := by rw [← e1]; exact List.getElem?_set_self hbl
  have hr1 : ∀ p ∈ ws, μ1[p.ly]? = some (.lst (p.rows.map rowW)) := fun p hp => by
    have ne : bn ≠ p.ly := fun e => by rw [e, hr p hp] at hb; cases hb
    rw [← e1, List.getElem?_set_ne ne]; exact hr p hp
  have hu : unM bn μ1 = some μ := by
    unfold unM
    rw [hb1]
    show some (μ1.set bn (.dK (bdOf (·.ly) ws) false)) = _
    rw [← e1, set_back hb]
  have ef : ∀ ρ : PD.Env, ρ[0]? = some (some (.loc y)) → sForK (eFld A.Yard "begun" (eVar 0)) (gSet 6) (s_Yard_put_0 A) ρ μ = (forS (gSet 6) (s_Yard_put_0 A) (dKeys (bdOf (·.ly) ws)) ρ μ1).unl bn := fun ρ hρ => by
    unfold sForK
    simp [eVar, eC, eBin, eTest, eTru, eAnd, eOr, eNot, eNeg, eIf, eTup, eLst, eNew, eCall, eFn, eMe, eMk, eFld, eMeL, eMeL0, aNil, aCons, bAnd, bOr, bNot, bYes, sSeq, sNx, sEx, sRet, sRetN, sIf, sAsg, gSet, sPar, sFldM, sFldAdd, sRaise, Out.bind, Out.st, SO.seq, fin, runB, startW, hρ, yf_begun hy, hb, e1]
  have key := forS_er (μ := μ1) (g := gSet 6) (body := s_Yard_put_0 A) (c := A.Refused) (test := fun x => ws.any fun p => (match x with | .int j => decide (p.id = j) | _ => false) && (decide (p.id ≠ i) && decide (n ∈ p.rows.map (·.1))))
    (fun ρ => ∃ b6, ρ = [some (.loc y), some (.int i), some (.str n), a3, a4, a5, b6, none]) (dKeys (bdOf (·.ly) ws)) _ ⟨a6, rfl⟩ fun x hx ρ ⟨b6, hρ⟩ => by
      subst hρ
      obtain ⟨p, hp, rfl⟩ : ∃ p ∈ ws, x = .int p.id := by
        unfold dKeys bdOf at hx
        rw [List.map_map] at hx
        obtain ⟨p, hp, e⟩ := List.mem_map.mp hx
        exact ⟨p, hp, e.symm⟩
      have ht : (ws.any fun q => decide (q.id = p.id) && (decide (q.id ≠ i) && decide (n ∈ q.rows.map (·.1)))) = (decide (p.id ≠ i) && decide (n ∈ p.rows.map (·.1))) := by
        refine Bool.eq_iff_iff.mpr ?_
        rw [List.any_eq_true]
        constructor
        · rintro ⟨q, hq, h⟩
          simp only [Bool.and_eq_true, decide_eq_true_iff] at h
          have : q = p := by
            obtain ⟨a, ha, ea⟩ := List.getElem_of_mem hq
            obtain ⟨b, hb', eb⟩ := List.getElem_of_mem hp
            have z : (ws.map (·.id))[a]'(by simpa using ha) = (ws.map (·.id))[b]'(by simpa using hb') := by simp [eVar, eC, eBin, eTest, eTru, eAnd, eOr, eNot, eNeg, eIf, eTup, eLst, eNew, eCall, eFn, eMe, eMk, eFld, eMeL, eMeL0, aNil, aCons, bAnd, bOr, bNot, bYes, sSeq, sNx, sEx, sRet, sRetN, sIf, sAsg, gSet, sPar, sFldM, sFldAdd, sRaise, Out.bind, Out.st, SO.seq, fin, runB, startW, ea, eb, h.1]
            have := (List.getElem_inj nd).mp z
            subst this
            rw [← ea, ← eb]
          subst this
          simp only [Bool.and_eq_true, decide_eq_true_iff]
          exact h.2
        · intro h
          exact ⟨p, hp, by rw [Bool.and_eq_true]; exact ⟨decide_eq_true rfl, h⟩⟩
      refine ⟨[some (.loc y), some (.int i), some (.str n), a3, a4, a5, some (.int p.id), none], rfl, ?_⟩
      show ((ws.any fun q => decide (q.id = p.id) && (decide (q.id ≠ i) && decide (n ∈ q.rows.map (·.1)))) = false ∧ _) ∨ ((ws.any fun q => decide (q.id = p.id) && (decide (q.id ≠ i) && decide (n ∈ q.rows.map (·.1)))) = true ∧ _)
      rw [ht]
      have hv := bd_val (f := (·.ly)) nd hp
      have hit : (Iter.cell p.ly).items μ1 = some (p.rows.map rowW) := by simp [eVar, eC, eBin, eTest, eTru, eAnd, eOr, eNot, eNeg, eIf, eTup, eLst, eNew, eCall, eFn, eMe, eMk, eFld, eMeL, eMeL0, aNil, aCons, bAnd, bOr, bNot, bYes, sSeq, sNx, sEx, sRet, sRetN, sIf, sAsg, gSet, sPar, sFldM, sFldAdd, sRaise, Out.bind, Out.st, SO.seq, fin, runB, startW, Iter.items, hr1 p hp]
      have hcmp : eCmp (iSeq (eBin gIxK (eFld A.Yard "begun" (eVar 0)) (eVar 6))) [7] (gSet 7) bYes (eBin gIx (eVar 7) (eC (.int 0))) [some (.loc y), some (.int i), some (.str n), a3, a4, a5, some (.int p.id), none] μ1 = .ok (.lst ((p.rows.map (·.1)).map .str)) μ1 := by
        have e2 : cmpL (.cell p.ly) (p.rows.map rowW) (gSet 7) bYes (eBin gIx (eVar 7) (eC (.int 0))) (wipeW [some (.loc y), some (.int i), some (.str n), a3, a4, a5, some (.int p.id), none] [7]) (p.rows.map rowW) [] μ1 = .ok (.lst ((p.rows.map (·.1)).map .str)) μ1 := by
          rw [cmpL_map hit (φ := fun w => match w with | .tup (x :: _) => x | _ => .non) _ _ (fun x hx => ?_) (by simpa using hz p hp)]
          · simp [eVar, eC, eBin, eTest, eTru, eAnd, eOr, eNot, eNeg, eIf, eTup, eLst, eNew, eCall, eFn, eMe, eMk, eFld, eMeL, eMeL0, aNil, aCons, bAnd, bOr, bNot, bYes, sSeq, sNx, sEx, sRet, sRetN, sIf, sAsg, gSet, sPar, sFldM, sFldAdd, sRaise, Out.bind, Out.st, SO.seq, fin, runB, startW, rowW]
          · obtain ⟨q, hq, rfl⟩ := List.mem_map.mp hx
            exact ⟨_, rfl, rfl, by simp [eVar, eC, eBin, eTest, eTru, eAnd, eOr, eNot, eNeg, eIf, eTup, eLst, eNew, eCall, eFn, eMe, eMk, eFld, eMeL, eMeL0, aNil, aCons, bAnd, bOr, bNot, bYes, sSeq, sNx, sEx, sRet, sRetN, sIf, sAsg, gSet, sPar, sFldM, sFldAdd, sRaise, Out.bind, Out.st, SO.seq, fin, runB, startW, wipeW, rowW, gIx, orG, gIxQ, asQ, atI, ixN, Out.els]⟩
        rw [← e2]
        simp [eVar, eC, eBin, eTest, eTru, eAnd, eOr, eNot, eNeg, eIf, eTup, eLst, eNew, eCall, eFn, eMe, eMk, eFld, eMeL, eMeL0, aNil, aCons, bAnd, bOr, bNot, bYes, sSeq, sNx, sEx, sRet, sRetN, sIf, sAsg, gSet, sPar, sFldM, sFldAdd, sRaise, Out.bind, Out.st, SO.seq, fin, runB, startW, eCmp, iSeq, yf_begun hy1, gIxK, dAt, hb1, asK, hv, itOf, asL, hr1 p hp, hit]
      by_cases hi : p.id = i
      · refine .inl ⟨by simp [eVar, eC, eBin, eTest, eTru, eAnd, eOr, eNot, eNeg, eIf, eTup, eLst, eNew, eCall, eFn, eMe, eMk, eFld, eMeL, eMeL0, aNil, aCons, bAnd, bOr, bNot, bYes, sSeq, sNx, sEx, sRet, sRetN, sIf, sAsg, gSet, sPar, sFldM, sFldAdd, sRaise, Out.bind, Out.st, SO.seq, fin, runB, startW, hi], [some (.loc y), some (.int i), some (.str n), a3, a4, a5, some (.int p.id), none], ?_, _, rfl⟩
        simp [eVar, eC, eBin, eTest, eTru, eAnd, eOr, eNot, eNeg, eIf, eTup, eLst, eNew, eCall, eFn, eMe, eMk, eFld, eMeL, eMeL0, aNil, aCons, bAnd, bOr, bNot, bYes, sSeq, sNx, sEx, sRet, sRetN, sIf, sAsg, gSet, sPar, sFldM, sFldAdd, sRaise, Out.bind, Out.st, SO.seq, fin, runB, startW, s_Yard_put_0, gNe_int, hi]
      · have hib : (p.id == i) = false := beq_eq_false_iff_ne.mpr hi
        by_cases hm : n ∈ p.rows.map (·.1)
        · refine .inr ⟨by simp only [decide_eq_true hi, decide_eq_true hm, Bool.and_self], [some (.loc y), some (.int i), some (.str n), a3, a4, a5, some (.int p.id), none], ?_⟩
          unfold s_Yard_put_0
          refine (if_yes μ1 ?_).trans rfl
          have e3 : gIn (.str n) (.lst ((p.rows.map (·.1)).map .str)) μ1 = .ok (.bl true) μ1 := by rw [in_strs, decide_eq_true hm]
          simp only [bAnd, eTest, eBin, eVar, gNe_int, hib, Out.bind, hcmp, List.getElem?_cons_zero, List.getElem?_cons_succ, Bool.not_false, if_true, e3]
        · refine .inl ⟨by rw [decide_eq_false hm, Bool.and_false], [some (.loc y), some (.int i), some (.str n), a3, a4, a5, some (.int p.id), none], ?_, _, rfl⟩
          unfold s_Yard_put_0
          refine (if_not μ1 ?_).trans rfl
          have e3 : gIn (.str n) (.lst ((p.rows.map (·.1)).map .str)) μ1 = .ok (.bl false) μ1 := by rw [in_strs, decide_eq_false hm]
          simp only [bAnd, eTest, eBin, eVar, gNe_int, hib, Out.bind, hcmp, List.getElem?_cons_zero, List.getElem?_cons_succ, Bool.not_false, if_true, e3]
  have hany : ((dKeys (bdOf (·.ly) ws)).any fun x => ws.any fun p => (match x with | .int j => decide (p.id = j) | _ => false) && (decide (p.id ≠ i) && decide (n ∈ p.rows.map (·.1)))) = heldBy ws i n := by
    unfold heldBy dKeys bdOf
    rw [List.map_map, List.any_map]
    refine Bool.eq_iff_iff.mpr ?_
    rw [List.any_eq_true, List.any_eq_true]
    constructor
    · rintro ⟨q, hq, h⟩
      obtain ⟨p, hp, h⟩ := List.any_eq_true.mp h
      exact ⟨p, hp, (Bool.and_eq_true _ _ ▸ h).2⟩
    · rintro ⟨p, hp, h⟩
      exact ⟨p, hp, List.any_eq_true.mpr ⟨p, hp, by rw [h, Bool.and_true]; exact decide_eq_true rfl⟩⟩
  rw [hany] at key
  rw [ef _ rfl]
  rcases key with ⟨h1, ρ', e2, b6, rfl⟩ | ⟨h1, ρ', e2⟩
  · refine .inl ⟨h1, b6, ?_⟩
    rw [e2]
    show (match unM bn μ1 with | some μ2 => SO.nx _ μ2 | none => .no) = _
    rw [hu]
  · refine .inr ⟨h1, ρ', ?_⟩
    rw [e2]
    show (match unM bn μ1 with | some μ2 => SO.er A.Refused _ μ2 | none => .no) = _
    rw [hu]
end
end K76
namespace K76
open PySem PySem.Spec PyProof.Rows L2 PD
variable [Tbs]
theorem m_rows : Str.ofString "rows_of" ∈ meths := by simp [eVar, eC, eBin, eTest, eTru, eAnd, eOr, eNot, eNeg, eIf, eTup, eLst, eNew, eCall, eFn, eMe, eMk, eFld, eMeL, eMeL0, aNil, aCons, bAnd, bOr, bNot, bYes, sSeq, sNx, sEx, sRet, sRetN, sIf, sAsg, gSet, sPar, sFldM, sFldAdd, sRaise, Out.bind, Out.st, SO.seq, fin, runB, startW, meths]
theorem m_text : Str.ofString "text" ∈ meths := by simp [eVar, eC, eBin, eTest, eTru, eAnd, eOr, eNot, eNeg, eIf, eTup, eLst, eNew, eCall, eFn, eMe, eMk, eFld, eMeL, eMeL0, aNil, aCons, bAnd, bOr, bNot, bYes, sSeq, sNx, sEx, sRet, sRetN, sIf, sAsg, gSet, sPar, sFldM, sFldAdd, sRaise, Out.bind, Out.st, SO.seq, fin, runB, startW, meths]
theorem m_end : Str.ofString "end" ∈ meths := by simp [eVar, eC, eBin, eTest, eTru, eAnd, eOr, eNot, eNeg, eIf, eTup, eLst, eNew, eCall, eFn, eMe, eMk, eFld, eMeL, eMeL0, aNil, aCons, bAnd, bOr, bNot, bYes, sSeq, sNx, sEx, sRet, sRetN, sIf, sAsg, gSet, sPar, sFldM, sFldAdd, sRaise, Out.bind, Out.st, SO.seq, fin, runB, startW, meths]
theorem m_put : Str.ofString "put" ∈ meths := by simp [eVar, eC, eBin, eTest, eTru, eAnd, eOr, eNot, eNeg, eIf, eTup, eLst, eNew, eCall, eFn, eMe, eMk, eFld, eMeL, eMeL0, aNil, aCons, bAnd, bOr, bNot, bYes, sSeq, sNx, sEx, sRet, sRetN, sIf, sAsg, gSet, sPar, sFldM, sFldAdd, sRaise, Out.bind, Out.st, SO.seq, fin, runB, startW, meths]
theorem m_drop : Str.ofString "drop" ∈ meths := by simp [eVar, eC, eBin, eTest, eTru, eAnd, eOr, eNot, eNeg, eIf, eTup, eLst, eNew, eCall, eFn, eMe, eMk, eFld, eMeL, eMeL0, aNil, aCons, bAnd, bOr, bNot, bYes, sSeq, sNx, sEx, sRet, sRetN, sIf, sAsg, gSet, sPar, sFldM, sFldAdd, sRaise, Out.bind, Out.st, SO.seq, fin, runB, startW, meths]
theorem m_flush : Str.ofString "flush" ∈ meths := by simp [eVar, eC, eBin, eTest, eTru, eAnd, eOr, eNot, eNeg, eIf, eTup, eLst, eNew, eCall, eFn, eMe, eMk, eFld, eMeL, eMeL0, aNil, aCons, bAnd, bOr, bNot, bYes, sSeq, sNx, sEx, sRet, sRetN, sIf, sAsg, gSet, sPar, sFldM, sFldAdd, sRaise, Out.bind, Out.st, SO.seq, fin, runB, startW, meths]
theorem m_sync : Str.ofString "sync" ∈ meths := by simp [eVar, eC, eBin, eTest, eTru, eAnd, eOr, eNot, eNeg, eIf, eTup, eLst, eNew, eCall, eFn, eMe, eMk, eFld, eMeL, eMeL0, aNil, aCons, bAnd, bOr, bNot, bYes, sSeq, sNx, sEx, sRet, sRetN, sIf, sAsg, gSet, sPar, sFldM, sFldAdd, sRaise, Out.bind, Out.st, SO.seq, fin, runB, startW, meths]
theorem m_wait : Str.ofString "waiting" ∈ meths := by simp [eVar, eC, eBin, eTest, eTru, eAnd, eOr, eNot, eNeg, eIf, eTup, eLst, eNew, eCall, eFn, eMe, eMk, eFld, eMeL, eMeL0, aNil, aCons, bAnd, bOr, bNot, bYes, sSeq, sNx, sEx, sRet, sRetN, sIf, sAsg, gSet, sPar, sFldM, sFldAdd, sRaise, Out.bind, Out.st, SO.seq, fin, runB, startW, meths]
theorem m_works : Str.ofString "works" ∈ meths := by simp [eVar, eC, eBin, eTest, eTru, eAnd, eOr, eNot, eNeg, eIf, eTup, eLst, eNew, eCall, eFn, eMe, eMk, eFld, eMeL, eMeL0, aNil, aCons, bAnd, bOr, bNot, bYes, sSeq, sNx, sEx, sRet, sRetN, sIf, sAsg, gSet, sPar, sFldM, sFldAdd, sRaise, Out.bind, Out.st, SO.seq, fin, runB, startW, meths]
theorem m_begin : Str.ofString "begin" ∈ meths := by simp [eVar, eC, eBin, eTest, eTru, eAnd, eOr, eNot, eNeg, eIf, eTup, eLst, eNew, eCall, eFn, eMe, eMk, eFld, eMeL, eMeL0, aNil, aCons, bAnd, bOr, bNot, bYes, sSeq, sNx, sEx, sRet, sRetN, sIf, sAsg, gSet, sPar, sFldM, sFldAdd, sRaise, Out.bind, Out.st, SO.seq, fin, runB, startW, meths]
theorem m_crash : Str.ofString "crashed" ∈ meths := by simp [eVar, eC, eBin, eTest, eTru, eAnd, eOr, eNot, eNeg, eIf, eTup, eLst, eNew, eCall, eFn, eMe, eMk, eFld, eMeL, eMeL0, aNil, aCons, bAnd, bOr, bNot, bYes, sSeq, sNx, sEx, sRet, sRetN, sIf, sAsg, gSet, sPar, sFldM, sFldAdd, sRaise, Out.bind, Out.st, SO.seq, fin, runB, startW, meths]
theorem m_mend : Str.ofString "mended" ∈ meths := by simp [eVar, eC, eBin, eTest, eTru, eAnd, eOr, eNot, eNeg, eIf, eTup, eLst, eNew, eCall, eFn, eMe, eMk, eFld, eMeL, eMeL0, aNil, aCons, bAnd, bOr, bNot, bYes, sSeq, sNx, sEx, sRet, sRetN, sIf, sAsg, gSet, sPar, sFldM, sFldAdd, sRaise, Out.bind, Out.st, SO.seq, fin, runB, startW, meths]
theorem isNames.small {ns : List Str} (h : isNames ns) : ns.length ≤ 5 := by
  obtain ⟨k, hk, rfl⟩ := h
  rw [List.length_take]
  exact Nat.min_le_right _ _
section
variable {A : Adr} {μ : Mu} {y hn dn ln bn : Nat} {m : Int} {ns : List Str} {c : Cells} {ws : List Wk} {log : List Row}
theorem put_ok {d s : W} (hN : isNames ns) (hy : μ[y]? = some (.ins A.Yard (yf (.loc hn) d (.loc ln) s (.loc bn) (.int m)))) (hh : μ[hn]? = some (.dK (dct ns c) false)) (hb : μ[bn]? = some (.dK (bdOf (·.ly) ws) false)) (hl : μ[ln]? = some (.lst (log.map yrow)))
    (nd : (ws.map (·.id)).Nodup) (hr : ∀ p ∈ ws, μ[p.ly]? = some (.lst (p.rows.map rowW))) (hz : ∀ p ∈ ws, p.rows.length < sizeLine) (hzl : log.length < sizeLine) {p : Wk} (hp : p ∈ ws) (h1 : 1 ≤ p.id) (h2 : p.id ≤ m) {n x : Str} (h : n ∈ ns) (hne : ln ≠ p.ly) (hf : heldBy ws p.id n = false) :
    f_Yard_put A [.loc y, .int p.id, .str n, .str x] μ = .ok .non (((μ.set ln (.lst ((log ++ [Row.put p.id n (c n) x]).map yrow))).set p.ly (.lst ((p.rows ++ [(n, c n)]).map rowW))).set hn (.dK (dct ns (setC c n x)) false)) := by
  have z5 : 5 ≤ sizeLine := by have := sizeLine_val; omega
  have z2 : 2 ≤ sizeLine := by omega
  have zn : ns.length < sizeLine := by have := hN.small; have := sizeLine_val; omega
  have zd : (dct ns c).length < sizeLine := by rw [dct_len]; exact zn
  have hv := bd_val (f := (·.ly)) nd hp
  have ny : ln ≠ y := fun e => by rw [e, hy] at hl; cases hl
  have nh : ln ≠ hn := fun e => by rw [e, hh] at hl; cases hl
  have py : p.ly ≠ y := fun e => by have := hr p hp; rw [e, hy] at this; cases this
  have ph : p.ly ≠ hn := fun e => by have := hr p hp; rw [e, hh] at this; cases this
  generalize e1 : μ.set ln (.lst ((log ++ [Row.put p.id n (c n) x]).map yrow)) = μ1
  have hp1 : μ1[p.ly]? = some (.lst (p.rows.map rowW)) := by rw [← e1, List.getElem?_set_ne hne]; exact hr p hp
  have hy1 : μ1[y]? = some (.ins A.Yard (yf (.loc hn) d (.loc ln) s (.loc bn) (.int m))) := by rw [← e1, List.getElem?_set_ne ny]; exact hy
  have hh1 : μ1[hn]? = some (.dK (dct ns c) false) := by rw [← e1, List.getElem?_set_ne nh]; exact hh
  generalize e2 : μ1.set p.ly (.lst ((p.rows ++ [(n, c n)]).map rowW)) = μ2
  have hy2 : μ2[y]? = some (.ins A.Yard (yf (.loc hn) d (.loc ln) s (.loc bn) (.int m))) := by rw [← e2, List.getElem?_set_ne py]; exact hy1
  have hh2 : μ2[hn]? = some (.dK (dct ns c) false) := by rw [← e2, List.getElem?_set_ne ph]; exact hh1
  generalize e3 : μ2.set hn (.dK (dct ns (setC c n x)) false) = μ3
  have ea : (log.map yrow ++ [W.tup [.str "put", .int p.id, .str n, .str (c n), .str x]]) = (log ++ [Row.put p.id n (c n) x]).map yrow := by simp [eVar, eC, eBin, eTest, eTru, eAnd, eOr, eNot, eNeg, eIf, eTup, eLst, eNew, eCall, eFn, eMe, eMk, eFld, eMeL, eMeL0, aNil, aCons, bAnd, bOr, bNot, bYes, sSeq, sNx, sEx, sRet, sRetN, sIf, sAsg, gSet, sPar, sFldM, sFldAdd, sRaise, Out.bind, Out.st, SO.seq, fin, runB, startW, yrow]
  have eb : (p.rows.map rowW ++ [W.tup [.str n, .str (c n)]]) = (p.rows ++ [(n, c n)]).map rowW := by simp [eVar, eC, eBin, eTest, eTru, eAnd, eOr, eNot, eNeg, eIf, eTup, eLst, eNew, eCall, eFn, eMe, eMk, eFld, eMeL, eMeL0, aNil, aCons, bAnd, bOr, bNot, bYes, sSeq, sNx, sEx, sRet, sRetN, sIf, sAsg, gSet, sPar, sFldM, sFldAdd, sRaise, Out.bind, Out.st, SO.seq, fin, runB, startW, rowW]
  have lz : (log.map yrow).length < sizeLine := by simpa using hzl
  have rz : (p.rows.map rowW).length < sizeLine := by simpa using hz p hp
  obtain ⟨b6, e4⟩ : ∃ b6, sForK (eFld A.Yard "begun" (eVar 0)) (gSet 6) (s_Yard_put_0 A) [some (.loc y), some (.int p.id), some (.str n), some (.str x), some (.loc p.ly), some (.str (c n)), none, none] μ = .nx [some (.loc y), some (.int p.id), some (.str n), some (.str x), some (.loc p.ly), some (.str (c n)), b6, none] μ := by
    rcases held_walk (n := n) (i := p.id) (a3 := some (.str x)) (a4 := some (.loc p.ly)) (a5 := some (.str (c n))) (a6 := none) hy hb nd hr (fun p hp => Nat.le_of_lt (hz p hp)) with ⟨_, b6, e⟩ | ⟨e, _⟩
    · exact ⟨b6, e⟩
    · rw [hf] at e; cases e
  have key : s_Yard_put A [some (.loc y), some (.int p.id), some (.str n), some (.str x), none, none, none, none] μ = .nx [some (.loc y), some (.int p.id), some (.str n), some (.str x), some (.loc p.ly), some (.str (c n)), b6, none] μ3 := by
    refine (seq_nx (ρ1 := [some (.loc y), some (.int p.id), some (.str n), some (.str x), some (.loc p.ly), none, none, none]) (μ1 := μ) (by simp [eVar, eC, eBin, eTest, eTru, eAnd, eOr, eNot, eNeg, eIf, eTup, eLst, eNew, eCall, eFn, eMe, eMk, eFld, eMeL, eMeL0, aNil, aCons, bAnd, bOr, bNot, bYes, sSeq, sNx, sEx, sRet, sRetN, sIf, sAsg, gSet, sPar, sFldM, sFldAdd, sRaise, Out.bind, Out.st, SO.seq, fin, runB, startW, yf_no hy m_rows, rows_ok hy hb h1 h2 hv])).trans ?_
    refine (seq_nx (ρ1 := [some (.loc y), some (.int p.id), some (.str n), some (.str x), some (.loc p.ly), some (.str (c n)), none, none]) (μ1 := μ) (by simp [eVar, eC, eBin, eTest, eTru, eAnd, eOr, eNot, eNeg, eIf, eTup, eLst, eNew, eCall, eFn, eMe, eMk, eFld, eMeL, eMeL0, aNil, aCons, bAnd, bOr, bNot, bYes, sSeq, sNx, sEx, sRet, sRetN, sIf, sAsg, gSet, sPar, sFldM, sFldAdd, sRaise, Out.bind, Out.st, SO.seq, fin, runB, startW, yf_no hy m_text, text_ok hN hy hh h])).trans ?_
    refine (seq_nx (ρ1 := [some (.loc y), some (.int p.id), some (.str n), some (.str x), some (.loc p.ly), some (.str (c n)), none, none]) (μ1 := μ) (by simp [eVar, eC, eBin, eTest, eTru, eAnd, eOr, eNot, eNeg, eIf, eTup, eLst, eNew, eCall, eFn, eMe, eMk, eFld, eMeL, eMeL0, aNil, aCons, bAnd, bOr, bNot, bYes, sSeq, sNx, sEx, sRet, sRetN, sIf, sAsg, gSet, sPar, sFldM, sFldAdd, sRaise, Out.bind, Out.st, SO.seq, fin, runB, startW, cIsi, tyB, btOf, Bt.isA, truW])).trans ?_
    refine (seq_nx e4).trans ?_
    refine (seq_nx (ρ1 := [some (.loc y), some (.int p.id), some (.str n), some (.str x), some (.loc p.ly), some (.str (c n)), b6, none]) (μ1 := μ1) ?_).trans ?_
    · have : mAppend (.loc ln) [W.tup [.str "put", .int p.id, .str n, .str (c n), .str x]] μ = .ok .non μ1 := by
        simp only [mAppend, hl, if_pos lz, ea, e1]
      simp [eVar, eC, eBin, eTest, eTru, eAnd, eOr, eNot, eNeg, eIf, eTup, eLst, eNew, eCall, eFn, eMe, eMk, eFld, eMeL, eMeL0, aNil, aCons, bAnd, bOr, bNot, bYes, sSeq, sNx, sEx, sRet, sRetN, sIf, sAsg, gSet, sPar, sFldM, sFldAdd, sRaise, Out.bind, Out.st, SO.seq, fin, runB, startW, yf_log hy, isL, asL, hl, z5, this]
    refine (seq_nx (ρ1 := [some (.loc y), some (.int p.id), some (.str n), some (.str x), some (.loc p.ly), some (.str (c n)), b6, none]) (μ1 := μ2) ?_).trans ?_
    · have : mAppend (.loc p.ly) [W.tup [.str n, .str (c n)]] μ1 = .ok .non μ2 := by
        simp only [mAppend, hp1, if_pos rz, eb, e2]
      simp [eVar, eC, eBin, eTest, eTru, eAnd, eOr, eNot, eNeg, eIf, eTup, eLst, eNew, eCall, eFn, eMe, eMk, eFld, eMeL, eMeL0, aNil, aCons, bAnd, bOr, bNot, bYes, sSeq, sNx, sEx, sRet, sRetN, sIf, sAsg, gSet, sPar, sFldM, sFldAdd, sRaise, Out.bind, Out.st, SO.seq, fin, runB, startW, isL, asL, hp1, z2, this]
    simp [eVar, eC, eBin, eTest, eTru, eAnd, eOr, eNot, eNeg, eIf, eTup, eLst, eNew, eCall, eFn, eMe, eMk, eFld, eMeL, eMeL0, aNil, aCons, bAnd, bOr, bNot, bYes, sSeq, sNx, sEx, sRet, sRetN, sIf, sAsg, gSet, sPar, sFldM, sFldAdd, sRaise, Out.bind, Out.st, SO.seq, fin, runB, startW, gSubK, yf_hand hy2, asK, hh2, zd, dct_put h, e3]
  simp [eVar, eC, eBin, eTest, eTru, eAnd, eOr, eNot, eNeg, eIf, eTup, eLst, eNew, eCall, eFn, eMe, eMk, eFld, eMeL, eMeL0, aNil, aCons, bAnd, bOr, bNot, bYes, sSeq, sNx, sEx, sRet, sRetN, sIf, sAsg, gSet, sPar, sFldM, sFldAdd, sRaise, Out.bind, Out.st, SO.seq, fin, runB, startW, f_Yard_put, N_Yard_put, key]
theorem put_held {d s : W} (hN : isNames ns) (hy : μ[y]? = some (.ins A.Yard (yf (.loc hn) d (.loc ln) s (.loc bn) (.int m)))) (hh : μ[hn]? = some (.dK (dct ns c) false)) (hb : μ[bn]? = some (.dK (bdOf (·.ly) ws) false))
    (nd : (ws.map (·.id)).Nodup) (hr : ∀ p ∈ ws, μ[p.ly]? = some (.lst (p.rows.map rowW))) (hz : ∀ p ∈ ws, p.rows.length < sizeLine) {p : Wk} (hp : p ∈ ws) (h1 : 1 ≤ p.id) (h2 : p.id ≤ m) {n x : Str} (h : n ∈ ns) (hf : heldBy ws p.id n = true) :
    f_Yard_put A [.loc y, .int p.id, .str n, .str x] μ = .er A.Refused μ := by
  have hv := bd_val (f := (·.ly)) nd hp
  obtain ⟨ρ', e4⟩ : ∃ ρ', sForK (eFld A.Yard "begun" (eVar 0)) (gSet 6) (s_Yard_put_0 A) [some (.loc y), some (.int p.id), some (.str n), some (.str x), some (.loc p.ly), some (.str (c n)), none, none] μ = .er A.Refused ρ' μ := by
    rcases held_walk (n := n) (i := p.id) (a3 := some (.str x)) (a4 := some (.loc p.ly)) (a5 := some (.str (c n))) (a6 := none) hy hb nd hr (fun p hp => Nat.le_of_lt (hz p hp)) with ⟨e, _⟩ | ⟨_, ρ', e⟩
    · rw [hf] at e; cases e
    · exact ⟨ρ', e⟩
  have key : s_Yard_put A [some (.loc y), some (.int p.id), some (.str n), some (.str x), none, none, none, none] μ = .er A.Refused ρ' μ := by
    refine (seq_nx (ρ1 := [some (.loc y), some (.int p.id), some (.str n), some (.str x), some (.loc p.ly), none, none, none]) (μ1 := μ) (by simp [eVar, eC, eBin, eTest, eTru, eAnd, eOr, eNot, eNeg, eIf, eTup, eLst, eNew, eCall, eFn, eMe, eMk, eFld, eMeL, eMeL0, aNil, aCons, bAnd, bOr, bNot, bYes, sSeq, sNx, sEx, sRet, sRetN, sIf, sAsg, gSet, sPar, sFldM, sFldAdd, sRaise, Out.bind, Out.st, SO.seq, fin, runB, startW, yf_no hy m_rows, rows_ok hy hb h1 h2 hv])).trans ?_
    refine (seq_nx (ρ1 := [some (.loc y), some (.int p.id), some (.str n), some (.str x), some (.loc p.ly), some (.str (c n)), none, none]) (μ1 := μ) (by simp [eVar, eC, eBin, eTest, eTru, eAnd, eOr, eNot, eNeg, eIf, eTup, eLst, eNew, eCall, eFn, eMe, eMk, eFld, eMeL, eMeL0, aNil, aCons, bAnd, bOr, bNot, bYes, sSeq, sNx, sEx, sRet, sRetN, sIf, sAsg, gSet, sPar, sFldM, sFldAdd, sRaise, Out.bind, Out.st, SO.seq, fin, runB, startW, yf_no hy m_text, text_ok hN hy hh h])).trans ?_
    refine (seq_nx (ρ1 := [some (.loc y), some (.int p.id), some (.str n), some (.str x), some (.loc p.ly), some (.str (c n)), none, none]) (μ1 := μ) (by simp [eVar, eC, eBin, eTest, eTru, eAnd, eOr, eNot, eNeg, eIf, eTup, eLst, eNew, eCall, eFn, eMe, eMk, eFld, eMeL, eMeL0, aNil, aCons, bAnd, bOr, bNot, bYes, sSeq, sNx, sEx, sRet, sRetN, sIf, sAsg, gSet, sPar, sFldM, sFldAdd, sRaise, Out.bind, Out.st, SO.seq, fin, runB, startW, cIsi, tyB, btOf, Bt.isA, truW])).trans ?_
    show (sForK (eFld A.Yard "begun" (eVar 0)) (gSet 6) (s_Yard_put_0 A) _ μ).seq _ = _
    rw [e4]; rfl
  simp [eVar, eC, eBin, eTest, eTru, eAnd, eOr, eNot, eNeg, eIf, eTup, eLst, eNew, eCall, eFn, eMe, eMk, eFld, eMeL, eMeL0, aNil, aCons, bAnd, bOr, bNot, bYes, sSeq, sNx, sEx, sRet, sRetN, sIf, sAsg, gSet, sPar, sFldM, sFldAdd, sRaise, Out.bind, Out.st, SO.seq, fin, runB, startW, f_Yard_put, N_Yard_put, key]
/-- puts that are none -/
theorem put_noWork {h d l s : W} (hy : μ[y]? = some (.ins A.Yard (yf h d l s (.loc bn) (.int m)))) {x a b : W} (hx : f_is_number A [x, .int 1, .int m] μ = .ok (.bl false) μ) : f_Yard_put A [.loc y, x, a, b] μ = .er A.NotThere μ := by
  simp [eVar, eC, eBin, eTest, eTru, eAnd, eOr, eNot, eNeg, eIf, eTup, eLst, eNew, eCall, eFn, eMe, eMk, eFld, eMeL, eMeL0, aNil, aCons, bAnd, bOr, bNot, bYes, sSeq, sNx, sEx, sRet, sRetN, sIf, sAsg, gSet, sPar, sFldM, sFldAdd, sRaise, Out.bind, Out.st, SO.seq, fin, runB, startW, f_Yard_put, N_Yard_put, s_Yard_put, yf_no hy m_rows, rows_no hy hx]
theorem put_noName {d l s : W} (hy : μ[y]? = some (.ins A.Yard (yf (.loc hn) d l s (.loc bn) (.int m)))) (hb : μ[bn]? = some (.dK (bdOf (·.ly) ws) false)) (nd : (ws.map (·.id)).Nodup) {p : Wk} (hp : p ∈ ws) (h1 : 1 ≤ p.id) (h2 : p.id ≤ m) {a b : W}
    (hx : f_Yard_text A [.loc y, a] μ = .er A.NotThere μ) : f_Yard_put A [.loc y, .int p.id, a, b] μ = .er A.NotThere μ := by
  simp [eVar, eC, eBin, eTest, eTru, eAnd, eOr, eNot, eNeg, eIf, eTup, eLst, eNew, eCall, eFn, eMe, eMk, eFld, eMeL, eMeL0, aNil, aCons, bAnd, bOr, bNot, bYes, sSeq, sNx, sEx, sRet, sRetN, sIf, sAsg, gSet, sPar, sFldM, sFldAdd, sRaise, Out.bind, Out.st, SO.seq, fin, runB, startW, f_Yard_put, N_Yard_put, s_Yard_put, yf_no hy m_rows, yf_no hy m_text, rows_ok hy hb h1 h2 (bd_val (f := (·.ly)) nd hp), hx]
theorem put_noText {d l s : W} (hN : isNames ns) (hy : μ[y]? = some (.ins A.Yard (yf (.loc hn) d l s (.loc bn) (.int m)))) (hh : μ[hn]? = some (.dK (dct ns c) false)) (hb : μ[bn]? = some (.dK (bdOf (·.ly) ws) false)) (nd : (ws.map (·.id)).Nodup) {p : Wk} (hp : p ∈ ws) (h1 : 1 ≤ p.id) (h2 : p.id ≤ m) {n : Str} (h : n ∈ ns) {b : W}
    (hx : cIsi [b, .ty "str"] μ = .ok (.bl false) μ) : f_Yard_put A [.loc y, .int p.id, .str n, b] μ = .er A.Malformed μ := by
  have hv := bd_val (f := (·.ly)) nd hp
  have key : s_Yard_put A [some (.loc y), some (.int p.id), some (.str n), some b, none, none, none, none] μ = .er A.Malformed [some (.loc y), some (.int p.id), some (.str n), some b, some (.loc p.ly), some (.str (c n)), none, none] μ := by
    refine (seq_nx (ρ1 := [some (.loc y), some (.int p.id), some (.str n), some b, some (.loc p.ly), none, none, none]) (μ1 := μ) (by simp [eVar, eC, eBin, eTest, eTru, eAnd, eOr, eNot, eNeg, eIf, eTup, eLst, eNew, eCall, eFn, eMe, eMk, eFld, eMeL, eMeL0, aNil, aCons, bAnd, bOr, bNot, bYes, sSeq, sNx, sEx, sRet, sRetN, sIf, sAsg, gSet, sPar, sFldM, sFldAdd, sRaise, Out.bind, Out.st, SO.seq, fin, runB, startW, yf_no hy m_rows, rows_ok hy hb h1 h2 hv])).trans ?_
    refine (seq_nx (ρ1 := [some (.loc y), some (.int p.id), some (.str n), some b, some (.loc p.ly), some (.str (c n)), none, none]) (μ1 := μ) (by simp [eVar, eC, eBin, eTest, eTru, eAnd, eOr, eNot, eNeg, eIf, eTup, eLst, eNew, eCall, eFn, eMe, eMk, eFld, eMeL, eMeL0, aNil, aCons, bAnd, bOr, bNot, bYes, sSeq, sNx, sEx, sRet, sRetN, sIf, sAsg, gSet, sPar, sFldM, sFldAdd, sRaise, Out.bind, Out.st, SO.seq, fin, runB, startW, yf_no hy m_text, text_ok hN hy hh h])).trans ?_
    simp [eVar, eC, eBin, eTest, eTru, eAnd, eOr, eNot, eNeg, eIf, eTup, eLst, eNew, eCall, eFn, eMe, eMk, eFld, eMeL, eMeL0, aNil, aCons, bAnd, bOr, bNot, bYes, sSeq, sNx, sEx, sRet, sRetN, sIf, sAsg, gSet, sPar, sFldM, sFldAdd, sRaise, Out.bind, Out.st, SO.seq, fin, runB, startW, hx, truW]
  simp [eVar, eC, eBin, eTest, eTru, eAnd, eOr, eNot, eNeg, eIf, eTup, eLst, eNew, eCall, eFn, eMe, eMk, eFld, eMeL, eMeL0, aNil, aCons, bAnd, bOr, bNot, bYes, sSeq, sNx, sEx, sRet, sRetN, sIf, sAsg, gSet, sPar, sFldM, sFldAdd, sRaise, Out.bind, Out.st, SO.seq, fin, runB, startW, f_Yard_put, N_Yard_put, key]
/-! what a work that is dropped writes -/
def dropF (w : Int) : List (Str × Str) → List Row × Cells → List Row × Cells
  | [], s => s
  | (n, o) :: r, (l, c) => dropF w r (l ++ [Row.put w n (c n) o], setC c n o)
theorem dropF_len {w : Int} : ∀ (r : List (Str × Str)) (s : List Row × Cells), (dropF w r s).1.length = s.1.length + r.length
  | [], s => rfl
  | (n, o) :: r, (l, c) => by
    show (dropF w r (l ++ [Row.put w n (c n) o], setC c n o)).1.length = _
    rw [dropF_len r]; simp [eVar, eC, eBin, eTest, eTru, eAnd, eOr, eNot, eNeg, eIf, eTup, eLst, eNew, eCall, eFn, eMe, eMk, eFld, eMeL, eMeL0, aNil, aCons, bAnd, bOr, bNot, bYes, sSeq, sNx, sEx, sRet, sRetN, sIf, sAsg, gSet, sPar, sFldM, sFldAdd, sRaise, Out.bind, Out.st, SO.seq, fin, runB, startW]; omega
theorem drop_walk {d s : W} {w : Int} (hN : isNames ns) (nh : ln ≠ hn) {a2 a3 : Option W} : ∀ (rs : List (Str × Str)) (μ : Mu) (log : List Row) (c : Cells) (a2 a3 : Option W), (∀ q ∈ rs, q.1 ∈ ns) → log.length + rs.length < sizeLine → μ[y]? = some (.ins A.Yard (yf (.loc hn) d (.loc ln) s (.loc bn) (.int m))) → μ[hn]? = some (.dK (dct ns c) false) → μ[ln]? = some (.lst (log.map yrow)) →
    ∃ b2 b3, forS (gTupM 2 (gsCons (gSet 2) (gsCons (gSet 3) gsNil))) (s_Yard_drop_0 A) (rs.map rowW) [some (.loc y), some (.int w), a2, a3] μ = .nx [some (.loc y), some (.int w), b2, b3] ((μ.set ln (.lst ((dropF w rs (log, c)).1.map yrow))).set hn (.dK (dct ns (dropF w rs (log, c)).2) false))
  | [], μ, log, c, a2, a3, _, _, hy, hh, hl => ⟨a2, a3, by
      show SO.nx _ μ = SO.nx _ ((μ.set ln (.lst (log.map yrow))).set hn (.dK (dct ns c) false))
      rw [set_same hl, set_same hh]⟩
  | (n, o) :: r, μ, log, c, a2, a3, hq, hz, hy, hh, hl => by
    have h : n ∈ ns := hq (n, o) List.mem_cons_self
    rw [List.length_cons] at hz
    have z5 : 5 ≤ sizeLine := by have := sizeLine_val; omega
    have zn : ns.length < sizeLine := by have := hN.small; have := sizeLine_val; omega
    have zd : (dct ns c).length < sizeLine := by rw [dct_len]; exact zn
    have ny : ln ≠ y := fun e => by rw [e, hy] at hl; cases hl
    have hy' : hn ≠ y := fun e => by rw [e, hy] at hh; cases hh
    have lz : (log.map yrow).length < sizeLine := by simp [eVar, eC, eBin, eTest, eTru, eAnd, eOr, eNot, eNeg, eIf, eTup, eLst, eNew, eCall, eFn, eMe, eMk, eFld, eMeL, eMeL0, aNil, aCons, bAnd, bOr, bNot, bYes, sSeq, sNx, sEx, sRet, sRetN, sIf, sAsg, gSet, sPar, sFldM, sFldAdd, sRaise, Out.bind, Out.st, SO.seq, fin, runB, startW]; omega
    have ea : (log.map yrow ++ [W.tup [.str "put", .int w, .str n, .str (c n), .str o]]) = (log ++ [Row.put w n (c n) o]).map yrow := by simp [eVar, eC, eBin, eTest, eTru, eAnd, eOr, eNot, eNeg, eIf, eTup, eLst, eNew, eCall, eFn, eMe, eMk, eFld, eMeL, eMeL0, aNil, aCons, bAnd, bOr, bNot, bYes, sSeq, sNx, sEx, sRet, sRetN, sIf, sAsg, gSet, sPar, sFldM, sFldAdd, sRaise, Out.bind, Out.st, SO.seq, fin, runB, startW, yrow]
    generalize e1 : μ.set ln (.lst ((log ++ [Row.put w n (c n) o]).map yrow)) = μ1
    have hy1 : μ1[y]? = some (.ins A.Yard (yf (.loc hn) d (.loc ln) s (.loc bn) (.int m))) := by rw [← e1, List.getElem?_set_ne ny]; exact hy
    have hh1 : μ1[hn]? = some (.dK (dct ns c) false) := by rw [← e1, List.getElem?_set_ne nh]; exact hh
    have hl1 : μ1[ln]? = some (.lst ((log ++ [Row.put w n (c n) o]).map yrow)) := by rw [← e1]; exact List.getElem?_set_self (List.getElem?_eq_some_iff.mp hl).1
    generalize e2 : μ1.set hn (.dK (dct ns (setC c n o)) false) = μ2
    have hy2 : μ2[y]? = some (.ins A.Yard (yf (.loc hn) d (.loc ln) s (.loc bn) (.int m))) := by rw [← e2, List.getElem?_set_ne hy']; exact hy1
    have hh2 : μ2[hn]? = some (.dK (dct ns (setC c n o)) false) := by rw [← e2]; exact List.getElem?_set_self (List.getElem?_eq_some_iff.mp hh1).1
    have hl2 : μ2[ln]? = some (.lst ((log ++ [Row.put w n (c n) o]).map yrow)) := by rw [← e2, List.getElem?_set_ne (fun e => nh e.symm)]; exact hl1
    have hb : s_Yard_drop_0 A [some (.loc y), some (.int w), some (.str n), some (.str o)] μ = .nx [some (.loc y), some (.int w), some (.str n), some (.str o)] μ2 := by
      refine (seq_nx (ρ1 := [some (.loc y), some (.int w), some (.str n), some (.str o)]) (μ1 := μ1) ?_).trans ?_
      · have : mAppend (.loc ln) [W.tup [.str "put", .int w, .str n, .str (c n), .str o]] μ = .ok .non μ1 := by
          simp only [mAppend, hl, if_pos lz, ea, e1]
        simp [eVar, eC, eBin, eTest, eTru, eAnd, eOr, eNot, eNeg, eIf, eTup, eLst, eNew, eCall, eFn, eMe, eMk, eFld, eMeL, eMeL0, aNil, aCons, bAnd, bOr, bNot, bYes, sSeq, sNx, sEx, sRet, sRetN, sIf, sAsg, gSet, sPar, sFldM, sFldAdd, sRaise, Out.bind, Out.st, SO.seq, fin, runB, startW, yf_log hy, yf_hand hy, isL, asL, hl, z5, gIxK, dAt, hh, asK, dct_val h, this]
      · simp [eVar, eC, eBin, eTest, eTru, eAnd, eOr, eNot, eNeg, eIf, eTup, eLst, eNew, eCall, eFn, eMe, eMk, eFld, eMeL, eMeL0, aNil, aCons, bAnd, bOr, bNot, bYes, sSeq, sNx, sEx, sRet, sRetN, sIf, sAsg, gSet, sPar, sFldM, sFldAdd, sRaise, Out.bind, Out.st, SO.seq, fin, runB, startW, gSubK, yf_hand hy1, asK, hh1, zd, dct_put h, e2]
    obtain ⟨b2, b3, e3⟩ := drop_walk hN nh (a2 := a2) (a3 := a3) r μ2 (log ++ [Row.put w n (c n) o]) (setC c n o) (some (.str n)) (some (.str o)) (fun q hq' => hq q (List.mem_cons_of_mem _ hq')) (by simp [eVar, eC, eBin, eTest, eTru, eAnd, eOr, eNot, eNeg, eIf, eTup, eLst, eNew, eCall, eFn, eMe, eMk, eFld, eMeL, eMeL0, aNil, aCons, bAnd, bOr, bNot, bYes, sSeq, sNx, sEx, sRet, sRetN, sIf, sAsg, gSet, sPar, sFldM, sFldAdd, sRaise, Out.bind, Out.st, SO.seq, fin, runB, startW]; omega) hy2 hh2 hl2
    refine ⟨b2, b3, ?_⟩
    have eg : gTupM 2 (gsCons (gSet 2) (gsCons (gSet 3) gsNil)) (rowW (n, o)) [some (.loc y), some (.int w), a2, a3] μ = .ok [some (.loc y), some (.int w), some (.str n), some (.str o)] μ := by
      simp [eVar, eC, eBin, eTest, eTru, eAnd, eOr, eNot, eNeg, eIf, eTup, eLst, eNew, eCall, eFn, eMe, eMk, eFld, eMeL, eMeL0, aNil, aCons, bAnd, bOr, bNot, bYes, sSeq, sNx, sEx, sRet, sRetN, sIf, sAsg, gSet, sPar, sFldM, sFldAdd, sRaise, Out.bind, Out.st, SO.seq, fin, runB, startW, gTupM, rowW, gsCons, gsNil]
    have ef : forS (gTupM 2 (gsCons (gSet 2) (gsCons (gSet 3) gsNil))) (s_Yard_drop_0 A) (((n, o) :: r).map rowW) [some (.loc y), some (.int w), a2, a3] μ = forS (gTupM 2 (gsCons (gSet 2) (gsCons (gSet 3) gsNil))) (s_Yard_drop_0 A) (r.map rowW) [some (.loc y), some (.int w), some (.str n), some (.str o)] μ2 := by
      show (gTupM 2 (gsCons (gSet 2) (gsCons (gSet 3) gsNil)) (rowW (n, o)) [some (.loc y), some (.int w), a2, a3] μ).st _ _ = _
      rw [eg]
      show (match s_Yard_drop_0 A [some (.loc y), some (.int w), some (.str n), some (.str o)] μ with
        | .nx ρ2 μ2 => forS _ (s_Yard_drop_0 A) (r.map rowW) ρ2 μ2
        | .ct ρ2 μ2 => forS _ (s_Yard_drop_0 A) (r.map rowW) ρ2 μ2
        | .bk ρ2 μ2 => SO.nx ρ2 μ2
        | o => o) = _
      rw [hb]
    rw [ef, e3, ← e2, ← e1, set2 nh]
    rfl
theorem drop_ok {d s : W} (hN : isNames ns) (hy : μ[y]? = some (.ins A.Yard (yf (.loc hn) d (.loc ln) s (.loc bn) (.int m)))) (hh : μ[hn]? = some (.dK (dct ns c) false)) (hb : μ[bn]? = some (.dK (bdOf (·.ly) ws) false)) (hl : μ[ln]? = some (.lst (log.map yrow))) (hhb : hn ≠ bn)
    (nd : (ws.map (·.id)).Nodup) (hr : ∀ p ∈ ws, μ[p.ly]? = some (.lst (p.rows.map rowW))) {p : Wk} (hp : p ∈ ws) (hzl : log.length + p.rows.length + 1 < sizeLine) (h1 : 1 ≤ p.id) (h2 : p.id ≤ m) (hq : ∀ q ∈ p.rows, q.1 ∈ ns) :
    f_Yard_drop A [.loc y, .int p.id] μ = .ok .non (((μ.set ln (.lst (((dropF p.id p.rows.reverse (log, c)).1 ++ [Row.fin p.id]).map yrow))).set hn (.dK (dct ns (dropF p.id p.rows.reverse (log, c)).2) false)).set bn (.dK (dDrop (bdOf (·.ly) ws) (.inl p.id)) false)) := by
  have hv := bd_val (f := (·.ly)) nd hp
  have nh : ln ≠ hn := fun e => by rw [e, hh] at hl; cases hl
  have nb : ln ≠ bn := fun e => by rw [e, hb] at hl; cases hl
  have ny : ln ≠ y := fun e => by rw [e, hy] at hl; cases hl
  have hy' : hn ≠ y := fun e => by rw [e, hy] at hh; cases hh
  obtain ⟨b2, b3, e1⟩ := drop_walk (A := A) (y := y) (bn := bn) (m := m) (d := d) (s := s) (w := p.id) hN nh (a2 := none) (a3 := none) p.rows.reverse μ log c none none (fun q hq' => hq q (List.mem_reverse.mp hq')) (by rw [List.length_reverse]; omega) hy hh hl
  generalize e0 : dropF p.id p.rows.reverse (log, c) = S at e1 ⊢
  obtain ⟨lg, c2⟩ := S
  dsimp only at e1 ⊢
  have hlen : lg.length = log.length + p.rows.length := by
    have := dropF_len (w := p.id) p.rows.reverse (log, c)
    rw [e0, List.length_reverse] at this
    exact this
  generalize e2 : (μ.set ln (.lst (lg.map yrow))).set hn (.dK (dct ns c2) false) = μ1 at e1
  have hy1 : μ1[y]? = some (.ins A.Yard (yf (.loc hn) d (.loc ln) s (.loc bn) (.int m))) := by rw [← e2, List.getElem?_set_ne hy', List.getElem?_set_ne ny]; exact hy
  have hb1 : μ1[bn]? = some (.dK (bdOf (·.ly) ws) false) := by rw [← e2, List.getElem?_set_ne hhb, List.getElem?_set_ne nb]; exact hb
  have hl1 : μ1[ln]? = some (.lst (lg.map yrow)) := by
    rw [← e2, List.getElem?_set_ne (fun e => nh e.symm)]
    exact List.getElem?_set_self (List.getElem?_eq_some_iff.mp hl).1
  have ee := end_ok hy1 hb1 hl1 (by simp [eVar, eC, eBin, eTest, eTru, eAnd, eOr, eNot, eNeg, eIf, eTup, eLst, eNew, eCall, eFn, eMe, eMk, eFld, eMeL, eMeL0, aNil, aCons, bAnd, bOr, bNot, bYes, sSeq, sNx, sEx, sRet, sRetN, sIf, sAsg, gSet, sPar, sFldM, sFldAdd, sRaise, Out.bind, Out.st, SO.seq, fin, runB, startW]; omega) ny nb h1 h2 hv
  have ea : lg.map yrow ++ [W.tup [.str "end", .int p.id]] = (lg ++ [Row.fin p.id]).map yrow := by simp [eVar, eC, eBin, eTest, eTru, eAnd, eOr, eNot, eNeg, eIf, eTup, eLst, eNew, eCall, eFn, eMe, eMk, eFld, eMeL, eMeL0, aNil, aCons, bAnd, bOr, bNot, bYes, sSeq, sNx, sEx, sRet, sRetN, sIf, sAsg, gSet, sPar, sFldM, sFldAdd, sRaise, Out.bind, Out.st, SO.seq, fin, runB, startW, yrow]
  rw [ea] at ee
  have eset : μ1.set ln (.lst ((lg ++ [Row.fin p.id]).map yrow)) = (μ.set ln (.lst ((lg ++ [Row.fin p.id]).map yrow))).set hn (.dK (dct ns c2) false) := by
    rw [← e2, List.set_comm _ _ (fun e => nh e.symm), List.set_set]
  rw [eset] at ee
  have key : s_Yard_drop A [some (.loc y), some (.int p.id), none, none] μ = .nx [some (.loc y), some (.int p.id), b2, b3] (((μ.set ln (.lst ((lg ++ [Row.fin p.id]).map yrow))).set hn (.dK (dct ns c2) false)).set bn (.dK (dDrop (bdOf (·.ly) ws) (.inl p.id)) false)) := by
    refine (seq_nx (ρ1 := [some (.loc y), some (.int p.id), b2, b3]) (μ1 := μ1) ?_).trans ?_
    · rw [← e1]
      simp [eVar, eC, eBin, eTest, eTru, eAnd, eOr, eNot, eNeg, eIf, eTup, eLst, eNew, eCall, eFn, eMe, eMk, eFld, eMeL, eMeL0, aNil, aCons, bAnd, bOr, bNot, bYes, sSeq, sNx, sEx, sRet, sRetN, sIf, sAsg, gSet, sPar, sFldM, sFldAdd, sRaise, Out.bind, Out.st, SO.seq, fin, runB, startW, sFor, iSeq, eRevF, yf_no hy m_rows, rows_ok hy hb h1 h2 hv, asL, hr p hp, itOf, asQ]
    · simp [eVar, eC, eBin, eTest, eTru, eAnd, eOr, eNot, eNeg, eIf, eTup, eLst, eNew, eCall, eFn, eMe, eMk, eFld, eMeL, eMeL0, aNil, aCons, bAnd, bOr, bNot, bYes, sSeq, sNx, sEx, sRet, sRetN, sIf, sAsg, gSet, sPar, sFldM, sFldAdd, sRaise, Out.bind, Out.st, SO.seq, fin, runB, startW, yf_no hy1 m_end, ee]
  simp [eVar, eC, eBin, eTest, eTru, eAnd, eOr, eNot, eNeg, eIf, eTup, eLst, eNew, eCall, eFn, eMe, eMk, eFld, eMeL, eMeL0, aNil, aCons, bAnd, bOr, bNot, bYes, sSeq, sNx, sEx, sRet, sRetN, sIf, sAsg, gSet, sPar, sFldM, sFldAdd, sRaise, Out.bind, Out.st, SO.seq, fin, runB, startW, f_Yard_drop, N_Yard_drop, key]
end
end K76
namespace K76
open PySem PySem.Spec PyProof.Rows L2 PD
variable [Tbs]
section
variable {A : Adr} {μ : Mu} {ns : List Str} {c : Cells}
theorem merge_dct (hN : isNames ns) : dMerge [] (dct ns c) = dct ns c := by
  refine hN.cases (P := fun ns => dMerge [] (dct ns c) = dct ns c) ?_ ?_ ?_ ?_ <;> rfl
theorem dPut_len (kvs : List (Key × W)) (k : Key) (w : W) : (dPut kvs k w).length ≤ kvs.length + 1 := by
  unfold dPut
  split
  · rw [List.length_map]; omega
  · simp [eVar, eC, eBin, eTest, eTru, eAnd, eOr, eNot, eNeg, eIf, eTup, eLst, eNew, eCall, eFn, eMe, eMk, eFld, eMeL, eMeL0, aNil, aCons, bAnd, bOr, bNot, bYes, sSeq, sNx, sEx, sRet, sRetN, sIf, sAsg, gSet, sPar, sFldM, sFldAdd, sRaise, Out.bind, Out.st, SO.seq, fin, runB, startW]
theorem dcS_names : ∀ (l : List Str) (acc : List (Key × W)) (o1 o2 : Option W), acc.length + l.length < sizeLine →
    dcS (gSet 2) bYes (eVar 2) (eC (.str "")) [o1, o2, none] (l.map .str) acc μ = .ok (.loc μ.length) (μ ++ [.dK (dMerge acc (l.map fun n => ((Sum.inr n : Key), W.str ""))) false])
  | [], acc, o1, o2, _ => rfl
  | n :: l, acc, o1, o2, h => by
    rw [List.length_cons] at h
    have hp := dPut_len acc (.inr n) (.str "")
    have ih := dcS_names l (dPut acc (.inr n) (.str "")) o1 o2 (by omega)
    have : dcS (gSet 2) bYes (eVar 2) (eC (.str "")) [o1, o2, none] ((n :: l).map .str) acc μ = dcS (gSet 2) bYes (eVar 2) (eC (.str "")) [o1, o2, none] (l.map .str) (dPut acc (.inr n) (.str "")) μ := by
      conv => lhs; unfold dcS
      simp [eVar, eC, eBin, eTest, eTru, eAnd, eOr, eNot, eNeg, eIf, eTup, eLst, eNew, eCall, eFn, eMe, eMk, eFld, eMeL, eMeL0, aNil, aCons, bAnd, bOr, bNot, bYes, sSeq, sNx, sEx, sRet, sRetN, sIf, sAsg, gSet, sPar, sFldM, sFldAdd, sRaise, Out.bind, Out.st, SO.seq, fin, runB, startW, asK, show acc.length < sizeLine by omega]
    rw [this, ih]
    rfl
theorem dc_names (hN : isNames ns) {o1 : Option W} : eDc (iSeq (eVar 1)) [2] (gSet 2) bYes (eVar 2) (eC (.str "")) [o1, some (.tup (ns.map .str)), none] μ = .ok (.loc μ.length) (μ ++ [.dK (dct ns fun _ => "") false]) := by
  have e := dcS_names (μ := μ) ns [] o1 (some (.tup (ns.map .str))) (by have := hN.small; have := sizeLine_val; simp [eVar, eC, eBin, eTest, eTru, eAnd, eOr, eNot, eNeg, eIf, eTup, eLst, eNew, eCall, eFn, eMe, eMk, eFld, eMeL, eMeL0, aNil, aCons, bAnd, bOr, bNot, bYes, sSeq, sNx, sEx, sRet, sRetN, sIf, sAsg, gSet, sPar, sFldM, sFldAdd, sRaise, Out.bind, Out.st, SO.seq, fin, runB, startW]; omega)
  have e2 : dMerge [] (ns.map fun n => ((Sum.inr n : Key), W.str "")) = dct ns fun _ => "" := merge_dct hN
  rw [e2] at e
  rw [← e]
  simp [eVar, eC, eBin, eTest, eTru, eAnd, eOr, eNot, eNeg, eIf, eTup, eLst, eNew, eCall, eFn, eMe, eMk, eFld, eMeL, eMeL0, aNil, aCons, bAnd, bOr, bNot, bYes, sSeq, sNx, sEx, sRet, sRetN, sIf, sAsg, gSet, sPar, sFldM, sFldAdd, sRaise, Out.bind, Out.st, SO.seq, fin, runB, startW, eDc, iSeq, itOf, asQ, wipeW]
theorem init_ok (hN : isNames ns) : f_Yard_init A [.loc μ.length, .tup (ns.map .str)] (μ ++ [.ins A.Yard []]) = .ok .non (μ ++ [.ins A.Yard (yf (.loc (μ.length + 1)) (.loc (μ.length + 2)) (.loc (μ.length + 3)) (.int 0) (.loc (μ.length + 4)) (.int 0)), .dK (dct ns fun _ => "") false, .dK (dct ns fun _ => "") false, .lst [], .dK [] false]) := by
  have z0 : (0 : Nat) ≤ sizeLine := Nat.zero_le _
  have key : s_Yard_init A [some (.loc μ.length), some (.tup (ns.map .str)), none] (μ ++ [.ins A.Yard []]) = .nx [some (.loc μ.length), some (.tup (ns.map .str)), none] (μ ++ [.ins A.Yard (yf (.loc (μ.length + 1)) (.loc (μ.length + 2)) (.loc (μ.length + 3)) (.int 0) (.loc (μ.length + 4)) (.int 0)), .dK (dct ns fun _ => "") false, .dK (dct ns fun _ => "") false, .lst [], .dK [] false]) := by
    refine (seq_nx (ρ1 := [some (.loc μ.length), some (.tup (ns.map .str)), none]) (μ1 := μ ++ [.ins A.Yard []]) (by simp [eVar, eC, eBin, eTest, eTru, eAnd, eOr, eNot, eNeg, eIf, eTup, eLst, eNew, eCall, eFn, eMe, eMk, eFld, eMeL, eMeL0, aNil, aCons, bAnd, bOr, bNot, bYes, sSeq, sNx, sEx, sRet, sRetN, sIf, sAsg, gSet, sPar, sFldM, sFldAdd, sRaise, Out.bind, Out.st, SO.seq, fin, runB, startW, cells_ok hN, truW])).trans ?_
    refine (seq_nx (ρ1 := [some (.loc μ.length), some (.tup (ns.map .str)), none]) (μ1 := μ ++ [.ins A.Yard [("hand", .loc (μ.length + 1))], .dK (dct ns fun _ => "") false]) ?_).trans ?_
    · simp only [sFldM, dc_names hN, Out.st, eVar, List.getElem?_cons_zero]
      simp [eVar, eC, eBin, eTest, eTru, eAnd, eOr, eNot, eNeg, eIf, eTup, eLst, eNew, eCall, eFn, eMe, eMk, eFld, eMeL, eMeL0, aNil, aCons, bAnd, bOr, bNot, bYes, sSeq, sNx, sEx, sRet, sRetN, sIf, sAsg, gSet, sPar, sFldM, sFldAdd, sRaise, Out.bind, Out.st, SO.seq, fin, runB, startW, setFld, cat_at, cat_set, putW]
    refine (seq_nx (ρ1 := [some (.loc μ.length), some (.tup (ns.map .str)), none]) (μ1 := μ ++ [.ins A.Yard [("hand", .loc (μ.length + 1)), ("disk", .loc (μ.length + 2))], .dK (dct ns fun _ => "") false, .dK (dct ns fun _ => "") false]) ?_).trans ?_
    · simp only [sFldM, dc_names hN, Out.st, eVar, List.getElem?_cons_zero]
      simp only [setFld, List.append_assoc, List.cons_append, List.nil_append, cat_at, cat_set, List.length_append, List.length_cons, List.length_nil]
      rfl
    refine (seq_nx (ρ1 := [some (.loc μ.length), some (.tup (ns.map .str)), none]) (μ1 := μ ++ [.ins A.Yard [("hand", .loc (μ.length + 1)), ("disk", .loc (μ.length + 2)), ("log", .loc (μ.length + 3))], .dK (dct ns fun _ => "") false, .dK (dct ns fun _ => "") false, .lst []]) ?_).trans ?_
    · simp only [sFldM, eNew, aNil, Out.bind, Out.st, eVar, List.getElem?_cons_zero, List.length_nil, z0, if_true]
      simp only [setFld, List.append_assoc, List.cons_append, List.nil_append, cat_at, cat_set, List.length_append, List.length_cons, List.length_nil]
      rfl
    refine (seq_nx (ρ1 := [some (.loc μ.length), some (.tup (ns.map .str)), none]) (μ1 := μ ++ [.ins A.Yard [("hand", .loc (μ.length + 1)), ("disk", .loc (μ.length + 2)), ("log", .loc (μ.length + 3)), ("safe", .int 0)], .dK (dct ns fun _ => "") false, .dK (dct ns fun _ => "") false, .lst []]) ?_).trans ?_
    · simp only [sFldM, eC, Out.bind, Out.st, eVar, List.getElem?_cons_zero]
      simp only [setFld, cat_at, cat_set]
      rfl
    refine (seq_nx (ρ1 := [some (.loc μ.length), some (.tup (ns.map .str)), none]) (μ1 := μ ++ [.ins A.Yard [("hand", .loc (μ.length + 1)), ("disk", .loc (μ.length + 2)), ("log", .loc (μ.length + 3)), ("safe", .int 0), ("begun", .loc (μ.length + 4))], .dK (dct ns fun _ => "") false, .dK (dct ns fun _ => "") false, .lst [], .dK [] false]) ?_).trans ?_
    · simp only [sFldM, eDNew, Out.bind, Out.st, eVar, List.getElem?_cons_zero]
      simp only [setFld, List.append_assoc, List.cons_append, List.nil_append, cat_at, cat_set, List.length_append, List.length_cons, List.length_nil]
      rfl
    simp only [sFldM, eC, Out.bind, Out.st, eVar, List.getElem?_cons_zero]
    simp only [setFld, cat_at, cat_set]
    rfl
  simp [eVar, eC, eBin, eTest, eTru, eAnd, eOr, eNot, eNeg, eIf, eTup, eLst, eNew, eCall, eFn, eMe, eMk, eFld, eMeL, eMeL0, aNil, aCons, bAnd, bOr, bNot, bYes, sSeq, sNx, sEx, sRet, sRetN, sIf, sAsg, gSet, sPar, sFldM, sFldAdd, sRaise, Out.bind, Out.st, SO.seq, fin, runB, startW, f_Yard_init, N_Yard_init, key]
/-- Yard(x), x no names -/
theorem init_no {x : W} (hx : f_are_cells A [x] μ = .ok (.bl false) μ) {y : W} : f_Yard_init A [y, x] μ = .er A.Malformed μ := by
  simp [eVar, eC, eBin, eTest, eTru, eAnd, eOr, eNot, eNeg, eIf, eTup, eLst, eNew, eCall, eFn, eMe, eMk, eFld, eMeL, eMeL0, aNil, aCons, bAnd, bOr, bNot, bYes, sSeq, sNx, sEx, sRet, sRetN, sIf, sAsg, gSet, sPar, sFldM, sFldAdd, sRaise, Out.bind, Out.st, SO.seq, fin, runB, startW, f_Yard_init, N_Yard_init, s_Yard_init, hx, truW]
theorem sort_names (hN : isNames ns) : sortSt ns = ns := by
  have h : sortedS ns = true := by
    refine hN.cases (P := fun ns => sortedS ns = true) ?_ ?_ ?_ ?_ <;> decide +kernel
  exact (sortSt_uniq h (List.Perm.refl _)).symm
theorem kStrs_dct : ∀ (ns : List Str), kStrs (dct ns c) = some ns
  | [] => rfl
  | n :: r => by
    show (kStrs (dct r c)).map (n :: ·) = _
    rw [kStrs_dct r]; rfl
theorem sortK_dct (hN : isNames ns) {hn : Nat} (hh : μ[hn]? = some (.dK (dct ns c) false)) : cSortK [.loc hn] μ = .ok (.lst (ns.map .str)) μ := by
  have e1 : kInts (dct ns c) = none := by
    refine hN.cases (P := fun ns => kInts (dct ns c) = none) ?_ ?_ ?_ ?_ <;> rfl
  have h64 : ns.length < 64 := by have := hN.small; omega
  unfold cSortK
  simp only [dAt, hh, e1, kStrs_dct, if_pos h64, sort_names hN]
/-! loops over rows that change one dict -/
theorem fold_loop {g : W → PD.Env → Mu → Out PD.Env} {body : SM} {f : Cells → Row → Cells} {rowf : Row → W} {cn : Nat} (I : PD.Env → Prop) : ∀ (p : List Row) (ρ : PD.Env) (μ : Mu) (c : Cells), I ρ → μ[cn]? = some (.dK (dct ns c) false) →
    (∀ r ∈ p, ∀ (c : Cells) (ρ : PD.Env) (μ : Mu), I ρ → μ[cn]? = some (.dK (dct ns c) false) → ∃ ρ1 ρ2, g (rowf r) ρ μ = .ok ρ1 μ ∧ body ρ1 μ = .nx ρ2 (μ.set cn (.dK (dct ns (f c r)) false)) ∧ I ρ2) →
    ∃ ρ', forS g body (p.map rowf) ρ μ = .nx ρ' (μ.set cn (.dK (dct ns (p.foldl f c)) false)) ∧ I ρ'
  | [], ρ, μ, c, hI, hc, _ => ⟨ρ, by show SO.nx ρ μ = SO.nx ρ (μ.set cn (.dK (dct ns c) false)); rw [set_same hc], hI⟩
  | r :: p, ρ, μ, c, hI, hc, st => by
    obtain ⟨ρ1, ρ2, e1, e2, i2⟩ := st r List.mem_cons_self c ρ μ hI hc
    obtain ⟨ρ', e3, i3⟩ := fold_loop I p ρ2 (μ.set cn (.dK (dct ns (f c r)) false)) (f c r) i2 (List.getElem?_set_self (List.getElem?_eq_some_iff.mp hc).1) fun r' hr' => st r' (List.mem_cons_of_mem _ hr')
    refine ⟨ρ', ?_, i3⟩
    have ef : forS g body ((r :: p).map rowf) ρ μ = forS g body (p.map rowf) ρ2 (μ.set cn (.dK (dct ns (f c r)) false)) := by
      show (g (rowf r) ρ μ).st ρ _ = _
      rw [e1]
      show (match body ρ1 μ with
        | .nx ρ2 μ2 => forS g body (p.map rowf) ρ2 μ2
        | .ct ρ2 μ2 => forS g body (p.map rowf) ρ2 μ2
        | .bk ρ2 μ2 => SO.nx ρ2 μ2
        | o => o) = _
      rw [e2]
    rw [ef, e3, List.set_set]
    rfl
theorem eq_put : gEq (.str "put") (.str "put") μ = .ok (.bl true) μ := by rw [gEq_str (by decide +kernel) (by decide +kernel)]; simp [eVar, eC, eBin, eTest, eTru, eAnd, eOr, eNot, eNeg, eIf, eTup, eLst, eNew, eCall, eFn, eMe, eMk, eFld, eMeL, eMeL0, aNil, aCons, bAnd, bOr, bNot, bYes, sSeq, sNx, sEx, sRet, sRetN, sIf, sAsg, gSet, sPar, sFldM, sFldAdd, sRaise, Out.bind, Out.st, SO.seq, fin, runB, startW]
theorem eq_endput : gEq (.str "end") (.str "put") μ = .ok (.bl false) μ := by rw [gEq_str (by decide +kernel) (by decide +kernel)]; rfl
theorem eq_end : gEq (.str "end") (.str "end") μ = .ok (.bl true) μ := by rw [gEq_str (by decide +kernel) (by decide +kernel)]; simp [eVar, eC, eBin, eTest, eTru, eAnd, eOr, eNot, eNeg, eIf, eTup, eLst, eNew, eCall, eFn, eMe, eMk, eFld, eMeL, eMeL0, aNil, aCons, bAnd, bOr, bNot, bYes, sSeq, sNx, sEx, sRet, sRetN, sIf, sAsg, gSet, sPar, sFldM, sFldAdd, sRaise, Out.bind, Out.st, SO.seq, fin, runB, startW]
theorem eq_putend : gEq (.str "put") (.str "end") μ = .ok (.bl false) μ := by rw [gEq_str (by decide +kernel) (by decide +kernel)]; rfl
def names (ns : List Str) (p : List Row) : Prop := ∀ w n o x, Row.put w n o x ∈ p → n ∈ ns
theorem zdct (hN : isNames ns) : (dct ns c).length < sizeLine := by rw [dct_len]; have := hN.small; have := sizeLine_val; omega
/-- the ids of the rows that end -/
theorem cmp_fins {rowf : Row → W} {ρ : PD.Env} {i : Nat} (hi : i < ρ.length) (h1 : ∀ w n o x, ∃ l, rowf (.put w n o x) = .tup (.str "put" :: l)) (h2 : ∀ w, rowf (.fin w) = .tup [.str "end", .int w]) : ∀ (p : List Row) (acc : List Int), acc.length + p.length ≤ sizeLine →
    cmpS (gSet i) (eTest (eBin gEq (eBin gIx (eVar i) (eC (.int 0))) (eC (.str "end")))) (eBin gIx (eVar i) (eC (.int 1))) ρ (p.map rowf) (acc.map .int) μ = .ok (.lst ((acc ++ finIds p).map .int)) μ
  | [], acc, _ => by simp [eVar, eC, eBin, eTest, eTru, eAnd, eOr, eNot, eNeg, eIf, eTup, eLst, eNew, eCall, eFn, eMe, eMk, eFld, eMeL, eMeL0, aNil, aCons, bAnd, bOr, bNot, bYes, sSeq, sNx, sEx, sRet, sRetN, sIf, sAsg, gSet, sPar, sFldM, sFldAdd, sRaise, Out.bind, Out.st, SO.seq, fin, runB, startW, cmpS, finIds]
  | .put w n o x :: p, acc, hz => by
    rw [List.length_cons] at hz
    have ih := cmp_fins (i := i) hi h1 h2 p acc (by omega)
    obtain ⟨l, e⟩ := h1 w n o x
    have : cmpS (gSet i) (eTest (eBin gEq (eBin gIx (eVar i) (eC (.int 0))) (eC (.str "end")))) (eBin gIx (eVar i) (eC (.int 1))) ρ ((Row.put w n o x :: p).map rowf) (acc.map .int) μ = cmpS (gSet i) (eTest (eBin gEq (eBin gIx (eVar i) (eC (.int 0))) (eC (.str "end")))) (eBin gIx (eVar i) (eC (.int 1))) ρ (p.map rowf) (acc.map .int) μ := by
      conv => lhs; unfold cmpS
      have e0 : gIx (.tup (.str "put" :: l)) (.int 0) μ = .ok (.str "put") μ := by simp [eVar, eC, eBin, eTest, eTru, eAnd, eOr, eNot, eNeg, eIf, eTup, eLst, eNew, eCall, eFn, eMe, eMk, eFld, eMeL, eMeL0, aNil, aCons, bAnd, bOr, bNot, bYes, sSeq, sNx, sEx, sRet, sRetN, sIf, sAsg, gSet, sPar, sFldM, sFldAdd, sRaise, Out.bind, Out.st, SO.seq, fin, runB, startW, gIx, orG, gIxQ, asQ, atI, ixN, Out.els]
      simp [eVar, eC, eBin, eTest, eTru, eAnd, eOr, eNot, eNeg, eIf, eTup, eLst, eNew, eCall, eFn, eMe, eMk, eFld, eMeL, eMeL0, aNil, aCons, bAnd, bOr, bNot, bYes, sSeq, sNx, sEx, sRet, sRetN, sIf, sAsg, gSet, sPar, sFldM, sFldAdd, sRaise, Out.bind, Out.st, SO.seq, fin, runB, startW, e, hi, e0, eq_putend]
    rw [this, ih]
    rfl
  | .fin w :: p, acc, hz => by
    rw [List.length_cons] at hz
    have ih := cmp_fins (i := i) hi h1 h2 p (acc ++ [w]) (by simp [eVar, eC, eBin, eTest, eTru, eAnd, eOr, eNot, eNeg, eIf, eTup, eLst, eNew, eCall, eFn, eMe, eMk, eFld, eMeL, eMeL0, aNil, aCons, bAnd, bOr, bNot, bYes, sSeq, sNx, sEx, sRet, sRetN, sIf, sAsg, gSet, sPar, sFldM, sFldAdd, sRaise, Out.bind, Out.st, SO.seq, fin, runB, startW]; omega)
    have hl : (acc.map W.int).length < sizeLine := by simp [eVar, eC, eBin, eTest, eTru, eAnd, eOr, eNot, eNeg, eIf, eTup, eLst, eNew, eCall, eFn, eMe, eMk, eFld, eMeL, eMeL0, aNil, aCons, bAnd, bOr, bNot, bYes, sSeq, sNx, sEx, sRet, sRetN, sIf, sAsg, gSet, sPar, sFldM, sFldAdd, sRaise, Out.bind, Out.st, SO.seq, fin, runB, startW]; omega
    have : cmpS (gSet i) (eTest (eBin gEq (eBin gIx (eVar i) (eC (.int 0))) (eC (.str "end")))) (eBin gIx (eVar i) (eC (.int 1))) ρ ((Row.fin w :: p).map rowf) (acc.map .int) μ = cmpS (gSet i) (eTest (eBin gEq (eBin gIx (eVar i) (eC (.int 0))) (eC (.str "end")))) (eBin gIx (eVar i) (eC (.int 1))) ρ (p.map rowf) ((acc ++ [w]).map .int) μ := by
      conv => lhs; unfold cmpS
      have e0 : gIx (.tup [.str "end", .int w]) (.int 0) μ = .ok (.str "end") μ := by simp [eVar, eC, eBin, eTest, eTru, eAnd, eOr, eNot, eNeg, eIf, eTup, eLst, eNew, eCall, eFn, eMe, eMk, eFld, eMeL, eMeL0, aNil, aCons, bAnd, bOr, bNot, bYes, sSeq, sNx, sEx, sRet, sRetN, sIf, sAsg, gSet, sPar, sFldM, sFldAdd, sRaise, Out.bind, Out.st, SO.seq, fin, runB, startW, gIx, orG, gIxQ, asQ, atI, ixN, Out.els]
      have e1 : gIx (.tup [.str "end", .int w]) (.int 1) μ = .ok (.int w) μ := by simp [eVar, eC, eBin, eTest, eTru, eAnd, eOr, eNot, eNeg, eIf, eTup, eLst, eNew, eCall, eFn, eMe, eMk, eFld, eMeL, eMeL0, aNil, aCons, bAnd, bOr, bNot, bYes, sSeq, sNx, sEx, sRet, sRetN, sIf, sAsg, gSet, sPar, sFldM, sFldAdd, sRaise, Out.bind, Out.st, SO.seq, fin, runB, startW, gIx, orG, gIxQ, asQ, atI, ixN, Out.els]
      have hl' : acc.length < sizeLine := by simpa using hl
      simp [eVar, eC, eBin, eTest, eTru, eAnd, eOr, eNot, eNeg, eIf, eTup, eLst, eNew, eCall, eFn, eMe, eMk, eFld, eMeL, eMeL0, aNil, aCons, bAnd, bOr, bNot, bYes, sSeq, sNx, sEx, sRet, sRetN, sIf, sAsg, gSet, sPar, sFldM, sFldAdd, sRaise, Out.bind, Out.st, SO.seq, fin, runB, startW, h2, hi, e0, e1, eq_end, hl']
    rw [this, ih]
    simp [eVar, eC, eBin, eTest, eTru, eAnd, eOr, eNot, eNeg, eIf, eTup, eLst, eNew, eCall, eFn, eMe, eMk, eFld, eMeL, eMeL0, aNil, aCons, bAnd, bOr, bNot, bYes, sSeq, sNx, sEx, sRet, sRetN, sIf, sAsg, gSet, sPar, sFldM, sFldAdd, sRaise, Out.bind, Out.st, SO.seq, fin, runB, startW, finIds]
end
end K76
namespace K76
open PySem PySem.Spec PyProof.Rows L2 PD
variable [Tbs]
section
variable {A : Adr} {μ : Mu} {ns : List Str} {c : Cells}
theorem ix_tup {l : List W} {i : Nat} {x : W} (h : l[i]? = some x) : gIx (.tup l) (.int (i : Nat)) μ = .ok x μ := by
  have ha : atI l ((i : Nat) : Int) = some x := L2.atI_nat h
  simp [eVar, eC, eBin, eTest, eTru, eAnd, eOr, eNot, eNeg, eIf, eTup, eLst, eNew, eCall, eFn, eMe, eMk, eFld, eMeL, eMeL0, aNil, aCons, bAnd, bOr, bNot, bYes, sSeq, sNx, sEx, sRet, sRetN, sIf, sAsg, gSet, sPar, sFldM, sFldAdd, sRaise, Out.bind, Out.st, SO.seq, fin, runB, startW, gIx, orG, gIxQ, asQ, ha, Out.els]
theorem redo_step (hN : isNames ns) {o0 o2 : Option W} {cn : Nat} {r : Row} (hm : ∀ w n o x, r = .put w n o x → n ∈ ns) (hc : μ[cn]? = some (.dK (dct ns c) false)) :
    s_Yard_mended_1 A [o0, some (.loc cn), o2, some (yrow r)] μ = .nx [o0, some (.loc cn), o2, some (yrow r)] (μ.set cn (.dK (dct ns (redo1 c r)) false)) := by
  cases r with
  | fin w =>
    have e0 : gIx (.tup [.str "end", .int w]) (.int 0) μ = .ok (.str "end") μ := ix_tup (i := 0) rfl
    simp [eVar, eC, eBin, eTest, eTru, eAnd, eOr, eNot, eNeg, eIf, eTup, eLst, eNew, eCall, eFn, eMe, eMk, eFld, eMeL, eMeL0, aNil, aCons, bAnd, bOr, bNot, bYes, sSeq, sNx, sEx, sRet, sRetN, sIf, sAsg, gSet, sPar, sFldM, sFldAdd, sRaise, Out.bind, Out.st, SO.seq, fin, runB, startW, s_Yard_mended_1, yrow, e0, eq_endput, redo1, set_same hc]
  | put w n o x =>
    have h : n ∈ ns := hm w n o x rfl
    have e0 : gIx (.tup [.str "put", .int w, .str n, .str o, .str x]) (.int 0) μ = .ok (.str "put") μ := ix_tup (i := 0) rfl
    have e2 : gIx (.tup [.str "put", .int w, .str n, .str o, .str x]) (.int 2) μ = .ok (.str n) μ := ix_tup (i := 2) rfl
    have e4 : gIx (.tup [.str "put", .int w, .str n, .str o, .str x]) (.int 4) μ = .ok (.str x) μ := ix_tup (i := 4) rfl
    simp [eVar, eC, eBin, eTest, eTru, eAnd, eOr, eNot, eNeg, eIf, eTup, eLst, eNew, eCall, eFn, eMe, eMk, eFld, eMeL, eMeL0, aNil, aCons, bAnd, bOr, bNot, bYes, sSeq, sNx, sEx, sRet, sRetN, sIf, sAsg, gSet, sPar, sFldM, sFldAdd, sRaise, Out.bind, Out.st, SO.seq, fin, runB, startW, s_Yard_mended_1, yrow, e0, e2, e4, eq_put, redo1, gSubK, asK, hc, zdct hN, dct_put h]
theorem undo_step (hN : isNames ns) {o0 : Option W} {cn : Nat} {r : Row} {ids : List Int} (hm : ∀ w n o x, r = .put w n o x → n ∈ ns) (hc : μ[cn]? = some (.dK (dct ns c) false)) :
    s_Yard_mended_0 A [o0, some (.loc cn), some (.lst (ids.map .int)), some (yrow r)] μ = .nx [o0, some (.loc cn), some (.lst (ids.map .int)), some (yrow r)] (μ.set cn (.dK (dct ns (undo1 (fun w => ids.contains w) c r)) false)) := by
  cases r with
  | fin w =>
    have e0 : gIx (.tup [.str "end", .int w]) (.int 0) μ = .ok (.str "end") μ := ix_tup (i := 0) rfl
    simp [eVar, eC, eBin, eTest, eTru, eAnd, eOr, eNot, eNeg, eIf, eTup, eLst, eNew, eCall, eFn, eMe, eMk, eFld, eMeL, eMeL0, aNil, aCons, bAnd, bOr, bNot, bYes, sSeq, sNx, sEx, sRet, sRetN, sIf, sAsg, gSet, sPar, sFldM, sFldAdd, sRaise, Out.bind, Out.st, SO.seq, fin, runB, startW, s_Yard_mended_0, yrow, e0, eq_endput, undo1, set_same hc]
  | put w n o x =>
    have h : n ∈ ns := hm w n o x rfl
    have e0 : gIx (.tup [.str "put", .int w, .str n, .str o, .str x]) (.int 0) μ = .ok (.str "put") μ := ix_tup (i := 0) rfl
    have e1 : gIx (.tup [.str "put", .int w, .str n, .str o, .str x]) (.int 1) μ = .ok (.int w) μ := ix_tup (i := 1) rfl
    have e2 : gIx (.tup [.str "put", .int w, .str n, .str o, .str x]) (.int 2) μ = .ok (.str n) μ := ix_tup (i := 2) rfl
    have e3 : gIx (.tup [.str "put", .int w, .str n, .str o, .str x]) (.int 3) μ = .ok (.str o) μ := ix_tup (i := 3) rfl
    by_cases hw : w ∈ ids
    · have hc2 : ids.contains w = true := List.contains_iff_mem.mpr hw
      have e5 : undo1 (fun w => ids.contains w) c (.put w n o x) = c := by
        show (if ids.contains w = true then c else setC c n o) = c
        rw [if_pos hc2]
      rw [e5, set_same hc]
      simp [eVar, eC, eBin, eTest, eTru, eAnd, eOr, eNot, eNeg, eIf, eTup, eLst, eNew, eCall, eFn, eMe, eMk, eFld, eMeL, eMeL0, aNil, aCons, bAnd, bOr, bNot, bYes, sSeq, sNx, sEx, sRet, sRetN, sIf, sAsg, gSet, sPar, sFldM, sFldAdd, sRaise, Out.bind, Out.st, SO.seq, fin, runB, startW, s_Yard_mended_0, yrow, e0, e1, eq_put, notIn_ints, hw]
    · have hc2 : ¬ ids.contains w = true := fun z => hw (List.contains_iff_mem.mp z)
      have e5 : undo1 (fun w => ids.contains w) c (.put w n o x) = setC c n o := by
        show (if ids.contains w = true then c else setC c n o) = _
        rw [if_neg hc2]
      rw [e5]
      simp [eVar, eC, eBin, eTest, eTru, eAnd, eOr, eNot, eNeg, eIf, eTup, eLst, eNew, eCall, eFn, eMe, eMk, eFld, eMeL, eMeL0, aNil, aCons, bAnd, bOr, bNot, bYes, sSeq, sNx, sEx, sRet, sRetN, sIf, sAsg, gSet, sPar, sFldM, sFldAdd, sRaise, Out.bind, Out.st, SO.seq, fin, runB, startW, s_Yard_mended_0, yrow, e0, e1, e2, e3, eq_put, notIn_ints, hw, gSubK, asK, hc, zdct hN, dct_put h]
theorem mended_ok (hN : isNames ns) {y dn : Nat} {hW sW bW mW : W} {p : List Row} {disk : Cells} (hp : names ns p) (hz : p.length ≤ sizeLine) (hy : μ[y]? = some (.ins A.Yard (yf hW (.loc dn) (.lst (p.map yrow)) sW bW mW))) (hd : μ[dn]? = some (.dK (dct ns disk) false)) :
    f_Yard_mended A [.loc y] μ = .ok (.loc y) ((μ ++ [Cell.dK (dct ns (undo (ends p) p (redo p disk))) false, Cell.dK (dct ns (undo (ends p) p (redo p disk))) false, Cell.dK (dct ns (undo (ends p) p (redo p disk))) false, Cell.lst [], Cell.dK [] false]).set y (.ins A.Yard (yf (.loc (μ.length + 1)) (.loc (μ.length + 2)) (.loc (μ.length + 3)) (.int 0) (.loc (μ.length + 4)) mW))) := by
  have z0 : (0 : Nat) ≤ sizeLine := Nat.zero_le _
  have z2 : 2 ≤ sizeLine := by have := sizeLine_val; omega
  have z3 : 3 ≤ sizeLine := by have := sizeLine_val; omega
  have yl : y < μ.length := (List.getElem?_eq_some_iff.mp hy).1
  generalize hL : μ.length = L at *
  -- the copy of the disk
  have s1 : sAsg (eCall cDictD (aCons (eFld A.Yard "disk" (eVar 0)) aNil)) (gSet 1) [some (.loc y), none, none, none] μ = .nx [some (.loc y), some (.loc L), none, none] (μ ++ [Cell.dK (dct ns disk) false]) := by
    simp [eVar, eC, eBin, eTest, eTru, eAnd, eOr, eNot, eNeg, eIf, eTup, eLst, eNew, eCall, eFn, eMe, eMk, eFld, eMeL, eMeL0, aNil, aCons, bAnd, bOr, bNot, bYes, sSeq, sNx, sEx, sRet, sRetN, sIf, sAsg, gSet, sPar, sFldM, sFldAdd, sRaise, Out.bind, Out.st, SO.seq, fin, runB, startW, yf_disk hy, cDictD, dAt, hd, hL]
  have hy1 : ∀ c : Cells, (μ ++ [Cell.dK (dct ns c) false])[y]? = some (.ins A.Yard (yf hW (.loc dn) (.lst (p.map yrow)) sW bW mW)) := fun c => by rw [List.getElem?_append_left (by omega)]; exact hy
  have hc1 : ∀ c : Cells, (μ ++ [Cell.dK (dct ns c) false])[L]? = some (.dK (dct ns c) false) := fun c => by rw [← hL]; exact cat_at
  have hset : ∀ c c' : Cells, (μ ++ [Cell.dK (dct ns c) false]).set L (.dK (dct ns c') false) = μ ++ [Cell.dK (dct ns c') false] := fun c c' => by rw [← hL]; exact cat_set
  -- what has ended
  have s2 : sAsg (eCmp (iSeq (eFld A.Yard "log" (eVar 0))) [3] (gSet 3) (eTest (eBin gEq (eBin gIx (eVar 3) (eC (.int 0))) (eC (.str "end")))) (eBin gIx (eVar 3) (eC (.int 1)))) (gSet 2) [some (.loc y), some (.loc L), none, none] (μ ++ [Cell.dK (dct ns disk) false]) = .nx [some (.loc y), some (.loc L), some (.lst ((finIds p).map .int)), none] (μ ++ [Cell.dK (dct ns disk) false]) := by
    have e := cmp_fins (μ := μ ++ [Cell.dK (dct ns disk) false]) (rowf := yrow) (ρ := [some (.loc y), some (.loc L), none, none]) (i := 3) (by simp [eVar, eC, eBin, eTest, eTru, eAnd, eOr, eNot, eNeg, eIf, eTup, eLst, eNew, eCall, eFn, eMe, eMk, eFld, eMeL, eMeL0, aNil, aCons, bAnd, bOr, bNot, bYes, sSeq, sNx, sEx, sRet, sRetN, sIf, sAsg, gSet, sPar, sFldM, sFldAdd, sRaise, Out.bind, Out.st, SO.seq, fin, runB, startW]) (fun w n o x => ⟨_, rfl⟩) (fun w => rfl) p [] (by simpa using hz)
    refine asg_set (w := .lst ((finIds p).map .int)) ?_
    have e2 : eCmp (iSeq (eFld A.Yard "log" (eVar 0))) [3] (gSet 3) (eTest (eBin gEq (eBin gIx (eVar 3) (eC (.int 0))) (eC (.str "end")))) (eBin gIx (eVar 3) (eC (.int 1))) [some (.loc y), some (.loc L), none, none] (μ ++ [Cell.dK (dct ns disk) false]) = cmpS (gSet 3) (eTest (eBin gEq (eBin gIx (eVar 3) (eC (.int 0))) (eC (.str "end")))) (eBin gIx (eVar 3) (eC (.int 1))) [some (.loc y), some (.loc L), none, none] (p.map yrow) [] (μ ++ [Cell.dK (dct ns disk) false]) := by
      simp only [eCmp, iSeq, eFld, eVar, List.getElem?_cons_zero, Out.bind, yf_log (hy1 disk), itOf, asQ, asL, Option.map_some, wipeW]
      rfl
    rw [e2]
    exact e
  -- done again
  obtain ⟨ρ3, s3, b3, rfl⟩ := fold_loop (ns := ns) (g := gSet 3) (body := s_Yard_mended_1 A) (f := redo1) (rowf := yrow) (cn := L) (fun ρ => ∃ b3, ρ = [some (.loc y), some (.loc L), some (.lst ((finIds p).map .int)), b3]) p [some (.loc y), some (.loc L), some (.lst ((finIds p).map .int)), none] (μ ++ [Cell.dK (dct ns disk) false]) disk ⟨none, rfl⟩ (hc1 disk) fun r hr c ρ μ ⟨b, e⟩ hc => by
    subst e
    exact ⟨[some (.loc y), some (.loc L), some (.lst ((finIds p).map .int)), some (yrow r)], [some (.loc y), some (.loc L), some (.lst ((finIds p).map .int)), some (yrow r)], rfl, redo_step hN (fun w n o x e => hp w n o x (e ▸ hr)) hc, some (yrow r), rfl⟩
  rw [hset] at s3
  -- undone
  obtain ⟨ρ4, s4, b4, rfl⟩ := fold_loop (ns := ns) (g := gSet 3) (body := s_Yard_mended_0 A) (f := undo1 (fun w => (finIds p).contains w)) (rowf := yrow) (cn := L) (fun ρ => ∃ b3, ρ = [some (.loc y), some (.loc L), some (.lst ((finIds p).map .int)), b3]) p.reverse [some (.loc y), some (.loc L), some (.lst ((finIds p).map .int)), b3] (μ ++ [Cell.dK (dct ns (p.foldl redo1 disk)) false]) (p.foldl redo1 disk) ⟨b3, rfl⟩ (hc1 _) fun r hr c ρ μ ⟨b, e⟩ hc => by
    subst e
    exact ⟨[some (.loc y), some (.loc L), some (.lst ((finIds p).map .int)), some (yrow r)], [some (.loc y), some (.loc L), some (.lst ((finIds p).map .int)), some (yrow r)], rfl, undo_step hN (fun w n o x e => hp w n o x (List.mem_reverse.mp (e ▸ hr))) hc, some (yrow r), rfl⟩
  rw [hset] at s4
  have ec : p.reverse.foldl (undo1 fun w => (finIds p).contains w) (p.foldl redo1 disk) = undo (ends p) p (redo p disk) := rfl
  rw [ec] at s4
  generalize undo (ends p) p (redo p disk) = cf at s4 ⊢
  have s3' : sFor (iSeq (eFld A.Yard "log" (eVar 0))) (gSet 3) (s_Yard_mended_1 A) [some (.loc y), some (.loc L), some (.lst ((finIds p).map .int)), none] (μ ++ [Cell.dK (dct ns disk) false]) = .nx [some (.loc y), some (.loc L), some (.lst ((finIds p).map .int)), b3] (μ ++ [Cell.dK (dct ns (p.foldl redo1 disk)) false]) := by
    rw [← s3]
    simp only [sFor, iSeq, eFld, eVar, List.getElem?_cons_zero, Out.bind, Out.st, yf_log (hy1 disk), itOf, asQ, asL, Option.map_some]
  have s4' : sFor (iSeq (eRevF (eFld A.Yard "log" (eVar 0)))) (gSet 3) (s_Yard_mended_0 A) [some (.loc y), some (.loc L), some (.lst ((finIds p).map .int)), b3] (μ ++ [Cell.dK (dct ns (p.foldl redo1 disk)) false]) = .nx [some (.loc y), some (.loc L), some (.lst ((finIds p).map .int)), b4] (μ ++ [Cell.dK (dct ns cf) false]) := by
    rw [← s4]
    simp only [sFor, iSeq, eRevF, eFld, eVar, List.getElem?_cons_zero, Out.bind, Out.st, yf_log (hy1 _), itOf, asQ, asL, Option.map_some, List.map_reverse]
  -- the attributes
  have hy5 : (μ ++ [Cell.dK (dct ns cf) false, Cell.dK (dct ns cf) false, Cell.dK (dct ns cf) false])[y]? = some (.ins A.Yard (yf hW (.loc dn) (.lst (p.map yrow)) sW bW mW)) := by rw [List.getElem?_append_left (by omega)]; exact hy
  generalize e6 : (μ ++ [Cell.dK (dct ns cf) false, Cell.dK (dct ns cf) false, Cell.dK (dct ns cf) false]).set y (.ins A.Yard (yf (.loc (L + 1)) (.loc dn) (.lst (p.map yrow)) sW bW mW)) = μ6
  have hy6 : μ6[y]? = some (.ins A.Yard (yf (.loc (L + 1)) (.loc dn) (.lst (p.map yrow)) sW bW mW)) := by rw [← e6]; exact List.getElem?_set_self (by simp [eVar, eC, eBin, eTest, eTru, eAnd, eOr, eNot, eNeg, eIf, eTup, eLst, eNew, eCall, eFn, eMe, eMk, eFld, eMeL, eMeL0, aNil, aCons, bAnd, bOr, bNot, bYes, sSeq, sNx, sEx, sRet, sRetN, sIf, sAsg, gSet, sPar, sFldM, sFldAdd, sRaise, Out.bind, Out.st, SO.seq, fin, runB, startW]; omega)
  generalize e7 : μ6.set y (.ins A.Yard (yf (.loc (L + 1)) (.loc (L + 2)) (.lst (p.map yrow)) sW bW mW)) = μ7
  have l7 : μ7.length = L + 3 := by rw [← e7, ← e6]; simp [eVar, eC, eBin, eTest, eTru, eAnd, eOr, eNot, eNeg, eIf, eTup, eLst, eNew, eCall, eFn, eMe, eMk, eFld, eMeL, eMeL0, aNil, aCons, bAnd, bOr, bNot, bYes, sSeq, sNx, sEx, sRet, sRetN, sIf, sAsg, gSet, sPar, sFldM, sFldAdd, sRaise, Out.bind, Out.st, SO.seq, fin, runB, startW, hL]
  have s5 : sAsg (eTup (aCons (eCall cDictD (aCons (eVar 1) aNil)) (aCons (eCall cDictD (aCons (eVar 1) aNil)) aNil))) (gTupM 2 (gsCons (gFldS A.Yard "hand" (eVar 0)) (gsCons (gFldS A.Yard "disk" (eVar 0)) gsNil))) [some (.loc y), some (.loc L), some (.lst ((finIds p).map .int)), b4] (μ ++ [Cell.dK (dct ns cf) false]) = .nx [some (.loc y), some (.loc L), some (.lst ((finIds p).map .int)), b4] μ7 := by
    have d1 : cDictD [.loc L] (μ ++ [Cell.dK (dct ns cf) false]) = .ok (.loc (L + 1)) (μ ++ [Cell.dK (dct ns cf) false, Cell.dK (dct ns cf) false]) := by
      simp [eVar, eC, eBin, eTest, eTru, eAnd, eOr, eNot, eNeg, eIf, eTup, eLst, eNew, eCall, eFn, eMe, eMk, eFld, eMeL, eMeL0, aNil, aCons, bAnd, bOr, bNot, bYes, sSeq, sNx, sEx, sRet, sRetN, sIf, sAsg, gSet, sPar, sFldM, sFldAdd, sRaise, Out.bind, Out.st, SO.seq, fin, runB, startW, cDictD, dAt, hc1 cf, hL]
    have d2 : cDictD [.loc L] (μ ++ [Cell.dK (dct ns cf) false, Cell.dK (dct ns cf) false]) = .ok (.loc (L + 2)) (μ ++ [Cell.dK (dct ns cf) false, Cell.dK (dct ns cf) false, Cell.dK (dct ns cf) false]) := by
      have : (μ ++ [Cell.dK (dct ns cf) false, Cell.dK (dct ns cf) false])[L]? = some (.dK (dct ns cf) false) := by rw [← hL]; exact cat_at
      simp [eVar, eC, eBin, eTest, eTru, eAnd, eOr, eNot, eNeg, eIf, eTup, eLst, eNew, eCall, eFn, eMe, eMk, eFld, eMeL, eMeL0, aNil, aCons, bAnd, bOr, bNot, bYes, sSeq, sNx, sEx, sRet, sRetN, sIf, sAsg, gSet, sPar, sFldM, sFldAdd, sRaise, Out.bind, Out.st, SO.seq, fin, runB, startW, cDictD, dAt, this, hL]
    simp [eVar, eC, eBin, eTest, eTru, eAnd, eOr, eNot, eNeg, eIf, eTup, eLst, eNew, eCall, eFn, eMe, eMk, eFld, eMeL, eMeL0, aNil, aCons, bAnd, bOr, bNot, bYes, sSeq, sNx, sEx, sRet, sRetN, sIf, sAsg, gSet, sPar, sFldM, sFldAdd, sRaise, Out.bind, Out.st, SO.seq, fin, runB, startW, d1, d2, z2, gTupM, gsCons, gsNil, gFldS, set_hand hy5, e6, set_disk hy6, e7]
  have hy7 : μ7[y]? = some (.ins A.Yard (yf (.loc (L + 1)) (.loc (L + 2)) (.lst (p.map yrow)) sW bW mW)) := by
    rw [← e7]; exact List.getElem?_set_self (by rw [← e6]; simp [eVar, eC, eBin, eTest, eTru, eAnd, eOr, eNot, eNeg, eIf, eTup, eLst, eNew, eCall, eFn, eMe, eMk, eFld, eMeL, eMeL0, aNil, aCons, bAnd, bOr, bNot, bYes, sSeq, sNx, sEx, sRet, sRetN, sIf, sAsg, gSet, sPar, sFldM, sFldAdd, sRaise, Out.bind, Out.st, SO.seq, fin, runB, startW]; omega)
  have hy8 : (μ7 ++ [Cell.lst [], Cell.dK [] false])[y]? = some (.ins A.Yard (yf (.loc (L + 1)) (.loc (L + 2)) (.lst (p.map yrow)) sW bW mW)) := by rw [List.getElem?_append_left (by omega)]; exact hy7
  have ly8 : y < (μ7 ++ [Cell.lst [], Cell.dK [] false]).length := by simp [eVar, eC, eBin, eTest, eTru, eAnd, eOr, eNot, eNeg, eIf, eTup, eLst, eNew, eCall, eFn, eMe, eMk, eFld, eMeL, eMeL0, aNil, aCons, bAnd, bOr, bNot, bYes, sSeq, sNx, sEx, sRet, sRetN, sIf, sAsg, gSet, sPar, sFldM, sFldAdd, sRaise, Out.bind, Out.st, SO.seq, fin, runB, startW]; omega
  generalize e9 : (μ7 ++ [Cell.lst [], Cell.dK [] false]).set y (.ins A.Yard (yf (.loc (L + 1)) (.loc (L + 2)) (.loc (L + 3)) sW bW mW)) = μ9
  have hy9 : μ9[y]? = some (.ins A.Yard (yf (.loc (L + 1)) (.loc (L + 2)) (.loc (L + 3)) sW bW mW)) := by rw [← e9]; exact List.getElem?_set_self ly8
  have ly9 : y < μ9.length := (List.getElem?_eq_some_iff.mp hy9).1
  generalize e10 : μ9.set y (.ins A.Yard (yf (.loc (L + 1)) (.loc (L + 2)) (.loc (L + 3)) (.int 0) bW mW)) = μ10
  have hy10 : μ10[y]? = some (.ins A.Yard (yf (.loc (L + 1)) (.loc (L + 2)) (.loc (L + 3)) (.int 0) bW mW)) := by rw [← e10]; exact List.getElem?_set_self ly9
  have s6 : sAsg (eTup (aCons (eNew aNil) (aCons (eC (.int 0)) (aCons eDNew aNil)))) (gTupM 3 (gsCons (gFldS A.Yard "log" (eVar 0)) (gsCons (gFldS A.Yard "safe" (eVar 0)) (gsCons (gFldS A.Yard "begun" (eVar 0)) gsNil)))) [some (.loc y), some (.loc L), some (.lst ((finIds p).map .int)), b4] μ7 = .nx [some (.loc y), some (.loc L), some (.lst ((finIds p).map .int)), b4] (μ10.set y (.ins A.Yard (yf (.loc (L + 1)) (.loc (L + 2)) (.loc (L + 3)) (.int 0) (.loc (L + 4)) mW))) := by
    simp [eVar, eC, eBin, eTest, eTru, eAnd, eOr, eNot, eNeg, eIf, eTup, eLst, eNew, eCall, eFn, eMe, eMk, eFld, eMeL, eMeL0, aNil, aCons, bAnd, bOr, bNot, bYes, sSeq, sNx, sEx, sRet, sRetN, sIf, sAsg, gSet, sPar, sFldM, sFldAdd, sRaise, Out.bind, Out.st, SO.seq, fin, runB, startW, z0, z3, l7, eDNew, gTupM, gsCons, gsNil, gFldS, set_log hy8, e9, set_safe hy9, e10, set_begun hy10]
  have key : s_Yard_mended A [some (.loc y), none, none, none] μ = .rt (.loc y) (μ10.set y (.ins A.Yard (yf (.loc (L + 1)) (.loc (L + 2)) (.loc (L + 3)) (.int 0) (.loc (L + 4)) mW))) :=
    (seq_nx s1).trans ((seq_nx s2).trans ((seq_nx s3').trans ((seq_nx s4').trans ((seq_nx s5).trans ((seq_nx s6).trans rfl)))))
  have efin : μ10.set y (.ins A.Yard (yf (.loc (L + 1)) (.loc (L + 2)) (.loc (L + 3)) (.int 0) (.loc (L + 4)) mW)) = (μ ++ [Cell.dK (dct ns cf) false, Cell.dK (dct ns cf) false, Cell.dK (dct ns cf) false, Cell.lst [], Cell.dK [] false]).set y (.ins A.Yard (yf (.loc (L + 1)) (.loc (L + 2)) (.loc (L + 3)) (.int 0) (.loc (L + 4)) mW)) := by
    rw [← e10, List.set_set, ← e9, List.set_set, ← e7, ← e6, List.set_set, List.set_append_left _ _ (by simp [eVar, eC, eBin, eTest, eTru, eAnd, eOr, eNot, eNeg, eIf, eTup, eLst, eNew, eCall, eFn, eMe, eMk, eFld, eMeL, eMeL0, aNil, aCons, bAnd, bOr, bNot, bYes, sSeq, sNx, sEx, sRet, sRetN, sIf, sAsg, gSet, sPar, sFldM, sFldAdd, sRaise, Out.bind, Out.st, SO.seq, fin, runB, startW]; omega), List.set_set, List.set_append_left _ _ (by omega), List.set_append_left _ _ (by omega), List.append_assoc]
    rfl
  rw [← efin]
  simp [eVar, eC, eBin, eTest, eTru, eAnd, eOr, eNot, eNeg, eIf, eTup, eLst, eNew, eCall, eFn, eMe, eMk, eFld, eMeL, eMeL0, aNil, aCons, bAnd, bOr, bNot, bYes, sSeq, sNx, sEx, sRet, sRetN, sIf, sAsg, gSet, sPar, sFldM, sFldAdd, sRaise, Out.bind, Out.st, SO.seq, fin, runB, startW, f_Yard_mended, N_Yard_mended, key]
end
end K76
namespace K76
open PySem PySem.Spec PyProof.Rows L2 PD
variable [Tbs]
section
variable {A : Adr} {μ : Mu} {ns : List Str} {c : Cells}
theorem pairs_dct : ∀ (ns : List Str), pairsK (ns.map fun n => W.tup [.str n, .str (c n)]) = some (dct ns c)
  | [] => rfl
  | n :: r => by
    show (match asK (.str n), pairsK (r.map fun n => W.tup [.str n, .str (c n)]) with
        | some k, some ps => some ((k, W.str (c n)) :: ps)
        | _, _ => none) = _
    rw [pairs_dct r]; rfl
/-- dict([(k, d[k]) for k in d]) -/
theorem copy_comp (hN : isNames ns) {ρ : PD.Env} {i j fn : Nat} (hi : ρ[i]? = some (some (.loc fn))) (hj : j < ρ.length) (hij : i ≠ j) (hf : μ[fn]? = some (.dK (dct ns c) false)) :
    eCall cDictP (aCons (eCmpK (eVar i) [j] (gSet j) bYes (eTup (aCons (eVar j) (aCons (eBin gIxK (eVar i) (eVar j)) aNil)))) aNil) ρ μ = .ok (.loc μ.length) (μ ++ [.dK (dct ns c) false]) := by
  have z2 : 2 ≤ sizeLine := by have := sizeLine_val; omega
  have fl : fn < μ.length := (List.getElem?_eq_some_iff.mp hf).1
  generalize e1 : μ.set fn (.dK (dct ns c) true) = μ1
  have hf1 : μ1[fn]? = some (.dK (dct ns c) true) := by rw [← e1]; exact List.getElem?_set_self fl
  have hu : unM fn μ1 = some μ := by
    unfold unM
    rw [hf1]
    show some (μ1.set fn (.dK (dct ns c) false)) = _
    rw [← e1, set_back hf]
  have e2 : cmpS (gSet j) bYes (eTup (aCons (eVar j) (aCons (eBin gIxK (eVar i) (eVar j)) aNil))) (wipeW ρ [j]) (dKeys (dct ns c)) [] μ1 = .ok (.lst (ns.map fun n => W.tup [.str n, .str (c n)])) μ1 := by
    rw [cmpS_map (φ := fun w => match w with | .str n => W.tup [.str n, .str (c n)] | _ => .non) _ _ (fun x hx => ?_) ?_]
    · rw [dct_keys, List.map_map]; rfl
    · rw [dct_keys]; have := hN.small; have := sizeLine_val; simp [eVar, eC, eBin, eTest, eTru, eAnd, eOr, eNot, eNeg, eIf, eTup, eLst, eNew, eCall, eFn, eMe, eMk, eFld, eMeL, eMeL0, aNil, aCons, bAnd, bOr, bNot, bYes, sSeq, sNx, sEx, sRet, sRetN, sIf, sAsg, gSet, sPar, sFldM, sFldAdd, sRaise, Out.bind, Out.st, SO.seq, fin, runB, startW]; omega
    · rw [dct_keys] at hx
      obtain ⟨n, hn, rfl⟩ := List.mem_map.mp hx
      have g1 : ((wipeW ρ [j]).set j (some (.str n)))[j]? = some (some (.str n)) := List.getElem?_set_self (by simp [eVar, eC, eBin, eTest, eTru, eAnd, eOr, eNot, eNeg, eIf, eTup, eLst, eNew, eCall, eFn, eMe, eMk, eFld, eMeL, eMeL0, aNil, aCons, bAnd, bOr, bNot, bYes, sSeq, sNx, sEx, sRet, sRetN, sIf, sAsg, gSet, sPar, sFldM, sFldAdd, sRaise, Out.bind, Out.st, SO.seq, fin, runB, startW, wipeW, hj])
      have g2 : ((wipeW ρ [j]).set j (some (.str n)))[i]? = some (some (.loc fn)) := by
        rw [List.getElem?_set_ne (fun e => hij e.symm)]
        show (ρ.set j none)[i]? = _
        rw [List.getElem?_set_ne (fun e => hij e.symm)]; exact hi
      refine ⟨(wipeW ρ [j]).set j (some (.str n)), rfl, rfl, ?_⟩
      simp only [eTup, aCons, aNil, eBin, eVar, g1, g2, Out.bind, gIxK, dAt, hf1, asK, dct_val hn]
      simp [eVar, eC, eBin, eTest, eTru, eAnd, eOr, eNot, eNeg, eIf, eTup, eLst, eNew, eCall, eFn, eMe, eMk, eFld, eMeL, eMeL0, aNil, aCons, bAnd, bOr, bNot, bYes, sSeq, sNx, sEx, sRet, sRetN, sIf, sAsg, gSet, sPar, sFldM, sFldAdd, sRaise, Out.bind, Out.st, SO.seq, fin, runB, startW, z2]
  have e3 : eCmpK (eVar i) [j] (gSet j) bYes (eTup (aCons (eVar j) (aCons (eBin gIxK (eVar i) (eVar j)) aNil))) ρ μ = .ok (.lst (ns.map fun n => W.tup [.str n, .str (c n)])) μ := by
    unfold eCmpK
    simp only [eVar, hi, Out.bind, hf, e1]
    have : (Out.unl fn (cmpS (gSet j) bYes (eTup (aCons (eVar j) (aCons (eBin gIxK (eVar i) (eVar j)) aNil))) (wipeW ρ [j]) (dKeys (dct ns c)) [] μ1)) = .ok (.lst (ns.map fun n => W.tup [.str n, .str (c n)])) μ := by
      rw [e2]
      show (match unM fn μ1 with | some μ2 => Out.ok _ μ2 | none => .no) = _
      rw [hu]
    exact this
  rw [call1 e3]
  simp only [cDictP, asL, pairs_dct, merge_dct hN]
theorem beh_step (hN : isNames ns) {o0 o1 o5 : Option W} {cn : Nat} {r : Row} {ids : List Int} (hm : ∀ w n o x, r = .put w n o x → n ∈ ns) (hc : μ[cn]? = some (.dK (dct ns c) false)) :
    s_law_behind_0 A [o0, o1, some (.loc cn), some (.lst (ids.map .int)), some (lrow r), o5] μ = .nx [o0, o1, some (.loc cn), some (.lst (ids.map .int)), some (lrow r), o5] (μ.set cn (.dK (dct ns (beh1 (fun w => ids.contains w) c r)) false)) := by
  cases r with
  | fin w =>
    have e0 : gIx (.tup [.str "end", .int w]) (.int 0) μ = .ok (.str "end") μ := ix_tup (i := 0) rfl
    simp [eVar, eC, eBin, eTest, eTru, eAnd, eOr, eNot, eNeg, eIf, eTup, eLst, eNew, eCall, eFn, eMe, eMk, eFld, eMeL, eMeL0, aNil, aCons, bAnd, bOr, bNot, bYes, sSeq, sNx, sEx, sRet, sRetN, sIf, sAsg, gSet, sPar, sFldM, sFldAdd, sRaise, Out.bind, Out.st, SO.seq, fin, runB, startW, s_law_behind_0, lrow, e0, eq_endput, beh1, set_same hc]
  | put w n o x =>
    have h : n ∈ ns := hm w n o x rfl
    have e0 : gIx (.tup [.str "put", .int w, .str n, .str x]) (.int 0) μ = .ok (.str "put") μ := ix_tup (i := 0) rfl
    have e1 : gIx (.tup [.str "put", .int w, .str n, .str x]) (.int 1) μ = .ok (.int w) μ := ix_tup (i := 1) rfl
    have e2 : gIx (.tup [.str "put", .int w, .str n, .str x]) (.int 2) μ = .ok (.str n) μ := ix_tup (i := 2) rfl
    have e3 : gIx (.tup [.str "put", .int w, .str n, .str x]) (.int 3) μ = .ok (.str x) μ := ix_tup (i := 3) rfl
    by_cases hw : w ∈ ids
    · have hc2 : ids.contains w = true := List.contains_iff_mem.mpr hw
      have e5 : beh1 (fun w => ids.contains w) c (.put w n o x) = setC c n x := by
        show (if ids.contains w = true then setC c n x else c) = _
        rw [if_pos hc2]
      rw [e5]
      simp [eVar, eC, eBin, eTest, eTru, eAnd, eOr, eNot, eNeg, eIf, eTup, eLst, eNew, eCall, eFn, eMe, eMk, eFld, eMeL, eMeL0, aNil, aCons, bAnd, bOr, bNot, bYes, sSeq, sNx, sEx, sRet, sRetN, sIf, sAsg, gSet, sPar, sFldM, sFldAdd, sRaise, Out.bind, Out.st, SO.seq, fin, runB, startW, s_law_behind_0, lrow, e0, e1, e2, e3, eq_put, in_ints, hw, gSubK, asK, hc, zdct hN, dct_put h]
    · have hc2 : ¬ ids.contains w = true := fun z => hw (List.contains_iff_mem.mp z)
      have e5 : beh1 (fun w => ids.contains w) c (.put w n o x) = c := by
        show (if ids.contains w = true then setC c n x else c) = _
        rw [if_neg hc2]
      rw [e5, set_same hc]
      simp [eVar, eC, eBin, eTest, eTru, eAnd, eOr, eNot, eNeg, eIf, eTup, eLst, eNew, eCall, eFn, eMe, eMk, eFld, eMeL, eMeL0, aNil, aCons, bAnd, bOr, bNot, bYes, sSeq, sNx, sEx, sRet, sRetN, sIf, sAsg, gSet, sPar, sFldM, sFldAdd, sRaise, Out.bind, Out.st, SO.seq, fin, runB, startW, s_law_behind_0, lrow, e0, e1, eq_put, in_ints, hw]
theorem behind_ok (hN : isNames ns) {fn : Nat} {p : List Row} (hp : names ns p) (hz : p.length ≤ sizeLine) (hf : μ[fn]? = some (.dK (dct ns c) false)) :
    f_law_behind A [.loc fn, .lst (p.map lrow)] μ = .ok (.loc μ.length) (μ ++ [.dK (dct ns (behind (ends p) p c)) false]) := by
  generalize hL : μ.length = L
  have hc1 : ∀ c : Cells, (μ ++ [Cell.dK (dct ns c) false])[L]? = some (.dK (dct ns c) false) := fun c => by rw [← hL]; exact cat_at
  have hset : ∀ c c' : Cells, (μ ++ [Cell.dK (dct ns c) false]).set L (.dK (dct ns c') false) = μ ++ [Cell.dK (dct ns c') false] := fun c c' => by rw [← hL]; exact cat_set
  have e1 := copy_comp hN (ρ := [some (.loc fn), some (.lst (p.map lrow)), none, none, none, none]) (i := 0) (j := 5) rfl (by simp [eVar, eC, eBin, eTest, eTru, eAnd, eOr, eNot, eNeg, eIf, eTup, eLst, eNew, eCall, eFn, eMe, eMk, eFld, eMeL, eMeL0, aNil, aCons, bAnd, bOr, bNot, bYes, sSeq, sNx, sEx, sRet, sRetN, sIf, sAsg, gSet, sPar, sFldM, sFldAdd, sRaise, Out.bind, Out.st, SO.seq, fin, runB, startW]) (by decide) hf
  rw [hL] at e1
  have e2 : eCmp (iSeq (eVar 1)) [4] (gSet 4) (eTest (eBin gEq (eBin gIx (eVar 4) (eC (.int 0))) (eC (.str "end")))) (eBin gIx (eVar 4) (eC (.int 1))) [some (.loc fn), some (.lst (p.map lrow)), none, none, none, none] (μ ++ [.dK (dct ns c) false]) = .ok (.lst ((finIds p).map .int)) (μ ++ [.dK (dct ns c) false]) := by
    have e := cmp_fins (μ := μ ++ [.dK (dct ns c) false]) (rowf := lrow) (ρ := [some (.loc fn), some (.lst (p.map lrow)), none, none, none, none]) (i := 4) (by simp [eVar, eC, eBin, eTest, eTru, eAnd, eOr, eNot, eNeg, eIf, eTup, eLst, eNew, eCall, eFn, eMe, eMk, eFld, eMeL, eMeL0, aNil, aCons, bAnd, bOr, bNot, bYes, sSeq, sNx, sEx, sRet, sRetN, sIf, sAsg, gSet, sPar, sFldM, sFldAdd, sRaise, Out.bind, Out.st, SO.seq, fin, runB, startW]) (fun w n o x => ⟨_, rfl⟩) (fun w => rfl) p [] (by simpa using hz)
    have : eCmp (iSeq (eVar 1)) [4] (gSet 4) (eTest (eBin gEq (eBin gIx (eVar 4) (eC (.int 0))) (eC (.str "end")))) (eBin gIx (eVar 4) (eC (.int 1))) [some (.loc fn), some (.lst (p.map lrow)), none, none, none, none] (μ ++ [.dK (dct ns c) false]) = cmpS (gSet 4) (eTest (eBin gEq (eBin gIx (eVar 4) (eC (.int 0))) (eC (.str "end")))) (eBin gIx (eVar 4) (eC (.int 1))) [some (.loc fn), some (.lst (p.map lrow)), none, none, none, none] (p.map lrow) [] (μ ++ [.dK (dct ns c) false]) := by
      simp only [eCmp, iSeq, eVar, List.getElem?_cons_zero, List.getElem?_cons_succ, Out.bind, itOf, asQ, asL, Option.map_some, wipeW]
      rfl
    rw [this]
    exact e
  have s1 : sPar 2 3 (aCons (eCall cDictP (aCons (eCmpK (eVar 0) [5] (gSet 5) bYes (eTup (aCons (eVar 5) (aCons (eBin gIxK (eVar 0) (eVar 5)) aNil)))) aNil)) (aCons (eCmp (iSeq (eVar 1)) [4] (gSet 4) (eTest (eBin gEq (eBin gIx (eVar 4) (eC (.int 0))) (eC (.str "end")))) (eBin gIx (eVar 4) (eC (.int 1)))) aNil)) [some (.loc fn), some (.lst (p.map lrow)), none, none, none, none] μ = .nx [some (.loc fn), some (.lst (p.map lrow)), some (.loc L), some (.lst ((finIds p).map .int)), none, none] (μ ++ [.dK (dct ns c) false]) := by
    simp only [sPar, aCons, aNil] at e1 ⊢
    simp only [e1, e2, Out.bind, Out.st]
    rfl
  obtain ⟨ρ3, s3, b3, rfl⟩ := fold_loop (ns := ns) (g := gSet 4) (body := s_law_behind_0 A) (f := beh1 (fun w => (finIds p).contains w)) (rowf := lrow) (cn := L) (fun ρ => ∃ b3, ρ = [some (.loc fn), some (.lst (p.map lrow)), some (.loc L), some (.lst ((finIds p).map .int)), b3, none]) p [some (.loc fn), some (.lst (p.map lrow)), some (.loc L), some (.lst ((finIds p).map .int)), none, none] (μ ++ [.dK (dct ns c) false]) c ⟨none, rfl⟩ (hc1 c) fun r hr c ρ μ ⟨b, e⟩ hc => by
    subst e
    exact ⟨[some (.loc fn), some (.lst (p.map lrow)), some (.loc L), some (.lst ((finIds p).map .int)), some (lrow r), none], [some (.loc fn), some (.lst (p.map lrow)), some (.loc L), some (.lst ((finIds p).map .int)), some (lrow r), none], rfl, beh_step hN (fun w n o x e => hp w n o x (e ▸ hr)) hc, some (lrow r), rfl⟩
  rw [hset] at s3
  have ec : p.foldl (beh1 fun w => (finIds p).contains w) c = behind (ends p) p c := rfl
  rw [ec] at s3
  have s3' : sFor (iSeq (eVar 1)) (gSet 4) (s_law_behind_0 A) [some (.loc fn), some (.lst (p.map lrow)), some (.loc L), some (.lst ((finIds p).map .int)), none, none] (μ ++ [.dK (dct ns c) false]) = .nx [some (.loc fn), some (.lst (p.map lrow)), some (.loc L), some (.lst ((finIds p).map .int)), b3, none] (μ ++ [.dK (dct ns (behind (ends p) p c)) false]) := by
    rw [← s3]
    simp only [sFor, iSeq, eVar, List.getElem?_cons_zero, List.getElem?_cons_succ, Out.bind, Out.st, itOf, asQ, asL, Option.map_some]
  have key : s_law_behind A [some (.loc fn), some (.lst (p.map lrow)), none, none, none, none] μ = .rt (.loc L) (μ ++ [.dK (dct ns (behind (ends p) p c)) false]) :=
    (seq_nx s1).trans ((seq_nx s3').trans rfl)
  simp [eVar, eC, eBin, eTest, eTru, eAnd, eOr, eNot, eNeg, eIf, eTup, eLst, eNew, eCall, eFn, eMe, eMk, eFld, eMeL, eMeL0, aNil, aCons, bAnd, bOr, bNot, bYes, sSeq, sNx, sEx, sRet, sRetN, sIf, sAsg, gSet, sPar, sFldM, sFldAdd, sRaise, Out.bind, Out.st, SO.seq, fin, runB, startW, f_law_behind, N_law_behind, key]
/-! ### a crash -/
theorem crashed_ok (hN : isNames ns) {y hn dn ln k safe : Nat} {bW : W} {m : Int} {log : List Row} {disk : Cells} (hp : names ns log) (hz : log.length ≤ sizeLine) (hk : safe + k ≤ log.length)
    (hy : μ[y]? = some (.ins A.Yard (yf (.loc hn) (.loc dn) (.loc ln) (.int (safe : Nat)) bW (.int m)))) (hh : μ[hn]? = some (.dK (dct ns c) false)) (hd : μ[dn]? = some (.dK (dct ns disk) false)) (hl : μ[ln]? = some (.lst (log.map yrow))) :
    ∃ cf : Cells, cf = undo (ends (log.take (safe + k))) (log.take (safe + k)) (redo (log.take (safe + k)) disk) ∧
    f_Yard_crashed A [.loc y, .int (k : Nat)] μ = .ok (.loc μ.length) (μ ++ [.ins A.Yard (yf (.loc (μ.length + 7)) (.loc (μ.length + 8)) (.loc (μ.length + 9)) (.int 0) (.loc (μ.length + 10)) (.int m)), .dK (dct ns fun _ => "") false, .dK (dct ns fun _ => "") false, .lst [], .dK [] false, .dK (dct ns disk) false, .dK (dct ns cf) false, .dK (dct ns cf) false, .dK (dct ns cf) false, .lst [], .dK [] false]) := by
  refine ⟨_, rfl, ?_⟩
  generalize hL : μ.length = L
  have z0 : (0 : Nat) ≤ sizeLine := Nat.zero_le _
  have yl : y < L := by rw [← hL]; exact (List.getElem?_eq_some_iff.mp hy).1
  have lw : (log.map yrow).length = log.length := List.length_map _
  have hw := waiting_ok (A := A) hy hl
  rw [lw] at hw
  have hnum : f_is_number A [.int (k : Nat), .int 0, .int ((log.length : Int) - (safe : Nat))] μ = .ok (.bl true) μ := by
    rw [number_ok, decide_eq_true (show (0 : Int) ≤ (k : Nat) by omega), decide_eq_true (show ((k : Nat) : Int) ≤ (log.length : Int) - (safe : Nat) by omega)]; rfl
  generalize ep : log.take (safe + k) = p
  have hpp : names ns p := fun w n o x hm => hp w n o x (by rw [← ep] at hm; exact List.mem_of_mem_take hm)
  have hpz : p.length ≤ sizeLine := by rw [← ep, List.length_take]; omega
  have s1 : sIf (bNot (eTru (eFn 3 (f_is_number A) (aCons (eVar 1) (aCons (eC (.int 0)) (aCons (eMe A.Yard "waiting" 1 (f_Yard_waiting A) (eVar 0) aNil) aNil)))))) (sRaise A.OutOfRange) sNx [some (.loc y), some (.int (k : Nat)), none] μ = .nx [some (.loc y), some (.int (k : Nat)), none] μ := by
    simp [eVar, eC, eBin, eTest, eTru, eAnd, eOr, eNot, eNeg, eIf, eTup, eLst, eNew, eCall, eFn, eMe, eMk, eFld, eMeL, eMeL0, aNil, aCons, bAnd, bOr, bNot, bYes, sSeq, sNx, sEx, sRet, sRetN, sIf, sAsg, gSet, sPar, sFldM, sFldAdd, sRaise, Out.bind, Out.st, SO.seq, fin, runB, startW, yf_no hy m_wait, hw, hnum, truW]
  generalize e1 : (μ ++ [Cell.ins A.Yard (yf (.loc (L + 1)) (.loc (L + 2)) (.loc (L + 3)) (.int 0) (.loc (L + 4)) (.int 0)), Cell.dK (dct ns fun _ => "") false, Cell.dK (dct ns fun _ => "") false, Cell.lst [], Cell.dK [] false]) = μ1
  have s2 : sAsg (eMk A.Yard 2 (f_Yard_init A) (aCons (eCall cTuple (aCons (eCall cSortK (aCons (eFld A.Yard "hand" (eVar 0)) aNil)) aNil)) aNil)) (gSet 2) [some (.loc y), some (.int (k : Nat)), none] μ = .nx [some (.loc y), some (.int (k : Nat)), some (.loc L)] μ1 := by
    have hi := init_ok (A := A) (μ := μ) hN
    rw [hL, e1] at hi
    have ht : cTuple [.lst (ns.map .str)] μ = .ok (.tup (ns.map .str)) μ := rfl
    simp [eVar, eC, eBin, eTest, eTru, eAnd, eOr, eNot, eNeg, eIf, eTup, eLst, eNew, eCall, eFn, eMe, eMk, eFld, eMeL, eMeL0, aNil, aCons, bAnd, bOr, bNot, bYes, sSeq, sNx, sEx, sRet, sRetN, sIf, sAsg, gSet, sPar, sFldM, sFldAdd, sRaise, Out.bind, Out.st, SO.seq, fin, runB, startW, yf_hand hy, sortK_dct hN hh, ht, hL, hi]
  have o1 : ∀ i, i < L → μ1[i]? = μ[i]? := fun i hi => by rw [← e1, List.getElem?_append_left (by omega)]
  have hy1 := (o1 y yl).trans hy
  have hd1 := (o1 dn (by rw [← hL]; exact (List.getElem?_eq_some_iff.mp hd).1)).trans hd
  have hl1 := (o1 ln (by rw [← hL]; exact (List.getElem?_eq_some_iff.mp hl).1)).trans hl
  have l1 : μ1.length = L + 5 := by rw [← e1]; simp [eVar, eC, eBin, eTest, eTru, eAnd, eOr, eNot, eNeg, eIf, eTup, eLst, eNew, eCall, eFn, eMe, eMk, eFld, eMeL, eMeL0, aNil, aCons, bAnd, bOr, bNot, bYes, sSeq, sNx, sEx, sRet, sRetN, sIf, sAsg, gSet, sPar, sFldM, sFldAdd, sRaise, Out.bind, Out.st, SO.seq, fin, runB, startW, hL]
  have hf1 : μ1[L]? = some (.ins A.Yard (yf (.loc (L + 1)) (.loc (L + 2)) (.loc (L + 3)) (.int 0) (.loc (L + 4)) (.int 0))) := by rw [← e1, ← hL]; exact cat_at
  -- the new yard's attributes
  let tl (h : List (Str × W)) : Mu := [Cell.ins A.Yard h, Cell.dK (dct ns fun _ => "") false, Cell.dK (dct ns fun _ => "") false, Cell.lst [], Cell.dK [] false, Cell.dK (dct ns disk) false]
  have at_ : ∀ h, (μ ++ tl h)[L]? = some (.ins A.Yard h) := fun h => by rw [← hL]; exact cat_at
  have set_ : ∀ h h', (μ ++ tl h).set L (.ins A.Yard h') = μ ++ tl h' := fun h h' => by rw [← hL]; exact cat_set
  have old : ∀ h i, i < L → (μ ++ tl h)[i]? = μ[i]? := fun h i hi => List.getElem?_append_left (by omega)
  have e2 : μ1 ++ [Cell.dK (dct ns disk) false] = μ ++ tl (yf (.loc (L + 1)) (.loc (L + 2)) (.loc (L + 3)) (.int 0) (.loc (L + 4)) (.int 0)) := by rw [← e1]; simp [eVar, eC, eBin, eTest, eTru, eAnd, eOr, eNot, eNeg, eIf, eTup, eLst, eNew, eCall, eFn, eMe, eMk, eFld, eMeL, eMeL0, aNil, aCons, bAnd, bOr, bNot, bYes, sSeq, sNx, sEx, sRet, sRetN, sIf, sAsg, gSet, sPar, sFldM, sFldAdd, sRaise, Out.bind, Out.st, SO.seq, fin, runB, startW, tl]
  have s3 : sFldM A.Yard "disk" (eCall cDictD (aCons (eFld A.Yard "disk" (eVar 0)) aNil)) (eVar 2) [some (.loc y), some (.int (k : Nat)), some (.loc L)] μ1 = .nx [some (.loc y), some (.int (k : Nat)), some (.loc L)] (μ ++ tl (yf (.loc (L + 1)) (.loc (L + 5)) (.loc (L + 3)) (.int 0) (.loc (L + 4)) (.int 0))) := by
    have d1 : cDictD [.loc dn] μ1 = .ok (.loc (L + 5)) (μ1 ++ [.dK (dct ns disk) false]) := by simp [eVar, eC, eBin, eTest, eTru, eAnd, eOr, eNot, eNeg, eIf, eTup, eLst, eNew, eCall, eFn, eMe, eMk, eFld, eMeL, eMeL0, aNil, aCons, bAnd, bOr, bNot, bYes, sSeq, sNx, sEx, sRet, sRetN, sIf, sAsg, gSet, sPar, sFldM, sFldAdd, sRaise, Out.bind, Out.st, SO.seq, fin, runB, startW, cDictD, dAt, hd1, l1]
    simp only [sFldM, eCall, aCons, aNil, eFld, eVar, List.getElem?_cons_zero, List.getElem?_cons_succ, Out.bind, Out.st, yf_disk hy1, d1, e2, set_disk (at_ _), set_]
  have s4 : sFldM A.Yard "log" (eCut (eFld A.Yard "log" (eVar 0)) oNone (oSome (eBin gAdd (eFld A.Yard "safe" (eVar 0)) (eVar 1)))) (eVar 2) [some (.loc y), some (.int (k : Nat)), some (.loc L)] (μ ++ tl (yf (.loc (L + 1)) (.loc (L + 5)) (.loc (L + 3)) (.int 0) (.loc (L + 4)) (.int 0))) = .nx [some (.loc y), some (.int (k : Nat)), some (.loc L)] (μ ++ tl (yf (.loc (L + 1)) (.loc (L + 5)) (.lst (p.map yrow)) (.int 0) (.loc (L + 4)) (.int 0))) := by
    have hy2 := (old (yf (.loc (L + 1)) (.loc (L + 5)) (.loc (L + 3)) (.int 0) (.loc (L + 4)) (.int 0)) y yl).trans hy
    have hl2 := (old (yf (.loc (L + 1)) (.loc (L + 5)) (.loc (L + 3)) (.int 0) (.loc (L + 4)) (.int 0)) ln (by rw [← hL]; exact (List.getElem?_eq_some_iff.mp hl).1)).trans hl
    have ga : gAdd (.int (safe : Nat)) (.int (k : Nat)) (μ ++ tl (yf (.loc (L + 1)) (.loc (L + 5)) (.loc (L + 3)) (.int 0) (.loc (L + 4)) (.int 0))) = .ok (.int ((safe + k : Nat) : Int)) (μ ++ tl (yf (.loc (L + 1)) (.loc (L + 5)) (.loc (L + 3)) (.int 0) (.loc (L + 4)) (.int 0))) := by
      simp [eVar, eC, eBin, eTest, eTru, eAnd, eOr, eNot, eNeg, eIf, eTup, eLst, eNew, eCall, eFn, eMe, eMk, eFld, eMeL, eMeL0, aNil, aCons, bAnd, bOr, bNot, bYes, sSeq, sNx, sEx, sRet, sRetN, sIf, sAsg, gSet, sPar, sFldM, sFldAdd, sRaise, Out.bind, Out.st, SO.seq, fin, runB, startW, gAdd, orG, gAddI, gI, Out.els]
    have ec : cutW (log.map yrow) none (some ((safe + k : Nat) : Int)) = p.map yrow := by rw [cutHead, ← List.map_take, ep]
    simp only [sFldM, eCut, oNone, oSome, eBin, eFld, eVar, List.getElem?_cons_zero, List.getElem?_cons_succ, Out.bind, Out.st, yf_log hy2, yf_safe hy2, ga, gCut, asL, hl2, ec, set_log (at_ _), set_]
  have s5 : sFldM A.Yard "safe" (eCall cLen (aCons (eFld A.Yard "log" (eVar 2)) aNil)) (eVar 2) [some (.loc y), some (.int (k : Nat)), some (.loc L)] (μ ++ tl (yf (.loc (L + 1)) (.loc (L + 5)) (.lst (p.map yrow)) (.int 0) (.loc (L + 4)) (.int 0))) = .nx [some (.loc y), some (.int (k : Nat)), some (.loc L)] (μ ++ tl (yf (.loc (L + 1)) (.loc (L + 5)) (.lst (p.map yrow)) (.int (p.map yrow).length) (.loc (L + 4)) (.int 0))) := by
    simp only [sFldM, eCall, aCons, aNil, eFld, eVar, List.getElem?_cons_zero, List.getElem?_cons_succ, Out.bind, Out.st, yf_log (at_ _), cLen_lst, set_safe (at_ _), set_]
  have s6 : sFldM A.Yard "many" (eFld A.Yard "many" (eVar 0)) (eVar 2) [some (.loc y), some (.int (k : Nat)), some (.loc L)] (μ ++ tl (yf (.loc (L + 1)) (.loc (L + 5)) (.lst (p.map yrow)) (.int (p.map yrow).length) (.loc (L + 4)) (.int 0))) = .nx [some (.loc y), some (.int (k : Nat)), some (.loc L)] (μ ++ tl (yf (.loc (L + 1)) (.loc (L + 5)) (.lst (p.map yrow)) (.int (p.map yrow).length) (.loc (L + 4)) (.int m))) := by
    have hy2 := (old (yf (.loc (L + 1)) (.loc (L + 5)) (.lst (p.map yrow)) (.int (p.map yrow).length) (.loc (L + 4)) (.int 0)) y yl).trans hy
    simp only [sFldM, eFld, eVar, List.getElem?_cons_zero, List.getElem?_cons_succ, Out.bind, Out.st, yf_many hy2, set_many (at_ _), set_]
  have hd7 : (μ ++ tl (yf (.loc (L + 1)) (.loc (L + 5)) (.lst (p.map yrow)) (.int (p.map yrow).length) (.loc (L + 4)) (.int m)))[L + 5]? = some (.dK (dct ns disk) false) := by
    rw [List.getElem?_append_right (by omega), hL, Nat.add_sub_cancel_left]; rfl
  have me := mended_ok (A := A) hN hpp hpz (at_ _) hd7
  have l7 : (μ ++ tl (yf (.loc (L + 1)) (.loc (L + 5)) (.lst (p.map yrow)) (.int (p.map yrow).length) (.loc (L + 4)) (.int m))).length = L + 6 := by simp [eVar, eC, eBin, eTest, eTru, eAnd, eOr, eNot, eNeg, eIf, eTup, eLst, eNew, eCall, eFn, eMe, eMk, eFld, eMeL, eMeL0, aNil, aCons, bAnd, bOr, bNot, bYes, sSeq, sNx, sEx, sRet, sRetN, sIf, sAsg, gSet, sPar, sFldM, sFldAdd, sRaise, Out.bind, Out.st, SO.seq, fin, runB, startW, hL, tl]
  rw [l7] at me
  have efin : ((μ ++ tl (yf (.loc (L + 1)) (.loc (L + 5)) (.lst (p.map yrow)) (.int (p.map yrow).length) (.loc (L + 4)) (.int m))) ++ [Cell.dK (dct ns (undo (ends p) p (redo p disk))) false, Cell.dK (dct ns (undo (ends p) p (redo p disk))) false, Cell.dK (dct ns (undo (ends p) p (redo p disk))) false, Cell.lst [], Cell.dK [] false]).set L (.ins A.Yard (yf (.loc (L + 6 + 1)) (.loc (L + 6 + 2)) (.loc (L + 6 + 3)) (.int 0) (.loc (L + 6 + 4)) (.int m))) =
      μ ++ [.ins A.Yard (yf (.loc (L + 7)) (.loc (L + 8)) (.loc (L + 9)) (.int 0) (.loc (L + 10)) (.int m)), .dK (dct ns fun _ => "") false, .dK (dct ns fun _ => "") false, .lst [], .dK [] false, .dK (dct ns disk) false, .dK (dct ns (undo (ends p) p (redo p disk))) false, .dK (dct ns (undo (ends p) p (redo p disk))) false, .dK (dct ns (undo (ends p) p (redo p disk))) false, .lst [], .dK [] false] := by
    rw [List.append_assoc, ← hL]
    exact cat_set
  rw [efin] at me
  have mi : insOf A.Yard "mended" (μ ++ tl (yf (.loc (L + 1)) (.loc (L + 5)) (.lst (p.map yrow)) (.int (p.map yrow).length) (.loc (L + 4)) (.int m))) (.loc L) = true := yf_no (at_ _) m_mend
  have key : s_Yard_crashed A [some (.loc y), some (.int (k : Nat)), none] μ = .rt (.loc L) (μ ++ [.ins A.Yard (yf (.loc (L + 7)) (.loc (L + 8)) (.loc (L + 9)) (.int 0) (.loc (L + 10)) (.int m)), .dK (dct ns fun _ => "") false, .dK (dct ns fun _ => "") false, .lst [], .dK [] false, .dK (dct ns disk) false, .dK (dct ns (undo (ends p) p (redo p disk))) false, .dK (dct ns (undo (ends p) p (redo p disk))) false, .dK (dct ns (undo (ends p) p (redo p disk))) false, .lst [], .dK [] false]) := by
    refine (seq_nx s1).trans ((seq_nx s2).trans ((seq_nx s3).trans ((seq_nx s4).trans ((seq_nx s5).trans ((seq_nx s6).trans ?_)))))
    refine ret_of ?_
    simp only [eMe, eVar, List.getElem?_cons_zero, List.getElem?_cons_succ, Out.bind, mi, if_true, aNil, List.length_nil, me]
  simp [eVar, eC, eBin, eTest, eTru, eAnd, eOr, eNot, eNeg, eIf, eTup, eLst, eNew, eCall, eFn, eMe, eMk, eFld, eMeL, eMeL0, aNil, aCons, bAnd, bOr, bNot, bYes, sSeq, sNx, sEx, sRet, sRetN, sIf, sAsg, gSet, sPar, sFldM, sFldAdd, sRaise, Out.bind, Out.st, SO.seq, fin, runB, startW, f_Yard_crashed, N_Yard_crashed, key]
theorem crashed_no {y : Nat} {h d b m : W} {safe : Int} {ln : Nat} {rs : List W} (hy : μ[y]? = some (.ins A.Yard (yf h d (.loc ln) (.int safe) b m))) (hl : μ[ln]? = some (.lst rs)) {x : W} (hx : f_is_number A [x, .int 0, .int (rs.length - safe)] μ = .ok (.bl false) μ) : f_Yard_crashed A [.loc y, x] μ = .er A.OutOfRange μ := by
  have hw := waiting_ok (A := A) hy hl
  simp [eVar, eC, eBin, eTest, eTru, eAnd, eOr, eNot, eNeg, eIf, eTup, eLst, eNew, eCall, eFn, eMe, eMk, eFld, eMeL, eMeL0, aNil, aCons, bAnd, bOr, bNot, bYes, sSeq, sNx, sEx, sRet, sRetN, sIf, sAsg, gSet, sPar, sFldM, sFldAdd, sRaise, Out.bind, Out.st, SO.seq, fin, runB, startW, f_Yard_crashed, N_Yard_crashed, s_Yard_crashed, yf_no hy m_wait, hw, hx, truW]
end
end K76
namespace K76
open PySem PySem.Spec PyProof.Rows L2 PD
/-! ### the state -/
structure S where
  first : Cells
  hand : Cells
  disk : Cells
  log : List Row
  safe : Nat
  ws : List Wk
  many : Int
  dl : List Int
abbrev nm (p : Wk) : List Str := p.rows.map (·.1)
structure Good (ns : List Str) (s : S) : Prop where
  lg : Lg s.first s.log
  hand : s.hand = redo s.log s.first
  disk : ∀ n, ∃ j, j ≤ s.safe ∧ s.disk n = redo (s.log.take j) s.first n
  safe : s.safe ≤ s.log.length
  own : ∀ w n o x, Row.put w n o x ∈ s.log → Row.fin w ∈ s.log ∨ ∃ p ∈ s.ws, p.id = w ∧ n ∈ nm p
  dis : ∀ p ∈ s.ws, ∀ q ∈ s.ws, p.id ≠ q.id → ∀ n ∈ nm p, n ∉ nm q
  ids : (s.ws.map (·.id)).Pairwise (· < ·)
  rng : ∀ p ∈ s.ws, 1 ≤ p.id ∧ p.id ≤ s.many
  many : 0 ≤ s.many
  nms : names ns s.log
  rnm : ∀ p ∈ s.ws, ∀ q ∈ p.rows, q.1 ∈ ns
structure Bd (t : Nat) (s : S) : Prop where
  few : s.ws.length ≤ 3
  log : s.log.length ≤ 64 * t
  rows : ∀ p ∈ s.ws, p.rows.length ≤ t
theorem Good.nd {ns : List Str} {s : S} (g : Good ns s) : (s.ws.map (·.id)).Nodup := g.ids.imp fun h => by omega
theorem take_snoc_le {p : List Row} {r : Row} {j : Nat} (h : j ≤ p.length) : (p ++ [r]).take j = p.take j := List.take_append_of_le_length h
/-- one row is written -/
theorem Good.write {ns : List Str} {s : S} (g : Good ns s) {p : Wk} (hp : p ∈ s.ws) {n x : Str} (hn : n ∈ nm p) (ho : ∀ q ∈ s.ws, q.id ≠ p.id → n ∉ nm q) (hns : n ∈ ns) :
    Good ns { s with log := s.log ++ [.put p.id n (s.hand n) x], hand := setC s.hand n x } where
  lg := by
    have h := g.lg.put (w := p.id) (n := n) (x := x) fun w' o' x' hm hw => by
      rcases g.own w' n o' x' hm with h | ⟨q, hq, rfl, hqn⟩
      · exact h
      · exact absurd hqn (ho q hq hw)
    rw [← g.hand] at h
    exact h
  hand := by
    show setC s.hand n x = redo (s.log ++ [.put p.id n (s.hand n) x]) s.first
    rw [redo_snoc, ← g.hand]; rfl
  disk := fun m => by
    obtain ⟨j, h1, h2⟩ := g.disk m
    refine ⟨j, h1, ?_⟩
    rw [take_snoc_le (Nat.le_trans h1 g.safe)]; exact h2
  safe := by show s.safe ≤ (s.log ++ [_]).length; rw [List.length_append]; exact Nat.le_trans g.safe (Nat.le_add_right _ _)
  own := fun w m o y hm => by
    rcases List.mem_append.mp hm with hm | hm
    · rcases g.own w m o y hm with h | h
      · exact .inl (List.mem_append_left _ h)
      · exact .inr h
    · rw [List.mem_singleton] at hm
      cases hm
      exact .inr ⟨p, hp, rfl, hn⟩
  dis := g.dis
  ids := g.ids
  rng := g.rng
  many := g.many
  nms := fun w m o y hm => by
    rcases List.mem_append.mp hm with hm | hm
    · exact g.nms w m o y hm
    · rw [List.mem_singleton] at hm
      cases hm
      exact hns
  rnm := g.rnm
/-- a work takes a cell -/
theorem Good.reserve {ns : List Str} {s : S} (g : Good ns s) {a b : List Wk} {p : Wk} (e : s.ws = a ++ p :: b) {n o : Str} (ho : ∀ q ∈ s.ws, q.id ≠ p.id → n ∉ nm q) (hns : n ∈ ns) :
    Good ns { s with ws := a ++ { p with rows := p.rows ++ [(n, o)] } :: b } := by
  have hids : (a ++ { p with rows := p.rows ++ [(n, o)] } :: b).map (·.id) = s.ws.map (·.id) := by rw [e]; simp
  have mem : ∀ q, q ∈ a ++ { p with rows := p.rows ++ [(n, o)] } :: b → (q ∈ s.ws ∧ q.id ≠ p.id) ∨ q = { p with rows := p.rows ++ [(n, o)] } := fun q hq => by
    have nd := g.nd
    rw [e, List.map_append, List.map_cons, List.nodup_append, List.nodup_cons] at nd
    rcases List.mem_append.mp hq with h | h
    · refine .inl ⟨by rw [e]; exact List.mem_append_left _ h, fun z => ?_⟩
      exact nd.2.2 q.id (List.mem_map_of_mem (f := (·.id)) h) p.id List.mem_cons_self z
    · rcases List.mem_cons.mp h with h | h
      · exact .inr h
      · refine .inl ⟨by rw [e]; exact List.mem_append_right _ (List.mem_cons_of_mem _ h), fun z => ?_⟩
        exact nd.2.1.1 (by rw [← z]; exact List.mem_map_of_mem (f := (·.id)) h)
  have hps : p ∈ s.ws := by rw [e]; exact List.mem_append_right _ List.mem_cons_self
  have nm' : nm { p with rows := p.rows ++ [(n, o)] } = nm p ++ [n] := by simp [nm]
  refine ⟨g.lg, g.hand, g.disk, g.safe, fun w m o' x hm => ?_, fun q hq r hr hne m hm => ?_, by show List.Pairwise _ ((a ++ _ :: b).map _); rw [hids]; exact g.ids, fun q hq => ?_, g.many, g.nms, fun q hq r hr => ?_⟩
  · rcases g.own w m o' x hm with h | ⟨q, hq, rfl, hqm⟩
    · exact .inl h
    · right
      rw [e] at hq
      rcases List.mem_append.mp hq with h | h
      · exact ⟨q, List.mem_append_left _ h, rfl, hqm⟩
      · rcases List.mem_cons.mp h with h | h
        · subst h
          exact ⟨_, List.mem_append_right _ List.mem_cons_self, rfl, by rw [nm']; exact List.mem_append_left _ hqm⟩
        · exact ⟨q, List.mem_append_right _ (List.mem_cons_of_mem _ h), rfl, hqm⟩
  · rcases mem q hq with ⟨hq', hqp⟩ | rfl
    · rcases mem r hr with ⟨hr', hrp⟩ | rfl
      · exact g.dis q hq' r hr' hne m hm
      · rw [nm']
        intro z
        rcases List.mem_append.mp z with z | z
        · exact g.dis q hq' p hps hqp m hm z
        · rw [List.mem_singleton] at z
          subst z
          exact ho q hq' hqp hm
    · rcases mem r hr with ⟨hr', hrp⟩ | rfl
      · rw [nm'] at hm
        rcases List.mem_append.mp hm with z | z
        · exact g.dis p hps r hr' (fun e => hrp e.symm) m z
        · rw [List.mem_singleton] at z
          subst z
          exact ho r hr' hrp
      · exact absurd rfl hne
  · rcases mem q hq with ⟨hq, _⟩ | rfl
    · exact g.rng q hq
    · exact g.rng p hps
  · rcases mem q hq with ⟨hq, _⟩ | rfl
    · exact g.rnm q hq r hr
    · rcases List.mem_append.mp hr with h | h
      · exact g.rnm p hps r h
      · rw [List.mem_singleton] at h
        subst h; exact hns
theorem Good.begin_ {ns : List Str} {s : S} (g : Good ns s) (ly ll : Nat) : Good ns { s with ws := s.ws ++ [⟨s.many + 1, [], ly, ll⟩], many := s.many + 1 } := by
  refine ⟨g.lg, g.hand, g.disk, g.safe, fun w n o x hm => ?_, fun p hp q hq hne n hn => ?_, ?_, fun p hp => ?_, by have := g.many; show 0 ≤ s.many + 1; omega, g.nms, fun p hp q hq => ?_⟩
  · rcases g.own w n o x hm with h | ⟨p, hp, h⟩
    · exact .inl h
    · exact .inr ⟨p, List.mem_append_left _ hp, h⟩
  · rcases List.mem_append.mp hp with hp | hp
    · rcases List.mem_append.mp hq with hq | hq
      · exact g.dis p hp q hq hne n hn
      · rw [List.mem_singleton] at hq; subst hq; simp [nm]
    · rw [List.mem_singleton] at hp; subst hp; simp [nm] at hn
  · show ((s.ws ++ [(⟨s.many + 1, [], ly, ll⟩ : Wk)]).map (·.id)).Pairwise (· < ·)
    rw [List.map_append, List.pairwise_append]
    refine ⟨g.ids, by simp, fun a ha b hb => ?_⟩
    obtain ⟨p, hp, rfl⟩ := List.mem_map.mp ha
    simp at hb
    have := (g.rng p hp).2
    omega
  · rcases List.mem_append.mp hp with hp | hp
    · have := g.rng p hp
      exact ⟨this.1, by show p.id ≤ s.many + 1; omega⟩
    · rw [List.mem_singleton] at hp
      subst hp
      have := g.many
      exact ⟨by show 1 ≤ s.many + 1; omega, Int.le_refl _⟩
  · rcases List.mem_append.mp hp with hp | hp
    · exact g.rnm p hp q hq
    · rw [List.mem_singleton] at hp; subst hp; simp at hq
theorem Good.end_ {ns : List Str} {s : S} (g : Good ns s) {a b : List Wk} {p : Wk} (e : s.ws = a ++ p :: b) : Good ns { s with log := s.log ++ [.fin p.id], ws := a ++ b } := by
  have sub : ∀ q ∈ a ++ b, q ∈ s.ws := fun q hq => by
    rw [e]
    rcases List.mem_append.mp hq with h | h
    · exact List.mem_append_left _ h
    · exact List.mem_append_right _ (List.mem_cons_of_mem _ h)
  refine ⟨g.lg.fin p.id, ?_, fun m => ?_, ?_, fun w n o x hm => ?_, fun q hq r hr => g.dis q (sub q hq) r (sub r hr), ?_, fun q hq => g.rng q (sub q hq), g.many, fun w n o x hm => ?_, fun q hq => g.rnm q (sub q hq)⟩
  · show s.hand = redo (s.log ++ [.fin p.id]) s.first
    rw [redo_snoc, ← g.hand]; rfl
  · obtain ⟨j, h1, h2⟩ := g.disk m
    refine ⟨j, h1, ?_⟩
    rw [take_snoc_le (Nat.le_trans h1 g.safe)]; exact h2
  · show s.safe ≤ (s.log ++ [_]).length; rw [List.length_append]; exact Nat.le_trans g.safe (Nat.le_add_right _ _)
  · rcases List.mem_append.mp hm with hm | hm
    · rcases g.own w n o x hm with h | ⟨q, hq, rfl, hqn⟩
      · exact .inl (List.mem_append_left _ h)
      · rw [e] at hq
        rcases List.mem_append.mp hq with h | h
        · exact .inr ⟨q, List.mem_append_left _ h, rfl, hqn⟩
        · rcases List.mem_cons.mp h with h | h
          · subst h; exact .inl (List.mem_append_right _ (List.mem_singleton.mpr rfl))
          · exact .inr ⟨q, List.mem_append_right _ h, rfl, hqn⟩
    · rw [List.mem_singleton] at hm; cases hm
  · have h := g.ids
    rw [e] at h
    refine h.sublist ?_
    exact ((List.Sublist.refl a).append (List.sublist_cons_self p b)).map _
  · rcases List.mem_append.mp hm with hm | hm
    · exact g.nms w n o x hm
    · rw [List.mem_singleton] at hm; cases hm
theorem Good.sync {ns : List Str} {s : S} (g : Good ns s) : Good ns { s with safe := s.log.length } :=
  ⟨g.lg, g.hand, fun m => let ⟨j, h1, h2⟩ := g.disk m; ⟨j, Nat.le_trans h1 g.safe, h2⟩, Nat.le_refl _, g.own, g.dis, g.ids, g.rng, g.many, g.nms, g.rnm⟩
theorem Good.flush {ns : List Str} {s : S} (g : Good ns s) (n : Str) : Good ns { s with safe := s.log.length, disk := setC s.disk n (s.hand n) } := by
  refine ⟨g.lg, g.hand, fun m => ?_, Nat.le_refl _, g.own, g.dis, g.ids, g.rng, g.many, g.nms, g.rnm⟩
  by_cases h : m = n
  · refine ⟨s.log.length, Nat.le_refl _, ?_⟩
    show (if m = n then s.hand n else s.disk m) = _
    rw [if_pos h, List.take_length, ← g.hand, h]
  · obtain ⟨j, h1, h2⟩ := g.disk m
    refine ⟨j, Nat.le_trans h1 g.safe, ?_⟩
    show (if m = n then s.hand n else s.disk m) = _
    rw [if_neg h]; exact h2
theorem Good.fresh {ns : List Str} {c : Cells} {m : Int} {dl : List Int} (hm : 0 ≤ m) : Good ns ⟨c, c, c, [], 0, [], m, dl⟩ :=
  ⟨.nil, rfl, fun n => ⟨0, Nat.le_refl _, rfl⟩, Nat.le_refl _, fun _ _ _ _ h => by simp at h, fun p hp => by simp at hp, .nil, fun p hp => by simp at hp, hm, fun _ _ _ _ h => by simp at h, fun p hp => by simp at hp⟩
theorem Good.draws {ns : List Str} {s : S} (g : Good ns s) (dl : List Int) : Good ns { s with dl := dl } := ⟨g.lg, g.hand, g.disk, g.safe, g.own, g.dis, g.ids, g.rng, g.many, g.nms, g.rnm⟩
/-- what a dropped work writes keeps all -/
theorem Good.drop {ns : List Str} {p : Wk} : ∀ (rs : List (Str × Str)) {s : S}, Good ns s → p ∈ s.ws → (∀ q ∈ rs, q ∈ p.rows) → Good ns { s with log := (dropF p.id rs (s.log, s.hand)).1, hand := (dropF p.id rs (s.log, s.hand)).2 }
  | [], s, g, _, _ => ⟨g.lg, g.hand, g.disk, g.safe, g.own, g.dis, g.ids, g.rng, g.many, g.nms, g.rnm⟩
  | (n, o) :: r, s, g, hp, hr => by
    have hm : (n, o) ∈ p.rows := hr (n, o) List.mem_cons_self
    have hn : n ∈ nm p := List.mem_map_of_mem (f := (·.1)) hm
    have g2 := g.write hp (x := o) hn (fun q hq hne => g.dis p hp q hq (fun e => hne e.symm) n hn) (g.rnm p hp (n, o) hm)
    exact Good.drop r g2 hp fun q hq => hr q (List.mem_cons_of_mem _ hq)
end K76
namespace K76
open PySem PySem.Spec PyProof.Rows L2 PD
variable [Tbs]
/-! ### the store of the law -/
structure Lc where
  y : Nat
  yh : Nat
  yd : Nat
  yl : Nat
  yb : Nat
  lh : Nat
  lf : Nat
  ll : Nat
  lg : Nat
  dr : Nat
def rc (p : Wk) : Cell := .lst (p.rows.map rowW)
def flat (ws : List Wk) : List (Nat × Cell) := ws.flatMap fun p => [(p.ly, rc p), (p.ll, rc p)]
def cells (A : Adr) (ns : List Str) (o : Lc) (s : S) : List (Nat × Cell) :=
  (o.y, .ins A.Yard (yf (.loc o.yh) (.loc o.yd) (.loc o.yl) (.int (s.safe : Nat)) (.loc o.yb) (.int s.many))) :: (o.yh, .dK (dct ns s.hand) false) :: (o.yd, .dK (dct ns s.disk) false) :: (o.yl, .lst (s.log.map yrow)) ::
  (o.yb, .dK (bdOf (·.ly) s.ws) false) :: (o.lh, .dK (dct ns s.hand) false) :: (o.lf, .dK (dct ns s.first) false) :: (o.ll, .lst (s.log.map lrow)) :: (o.lg, .dK (bdOf (·.ll) s.ws) false) :: (o.dr, .lst (intsW s.dl)) :: flat s.ws
section
variable {μ : Mu} {L : List (Nat × Cell)}
theorem Ag.setAt (h : Ag μ L) (i : Nat) {n : Nat} {c : Cell} (e : L[i]? = some (n, c)) (c' : Cell) : Ag (μ.set n c') (L.set i (n, c')) := by
  have hi : i < L.length := (List.getElem?_eq_some_iff.mp e).1
  have e1 : L = L.take i ++ (n, c) :: L.drop (i + 1) := by
    conv => lhs; rw [← List.take_append_drop i L, List.drop_eq_getElem_cons hi]
    rw [(List.getElem?_eq_some_iff.mp e).2]
  have h2 : Ag μ (L.take i ++ (n, c) :: L.drop (i + 1)) := by rw [← e1]; exact h
  have e2 : L.set i (n, c') = L.take i ++ (n, c') :: L.drop (i + 1) := by rw [List.set_eq_take_append_cons_drop, if_pos hi]
  rw [e2]
  exact h2.put
theorem Ag.at (h : Ag μ L) (i : Nat) {n : Nat} {c : Cell} (e : L[i]? = some (n, c)) : μ[n]? = some c := h.at_ n c (List.mem_of_getElem? e)
theorem Ag.ne (h : Ag μ L) (i j : Nat) {n m : Nat} {c d : Cell} (e : L[i]? = some (n, c)) (e2 : L[j]? = some (m, d)) (hij : i ≠ j) : n ≠ m := fun z => by
  obtain ⟨h1, h2⟩ := List.getElem?_eq_some_iff.mp e
  obtain ⟨h3, h4⟩ := List.getElem?_eq_some_iff.mp e2
  refine hij ((List.getElem_inj h.nd (h₀ := by simpa using h1) (h₁ := by simpa using h3)).mp ?_)
  simp [eVar, eC, eBin, eTest, eTru, eAnd, eOr, eNot, eNeg, eIf, eTup, eLst, eNew, eCall, eFn, eMe, eMk, eFld, eMeL, eMeL0, aNil, aCons, bAnd, bOr, bNot, bYes, sSeq, sNx, sEx, sRet, sRetN, sIf, sAsg, gSet, sPar, sFldM, sFldAdd, sRaise, Out.bind, Out.st, SO.seq, fin, runB, startW, h2, h4, z]
end
section
variable {A : Adr} {μ : Mu} {ns : List Str} {o : Lc} {s : S}
theorem mem_flat {p : Wk} {ws : List Wk} (h : p ∈ ws) : (p.ly, rc p) ∈ flat ws ∧ (p.ll, rc p) ∈ flat ws :=
  ⟨List.mem_flatMap.mpr ⟨p, h, List.mem_cons_self⟩, List.mem_flatMap.mpr ⟨p, h, List.mem_cons_of_mem _ List.mem_cons_self⟩⟩
theorem in_cells {x : Nat × Cell} (h : x ∈ flat s.ws) : x ∈ cells A ns o s := by
  unfold cells
  iterate 10 apply List.mem_cons_of_mem
  exact h
theorem at_ly (h : Ag μ (cells A ns o s)) {p : Wk} (hp : p ∈ s.ws) : μ[p.ly]? = some (.lst (p.rows.map rowW)) := h.at_ _ _ (in_cells (mem_flat hp).1)
theorem at_ll (h : Ag μ (cells A ns o s)) {p : Wk} (hp : p ∈ s.ws) : μ[p.ll]? = some (.lst (p.rows.map rowW)) := h.at_ _ _ (in_cells (mem_flat hp).2)
/-- a fixed cell is none of the works' -/
theorem ne_flat (h : Ag μ (cells A ns o s)) (i : Nat) (hi : i < 10) {n : Nat} {c : Cell} (e : (cells A ns o s)[i]? = some (n, c)) {x : Nat × Cell} (hx : x ∈ flat s.ws) : n ≠ x.1 := by
  obtain ⟨j, hj, ej⟩ := List.getElem_of_mem hx
  have e2 : (cells A ns o s)[10 + j]? = some x := by
    have : (cells A ns o s)[10 + j]? = (flat s.ws)[j]? := by
      rw [Nat.add_comm]; rfl
    rw [this, List.getElem?_eq_getElem hj, ej]
  exact Ag.ne h i (10 + j) e (d := x.2) (m := x.1) e2 (by omega)
/-- a draw -/
theorem take_st (h : Ag μ (cells A ns o s)) {b : Int} (hb : 0 < b) : ∃ z dl μ', f_law_take A [.loc o.dr, .int b] μ = .ok (.int z) μ' ∧ 0 ≤ z ∧ z < b ∧ Ag μ' (cells A ns o { s with dl := dl }) := by
  have hd : μ[o.dr]? = some (.lst (intsW s.dl)) := h.at 9 rfl
  obtain ⟨z, l', e, h1, h2⟩ := take_ok (A := A) hd hb
  exact ⟨z, l', _, e, h1, h2, h.setAt 9 rfl (.lst (intsW l'))⟩
/-! the slots -/
abbrev Tl := Option W
def env (scr : W) (ns : List Str) (o : Lc) (s : S) (a10 a11 a12 a13 a14 a15 a16 a17 a18 a19 : Tl) : PD.Env :=
  [some scr, some (.loc o.dr), some (.lst (ns.map .str)), some (.loc o.y), some (.loc o.lh), some (.loc o.lf), some (.loc o.ll), some (.int (s.safe : Nat)), some (.loc o.lg), some (.int s.many), a10, a11, a12, a13, a14, a15, a16, a17, a18, a19, none, none, none, none, none]
variable {scr : W} {a10 a11 a12 a13 a14 a15 a16 a17 a18 a19 : Tl}
theorem ix_lst {l : List W} {i : Nat} {x : W} (h : l[i]? = some x) : gIx (.lst l) (.int (i : Nat)) μ = .ok x μ := by
  have ha : atI l ((i : Nat) : Int) = some x := L2.atI_nat h
  simp [eVar, eC, eBin, eTest, eTru, eAnd, eOr, eNot, eNeg, eIf, eTup, eLst, eNew, eCall, eFn, eMe, eMk, eFld, eMeL, eMeL0, aNil, aCons, bAnd, bOr, bNot, bYes, sSeq, sNx, sEx, sRet, sRetN, sIf, sAsg, gSet, sPar, sFldM, sFldAdd, sRaise, Out.bind, Out.st, SO.seq, fin, runB, startW, gIx, orG, gIxQ, asQ, asL, ha, Out.els]
theorem pick_ok (hN : isNames ns) (h : Ag μ (cells A ns o s)) : ∃ (z : Int) (n : Str) (dl : List Int) (μ' : Mu), 0 ≤ z ∧ z < 16 ∧ n ∈ ns ∧ Ag μ' (cells A ns o { s with dl := dl }) ∧
    sAsg (eTup (aCons (eFn 2 (f_law_take A) (aCons (eVar 1) (aCons (eC (.int 16)) aNil))) (aCons (eBin gIx (eVar 2) (eFn 2 (f_law_take A) (aCons (eVar 1) (aCons (eCall cLen (aCons (eVar 2) aNil)) aNil)))) aNil))) (gTupM 2 (gsCons (gSet 11) (gsCons (gSet 12) gsNil))) (env scr ns o s a10 a11 a12 a13 a14 a15 a16 a17 a18 a19) μ =
      .nx (env scr ns o s a10 (some (.int z)) (some (.str n)) a13 a14 a15 a16 a17 a18 a19) μ' := by
  have z2 : 2 ≤ sizeLine := by have := sizeLine_val; omega
  obtain ⟨z, dl1, μ1, e1, z0, z1, h1⟩ := take_st h (b := 16) (by decide)
  have hpos : 0 < ns.length := by obtain ⟨k, _, rfl⟩ := hN; simp [eVar, eC, eBin, eTest, eTru, eAnd, eOr, eNot, eNeg, eIf, eTup, eLst, eNew, eCall, eFn, eMe, eMk, eFld, eMeL, eMeL0, aNil, aCons, bAnd, bOr, bNot, bYes, sSeq, sNx, sEx, sRet, sRetN, sIf, sAsg, gSet, sPar, sFldM, sFldAdd, sRaise, Out.bind, Out.st, SO.seq, fin, runB, startW, n5]; omega
  obtain ⟨w, dl2, μ2, e2, w0, w1, h2⟩ := take_st h1 (b := (ns.length : Nat)) (by omega)
  obtain ⟨i, rfl⟩ := Int.eq_ofNat_of_zero_le w0
  have hi : i < ns.length := by omega
  have e3 : gIx (.lst (ns.map .str)) (.int ((i : Nat) : Int)) μ2 = .ok (.str ns[i]) μ2 := ix_lst (by rw [List.getElem?_map, List.getElem?_eq_getElem hi]; rfl)
  refine ⟨z, ns[i], dl2, μ2, z0, z1, List.getElem_mem hi, h2, ?_⟩
  have e4 : cLen [.lst (ns.map .str)] μ1 = .ok (.int (ns.length : Nat)) μ1 := by rw [cLen_lst, List.length_map]
  unfold env
  simp [eVar, eC, eBin, eTest, eTru, eAnd, eOr, eNot, eNeg, eIf, eTup, eLst, eNew, eCall, eFn, eMe, eMk, eFld, eMeL, eMeL0, aNil, aCons, bAnd, bOr, bNot, bYes, sSeq, sNx, sEx, sRet, sRetN, sIf, sAsg, gSet, sPar, sFldM, sFldAdd, sRaise, Out.bind, Out.st, SO.seq, fin, runB, startW, e1, e4, e2, e3, z2, gTupM, gsCons, gsNil]
theorem keys_bd {f : Wk → Nat} {ws : List Wk} : dKeys (bdOf f ws) = (ws.map (·.id)).map .int := by
  unfold dKeys bdOf
  rw [List.map_map, List.map_map]; rfl
theorem sort_ids (g : Good ns s) : sortI (s.ws.map (·.id)) = s.ws.map (·.id) := (sortI_uniq (g.ids.imp fun h => by omega) (List.Perm.refl _)).symm
theorem sorted_going (h : Ag μ (cells A ns o s)) (g : Good ns s) {ρ : PD.Env} (hρ : ρ[8]? = some (some (.loc o.lg))) : eCall cSortI (aCons (eCall cListKF (aCons (eVar 8) aNil)) aNil) ρ μ = .ok (.lst ((s.ws.map (·.id)).map .int)) μ := by
  have hg : μ[o.lg]? = some (.dK (bdOf (·.ll) s.ws) false) := h.at 8 rfl
  have e1 : eCall cListKF (aCons (eVar 8) aNil) ρ μ = .ok (.lst ((s.ws.map (·.id)).map .int)) μ := by
    simp only [eCall, aCons, aNil, eVar, hρ, Out.bind, cListKF, dAt, hg, keys_bd]
  rw [call1 e1]
  simp only [cSortI, asL, wInts_map, sort_ids g]
theorem works_ok (h : Ag μ (cells A ns o s)) (g : Good ns s) (hf : s.ws.length < 64) : f_Yard_works A [.loc o.y] μ = .ok (.tup ((s.ws.map (·.id)).map .int)) μ := by
  have hy : μ[o.y]? = some (.ins A.Yard (yf (.loc o.yh) (.loc o.yd) (.loc o.yl) (.int (s.safe : Nat)) (.loc o.yb) (.int s.many))) := h.at 0 rfl
  have hb : μ[o.yb]? = some (.dK (bdOf (·.ly) s.ws) false) := h.at 4 rfl
  have ek : kInts (bdOf (·.ly) s.ws) = some (s.ws.map (·.id)) := by
    generalize s.ws = ws
    induction ws with
    | nil => rfl
    | cons p r ih => show (kInts (bdOf (·.ly) r)).map (p.id :: ·) = _; rw [ih]; rfl
  have e1 : cSortK [.loc o.yb] μ = .ok (.lst ((s.ws.map (·.id)).map .int)) μ := by
    unfold cSortK
    simp only [dAt, hb, ek]
    rw [if_pos (by simpa using hf), sort_ids g]
  have e2 : ∀ l : List W, cTuple [.lst l] μ = .ok (.tup l) μ := fun _ => rfl
  simp [eVar, eC, eBin, eTest, eTru, eAnd, eOr, eNot, eNeg, eIf, eTup, eLst, eNew, eCall, eFn, eMe, eMk, eFld, eMeL, eMeL0, aNil, aCons, bAnd, bOr, bNot, bYes, sSeq, sNx, sEx, sRet, sRetN, sIf, sAsg, gSet, sPar, sFldM, sFldAdd, sRaise, Out.bind, Out.st, SO.seq, fin, runB, startW, f_Yard_works, N_Yard_works, s_Yard_works, yf_begun hy, e1, e2]
end
end K76
namespace K76
open PySem PySem.Spec PyProof.Rows L2 PD
variable [Tbs]
noncomputable def P0 (A : Adr) : SM := (sAsg (eTup (aCons (eFn 2 (f_law_take A) (aCons (eVar 1) (aCons (eC (.int 16)) aNil))) (aCons (eBin gIx (eVar 2) (eFn 2 (f_law_take A) (aCons (eVar 1) (aCons (eCall cLen (aCons (eVar 2) aNil)) aNil)))) aNil))) (gTupM 2 (gsCons (gSet 11) (gsCons (gSet 12) gsNil))))
noncomputable def P1 (A : Adr) : SM := (sAsg (eCall cSortI (aCons (eCall cListKF (aCons (eVar 8) aNil)) aNil)) (gSet 13))
noncomputable def T1 (A : Adr) : BM := (bAnd (eTest (eBin gLt (eVar 11) (eC (.int 2)))) (eTest (eBin gLt (eCall cLen (aCons (eVar 13) aNil)) (eC (.int 3)))))
noncomputable def B1 (A : Adr) : SM := (sSeq (sAsg (eBin gAdd (eVar 9) (eC (.int 1))) (gSet 9))
 (sSeq (sIf (eTest (eBin gNe (eMe A.Yard "begin" 1 (f_Yard_begin A) (eVar 3) aNil) (eVar 9))) (sRet (eC (.bl false))) sNx)
 (sAsg (eNew aNil) (gSubK (eVar 8) (eVar 9)))))
noncomputable def T2 (A : Adr) : BM := (bAnd (eTest (eBin gLt (eVar 11) (eC (.int 8)))) (eTest (eBin gNe (eVar 13) (eLst aNil))))
noncomputable def B2 (A : Adr) : SM := (sSeq (sAsg (eTup (aCons (eBin gIx (eVar 13) (eFn 2 (f_law_take A) (aCons (eVar 1) (aCons (eCall cLen (aCons (eVar 13) aNil)) aNil)))) (aCons (eBin gIx (eLst (aCons (eC (.str "x")) (aCons (eC (.str "yy")) (aCons (eC (.str "")) (aCons (eC (.str "z")) aNil))))) (eFn 2 (f_law_take A) (aCons (eVar 1) (aCons (eC (.int 4)) aNil)))) aNil))) (gTupM 2 (gsCons (gSet 14) (gsCons (gSet 15) gsNil))))
 (sSeq (sAsg (eCmp (iSeq (eVar 13)) [21] (gSet 21) (bAnd (eTest (eBin gNe (eVar 21) (eVar 14))) (eTest (eBin gIn (eVar 12) (eCmp (iSeq (eBin gIxK (eVar 8) (eVar 21))) [22] (gSet 22) bYes (eBin gIx (eVar 22) (eC (.int 0))))))) (eVar 21)) (gSet 16))
 (sSeq (sIf (eTest (eBin gNe (eFn 5 (f_law_tried A) (aCons (eC (.int 0)) (aCons (eVar 3) (aCons (eVar 14) (aCons (eVar 12) (aCons (eVar 15) aNil)))))) (eIf (eTest (eBin gNe (eVar 16) (eLst aNil))) (eC (.str "refused")) (eC .non)))) (sRet (eC (.bl false))) sNx)
 (sIf (eTest (eBin gEq (eVar 16) (eLst aNil))) (sSeq (sEx (eMeL mAppend (eVar 6) (aCons (eTup (aCons (eC (.str "put")) (aCons (eVar 14) (aCons (eVar 12) (aCons (eVar 15) aNil))))) aNil)))
 (sSeq (sEx (eMeL mAppend (eBin gIxK (eVar 8) (eVar 14)) (aCons (eTup (aCons (eVar 12) (aCons (eBin gIxK (eVar 4) (eVar 12)) aNil))) aNil)))
 (sAsg (eVar 15) (gSubK (eVar 4) (eVar 12))))) sNx))))
noncomputable def T3 (A : Adr) : BM := (bAnd (eTest (eBin gLt (eVar 11) (eC (.int 10)))) (eTest (eBin gNe (eVar 13) (eLst aNil))))
noncomputable def B3 (A : Adr) : SM := (sSeq (sAsg (eBin gIx (eVar 13) (eFn 2 (f_law_take A) (aCons (eVar 1) (aCons (eCall cLen (aCons (eVar 13) aNil)) aNil)))) (gSet 14))
 (sSeq (sIf (eTest (eBin gNotN (eFn 5 (f_law_tried A) (aCons (eC (.int 1)) (aCons (eVar 3) (aCons (eVar 14) (aCons (eC .non) (aCons (eC .non) aNil)))))) (eC .non))) (sRet (eC (.bl false))) sNx)
 (sSeq (sEx (eMeL mAppend (eVar 6) (aCons (eTup (aCons (eC (.str "end")) (aCons (eVar 14) aNil))) aNil)))
 (sEx (eDPop (eVar 8) (eVar 14))))))
noncomputable def T4 (A : Adr) : BM := (bAnd (eTest (eBin gEq (eVar 11) (eC (.int 10)))) (eTest (eBin gNe (eVar 13) (eLst aNil))))
noncomputable def B4 (A : Adr) : SM := (sSeq (sAsg (eBin gIx (eVar 13) (eFn 2 (f_law_take A) (aCons (eVar 1) (aCons (eCall cLen (aCons (eVar 13) aNil)) aNil)))) (gSet 14))
 (sSeq (sIf (eTest (eBin gNotN (eFn 5 (f_law_tried A) (aCons (eC (.int 2)) (aCons (eVar 3) (aCons (eVar 14) (aCons (eC .non) (aCons (eC .non) aNil)))))) (eC .non))) (sRet (eC (.bl false))) sNx)
 (sSeq (sFor (iSeq (eRevF (eBin gIxK (eVar 8) (eVar 14)))) (gTupM 2 (gsCons (gSet 17) (gsCons (gSet 18) gsNil))) (s_law_0 A))
 (sSeq (sEx (eMeL mAppend (eVar 6) (aCons (eTup (aCons (eC (.str "end")) (aCons (eVar 14) aNil))) aNil)))
 (sEx (eDPop (eVar 8) (eVar 14)))))))
noncomputable def T5 (A : Adr) : BM := (eTest (eBin gEq (eVar 11) (eC (.int 11))))
noncomputable def B5 (A : Adr) : SM := (sSeq (sEx (eMe A.Yard "sync" 1 (f_Yard_sync A) (eVar 3) aNil))
 (sAsg (eCall cLen (aCons (eVar 6) aNil)) (gSet 7)))
noncomputable def T6 (A : Adr) : BM := (eTest (eBin gLt (eVar 11) (eC (.int 14))))
noncomputable def B6 (A : Adr) : SM := (sSeq (sIf (eTest (eBin gNotN (eFn 5 (f_law_tried A) (aCons (eC (.int 3)) (aCons (eVar 3) (aCons (eVar 12) (aCons (eC .non) (aCons (eC .non) aNil)))))) (eC .non))) (sRet (eC (.bl false))) sNx)
 (sAsg (eCall cLen (aCons (eVar 6) aNil)) (gSet 7)))
noncomputable def T7 (A : Adr) : BM := (eTest (eBin gEq (eVar 11) (eC (.int 15))))
noncomputable def B7 (A : Adr) : SM := (sSeq (sAsg (eBin gIx (eLst (aCons (eC (.int 0)) (aCons (eBin gSub (eCall cLen (aCons (eVar 6) aNil)) (eVar 7)) (aCons (eFn 2 (f_law_take A) (aCons (eVar 1) (aCons (eBin gAdd (eBin gSub (eCall cLen (aCons (eVar 6) aNil)) (eVar 7)) (eC (.int 1))) aNil))) aNil)))) (eFn 2 (f_law_take A) (aCons (eVar 1) (aCons (eC (.int 3)) aNil)))) (gSet 19))
 (sSeq (sAsg (eFn 2 (f_law_crashed A) (aCons (eVar 3) (aCons (eVar 19) aNil))) (gSet 3))
 (sSeq (sAsg (eFn 2 (f_law_behind A) (aCons (eVar 5) (aCons (eCut (eVar 6) oNone (oSome (eBin gAdd (eVar 7) (eVar 19)))) aNil))) (gSet 5))
 (sAsg (eTup (aCons (eCall cDictP (aCons (eCmpK (eVar 5) [23] (gSet 23) bYes (eTup (aCons (eVar 23) (aCons (eBin gIxK (eVar 5) (eVar 23)) aNil)))) aNil)) (aCons (eNew aNil) (aCons (eC (.int 0)) (aCons eDNew aNil))))) (gTupM 4 (gsCons (gSet 4) (gsCons (gSet 6) (gsCons (gSet 7) (gsCons (gSet 8) gsNil)))))))))
noncomputable def P3 (A : Adr) : SM := (sIf (bNot (eTru (eFn 2 (f_law_alike A) (aCons (eLst (aCons (eCmp (iSeq (eVar 2)) [23] (gSet 23) bYes (eMe A.Yard "text" 2 (f_Yard_text A) (eVar 3) (aCons (eVar 23) aNil))) (aCons (eMe A.Yard "works" 1 (f_Yard_works A) (eVar 3) aNil) (aCons (eMe A.Yard "waiting" 1 (f_Yard_waiting A) (eVar 3) aNil) aNil)))) (aCons (eLst (aCons (eCmp (iSeq (eVar 2)) [23] (gSet 23) bYes (eBin gIxK (eVar 4) (eVar 23))) (aCons (eCall cTuple (aCons (eCall cSortI (aCons (eCall cListKF (aCons (eVar 8) aNil)) aNil)) aNil)) (aCons (eBin gSub (eCall cLen (aCons (eVar 6) aNil)) (eVar 7)) aNil)))) aNil))))) (sRet (eC (.bl false))) sNx)
theorem law1_eq (A : Adr) : s_law_1 A = (sSeq (P0 A) (sSeq (P1 A) (sSeq (sIf (T1 A) (B1 A) (sIf (T2 A) (B2 A) (sIf (T3 A) (B3 A) (sIf (T4 A) (B4 A) (sIf (T5 A) (B5 A) (sIf (T6 A) (B6 A) (sIf (T7 A) (B7 A) sNx))))))) (P3 A)))) := rfl
noncomputable def Q0 (A : Adr) : SM := (sAsg (eFn 1 (f_law_draws A) (aCons (eVar 0) aNil)) (gSet 1))
noncomputable def Q1 (A : Adr) : SM := (sAsg (eCut (eLst (aCons (eC (.str "a")) (aCons (eC (.str "b")) (aCons (eC (.str "cell")) (aCons (eC (.str "d")) (aCons (eC (.str "zz")) aNil)))))) oNone (oSome (eBin gAdd (eC (.int 2)) (eFn 2 (f_law_take A) (aCons (eVar 1) (aCons (eC (.int 4)) aNil)))))) (gSet 2))
noncomputable def Q2 (A : Adr) : SM := (sAsg (eTup (aCons (eMk A.Yard 2 (f_Yard_init A) (aCons (eCall cTuple (aCons (eVar 2) aNil)) aNil)) (aCons (eCall cDictP (aCons (eCmp (iSeq (eVar 2)) [12] (gSet 12) bYes (eTup (aCons (eVar 12) (aCons (eC (.str "")) aNil)))) aNil)) (aCons (eCall cDictP (aCons (eCmp (iSeq (eVar 2)) [12] (gSet 12) bYes (eTup (aCons (eVar 12) (aCons (eC (.str "")) aNil)))) aNil)) aNil)))) (gTupM 3 (gsCons (gSet 3) (gsCons (gSet 4) (gsCons (gSet 5) gsNil)))))
noncomputable def Q3 (A : Adr) : SM := (sAsg (eTup (aCons (eNew aNil) (aCons (eC (.int 0)) (aCons eDNew (aCons (eC (.int 0)) aNil))))) (gTupM 4 (gsCons (gSet 6) (gsCons (gSet 7) (gsCons (gSet 8) (gsCons (gSet 9) gsNil))))))
noncomputable def Q4 (A : Adr) : SM := (sFor (iRngA (aCons (eBin gAdd (eC (.int 12)) (eFn 2 (f_law_take A) (aCons (eVar 1) (aCons (eC (.int 50)) aNil)))) aNil)) (gSet 10) (s_law_1 A))
noncomputable def Q5 (A : Adr) : SM := (sAsg (eMe A.Yard "begin" 1 (f_Yard_begin A) (eVar 3) aNil) (gSet 14))
noncomputable def Q6 (A : Adr) : SM := (sAsg (eBin gAdd (eCmp (iSeq (eLst (aCons (eC (.int 0)) (aCons (eBin gAdd (eVar 14) (eC (.int 1))) (aCons (eC .non) (aCons (eC (.str "1")) aNil)))))) [23] (gSet 23) bYes (eFn 5 (f_law_tried A) (aCons (eC (.int 0)) (aCons (eVar 3) (aCons (eVar 23) (aCons (eBin gIx (eVar 2) (eC (.int 0))) (aCons (eC (.str "a")) aNil))))))) (eCmp (iRngB (aCons (eC (.int 1)) (aCons (eC (.int 3)) aNil))) [24] (gSet 24) bYes (eFn 5 (f_law_tried A) (aCons (eVar 24) (aCons (eVar 3) (aCons (eBin gAdd (eVar 14) (eC (.int 1))) (aCons (eC .non) (aCons (eC .non) aNil)))))))) (gSet 20))
noncomputable def Q7 (A : Adr) : SM := (sAsg (eBin gAdd (eBin gAdd (eVar 20) (eCmp (iSeq (eLst (aCons (eC (.str "nobody")) (aCons (eC .non) (aCons (eC (.int 5)) aNil))))) [23] (gSet 23) bYes (eFn 5 (f_law_tried A) (aCons (eC (.int 0)) (aCons (eVar 3) (aCons (eVar 14) (aCons (eVar 23) (aCons (eC (.str "a")) aNil)))))))) (eCmp (iRngB (aCons (eC (.int 3)) (aCons (eC (.int 5)) aNil))) [24] (gSet 24) bYes (eFn 5 (f_law_tried A) (aCons (eVar 24) (aCons (eVar 3) (aCons (eC (.str "nobody")) (aCons (eC .non) (aCons (eC .non) aNil)))))))) (gSet 20))
noncomputable def Q8 (A : Adr) : SM := (sAsg (eBin gAdd (eBin gAdd (eVar 20) (eCmp (iSeq (eLst (aCons (eNeg (eC (.int 1))) (aCons (eBin gAdd (eMe A.Yard "waiting" 1 (f_Yard_waiting A) (eVar 3) aNil) (eC (.int 1))) (aCons (eC .non) aNil))))) [23] (gSet 23) bYes (eFn 2 (f_law_crashed A) (aCons (eVar 3) (aCons (eVar 23) aNil))))) (eCmp (iSeq (eLst (aCons (eC .non) (aCons (eC (.int 5)) (aCons (eTup (aCons (eC (.str "a")) aNil)) aNil))))) [23] (gSet 23) bYes (eFn 5 (f_law_tried A) (aCons (eC (.int 0)) (aCons (eVar 3) (aCons (eVar 14) (aCons (eBin gIx (eVar 2) (eC (.int 0))) (aCons (eVar 23) aNil)))))))) (gSet 20))
noncomputable def Q9 (A : Adr) : SM := (sAsg (eBin gAdd (eVar 20) (eCmp (iSeq (eLst (aCons (eC .non) (aCons (eTup aNil) (aCons (eLst (aCons (eC (.str "a")) aNil)) (aCons (eTup (aCons (eC (.str "b")) (aCons (eC (.str "a")) aNil))) (aCons (eTup (aCons (eC (.str "a")) (aCons (eC (.str "a")) aNil))) (aCons (eTup (aCons (eC (.str "A")) aNil)) (aCons (eTup (aCons (eC (.str "a")) (aCons (eC .non) aNil))) (aCons (eC (.str "a")) aNil)))))))))) [23] (gSet 23) bYes (eFn 5 (f_law_tried A) (aCons (eC (.int 5)) (aCons (eC .non) (aCons (eVar 23) (aCons (eC .non) (aCons (eC .non) aNil)))))))) (gSet 20))
noncomputable def Q10 (A : Adr) : SM := (sRet (eAnd (eBin gEq (eVar 20) (eBin gAdd (eBin gAdd (eBin gMul (eLst (aCons (eC (.str "none")) aNil)) (eC (.int 11))) (eBin gMul (eLst (aCons (eC (.str "range")) aNil)) (eC (.int 3)))) (eBin gMul (eLst (aCons (eC (.str "form")) aNil)) (eC (.int 11))))) (eBin gEq (eCmp (iSeq (eVar 2)) [23] (gSet 23) bYes (eMe A.Yard "text" 2 (f_Yard_text A) (eVar 3) (aCons (eVar 23) aNil))) (eCmp (iSeq (eVar 2)) [23] (gSet 23) bYes (eBin gIxK (eVar 4) (eVar 23))))))
theorem law_eq (A : Adr) : s_law A = (sSeq (Q0 A) (sSeq (Q1 A) (sSeq (Q2 A) (sSeq (Q3 A) (sSeq (Q4 A) (sSeq (Q5 A) (sSeq (Q6 A) (sSeq (Q7 A) (sSeq (Q8 A) (sSeq (Q9 A) (Q10 A))))))))))) := rfl
end K76
namespace K76
open PySem PySem.Spec PyProof.Rows L2 PD
variable [Tbs]
section
variable {A : Adr} {μ : Mu} {ns : List Str} {o : Lc} {s : S} {K : PySem.W.Frag} {mg : Str → Option Value}
theorem wd_none (T : Txt K mg A) : wd A A.NotThere = some (.str "none") := by
  unfold wd; rw [if_neg T.ne_NotThere_OutOfRange, if_neg T.ne_NotThere_Malformed, if_pos rfl]
theorem wd_range (T : Txt K mg A) : wd A A.OutOfRange = some (.str "range") := by unfold wd; rw [if_pos rfl]
theorem wd_form (T : Txt K mg A) : wd A A.Malformed = some (.str "form") := by
  unfold wd; rw [if_neg T.ne_Malformed_OutOfRange, if_pos rfl]
theorem wd_refused (T : Txt K mg A) : wd A A.Refused = some (.str "refused") := by
  unfold wd; rw [if_neg T.ne_Refused_OutOfRange, if_neg T.ne_Refused_Malformed, if_neg T.ne_Refused_NotThere, if_pos rfl]
theorem hit_none : hit A A.NotThere = some true := by simp [eVar, eC, eBin, eTest, eTru, eAnd, eOr, eNot, eNeg, eIf, eTup, eLst, eNew, eCall, eFn, eMe, eMk, eFld, eMeL, eMeL0, aNil, aCons, bAnd, bOr, bNot, bYes, sSeq, sNx, sEx, sRet, sRetN, sIf, sAsg, gSet, sPar, sFldM, sFldAdd, sRaise, Out.bind, Out.st, SO.seq, fin, runB, startW, hit]
theorem hit_range : hit A A.OutOfRange = some true := by simp [eVar, eC, eBin, eTest, eTru, eAnd, eOr, eNot, eNeg, eIf, eTup, eLst, eNew, eCall, eFn, eMe, eMk, eFld, eMeL, eMeL0, aNil, aCons, bAnd, bOr, bNot, bYes, sSeq, sNx, sEx, sRet, sRetN, sIf, sAsg, gSet, sPar, sFldM, sFldAdd, sRaise, Out.bind, Out.st, SO.seq, fin, runB, startW, hit]
theorem hit_form : hit A A.Malformed = some true := by simp [eVar, eC, eBin, eTest, eTru, eAnd, eOr, eNot, eNeg, eIf, eTup, eLst, eNew, eCall, eFn, eMe, eMk, eFld, eMeL, eMeL0, aNil, aCons, bAnd, bOr, bNot, bYes, sSeq, sNx, sEx, sRet, sRetN, sIf, sAsg, gSet, sPar, sFldM, sFldAdd, sRaise, Out.bind, Out.st, SO.seq, fin, runB, startW, hit]
theorem hit_refused : hit A A.Refused = some true := by simp [eVar, eC, eBin, eTest, eTru, eAnd, eOr, eNot, eNeg, eIf, eTup, eLst, eNew, eCall, eFn, eMe, eMk, eFld, eMeL, eMeL0, aNil, aCons, bAnd, bOr, bNot, bYes, sSeq, sNx, sEx, sRet, sRetN, sIf, sAsg, gSet, sPar, sFldM, sFldAdd, sRaise, Out.bind, Out.st, SO.seq, fin, runB, startW, hit]
theorem tried_rt {a b c d e w : W} {μ' : Mu} (h : b_law_tried A [some a, some b, some c, some d, some e, none] μ = .rt w μ') : f_law_tried A [a, b, c, d, e] μ = .ok w μ' := by
  simp [eVar, eC, eBin, eTest, eTru, eAnd, eOr, eNot, eNeg, eIf, eTup, eLst, eNew, eCall, eFn, eMe, eMk, eFld, eMeL, eMeL0, aNil, aCons, bAnd, bOr, bNot, bYes, sSeq, sNx, sEx, sRet, sRetN, sIf, sAsg, gSet, sPar, sFldM, sFldAdd, sRaise, Out.bind, Out.st, SO.seq, fin, runB, startW, f_law_tried, N_law_tried, s_law_tried, sTryW, h]
theorem tried_er {a b c d e w : W} {μ' : Mu} {x : Addr} (h : b_law_tried A [some a, some b, some c, some d, some e, none] μ = .er x [some a, some b, some c, some d, some e, none] μ') (h1 : hit A x = some true) (h2 : wd A x = some w) : f_law_tried A [a, b, c, d, e] μ = .ok w μ' := by
  simp [eVar, eC, eBin, eTest, eTru, eAnd, eOr, eNot, eNeg, eIf, eTup, eLst, eNew, eCall, eFn, eMe, eMk, eFld, eMeL, eMeL0, aNil, aCons, bAnd, bOr, bNot, bYes, sSeq, sNx, sEx, sRet, sRetN, sIf, sAsg, gSet, sPar, sFldM, sFldAdd, sRaise, Out.bind, Out.st, SO.seq, fin, runB, startW, f_law_tried, N_law_tried, s_law_tried, sTryW, h, h1, h2]
theorem crash_rt {a b w : W} {μ' : Mu} (h : b_law_crashed A [some a, some b, none] μ = .rt w μ') : f_law_crashed A [a, b] μ = .ok w μ' := by
  simp [eVar, eC, eBin, eTest, eTru, eAnd, eOr, eNot, eNeg, eIf, eTup, eLst, eNew, eCall, eFn, eMe, eMk, eFld, eMeL, eMeL0, aNil, aCons, bAnd, bOr, bNot, bYes, sSeq, sNx, sEx, sRet, sRetN, sIf, sAsg, gSet, sPar, sFldM, sFldAdd, sRaise, Out.bind, Out.st, SO.seq, fin, runB, startW, f_law_crashed, N_law_crashed, s_law_crashed, sTryW, h]
theorem crash_er {a b w : W} {μ' : Mu} {x : Addr} (h : b_law_crashed A [some a, some b, none] μ = .er x [some a, some b, none] μ') (h1 : hit A x = some true) (h2 : wd A x = some w) : f_law_crashed A [a, b] μ = .ok w μ' := by
  simp [eVar, eC, eBin, eTest, eTru, eAnd, eOr, eNot, eNeg, eIf, eTup, eLst, eNew, eCall, eFn, eMe, eMk, eFld, eMeL, eMeL0, aNil, aCons, bAnd, bOr, bNot, bYes, sSeq, sNx, sEx, sRet, sRetN, sIf, sAsg, gSet, sPar, sFldM, sFldAdd, sRaise, Out.bind, Out.st, SO.seq, fin, runB, startW, f_law_crashed, N_law_crashed, s_law_crashed, sTryW, h, h1, h2]
variable {y : Nat} {h d l sf b m : W} {a1 a2 a3 : W}
theorem bt0 (hy : μ[y]? = some (.ins A.Yard (yf h d l sf b m))) {r : Out W} (e : f_Yard_put A [.loc y, a1, a2, a3] μ = r) : b_law_tried A [some (.int 0), some (.loc y), some a1, some a2, some a3, none] μ = r.st [some (.int 0), some (.loc y), some a1, some a2, some a3, none] fun w μ1 => .rt w μ1 := by
  subst e
  cases hp : f_Yard_put A [.loc y, a1, a2, a3] μ <;> simp [eVar, eC, eBin, eTest, eTru, eAnd, eOr, eNot, eNeg, eIf, eTup, eLst, eNew, eCall, eFn, eMe, eMk, eFld, eMeL, eMeL0, aNil, aCons, bAnd, bOr, bNot, bYes, sSeq, sNx, sEx, sRet, sRetN, sIf, sAsg, gSet, sPar, sFldM, sFldAdd, sRaise, Out.bind, Out.st, SO.seq, fin, runB, startW, b_law_tried, gEq_int, yf_no hy m_put, hp]
theorem bt1 (hy : μ[y]? = some (.ins A.Yard (yf h d l sf b m))) {r : Out W} (e : f_Yard_end A [.loc y, a1] μ = r) : b_law_tried A [some (.int 1), some (.loc y), some a1, some a2, some a3, none] μ = r.st [some (.int 1), some (.loc y), some a1, some a2, some a3, none] fun w μ1 => .rt w μ1 := by
  subst e
  cases hp : f_Yard_end A [.loc y, a1] μ <;> simp [eVar, eC, eBin, eTest, eTru, eAnd, eOr, eNot, eNeg, eIf, eTup, eLst, eNew, eCall, eFn, eMe, eMk, eFld, eMeL, eMeL0, aNil, aCons, bAnd, bOr, bNot, bYes, sSeq, sNx, sEx, sRet, sRetN, sIf, sAsg, gSet, sPar, sFldM, sFldAdd, sRaise, Out.bind, Out.st, SO.seq, fin, runB, startW, b_law_tried, gEq_int, yf_no hy m_end, hp]
theorem bt2 (hy : μ[y]? = some (.ins A.Yard (yf h d l sf b m))) {r : Out W} (e : f_Yard_drop A [.loc y, a1] μ = r) : b_law_tried A [some (.int 2), some (.loc y), some a1, some a2, some a3, none] μ = r.st [some (.int 2), some (.loc y), some a1, some a2, some a3, none] fun w μ1 => .rt w μ1 := by
  subst e
  cases hp : f_Yard_drop A [.loc y, a1] μ <;> simp [eVar, eC, eBin, eTest, eTru, eAnd, eOr, eNot, eNeg, eIf, eTup, eLst, eNew, eCall, eFn, eMe, eMk, eFld, eMeL, eMeL0, aNil, aCons, bAnd, bOr, bNot, bYes, sSeq, sNx, sEx, sRet, sRetN, sIf, sAsg, gSet, sPar, sFldM, sFldAdd, sRaise, Out.bind, Out.st, SO.seq, fin, runB, startW, b_law_tried, gEq_int, yf_no hy m_drop, hp]
theorem bt3 (hy : μ[y]? = some (.ins A.Yard (yf h d l sf b m))) {r : Out W} (e : f_Yard_flush A [.loc y, a1] μ = r) : b_law_tried A [some (.int 3), some (.loc y), some a1, some a2, some a3, none] μ = r.st [some (.int 3), some (.loc y), some a1, some a2, some a3, none] fun w μ1 => .rt w μ1 := by
  subst e
  cases hp : f_Yard_flush A [.loc y, a1] μ <;> simp [eVar, eC, eBin, eTest, eTru, eAnd, eOr, eNot, eNeg, eIf, eTup, eLst, eNew, eCall, eFn, eMe, eMk, eFld, eMeL, eMeL0, aNil, aCons, bAnd, bOr, bNot, bYes, sSeq, sNx, sEx, sRet, sRetN, sIf, sAsg, gSet, sPar, sFldM, sFldAdd, sRaise, Out.bind, Out.st, SO.seq, fin, runB, startW, b_law_tried, gEq_int, yf_no hy m_flush, hp]
theorem bt4 (hy : μ[y]? = some (.ins A.Yard (yf h d l sf b m))) {r : Out W} (e : f_Yard_text A [.loc y, a1] μ = r) : b_law_tried A [some (.int 4), some (.loc y), some a1, some a2, some a3, none] μ = r.st [some (.int 4), some (.loc y), some a1, some a2, some a3, none] fun w μ1 => .rt w μ1 := by
  subst e
  cases hp : f_Yard_text A [.loc y, a1] μ <;> simp [eVar, eC, eBin, eTest, eTru, eAnd, eOr, eNot, eNeg, eIf, eTup, eLst, eNew, eCall, eFn, eMe, eMk, eFld, eMeL, eMeL0, aNil, aCons, bAnd, bOr, bNot, bYes, sSeq, sNx, sEx, sRet, sRetN, sIf, sAsg, gSet, sPar, sFldM, sFldAdd, sRaise, Out.bind, Out.st, SO.seq, fin, runB, startW, b_law_tried, gEq_int, yf_no hy m_text, hp]
end
section
variable {A : Adr} {μ : Mu} {ns : List Str} {o : Lc} {s : S} {scr : W} {a10 a11 a12 a13 a14 a15 a16 a17 a18 a19 : Tl}
theorem bd_new {f : Wk → Nat} {ws : List Wk} {p : Wk} (h : ∀ q ∈ ws, q.id ≠ p.id) : dPut (bdOf f ws) (.inl p.id) (.loc (f p)) = bdOf f (ws ++ [p]) := by
  have hh : dHas (bdOf f ws) (.inl p.id) = false := by
    unfold dHas bdOf
    rw [List.any_map, List.any_eq_false]
    intro q hq
    simp only [Function.comp, decide_eq_true_iff]
    exact inl_ne (h q hq)
  unfold dPut
  rw [hh, if_neg Bool.false_ne_true]
  simp [eVar, eC, eBin, eTest, eTru, eAnd, eOr, eNot, eNeg, eIf, eTup, eLst, eNew, eCall, eFn, eMe, eMk, eFld, eMeL, eMeL0, aNil, aCons, bAnd, bOr, bNot, bYes, sSeq, sNx, sEx, sRet, sRetN, sIf, sAsg, gSet, sPar, sFldM, sFldAdd, sRaise, Out.bind, Out.st, SO.seq, fin, runB, startW, bdOf]
theorem bd_drop {f : Wk → Nat} {a b : List Wk} {p : Wk} (nd : ((a ++ p :: b).map (·.id)).Nodup) : dDrop (bdOf f (a ++ p :: b)) (.inl p.id) = bdOf f (a ++ b) := by
  rw [List.map_append, List.map_cons, List.nodup_append, List.nodup_cons] at nd
  have ha : ∀ q ∈ a, q.id ≠ p.id := fun q hq => nd.2.2 q.id (List.mem_map_of_mem (f := (·.id)) hq) p.id List.mem_cons_self
  have hb : ∀ q ∈ b, q.id ≠ p.id := fun q hq e => nd.2.1.1 (by rw [← e]; exact List.mem_map_of_mem (f := (·.id)) hq)
  have keep : ∀ l : List Wk, (∀ q ∈ l, q.id ≠ p.id) → (bdOf f l).filter (fun kv => decide (kv.1 ≠ Sum.inl p.id)) = bdOf f l := fun l hl => by
    rw [List.filter_eq_self]
    intro kv hkv
    obtain ⟨q, hq, rfl⟩ := List.mem_map.mp hkv
    exact decide_eq_true (inl_ne (hl q hq))
  unfold dDrop
  have e : bdOf f (a ++ p :: b) = bdOf f a ++ (Sum.inl p.id, .loc (f p)) :: bdOf f b := by simp [eVar, eC, eBin, eTest, eTru, eAnd, eOr, eNot, eNeg, eIf, eTup, eLst, eNew, eCall, eFn, eMe, eMk, eFld, eMeL, eMeL0, aNil, aCons, bAnd, bOr, bNot, bYes, sSeq, sNx, sEx, sRet, sRetN, sIf, sAsg, gSet, sPar, sFldM, sFldAdd, sRaise, Out.bind, Out.st, SO.seq, fin, runB, startW, bdOf]
  rw [e, List.filter_append, List.filter_cons, if_neg (by simp [eVar, eC, eBin, eTest, eTru, eAnd, eOr, eNot, eNeg, eIf, eTup, eLst, eNew, eCall, eFn, eMe, eMk, eFld, eMeL, eMeL0, aNil, aCons, bAnd, bOr, bNot, bYes, sSeq, sNx, sEx, sRet, sRetN, sIf, sAsg, gSet, sPar, sFldM, sFldAdd, sRaise, Out.bind, Out.st, SO.seq, fin, runB, startW]), keep a ha, keep b hb]
  simp [eVar, eC, eBin, eTest, eTru, eAnd, eOr, eNot, eNeg, eIf, eTup, eLst, eNew, eCall, eFn, eMe, eMk, eFld, eMeL, eMeL0, aNil, aCons, bAnd, bOr, bNot, bYes, sSeq, sNx, sEx, sRet, sRetN, sIf, sAsg, gSet, sPar, sFldM, sFldAdd, sRaise, Out.bind, Out.st, SO.seq, fin, runB, startW, bdOf]
theorem br1 (h : Ag μ (cells A ns o s)) (g : Good ns s) (hf : s.ws.length < 3) : ∃ (ly ll : Nat) (μ' : Mu), B1 A (env scr ns o s a10 a11 a12 a13 a14 a15 a16 a17 a18 a19) μ = .nx (env scr ns o { s with ws := s.ws ++ [⟨s.many + 1, [], ly, ll⟩], many := s.many + 1 } a10 a11 a12 a13 a14 a15 a16 a17 a18 a19) μ' ∧ Ag μ' (cells A ns o { s with ws := s.ws ++ [⟨s.many + 1, [], ly, ll⟩], many := s.many + 1 }) := by
  have z0 : (0 : Nat) ≤ sizeLine := Nat.zero_le _
  have zb : ∀ f : Wk → Nat, (bdOf f s.ws).length < sizeLine := fun f => by have := sizeLine_val; simp [eVar, eC, eBin, eTest, eTru, eAnd, eOr, eNot, eNeg, eIf, eTup, eLst, eNew, eCall, eFn, eMe, eMk, eFld, eMeL, eMeL0, aNil, aCons, bAnd, bOr, bNot, bYes, sSeq, sNx, sEx, sRet, sRetN, sIf, sAsg, gSet, sPar, sFldM, sFldAdd, sRaise, Out.bind, Out.st, SO.seq, fin, runB, startW, bdOf]; omega
  have nid : ∀ p : Wk, p.id = s.many + 1 → ∀ q ∈ s.ws, q.id ≠ p.id := fun p e q hq => by have := (g.rng q hq).2; omega
  have hy : μ[o.y]? = some (.ins A.Yard (yf (.loc o.yh) (.loc o.yd) (.loc o.yl) (.int (s.safe : Nat)) (.loc o.yb) (.int s.many))) := h.at 0 rfl
  have hb : μ[o.yb]? = some (.dK (bdOf (·.ly) s.ws) false) := h.at 4 rfl
  have e1 := begin_ok hy hb (h.ne 4 0 rfl rfl (by decide)) (zb _)
  have h1 := (h.setAt 0 rfl (.ins A.Yard (yf (.loc o.yh) (.loc o.yd) (.loc o.yl) (.int (s.safe : Nat)) (.loc o.yb) (.int (s.many + 1))))).new (.lst [])
  have hl1 : (μ.set o.y (.ins A.Yard (yf (.loc o.yh) (.loc o.yd) (.loc o.yl) (.int (s.safe : Nat)) (.loc o.yb) (.int (s.many + 1))))).length = μ.length := by simp [eVar, eC, eBin, eTest, eTru, eAnd, eOr, eNot, eNeg, eIf, eTup, eLst, eNew, eCall, eFn, eMe, eMk, eFld, eMeL, eMeL0, aNil, aCons, bAnd, bOr, bNot, bYes, sSeq, sNx, sEx, sRet, sRetN, sIf, sAsg, gSet, sPar, sFldM, sFldAdd, sRaise, Out.bind, Out.st, SO.seq, fin, runB, startW]
  rw [hl1] at h1
  have h2 := (h1.setAt 4 rfl (.dK (dPut (bdOf (·.ly) s.ws) (.inl (s.many + 1)) (.loc μ.length)) false))
  generalize ((μ.set o.y (.ins A.Yard (yf (.loc o.yh) (.loc o.yd) (.loc o.yl) (.int (s.safe : Nat)) (.loc o.yb) (.int (s.many + 1)))) ++ [Cell.lst []]).set o.yb (.dK (dPut (bdOf (·.ly) s.ws) (.inl (s.many + 1)) (.loc μ.length)) false)) = μ1 at e1 h2
  have h3 := h2.new (.lst [])
  have hg3 : (μ1 ++ [Cell.lst []])[o.lg]? = some (.dK (bdOf (·.ll) s.ws) false) := h3.at 8 rfl
  have h4 := h3.setAt 8 rfl (.dK (dPut (bdOf (·.ll) s.ws) (.inl (s.many + 1)) (.loc μ1.length)) false)
  refine ⟨μ.length, μ1.length, _, ?_, (?_ : Ag ((μ1 ++ [Cell.lst []]).set o.lg (.dK (dPut (bdOf (·.ll) s.ws) (.inl (s.many + 1)) (.loc μ1.length)) false)) _)⟩
  · unfold B1 env
    have ig : insOf A.Yard "begin" μ (.loc o.y) = true := yf_no hy m_begin
    refine (seq_nx (ρ1 := env scr ns o { s with many := s.many + 1 } a10 a11 a12 a13 a14 a15 a16 a17 a18 a19) (μ1 := μ) (by simp [eVar, eC, eBin, eTest, eTru, eAnd, eOr, eNot, eNeg, eIf, eTup, eLst, eNew, eCall, eFn, eMe, eMk, eFld, eMeL, eMeL0, aNil, aCons, bAnd, bOr, bNot, bYes, sSeq, sNx, sEx, sRet, sRetN, sIf, sAsg, gSet, sPar, sFldM, sFldAdd, sRaise, Out.bind, Out.st, SO.seq, fin, runB, startW, env, gAdd, orG, gAddI, gI, Out.els])).trans ?_
    refine (seq_nx (ρ1 := env scr ns o { s with many := s.many + 1 } a10 a11 a12 a13 a14 a15 a16 a17 a18 a19) (μ1 := μ1) (by simp [eVar, eC, eBin, eTest, eTru, eAnd, eOr, eNot, eNeg, eIf, eTup, eLst, eNew, eCall, eFn, eMe, eMk, eFld, eMeL, eMeL0, aNil, aCons, bAnd, bOr, bNot, bYes, sSeq, sNx, sEx, sRet, sRetN, sIf, sAsg, gSet, sPar, sFldM, sFldAdd, sRaise, Out.bind, Out.st, SO.seq, fin, runB, startW, env, ig, e1, gNe_int])).trans ?_
    simp [eVar, eC, eBin, eTest, eTru, eAnd, eOr, eNot, eNeg, eIf, eTup, eLst, eNew, eCall, eFn, eMe, eMk, eFld, eMeL, eMeL0, aNil, aCons, bAnd, bOr, bNot, bYes, sSeq, sNx, sEx, sRet, sRetN, sIf, sAsg, gSet, sPar, sFldM, sFldAdd, sRaise, Out.bind, Out.st, SO.seq, fin, runB, startW, env, z0, gSubK, asK, hg3, zb]
  · have eb1 : dPut (bdOf (·.ly) s.ws) (.inl (s.many + 1)) (.loc μ.length) = bdOf (·.ly) (s.ws ++ [⟨s.many + 1, [], μ.length, μ1.length⟩]) := bd_new (f := (·.ly)) (p := ⟨s.many + 1, [], μ.length, μ1.length⟩) (nid _ rfl)
    have eb2 : dPut (bdOf (·.ll) s.ws) (.inl (s.many + 1)) (.loc μ1.length) = bdOf (·.ll) (s.ws ++ [⟨s.many + 1, [], μ.length, μ1.length⟩]) := bd_new (f := (·.ll)) (p := ⟨s.many + 1, [], μ.length, μ1.length⟩) (nid _ rfl)
    rw [eb1, eb2] at h4
    have el : flat (s.ws ++ [⟨s.many + 1, [], μ.length, μ1.length⟩]) = flat s.ws ++ [(μ.length, .lst [])] ++ [(μ1.length, .lst [])] := by simp [eVar, eC, eBin, eTest, eTru, eAnd, eOr, eNot, eNeg, eIf, eTup, eLst, eNew, eCall, eFn, eMe, eMk, eFld, eMeL, eMeL0, aNil, aCons, bAnd, bOr, bNot, bYes, sSeq, sNx, sEx, sRet, sRetN, sIf, sAsg, gSet, sPar, sFldM, sFldAdd, sRaise, Out.bind, Out.st, SO.seq, fin, runB, startW, flat, rc]
    rw [eb2]
    unfold cells
    dsimp only
    rw [el]
    exact h4
theorem br5 (h : Ag μ (cells A ns o s)) : ∃ μ', B5 A (env scr ns o s a10 a11 a12 a13 a14 a15 a16 a17 a18 a19) μ = .nx (env scr ns o { s with safe := s.log.length } a10 a11 a12 a13 a14 a15 a16 a17 a18 a19) μ' ∧ Ag μ' (cells A ns o { s with safe := s.log.length }) := by
  have hy : μ[o.y]? = some (.ins A.Yard (yf (.loc o.yh) (.loc o.yd) (.loc o.yl) (.int (s.safe : Nat)) (.loc o.yb) (.int s.many))) := h.at 0 rfl
  have hl : μ[o.yl]? = some (.lst (s.log.map yrow)) := h.at 3 rfl
  have e1 := sync_ok hy hl
  rw [List.length_map] at e1
  have h1 := h.setAt 0 rfl (.ins A.Yard (yf (.loc o.yh) (.loc o.yd) (.loc o.yl) (.int (s.log.length : Nat)) (.loc o.yb) (.int s.many)))
  generalize μ.set o.y (.ins A.Yard (yf (.loc o.yh) (.loc o.yd) (.loc o.yl) (.int (s.log.length : Nat)) (.loc o.yb) (.int s.many))) = μ1 at e1 h1
  refine ⟨μ1, ?_, h1⟩
  have hl1 : μ1[o.ll]? = some (.lst (s.log.map lrow)) := h1.at 7 rfl
  have ig : insOf A.Yard "sync" μ (.loc o.y) = true := yf_no hy m_sync
  unfold B5
  refine (seq_nx (ρ1 := env scr ns o s a10 a11 a12 a13 a14 a15 a16 a17 a18 a19) (μ1 := μ1) (by simp [eVar, eC, eBin, eTest, eTru, eAnd, eOr, eNot, eNeg, eIf, eTup, eLst, eNew, eCall, eFn, eMe, eMk, eFld, eMeL, eMeL0, aNil, aCons, bAnd, bOr, bNot, bYes, sSeq, sNx, sEx, sRet, sRetN, sIf, sAsg, gSet, sPar, sFldM, sFldAdd, sRaise, Out.bind, Out.st, SO.seq, fin, runB, startW, env, ig, e1])).trans ?_
  simp [eVar, eC, eBin, eTest, eTru, eAnd, eOr, eNot, eNeg, eIf, eTup, eLst, eNew, eCall, eFn, eMe, eMk, eFld, eMeL, eMeL0, aNil, aCons, bAnd, bOr, bNot, bYes, sSeq, sNx, sEx, sRet, sRetN, sIf, sAsg, gSet, sPar, sFldM, sFldAdd, sRaise, Out.bind, Out.st, SO.seq, fin, runB, startW, env, cLen_loc hl1]
theorem br6 (hN : isNames ns) {n : Str} (hn : n ∈ ns) (h : Ag μ (cells A ns o s)) : ∃ μ', B6 A (env scr ns o s a10 a11 (some (.str n)) a13 a14 a15 a16 a17 a18 a19) μ = .nx (env scr ns o { s with safe := s.log.length, disk := setC s.disk n (s.hand n) } a10 a11 (some (.str n)) a13 a14 a15 a16 a17 a18 a19) μ' ∧ Ag μ' (cells A ns o { s with safe := s.log.length, disk := setC s.disk n (s.hand n) }) := by
  have hy : μ[o.y]? = some (.ins A.Yard (yf (.loc o.yh) (.loc o.yd) (.loc o.yl) (.int (s.safe : Nat)) (.loc o.yb) (.int s.many))) := h.at 0 rfl
  have hh : μ[o.yh]? = some (.dK (dct ns s.hand) false) := h.at 1 rfl
  have hd : μ[o.yd]? = some (.dK (dct ns s.disk) false) := h.at 2 rfl
  have hl : μ[o.yl]? = some (.lst (s.log.map yrow)) := h.at 3 rfl
  have e1 := flush_ok (l := .non) hN hy hh hd hl (h.ne 2 0 rfl rfl (by decide)) hn
  rw [List.length_map] at e1
  have h1 := (h.setAt 0 rfl (.ins A.Yard (yf (.loc o.yh) (.loc o.yd) (.loc o.yl) (.int (s.log.length : Nat)) (.loc o.yb) (.int s.many)))).setAt 2 rfl (.dK (dct ns (setC s.disk n (s.hand n))) false)
  generalize (μ.set o.y (.ins A.Yard (yf (.loc o.yh) (.loc o.yd) (.loc o.yl) (.int (s.log.length : Nat)) (.loc o.yb) (.int s.many)))).set o.yd (.dK (dct ns (setC s.disk n (s.hand n))) false) = μ1 at e1 h1
  refine ⟨μ1, ?_, h1⟩
  have hl1 : μ1[o.ll]? = some (.lst (s.log.map lrow)) := h1.at 7 rfl
  have et : f_law_tried A [.int 3, .loc o.y, .str n, .non, .non] μ = .ok .non μ1 := tried_rt ((bt3 hy e1).trans rfl)
  unfold B6
  refine (seq_nx (ρ1 := env scr ns o s a10 a11 (some (.str n)) a13 a14 a15 a16 a17 a18 a19) (μ1 := μ1) (by simp [eVar, eC, eBin, eTest, eTru, eAnd, eOr, eNot, eNeg, eIf, eTup, eLst, eNew, eCall, eFn, eMe, eMk, eFld, eMeL, eMeL0, aNil, aCons, bAnd, bOr, bNot, bYes, sSeq, sNx, sEx, sRet, sRetN, sIf, sAsg, gSet, sPar, sFldM, sFldAdd, sRaise, Out.bind, Out.st, SO.seq, fin, runB, startW, env, et, gNotN, PD.isNon])).trans ?_
  simp [eVar, eC, eBin, eTest, eTru, eAnd, eOr, eNot, eNeg, eIf, eTup, eLst, eNew, eCall, eFn, eMe, eMk, eFld, eMeL, eMeL0, aNil, aCons, bAnd, bOr, bNot, bYes, sSeq, sNx, sEx, sRet, sRetN, sIf, sAsg, gSet, sPar, sFldM, sFldAdd, sRaise, Out.bind, Out.st, SO.seq, fin, runB, startW, env, cLen_loc hl1]
end
end K76
namespace K76
open PySem PySem.Spec PyProof.Rows L2 PD
variable [Tbs]
section
variable {A : Adr} {μ : Mu} {ns : List Str} {o : Lc} {s : S} {scr : W} {a10 a11 a12 a13 a14 a15 a16 a17 a18 a19 : Tl}
abbrev idsW (s : S) : W := .lst ((s.ws.map (·.id)).map .int)
theorem choose_ix (h : Ag μ (cells A ns o s)) (hw : 0 < s.ws.length) : ∃ (p : Wk) (dl : List Int) (μ' : Mu), p ∈ s.ws ∧ Ag μ' (cells A ns o { s with dl := dl }) ∧
    (eBin gIx (eVar 13) (eFn 2 (f_law_take A) (aCons (eVar 1) (aCons (eCall cLen (aCons (eVar 13) aNil)) aNil)))) (env scr ns o s a10 a11 a12 (some (idsW s)) a14 a15 a16 a17 a18 a19) μ = .ok (.int p.id) μ' := by
  obtain ⟨w, dl2, μ2, e2, w0, w1, h2⟩ := take_st h (b := (s.ws.length : Nat)) (by omega)
  obtain ⟨i, rfl⟩ := Int.eq_ofNat_of_zero_le w0
  have hi : i < s.ws.length := by omega
  have e3 : gIx (idsW s) (.int ((i : Nat) : Int)) μ2 = .ok (.int (s.ws[i]).id) μ2 := ix_lst (by rw [List.getElem?_map, List.getElem?_map, List.getElem?_eq_getElem hi]; rfl)
  refine ⟨s.ws[i], dl2, μ2, List.getElem_mem hi, h2, ?_⟩
  have e4 : cLen [idsW s] μ = .ok (.int (s.ws.length : Nat)) μ := by rw [cLen_lst, List.length_map, List.length_map]
  unfold env
  simp only [eBin, eVar, eFn, eCall, aCons, aNil, List.getElem?_cons_zero, List.getElem?_cons_succ, Out.bind, e4, List.length_cons, List.length_nil, if_true, e2, e3]
theorem flat_del {a b : List Wk} {p : Wk} : (flat (a ++ b)).Sublist (flat (a ++ p :: b)) := by
  unfold flat
  rw [List.flatMap_append, List.flatMap_append, List.flatMap_cons]
  exact (List.Sublist.refl _).append (List.sublist_append_right _ _)
theorem br3 (h : Ag μ (cells A ns o s)) (g : Good ns s) (hw : 0 < s.ws.length) (hz : s.log.length + 1 < sizeLine) : ∃ (a b : List Wk) (p : Wk) (dl : List Int) (μ' : Mu) (b14 : Tl), s.ws = a ++ p :: b ∧
    B3 A (env scr ns o s a10 a11 a12 (some (idsW s)) a14 a15 a16 a17 a18 a19) μ = .nx (env scr ns o { s with log := s.log ++ [.fin p.id], ws := a ++ b, dl := dl } a10 a11 a12 (some (idsW s)) b14 a15 a16 a17 a18 a19) μ' ∧ Ag μ' (cells A ns o { s with log := s.log ++ [.fin p.id], ws := a ++ b, dl := dl }) := by
  have z2 : 2 ≤ sizeLine := by have := sizeLine_val; omega
  obtain ⟨p, dl, μ1, hp, h1, e1⟩ := choose_ix (scr := scr) (a10 := a10) (a11 := a11) (a12 := a12) (a14 := a14) (a15 := a15) (a16 := a16) (a17 := a17) (a18 := a18) (a19 := a19) h hw
  obtain ⟨a, b, e⟩ := List.append_of_mem hp
  have nd := g.nd
  have hr := g.rng p hp
  refine ⟨a, b, p, dl, ?_⟩
  have hy : μ1[o.y]? = some (.ins A.Yard (yf (.loc o.yh) (.loc o.yd) (.loc o.yl) (.int (s.safe : Nat)) (.loc o.yb) (.int s.many))) := h1.at 0 rfl
  have hb : μ1[o.yb]? = some (.dK (bdOf (·.ly) s.ws) false) := h1.at 4 rfl
  have hl : μ1[o.yl]? = some (.lst (s.log.map yrow)) := h1.at 3 rfl
  have ee := end_ok hy hb hl (by rw [List.length_map]; omega) (h1.ne 3 0 rfl rfl (by decide)) (h1.ne 3 4 rfl rfl (by decide)) hr.1 hr.2 (bd_val (f := (·.ly)) nd hp)
  have ea : s.log.map yrow ++ [.tup [.str "end", .int p.id]] = (s.log ++ [Row.fin p.id]).map yrow := by simp [eVar, eC, eBin, eTest, eTru, eAnd, eOr, eNot, eNeg, eIf, eTup, eLst, eNew, eCall, eFn, eMe, eMk, eFld, eMeL, eMeL0, aNil, aCons, bAnd, bOr, bNot, bYes, sSeq, sNx, sEx, sRet, sRetN, sIf, sAsg, gSet, sPar, sFldM, sFldAdd, sRaise, Out.bind, Out.st, SO.seq, fin, runB, startW, yrow]
  have eb : s.log.map lrow ++ [.tup [.str "end", .int p.id]] = (s.log ++ [Row.fin p.id]).map lrow := by simp [eVar, eC, eBin, eTest, eTru, eAnd, eOr, eNot, eNeg, eIf, eTup, eLst, eNew, eCall, eFn, eMe, eMk, eFld, eMeL, eMeL0, aNil, aCons, bAnd, bOr, bNot, bYes, sSeq, sNx, sEx, sRet, sRetN, sIf, sAsg, gSet, sPar, sFldM, sFldAdd, sRaise, Out.bind, Out.st, SO.seq, fin, runB, startW, lrow]
  have ed : ∀ f : Wk → Nat, dDrop (bdOf f s.ws) (.inl p.id) = bdOf f (a ++ b) := fun f => by rw [e]; exact bd_drop (by rw [← e]; exact nd)
  rw [ea, ed] at ee
  have h2 := (h1.setAt 3 rfl (.lst ((s.log ++ [Row.fin p.id]).map yrow))).setAt 4 rfl (.dK (bdOf (·.ly) (a ++ b)) false)
  generalize (μ1.set o.yl (.lst ((s.log ++ [Row.fin p.id]).map yrow))).set o.yb (.dK (bdOf (·.ly) (a ++ b)) false) = μ2 at ee h2
  have et : f_law_tried A [.int 1, .loc o.y, .int p.id, .non, .non] μ1 = .ok .non μ2 := tried_rt ((bt1 hy ee).trans rfl)
  have hll : μ2[o.ll]? = some (.lst (s.log.map lrow)) := h2.at 7 rfl
  have h3 := h2.setAt 7 rfl (.lst ((s.log ++ [Row.fin p.id]).map lrow))
  generalize e3 : μ2.set o.ll (.lst ((s.log ++ [Row.fin p.id]).map lrow)) = μ3 at h3
  have hgo : μ3[o.lg]? = some (.dK (bdOf (·.ll) s.ws) false) := h3.at 8 rfl
  have h4 := h3.setAt 8 rfl (.dK (bdOf (·.ll) (a ++ b)) false)
  generalize e4 : μ3.set o.lg (.dK (bdOf (·.ll) (a ++ b)) false) = μ4 at h4
  refine ⟨μ4, some (.int p.id), e, ?_, ?_⟩
  · unfold B3
    have lz : (s.log.map lrow).length < sizeLine := by rw [List.length_map]; omega
    have eap : mAppend (.loc o.ll) [.tup [.str "end", .int p.id]] μ2 = .ok .non μ3 := by simp only [mAppend, hll, if_pos lz, eb, e3]
    refine (seq_nx (ρ1 := env scr ns o s a10 a11 a12 (some (idsW s)) (some (.int p.id)) a15 a16 a17 a18 a19) (μ1 := μ1) (asg_set e1)).trans ?_
    refine (seq_nx (ρ1 := env scr ns o s a10 a11 a12 (some (idsW s)) (some (.int p.id)) a15 a16 a17 a18 a19) (μ1 := μ2) (by simp [eVar, eC, eBin, eTest, eTru, eAnd, eOr, eNot, eNeg, eIf, eTup, eLst, eNew, eCall, eFn, eMe, eMk, eFld, eMeL, eMeL0, aNil, aCons, bAnd, bOr, bNot, bYes, sSeq, sNx, sEx, sRet, sRetN, sIf, sAsg, gSet, sPar, sFldM, sFldAdd, sRaise, Out.bind, Out.st, SO.seq, fin, runB, startW, env, et, gNotN, PD.isNon])).trans ?_
    refine (seq_nx (ρ1 := env scr ns o s a10 a11 a12 (some (idsW s)) (some (.int p.id)) a15 a16 a17 a18 a19) (μ1 := μ3) (by simp [eVar, eC, eBin, eTest, eTru, eAnd, eOr, eNot, eNeg, eIf, eTup, eLst, eNew, eCall, eFn, eMe, eMk, eFld, eMeL, eMeL0, aNil, aCons, bAnd, bOr, bNot, bYes, sSeq, sNx, sEx, sRet, sRetN, sIf, sAsg, gSet, sPar, sFldM, sFldAdd, sRaise, Out.bind, Out.st, SO.seq, fin, runB, startW, env, isL, asL, hll, z2, eap])).trans ?_
    simp [eVar, eC, eBin, eTest, eTru, eAnd, eOr, eNot, eNeg, eIf, eTup, eLst, eNew, eCall, eFn, eMe, eMk, eFld, eMeL, eMeL0, aNil, aCons, bAnd, bOr, bNot, bYes, sSeq, sNx, sEx, sRet, sRetN, sIf, sAsg, gSet, sPar, sFldM, sFldAdd, sRaise, Out.bind, Out.st, SO.seq, fin, runB, startW, env, eDPop, dAt, hgo, asK, bd_val (f := (·.ll)) nd hp, ed, e4]
  · refine h4.sub ?_
    unfold cells
    iterate 10 apply List.Sublist.cons_cons
    show (flat (a ++ b)).Sublist (flat s.ws)
    rw [e]; exact flat_del
/-! dropping -/
theorem law_walk (hN : isNames ns) {w : Int} {lh ll : Nat} {b0 b1 b2 b3 b5 b7 b8 b9 b10 b11 b12 b13 b15 b16 b19 b20 b21 b22 b23 b24 : Tl} : ∀ (rs : List (Str × Str)) (μ : Mu) (log : List Row) (c : Cells) (a17 a18 : Tl), (∀ q ∈ rs, q.1 ∈ ns) → log.length + rs.length < sizeLine → μ[lh]? = some (.dK (dct ns c) false) → μ[ll]? = some (.lst (log.map lrow)) →
    ∃ c17 c18, forS (gTupM 2 (gsCons (gSet 17) (gsCons (gSet 18) gsNil))) (s_law_0 A) (rs.map rowW) [b0, b1, b2, b3, some (.loc lh), b5, some (.loc ll), b7, b8, b9, b10, b11, b12, b13, some (.int w), b15, b16, a17, a18, b19, b20, b21, b22, b23, b24] μ =
      .nx [b0, b1, b2, b3, some (.loc lh), b5, some (.loc ll), b7, b8, b9, b10, b11, b12, b13, some (.int w), b15, b16, c17, c18, b19, b20, b21, b22, b23, b24] ((μ.set ll (.lst ((dropF w rs (log, c)).1.map lrow))).set lh (.dK (dct ns (dropF w rs (log, c)).2) false))
  | [], μ, log, c, a17, a18, _, _, hh, hl => ⟨a17, a18, by
      show SO.nx _ μ = SO.nx _ ((μ.set ll (.lst (log.map lrow))).set lh (.dK (dct ns c) false))
      rw [set_same hl, set_same hh]⟩
  | (n, o) :: r, μ, log, c, a17, a18, hq, hz, hh, hl => by
    have h : n ∈ ns := hq (n, o) List.mem_cons_self
    rw [List.length_cons] at hz
    have z4 : 4 ≤ sizeLine := by have := sizeLine_val; omega
    have nh : ll ≠ lh := fun e => by rw [e, hh] at hl; cases hl
    have lz : (log.map lrow).length < sizeLine := by rw [List.length_map]; omega
    have ea : (log.map lrow ++ [W.tup [.str "put", .int w, .str n, .str o]]) = (log ++ [Row.put w n (c n) o]).map lrow := by simp [eVar, eC, eBin, eTest, eTru, eAnd, eOr, eNot, eNeg, eIf, eTup, eLst, eNew, eCall, eFn, eMe, eMk, eFld, eMeL, eMeL0, aNil, aCons, bAnd, bOr, bNot, bYes, sSeq, sNx, sEx, sRet, sRetN, sIf, sAsg, gSet, sPar, sFldM, sFldAdd, sRaise, Out.bind, Out.st, SO.seq, fin, runB, startW, lrow]
    generalize e1 : μ.set ll (.lst ((log ++ [Row.put w n (c n) o]).map lrow)) = μ1
    have hh1 : μ1[lh]? = some (.dK (dct ns c) false) := by rw [← e1, List.getElem?_set_ne nh]; exact hh
    have hl1 : μ1[ll]? = some (.lst ((log ++ [Row.put w n (c n) o]).map lrow)) := by rw [← e1]; exact List.getElem?_set_self (List.getElem?_eq_some_iff.mp hl).1
    generalize e2 : μ1.set lh (.dK (dct ns (setC c n o)) false) = μ2
    have hh2 : μ2[lh]? = some (.dK (dct ns (setC c n o)) false) := by rw [← e2]; exact List.getElem?_set_self (List.getElem?_eq_some_iff.mp hh1).1
    have hl2 : μ2[ll]? = some (.lst ((log ++ [Row.put w n (c n) o]).map lrow)) := by rw [← e2, List.getElem?_set_ne (fun e => nh e.symm)]; exact hl1
    have hb : s_law_0 A [b0, b1, b2, b3, some (.loc lh), b5, some (.loc ll), b7, b8, b9, b10, b11, b12, b13, some (.int w), b15, b16, some (.str n), some (.str o), b19, b20, b21, b22, b23, b24] μ = .nx [b0, b1, b2, b3, some (.loc lh), b5, some (.loc ll), b7, b8, b9, b10, b11, b12, b13, some (.int w), b15, b16, some (.str n), some (.str o), b19, b20, b21, b22, b23, b24] μ2 := by
      refine (seq_nx (ρ1 := [b0, b1, b2, b3, some (.loc lh), b5, some (.loc ll), b7, b8, b9, b10, b11, b12, b13, some (.int w), b15, b16, some (.str n), some (.str o), b19, b20, b21, b22, b23, b24]) (μ1 := μ1) ?_).trans ?_
      · have : mAppend (.loc ll) [W.tup [.str "put", .int w, .str n, .str o]] μ = .ok .non μ1 := by
          simp only [mAppend, hl, if_pos lz, ea, e1]
        simp [eVar, eC, eBin, eTest, eTru, eAnd, eOr, eNot, eNeg, eIf, eTup, eLst, eNew, eCall, eFn, eMe, eMk, eFld, eMeL, eMeL0, aNil, aCons, bAnd, bOr, bNot, bYes, sSeq, sNx, sEx, sRet, sRetN, sIf, sAsg, gSet, sPar, sFldM, sFldAdd, sRaise, Out.bind, Out.st, SO.seq, fin, runB, startW, isL, asL, hl, z4, this]
      · simp [eVar, eC, eBin, eTest, eTru, eAnd, eOr, eNot, eNeg, eIf, eTup, eLst, eNew, eCall, eFn, eMe, eMk, eFld, eMeL, eMeL0, aNil, aCons, bAnd, bOr, bNot, bYes, sSeq, sNx, sEx, sRet, sRetN, sIf, sAsg, gSet, sPar, sFldM, sFldAdd, sRaise, Out.bind, Out.st, SO.seq, fin, runB, startW, gSubK, asK, hh1, zdct hN, dct_put h, e2]
    obtain ⟨c17, c18, e3⟩ := law_walk hN (w := w) (b0 := b0) (b1 := b1) (b2 := b2) (b3 := b3) (b5 := b5) (b7 := b7) (b8 := b8) (b9 := b9) (b10 := b10) (b11 := b11) (b12 := b12) (b13 := b13) (b15 := b15) (b16 := b16) (b19 := b19) (b20 := b20) (b21 := b21) (b22 := b22) (b23 := b23) (b24 := b24) r μ2 (log ++ [Row.put w n (c n) o]) (setC c n o) (some (.str n)) (some (.str o)) (fun q hq' => hq q (List.mem_cons_of_mem _ hq')) (by rw [List.length_append, List.length_singleton]; omega) hh2 hl2
    refine ⟨c17, c18, ?_⟩
    have eg : gTupM 2 (gsCons (gSet 17) (gsCons (gSet 18) gsNil)) (rowW (n, o)) [b0, b1, b2, b3, some (.loc lh), b5, some (.loc ll), b7, b8, b9, b10, b11, b12, b13, some (.int w), b15, b16, a17, a18, b19, b20, b21, b22, b23, b24] μ = .ok [b0, b1, b2, b3, some (.loc lh), b5, some (.loc ll), b7, b8, b9, b10, b11, b12, b13, some (.int w), b15, b16, some (.str n), some (.str o), b19, b20, b21, b22, b23, b24] μ := by
      simp [eVar, eC, eBin, eTest, eTru, eAnd, eOr, eNot, eNeg, eIf, eTup, eLst, eNew, eCall, eFn, eMe, eMk, eFld, eMeL, eMeL0, aNil, aCons, bAnd, bOr, bNot, bYes, sSeq, sNx, sEx, sRet, sRetN, sIf, sAsg, gSet, sPar, sFldM, sFldAdd, sRaise, Out.bind, Out.st, SO.seq, fin, runB, startW, gTupM, rowW, gsCons, gsNil]
    have ef : forS (gTupM 2 (gsCons (gSet 17) (gsCons (gSet 18) gsNil))) (s_law_0 A) (((n, o) :: r).map rowW) [b0, b1, b2, b3, some (.loc lh), b5, some (.loc ll), b7, b8, b9, b10, b11, b12, b13, some (.int w), b15, b16, a17, a18, b19, b20, b21, b22, b23, b24] μ = forS (gTupM 2 (gsCons (gSet 17) (gsCons (gSet 18) gsNil))) (s_law_0 A) (r.map rowW) [b0, b1, b2, b3, some (.loc lh), b5, some (.loc ll), b7, b8, b9, b10, b11, b12, b13, some (.int w), b15, b16, some (.str n), some (.str o), b19, b20, b21, b22, b23, b24] μ2 := by
      show (gTupM 2 (gsCons (gSet 17) (gsCons (gSet 18) gsNil)) (rowW (n, o)) _ μ).st _ _ = _
      rw [eg]
      show (match s_law_0 A [b0, b1, b2, b3, some (.loc lh), b5, some (.loc ll), b7, b8, b9, b10, b11, b12, b13, some (.int w), b15, b16, some (.str n), some (.str o), b19, b20, b21, b22, b23, b24] μ with
        | .nx ρ2 μ2 => forS _ (s_law_0 A) (r.map rowW) ρ2 μ2
        | .ct ρ2 μ2 => forS _ (s_law_0 A) (r.map rowW) ρ2 μ2
        | .bk ρ2 μ2 => SO.nx ρ2 μ2
        | o => o) = _
      rw [hb]
    rw [ef, e3, ← e2, ← e1, set2 nh]
    rfl
theorem br4 (hN : isNames ns) (h : Ag μ (cells A ns o s)) (g : Good ns s) (hw : 0 < s.ws.length) (hz : ∀ p ∈ s.ws, s.log.length + p.rows.length + 1 < sizeLine) : ∃ (a b : List Wk) (p : Wk) (dl : List Int) (μ' : Mu) (b14 b17 b18 : Tl), s.ws = a ++ p :: b ∧
    B4 A (env scr ns o s a10 a11 a12 (some (idsW s)) a14 a15 a16 a17 a18 a19) μ = .nx (env scr ns o { s with log := (dropF p.id p.rows.reverse (s.log, s.hand)).1 ++ [.fin p.id], hand := (dropF p.id p.rows.reverse (s.log, s.hand)).2, ws := a ++ b, dl := dl } a10 a11 a12 (some (idsW s)) b14 a15 a16 b17 b18 a19) μ' ∧ Ag μ' (cells A ns o { s with log := (dropF p.id p.rows.reverse (s.log, s.hand)).1 ++ [.fin p.id], hand := (dropF p.id p.rows.reverse (s.log, s.hand)).2, ws := a ++ b, dl := dl }) := by
  have z2 : 2 ≤ sizeLine := by have := sizeLine_val; omega
  obtain ⟨p, dl, μ1, hp, h1, e1⟩ := choose_ix (scr := scr) (a10 := a10) (a11 := a11) (a12 := a12) (a14 := a14) (a15 := a15) (a16 := a16) (a17 := a17) (a18 := a18) (a19 := a19) h hw
  obtain ⟨a, b, e⟩ := List.append_of_mem hp
  have nd := g.nd
  have hr := g.rng p hp
  refine ⟨a, b, p, dl, ?_⟩
  have hy : μ1[o.y]? = some (.ins A.Yard (yf (.loc o.yh) (.loc o.yd) (.loc o.yl) (.int (s.safe : Nat)) (.loc o.yb) (.int s.many))) := h1.at 0 rfl
  have hh : μ1[o.yh]? = some (.dK (dct ns s.hand) false) := h1.at 1 rfl
  have hb : μ1[o.yb]? = some (.dK (bdOf (·.ly) s.ws) false) := h1.at 4 rfl
  have hl : μ1[o.yl]? = some (.lst (s.log.map yrow)) := h1.at 3 rfl
  have h1' : Ag μ1 (cells A ns o { s with dl := dl }) := h1
  have ee := drop_ok hN hy hh hb hl (h1.ne 1 4 rfl rfl (by decide)) nd (fun q hq => at_ly (s := { s with dl := dl }) h1 hq) hp (hz p hp) hr.1 hr.2 (g.rnm p hp)
  have ed : ∀ f : Wk → Nat, dDrop (bdOf f s.ws) (.inl p.id) = bdOf f (a ++ b) := fun f => by rw [e]; exact bd_drop (by rw [← e]; exact nd)
  have hlen := dropF_len (w := p.id) p.rows.reverse (s.log, s.hand)
  have ewalk : ∀ (μ : Mu), μ[o.lh]? = some (.dK (dct ns s.hand) false) → μ[o.ll]? = some (.lst (s.log.map lrow)) → _ := fun μ hh hl => law_walk (A := A) hN (w := p.id) (b0 := some scr) (b1 := some (.loc o.dr)) (b2 := some (.lst (ns.map .str))) (b3 := some (.loc o.y)) (b5 := some (.loc o.lf)) (b7 := some (.int (s.safe : Nat))) (b8 := some (.loc o.lg)) (b9 := some (.int s.many)) (b10 := a10) (b11 := a11) (b12 := a12) (b13 := some (idsW s)) (b15 := a15) (b16 := a16) (b19 := a19) (b20 := none) (b21 := none) (b22 := none) (b23 := none) (b24 := none) p.rows.reverse μ s.log s.hand a17 a18 (fun q hq => g.rnm p hp q (List.mem_reverse.mp hq)) (by rw [List.length_reverse]; have := hz p hp; omega) hh hl
  generalize dropF p.id p.rows.reverse (s.log, s.hand) = D at ee hlen ewalk ⊢
  obtain ⟨lg, c2⟩ := D
  dsimp only at ee hlen ewalk ⊢
  rw [List.length_reverse] at hlen
  rw [ed] at ee
  have h2 := ((h1.setAt 3 rfl (.lst ((lg ++ [Row.fin p.id]).map yrow))).setAt 1 rfl (.dK (dct ns c2) false)).setAt 4 rfl (.dK (bdOf (·.ly) (a ++ b)) false)
  generalize ((μ1.set o.yl (.lst ((lg ++ [Row.fin p.id]).map yrow))).set o.yh (.dK (dct ns c2) false)).set o.yb (.dK (bdOf (·.ly) (a ++ b)) false) = μ2 at ee h2
  have et : f_law_tried A [.int 2, .loc o.y, .int p.id, .non, .non] μ1 = .ok .non μ2 := tried_rt ((bt2 hy ee).trans rfl)
  have hll : μ2[o.ll]? = some (.lst (s.log.map lrow)) := h2.at 7 rfl
  have hlh : μ2[o.lh]? = some (.dK (dct ns s.hand) false) := h2.at 5 rfl
  have hg2 : μ2[o.lg]? = some (.dK (bdOf (·.ll) s.ws) false) := h2.at 8 rfl
  have hpl : μ2[p.ll]? = some (.lst (p.rows.map rowW)) := h2.at_ _ _ (by
    have := (mem_flat (ws := s.ws) hp).2
    unfold cells
    simp only [List.set_cons_succ, List.set_cons_zero]
    iterate 10 apply List.mem_cons_of_mem
    exact this)
  obtain ⟨c17, c18, ew⟩ := ewalk μ2 hlh hll
  have h3 := (h2.setAt 7 rfl (.lst (lg.map lrow))).setAt 5 rfl (.dK (dct ns c2) false)
  generalize (μ2.set o.ll (.lst (lg.map lrow))).set o.lh (.dK (dct ns c2) false) = μ3 at ew h3
  have hl3 : μ3[o.ll]? = some (.lst (lg.map lrow)) := h3.at 7 rfl
  have h4 := h3.setAt 7 rfl (.lst ((lg ++ [Row.fin p.id]).map lrow))
  generalize e4 : μ3.set o.ll (.lst ((lg ++ [Row.fin p.id]).map lrow)) = μ4 at h4
  have hgo : μ4[o.lg]? = some (.dK (bdOf (·.ll) s.ws) false) := h4.at 8 rfl
  have h5 := h4.setAt 8 rfl (.dK (bdOf (·.ll) (a ++ b)) false)
  generalize e5 : μ4.set o.lg (.dK (bdOf (·.ll) (a ++ b)) false) = μ5 at h5
  refine ⟨μ5, some (.int p.id), c17, c18, e, ?_, ?_⟩
  · have eb : lg.map lrow ++ [.tup [.str "end", .int p.id]] = (lg ++ [Row.fin p.id]).map lrow := by simp [eVar, eC, eBin, eTest, eTru, eAnd, eOr, eNot, eNeg, eIf, eTup, eLst, eNew, eCall, eFn, eMe, eMk, eFld, eMeL, eMeL0, aNil, aCons, bAnd, bOr, bNot, bYes, sSeq, sNx, sEx, sRet, sRetN, sIf, sAsg, gSet, sPar, sFldM, sFldAdd, sRaise, Out.bind, Out.st, SO.seq, fin, runB, startW, lrow]
    have lz : (lg.map lrow).length < sizeLine := by rw [List.length_map]; have := hz p hp; omega
    have eap : mAppend (.loc o.ll) [.tup [.str "end", .int p.id]] μ3 = .ok .non μ4 := by simp only [mAppend, hl3, if_pos lz, eb, e4]
    have efor : sFor (iSeq (eRevF (eBin gIxK (eVar 8) (eVar 14)))) (gTupM 2 (gsCons (gSet 17) (gsCons (gSet 18) gsNil))) (s_law_0 A) (env scr ns o s a10 a11 a12 (some (idsW s)) (some (.int p.id)) a15 a16 a17 a18 a19) μ2 = .nx (env scr ns o s a10 a11 a12 (some (idsW s)) (some (.int p.id)) a15 a16 c17 c18 a19) μ3 := by
      unfold env
      rw [← ew]
      simp only [sFor, iSeq, eRevF, eBin, eVar, List.getElem?_cons_zero, List.getElem?_cons_succ, Out.bind, Out.st, gIxK, dAt, hg2, asK, bd_val (f := (·.ll)) nd hp, asL, hpl, itOf, asQ, Option.map_some, List.map_reverse]
    unfold B4
    refine (seq_nx (ρ1 := env scr ns o s a10 a11 a12 (some (idsW s)) (some (.int p.id)) a15 a16 a17 a18 a19) (μ1 := μ1) (asg_set e1)).trans ?_
    refine (seq_nx (ρ1 := env scr ns o s a10 a11 a12 (some (idsW s)) (some (.int p.id)) a15 a16 a17 a18 a19) (μ1 := μ2) (by simp [eVar, eC, eBin, eTest, eTru, eAnd, eOr, eNot, eNeg, eIf, eTup, eLst, eNew, eCall, eFn, eMe, eMk, eFld, eMeL, eMeL0, aNil, aCons, bAnd, bOr, bNot, bYes, sSeq, sNx, sEx, sRet, sRetN, sIf, sAsg, gSet, sPar, sFldM, sFldAdd, sRaise, Out.bind, Out.st, SO.seq, fin, runB, startW, env, et, gNotN, PD.isNon])).trans ?_
    refine (seq_nx efor).trans ?_
    refine (seq_nx (ρ1 := env scr ns o s a10 a11 a12 (some (idsW s)) (some (.int p.id)) a15 a16 c17 c18 a19) (μ1 := μ4) (by simp [eVar, eC, eBin, eTest, eTru, eAnd, eOr, eNot, eNeg, eIf, eTup, eLst, eNew, eCall, eFn, eMe, eMk, eFld, eMeL, eMeL0, aNil, aCons, bAnd, bOr, bNot, bYes, sSeq, sNx, sEx, sRet, sRetN, sIf, sAsg, gSet, sPar, sFldM, sFldAdd, sRaise, Out.bind, Out.st, SO.seq, fin, runB, startW, env, isL, asL, hl3, z2, eap])).trans ?_
    simp [eVar, eC, eBin, eTest, eTru, eAnd, eOr, eNot, eNeg, eIf, eTup, eLst, eNew, eCall, eFn, eMe, eMk, eFld, eMeL, eMeL0, aNil, aCons, bAnd, bOr, bNot, bYes, sSeq, sNx, sEx, sRet, sRetN, sIf, sAsg, gSet, sPar, sFldM, sFldAdd, sRaise, Out.bind, Out.st, SO.seq, fin, runB, startW, env, eDPop, dAt, hgo, asK, bd_val (f := (·.ll)) nd hp, ed, e5]
  · refine h5.sub ?_
    unfold cells
    iterate 10 apply List.Sublist.cons_cons
    show (flat (a ++ b)).Sublist (flat s.ws)
    rw [e]; exact flat_del
end
end K76
namespace K76
open PySem PySem.Spec PyProof.Rows L2 PD
variable [Tbs]
section
variable {A : Adr} {μ : Mu} {ns : List Str} {o : Lc} {s : S} {scr : W} {a10 a11 a12 a13 a14 a15 a16 a17 a18 a19 : Tl}
theorem and_no {c d : EM} {ρ : PD.Env} (h : c ρ μ = .ok (.bl false) μ) : bAnd (eTest c) (eTest d) ρ μ = .ok false μ := by
  simp only [bAnd, eTest, h, Out.bind, Bool.false_eq_true, if_false]
theorem and_yes {c d : EM} {ρ : PD.Env} {b : Bool} (h : c ρ μ = .ok (.bl true) μ) (h2 : d ρ μ = .ok (.bl b) μ) : bAnd (eTest c) (eTest d) ρ μ = .ok b μ := by
  simp only [bAnd, eTest, h, h2, Out.bind, if_true]
theorem bin_of {g : GOp} {a b : EM} {ρ : PD.Env} {x y : W} {μ1 μ2 : Mu} (h : a ρ μ = .ok x μ1) (h2 : b ρ μ1 = .ok y μ2) : eBin g a b ρ μ = g x y μ2 := by
  simp only [eBin, h, h2, Out.bind]
theorem var_of {i : Nat} {ρ : PD.Env} {w : W} (h : ρ[i]? = some (some w)) : eVar i ρ μ = .ok w μ := by simp only [eVar, h]
theorem cmpS_filter {g : W → PD.Env → Mu → Out PD.Env} {tt : BM} {me : EM} {ρ : PD.Env} {t : W → Bool} : ∀ (l acc : List W), (∀ x ∈ l, ∃ ρ1, g x ρ μ = .ok ρ1 μ ∧ tt ρ1 μ = .ok (t x) μ ∧ me ρ1 μ = .ok x μ) → acc.length + l.length ≤ sizeLine →
    cmpS g tt me ρ l acc μ = .ok (.lst (acc ++ l.filter t)) μ
  | [], acc, _, _ => by simp [eVar, eC, eBin, eTest, eTru, eAnd, eOr, eNot, eNeg, eIf, eTup, eLst, eNew, eCall, eFn, eMe, eMk, eFld, eMeL, eMeL0, aNil, aCons, bAnd, bOr, bNot, bYes, sSeq, sNx, sEx, sRet, sRetN, sIf, sAsg, gSet, sPar, sFldM, sFldAdd, sRaise, Out.bind, Out.st, SO.seq, fin, runB, startW, cmpS]
  | x :: l, acc, h, hs => by
    obtain ⟨ρ1, e1, e2, e3⟩ := h x List.mem_cons_self
    rw [List.length_cons] at hs
    unfold cmpS
    cases ht : t x with
    | true =>
      simp only [e1, e2, e3, ht]
      rw [if_pos (by omega), cmpS_filter l (acc ++ [x]) (fun y hy => h y (List.mem_cons_of_mem _ hy)) (by rw [List.length_append, List.length_singleton]; omega), List.filter_cons, ht, if_pos rfl]
      simp [eVar, eC, eBin, eTest, eTru, eAnd, eOr, eNot, eNeg, eIf, eTup, eLst, eNew, eCall, eFn, eMe, eMk, eFld, eMeL, eMeL0, aNil, aCons, bAnd, bOr, bNot, bYes, sSeq, sNx, sEx, sRet, sRetN, sIf, sAsg, gSet, sPar, sFldM, sFldAdd, sRaise, Out.bind, Out.st, SO.seq, fin, runB, startW]
    | false =>
      simp only [e1, e2, ht]
      rw [cmpS_filter l acc (fun y hy => h y (List.mem_cons_of_mem _ hy)) (by omega), List.filter_cons, ht, if_neg Bool.false_ne_true]
def heldT (ws : List Wk) (i : Int) (n : Str) (x : W) : Bool := ws.any fun p => (match x with | .int j => decide (p.id = j) | _ => false) && (decide (p.id ≠ i) && decide (n ∈ nm p))
theorem heldT_at {ws : List Wk} {i : Int} {n : Str} (nd : (ws.map (·.id)).Nodup) {p : Wk} (hp : p ∈ ws) : heldT ws i n (.int p.id) = (decide (p.id ≠ i) && decide (n ∈ nm p)) := by
  show (ws.any fun q => decide (q.id = p.id) && (decide (q.id ≠ i) && decide (n ∈ nm q))) = _
  refine Bool.eq_iff_iff.mpr ?_
  rw [List.any_eq_true]
  constructor
  · rintro ⟨q, hq, h⟩
    simp only [Bool.and_eq_true, decide_eq_true_iff] at h
    have : q = p := by
      obtain ⟨a, ha, ea⟩ := List.getElem_of_mem hq
      obtain ⟨b, hb', eb⟩ := List.getElem_of_mem hp
      have z : (ws.map (·.id))[a]'(by simpa using ha) = (ws.map (·.id))[b]'(by simpa using hb') := by simp [eVar, eC, eBin, eTest, eTru, eAnd, eOr, eNot, eNeg, eIf, eTup, eLst, eNew, eCall, eFn, eMe, eMk, eFld, eMeL, eMeL0, aNil, aCons, bAnd, bOr, bNot, bYes, sSeq, sNx, sEx, sRet, sRetN, sIf, sAsg, gSet, sPar, sFldM, sFldAdd, sRaise, Out.bind, Out.st, SO.seq, fin, runB, startW, ea, eb, h.1]
      have := (List.getElem_inj nd).mp z
      subst this
      rw [← ea, ← eb]
    subst this
    simp only [Bool.and_eq_true, decide_eq_true_iff]
    exact h.2
  · intro h
    exact ⟨p, hp, by rw [Bool.and_eq_true]; exact ⟨decide_eq_true rfl, h⟩⟩
def heldIds (ws : List Wk) (i : Int) (n : Str) : List Int := (ws.map (·.id)).filter fun j => heldT ws i n (.int j)
theorem heldIds_nil {ws : List Wk} {i : Int} {n : Str} (nd : (ws.map (·.id)).Nodup) : heldIds ws i n = [] ↔ heldBy ws i n = false := by
  unfold heldIds heldBy
  rw [List.filter_eq_nil_iff, List.any_eq_false]
  constructor
  · intro h p hp
    have := h p.id (List.mem_map_of_mem (f := (·.id)) hp)
    rw [heldT_at nd hp] at this
    exact this
  · intro h j hj
    obtain ⟨p, hp, rfl⟩ := List.mem_map.mp hj
    rw [heldT_at nd hp]
    exact h p hp
theorem held_comp (h : Ag μ (cells A ns o s)) (nd : (s.ws.map (·.id)).Nodup) (hz : ∀ p ∈ s.ws, p.rows.length ≤ sizeLine) (hf : s.ws.length ≤ 3) {i : Int} {n : Str} :
    eCmp (iSeq (eVar 13)) [21] (gSet 21) (bAnd (eTest (eBin gNe (eVar 21) (eVar 14))) (eTest (eBin gIn (eVar 12) (eCmp (iSeq (eBin gIxK (eVar 8) (eVar 21))) [22] (gSet 22) bYes (eBin gIx (eVar 22) (eC (.int 0))))))) (eVar 21) (env scr ns o s a10 a11 (some (.str n)) (some (idsW s)) (some (.int i)) a15 a16 a17 a18 a19) μ = .ok (.lst ((heldIds s.ws i n).map .int)) μ := by
  have hg : μ[o.lg]? = some (.dK (bdOf (·.ll) s.ws) false) := h.at 8 rfl
  have key := cmpS_filter (μ := μ) (g := gSet 21) (tt := bAnd (eTest (eBin gNe (eVar 21) (eVar 14))) (eTest (eBin gIn (eVar 12) (eCmp (iSeq (eBin gIxK (eVar 8) (eVar 21))) [22] (gSet 22) bYes (eBin gIx (eVar 22) (eC (.int 0))))))) (me := eVar 21) (ρ := env scr ns o s a10 a11 (some (.str n)) (some (idsW s)) (some (.int i)) a15 a16 a17 a18 a19) (t := heldT s.ws i n) ((s.ws.map (·.id)).map .int) [] (fun x hx => by
    obtain ⟨j, hj, rfl⟩ := List.mem_map.mp hx
    obtain ⟨p, hp, rfl⟩ := List.mem_map.mp hj
    refine ⟨(env scr ns o s a10 a11 (some (.str n)) (some (idsW s)) (some (.int i)) a15 a16 a17 a18 a19).set 21 (some (.int p.id)), rfl, ?_, rfl⟩
    rw [heldT_at nd hp]
    have hit : (Iter.cell p.ll).items μ = some (p.rows.map rowW) := by simp [eVar, eC, eBin, eTest, eTru, eAnd, eOr, eNot, eNeg, eIf, eTup, eLst, eNew, eCall, eFn, eMe, eMk, eFld, eMeL, eMeL0, aNil, aCons, bAnd, bOr, bNot, bYes, sSeq, sNx, sEx, sRet, sRetN, sIf, sAsg, gSet, sPar, sFldM, sFldAdd, sRaise, Out.bind, Out.st, SO.seq, fin, runB, startW, Iter.items, at_ll h hp]
    have hcmp : eCmp (iSeq (eBin gIxK (eVar 8) (eVar 21))) [22] (gSet 22) bYes (eBin gIx (eVar 22) (eC (.int 0))) ((env scr ns o s a10 a11 (some (.str n)) (some (idsW s)) (some (.int i)) a15 a16 a17 a18 a19).set 21 (some (.int p.id))) μ = .ok (.lst ((nm p).map .str)) μ := by
      have e2 : cmpL (.cell p.ll) (p.rows.map rowW) (gSet 22) bYes (eBin gIx (eVar 22) (eC (.int 0))) (wipeW ((env scr ns o s a10 a11 (some (.str n)) (some (idsW s)) (some (.int i)) a15 a16 a17 a18 a19).set 21 (some (.int p.id))) [22]) (p.rows.map rowW) [] μ = .ok (.lst ((nm p).map .str)) μ := by
        rw [cmpL_map hit (φ := fun w => match w with | .tup (x :: _) => x | _ => .non) _ _ (fun x hx => ?_) (by simpa using hz p hp)]
        · simp [eVar, eC, eBin, eTest, eTru, eAnd, eOr, eNot, eNeg, eIf, eTup, eLst, eNew, eCall, eFn, eMe, eMk, eFld, eMeL, eMeL0, aNil, aCons, bAnd, bOr, bNot, bYes, sSeq, sNx, sEx, sRet, sRetN, sIf, sAsg, gSet, sPar, sFldM, sFldAdd, sRaise, Out.bind, Out.st, SO.seq, fin, runB, startW, rowW, nm]
        · obtain ⟨q, hq, rfl⟩ := List.mem_map.mp hx
          exact ⟨_, rfl, rfl, by simp [eVar, eC, eBin, eTest, eTru, eAnd, eOr, eNot, eNeg, eIf, eTup, eLst, eNew, eCall, eFn, eMe, eMk, eFld, eMeL, eMeL0, aNil, aCons, bAnd, bOr, bNot, bYes, sSeq, sNx, sEx, sRet, sRetN, sIf, sAsg, gSet, sPar, sFldM, sFldAdd, sRaise, Out.bind, Out.st, SO.seq, fin, runB, startW, wipeW, rowW, gIx, orG, gIxQ, asQ, atI, ixN, Out.els, env]⟩
      rw [← e2]
      simp [eVar, eC, eBin, eTest, eTru, eAnd, eOr, eNot, eNeg, eIf, eTup, eLst, eNew, eCall, eFn, eMe, eMk, eFld, eMeL, eMeL0, aNil, aCons, bAnd, bOr, bNot, bYes, sSeq, sNx, sEx, sRet, sRetN, sIf, sAsg, gSet, sPar, sFldM, sFldAdd, sRaise, Out.bind, Out.st, SO.seq, fin, runB, startW, eCmp, iSeq, env, gIxK, dAt, hg, asK, bd_val (f := (·.ll)) nd hp, itOf, asL, at_ll h hp, hit]
    have g21 : ((env scr ns o s a10 a11 (some (.str n)) (some (idsW s)) (some (.int i)) a15 a16 a17 a18 a19).set 21 (some (.int p.id)))[21]? = some (some (.int p.id)) := rfl
    have g14 : ((env scr ns o s a10 a11 (some (.str n)) (some (idsW s)) (some (.int i)) a15 a16 a17 a18 a19).set 21 (some (.int p.id)))[14]? = some (some (.int i)) := rfl
    have g12 : ((env scr ns o s a10 a11 (some (.str n)) (some (idsW s)) (some (.int i)) a15 a16 a17 a18 a19).set 21 (some (.int p.id)))[12]? = some (some (.str n)) := rfl
    have ene : eBin gNe (eVar 21) (eVar 14) ((env scr ns o s a10 a11 (some (.str n)) (some (idsW s)) (some (.int i)) a15 a16 a17 a18 a19).set 21 (some (.int p.id))) μ = .ok (.bl (!(p.id == i))) μ :=
      (bin_of (var_of g21) (var_of g14)).trans gNe_int
    have ein : eBin gIn (eVar 12) (eCmp (iSeq (eBin gIxK (eVar 8) (eVar 21))) [22] (gSet 22) bYes (eBin gIx (eVar 22) (eC (.int 0)))) ((env scr ns o s a10 a11 (some (.str n)) (some (idsW s)) (some (.int i)) a15 a16 a17 a18 a19).set 21 (some (.int p.id))) μ = .ok (.bl (decide (n ∈ nm p))) μ :=
      (bin_of (var_of g12) hcmp).trans in_strs
    by_cases hi : p.id = i
    · have hib : (!(p.id == i)) = false := by rw [beq_iff_eq.mpr hi]; rfl
      rw [hib] at ene
      rw [decide_eq_false (show ¬ p.id ≠ i from fun z => z hi), Bool.false_and]
      exact and_no ene
    · have hib : (!(p.id == i)) = true := by rw [beq_eq_false_iff_ne.mpr hi]; rfl
      rw [hib] at ene
      rw [decide_eq_true hi, Bool.true_and]
      exact and_yes ene ein) (by have := sizeLine_val; simp [eVar, eC, eBin, eTest, eTru, eAnd, eOr, eNot, eNeg, eIf, eTup, eLst, eNew, eCall, eFn, eMe, eMk, eFld, eMeL, eMeL0, aNil, aCons, bAnd, bOr, bNot, bYes, sSeq, sNx, sEx, sRet, sRetN, sIf, sAsg, gSet, sPar, sFldM, sFldAdd, sRaise, Out.bind, Out.st, SO.seq, fin, runB, startW]; omega)
  have e3 : ([] : List W) ++ ((s.ws.map (·.id)).map W.int).filter (heldT s.ws i n) = (heldIds s.ws i n).map .int := by
    rw [List.nil_append, List.filter_map]; rfl
  rw [e3] at key
  rw [← key]
  unfold eCmp iSeq
  show cmpS _ _ _ _ _ _ _ = _
  rfl
end
end K76
namespace K76
open PySem PySem.Spec PyProof.Rows L2 PD
variable [Tbs]
section
variable {A : Adr} {μ : Mu} {ns : List Str} {o : Lc} {s : S} {scr : W} {a10 a11 a12 a13 a14 a15 a16 a17 a18 a19 : Tl} {K : PySem.W.Frag} {mg : Str → Option Value}
def txts : List Str := ["x", "yy", "", "z"]
theorem ne_nil {ids : List Int} : gNe (.lst (ids.map .int)) (.lst []) μ = .ok (.bl (!decide (ids = []))) μ := gNe_intsL (b := [])
theorem eq_nil {ids : List Int} : gEq (.lst (ids.map .int)) (.lst []) μ = .ok (.bl (decide (ids = []))) μ := gEq_intsL (b := [])
theorem ne_nil0 : gNe (.lst []) (.lst []) μ = .ok (.bl false) μ := rfl
theorem tup2 {a b : EM} {ρ : PD.Env} {x y : W} {μ1 μ2 : Mu} (h : a ρ μ = .ok x μ1) (h2 : b ρ μ1 = .ok y μ2) : eTup (aCons a (aCons b aNil)) ρ μ = .ok (.tup [x, y]) μ2 := by
  have z2 : 2 ≤ sizeLine := by have := sizeLine_val; omega
  simp [eVar, eC, eBin, eTest, eTru, eAnd, eOr, eNot, eNeg, eIf, eTup, eLst, eNew, eCall, eFn, eMe, eMk, eFld, eMeL, eMeL0, aNil, aCons, bAnd, bOr, bNot, bYes, sSeq, sNx, sEx, sRet, sRetN, sIf, sAsg, gSet, sPar, sFldM, sFldAdd, sRaise, Out.bind, Out.st, SO.seq, fin, runB, startW, h, h2, z2]
theorem ne_non : gNe .non .non μ = .ok (.bl false) μ := rfl
theorem ne_ref : gNe (.str "refused") (.str "refused") μ = .ok (.bl false) μ := by rw [gNe_str (by decide +kernel) (by decide +kernel)]; simp [eVar, eC, eBin, eTest, eTru, eAnd, eOr, eNot, eNeg, eIf, eTup, eLst, eNew, eCall, eFn, eMe, eMk, eFld, eMeL, eMeL0, aNil, aCons, bAnd, bOr, bNot, bYes, sSeq, sNx, sEx, sRet, sRetN, sIf, sAsg, gSet, sPar, sFldM, sFldAdd, sRaise, Out.bind, Out.st, SO.seq, fin, runB, startW]
theorem pickWT (h : Ag μ (cells A ns o s)) (hw : 0 < s.ws.length) : ∃ (p : Wk) (x : Str) (dl : List Int) (μ' : Mu), p ∈ s.ws ∧ x ∈ txts ∧ Ag μ' (cells A ns o { s with dl := dl }) ∧
    sAsg (eTup (aCons (eBin gIx (eVar 13) (eFn 2 (f_law_take A) (aCons (eVar 1) (aCons (eCall cLen (aCons (eVar 13) aNil)) aNil)))) (aCons (eBin gIx (eLst (aCons (eC (.str "x")) (aCons (eC (.str "yy")) (aCons (eC (.str "")) (aCons (eC (.str "z")) aNil))))) (eFn 2 (f_law_take A) (aCons (eVar 1) (aCons (eC (.int 4)) aNil)))) aNil))) (gTupM 2 (gsCons (gSet 14) (gsCons (gSet 15) gsNil))) (env scr ns o s a10 a11 a12 (some (idsW s)) a14 a15 a16 a17 a18 a19) μ =
      .nx (env scr ns o s a10 a11 a12 (some (idsW s)) (some (.int p.id)) (some (.str x)) a16 a17 a18 a19) μ' := by
  have z2 : 2 ≤ sizeLine := by have := sizeLine_val; omega
  have z4 : 4 ≤ sizeLine := by have := sizeLine_val; omega
  obtain ⟨p, dl, μ1, hp, h1, e1⟩ := choose_ix (scr := scr) (a10 := a10) (a11 := a11) (a12 := a12) (a14 := a14) (a15 := a15) (a16 := a16) (a17 := a17) (a18 := a18) (a19 := a19) h hw
  obtain ⟨w, dl2, μ2, e2, w0, w1, h2⟩ := take_st h1 (b := 4) (by decide)
  obtain ⟨i, rfl⟩ := Int.eq_ofNat_of_zero_le w0
  have hi : i < txts.length := by show i < 4; omega
  have e3 : gIx (.lst [.str "x", .str "yy", .str "", .str "z"]) (.int ((i : Nat) : Int)) μ2 = .ok (.str txts[i]) μ2 := ix_lst (l := txts.map .str) (by rw [List.getElem?_map, List.getElem?_eq_getElem hi]; rfl)
  refine ⟨p, txts[i], dl2, μ2, hp, List.getElem_mem hi, h2, ?_⟩
  have e5 : eBin gIx (eLst (aCons (eC (.str "x")) (aCons (eC (.str "yy")) (aCons (eC (.str "")) (aCons (eC (.str "z")) aNil))))) (eFn 2 (f_law_take A) (aCons (eVar 1) (aCons (eC (.int 4)) aNil))) (env scr ns o s a10 a11 a12 (some (idsW s)) a14 a15 a16 a17 a18 a19) μ1 = .ok (.str txts[i]) μ2 := by
    simp [eVar, eC, eBin, eTest, eTru, eAnd, eOr, eNot, eNeg, eIf, eTup, eLst, eNew, eCall, eFn, eMe, eMk, eFld, eMeL, eMeL0, aNil, aCons, bAnd, bOr, bNot, bYes, sSeq, sNx, sEx, sRet, sRetN, sIf, sAsg, gSet, sPar, sFldM, sFldAdd, sRaise, Out.bind, Out.st, SO.seq, fin, runB, startW, env, z4, e2, e3]
  have e6 : eTup (aCons (eBin gIx (eVar 13) (eFn 2 (f_law_take A) (aCons (eVar 1) (aCons (eCall cLen (aCons (eVar 13) aNil)) aNil)))) (aCons (eBin gIx (eLst (aCons (eC (.str "x")) (aCons (eC (.str "yy")) (aCons (eC (.str "")) (aCons (eC (.str "z")) aNil))))) (eFn 2 (f_law_take A) (aCons (eVar 1) (aCons (eC (.int 4)) aNil)))) aNil)) (env scr ns o s a10 a11 a12 (some (idsW s)) a14 a15 a16 a17 a18 a19) μ = .ok (.tup [.int p.id, .str txts[i]]) μ2 := by
    exact tup2 e1 e5
  unfold sAsg
  rw [e6]
  simp [eVar, eC, eBin, eTest, eTru, eAnd, eOr, eNot, eNeg, eIf, eTup, eLst, eNew, eCall, eFn, eMe, eMk, eFld, eMeL, eMeL0, aNil, aCons, bAnd, bOr, bNot, bYes, sSeq, sNx, sEx, sRet, sRetN, sIf, sAsg, gSet, sPar, sFldM, sFldAdd, sRaise, Out.bind, Out.st, SO.seq, fin, runB, startW, env, gTupM, gsCons, gsNil]
theorem br2 (T : Txt K mg A) (hN : isNames ns) {n : Str} (hn : n ∈ ns) (h : Ag μ (cells A ns o s)) (g : Good ns s) (hw : 0 < s.ws.length) (hf : s.ws.length ≤ 3) (hzl : s.log.length < sizeLine) (hz : ∀ p ∈ s.ws, p.rows.length < sizeLine) :
    ∃ (dl : List Int) (μ' : Mu) (b14 b15 b16 : Tl) (s' : S), B2 A (env scr ns o s a10 a11 (some (.str n)) (some (idsW s)) a14 a15 a16 a17 a18 a19) μ = .nx (env scr ns o s' a10 a11 (some (.str n)) (some (idsW s)) b14 b15 b16 a17 a18 a19) μ' ∧ Ag μ' (cells A ns o s') ∧
      (s' = { s with dl := dl } ∨ ∃ (a b : List Wk) (p : Wk) (x : Str), s.ws = a ++ p :: b ∧ x ∈ txts ∧ heldBy s.ws p.id n = false ∧
        s' = { s with log := s.log ++ [.put p.id n (s.hand n) x], hand := setC s.hand n x, ws := a ++ { p with rows := p.rows ++ [(n, s.hand n)] } :: b, dl := dl }) := by
  have z2 : 2 ≤ sizeLine := by have := sizeLine_val; omega
  have z4 : 4 ≤ sizeLine := by have := sizeLine_val; omega
  obtain ⟨p, x, dl, μ1, hp, hx, h1, e1⟩ := pickWT (scr := scr) (a10 := a10) (a11 := a11) (a12 := some (.str n)) (a14 := a14) (a15 := a15) (a16 := a16) (a17 := a17) (a18 := a18) (a19 := a19) h hw
  have nd := g.nd
  have hr := g.rng p hp
  have hy : μ1[o.y]? = some (.ins A.Yard (yf (.loc o.yh) (.loc o.yd) (.loc o.yl) (.int (s.safe : Nat)) (.loc o.yb) (.int s.many))) := h1.at 0 rfl
  have hh : μ1[o.yh]? = some (.dK (dct ns s.hand) false) := h1.at 1 rfl
  have hb : μ1[o.yb]? = some (.dK (bdOf (·.ly) s.ws) false) := h1.at 4 rfl
  have hl : μ1[o.yl]? = some (.lst (s.log.map yrow)) := h1.at 3 rfl
  have hrow : ∀ q ∈ s.ws, μ1[q.ly]? = some (.lst (q.rows.map rowW)) := fun q hq => at_ly (s := { s with dl := dl }) h1 hq
  have ehc := held_comp (scr := scr) (a10 := a10) (a11 := a11) (a15 := some (.str x)) (a16 := a16) (a17 := a17) (a18 := a18) (a19 := a19) (s := { s with dl := dl }) h1 nd (fun q hq => Nat.le_of_lt (hz q hq)) hf (i := p.id) (n := n)
  have s1 := (seq_nx (b := sSeq (sAsg (eCmp (iSeq (eVar 13)) [21] (gSet 21) (bAnd (eTest (eBin gNe (eVar 21) (eVar 14))) (eTest (eBin gIn (eVar 12) (eCmp (iSeq (eBin gIxK (eVar 8) (eVar 21))) [22] (gSet 22) bYes (eBin gIx (eVar 22) (eC (.int 0))))))) (eVar 21)) (gSet 16))
 (sSeq (sIf (eTest (eBin gNe (eFn 5 (f_law_tried A) (aCons (eC (.int 0)) (aCons (eVar 3) (aCons (eVar 14) (aCons (eVar 12) (aCons (eVar 15) aNil)))))) (eIf (eTest (eBin gNe (eVar 16) (eLst aNil))) (eC (.str "refused")) (eC .non)))) (sRet (eC (.bl false))) sNx)
 (sIf (eTest (eBin gEq (eVar 16) (eLst aNil))) (sSeq (sEx (eMeL mAppend (eVar 6) (aCons (eTup (aCons (eC (.str "put")) (aCons (eVar 14) (aCons (eVar 12) (aCons (eVar 15) aNil))))) aNil)))
 (sSeq (sEx (eMeL mAppend (eBin gIxK (eVar 8) (eVar 14)) (aCons (eTup (aCons (eVar 12) (aCons (eBin gIxK (eVar 4) (eVar 12)) aNil))) aNil)))
 (sAsg (eVar 15) (gSubK (eVar 4) (eVar 12))))) sNx))) e1)
  have s2 : sAsg (eCmp (iSeq (eVar 13)) [21] (gSet 21) (bAnd (eTest (eBin gNe (eVar 21) (eVar 14))) (eTest (eBin gIn (eVar 12) (eCmp (iSeq (eBin gIxK (eVar 8) (eVar 21))) [22] (gSet 22) bYes (eBin gIx (eVar 22) (eC (.int 0))))))) (eVar 21)) (gSet 16) (env scr ns o s a10 a11 (some (.str n)) (some (idsW s)) (some (.int p.id)) (some (.str x)) a16 a17 a18 a19) μ1 = .nx (env scr ns o s a10 a11 (some (.str n)) (some (idsW s)) (some (.int p.id)) (some (.str x)) (some (.lst ((heldIds s.ws p.id n).map .int))) a17 a18 a19) μ1 := asg_set ehc
  cases hbb : heldBy s.ws p.id n with
  | true =>
    have hne : ¬ heldIds s.ws p.id n = [] := fun e => by rw [(heldIds_nil nd).mp e] at hbb; cases hbb
    have ep := put_held (A := A) hN hy hh hb nd hrow hz hp hr.1 hr.2 (x := x) hn hbb
    have et : f_law_tried A [.int 0, .loc o.y, .int p.id, .str n, .str x] μ1 = .ok (.str "refused") μ1 := tried_er ((bt0 hy ep).trans rfl) hit_refused (wd_refused T)
    refine ⟨dl, μ1, some (.int p.id), some (.str x), some (.lst ((heldIds s.ws p.id n).map .int)), { s with dl := dl }, ?_, h1, .inl rfl⟩
    unfold B2
    refine s1.trans ((seq_nx s2).trans ((seq_nx (ρ1 := env scr ns o s a10 a11 (some (.str n)) (some (idsW s)) (some (.int p.id)) (some (.str x)) (some (.lst ((heldIds s.ws p.id n).map .int))) a17 a18 a19) (μ1 := μ1) ?_).trans ?_))
    · simp [eVar, eC, eBin, eTest, eTru, eAnd, eOr, eNot, eNeg, eIf, eTup, eLst, eNew, eCall, eFn, eMe, eMk, eFld, eMeL, eMeL0, aNil, aCons, bAnd, bOr, bNot, bYes, sSeq, sNx, sEx, sRet, sRetN, sIf, sAsg, gSet, sPar, sFldM, sFldAdd, sRaise, Out.bind, Out.st, SO.seq, fin, runB, startW, env, et, ne_nil, hne, ne_ref]
    · simp [eVar, eC, eBin, eTest, eTru, eAnd, eOr, eNot, eNeg, eIf, eTup, eLst, eNew, eCall, eFn, eMe, eMk, eFld, eMeL, eMeL0, aNil, aCons, bAnd, bOr, bNot, bYes, sSeq, sNx, sEx, sRet, sRetN, sIf, sAsg, gSet, sPar, sFldM, sFldAdd, sRaise, Out.bind, Out.st, SO.seq, fin, runB, startW, env, eq_nil, hne]
  | false =>
    have hnil : heldIds s.ws p.id n = [] := (heldIds_nil nd).mpr hbb
    obtain ⟨a, b, e⟩ := List.append_of_mem hp
    have hne : o.yl ≠ p.ly := ne_flat (s := { s with dl := dl }) h1 3 (by decide) rfl (mem_flat hp).1
    have ep := put_ok (A := A) hN hy hh hb hl nd hrow hz hzl hp hr.1 hr.2 (x := x) hn hne hbb
    have efl : flat s.ws = flat a ++ (p.ly, rc p) :: (p.ll, rc p) :: flat b := by rw [e]; simp [eVar, eC, eBin, eTest, eTru, eAnd, eOr, eNot, eNeg, eIf, eTup, eLst, eNew, eCall, eFn, eMe, eMk, eFld, eMeL, eMeL0, aNil, aCons, bAnd, bOr, bNot, bYes, sSeq, sNx, sEx, sRet, sRetN, sIf, sAsg, gSet, sPar, sFldM, sFldAdd, sRaise, Out.bind, Out.st, SO.seq, fin, runB, startW, flat]
    have i1 : (flat s.ws)[(flat a).length]? = some (p.ly, rc p) := by rw [efl]; simp [eVar, eC, eBin, eTest, eTru, eAnd, eOr, eNot, eNeg, eIf, eTup, eLst, eNew, eCall, eFn, eMe, eMk, eFld, eMeL, eMeL0, aNil, aCons, bAnd, bOr, bNot, bYes, sSeq, sNx, sEx, sRet, sRetN, sIf, sAsg, gSet, sPar, sFldM, sFldAdd, sRaise, Out.bind, Out.st, SO.seq, fin, runB, startW]
    generalize hP : ({ p with rows := p.rows ++ [(n, s.hand n)] } : Wk) = p'
    have i2 : ((flat s.ws).set (flat a).length (p.ly, rc p'))[(flat a).length + 1]? = some (p.ll, rc p) := by rw [efl]; simp [eVar, eC, eBin, eTest, eTru, eAnd, eOr, eNot, eNeg, eIf, eTup, eLst, eNew, eCall, eFn, eMe, eMk, eFld, eMeL, eMeL0, aNil, aCons, bAnd, bOr, bNot, bYes, sSeq, sNx, sEx, sRet, sRetN, sIf, sAsg, gSet, sPar, sFldM, sFldAdd, sRaise, Out.bind, Out.st, SO.seq, fin, runB, startW]
    have i3 : ((flat s.ws).set (flat a).length (p.ly, rc p')).set ((flat a).length + 1) (p.ll, rc p') = flat (a ++ p' :: b) := by
      rw [efl, ← hP]; simp [eVar, eC, eBin, eTest, eTru, eAnd, eOr, eNot, eNeg, eIf, eTup, eLst, eNew, eCall, eFn, eMe, eMk, eFld, eMeL, eMeL0, aNil, aCons, bAnd, bOr, bNot, bYes, sSeq, sNx, sEx, sRet, sRetN, sIf, sAsg, gSet, sPar, sFldM, sFldAdd, sRaise, Out.bind, Out.st, SO.seq, fin, runB, startW, flat, rc]
    have hrc : rc p' = .lst ((p.rows ++ [(n, s.hand n)]).map rowW) := by rw [← hP]; rfl
    have hpl : p'.ly = p.ly := by rw [← hP]
    have hpll : p'.ll = p.ll := by rw [← hP]
    have hpid : p'.id = p.id := by rw [← hP]
    have ebd : ∀ f : Wk → Nat, f p' = f p → bdOf f (a ++ p' :: b) = bdOf f s.ws := fun f hf => by rw [e]; simp [eVar, eC, eBin, eTest, eTru, eAnd, eOr, eNot, eNeg, eIf, eTup, eLst, eNew, eCall, eFn, eMe, eMk, eFld, eMeL, eMeL0, aNil, aCons, bAnd, bOr, bNot, bYes, sSeq, sNx, sEx, sRet, sRetN, sIf, sAsg, gSet, sPar, sFldM, sFldAdd, sRaise, Out.bind, Out.st, SO.seq, fin, runB, startW, bdOf, hf, hpid]
    have h2 := ((h1.setAt 3 rfl (.lst ((s.log ++ [Row.put p.id n (s.hand n) x]).map yrow))).setAt ((flat a).length + 10) (n := p.ly) (c := rc p) i1 (rc p')).setAt 1 rfl (.dK (dct ns (setC s.hand n x)) false)
    rw [hrc] at h2
    generalize ((μ1.set o.yl (.lst ((s.log ++ [Row.put p.id n (s.hand n) x]).map yrow))).set p.ly (.lst ((p.rows ++ [(n, s.hand n)]).map rowW))).set o.yh (.dK (dct ns (setC s.hand n x)) false) = μ2 at ep h2
    rw [← hrc] at h2
    have et : f_law_tried A [.int 0, .loc o.y, .int p.id, .str n, .str x] μ1 = .ok .non μ2 := tried_rt ((bt0 hy ep).trans rfl)
    have hll : μ2[o.ll]? = some (.lst (s.log.map lrow)) := h2.at 7 rfl
    have h3 := h2.setAt 7 rfl (.lst ((s.log ++ [Row.put p.id n (s.hand n) x]).map lrow))
    generalize e3 : μ2.set o.ll (.lst ((s.log ++ [Row.put p.id n (s.hand n) x]).map lrow)) = μ3 at h3
    have hgo : μ3[o.lg]? = some (.dK (bdOf (·.ll) s.ws) false) := h3.at 8 rfl
    have hlh : μ3[o.lh]? = some (.dK (dct ns s.hand) false) := h3.at 5 rfl
    have hpr : μ3[p.ll]? = some (.lst (p.rows.map rowW)) := h3.at ((flat a).length + 11) (n := p.ll) (c := rc p) i2
    have h4 := h3.setAt ((flat a).length + 11) (n := p.ll) (c := rc p) i2 (rc p')
    generalize e4 : μ3.set p.ll (rc p') = μ4 at h4
    have hlh4 : μ4[o.lh]? = some (.dK (dct ns s.hand) false) := h4.at 5 rfl
    have h5 := h4.setAt 5 rfl (.dK (dct ns (setC s.hand n x)) false)
    generalize e5 : μ4.set o.lh (.dK (dct ns (setC s.hand n x)) false) = μ5 at h5
    refine ⟨dl, μ5, some (.int p.id), some (.str x), some (.lst ((heldIds s.ws p.id n).map .int)), { s with log := s.log ++ [.put p.id n (s.hand n) x], hand := setC s.hand n x, ws := a ++ p' :: b, dl := dl }, ?_, ?_, .inr ⟨a, b, p, x, e, hx, hbb, by rw [hP]⟩⟩
    · have lz : (s.log.map lrow).length < sizeLine := by rw [List.length_map]; exact hzl
      have rz : (p.rows.map rowW).length < sizeLine := by rw [List.length_map]; exact hz p hp
      have ea : s.log.map lrow ++ [W.tup [.str "put", .int p.id, .str n, .str x]] = (s.log ++ [Row.put p.id n (s.hand n) x]).map lrow := by simp [eVar, eC, eBin, eTest, eTru, eAnd, eOr, eNot, eNeg, eIf, eTup, eLst, eNew, eCall, eFn, eMe, eMk, eFld, eMeL, eMeL0, aNil, aCons, bAnd, bOr, bNot, bYes, sSeq, sNx, sEx, sRet, sRetN, sIf, sAsg, gSet, sPar, sFldM, sFldAdd, sRaise, Out.bind, Out.st, SO.seq, fin, runB, startW, lrow]
      have eb : p.rows.map rowW ++ [W.tup [.str n, .str (s.hand n)]] = (p.rows ++ [(n, s.hand n)]).map rowW := by simp [eVar, eC, eBin, eTest, eTru, eAnd, eOr, eNot, eNeg, eIf, eTup, eLst, eNew, eCall, eFn, eMe, eMk, eFld, eMeL, eMeL0, aNil, aCons, bAnd, bOr, bNot, bYes, sSeq, sNx, sEx, sRet, sRetN, sIf, sAsg, gSet, sPar, sFldM, sFldAdd, sRaise, Out.bind, Out.st, SO.seq, fin, runB, startW, rowW]
      have ap1 : mAppend (.loc o.ll) [W.tup [.str "put", .int p.id, .str n, .str x]] μ2 = .ok .non μ3 := by simp only [mAppend, hll, if_pos lz, ea, e3]
      have ap2 : mAppend (.loc p.ll) [W.tup [.str n, .str (s.hand n)]] μ3 = .ok .non μ4 := by simp only [mAppend, hpr, if_pos rz, eb, ← hrc, e4]
      unfold B2
      refine s1.trans ((seq_nx s2).trans ((seq_nx (ρ1 := env scr ns o s a10 a11 (some (.str n)) (some (idsW s)) (some (.int p.id)) (some (.str x)) (some (.lst ((heldIds s.ws p.id n).map .int))) a17 a18 a19) (μ1 := μ2) ?_).trans ?_))
      · simp [eVar, eC, eBin, eTest, eTru, eAnd, eOr, eNot, eNeg, eIf, eTup, eLst, eNew, eCall, eFn, eMe, eMk, eFld, eMeL, eMeL0, aNil, aCons, bAnd, bOr, bNot, bYes, sSeq, sNx, sEx, sRet, sRetN, sIf, sAsg, gSet, sPar, sFldM, sFldAdd, sRaise, Out.bind, Out.st, SO.seq, fin, runB, startW, env, et, hnil, ne_nil0, ne_non]
      · refine (if_yes μ2 (by simp [eVar, eC, eBin, eTest, eTru, eAnd, eOr, eNot, eNeg, eIf, eTup, eLst, eNew, eCall, eFn, eMe, eMk, eFld, eMeL, eMeL0, aNil, aCons, bAnd, bOr, bNot, bYes, sSeq, sNx, sEx, sRet, sRetN, sIf, sAsg, gSet, sPar, sFldM, sFldAdd, sRaise, Out.bind, Out.st, SO.seq, fin, runB, startW, env, gEq_nil, hnil])).trans ?_
        refine (seq_nx (ρ1 := env scr ns o s a10 a11 (some (.str n)) (some (idsW s)) (some (.int p.id)) (some (.str x)) (some (.lst ((heldIds s.ws p.id n).map .int))) a17 a18 a19) (μ1 := μ3) (by simp [eVar, eC, eBin, eTest, eTru, eAnd, eOr, eNot, eNeg, eIf, eTup, eLst, eNew, eCall, eFn, eMe, eMk, eFld, eMeL, eMeL0, aNil, aCons, bAnd, bOr, bNot, bYes, sSeq, sNx, sEx, sRet, sRetN, sIf, sAsg, gSet, sPar, sFldM, sFldAdd, sRaise, Out.bind, Out.st, SO.seq, fin, runB, startW, env, isL, asL, hll, z4, ap1])).trans ?_
        refine (seq_nx (ρ1 := env scr ns o s a10 a11 (some (.str n)) (some (idsW s)) (some (.int p.id)) (some (.str x)) (some (.lst ((heldIds s.ws p.id n).map .int))) a17 a18 a19) (μ1 := μ4) (by simp [eVar, eC, eBin, eTest, eTru, eAnd, eOr, eNot, eNeg, eIf, eTup, eLst, eNew, eCall, eFn, eMe, eMk, eFld, eMeL, eMeL0, aNil, aCons, bAnd, bOr, bNot, bYes, sSeq, sNx, sEx, sRet, sRetN, sIf, sAsg, gSet, sPar, sFldM, sFldAdd, sRaise, Out.bind, Out.st, SO.seq, fin, runB, startW, env, gIxK, dAt, hgo, hlh, asK, bd_val (f := (·.ll)) nd hp, dct_val hn, isL, asL, hpr, z2, ap2])).trans ?_
        simp [eVar, eC, eBin, eTest, eTru, eAnd, eOr, eNot, eNeg, eIf, eTup, eLst, eNew, eCall, eFn, eMe, eMk, eFld, eMeL, eMeL0, aNil, aCons, bAnd, bOr, bNot, bYes, sSeq, sNx, sEx, sRet, sRetN, sIf, sAsg, gSet, sPar, sFldM, sFldAdd, sRaise, Out.bind, Out.st, SO.seq, fin, runB, startW, env, gSubK, asK, hlh4, zdct hN, dct_put hn, e5]
    · unfold cells
      dsimp only
      rw [ebd (·.ly) hpl, ebd (·.ll) hpll, ← i3]
      exact h5
end
end K76
namespace K76
open PySem PySem.Spec PyProof.Rows L2 PD
variable [Tbs]
section
variable {A : Adr} {μ : Mu} {ns : List Str} {o : Lc} {s : S} {scr : W} {a10 a11 a12 a13 a14 a15 a16 a17 a18 a19 : Tl} {K : PySem.W.Frag} {mg : Str → Option Value}
theorem lst3 {a b c : EM} {ρ : PD.Env} {x y z : W} {μ1 μ2 μ3 : Mu} (h : a ρ μ = .ok x μ1) (h2 : b ρ μ1 = .ok y μ2) (h3 : c ρ μ2 = .ok z μ3) : eLst (aCons a (aCons b (aCons c aNil))) ρ μ = .ok (.lst [x, y, z]) μ3 := by
  have z3 : 3 ≤ sizeLine := by have := sizeLine_val; omega
  simp [eVar, eC, eBin, eTest, eTru, eAnd, eOr, eNot, eNeg, eIf, eTup, eLst, eNew, eCall, eFn, eMe, eMk, eFld, eMeL, eMeL0, aNil, aCons, bAnd, bOr, bNot, bYes, sSeq, sNx, sEx, sRet, sRetN, sIf, sAsg, gSet, sPar, sFldM, sFldAdd, sRaise, Out.bind, Out.st, SO.seq, fin, runB, startW, h, h2, h3, z3]
theorem tup4 {a b c d : EM} {ρ : PD.Env} {x y z w : W} {μ1 μ2 μ3 μ4 : Mu} (h : a ρ μ = .ok x μ1) (h2 : b ρ μ1 = .ok y μ2) (h3 : c ρ μ2 = .ok z μ3) (h4 : d ρ μ3 = .ok w μ4) : eTup (aCons a (aCons b (aCons c (aCons d aNil)))) ρ μ = .ok (.tup [x, y, z, w]) μ4 := by
  have z4 : 4 ≤ sizeLine := by have := sizeLine_val; omega
  simp [eVar, eC, eBin, eTest, eTru, eAnd, eOr, eNot, eNeg, eIf, eTup, eLst, eNew, eCall, eFn, eMe, eMk, eFld, eMeL, eMeL0, aNil, aCons, bAnd, bOr, bNot, bYes, sSeq, sNx, sEx, sRet, sRetN, sIf, sAsg, gSet, sPar, sFldM, sFldAdd, sRaise, Out.bind, Out.st, SO.seq, fin, runB, startW, h, h2, h3, h4, z4]
theorem bc (y : Nat) {h d l sf b m : W} {a1 : W} (hy : μ[y]? = some (.ins A.Yard (yf h d l sf b m))) {r : Out W} (e : f_Yard_crashed A [.loc y, a1] μ = r) : b_law_crashed A [some (.loc y), some a1, none] μ = r.st [some (.loc y), some a1, none] fun w μ1 => .rt w μ1 := by
  subst e
  cases hp : f_Yard_crashed A [.loc y, a1] μ <;> simp [eVar, eC, eBin, eTest, eTru, eAnd, eOr, eNot, eNeg, eIf, eTup, eLst, eNew, eCall, eFn, eMe, eMk, eFld, eMeL, eMeL0, aNil, aCons, bAnd, bOr, bNot, bYes, sSeq, sNx, sEx, sRet, sRetN, sIf, sAsg, gSet, sPar, sFldM, sFldAdd, sRaise, Out.bind, Out.st, SO.seq, fin, runB, startW, b_law_crashed, yf_no hy m_crash, hp]
theorem kept_ok (h : Ag μ (cells A ns o s)) (hs : s.safe ≤ s.log.length) : ∃ (k : Nat) (dl : List Int) (μ' : Mu), s.safe + k ≤ s.log.length ∧ Ag μ' (cells A ns o { s with dl := dl }) ∧
    (eBin gIx (eLst (aCons (eC (.int 0)) (aCons (eBin gSub (eCall cLen (aCons (eVar 6) aNil)) (eVar 7)) (aCons (eFn 2 (f_law_take A) (aCons (eVar 1) (aCons (eBin gAdd (eBin gSub (eCall cLen (aCons (eVar 6) aNil)) (eVar 7)) (eC (.int 1))) aNil))) aNil)))) (eFn 2 (f_law_take A) (aCons (eVar 1) (aCons (eC (.int 3)) aNil)))) (env scr ns o s a10 a11 a12 a13 a14 a15 a16 a17 a18 a19) μ = .ok (.int (k : Nat)) μ' := by
  have hl : μ[o.ll]? = some (.lst (s.log.map lrow)) := h.at 7 rfl
  have e1 : eBin PD.gSub (eCall cLen (aCons (eVar 6) aNil)) (eVar 7) (env scr ns o s a10 a11 a12 a13 a14 a15 a16 a17 a18 a19) μ = .ok (.int ((s.log.length - s.safe : Nat) : Int)) μ := by
    have e := cLen_loc hl
    rw [List.length_map] at e
    have e0 : ((s.log.length - s.safe : Nat) : Int) = (s.log.length : Int) - (s.safe : Int) := by omega
    rw [e0]
    simp [eVar, eC, eBin, eTest, eTru, eAnd, eOr, eNot, eNeg, eIf, eTup, eLst, eNew, eCall, eFn, eMe, eMk, eFld, eMeL, eMeL0, aNil, aCons, bAnd, bOr, bNot, bYes, sSeq, sNx, sEx, sRet, sRetN, sIf, sAsg, gSet, sPar, sFldM, sFldAdd, sRaise, Out.bind, Out.st, SO.seq, fin, runB, startW, env, e, PD.gSub, gI]
  obtain ⟨w1, dl1, μ1, t1, p0, p1, h1⟩ := take_st h (b := ((s.log.length - s.safe : Nat) : Int) + 1) (by omega)
  obtain ⟨k1, rfl⟩ := Int.eq_ofNat_of_zero_le p0
  obtain ⟨w2, dl2, μ2, t2, q0, q1, h2⟩ := take_st h1 (b := 3) (by decide)
  obtain ⟨i, rfl⟩ := Int.eq_ofNat_of_zero_le q0
  have e2 : eBin gAdd (eBin PD.gSub (eCall cLen (aCons (eVar 6) aNil)) (eVar 7)) (eC (.int 1)) (env scr ns o s a10 a11 a12 a13 a14 a15 a16 a17 a18 a19) μ = .ok (.int (((s.log.length - s.safe : Nat) : Int) + 1)) μ := (bin_of e1 rfl).trans (by simp [eVar, eC, eBin, eTest, eTru, eAnd, eOr, eNot, eNeg, eIf, eTup, eLst, eNew, eCall, eFn, eMe, eMk, eFld, eMeL, eMeL0, aNil, aCons, bAnd, bOr, bNot, bYes, sSeq, sNx, sEx, sRet, sRetN, sIf, sAsg, gSet, sPar, sFldM, sFldAdd, sRaise, Out.bind, Out.st, SO.seq, fin, runB, startW, gAdd, orG, gAddI, gI, Out.els])
  have e3 : eFn 2 (f_law_take A) (aCons (eVar 1) (aCons (eBin gAdd (eBin PD.gSub (eCall cLen (aCons (eVar 6) aNil)) (eVar 7)) (eC (.int 1))) aNil)) (env scr ns o s a10 a11 a12 a13 a14 a15 a16 a17 a18 a19) μ = .ok (.int ((k1 : Nat) : Int)) μ1 := by
    have e0 : aCons (eVar 1) (aCons (eBin gAdd (eBin PD.gSub (eCall cLen (aCons (eVar 6) aNil)) (eVar 7)) (eC (.int 1))) aNil) (env scr ns o s a10 a11 a12 a13 a14 a15 a16 a17 a18 a19) μ = .ok [.loc o.dr, .int (((s.log.length - s.safe : Nat) : Int) + 1)] μ := by
      have ev : eVar 1 (env scr ns o s a10 a11 a12 a13 a14 a15 a16 a17 a18 a19) μ = .ok (.loc o.dr) μ := rfl
      simp only [aCons, ev, e2, aNil, Out.bind]
    simp only [eFn, e0, Out.bind, List.length_cons, List.length_nil, if_true, t1]
  have e4 : eFn 2 (f_law_take A) (aCons (eVar 1) (aCons (eC (.int 3)) aNil)) (env scr ns o s a10 a11 a12 a13 a14 a15 a16 a17 a18 a19) μ1 = .ok (.int ((i : Nat) : Int)) μ2 := by
    simp [eVar, eC, eBin, eTest, eTru, eAnd, eOr, eNot, eNeg, eIf, eTup, eLst, eNew, eCall, eFn, eMe, eMk, eFld, eMeL, eMeL0, aNil, aCons, bAnd, bOr, bNot, bYes, sSeq, sNx, sEx, sRet, sRetN, sIf, sAsg, gSet, sPar, sFldM, sFldAdd, sRaise, Out.bind, Out.st, SO.seq, fin, runB, startW, env, t2]
  have e5 := lst3 (ρ := env scr ns o s a10 a11 a12 a13 a14 a15 a16 a17 a18 a19) (μ := μ) (a := eC (.int 0)) (x := .int ((0 : Nat) : Int)) rfl e1 e3
  have hi : i < 3 := by omega
  match i, hi with
  | 0, _ => exact ⟨0, dl2, μ2, by omega, h2, (bin_of e5 e4).trans (ix_lst rfl)⟩
  | 1, _ => exact ⟨s.log.length - s.safe, dl2, μ2, by omega, h2, (bin_of e5 e4).trans (ix_lst rfl)⟩
  | 2, _ => exact ⟨k1, dl2, μ2, by omega, h2, (bin_of e5 e4).trans (ix_lst rfl)⟩
theorem br7 (hN : isNames ns) (h : Ag μ (cells A ns o s)) (g : Good ns s) (hz : s.log.length ≤ sizeLine) : ∃ (o' : Lc) (k : Nat) (dl : List Int) (μ' : Mu) (b19 : Tl) (cf : Cells), s.safe + k ≤ s.log.length ∧ cf = behind (ends (s.log.take (s.safe + k))) (s.log.take (s.safe + k)) s.first ∧
    B7 A (env scr ns o s a10 a11 a12 a13 a14 a15 a16 a17 a18 a19) μ = .nx (env scr ns o' ⟨cf, cf, cf, [], 0, [], s.many, dl⟩ a10 a11 a12 a13 a14 a15 a16 a17 a18 b19) μ' ∧
    Ag μ' (cells A ns o' ⟨cf, cf, cf, [], 0, [], s.many, dl⟩) := by
  have z0 : (0 : Nat) ≤ sizeLine := Nat.zero_le _
  obtain ⟨k, dl, μ1, hk, h1, e1⟩ := kept_ok (scr := scr) (a10 := a10) (a11 := a11) (a12 := a12) (a13 := a13) (a14 := a14) (a15 := a15) (a16 := a16) (a17 := a17) (a18 := a18) (a19 := a19) h g.safe
  have hy : μ1[o.y]? = some (.ins A.Yard (yf (.loc o.yh) (.loc o.yd) (.loc o.yl) (.int (s.safe : Nat)) (.loc o.yb) (.int s.many))) := h1.at 0 rfl
  have hh : μ1[o.yh]? = some (.dK (dct ns s.hand) false) := h1.at 1 rfl
  have hd : μ1[o.yd]? = some (.dK (dct ns s.disk) false) := h1.at 2 rfl
  have hl : μ1[o.yl]? = some (.lst (s.log.map yrow)) := h1.at 3 rfl
  have hlf : μ1[o.lf]? = some (.dK (dct ns s.first) false) := h1.at 6 rfl
  have hll : μ1[o.ll]? = some (.lst (s.log.map lrow)) := h1.at 7 rfl
  have hdr : μ1[o.dr]? = some (.lst (intsW dl)) := h1.at 9 rfl
  obtain ⟨cf, ecf, ec⟩ := crashed_ok (A := A) hN g.nms hz hk hy hh hd hl
  have em := mended_eq (k := s.safe + k) g.lg (Nat.le_add_right _ _) g.disk
  rw [em] at ecf
  have ecf0 := ecf
  generalize ep : s.log.take (s.safe + k) = p at ecf
  have hpn : names ns p := fun w n o x hm => g.nms w n o x (by rw [← ep] at hm; exact List.mem_of_mem_take hm)
  have hpz : p.length ≤ sizeLine := by rw [← ep, List.length_take]; omega
  have et : f_law_crashed A [.loc o.y, .int (k : Nat)] μ1 = _ := crash_rt ((bc o.y hy ec).trans rfl)
  generalize hL : μ1.length = L at et
  generalize hT : ([.ins A.Yard (yf (.loc (L + 7)) (.loc (L + 8)) (.loc (L + 9)) (.int 0) (.loc (L + 10)) (.int s.many)), .dK (dct ns fun _ => "") false, .dK (dct ns fun _ => "") false, .lst [], .dK [] false, .dK (dct ns s.disk) false, .dK (dct ns cf) false, .dK (dct ns cf) false, .dK (dct ns cf) false, .lst [], .dK [] false] : Mu) = tl at et
  have ltl : tl.length = 11 := by rw [← hT]; rfl
  have old : ∀ (i : Nat) (c : Cell) (r : Mu), μ1[i]? = some c → (μ1 ++ r)[i]? = some c := fun i c r hc => by rw [List.getElem?_append_left (List.getElem?_eq_some_iff.mp hc).1]; exact hc
  have hlf2 := old _ _ tl hlf
  have eb := behind_ok (A := A) hN hpn hpz hlf2
  rw [← ecf, show (μ1 ++ tl).length = L + 11 by rw [List.length_append, hL, ltl]] at eb
  have hf3 : (μ1 ++ tl ++ [Cell.dK (dct ns cf) false])[L + 11]? = some (.dK (dct ns cf) false) := by
    rw [List.getElem?_append_right (by rw [List.length_append, hL, ltl]; omega), List.length_append, hL, ltl, Nat.sub_self]; rfl
  have l3 : (μ1 ++ tl ++ [Cell.dK (dct ns cf) false]).length = L + 12 := by rw [List.length_append, List.length_append, hL, ltl]; rfl
  refine ⟨⟨L, L + 7, L + 8, L + 9, L + 10, L + 12, L + 11, L + 13, L + 14, o.dr⟩, k, dl, μ1 ++ tl ++ [Cell.dK (dct ns cf) false] ++ [Cell.dK (dct ns cf) false] ++ [Cell.lst []] ++ [Cell.dK [] false], some (.int (k : Nat)), cf, hk, ecf0, ?_, ?_⟩
  · unfold B7
    -- the slots
    refine (seq_nx (ρ1 := env scr ns o s a10 a11 a12 a13 a14 a15 a16 a17 a18 (some (.int (k : Nat)))) (μ1 := μ1) (asg_set e1)).trans ?_
    refine (seq_nx (ρ1 := env scr ns { o with y := L } s a10 a11 a12 a13 a14 a15 a16 a17 a18 (some (.int (k : Nat)))) (μ1 := μ1 ++ tl) ?_).trans ?_
    · refine asg_set (w := .loc L) ?_
      simp only [eFn, aCons, aNil, eVar, env, List.getElem?_cons_zero, List.getElem?_cons_succ, Out.bind, List.length_cons, List.length_nil, if_true, et]
    refine (seq_nx (ρ1 := env scr ns { o with y := L, lf := L + 11 } s a10 a11 a12 a13 a14 a15 a16 a17 a18 (some (.int (k : Nat)))) (μ1 := μ1 ++ tl ++ [Cell.dK (dct ns cf) false]) ?_).trans ?_
    · refine asg_set (w := .loc (L + 11)) ?_
      have ga : gAdd (.int (s.safe : Nat)) (.int (k : Nat)) (μ1 ++ tl) = .ok (.int ((s.safe + k : Nat) : Int)) (μ1 ++ tl) := by simp [eVar, eC, eBin, eTest, eTru, eAnd, eOr, eNot, eNeg, eIf, eTup, eLst, eNew, eCall, eFn, eMe, eMk, eFld, eMeL, eMeL0, aNil, aCons, bAnd, bOr, bNot, bYes, sSeq, sNx, sEx, sRet, sRetN, sIf, sAsg, gSet, sPar, sFldM, sFldAdd, sRaise, Out.bind, Out.st, SO.seq, fin, runB, startW, gAdd, orG, gAddI, gI, Out.els]
      have ecut : cutW (s.log.map lrow) none (some ((s.safe + k : Nat) : Int)) = p.map lrow := by rw [cutHead, ← List.map_take, ep]
      simp only [eFn, aCons, aNil, eCut, oNone, oSome, eBin, eVar, env, List.getElem?_cons_zero, List.getElem?_cons_succ, Out.bind, List.length_cons, List.length_nil, if_true, ga, gCut, asL, old _ _ tl hll, ecut, eb]
    · have c1 := copy_comp hN (ρ := env scr ns { o with y := L, lf := L + 11 } s a10 a11 a12 a13 a14 a15 a16 a17 a18 (some (.int (k : Nat)))) (i := 5) (j := 23) (fn := L + 11) rfl (by simp [eVar, eC, eBin, eTest, eTru, eAnd, eOr, eNot, eNeg, eIf, eTup, eLst, eNew, eCall, eFn, eMe, eMk, eFld, eMeL, eMeL0, aNil, aCons, bAnd, bOr, bNot, bYes, sSeq, sNx, sEx, sRet, sRetN, sIf, sAsg, gSet, sPar, sFldM, sFldAdd, sRaise, Out.bind, Out.st, SO.seq, fin, runB, startW, env]) (by decide) hf3
      rw [l3] at c1
      have c2 : eNew aNil (env scr ns { o with y := L, lf := L + 11 } s a10 a11 a12 a13 a14 a15 a16 a17 a18 (some (.int (k : Nat)))) (μ1 ++ tl ++ [Cell.dK (dct ns cf) false] ++ [Cell.dK (dct ns cf) false]) = .ok (.loc (L + 13)) (μ1 ++ tl ++ [Cell.dK (dct ns cf) false] ++ [Cell.dK (dct ns cf) false] ++ [Cell.lst []]) := by
        simp [eVar, eC, eBin, eTest, eTru, eAnd, eOr, eNot, eNeg, eIf, eTup, eLst, eNew, eCall, eFn, eMe, eMk, eFld, eMeL, eMeL0, aNil, aCons, bAnd, bOr, bNot, bYes, sSeq, sNx, sEx, sRet, sRetN, sIf, sAsg, gSet, sPar, sFldM, sFldAdd, sRaise, Out.bind, Out.st, SO.seq, fin, runB, startW, z0, hL, ltl]
      have c3 : eDNew (env scr ns { o with y := L, lf := L + 11 } s a10 a11 a12 a13 a14 a15 a16 a17 a18 (some (.int (k : Nat)))) (μ1 ++ tl ++ [Cell.dK (dct ns cf) false] ++ [Cell.dK (dct ns cf) false] ++ [Cell.lst []]) = .ok (.loc (L + 14)) (μ1 ++ tl ++ [Cell.dK (dct ns cf) false] ++ [Cell.dK (dct ns cf) false] ++ [Cell.lst []] ++ [Cell.dK [] false]) := by
        simp [eVar, eC, eBin, eTest, eTru, eAnd, eOr, eNot, eNeg, eIf, eTup, eLst, eNew, eCall, eFn, eMe, eMk, eFld, eMeL, eMeL0, aNil, aCons, bAnd, bOr, bNot, bYes, sSeq, sNx, sEx, sRet, sRetN, sIf, sAsg, gSet, sPar, sFldM, sFldAdd, sRaise, Out.bind, Out.st, SO.seq, fin, runB, startW, eDNew, hL, ltl]
      have c4 := tup4 c1 c2 (c := eC (.int 0)) rfl c3
      unfold sAsg
      rw [c4]
      simp [eVar, eC, eBin, eTest, eTru, eAnd, eOr, eNot, eNeg, eIf, eTup, eLst, eNew, eCall, eFn, eMe, eMk, eFld, eMeL, eMeL0, aNil, aCons, bAnd, bOr, bNot, bYes, sSeq, sNx, sEx, sRet, sRetN, sIf, sAsg, gSet, sPar, sFldM, sFldAdd, sRaise, Out.bind, Out.st, SO.seq, fin, runB, startW, env, gTupM, gsCons, gsNil]
  · have at1 : ∀ (j : Nat) (c : Cell), tl[j]? = some c → (μ1 ++ tl ++ [Cell.dK (dct ns cf) false] ++ [Cell.dK (dct ns cf) false] ++ [Cell.lst []] ++ [Cell.dK [] false])[L + j]? = some c := fun j c hc => by
      have hj : j < 11 := by rw [← ltl]; exact (List.getElem?_eq_some_iff.mp hc).1
      simp only [List.append_assoc]
      rw [List.getElem?_append_right (by omega), hL, Nat.add_sub_cancel_left, List.getElem?_append_left (by omega)]
      exact hc
    have at2 : ∀ (j : Nat) (c : Cell), ([Cell.dK (dct ns cf) false, Cell.dK (dct ns cf) false, Cell.lst [], Cell.dK [] false])[j]? = some c → (μ1 ++ tl ++ [Cell.dK (dct ns cf) false] ++ [Cell.dK (dct ns cf) false] ++ [Cell.lst []] ++ [Cell.dK [] false])[L + (11 + j)]? = some c := fun j c hc => by
      simp only [List.append_assoc]
      rw [List.getElem?_append_right (by omega), hL, Nat.add_sub_cancel_left, List.getElem?_append_right (by omega), ltl, Nat.add_sub_cancel_left]
      exact hc
    have dl' : o.dr < L := by rw [← hL]; exact (List.getElem?_eq_some_iff.mp hdr).1
    refine ⟨?_, fun n c hm => ?_⟩
    · simp [eVar, eC, eBin, eTest, eTru, eAnd, eOr, eNot, eNeg, eIf, eTup, eLst, eNew, eCall, eFn, eMe, eMk, eFld, eMeL, eMeL0, aNil, aCons, bAnd, bOr, bNot, bYes, sSeq, sNx, sEx, sRet, sRetN, sIf, sAsg, gSet, sPar, sFldM, sFldAdd, sRaise, Out.bind, Out.st, SO.seq, fin, runB, startW, cells, flat]
      omega
    · simp only [cells, flat, List.flatMap_nil, List.mem_cons, List.not_mem_nil, or_false, Prod.mk.injEq] at hm
      rcases hm with ⟨rfl, rfl⟩ | ⟨rfl, rfl⟩ | ⟨rfl, rfl⟩ | ⟨rfl, rfl⟩ | ⟨rfl, rfl⟩ | ⟨rfl, rfl⟩ | ⟨rfl, rfl⟩ | ⟨rfl, rfl⟩ | ⟨rfl, rfl⟩ | ⟨rfl, rfl⟩
      · exact at1 0 _ (by rw [← hT]; rfl)
      · exact at1 7 _ (by rw [← hT]; rfl)
      · exact at1 8 _ (by rw [← hT]; rfl)
      · exact at1 9 _ (by rw [← hT]; rfl)
      · exact at1 10 _ (by rw [← hT]; rfl)
      · exact at2 1 _ rfl
      · exact at2 0 _ rfl
      · exact at2 2 _ rfl
      · exact at2 3 _ rfl
      · simp only [List.append_assoc]
        exact old _ _ _ hdr
end
end K76
namespace K76
open PySem PySem.Spec PyProof.Rows L2 PD
variable [Tbs]
/-! ### texts that may be compared -/
def okS (x : Str) : Prop := PyData.canLay0 (.str x) = true
structure Tx (s : S) : Prop where
  first : ∀ n, okS (s.first n)
  hand : ∀ n, okS (s.hand n)
  log : ∀ w n o x, Row.put w n o x ∈ s.log → okS x
  rows : ∀ p ∈ s.ws, ∀ q ∈ p.rows, okS q.2
theorem okS_set {c : Cells} {n x : Str} (h : ∀ n, okS (c n)) (hx : okS x) : ∀ m, okS (setC c n x m) := fun m => by
  show okS (if m = n then x else c m)
  split
  · exact hx
  · exact h m
theorem okS_beh {E : Int → Bool} : ∀ {p : List Row} {c : Cells}, (∀ n, okS (c n)) → (∀ w n o x, Row.put w n o x ∈ p → okS x) → ∀ n, okS (behind E p c n)
  | [], c, h, _, n => h n
  | .fin w :: r, c, h, hp, n => okS_beh (p := r) h (fun w n o x hm => hp w n o x (List.mem_cons_of_mem _ hm)) n
  | .put w m o x :: r, c, h, hp, n => by
    have hr : ∀ w n o x, Row.put w n o x ∈ r → okS x := fun w n o x hm => hp w n o x (List.mem_cons_of_mem _ hm)
    show okS (behind E r (if E w = true then setC c m x else c) n)
    split
    · exact okS_beh (p := r) (okS_set h (hp w m o x List.mem_cons_self)) hr n
    · exact okS_beh (p := r) h hr n
theorem okS_txts {x : Str} (h : x ∈ txts) : okS x := by
  simp [eVar, eC, eBin, eTest, eTru, eAnd, eOr, eNot, eNeg, eIf, eTup, eLst, eNew, eCall, eFn, eMe, eMk, eFld, eMeL, eMeL0, aNil, aCons, bAnd, bOr, bNot, bYes, sSeq, sNx, sEx, sRet, sRetN, sIf, sAsg, gSet, sPar, sFldM, sFldAdd, sRaise, Out.bind, Out.st, SO.seq, fin, runB, startW, txts] at h
  rcases h with rfl | rfl | rfl | rfl <;> (unfold okS; decide +kernel)
theorem Tx.drop {w : Int} : ∀ (rs : List (Str × Str)) {l : List Row} {c : Cells}, (∀ n, okS (c n)) → (∀ w n o x, Row.put w n o x ∈ l → okS x) → (∀ q ∈ rs, okS q.2) → (∀ n, okS ((dropF w rs (l, c)).2 n)) ∧ (∀ v n o x, Row.put v n o x ∈ (dropF w rs (l, c)).1 → okS x)
  | [], l, c, hc, hl, _ => ⟨hc, hl⟩
  | (n, o) :: r, l, c, hc, hl, hr => by
    refine Tx.drop r (l := l ++ [.put w n (c n) o]) (c := setC c n o) (okS_set hc (hr (n, o) List.mem_cons_self)) (fun v m y x hm => ?_) fun q hq => hr q (List.mem_cons_of_mem _ hq)
    rcases List.mem_append.mp hm with hm | hm
    · exact hl v m y x hm
    · rw [List.mem_singleton] at hm
      cases hm
      exact hr (n, o) List.mem_cons_self
section
variable {A : Adr} {μ : Mu} {ns : List Str} {o : Lc} {s : S} {scr : W} {a10 a11 a12 a13 a14 a15 a16 a17 a18 a19 : Tl} {K : PySem.W.Frag} {mg : Str → Option Value}
theorem text_comp (hN : isNames ns) {ρ : PD.Env} {y hn : Nat} {c : Cells} {d l sf b m : W} (h2 : ρ[2]? = some (some (.lst (ns.map .str)))) (h3 : ρ[3]? = some (some (.loc y))) (hl : ρ.length = 25) (hy : μ[y]? = some (.ins A.Yard (yf (.loc hn) d l sf b m))) (hh : μ[hn]? = some (.dK (dct ns c) false)) :
    eCmp (iSeq (eVar 2)) [23] (gSet 23) bYes (eMe A.Yard "text" 2 (f_Yard_text A) (eVar 3) (aCons (eVar 23) aNil)) ρ μ = .ok (.lst (ns.map fun n => W.str (c n))) μ := by
  have key := cmpS_map (μ := μ) (g := gSet 23) (tt := bYes) (me := eMe A.Yard "text" 2 (f_Yard_text A) (eVar 3) (aCons (eVar 23) aNil)) (ρ := wipeW ρ [23]) (φ := fun w => match w with | .str n => W.str (c n) | _ => .non) (ns.map .str) [] (fun x hx => by
    obtain ⟨n, hn', rfl⟩ := List.mem_map.mp hx
    have g1 : ((wipeW ρ [23]).set 23 (some (.str n)))[23]? = some (some (.str n)) := List.getElem?_set_self (by simp [eVar, eC, eBin, eTest, eTru, eAnd, eOr, eNot, eNeg, eIf, eTup, eLst, eNew, eCall, eFn, eMe, eMk, eFld, eMeL, eMeL0, aNil, aCons, bAnd, bOr, bNot, bYes, sSeq, sNx, sEx, sRet, sRetN, sIf, sAsg, gSet, sPar, sFldM, sFldAdd, sRaise, Out.bind, Out.st, SO.seq, fin, runB, startW, wipeW, hl])
    have g2 : ((wipeW ρ [23]).set 23 (some (.str n)))[3]? = some (some (.loc y)) := by
      rw [List.getElem?_set_ne (by decide)]
      show (ρ.set 23 none)[3]? = _
      rw [List.getElem?_set_ne (by decide)]; exact h3
    refine ⟨(wipeW ρ [23]).set 23 (some (.str n)), rfl, rfl, ?_⟩
    simp only [eMe, aCons, aNil, eVar, g1, g2, Out.bind, yf_no hy m_text, if_true, List.length_cons, List.length_nil, text_ok hN hy hh hn']) (by have := hN.small; have := sizeLine_val; simp [eVar, eC, eBin, eTest, eTru, eAnd, eOr, eNot, eNeg, eIf, eTup, eLst, eNew, eCall, eFn, eMe, eMk, eFld, eMeL, eMeL0, aNil, aCons, bAnd, bOr, bNot, bYes, sSeq, sNx, sEx, sRet, sRetN, sIf, sAsg, gSet, sPar, sFldM, sFldAdd, sRaise, Out.bind, Out.st, SO.seq, fin, runB, startW]; omega)
  rw [List.nil_append, List.map_map] at key
  have : eCmp (iSeq (eVar 2)) [23] (gSet 23) bYes (eMe A.Yard "text" 2 (f_Yard_text A) (eVar 3) (aCons (eVar 23) aNil)) ρ μ = cmpS (gSet 23) bYes (eMe A.Yard "text" 2 (f_Yard_text A) (eVar 3) (aCons (eVar 23) aNil)) (wipeW ρ [23]) (ns.map .str) [] μ := by
    simp only [eCmp, iSeq, eVar, h2, Out.bind, itOf, asQ, asL, Option.map_some]
  rw [this, key]
  rfl
theorem hand_comp (hN : isNames ns) {ρ : PD.Env} {hn : Nat} {c : Cells} (h2 : ρ[2]? = some (some (.lst (ns.map .str)))) (h4 : ρ[4]? = some (some (.loc hn))) (hl : ρ.length = 25) (hh : μ[hn]? = some (.dK (dct ns c) false)) :
    eCmp (iSeq (eVar 2)) [23] (gSet 23) bYes (eBin gIxK (eVar 4) (eVar 23)) ρ μ = .ok (.lst (ns.map fun n => W.str (c n))) μ := by
  have key := cmpS_map (μ := μ) (g := gSet 23) (tt := bYes) (me := eBin gIxK (eVar 4) (eVar 23)) (ρ := wipeW ρ [23]) (φ := fun w => match w with | .str n => W.str (c n) | _ => .non) (ns.map .str) [] (fun x hx => by
    obtain ⟨n, hn', rfl⟩ := List.mem_map.mp hx
    have g1 : ((wipeW ρ [23]).set 23 (some (.str n)))[23]? = some (some (.str n)) := List.getElem?_set_self (by simp [eVar, eC, eBin, eTest, eTru, eAnd, eOr, eNot, eNeg, eIf, eTup, eLst, eNew, eCall, eFn, eMe, eMk, eFld, eMeL, eMeL0, aNil, aCons, bAnd, bOr, bNot, bYes, sSeq, sNx, sEx, sRet, sRetN, sIf, sAsg, gSet, sPar, sFldM, sFldAdd, sRaise, Out.bind, Out.st, SO.seq, fin, runB, startW, wipeW, hl])
    have g2 : ((wipeW ρ [23]).set 23 (some (.str n)))[4]? = some (some (.loc hn)) := by
      rw [List.getElem?_set_ne (by decide)]
      show (ρ.set 23 none)[4]? = _
      rw [List.getElem?_set_ne (by decide)]; exact h4
    refine ⟨(wipeW ρ [23]).set 23 (some (.str n)), rfl, rfl, ?_⟩
    simp only [eBin, eVar, g1, g2, Out.bind, gIxK, dAt, hh, asK, dct_val hn']) (by have := hN.small; have := sizeLine_val; simp [eVar, eC, eBin, eTest, eTru, eAnd, eOr, eNot, eNeg, eIf, eTup, eLst, eNew, eCall, eFn, eMe, eMk, eFld, eMeL, eMeL0, aNil, aCons, bAnd, bOr, bNot, bYes, sSeq, sNx, sEx, sRet, sRetN, sIf, sAsg, gSet, sPar, sFldM, sFldAdd, sRaise, Out.bind, Out.st, SO.seq, fin, runB, startW]; omega)
  rw [List.nil_append, List.map_map] at key
  have : eCmp (iSeq (eVar 2)) [23] (gSet 23) bYes (eBin gIxK (eVar 4) (eVar 23)) ρ μ = cmpS (gSet 23) bYes (eBin gIxK (eVar 4) (eVar 23)) (wipeW ρ [23]) (ns.map .str) [] μ := by
    simp only [eCmp, iSeq, eVar, h2, Out.bind, itOf, asQ, asL, Option.map_some]
  rw [this, key]
  rfl
theorem chk_ok (hN : isNames ns) (h : Ag μ (cells A ns o s)) (g : Good ns s) (x : Tx s) (hf : s.ws.length ≤ 3) : P3 A (env scr ns o s a10 a11 a12 a13 a14 a15 a16 a17 a18 a19) μ = .nx (env scr ns o s a10 a11 a12 a13 a14 a15 a16 a17 a18 a19) μ := by
  have sl := sizeLine_val
  have hy : μ[o.y]? = some (.ins A.Yard (yf (.loc o.yh) (.loc o.yd) (.loc o.yl) (.int (s.safe : Nat)) (.loc o.yb) (.int s.many))) := h.at 0 rfl
  have hh : μ[o.yh]? = some (.dK (dct ns s.hand) false) := h.at 1 rfl
  have hl : μ[o.yl]? = some (.lst (s.log.map yrow)) := h.at 3 rfl
  have hlh : μ[o.lh]? = some (.dK (dct ns s.hand) false) := h.at 5 rfl
  have hll : μ[o.ll]? = some (.lst (s.log.map lrow)) := h.at 7 rfl
  have e1 := text_comp (A := A) hN (ρ := env scr ns o s a10 a11 a12 a13 a14 a15 a16 a17 a18 a19) rfl rfl rfl hy hh
  have e2 : eMe A.Yard "works" 1 (f_Yard_works A) (eVar 3) aNil (env scr ns o s a10 a11 a12 a13 a14 a15 a16 a17 a18 a19) μ = .ok (.tup ((s.ws.map (·.id)).map .int)) μ := by
    have e := works_ok (A := A) h g (by omega)
    have ig : insOf A.Yard "works" μ (.loc o.y) = true := yf_no hy m_works
    simp [eVar, eC, eBin, eTest, eTru, eAnd, eOr, eNot, eNeg, eIf, eTup, eLst, eNew, eCall, eFn, eMe, eMk, eFld, eMeL, eMeL0, aNil, aCons, bAnd, bOr, bNot, bYes, sSeq, sNx, sEx, sRet, sRetN, sIf, sAsg, gSet, sPar, sFldM, sFldAdd, sRaise, Out.bind, Out.st, SO.seq, fin, runB, startW, env, ig, e]
  have e3 : eMe A.Yard "waiting" 1 (f_Yard_waiting A) (eVar 3) aNil (env scr ns o s a10 a11 a12 a13 a14 a15 a16 a17 a18 a19) μ = .ok (.int ((s.log.length : Int) - (s.safe : Int))) μ := by
    have e := waiting_ok (A := A) hy hl
    rw [List.length_map] at e
    have ig : insOf A.Yard "waiting" μ (.loc o.y) = true := yf_no hy m_wait
    simp [eVar, eC, eBin, eTest, eTru, eAnd, eOr, eNot, eNeg, eIf, eTup, eLst, eNew, eCall, eFn, eMe, eMk, eFld, eMeL, eMeL0, aNil, aCons, bAnd, bOr, bNot, bYes, sSeq, sNx, sEx, sRet, sRetN, sIf, sAsg, gSet, sPar, sFldM, sFldAdd, sRaise, Out.bind, Out.st, SO.seq, fin, runB, startW, env, ig, e]
  have e4 := hand_comp hN (ρ := env scr ns o s a10 a11 a12 a13 a14 a15 a16 a17 a18 a19) rfl rfl rfl hlh
  have e5 : eCall cTuple (aCons (eCall cSortI (aCons (eCall cListKF (aCons (eVar 8) aNil)) aNil)) aNil) (env scr ns o s a10 a11 a12 a13 a14 a15 a16 a17 a18 a19) μ = .ok (.tup ((s.ws.map (·.id)).map .int)) μ := by
    rw [call1 (sorted_going h g rfl)]; rfl
  have e6 : eBin PD.gSub (eCall cLen (aCons (eVar 6) aNil)) (eVar 7) (env scr ns o s a10 a11 a12 a13 a14 a15 a16 a17 a18 a19) μ = .ok (.int ((s.log.length : Int) - (s.safe : Int))) μ := by
    have e := cLen_loc hll
    rw [List.length_map] at e
    simp [eVar, eC, eBin, eTest, eTru, eAnd, eOr, eNot, eNeg, eIf, eTup, eLst, eNew, eCall, eFn, eMe, eMk, eFld, eMeL, eMeL0, aNil, aCons, bAnd, bOr, bNot, bYes, sSeq, sNx, sEx, sRet, sRetN, sIf, sAsg, gSet, sPar, sFldM, sFldAdd, sRaise, Out.bind, Out.st, SO.seq, fin, runB, startW, env, e, PD.gSub, gI]
  have l1 := lst3 e1 e2 e3
  have l2 := lst3 e4 e5 e6
  have al : f_law_alike A [.lst [.lst (ns.map fun n => W.str (s.hand n)), .tup ((s.ws.map (·.id)).map .int), .int ((s.log.length : Int) - (s.safe : Int))], .lst [.lst (ns.map fun n => W.str (s.hand n)), .tup ((s.ws.map (·.id)).map .int), .int ((s.log.length : Int) - (s.safe : Int))]] μ = .ok (.bl true) μ := by
    refine alike_lst (fun w hw => ?_) (by simp [eVar, eC, eBin, eTest, eTru, eAnd, eOr, eNot, eNeg, eIf, eTup, eLst, eNew, eCall, eFn, eMe, eMk, eFld, eMeL, eMeL0, aNil, aCons, bAnd, bOr, bNot, bYes, sSeq, sNx, sEx, sRet, sRetN, sIf, sAsg, gSet, sPar, sFldM, sFldAdd, sRaise, Out.bind, Out.st, SO.seq, fin, runB, startW]; omega)
    simp only [List.mem_cons, List.not_mem_nil, or_false] at hw
    rcases hw with rfl | rfl | rfl
    · refine alike_lst (fun w hw => ?_) (by have := hN.small; simp [eVar, eC, eBin, eTest, eTru, eAnd, eOr, eNot, eNeg, eIf, eTup, eLst, eNew, eCall, eFn, eMe, eMk, eFld, eMeL, eMeL0, aNil, aCons, bAnd, bOr, bNot, bYes, sSeq, sNx, sEx, sRet, sRetN, sIf, sAsg, gSet, sPar, sFldM, sFldAdd, sRaise, Out.bind, Out.st, SO.seq, fin, runB, startW]; omega)
      obtain ⟨n, _, rfl⟩ := List.mem_map.mp hw
      exact alike_str _ (x.hand n)
    · refine alike_tup (fun w hw => ?_) (by simp [eVar, eC, eBin, eTest, eTru, eAnd, eOr, eNot, eNeg, eIf, eTup, eLst, eNew, eCall, eFn, eMe, eMk, eFld, eMeL, eMeL0, aNil, aCons, bAnd, bOr, bNot, bYes, sSeq, sNx, sEx, sRet, sRetN, sIf, sAsg, gSet, sPar, sFldM, sFldAdd, sRaise, Out.bind, Out.st, SO.seq, fin, runB, startW]; omega)
      obtain ⟨j, _, rfl⟩ := List.mem_map.mp hw
      exact alike_int _ _
    · exact alike_int _ _
  unfold P3
  refine (if_not μ ?_).trans rfl
  simp only [bNot, eTru, eFn, aCons, aNil] at l1 l2 ⊢
  simp only [l1, l2, Out.bind, List.length_cons, List.length_nil, if_true, al, truW]
  rfl
end
end K76
namespace K76
open PySem PySem.Spec PyProof.Rows L2 PD
variable [Tbs]
section
variable {A : Adr} {μ : Mu} {ns : List Str} {o : Lc} {s : S} {scr : W} {a10 a11 a12 a13 a14 a15 a16 a17 a18 a19 : Tl} {K : PySem.W.Frag} {mg : Str → Option Value}
theorem tst2 {c d : EM} {ρ : PD.Env} {b1 b2 : Bool} (h : c ρ μ = .ok (.bl b1) μ) (h2 : d ρ μ = .ok (.bl b2) μ) : bAnd (eTest c) (eTest d) ρ μ = .ok (b1 && b2) μ := by
  cases b1
  · rw [Bool.false_and]; exact and_no h
  · rw [Bool.true_and]; exact and_yes h h2
theorem lt_z {z : Int} {b : Int} (e : a11 = some (.int z)) : eBin gLt (eVar 11) (eC (.int b)) (env scr ns o s a10 a11 a12 (some (idsW s)) a14 a15 a16 a17 a18 a19) μ = .ok (.bl (decide (z < b))) μ := by
  subst e; rfl
theorem eq_z {z : Int} {b : Int} (e : a11 = some (.int z)) : eBin gEq (eVar 11) (eC (.int b)) (env scr ns o s a10 a11 a12 (some (idsW s)) a14 a15 a16 a17 a18 a19) μ = .ok (.bl (z == b)) μ := by
  subst e; rfl
theorem ne_w : eBin gNe (eVar 13) (eLst aNil) (env scr ns o s a10 a11 a12 (some (idsW s)) a14 a15 a16 a17 a18 a19) μ = .ok (.bl (!decide (s.ws = []))) μ := by
  have z0 : (0 : Nat) ≤ sizeLine := Nat.zero_le _
  have e1 : eLst aNil (env scr ns o s a10 a11 a12 (some (idsW s)) a14 a15 a16 a17 a18 a19) μ = .ok (.lst []) μ := by simp [eVar, eC, eBin, eTest, eTru, eAnd, eOr, eNot, eNeg, eIf, eTup, eLst, eNew, eCall, eFn, eMe, eMk, eFld, eMeL, eMeL0, aNil, aCons, bAnd, bOr, bNot, bYes, sSeq, sNx, sEx, sRet, sRetN, sIf, sAsg, gSet, sPar, sFldM, sFldAdd, sRaise, Out.bind, Out.st, SO.seq, fin, runB, startW, z0]
  have e2 : eVar 13 (env scr ns o s a10 a11 a12 (some (idsW s)) a14 a15 a16 a17 a18 a19) μ = .ok (idsW s) μ := rfl
  rw [bin_of e2 e1, ne_nil]
  simp [eVar, eC, eBin, eTest, eTru, eAnd, eOr, eNot, eNeg, eIf, eTup, eLst, eNew, eCall, eFn, eMe, eMk, eFld, eMeL, eMeL0, aNil, aCons, bAnd, bOr, bNot, bYes, sSeq, sNx, sEx, sRet, sRetN, sIf, sAsg, gSet, sPar, sFldM, sFldAdd, sRaise, Out.bind, Out.st, SO.seq, fin, runB, startW]
theorem lt_w : eBin gLt (eCall cLen (aCons (eVar 13) aNil)) (eC (.int 3)) (env scr ns o s a10 a11 a12 (some (idsW s)) a14 a15 a16 a17 a18 a19) μ = .ok (.bl (decide (s.ws.length < 3))) μ := by
  have e2 : eCall cLen (aCons (eVar 13) aNil) (env scr ns o s a10 a11 a12 (some (idsW s)) a14 a15 a16 a17 a18 a19) μ = .ok (.int (s.ws.length : Nat)) μ := by
    rw [call1 (v := idsW s) (μ1 := μ) rfl, cLen_lst, List.length_map, List.length_map]
  refine (bin_of e2 rfl).trans ?_
  show Out.ok (W.bl (decide (((s.ws.length : Nat) : Int) < 3))) μ = _
  have : decide (((s.ws.length : Nat) : Int) < 3) = decide (s.ws.length < 3) := by
    by_cases h : s.ws.length < 3
    · rw [decide_eq_true h, decide_eq_true (by omega)]
    · rw [decide_eq_false h, decide_eq_false (by omega)]
  rw [this]
/-- a turn of the law -/
theorem turn_ok (T : Txt K mg A) (hN : isNames ns) {t : Nat} (ht : t < 62) (h : Ag μ (cells A ns o s)) (g : Good ns s) (x : Tx s) (b : Bd t s) :
    ∃ (o' : Lc) (s' : S) (μ' : Mu) (b11 b12 b13 b14 b15 b16 b17 b18 b19 : Tl), s_law_1 A (env scr ns o s a10 a11 a12 a13 a14 a15 a16 a17 a18 a19) μ = .nx (env scr ns o' s' a10 b11 b12 b13 b14 b15 b16 b17 b18 b19) μ' ∧ Ag μ' (cells A ns o' s') ∧ Good ns s' ∧ Tx s' ∧ Bd (t + 1) s' := by
  have sl := sizeLine_val
  obtain ⟨z, n, dl, μ1, z0, z1, hn, h1, e1⟩ := pick_ok (scr := scr) (a10 := a10) (a11 := a11) (a12 := a12) (a13 := a13) (a14 := a14) (a15 := a15) (a16 := a16) (a17 := a17) (a18 := a18) (a19 := a19) hN h
  have g1 : Good ns { s with dl := dl } := g.draws dl
  have x1 : Tx { s with dl := dl } := ⟨x.first, x.hand, x.log, x.rows⟩
  have b1 : Bd t { s with dl := dl } := ⟨b.few, b.log, b.rows⟩
  clear h g x b
  generalize hs1 : ({ s with dl := dl } : S) = s1 at h1 g1 x1 b1
  have e1' : P0 A (env scr ns o s a10 a11 a12 a13 a14 a15 a16 a17 a18 a19) μ = .nx (env scr ns o s1 a10 (some (.int z)) (some (.str n)) a13 a14 a15 a16 a17 a18 a19) μ1 := by rw [← hs1]; exact e1
  have e2 : P1 A (env scr ns o s1 a10 (some (.int z)) (some (.str n)) a13 a14 a15 a16 a17 a18 a19) μ1 = .nx (env scr ns o s1 a10 (some (.int z)) (some (.str n)) (some (idsW s1)) a14 a15 a16 a17 a18 a19) μ1 := asg_set (sorted_going h1 g1 rfl)
  clear e1
  rw [law1_eq]
  rw [seq_nx e1', seq_nx e2]
  have bl : s1.log.length ≤ 64 * 62 := by have := b1.log; omega
  have bset : ∀ p ∈ s1.ws, p.rows.length < 62 := fun p hp => by have := b1.rows p hp; omega
  -- what follows the choice
  suffices hk : ∃ (o' : Lc) (s' : S) (μ' : Mu) (b14 b15 b16 b17 b18 b19 : Tl), (sIf (T1 A) (B1 A) (sIf (T2 A) (B2 A) (sIf (T3 A) (B3 A) (sIf (T4 A) (B4 A) (sIf (T5 A) (B5 A) (sIf (T6 A) (B6 A) (sIf (T7 A) (B7 A) sNx))))))) (env scr ns o s1 a10 (some (.int z)) (some (.str n)) (some (idsW s1)) a14 a15 a16 a17 a18 a19) μ1 = .nx (env scr ns o' s' a10 (some (.int z)) (some (.str n)) (some (idsW s1)) b14 b15 b16 b17 b18 b19) μ' ∧ Ag μ' (cells A ns o' s') ∧ Good ns s' ∧ Tx s' ∧ Bd (t + 1) s' by
    obtain ⟨o', s', μ', b14, b15, b16, b17, b18, b19, ek, hk, gk, xk, bk⟩ := hk
    refine ⟨o', s', μ', some (.int z), some (.str n), some (idsW s1), b14, b15, b16, b17, b18, b19, ?_, hk, gk, xk, bk⟩
    rw [seq_nx ek]
    exact chk_ok hN hk gk xk bk.few
  have t1 : T1 A (env scr ns o s1 a10 (some (.int z)) (some (.str n)) (some (idsW s1)) a14 a15 a16 a17 a18 a19) μ1 = .ok (decide (z < 2) && decide (s1.ws.length < 3)) μ1 := tst2 (lt_z rfl) lt_w
  have t2 : T2 A (env scr ns o s1 a10 (some (.int z)) (some (.str n)) (some (idsW s1)) a14 a15 a16 a17 a18 a19) μ1 = .ok (decide (z < 8) && !decide (s1.ws = [])) μ1 := tst2 (lt_z rfl) ne_w
  have t3 : T3 A (env scr ns o s1 a10 (some (.int z)) (some (.str n)) (some (idsW s1)) a14 a15 a16 a17 a18 a19) μ1 = .ok (decide (z < 10) && !decide (s1.ws = [])) μ1 := tst2 (lt_z rfl) ne_w
  have t4 : T4 A (env scr ns o s1 a10 (some (.int z)) (some (.str n)) (some (idsW s1)) a14 a15 a16 a17 a18 a19) μ1 = .ok ((z == 10) && !decide (s1.ws = [])) μ1 := tst2 (eq_z rfl) ne_w
  have t5 : T5 A (env scr ns o s1 a10 (some (.int z)) (some (.str n)) (some (idsW s1)) a14 a15 a16 a17 a18 a19) μ1 = .ok (z == 11) μ1 := rfl
  have t6 : T6 A (env scr ns o s1 a10 (some (.int z)) (some (.str n)) (some (idsW s1)) a14 a15 a16 a17 a18 a19) μ1 = .ok (decide (z < 14)) μ1 := rfl
  have t7 : T7 A (env scr ns o s1 a10 (some (.int z)) (some (.str n)) (some (idsW s1)) a14 a15 a16 a17 a18 a19) μ1 = .ok (z == 15) μ1 := rfl
  have bdel : ∀ {a b : List Wk} {p : Wk}, s1.ws = a ++ p :: b → (a ++ b).length ≤ 3 ∧ (∀ q ∈ a ++ b, q ∈ s1.ws) := fun {a b p} e => by
    have := b1.few
    rw [e] at this
    refine ⟨by simp at this ⊢; omega, fun q hq => ?_⟩
    rw [e]
    rcases List.mem_append.mp hq with h | h
    · exact List.mem_append_left _ h
    · exact List.mem_append_right _ (List.mem_cons_of_mem _ h)
  cases c1 : (decide (z < 2) && decide (s1.ws.length < 3)) with
  | true =>
    rw [c1] at t1
    rw [if_yes μ1 t1]
    have hw : s1.ws.length < 3 := by simp at c1; exact c1.2
    obtain ⟨ly, ll, μ2, e3, h3⟩ := br1 (scr := scr) (a10 := a10) (a11 := some (.int z)) (a12 := some (.str n)) (a13 := some (idsW s1)) (a14 := a14) (a15 := a15) (a16 := a16) (a17 := a17) (a18 := a18) (a19 := a19) h1 g1 hw
    refine ⟨o, _, μ2, a14, a15, a16, a17, a18, a19, e3, h3, g1.begin_ ly ll, ⟨x1.first, x1.hand, x1.log, fun p hp q hq => ?_⟩, ⟨by simp [eVar, eC, eBin, eTest, eTru, eAnd, eOr, eNot, eNeg, eIf, eTup, eLst, eNew, eCall, eFn, eMe, eMk, eFld, eMeL, eMeL0, aNil, aCons, bAnd, bOr, bNot, bYes, sSeq, sNx, sEx, sRet, sRetN, sIf, sAsg, gSet, sPar, sFldM, sFldAdd, sRaise, Out.bind, Out.st, SO.seq, fin, runB, startW]; omega, by have := b1.log; show s1.log.length ≤ _; omega, fun p hp => ?_⟩⟩
    · rcases List.mem_append.mp hp with hp | hp
      · exact x1.rows p hp q hq
      · rw [List.mem_singleton] at hp; subst hp; simp at hq
    · rcases List.mem_append.mp hp with hp | hp
      · have := b1.rows p hp; omega
      · rw [List.mem_singleton] at hp; subst hp; simp [eVar, eC, eBin, eTest, eTru, eAnd, eOr, eNot, eNeg, eIf, eTup, eLst, eNew, eCall, eFn, eMe, eMk, eFld, eMeL, eMeL0, aNil, aCons, bAnd, bOr, bNot, bYes, sSeq, sNx, sEx, sRet, sRetN, sIf, sAsg, gSet, sPar, sFldM, sFldAdd, sRaise, Out.bind, Out.st, SO.seq, fin, runB, startW]
  | false =>
  rw [c1] at t1
  rw [if_not μ1 t1]
  cases c2 : (decide (z < 8) && !decide (s1.ws = [])) with
  | true =>
    rw [c2] at t2
    rw [if_yes μ1 t2]
    have hw : 0 < s1.ws.length := List.length_pos_iff.mpr (by simp at c2; exact c2.2)
    obtain ⟨dl2, μ2, b14, b15, b16, s2, e3, h3, hs⟩ := br2 (scr := scr) (a10 := a10) (a11 := some (.int z)) (a14 := a14) (a15 := a15) (a16 := a16) (a17 := a17) (a18 := a18) (a19 := a19) T hN hn h1 g1 hw b1.few (by omega) (fun p hp => by have := bset p hp; omega)
    refine ⟨o, s2, μ2, b14, b15, b16, a17, a18, a19, e3, h3, ?_⟩
    rcases hs with rfl | ⟨a, b, p, y, ews, hy, hf, rfl⟩
    · exact ⟨g1.draws dl2, ⟨x1.first, x1.hand, x1.log, x1.rows⟩, ⟨b1.few, by have := b1.log; show s1.log.length ≤ _; omega, fun p hp => by have := b1.rows p hp; omega⟩⟩
    · have hp : p ∈ s1.ws := by rw [ews]; exact List.mem_append_right _ List.mem_cons_self
      have ho : ∀ q ∈ s1.ws, q.id ≠ p.id → n ∉ nm q := fun q hq hne hm => by
        have := List.any_eq_false.mp hf q hq
        rw [decide_eq_true hne, decide_eq_true hm] at this
        exact this rfl
      have g2 := g1.reserve ews (n := n) (o := s1.hand n) ho hn
      have hp' : ({ p with rows := p.rows ++ [(n, s1.hand n)] } : Wk) ∈ a ++ { p with rows := p.rows ++ [(n, s1.hand n)] } :: b := List.mem_append_right _ List.mem_cons_self
      have memq : ∀ q, q ∈ a ++ { p with rows := p.rows ++ [(n, s1.hand n)] } :: b → q ∈ s1.ws ∨ q = { p with rows := p.rows ++ [(n, s1.hand n)] } := fun q hq => by
        rcases List.mem_append.mp hq with h | h
        · exact .inl (by rw [ews]; exact List.mem_append_left _ h)
        · rcases List.mem_cons.mp h with h | h
          · exact .inr h
          · exact .inl (by rw [ews]; exact List.mem_append_right _ (List.mem_cons_of_mem _ h))
      have g3 := g2.write (p := { p with rows := p.rows ++ [(n, s1.hand n)] }) hp' (n := n) (x := y) (by simp [eVar, eC, eBin, eTest, eTru, eAnd, eOr, eNot, eNeg, eIf, eTup, eLst, eNew, eCall, eFn, eMe, eMk, eFld, eMeL, eMeL0, aNil, aCons, bAnd, bOr, bNot, bYes, sSeq, sNx, sEx, sRet, sRetN, sIf, sAsg, gSet, sPar, sFldM, sFldAdd, sRaise, Out.bind, Out.st, SO.seq, fin, runB, startW, nm]) (fun q hq hne => by
        rcases memq q hq with h | h
        · exact ho q h hne
        · rw [h] at hne; exact absurd rfl hne) hn
      refine ⟨g3.draws dl2, ⟨x1.first, okS_set x1.hand (okS_txts hy), fun w m o' v hm => ?_, fun q hq r hr => ?_⟩, ⟨?_, ?_, fun q hq => ?_⟩⟩
      · rcases List.mem_append.mp hm with hm | hm
        · exact x1.log w m o' v hm
        · rw [List.mem_singleton] at hm; cases hm; exact okS_txts hy
      · rcases memq q hq with h | h
        · exact x1.rows q h r hr
        · subst h
          rcases List.mem_append.mp hr with hr | hr
          · exact x1.rows p hp r hr
          · rw [List.mem_singleton] at hr; subst hr; exact x1.hand n
      · have := b1.few
        rw [ews] at this
        simpa using this
      · show (s1.log ++ [_]).length ≤ _
        have := b1.log
        rw [List.length_append, List.length_singleton]; omega
      · rcases memq q hq with h | h
        · have := b1.rows q h; omega
        · subst h
          have := b1.rows p hp
          show (p.rows ++ [_]).length ≤ _
          rw [List.length_append, List.length_singleton]; omega
  | false =>
  rw [c2] at t2
  rw [if_not μ1 t2]
  cases c3 : (decide (z < 10) && !decide (s1.ws = [])) with
  | true =>
    rw [c3] at t3
    rw [if_yes μ1 t3]
    have hw : 0 < s1.ws.length := List.length_pos_iff.mpr (by simp at c3; exact c3.2)
    obtain ⟨a, b, p, dl2, μ2, b14, ews, e3, h3⟩ := br3 (scr := scr) (a10 := a10) (a11 := some (.int z)) (a12 := some (.str n)) (a14 := a14) (a15 := a15) (a16 := a16) (a17 := a17) (a18 := a18) (a19 := a19) h1 g1 hw (by omega)
    obtain ⟨d1, d2⟩ := bdel ews
    refine ⟨o, _, μ2, b14, a15, a16, a17, a18, a19, e3, h3, (g1.end_ ews).draws dl2, ⟨x1.first, x1.hand, fun w m o' v hm => ?_, fun q hq => x1.rows q (d2 q hq)⟩, ⟨d1, ?_, fun q hq => by have := b1.rows q (d2 q hq); omega⟩⟩
    · rcases List.mem_append.mp hm with hm | hm
      · exact x1.log w m o' v hm
      · rw [List.mem_singleton] at hm; cases hm
    · show (s1.log ++ [_]).length ≤ _
      have := b1.log
      rw [List.length_append, List.length_singleton]; omega
  | false =>
  rw [c3] at t3
  rw [if_not μ1 t3]
  cases c4 : ((z == 10) && !decide (s1.ws = [])) with
  | true =>
    rw [c4] at t4
    rw [if_yes μ1 t4]
    have hw : 0 < s1.ws.length := List.length_pos_iff.mpr (by simp at c4; exact c4.2)
    obtain ⟨a, b, p, dl2, μ2, b14, b17, b18, ews, e3, h3⟩ := br4 (scr := scr) (a10 := a10) (a11 := some (.int z)) (a12 := some (.str n)) (a14 := a14) (a15 := a15) (a16 := a16) (a17 := a17) (a18 := a18) (a19 := a19) hN h1 g1 hw (fun p hp => by have := bset p hp; omega)
    obtain ⟨d1, d2⟩ := bdel ews
    have hp : p ∈ s1.ws := by rw [ews]; exact List.mem_append_right _ List.mem_cons_self
    have g2 := g1.drop (p := p) p.rows.reverse hp (fun q hq => List.mem_reverse.mp hq)
    have tx := Tx.drop (w := p.id) p.rows.reverse (l := s1.log) (c := s1.hand) x1.hand x1.log (fun q hq => x1.rows p hp q (List.mem_reverse.mp hq))
    have hlen := dropF_len (w := p.id) p.rows.reverse (s1.log, s1.hand)
    rw [List.length_reverse] at hlen
    refine ⟨o, _, μ2, b14, a15, a16, b17, b18, a19, e3, h3, (g2.end_ ews).draws dl2, ⟨x1.first, tx.1, fun w m o' v hm => ?_, fun q hq => x1.rows q (d2 q hq)⟩, ⟨d1, ?_, fun q hq => by have := b1.rows q (d2 q hq); omega⟩⟩
    · rcases List.mem_append.mp hm with hm | hm
      · exact tx.2 w m o' v hm
      · rw [List.mem_singleton] at hm; cases hm
    · show ((dropF p.id p.rows.reverse (s1.log, s1.hand)).1 ++ [_]).length ≤ _
      have h1 := b1.log
      have h2 := b1.rows p hp
      rw [List.length_append, List.length_singleton, hlen]
      show s1.log.length + p.rows.length + 1 ≤ _
      omega
  | false =>
  rw [c4] at t4
  rw [if_not μ1 t4]
  have bsame : ∀ {safe : Nat} {disk : Cells}, Bd (t + 1) { s1 with safe := safe, disk := disk } := ⟨b1.few, by have := b1.log; show s1.log.length ≤ _; omega, fun p hp => by have := b1.rows p hp; omega⟩
  cases c5 : (z == 11) with
  | true =>
    rw [c5] at t5
    rw [if_yes μ1 t5]
    obtain ⟨μ2, e3, h3⟩ := br5 (scr := scr) (a10 := a10) (a11 := some (.int z)) (a12 := some (.str n)) (a13 := some (idsW s1)) (a14 := a14) (a15 := a15) (a16 := a16) (a17 := a17) (a18 := a18) (a19 := a19) h1
    exact ⟨o, _, μ2, a14, a15, a16, a17, a18, a19, e3, h3, g1.sync, ⟨x1.first, x1.hand, x1.log, x1.rows⟩, bsame⟩
  | false =>
  rw [c5] at t5
  rw [if_not μ1 t5]
  cases c6 : decide (z < 14) with
  | true =>
    rw [c6] at t6
    rw [if_yes μ1 t6]
    obtain ⟨μ2, e3, h3⟩ := br6 (scr := scr) (a10 := a10) (a11 := some (.int z)) (a13 := some (idsW s1)) (a14 := a14) (a15 := a15) (a16 := a16) (a17 := a17) (a18 := a18) (a19 := a19) hN hn h1
    exact ⟨o, _, μ2, a14, a15, a16, a17, a18, a19, e3, h3, g1.flush n, ⟨x1.first, x1.hand, x1.log, x1.rows⟩, bsame⟩
  | false =>
  rw [c6] at t6
  rw [if_not μ1 t6]
  cases c7 : (z == 15) with
  | true =>
    rw [c7] at t7
    rw [if_yes μ1 t7]
    obtain ⟨o', k, dl2, μ2, b19, cf, hk, ecf, e3, h3⟩ := br7 (scr := scr) (a10 := a10) (a11 := some (.int z)) (a12 := some (.str n)) (a13 := some (idsW s1)) (a14 := a14) (a15 := a15) (a16 := a16) (a17 := a17) (a18 := a18) (a19 := a19) hN h1 g1 (by omega)
    have okc : ∀ n, okS (cf n) := by
      rw [ecf]
      exact okS_beh x1.first fun w n o x hm => x1.log w n o x (List.mem_of_mem_take hm)
    exact ⟨o', _, μ2, a14, a15, a16, a17, a18, b19, e3, h3, .fresh g1.many, ⟨okc, okc, fun _ _ _ _ hm => by simp at hm, fun p hp => by simp at hp⟩, ⟨by simp, by simp, fun p hp => by simp at hp⟩⟩
  | false =>
    rw [c7] at t7
    rw [if_not μ1 t7]
    exact ⟨o, s1, μ1, a14, a15, a16, a17, a18, a19, rfl, h1, g1, x1, ⟨b1.few, by have := b1.log; omega, fun p hp => by have := b1.rows p hp; omega⟩⟩
end
end K76
namespace K76
open PySem PySem.Spec PyProof.Rows L2 PD
variable [Tbs]
section
variable {A : Adr} {μ : Mu} {ns : List Str} {o : Lc} {s : S} {scr : W} {a10 a11 a12 a13 a14 a15 a16 a17 a18 a19 : Tl} {K : PySem.W.Frag} {mg : Str → Option Value}
theorem tup3 {a b c : EM} {ρ : PD.Env} {x y z : W} {μ1 μ2 μ3 : Mu} (h : a ρ μ = .ok x μ1) (h2 : b ρ μ1 = .ok y μ2) (h3 : c ρ μ2 = .ok z μ3) : eTup (aCons a (aCons b (aCons c aNil))) ρ μ = .ok (.tup [x, y, z]) μ3 := by
  have z3 : 3 ≤ sizeLine := by have := sizeLine_val; omega
  simp [eVar, eC, eBin, eTest, eTru, eAnd, eOr, eNot, eNeg, eIf, eTup, eLst, eNew, eCall, eFn, eMe, eMk, eFld, eMeL, eMeL0, aNil, aCons, bAnd, bOr, bNot, bYes, sSeq, sNx, sEx, sRet, sRetN, sIf, sAsg, gSet, sPar, sFldM, sFldAdd, sRaise, Out.bind, Out.st, SO.seq, fin, runB, startW, h, h2, h3, z3]
def rho0 (scr : W) (dr : Nat) (ns : List Str) : PD.Env := [some scr, some (.loc dr), some (.lst (ns.map .str)), none, none, none, none, none, none, none, none, none, none, none, none, none, none, none, none, none, none, none, none, none, none]
theorem blank_comp (hN : isNames ns) {dr : Nat} : eCall cDictP (aCons (eCmp (iSeq (eVar 2)) [12] (gSet 12) bYes (eTup (aCons (eVar 12) (aCons (eC (.str "")) aNil)))) aNil) (rho0 scr dr ns) μ = .ok (.loc μ.length) (μ ++ [.dK (dct ns fun _ => "") false]) := by
  have z2 : 2 ≤ sizeLine := by have := sizeLine_val; omega
  have key := cmpS_map (μ := μ) (g := gSet 12) (tt := bYes) (me := eTup (aCons (eVar 12) (aCons (eC (.str "")) aNil))) (ρ := wipeW (rho0 scr dr ns) [12]) (φ := fun w => match w with | .str n => W.tup [.str n, .str ""] | _ => .non) (ns.map .str) [] (fun x hx => by
    obtain ⟨n, hn', rfl⟩ := List.mem_map.mp hx
    refine ⟨(wipeW (rho0 scr dr ns) [12]).set 12 (some (.str n)), rfl, rfl, ?_⟩
    have g1 : ((wipeW (rho0 scr dr ns) [12]).set 12 (some (.str n)))[12]? = some (some (.str n)) := rfl
    simp only [eTup, aCons, aNil, eVar, eC, g1, Out.bind]
    simp [eVar, eC, eBin, eTest, eTru, eAnd, eOr, eNot, eNeg, eIf, eTup, eLst, eNew, eCall, eFn, eMe, eMk, eFld, eMeL, eMeL0, aNil, aCons, bAnd, bOr, bNot, bYes, sSeq, sNx, sEx, sRet, sRetN, sIf, sAsg, gSet, sPar, sFldM, sFldAdd, sRaise, Out.bind, Out.st, SO.seq, fin, runB, startW, z2]) (by have := hN.small; have := sizeLine_val; simp [eVar, eC, eBin, eTest, eTru, eAnd, eOr, eNot, eNeg, eIf, eTup, eLst, eNew, eCall, eFn, eMe, eMk, eFld, eMeL, eMeL0, aNil, aCons, bAnd, bOr, bNot, bYes, sSeq, sNx, sEx, sRet, sRetN, sIf, sAsg, gSet, sPar, sFldM, sFldAdd, sRaise, Out.bind, Out.st, SO.seq, fin, runB, startW]; omega)
  rw [List.nil_append, List.map_map] at key
  have e : eCmp (iSeq (eVar 2)) [12] (gSet 12) bYes (eTup (aCons (eVar 12) (aCons (eC (.str "")) aNil))) (rho0 scr dr ns) μ = .ok (.lst (ns.map fun n => W.tup [.str n, .str ((fun _ => "" : Cells) n)])) μ := by
    have : eCmp (iSeq (eVar 2)) [12] (gSet 12) bYes (eTup (aCons (eVar 12) (aCons (eC (.str "")) aNil))) (rho0 scr dr ns) μ = cmpS (gSet 12) bYes (eTup (aCons (eVar 12) (aCons (eC (.str "")) aNil))) (wipeW (rho0 scr dr ns) [12]) (ns.map .str) [] μ := by
      have g2 : (rho0 scr dr ns)[2]? = some (some (.lst (ns.map .str))) := rfl
      simp only [eCmp, iSeq, eVar, g2, Out.bind, itOf, asQ, asL, Option.map_some]
    rw [this, key]; rfl
  rw [call1 e]
  simp only [cDictP, asL, pairs_dct, merge_dct hN]
/-- the law's first lines -/
theorem start_ok (l : List Int) {dr : Nat} (hd : μ[dr]? = some (.lst (intsW l))) : ∃ (ns : List Str) (o : Lc) (s : S) (μ' : Mu), isNames ns ∧ Ag μ' (cells A ns o s) ∧ Good ns s ∧ Tx s ∧ Bd 0 s ∧
    ∀ r : SM, sSeq (Q1 A) (sSeq (Q2 A) (sSeq (Q3 A) r)) [some scr, some (.loc dr), none, none, none, none, none, none, none, none, none, none, none, none, none, none, none, none, none, none, none, none, none, none, none] μ = r (env scr ns o s none none none none none none none none none none) μ' := by
  have z0 : (0 : Nat) ≤ sizeLine := Nat.zero_le _
  have z5 : 5 ≤ sizeLine := by have := sizeLine_val; omega
  obtain ⟨z, l', e1, p0, p1⟩ := take_ok (A := A) hd (b := 4) (by decide)
  obtain ⟨k, rfl⟩ := Int.eq_ofNat_of_zero_le p0
  generalize hμ1 : μ.set dr (.lst (intsW l')) = μ1 at e1
  have hd1 : μ1[dr]? = some (.lst (intsW l')) := by rw [← hμ1]; exact List.getElem?_set_self (List.getElem?_eq_some_iff.mp hd).1
  generalize hns : n5.take (2 + k) = ns
  have hN : isNames ns := ⟨k, by omega, hns.symm⟩
  have s1 : Q1 A [some scr, some (.loc dr), none, none, none, none, none, none, none, none, none, none, none, none, none, none, none, none, none, none, none, none, none, none, none] μ = .nx (rho0 scr dr ns) μ1 := by
    unfold Q1
    refine asg_set (w := .lst (ns.map .str)) ?_
    have ga : gAdd (.int 2) (.int ((k : Nat) : Int)) μ1 = .ok (.int ((2 + k : Nat) : Int)) μ1 := by simp [eVar, eC, eBin, eTest, eTru, eAnd, eOr, eNot, eNeg, eIf, eTup, eLst, eNew, eCall, eFn, eMe, eMk, eFld, eMeL, eMeL0, aNil, aCons, bAnd, bOr, bNot, bYes, sSeq, sNx, sEx, sRet, sRetN, sIf, sAsg, gSet, sPar, sFldM, sFldAdd, sRaise, Out.bind, Out.st, SO.seq, fin, runB, startW, gAdd, orG, gAddI, gI, Out.els]
    have ec : cutW [W.str "a", .str "b", .str "cell", .str "d", .str "zz"] none (some ((2 + k : Nat) : Int)) = ns.map .str := by rw [cutHead, ← hns, List.map_take]; rfl
    simp only [eCut, eLst, aCons, aNil, eC, oNone, oSome, eBin, eFn, eVar, List.getElem?_cons_zero, List.getElem?_cons_succ, Out.bind, List.length_cons, List.length_nil, if_true, z5, e1, ga, gCut, asL, ec]
  generalize hL : μ1.length = L
  have dl' : dr < L := by rw [← hL]; exact (List.getElem?_eq_some_iff.mp hd1).1
  have c1 : eMk A.Yard 2 (f_Yard_init A) (aCons (eCall cTuple (aCons (eVar 2) aNil)) aNil) (rho0 scr dr ns) μ1 = .ok (.loc L) (μ1 ++ [Cell.ins A.Yard (yf (.loc (L + 1)) (.loc (L + 2)) (.loc (L + 3)) (.int 0) (.loc (L + 4)) (.int 0)), Cell.dK (dct ns fun _ => "") false, Cell.dK (dct ns fun _ => "") false, Cell.lst [], Cell.dK [] false]) := by
    have hi := init_ok (A := A) (μ := μ1) hN
    rw [hL] at hi
    have ht : cTuple [.lst (ns.map .str)] μ1 = .ok (.tup (ns.map .str)) μ1 := rfl
    have g2 : (rho0 scr dr ns)[2]? = some (some (.lst (ns.map .str))) := rfl
    simp only [eMk, eCall, aCons, aNil, eVar, g2, Out.bind, ht, List.length_cons, List.length_nil, if_true, hL, hi]
  generalize hμ2 : (μ1 ++ [Cell.ins A.Yard (yf (.loc (L + 1)) (.loc (L + 2)) (.loc (L + 3)) (.int 0) (.loc (L + 4)) (.int 0)), Cell.dK (dct ns fun _ => "") false, Cell.dK (dct ns fun _ => "") false, Cell.lst [], Cell.dK [] false]) = μ2 at c1
  have l2 : μ2.length = L + 5 := by rw [← hμ2]; simp [eVar, eC, eBin, eTest, eTru, eAnd, eOr, eNot, eNeg, eIf, eTup, eLst, eNew, eCall, eFn, eMe, eMk, eFld, eMeL, eMeL0, aNil, aCons, bAnd, bOr, bNot, bYes, sSeq, sNx, sEx, sRet, sRetN, sIf, sAsg, gSet, sPar, sFldM, sFldAdd, sRaise, Out.bind, Out.st, SO.seq, fin, runB, startW, hL]
  have c2 := blank_comp (μ := μ2) (scr := scr) (dr := dr) hN
  rw [l2] at c2
  have c3 := blank_comp (μ := μ2 ++ [.dK (dct ns fun _ => "") false]) (scr := scr) (dr := dr) hN
  rw [show (μ2 ++ [Cell.dK (dct ns fun _ => "") false]).length = L + 6 by rw [List.length_append, l2]; rfl] at c3
  have c4 := tup3 c1 c2 c3
  have s2 : Q2 A (rho0 scr dr ns) μ1 = .nx [some scr, some (.loc dr), some (.lst (ns.map .str)), some (.loc L), some (.loc (L + 5)), some (.loc (L + 6)), none, none, none, none, none, none, none, none, none, none, none, none, none, none, none, none, none, none, none] (μ2 ++ [.dK (dct ns fun _ => "") false] ++ [.dK (dct ns fun _ => "") false]) := by
    unfold Q2 sAsg
    rw [c4]
    simp [eVar, eC, eBin, eTest, eTru, eAnd, eOr, eNot, eNeg, eIf, eTup, eLst, eNew, eCall, eFn, eMe, eMk, eFld, eMeL, eMeL0, aNil, aCons, bAnd, bOr, bNot, bYes, sSeq, sNx, sEx, sRet, sRetN, sIf, sAsg, gSet, sPar, sFldM, sFldAdd, sRaise, Out.bind, Out.st, SO.seq, fin, runB, startW, rho0, gTupM, gsCons, gsNil]
  generalize hμ3 : (μ2 ++ [Cell.dK (dct ns fun _ => "") false] ++ [Cell.dK (dct ns fun _ => "") false]) = μ3 at s2
  have l3 : μ3.length = L + 7 := by rw [← hμ3]; simp [eVar, eC, eBin, eTest, eTru, eAnd, eOr, eNot, eNeg, eIf, eTup, eLst, eNew, eCall, eFn, eMe, eMk, eFld, eMeL, eMeL0, aNil, aCons, bAnd, bOr, bNot, bYes, sSeq, sNx, sEx, sRet, sRetN, sIf, sAsg, gSet, sPar, sFldM, sFldAdd, sRaise, Out.bind, Out.st, SO.seq, fin, runB, startW, l2]
  have s3 : Q3 A [some scr, some (.loc dr), some (.lst (ns.map .str)), some (.loc L), some (.loc (L + 5)), some (.loc (L + 6)), none, none, none, none, none, none, none, none, none, none, none, none, none, none, none, none, none, none, none] μ3 = .nx (env scr ns ⟨L, L + 1, L + 2, L + 3, L + 4, L + 5, L + 6, L + 7, L + 8, dr⟩ ⟨fun _ => "", fun _ => "", fun _ => "", [], 0, [], 0, l'⟩ none none none none none none none none none none) (μ3 ++ [.lst []] ++ [.dK [] false]) := by
    have d1 : eNew aNil [some scr, some (.loc dr), some (.lst (ns.map .str)), some (.loc L), some (.loc (L + 5)), some (.loc (L + 6)), none, none, none, none, none, none, none, none, none, none, none, none, none, none, none, none, none, none, none] μ3 = .ok (.loc (L + 7)) (μ3 ++ [.lst []]) := by simp [eVar, eC, eBin, eTest, eTru, eAnd, eOr, eNot, eNeg, eIf, eTup, eLst, eNew, eCall, eFn, eMe, eMk, eFld, eMeL, eMeL0, aNil, aCons, bAnd, bOr, bNot, bYes, sSeq, sNx, sEx, sRet, sRetN, sIf, sAsg, gSet, sPar, sFldM, sFldAdd, sRaise, Out.bind, Out.st, SO.seq, fin, runB, startW, z0, l3]
    have d2 : eDNew [some scr, some (.loc dr), some (.lst (ns.map .str)), some (.loc L), some (.loc (L + 5)), some (.loc (L + 6)), none, none, none, none, none, none, none, none, none, none, none, none, none, none, none, none, none, none, none] (μ3 ++ [.lst []]) = .ok (.loc (L + 8)) (μ3 ++ [.lst []] ++ [.dK [] false]) := by simp [eVar, eC, eBin, eTest, eTru, eAnd, eOr, eNot, eNeg, eIf, eTup, eLst, eNew, eCall, eFn, eMe, eMk, eFld, eMeL, eMeL0, aNil, aCons, bAnd, bOr, bNot, bYes, sSeq, sNx, sEx, sRet, sRetN, sIf, sAsg, gSet, sPar, sFldM, sFldAdd, sRaise, Out.bind, Out.st, SO.seq, fin, runB, startW, eDNew, l3]
    have d3 := tup4 d1 (b := eC (.int 0)) rfl d2 (d := eC (.int 0)) rfl
    unfold Q3 sAsg
    rw [d3]
    simp [eVar, eC, eBin, eTest, eTru, eAnd, eOr, eNot, eNeg, eIf, eTup, eLst, eNew, eCall, eFn, eMe, eMk, eFld, eMeL, eMeL0, aNil, aCons, bAnd, bOr, bNot, bYes, sSeq, sNx, sEx, sRet, sRetN, sIf, sAsg, gSet, sPar, sFldM, sFldAdd, sRaise, Out.bind, Out.st, SO.seq, fin, runB, startW, env, gTupM, gsCons, gsNil]
  refine ⟨ns, ⟨L, L + 1, L + 2, L + 3, L + 4, L + 5, L + 6, L + 7, L + 8, dr⟩, ⟨fun _ => "", fun _ => "", fun _ => "", [], 0, [], 0, l'⟩, μ3 ++ [.lst []] ++ [.dK [] false], hN, ?_, .fresh (Int.le_refl _), ⟨fun _ => okS_txts (show ("" : Str) ∈ txts by simp [eVar, eC, eBin, eTest, eTru, eAnd, eOr, eNot, eNeg, eIf, eTup, eLst, eNew, eCall, eFn, eMe, eMk, eFld, eMeL, eMeL0, aNil, aCons, bAnd, bOr, bNot, bYes, sSeq, sNx, sEx, sRet, sRetN, sIf, sAsg, gSet, sPar, sFldM, sFldAdd, sRaise, Out.bind, Out.st, SO.seq, fin, runB, startW, txts]), fun _ => okS_txts (show ("" : Str) ∈ txts by simp [eVar, eC, eBin, eTest, eTru, eAnd, eOr, eNot, eNeg, eIf, eTup, eLst, eNew, eCall, eFn, eMe, eMk, eFld, eMeL, eMeL0, aNil, aCons, bAnd, bOr, bNot, bYes, sSeq, sNx, sEx, sRet, sRetN, sIf, sAsg, gSet, sPar, sFldM, sFldAdd, sRaise, Out.bind, Out.st, SO.seq, fin, runB, startW, txts]), fun _ _ _ _ hm => by simp at hm, fun p hp => by simp at hp⟩, ⟨by simp, by simp, fun p hp => by simp at hp⟩, fun r => by rw [seq_nx s1, seq_nx s2, seq_nx s3]⟩
  have eall : μ3 ++ [Cell.lst []] ++ [Cell.dK [] false] = μ1 ++ [Cell.ins A.Yard (yf (.loc (L + 1)) (.loc (L + 2)) (.loc (L + 3)) (.int 0) (.loc (L + 4)) (.int 0)), Cell.dK (dct ns fun _ => "") false, Cell.dK (dct ns fun _ => "") false, Cell.lst [], Cell.dK [] false, Cell.dK (dct ns fun _ => "") false, Cell.dK (dct ns fun _ => "") false, Cell.lst [], Cell.dK [] false] := by
    rw [← hμ3, ← hμ2]; simp [eVar, eC, eBin, eTest, eTru, eAnd, eOr, eNot, eNeg, eIf, eTup, eLst, eNew, eCall, eFn, eMe, eMk, eFld, eMeL, eMeL0, aNil, aCons, bAnd, bOr, bNot, bYes, sSeq, sNx, sEx, sRet, sRetN, sIf, sAsg, gSet, sPar, sFldM, sFldAdd, sRaise, Out.bind, Out.st, SO.seq, fin, runB, startW]
  rw [eall]
  have at1 : ∀ (j : Nat) (c : Cell), ([Cell.ins A.Yard (yf (.loc (L + 1)) (.loc (L + 2)) (.loc (L + 3)) (.int 0) (.loc (L + 4)) (.int 0)), Cell.dK (dct ns fun _ => "") false, Cell.dK (dct ns fun _ => "") false, Cell.lst [], Cell.dK [] false, Cell.dK (dct ns fun _ => "") false, Cell.dK (dct ns fun _ => "") false, Cell.lst [], Cell.dK [] false])[j]? = some c → (μ1 ++ [Cell.ins A.Yard (yf (.loc (L + 1)) (.loc (L + 2)) (.loc (L + 3)) (.int 0) (.loc (L + 4)) (.int 0)), Cell.dK (dct ns fun _ => "") false, Cell.dK (dct ns fun _ => "") false, Cell.lst [], Cell.dK [] false, Cell.dK (dct ns fun _ => "") false, Cell.dK (dct ns fun _ => "") false, Cell.lst [], Cell.dK [] false])[L + j]? = some c := fun j c hc => by
    rw [List.getElem?_append_right (by omega), hL, Nat.add_sub_cancel_left]; exact hc
  refine ⟨?_, fun n c hm => ?_⟩
  · simp [eVar, eC, eBin, eTest, eTru, eAnd, eOr, eNot, eNeg, eIf, eTup, eLst, eNew, eCall, eFn, eMe, eMk, eFld, eMeL, eMeL0, aNil, aCons, bAnd, bOr, bNot, bYes, sSeq, sNx, sEx, sRet, sRetN, sIf, sAsg, gSet, sPar, sFldM, sFldAdd, sRaise, Out.bind, Out.st, SO.seq, fin, runB, startW, cells, flat]
    omega
  · simp only [cells, flat, List.flatMap_nil, List.mem_cons, List.not_mem_nil, or_false, Prod.mk.injEq] at hm
    rcases hm with ⟨rfl, rfl⟩ | ⟨rfl, rfl⟩ | ⟨rfl, rfl⟩ | ⟨rfl, rfl⟩ | ⟨rfl, rfl⟩ | ⟨rfl, rfl⟩ | ⟨rfl, rfl⟩ | ⟨rfl, rfl⟩ | ⟨rfl, rfl⟩ | ⟨rfl, rfl⟩
    · exact at1 0 _ rfl
    · exact at1 1 _ rfl
    · exact at1 2 _ rfl
    · exact at1 3 _ rfl
    · exact at1 4 _ rfl
    · exact at1 5 _ rfl
    · exact at1 6 _ rfl
    · exact at1 7 _ rfl
    · exact at1 8 _ rfl
    · rw [List.getElem?_append_left (by rw [hL]; exact dl')]; exact hd1
/-- all turns -/
theorem loop_ok (T : Txt K mg A) (hN : isNames ns) (h : Ag μ (cells A ns o s)) (g : Good ns s) (x : Tx s) (b : Bd 0 s) :
    ∃ (o' : Lc) (s' : S) (μ' : Mu) (b10 b11 b12 b13 b14 b15 b16 b17 b18 b19 : Tl), Q4 A (env scr ns o s a10 a11 a12 a13 a14 a15 a16 a17 a18 a19) μ = .nx (env scr ns o' s' b10 b11 b12 b13 b14 b15 b16 b17 b18 b19) μ' ∧ Ag μ' (cells A ns o' s') ∧ Good ns s' ∧ Tx s' ∧ Bd 62 s' := by
  obtain ⟨w, dl, μ1, e1, w0, w1, h1⟩ := take_st h (b := 50) (by decide)
  obtain ⟨k, rfl⟩ := Int.eq_ofNat_of_zero_le w0
  have er : iRngA (aCons (eBin gAdd (eC (.int 12)) (eFn 2 (f_law_take A) (aCons (eVar 1) (aCons (eC (.int 50)) aNil)))) aNil) (env scr ns o s a10 a11 a12 a13 a14 a15 a16 a17 a18 a19) μ = .ok (.seq (irange 0 (12 + k))) μ1 := by
    refine rangeA (by omega) ?_
    have ga : gAdd (.int 12) (.int ((k : Nat) : Int)) μ1 = .ok (.int ((12 + k : Nat) : Int)) μ1 := by simp [eVar, eC, eBin, eTest, eTru, eAnd, eOr, eNot, eNeg, eIf, eTup, eLst, eNew, eCall, eFn, eMe, eMk, eFld, eMeL, eMeL0, aNil, aCons, bAnd, bOr, bNot, bYes, sSeq, sNx, sEx, sRet, sRetN, sIf, sAsg, gSet, sPar, sFldM, sFldAdd, sRaise, Out.bind, Out.st, SO.seq, fin, runB, startW, gAdd, orG, gAddI, gI, Out.els]
    have ev : eVar 1 (env scr ns o s a10 a11 a12 a13 a14 a15 a16 a17 a18 a19) μ = .ok (.loc o.dr) μ := rfl
    simp only [aCons, aNil, eBin, eC, eFn, ev, Out.bind, List.length_cons, List.length_nil, if_true, e1, ga]
  have eenv : env scr ns o s a10 a11 a12 a13 a14 a15 a16 a17 a18 a19 = env scr ns o { s with dl := dl } a10 a11 a12 a13 a14 a15 a16 a17 a18 a19 := rfl
  obtain ⟨ρ', μ', e2, o', s', b10, b11, b12, b13, b14, b15, b16, b17, b18, b19, rfl, h2, g2, x2, b2⟩ := forS_inv (g := gSet 10) (body := s_law_1 A) (fun j ρ μ => ∃ (o : Lc) (s : S) (b10 b11 b12 b13 b14 b15 b16 b17 b18 b19 : Tl), ρ = env scr ns o s b10 b11 b12 b13 b14 b15 b16 b17 b18 b19 ∧ Ag μ (cells A ns o s) ∧ Good ns s ∧ Tx s ∧ Bd j s) (irange 0 (12 + k)) 0
    (env scr ns o { s with dl := dl } a10 a11 a12 a13 a14 a15 a16 a17 a18 a19) μ1 ⟨o, { s with dl := dl }, _, _, _, _, _, _, _, _, _, _, rfl, h1, g.draws dl, ⟨x.first, x.hand, x.log, x.rows⟩, ⟨b.few, b.log, b.rows⟩⟩ fun j w ρ μ _ hj ⟨o, s, b10, b11, b12, b13, b14, b15, b16, b17, b18, b19, eρ, h, g, x, b⟩ => by
      subst eρ
      rw [Nat.sub_zero] at hj
      obtain ⟨hj, rfl⟩ := irange_get hj
      obtain ⟨o', s', μ', c11, c12, c13, c14, c15, c16, c17, c18, c19, e, h', g', x', b'⟩ := turn_ok (scr := scr) (a10 := some (.int (0 + (j : Nat)))) (a11 := b11) (a12 := b12) (a13 := b13) (a14 := b14) (a15 := b15) (a16 := b16) (a17 := b17) (a18 := b18) (a19 := b19) T hN (t := j) (by omega) h g x b
      exact ⟨_, μ, _, μ', rfl, e, o', s', _, _, _, _, _, _, _, _, _, _, rfl, h', g', x', b'⟩
  refine ⟨o', s', μ', b10, b11, b12, b13, b14, b15, b16, b17, b18, b19, ?_, h2, g2, x2, ?_⟩
  · unfold Q4 sFor
    rw [er]
    exact e2
  · rw [Nat.zero_add, irange_len] at b2
    exact ⟨b2.few, by have := b2.log; omega, fun p hp => by have := b2.rows p hp; omega⟩
end
end K76
namespace K76
open PySem PySem.Spec PyProof.Rows L2 PD
variable [Tbs]
section
variable {A : Adr} {μ : Mu}
noncomputable def wordRest : SM := sSeq (sIf (eTest (eBin gNe (eCall cLen (aCons (eCmp (iLst (eVar 1)) [2] (gSet 2) (eTru (eVar 2)) (eVar 2)) aNil)) (eC (.int 1)))) (sRet (eC (.str "many"))) sNx)
 (sRet (eBin gIx (eLst (aCons (eC (.str "range")) (aCons (eC (.str "form")) (aCons (eC (.str "none")) (aCons (eC (.str "refused")) (aCons (eC (.str "much")) aNil)))))) (eMeL mIndex (eVar 1) (aCons (eC (.bl true)) aNil))))
theorem word_rest {a : Addr} {bs : List Bool} {x : Str} (h : (bs, x) ∈ [([true, false, false, false, false], ("range" : Str)), ([false, true, false, false, false], "form"), ([false, false, true, false, false], "none"), ([false, false, false, true, false], "refused"), ([false, false, false, false, true], "much")]) :
    wordRest [some (.ref a), some (.lst (bs.map .bl)), none] μ = .rt (.str x) μ := by
  have z : 0 < sizeLine := by rw [sizeLine_val]; decide
  have z1 : 5 ≤ sizeLine := by rw [sizeLine_val]; decide
  simp only [List.mem_cons, Prod.mk.injEq, List.not_mem_nil, or_false] at h
  rcases h with ⟨rfl, rfl⟩ | ⟨rfl, rfl⟩ | ⟨rfl, rfl⟩ | ⟨rfl, rfl⟩ | ⟨rfl, rfl⟩ <;>
  · refine (seq_nx (ρ1 := [some (.ref a), some (.lst _), none]) (μ1 := μ) (by simp [eVar, eC, eBin, eTest, eTru, eAnd, eOr, eNot, eNeg, eIf, eTup, eLst, eNew, eCall, eFn, eMe, eMk, eFld, eMeL, eMeL0, aNil, aCons, bAnd, bOr, bNot, bYes, sSeq, sNx, sEx, sRet, sRetN, sIf, sAsg, gSet, sPar, sFldM, sFldAdd, sRaise, Out.bind, Out.st, SO.seq, fin, runB, startW, eCmp, iLst, wipeW, cmpS, truW, z, cLen_lst, gNe_int]; rfl)).trans ?_
    simp [eVar, eC, eBin, eTest, eTru, eAnd, eOr, eNot, eNeg, eIf, eTup, eLst, eNew, eCall, eFn, eMe, eMk, eFld, eMeL, eMeL0, aNil, aCons, bAnd, bOr, bNot, bYes, sSeq, sNx, sEx, sRet, sRetN, sIf, sAsg, gSet, sPar, sFldM, sFldAdd, sRaise, Out.bind, Out.st, SO.seq, fin, runB, startW, isL, asL, mIndex, topD, toD, toDs, SeqAt.shaped, PyData.canLay0, PyData.canLayAll0, PyData.depth, PyData.depthAll, PyData.eqv, List.findIdx?_cons, z1, gIx, orG, gIxQ, asQ, atI, ixN, Out.els]
theorem word_true {K : PySem.W.Frag} {mg : Str → Option Value} {A : Adr} (T : Txt K mg A) : ∀ a c r μ, wd A c = some r → fin (s_law_word A a c (startW N_law_word.length [.ref a]) μ) = .ok r μ := by
  intro a c r μ h
  have z1 : 5 ≤ sizeLine := by rw [sizeLine_val]; decide
  have first : ∀ (bs : List Bool), [decide (c = A.OutOfRange), decide (c = A.Malformed), decide (c = A.NotThere), decide (c = A.Refused), decide (c = A.TooMuch)] = bs → s_law_word A a c [some (.ref a), none, none] μ = wordRest [some (.ref a), some (.lst (bs.map .bl)), none] μ := fun bs e => by
    subst e
    exact seq_nx (by simp [eVar, eC, eBin, eTest, eTru, eAnd, eOr, eNot, eNeg, eIf, eTup, eLst, eNew, eCall, eFn, eMe, eMk, eFld, eMeL, eMeL0, aNil, aCons, bAnd, bOr, bNot, bYes, sSeq, sNx, sEx, sRet, sRetN, sIf, sAsg, gSet, sPar, sFldM, sFldAdd, sRaise, Out.bind, Out.st, SO.seq, fin, runB, startW, cIsE1, z1])
  have done : ∀ (bs : List Bool) (x : Str), [decide (c = A.OutOfRange), decide (c = A.Malformed), decide (c = A.NotThere), decide (c = A.Refused), decide (c = A.TooMuch)] = bs → (bs, x) ∈ [([true, false, false, false, false], ("range" : Str)), ([false, true, false, false, false], "form"), ([false, false, true, false, false], "none"), ([false, false, false, true, false], "refused"), ([false, false, false, false, true], "much")] → r = .str x → fin (s_law_word A a c (startW N_law_word.length [.ref a]) μ) = .ok r μ := fun bs x e1 e2 e3 => by
    show fin (s_law_word A a c [some (.ref a), none, none] μ) = _
    rw [first bs e1, word_rest e2, e3]
    rfl
  have hc := wd_isE (A := A) (c := c) (by rw [h]; rfl)
  rcases hc with rfl | rfl | rfl | rfl | rfl
  · exact done [true, false, false, false, false] "range" (by simp [eVar, eC, eBin, eTest, eTru, eAnd, eOr, eNot, eNeg, eIf, eTup, eLst, eNew, eCall, eFn, eMe, eMk, eFld, eMeL, eMeL0, aNil, aCons, bAnd, bOr, bNot, bYes, sSeq, sNx, sEx, sRet, sRetN, sIf, sAsg, gSet, sPar, sFldM, sFldAdd, sRaise, Out.bind, Out.st, SO.seq, fin, runB, startW, T.ne_OutOfRange_Malformed, T.ne_OutOfRange_NotThere, T.ne_OutOfRange_Refused, T.ne_OutOfRange_TooMuch]) (by simp [eVar, eC, eBin, eTest, eTru, eAnd, eOr, eNot, eNeg, eIf, eTup, eLst, eNew, eCall, eFn, eMe, eMk, eFld, eMeL, eMeL0, aNil, aCons, bAnd, bOr, bNot, bYes, sSeq, sNx, sEx, sRet, sRetN, sIf, sAsg, gSet, sPar, sFldM, sFldAdd, sRaise, Out.bind, Out.st, SO.seq, fin, runB, startW]) (by simpa [wd, T.ne_OutOfRange_Malformed, T.ne_OutOfRange_NotThere, T.ne_OutOfRange_Refused, T.ne_OutOfRange_TooMuch] using h.symm)
  · exact done [false, true, false, false, false] "form" (by simp [eVar, eC, eBin, eTest, eTru, eAnd, eOr, eNot, eNeg, eIf, eTup, eLst, eNew, eCall, eFn, eMe, eMk, eFld, eMeL, eMeL0, aNil, aCons, bAnd, bOr, bNot, bYes, sSeq, sNx, sEx, sRet, sRetN, sIf, sAsg, gSet, sPar, sFldM, sFldAdd, sRaise, Out.bind, Out.st, SO.seq, fin, runB, startW, T.ne_Malformed_OutOfRange, T.ne_Malformed_NotThere, T.ne_Malformed_Refused, T.ne_Malformed_TooMuch]) (by simp [eVar, eC, eBin, eTest, eTru, eAnd, eOr, eNot, eNeg, eIf, eTup, eLst, eNew, eCall, eFn, eMe, eMk, eFld, eMeL, eMeL0, aNil, aCons, bAnd, bOr, bNot, bYes, sSeq, sNx, sEx, sRet, sRetN, sIf, sAsg, gSet, sPar, sFldM, sFldAdd, sRaise, Out.bind, Out.st, SO.seq, fin, runB, startW]) (by simpa [wd, T.ne_Malformed_OutOfRange, T.ne_Malformed_NotThere, T.ne_Malformed_Refused, T.ne_Malformed_TooMuch] using h.symm)
  · exact done [false, false, true, false, false] "none" (by simp [eVar, eC, eBin, eTest, eTru, eAnd, eOr, eNot, eNeg, eIf, eTup, eLst, eNew, eCall, eFn, eMe, eMk, eFld, eMeL, eMeL0, aNil, aCons, bAnd, bOr, bNot, bYes, sSeq, sNx, sEx, sRet, sRetN, sIf, sAsg, gSet, sPar, sFldM, sFldAdd, sRaise, Out.bind, Out.st, SO.seq, fin, runB, startW, T.ne_NotThere_OutOfRange, T.ne_NotThere_Malformed, T.ne_NotThere_Refused, T.ne_NotThere_TooMuch]) (by simp [eVar, eC, eBin, eTest, eTru, eAnd, eOr, eNot, eNeg, eIf, eTup, eLst, eNew, eCall, eFn, eMe, eMk, eFld, eMeL, eMeL0, aNil, aCons, bAnd, bOr, bNot, bYes, sSeq, sNx, sEx, sRet, sRetN, sIf, sAsg, gSet, sPar, sFldM, sFldAdd, sRaise, Out.bind, Out.st, SO.seq, fin, runB, startW]) (by simpa [wd, T.ne_NotThere_OutOfRange, T.ne_NotThere_Malformed, T.ne_NotThere_Refused, T.ne_NotThere_TooMuch] using h.symm)
  · exact done [false, false, false, true, false] "refused" (by simp [eVar, eC, eBin, eTest, eTru, eAnd, eOr, eNot, eNeg, eIf, eTup, eLst, eNew, eCall, eFn, eMe, eMk, eFld, eMeL, eMeL0, aNil, aCons, bAnd, bOr, bNot, bYes, sSeq, sNx, sEx, sRet, sRetN, sIf, sAsg, gSet, sPar, sFldM, sFldAdd, sRaise, Out.bind, Out.st, SO.seq, fin, runB, startW, T.ne_Refused_OutOfRange, T.ne_Refused_Malformed, T.ne_Refused_NotThere, T.ne_Refused_TooMuch]) (by simp [eVar, eC, eBin, eTest, eTru, eAnd, eOr, eNot, eNeg, eIf, eTup, eLst, eNew, eCall, eFn, eMe, eMk, eFld, eMeL, eMeL0, aNil, aCons, bAnd, bOr, bNot, bYes, sSeq, sNx, sEx, sRet, sRetN, sIf, sAsg, gSet, sPar, sFldM, sFldAdd, sRaise, Out.bind, Out.st, SO.seq, fin, runB, startW]) (by simpa [wd, T.ne_Refused_OutOfRange, T.ne_Refused_Malformed, T.ne_Refused_NotThere, T.ne_Refused_TooMuch] using h.symm)
  · exact done [false, false, false, false, true] "much" (by simp [eVar, eC, eBin, eTest, eTru, eAnd, eOr, eNot, eNeg, eIf, eTup, eLst, eNew, eCall, eFn, eMe, eMk, eFld, eMeL, eMeL0, aNil, aCons, bAnd, bOr, bNot, bYes, sSeq, sNx, sEx, sRet, sRetN, sIf, sAsg, gSet, sPar, sFldM, sFldAdd, sRaise, Out.bind, Out.st, SO.seq, fin, runB, startW, T.ne_TooMuch_OutOfRange, T.ne_TooMuch_Malformed, T.ne_TooMuch_NotThere, T.ne_TooMuch_Refused]) (by simp [eVar, eC, eBin, eTest, eTru, eAnd, eOr, eNot, eNeg, eIf, eTup, eLst, eNew, eCall, eFn, eMe, eMk, eFld, eMeL, eMeL0, aNil, aCons, bAnd, bOr, bNot, bYes, sSeq, sNx, sEx, sRet, sRetN, sIf, sAsg, gSet, sPar, sFldM, sFldAdd, sRaise, Out.bind, Out.st, SO.seq, fin, runB, startW]) (by simpa [wd, T.ne_TooMuch_OutOfRange, T.ne_TooMuch_Malformed, T.ne_TooMuch_NotThere, T.ne_TooMuch_Refused] using h.symm)
end
section
variable {A : Adr} {μ : Mu} {ns : List Str} {o : Lc} {s : S} {scr : W} {a10 a11 a12 a13 a14 a15 a16 a17 a18 a19 : Tl} {K : PySem.W.Frag} {mg : Str → Option Value}
theorem ShL.strs : ∀ (l : List Str), (∀ x ∈ l, okS x) → ShL 0 (l.map W.str) (l.map PyData.str)
  | [], _ => .nil
  | x :: l, h => .cons (.str (h x List.mem_cons_self)) (ShL.strs l fun y hy => h y (List.mem_cons_of_mem _ hy))
theorem eq_strs {l : List Str} (h : ∀ x ∈ l, okS x) : gEq (.lst (l.map .str)) (.lst (l.map .str)) μ = .ok (.bl true) μ := gEq_same (Sh.lst (ShL.strs l h))
theorem cat_lst {a b : List W} (h : a.length + b.length ≤ sizeLine) : gAdd (.lst a) (.lst b) μ = .ok (.lst (a ++ b)) μ := by
  have e : gCat (.lst a) (.lst b) μ = .ok (.lst (a ++ b)) μ := by simp only [gCat, asL, if_pos h]
  show (gAddI (.lst a) (.lst b) μ).els _ = _
  show orG gCat (orG gCatT gCatS) (.lst a) (.lst b) μ = _
  unfold orG
  rw [e]; rfl
/-- what is tried and never done -/
theorem end_no {y : Nat} {h d l sf b m : W} (hy : μ[y]? = some (.ins A.Yard (yf h d l sf b m))) {x : W} (e : f_Yard_rows_of A [.loc y, x] μ = .er A.NotThere μ) : f_Yard_end A [.loc y, x] μ = .er A.NotThere μ := by
  simp [eVar, eC, eBin, eTest, eTru, eAnd, eOr, eNot, eNeg, eIf, eTup, eLst, eNew, eCall, eFn, eMe, eMk, eFld, eMeL, eMeL0, aNil, aCons, bAnd, bOr, bNot, bYes, sSeq, sNx, sEx, sRet, sRetN, sIf, sAsg, gSet, sPar, sFldM, sFldAdd, sRaise, Out.bind, Out.st, SO.seq, fin, runB, startW, f_Yard_end, N_Yard_end, s_Yard_end, yf_no hy m_rows, e]
theorem drop_no {y : Nat} {h d l sf b m : W} (hy : μ[y]? = some (.ins A.Yard (yf h d l sf b m))) {x : W} (e : f_Yard_rows_of A [.loc y, x] μ = .er A.NotThere μ) : f_Yard_drop A [.loc y, x] μ = .er A.NotThere μ := by
  simp [eVar, eC, eBin, eTest, eTru, eAnd, eOr, eNot, eNeg, eIf, eTup, eLst, eNew, eCall, eFn, eMe, eMk, eFld, eMeL, eMeL0, aNil, aCons, bAnd, bOr, bNot, bYes, sSeq, sNx, sEx, sRet, sRetN, sIf, sAsg, gSet, sPar, sFldM, sFldAdd, sRaise, Out.bind, Out.st, SO.seq, fin, runB, startW, f_Yard_drop, N_Yard_drop, s_Yard_drop, sFor, iSeq, eRevF, yf_no hy m_rows, e]
theorem flush_no {y : Nat} {h d l sf b m : W} (hy : μ[y]? = some (.ins A.Yard (yf h d l sf b m))) {x : W} (e : f_Yard_text A [.loc y, x] μ = .er A.NotThere μ) : f_Yard_flush A [.loc y, x] μ = .er A.NotThere μ := by
  simp [eVar, eC, eBin, eTest, eTru, eAnd, eOr, eNot, eNeg, eIf, eTup, eLst, eNew, eCall, eFn, eMe, eMk, eFld, eMeL, eMeL0, aNil, aCons, bAnd, bOr, bNot, bYes, sSeq, sNx, sEx, sRet, sRetN, sIf, sAsg, gSet, sPar, sFldM, sFldAdd, sRaise, Out.bind, Out.st, SO.seq, fin, runB, startW, f_Yard_flush, N_Yard_flush, s_Yard_flush, yf_no hy m_text, e]
theorem make_no (T : Txt K mg A) {x : W} (hx : ∀ μ, f_are_cells A [x] μ = .ok (.bl false) μ) : f_law_tried A [.int 5, .non, x, .non, .non] μ = .ok (.str "form") (μ ++ [.ins A.Yard []]) := by
  have e := init_no (A := A) (y := .loc μ.length) (hx (μ ++ [.ins A.Yard []]))
  refine tried_er (x := A.Malformed) ?_ hit_form (wd_form T)
  simp [eVar, eC, eBin, eTest, eTru, eAnd, eOr, eNot, eNeg, eIf, eTup, eLst, eNew, eCall, eFn, eMe, eMk, eFld, eMeL, eMeL0, aNil, aCons, bAnd, bOr, bNot, bYes, sSeq, sNx, sEx, sRet, sRetN, sIf, sAsg, gSet, sPar, sFldM, sFldAdd, sRaise, Out.bind, Out.st, SO.seq, fin, runB, startW, b_law_tried, gEq_int, e]
def badNames : List W := [.non, .tup [], .lst [.str "a"], .tup [.str "b", .str "a"], .tup [.str "a", .str "a"], .tup [.str "A"], .tup [.str "a", .non], .str "a"]
theorem bad_names {x : W} (h : x ∈ badNames) : ∀ μ, f_are_cells A [x] μ = .ok (.bl false) μ := by
  intro μ
  simp only [badNames, List.mem_cons, List.not_mem_nil, or_false] at h
  rcases h with rfl | rfl | rfl | rfl | rfl | rfl | rfl | rfl <;> rfl
theorem grow_comp {g : W → PD.Env → Mu → Out PD.Env} {me : EM} {ρ : PD.Env} {c : Cell} {y : W} : ∀ (l acc : List W) (μ : Mu), (∀ x ∈ l, ∀ μ, ∃ ρ1, g x ρ μ = .ok ρ1 μ ∧ me ρ1 μ = .ok y (μ ++ [c])) → acc.length + l.length ≤ sizeLine → ∃ r, cmpS g bYes me ρ l acc μ = .ok (.lst (acc ++ l.map fun _ => y)) (μ ++ r)
  | [], acc, μ, _, _ => ⟨[], by simp [eVar, eC, eBin, eTest, eTru, eAnd, eOr, eNot, eNeg, eIf, eTup, eLst, eNew, eCall, eFn, eMe, eMk, eFld, eMeL, eMeL0, aNil, aCons, bAnd, bOr, bNot, bYes, sSeq, sNx, sEx, sRet, sRetN, sIf, sAsg, gSet, sPar, sFldM, sFldAdd, sRaise, Out.bind, Out.st, SO.seq, fin, runB, startW, cmpS]⟩
  | x :: l, acc, μ, h, hs => by
    obtain ⟨ρ1, e1, e2⟩ := h x List.mem_cons_self μ
    rw [List.length_cons] at hs
    obtain ⟨r, e3⟩ := grow_comp (g := g) (me := me) (ρ := ρ) (c := c) (y := y) l (acc ++ [y]) (μ ++ [c]) (fun z hz => h z (List.mem_cons_of_mem _ hz)) (by rw [List.length_append, List.length_singleton]; omega)
    refine ⟨[c] ++ r, ?_⟩
    unfold cmpS
    simp only [e1, bYes, e2]
    rw [if_pos (by omega)]
    rw [e3]
    simp [eVar, eC, eBin, eTest, eTru, eAnd, eOr, eNot, eNeg, eIf, eTup, eLst, eNew, eCall, eFn, eMe, eMk, eFld, eMeL, eMeL0, aNil, aCons, bAnd, bOr, bNot, bYes, sSeq, sNx, sEx, sRet, sRetN, sIf, sAsg, gSet, sPar, sFldM, sFldAdd, sRaise, Out.bind, Out.st, SO.seq, fin, runB, startW]
end
end K76
namespace K76
open PySem PySem.Spec PyProof.Rows L2 PD
variable [Tbs]
section
variable {A : Adr} {μ : Mu} {ns : List Str} {o : Lc} {s : S} {scr : W} {a10 a11 a12 a13 a14 a15 a16 a17 a18 a19 : Tl} {K : PySem.W.Frag} {mg : Str → Option Value}
theorem comp_const {it : IM} {l : List W} {i : Nat} {me : EM} {ρ : PD.Env} {y : W} (hit : it ρ μ = .ok (.seq l) μ) (h : ∀ x ∈ l, me ((wipeW ρ [i]).set i (some x)) μ = .ok y μ) (hl : l.length ≤ sizeLine) :
    eCmp it [i] (gSet i) bYes me ρ μ = .ok (.lst (l.map fun _ => y)) μ := by
  have key := cmpS_map (μ := μ) (g := gSet i) (tt := bYes) (me := me) (ρ := wipeW ρ [i]) (φ := fun _ => y) l [] (fun x hx => ⟨_, rfl, rfl, h x hx⟩) (by simpa using hl)
  rw [List.nil_append] at key
  unfold eCmp
  rw [hit]
  exact key
theorem tup1a {ρ : PD.Env} : eTup (aCons (eC (.str "a")) aNil) ρ μ = .ok (.tup [.str "a"]) μ := by
  have z1 : 1 ≤ sizeLine := by have := sizeLine_val; omega
  simp [eVar, eC, eBin, eTest, eTru, eAnd, eOr, eNot, eNeg, eIf, eTup, eLst, eNew, eCall, eFn, eMe, eMk, eFld, eMeL, eMeL0, aNil, aCons, bAnd, bOr, bNot, bYes, sSeq, sNx, sEx, sRet, sRetN, sIf, sAsg, gSet, sPar, sFldM, sFldAdd, sRaise, Out.bind, Out.st, SO.seq, fin, runB, startW, z1]
theorem seq_of {it : EM} {l : List W} {ρ : PD.Env} {μ1 : Mu} (h : it ρ μ = .ok (.lst l) μ1) : iSeq it ρ μ = .ok (.seq l) μ1 := by
  unfold iSeq
  rw [h]; rfl
def env20 (scr : W) (ns : List Str) (o : Lc) (s : S) (a10 a11 a12 a13 : Tl) (w : Int) (a15 a16 a17 a18 a19 a20 : Tl) : PD.Env :=
  [some scr, some (.loc o.dr), some (.lst (ns.map .str)), some (.loc o.y), some (.loc o.lh), some (.loc o.lf), some (.loc o.ll), some (.int (s.safe : Nat)), some (.loc o.lg), some (.int s.many), a10, a11, a12, a13, some (.int w), a15, a16, a17, a18, a19, a20, none, none, none, none]
/-- what is known of the store at the end -/
structure Fin (A : Adr) (ns : List Str) (o : Lc) (s : S) (ws : List Wk) (w : Int) (μ : Mu) : Prop where
  y : μ[o.y]? = some (.ins A.Yard (yf (.loc o.yh) (.loc o.yd) (.loc o.yl) (.int (s.safe : Nat)) (.loc o.yb) (.int w)))
  h : μ[o.yh]? = some (.dK (dct ns s.hand) false)
  l : μ[o.yl]? = some (.lst (s.log.map yrow))
  b : μ[o.yb]? = some (.dK (bdOf (·.ly) ws) false)
  lh : μ[o.lh]? = some (.dK (dct ns s.hand) false)
theorem Fin.more {ws : List Wk} {w : Int} (f : Fin A ns o s ws w μ) (r : Mu) : Fin A ns o s ws w (μ ++ r) := by
  have ex : ∀ {i : Nat} {c : Cell}, μ[i]? = some c → (μ ++ r)[i]? = some c := fun {i c} h => by rw [List.getElem?_append_left (List.getElem?_eq_some_iff.mp h).1]; exact h
  exact ⟨ex f.y, ex f.h, ex f.l, ex f.b, ex f.lh⟩
theorem Q5_ok (h : Ag μ (cells A ns o s)) (g : Good ns s) (hf : s.ws.length ≤ 3) : ∃ (μ' : Mu) (pn : Wk), pn.id = s.many + 1 ∧ Fin A ns o s (s.ws ++ [pn]) (s.many + 1) μ' ∧ Q5 A (env scr ns o s a10 a11 a12 a13 a14 a15 a16 a17 a18 a19) μ = .nx (env20 scr ns o s a10 a11 a12 a13 (s.many + 1) a15 a16 a17 a18 a19 none) μ' := by
  have zb : ∀ f : Wk → Nat, (bdOf f s.ws).length < sizeLine := fun f => by have := sizeLine_val; simp [eVar, eC, eBin, eTest, eTru, eAnd, eOr, eNot, eNeg, eIf, eTup, eLst, eNew, eCall, eFn, eMe, eMk, eFld, eMeL, eMeL0, aNil, aCons, bAnd, bOr, bNot, bYes, sSeq, sNx, sEx, sRet, sRetN, sIf, sAsg, gSet, sPar, sFldM, sFldAdd, sRaise, Out.bind, Out.st, SO.seq, fin, runB, startW, bdOf]; omega
  have hy : μ[o.y]? = some (.ins A.Yard (yf (.loc o.yh) (.loc o.yd) (.loc o.yl) (.int (s.safe : Nat)) (.loc o.yb) (.int s.many))) := h.at 0 rfl
  have hb : μ[o.yb]? = some (.dK (bdOf (·.ly) s.ws) false) := h.at 4 rfl
  have e1 := begin_ok hy hb (h.ne 4 0 rfl rfl (by decide)) (zb _)
  have nid : ∀ q ∈ s.ws, q.id ≠ (⟨s.many + 1, [], μ.length, 0⟩ : Wk).id := fun q hq => by have := (g.rng q hq).2; show q.id ≠ s.many + 1; omega
  have eb1 : dPut (bdOf (·.ly) s.ws) (.inl (s.many + 1)) (.loc μ.length) = bdOf (·.ly) (s.ws ++ [⟨s.many + 1, [], μ.length, 0⟩]) := bd_new (f := (·.ly)) (p := ⟨s.many + 1, [], μ.length, 0⟩) nid
  rw [eb1] at e1
  have h2 := ((h.setAt 0 rfl (.ins A.Yard (yf (.loc o.yh) (.loc o.yd) (.loc o.yl) (.int (s.safe : Nat)) (.loc o.yb) (.int (s.many + 1))))).new (.lst [])).setAt 4 rfl (.dK (bdOf (·.ly) (s.ws ++ [⟨s.many + 1, [], μ.length, 0⟩])) false)
  generalize ((μ.set o.y (.ins A.Yard (yf (.loc o.yh) (.loc o.yd) (.loc o.yl) (.int (s.safe : Nat)) (.loc o.yb) (.int (s.many + 1)))) ++ [Cell.lst []]).set o.yb (.dK (bdOf (·.ly) (s.ws ++ [⟨s.many + 1, [], μ.length, 0⟩])) false)) = μ1 at e1 h2
  refine ⟨μ1, ⟨s.many + 1, [], μ.length, 0⟩, rfl, ⟨h2.at 0 rfl, h2.at 1 rfl, h2.at 3 rfl, h2.at 4 rfl, h2.at 5 rfl⟩, ?_⟩
  have ig : insOf A.Yard "begin" μ (.loc o.y) = true := yf_no hy m_begin
  unfold Q5
  refine (asg_set (w := .int (s.many + 1)) (μ1 := μ1) (by simp [eVar, eC, eBin, eTest, eTru, eAnd, eOr, eNot, eNeg, eIf, eTup, eLst, eNew, eCall, eFn, eMe, eMk, eFld, eMeL, eMeL0, aNil, aCons, bAnd, bOr, bNot, bYes, sSeq, sNx, sEx, sRet, sRetN, sIf, sAsg, gSet, sPar, sFldM, sFldAdd, sRaise, Out.bind, Out.st, SO.seq, fin, runB, startW, env, ig, e1])).trans rfl
theorem first_name (hN : isNames ns) : ∃ n0 r, ns = n0 :: r := by
  obtain ⟨k, _, rfl⟩ := hN
  have e : 2 + k = (1 + k) + 1 := by omega
  rw [e]
  exact ⟨"a", _, rfl⟩
variable {ws : List Wk} {w : Int} {b20 : Tl}
theorem Q6_ok (T : Txt K mg A) (hN : isNames ns) (f : Fin A ns o s ws w μ) (hw : 1 ≤ w) : Q6 A (env20 scr ns o s a10 a11 a12 a13 w a15 a16 a17 a18 a19 b20) μ = .nx (env20 scr ns o s a10 a11 a12 a13 w a15 a16 a17 a18 a19 (some (.lst ((List.replicate 6 ("none" : Str)).map .str)))) μ := by
  have sl := sizeLine_val
  obtain ⟨n0, rr, en⟩ := first_name hN
  have z4 : 4 ≤ sizeLine := by omega
  have ga : gAdd (.int w) (.int 1) μ = .ok (.int (w + 1)) μ := rfl
  have el : eLst (aCons (eC (.int 0)) (aCons (eBin gAdd (eVar 14) (eC (.int 1))) (aCons (eC .non) (aCons (eC (.str "1")) aNil)))) (env20 scr ns o s a10 a11 a12 a13 w a15 a16 a17 a18 a19 b20) μ = .ok (.lst [.int 0, .int (w + 1), .non, .str "1"]) μ := by
    simp [eVar, eC, eBin, eTest, eTru, eAnd, eOr, eNot, eNeg, eIf, eTup, eLst, eNew, eCall, eFn, eMe, eMk, eFld, eMeL, eMeL0, aNil, aCons, bAnd, bOr, bNot, bYes, sSeq, sNx, sEx, sRet, sRetN, sIf, sAsg, gSet, sPar, sFldM, sFldAdd, sRaise, Out.bind, Out.st, SO.seq, fin, runB, startW, env20, ga, z4]
  have n0e : gIx (.lst (ns.map .str)) (.int 0) μ = .ok (.str n0) μ := ix_lst (i := 0) (by rw [en]; rfl)
  have c1 := comp_const (μ := μ) (i := 23) (me := eFn 5 (f_law_tried A) (aCons (eC (.int 0)) (aCons (eVar 3) (aCons (eVar 23) (aCons (eBin gIx (eVar 2) (eC (.int 0))) (aCons (eC (.str "a")) aNil)))))) (y := .str "none") (seq_of el) (fun x hx => by
    have hnum : f_is_number A [x, .int 1, .int w] μ = .ok (.bl false) μ := by
      simp only [List.mem_cons, List.not_mem_nil, or_false] at hx
      rcases hx with rfl | rfl | rfl | rfl
      · rw [number_ok]; rfl
      · rw [number_ok, decide_eq_false (show ¬ w + 1 ≤ w by omega), Bool.and_false]
      · exact number_non
      · exact number_str
    have e := tried_er (A := A) ((bt0 (a2 := .str n0) (a3 := .str "a") f.y (put_noWork f.y hnum)).trans rfl) hit_none (wd_none T)
    simp [eVar, eC, eBin, eTest, eTru, eAnd, eOr, eNot, eNeg, eIf, eTup, eLst, eNew, eCall, eFn, eMe, eMk, eFld, eMeL, eMeL0, aNil, aCons, bAnd, bOr, bNot, bYes, sSeq, sNx, sEx, sRet, sRetN, sIf, sAsg, gSet, sPar, sFldM, sFldAdd, sRaise, Out.bind, Out.st, SO.seq, fin, runB, startW, env20, wipeW, n0e, e]) (by simp [eVar, eC, eBin, eTest, eTru, eAnd, eOr, eNot, eNeg, eIf, eTup, eLst, eNew, eCall, eFn, eMe, eMk, eFld, eMeL, eMeL0, aNil, aCons, bAnd, bOr, bNot, bYes, sSeq, sNx, sEx, sRet, sRetN, sIf, sAsg, gSet, sPar, sFldM, sFldAdd, sRaise, Out.bind, Out.st, SO.seq, fin, runB, startW]; omega)
  have c2 := comp_const (μ := μ) (i := 24) (it := iRngB (aCons (eC (.int 1)) (aCons (eC (.int 3)) aNil))) (l := irange 1 2) (ρ := env20 scr ns o s a10 a11 a12 a13 w a15 a16 a17 a18 a19 b20) (me := eFn 5 (f_law_tried A) (aCons (eVar 24) (aCons (eVar 3) (aCons (eBin gAdd (eVar 14) (eC (.int 1))) (aCons (eC .non) (aCons (eC .non) aNil)))))) (y := .str "none") rfl (fun x hx => by
    have hnum : f_is_number A [.int (w + 1), .int 1, .int w] μ = .ok (.bl false) μ := by rw [number_ok, decide_eq_false (show ¬ w + 1 ≤ w by omega), Bool.and_false]
    have er := rows_no f.y hnum
    have e1 := tried_er (A := A) ((bt1 (a2 := .non) (a3 := .non) f.y (end_no f.y er)).trans rfl) hit_none (wd_none T)
    have e2 := tried_er (A := A) ((bt2 (a2 := .non) (a3 := .non) f.y (drop_no f.y er)).trans rfl) hit_none (wd_none T)
    have hx2 : x = .int 1 ∨ x = .int 2 := by
      have : irange 1 2 = [.int 1, .int 2] := rfl
      rw [this] at hx
      simpa using hx
    rcases hx2 with rfl | rfl
    · simp [eVar, eC, eBin, eTest, eTru, eAnd, eOr, eNot, eNeg, eIf, eTup, eLst, eNew, eCall, eFn, eMe, eMk, eFld, eMeL, eMeL0, aNil, aCons, bAnd, bOr, bNot, bYes, sSeq, sNx, sEx, sRet, sRetN, sIf, sAsg, gSet, sPar, sFldM, sFldAdd, sRaise, Out.bind, Out.st, SO.seq, fin, runB, startW, env20, wipeW, ga, e1]
    · simp [eVar, eC, eBin, eTest, eTru, eAnd, eOr, eNot, eNeg, eIf, eTup, eLst, eNew, eCall, eFn, eMe, eMk, eFld, eMeL, eMeL0, aNil, aCons, bAnd, bOr, bNot, bYes, sSeq, sNx, sEx, sRet, sRetN, sIf, sAsg, gSet, sPar, sFldM, sFldAdd, sRaise, Out.bind, Out.st, SO.seq, fin, runB, startW, env20, wipeW, ga, e2]) (by rw [irange_len]; omega)
  unfold Q6
  refine (asg_set ((bin_of c1 c2).trans (cat_lst (by simp [eVar, eC, eBin, eTest, eTru, eAnd, eOr, eNot, eNeg, eIf, eTup, eLst, eNew, eCall, eFn, eMe, eMk, eFld, eMeL, eMeL0, aNil, aCons, bAnd, bOr, bNot, bYes, sSeq, sNx, sEx, sRet, sRetN, sIf, sAsg, gSet, sPar, sFldM, sFldAdd, sRaise, Out.bind, Out.st, SO.seq, fin, runB, startW, irange_len]; omega)))).trans rfl
theorem Q7_ok (T : Txt K mg A) (hN : isNames ns) (f : Fin A ns o s ws w μ) (nd : (ws.map (·.id)).Nodup) {p : Wk} (hp : p ∈ ws) (hpi : p.id = w) (hw : 1 ≤ w) : Q7 A (env20 scr ns o s a10 a11 a12 a13 w a15 a16 a17 a18 a19 (some (.lst ((List.replicate 6 ("none" : Str)).map .str)))) μ = .nx (env20 scr ns o s a10 a11 a12 a13 w a15 a16 a17 a18 a19 (some (.lst ((List.replicate 11 ("none" : Str)).map .str)))) μ := by
  have sl := sizeLine_val
  have z3 : 3 ≤ sizeLine := by omega
  subst hpi
  have tno : f_Yard_text A [.loc o.y, .str "nobody"] μ = .er A.NotThere μ := text_no f.y f.h (.inr ⟨word_nobody, _, rfl, fun n hn e => by
    have hn5 := hN.sub hn
    have : (Str.ofString "nobody") ∈ n5 := by rw [Sum.inr.inj e]; exact hn5
    revert this; decide +kernel⟩)
  have c1 := comp_const (μ := μ) (i := 23) (ρ := env20 scr ns o s a10 a11 a12 a13 p.id a15 a16 a17 a18 a19 (some (.lst ((List.replicate 6 ("none" : Str)).map .str)))) (me := eFn 5 (f_law_tried A) (aCons (eC (.int 0)) (aCons (eVar 3) (aCons (eVar 14) (aCons (eVar 23) (aCons (eC (.str "a")) aNil)))))) (y := .str "none") (it := iSeq (eLst (aCons (eC (.str "nobody")) (aCons (eC .non) (aCons (eC (.int 5)) aNil))))) (seq_of (lst3 rfl rfl rfl)) (fun x hx => by
    have ht : f_Yard_text A [.loc o.y, x] μ = .er A.NotThere μ := by
      simp only [List.mem_cons, List.not_mem_nil, or_false] at hx
      rcases hx with rfl | rfl | rfl
      · exact tno
      · exact text_no f.y f.h (.inl word_non)
      · exact text_no f.y f.h (.inl word_int)
    have e := tried_er (A := A) ((bt0 (a3 := .str "a") f.y (put_noName f.y f.b nd hp hw (Int.le_refl _) ht)).trans rfl) hit_none (wd_none T)
    simp [eVar, eC, eBin, eTest, eTru, eAnd, eOr, eNot, eNeg, eIf, eTup, eLst, eNew, eCall, eFn, eMe, eMk, eFld, eMeL, eMeL0, aNil, aCons, bAnd, bOr, bNot, bYes, sSeq, sNx, sEx, sRet, sRetN, sIf, sAsg, gSet, sPar, sFldM, sFldAdd, sRaise, Out.bind, Out.st, SO.seq, fin, runB, startW, env20, wipeW, e]) (by simp [eVar, eC, eBin, eTest, eTru, eAnd, eOr, eNot, eNeg, eIf, eTup, eLst, eNew, eCall, eFn, eMe, eMk, eFld, eMeL, eMeL0, aNil, aCons, bAnd, bOr, bNot, bYes, sSeq, sNx, sEx, sRet, sRetN, sIf, sAsg, gSet, sPar, sFldM, sFldAdd, sRaise, Out.bind, Out.st, SO.seq, fin, runB, startW]; omega)
  have c2 := comp_const (μ := μ) (i := 24) (it := iRngB (aCons (eC (.int 3)) (aCons (eC (.int 5)) aNil))) (l := irange 3 2) (ρ := env20 scr ns o s a10 a11 a12 a13 p.id a15 a16 a17 a18 a19 (some (.lst ((List.replicate 6 ("none" : Str)).map .str)))) (me := eFn 5 (f_law_tried A) (aCons (eVar 24) (aCons (eVar 3) (aCons (eC (.str "nobody")) (aCons (eC .non) (aCons (eC .non) aNil)))))) (y := .str "none") rfl (fun x hx => by
    have e1 := tried_er (A := A) ((bt3 (a2 := .non) (a3 := .non) f.y (flush_no f.y tno)).trans rfl) hit_none (wd_none T)
    have e2 := tried_er (A := A) ((bt4 (a2 := .non) (a3 := .non) f.y tno).trans rfl) hit_none (wd_none T)
    have hx2 : x = .int 3 ∨ x = .int 4 := by
      have : irange 3 2 = [.int 3, .int 4] := rfl
      rw [this] at hx
      simpa using hx
    rcases hx2 with rfl | rfl
    · simp [eVar, eC, eBin, eTest, eTru, eAnd, eOr, eNot, eNeg, eIf, eTup, eLst, eNew, eCall, eFn, eMe, eMk, eFld, eMeL, eMeL0, aNil, aCons, bAnd, bOr, bNot, bYes, sSeq, sNx, sEx, sRet, sRetN, sIf, sAsg, gSet, sPar, sFldM, sFldAdd, sRaise, Out.bind, Out.st, SO.seq, fin, runB, startW, env20, wipeW, e1]
    · simp [eVar, eC, eBin, eTest, eTru, eAnd, eOr, eNot, eNeg, eIf, eTup, eLst, eNew, eCall, eFn, eMe, eMk, eFld, eMeL, eMeL0, aNil, aCons, bAnd, bOr, bNot, bYes, sSeq, sNx, sEx, sRet, sRetN, sIf, sAsg, gSet, sPar, sFldM, sFldAdd, sRaise, Out.bind, Out.st, SO.seq, fin, runB, startW, env20, wipeW, e2]) (by rw [irange_len]; omega)
  have v20 : eVar 20 (env20 scr ns o s a10 a11 a12 a13 p.id a15 a16 a17 a18 a19 (some (.lst ((List.replicate 6 ("none" : Str)).map .str)))) μ = .ok (.lst ((List.replicate 6 ("none" : Str)).map .str)) μ := rfl
  unfold Q7
  refine (asg_set ((bin_of ((bin_of v20 c1).trans (cat_lst (by simp [eVar, eC, eBin, eTest, eTru, eAnd, eOr, eNot, eNeg, eIf, eTup, eLst, eNew, eCall, eFn, eMe, eMk, eFld, eMeL, eMeL0, aNil, aCons, bAnd, bOr, bNot, bYes, sSeq, sNx, sEx, sRet, sRetN, sIf, sAsg, gSet, sPar, sFldM, sFldAdd, sRaise, Out.bind, Out.st, SO.seq, fin, runB, startW]; omega))) c2).trans (cat_lst (by simp [eVar, eC, eBin, eTest, eTru, eAnd, eOr, eNot, eNeg, eIf, eTup, eLst, eNew, eCall, eFn, eMe, eMk, eFld, eMeL, eMeL0, aNil, aCons, bAnd, bOr, bNot, bYes, sSeq, sNx, sEx, sRet, sRetN, sIf, sAsg, gSet, sPar, sFldM, sFldAdd, sRaise, Out.bind, Out.st, SO.seq, fin, runB, startW, irange_len]; omega)))).trans rfl
theorem Q8_ok (T : Txt K mg A) (hN : isNames ns) (f : Fin A ns o s ws w μ) (nd : (ws.map (·.id)).Nodup) {p : Wk} (hp : p ∈ ws) (hpi : p.id = w) (hw : 1 ≤ w) : Q8 A (env20 scr ns o s a10 a11 a12 a13 w a15 a16 a17 a18 a19 (some (.lst ((List.replicate 11 ("none" : Str)).map .str)))) μ = .nx (env20 scr ns o s a10 a11 a12 a13 w a15 a16 a17 a18 a19 (some (.lst ((List.replicate 11 ("none" : Str) ++ List.replicate 3 ("range" : Str) ++ List.replicate 3 ("form" : Str)).map .str)))) μ := by
  have sl := sizeLine_val
  subst hpi
  obtain ⟨n0, rr, en⟩ := first_name hN
  have n0m : n0 ∈ ns := by rw [en]; exact List.mem_cons_self
  have n0e : gIx (.lst (ns.map .str)) (.int 0) μ = .ok (.str n0) μ := ix_lst (i := 0) (by rw [en]; rfl)
  have hwt := waiting_ok (A := A) f.y f.l
  have ig : insOf A.Yard "waiting" μ (.loc o.y) = true := yf_no f.y m_wait
  have wadd : ∀ k : Int, gAdd (.int k) (.int 1) μ = .ok (.int (k + 1)) μ := fun k => rfl
  have ew : eBin gAdd (eMe A.Yard "waiting" 1 (f_Yard_waiting A) (eVar 3) aNil) (eC (.int 1)) (env20 scr ns o s a10 a11 a12 a13 p.id a15 a16 a17 a18 a19 (some (.lst ((List.replicate 11 ("none" : Str)).map .str)))) μ = .ok (.int (((s.log.map yrow).length : Int) - (s.safe : Int) + 1)) μ := by
    simp [eVar, eC, eBin, eTest, eTru, eAnd, eOr, eNot, eNeg, eIf, eTup, eLst, eNew, eCall, eFn, eMe, eMk, eFld, eMeL, eMeL0, aNil, aCons, bAnd, bOr, bNot, bYes, sSeq, sNx, sEx, sRet, sRetN, sIf, sAsg, gSet, sPar, sFldM, sFldAdd, sRaise, Out.bind, Out.st, SO.seq, fin, runB, startW, env20, ig, hwt, wadd]
  have c1 := comp_const (μ := μ) (i := 23) (ρ := env20 scr ns o s a10 a11 a12 a13 p.id a15 a16 a17 a18 a19 (some (.lst ((List.replicate 11 ("none" : Str)).map .str)))) (me := eFn 2 (f_law_crashed A) (aCons (eVar 3) (aCons (eVar 23) aNil))) (y := .str "range") (it := iSeq (eLst (aCons (eNeg (eC (.int 1))) (aCons (eBin gAdd (eMe A.Yard "waiting" 1 (f_Yard_waiting A) (eVar 3) aNil) (eC (.int 1))) (aCons (eC .non) aNil))))) (seq_of (lst3 (x := .int (-1)) rfl ew rfl)) (fun x hx => by
    have hnum : f_is_number A [x, .int 0, .int ((s.log.map yrow).length - (s.safe : Int))] μ = .ok (.bl false) μ := by
      simp only [List.mem_cons, List.not_mem_nil, or_false] at hx
      rcases hx with rfl | rfl | rfl
      · rw [number_ok]; rfl
      · rw [number_ok, decide_eq_false (show ¬ ((s.log.map yrow).length : Int) - (s.safe : Int) + 1 ≤ (s.log.map yrow).length - (s.safe : Int) by omega), Bool.and_false]
      · exact number_non
    have e := crash_er (A := A) ((bc o.y f.y (crashed_no f.y f.l hnum)).trans rfl) hit_range (wd_range T)
    simp [eVar, eC, eBin, eTest, eTru, eAnd, eOr, eNot, eNeg, eIf, eTup, eLst, eNew, eCall, eFn, eMe, eMk, eFld, eMeL, eMeL0, aNil, aCons, bAnd, bOr, bNot, bYes, sSeq, sNx, sEx, sRet, sRetN, sIf, sAsg, gSet, sPar, sFldM, sFldAdd, sRaise, Out.bind, Out.st, SO.seq, fin, runB, startW, env20, wipeW, e]) (by simp [eVar, eC, eBin, eTest, eTru, eAnd, eOr, eNot, eNeg, eIf, eTup, eLst, eNew, eCall, eFn, eMe, eMk, eFld, eMeL, eMeL0, aNil, aCons, bAnd, bOr, bNot, bYes, sSeq, sNx, sEx, sRet, sRetN, sIf, sAsg, gSet, sPar, sFldM, sFldAdd, sRaise, Out.bind, Out.st, SO.seq, fin, runB, startW]; omega)
  have c2 := comp_const (μ := μ) (i := 23) (ρ := env20 scr ns o s a10 a11 a12 a13 p.id a15 a16 a17 a18 a19 (some (.lst ((List.replicate 11 ("none" : Str)).map .str)))) (me := eFn 5 (f_law_tried A) (aCons (eC (.int 0)) (aCons (eVar 3) (aCons (eVar 14) (aCons (eBin gIx (eVar 2) (eC (.int 0))) (aCons (eVar 23) aNil)))))) (y := .str "form") (it := iSeq (eLst (aCons (eC .non) (aCons (eC (.int 5)) (aCons (eTup (aCons (eC (.str "a")) aNil)) aNil))))) (l := [.non, .int 5, .tup [.str "a"]]) (seq_of (lst3 rfl rfl tup1a)) (fun x hx => by
    have hi : cIsi [x, .ty "str"] μ = .ok (.bl false) μ := by
      simp only [List.mem_cons, List.not_mem_nil, or_false] at hx
      rcases hx with rfl | rfl | rfl <;> rfl
    have e := tried_er (A := A) ((bt0 f.y (put_noText hN f.y f.h f.b nd hp hw (Int.le_refl _) n0m hi)).trans rfl) hit_form (wd_form T)
    simp [eVar, eC, eBin, eTest, eTru, eAnd, eOr, eNot, eNeg, eIf, eTup, eLst, eNew, eCall, eFn, eMe, eMk, eFld, eMeL, eMeL0, aNil, aCons, bAnd, bOr, bNot, bYes, sSeq, sNx, sEx, sRet, sRetN, sIf, sAsg, gSet, sPar, sFldM, sFldAdd, sRaise, Out.bind, Out.st, SO.seq, fin, runB, startW, env20, wipeW, n0e, e]) (by simp [eVar, eC, eBin, eTest, eTru, eAnd, eOr, eNot, eNeg, eIf, eTup, eLst, eNew, eCall, eFn, eMe, eMk, eFld, eMeL, eMeL0, aNil, aCons, bAnd, bOr, bNot, bYes, sSeq, sNx, sEx, sRet, sRetN, sIf, sAsg, gSet, sPar, sFldM, sFldAdd, sRaise, Out.bind, Out.st, SO.seq, fin, runB, startW]; omega)
  have v20 : eVar 20 (env20 scr ns o s a10 a11 a12 a13 p.id a15 a16 a17 a18 a19 (some (.lst ((List.replicate 11 ("none" : Str)).map .str)))) μ = .ok (.lst ((List.replicate 11 ("none" : Str)).map .str)) μ := rfl
  unfold Q8
  refine (asg_set ((bin_of ((bin_of v20 c1).trans (cat_lst (by simp [eVar, eC, eBin, eTest, eTru, eAnd, eOr, eNot, eNeg, eIf, eTup, eLst, eNew, eCall, eFn, eMe, eMk, eFld, eMeL, eMeL0, aNil, aCons, bAnd, bOr, bNot, bYes, sSeq, sNx, sEx, sRet, sRetN, sIf, sAsg, gSet, sPar, sFldM, sFldAdd, sRaise, Out.bind, Out.st, SO.seq, fin, runB, startW]; omega))) c2).trans (cat_lst (by simp [eVar, eC, eBin, eTest, eTru, eAnd, eOr, eNot, eNeg, eIf, eTup, eLst, eNew, eCall, eFn, eMe, eMk, eFld, eMeL, eMeL0, aNil, aCons, bAnd, bOr, bNot, bYes, sSeq, sNx, sEx, sRet, sRetN, sIf, sAsg, gSet, sPar, sFldM, sFldAdd, sRaise, Out.bind, Out.st, SO.seq, fin, runB, startW]; omega)))).trans rfl
theorem Q9_ok (T : Txt K mg A) (f : Fin A ns o s ws w μ) : ∃ r, Q9 A (env20 scr ns o s a10 a11 a12 a13 w a15 a16 a17 a18 a19 (some (.lst ((List.replicate 11 ("none" : Str) ++ List.replicate 3 ("range" : Str) ++ List.replicate 3 ("form" : Str)).map .str)))) μ = .nx (env20 scr ns o s a10 a11 a12 a13 w a15 a16 a17 a18 a19 (some (.lst ((List.replicate 11 ("none" : Str) ++ List.replicate 3 ("range" : Str) ++ List.replicate 11 ("form" : Str)).map .str)))) (μ ++ r) := by
  have sl := sizeLine_val
  have z8 : 8 ≤ sizeLine := by omega
  have z2 : 2 ≤ sizeLine := by omega
  have z1 : 1 ≤ sizeLine := by omega
  have z0 : 0 ≤ sizeLine := by omega
  generalize hρ : env20 scr ns o s a10 a11 a12 a13 w a15 a16 a17 a18 a19 (some (.lst ((List.replicate 11 ("none" : Str) ++ List.replicate 3 ("range" : Str) ++ List.replicate 3 ("form" : Str)).map .str))) = ρ
  have el : eLst (aCons (eC .non) (aCons (eTup aNil) (aCons (eLst (aCons (eC (.str "a")) aNil)) (aCons (eTup (aCons (eC (.str "b")) (aCons (eC (.str "a")) aNil))) (aCons (eTup (aCons (eC (.str "a")) (aCons (eC (.str "a")) aNil))) (aCons (eTup (aCons (eC (.str "A")) aNil)) (aCons (eTup (aCons (eC (.str "a")) (aCons (eC .non) aNil))) (aCons (eC (.str "a")) aNil)))))))) ρ μ = .ok (.lst badNames) μ := by
    simp [eVar, eC, eBin, eTest, eTru, eAnd, eOr, eNot, eNeg, eIf, eTup, eLst, eNew, eCall, eFn, eMe, eMk, eFld, eMeL, eMeL0, aNil, aCons, bAnd, bOr, bNot, bYes, sSeq, sNx, sEx, sRet, sRetN, sIf, sAsg, gSet, sPar, sFldM, sFldAdd, sRaise, Out.bind, Out.st, SO.seq, fin, runB, startW, z8, z2, z1, z0, badNames]
  have h23 : 23 < ρ.length := by rw [← hρ]; simp [eVar, eC, eBin, eTest, eTru, eAnd, eOr, eNot, eNeg, eIf, eTup, eLst, eNew, eCall, eFn, eMe, eMk, eFld, eMeL, eMeL0, aNil, aCons, bAnd, bOr, bNot, bYes, sSeq, sNx, sEx, sRet, sRetN, sIf, sAsg, gSet, sPar, sFldM, sFldAdd, sRaise, Out.bind, Out.st, SO.seq, fin, runB, startW, env20]
  obtain ⟨r, e⟩ := grow_comp (g := gSet 23) (me := eFn 5 (f_law_tried A) (aCons (eC (.int 5)) (aCons (eC .non) (aCons (eVar 23) (aCons (eC .non) (aCons (eC .non) aNil)))))) (ρ := wipeW ρ [23]) (c := .ins A.Yard []) (y := .str "form") badNames [] μ (fun x hx μ => by
    refine ⟨(wipeW ρ [23]).set 23 (some x), rfl, ?_⟩
    have g1 : ((wipeW ρ [23]).set 23 (some x))[23]? = some (some x) := List.getElem?_set_self (by simp [eVar, eC, eBin, eTest, eTru, eAnd, eOr, eNot, eNeg, eIf, eTup, eLst, eNew, eCall, eFn, eMe, eMk, eFld, eMeL, eMeL0, aNil, aCons, bAnd, bOr, bNot, bYes, sSeq, sNx, sEx, sRet, sRetN, sIf, sAsg, gSet, sPar, sFldM, sFldAdd, sRaise, Out.bind, Out.st, SO.seq, fin, runB, startW, wipeW, h23])
    have e := make_no (μ := μ) T (bad_names (A := A) hx)
    simp only [eFn, aCons, aNil, eC, eVar, g1, Out.bind, List.length_cons, List.length_nil, if_true, e]) (by simp [eVar, eC, eBin, eTest, eTru, eAnd, eOr, eNot, eNeg, eIf, eTup, eLst, eNew, eCall, eFn, eMe, eMk, eFld, eMeL, eMeL0, aNil, aCons, bAnd, bOr, bNot, bYes, sSeq, sNx, sEx, sRet, sRetN, sIf, sAsg, gSet, sPar, sFldM, sFldAdd, sRaise, Out.bind, Out.st, SO.seq, fin, runB, startW, badNames]; omega)
  have ec : eCmp (iSeq (eLst (aCons (eC .non) (aCons (eTup aNil) (aCons (eLst (aCons (eC (.str "a")) aNil)) (aCons (eTup (aCons (eC (.str "b")) (aCons (eC (.str "a")) aNil))) (aCons (eTup (aCons (eC (.str "a")) (aCons (eC (.str "a")) aNil))) (aCons (eTup (aCons (eC (.str "A")) aNil)) (aCons (eTup (aCons (eC (.str "a")) (aCons (eC .non) aNil))) (aCons (eC (.str "a")) aNil)))))))))) [23] (gSet 23) bYes (eFn 5 (f_law_tried A) (aCons (eC (.int 5)) (aCons (eC .non) (aCons (eVar 23) (aCons (eC .non) (aCons (eC .non) aNil)))))) ρ μ = .ok (.lst ((List.replicate 8 ("form" : Str)).map .str)) (μ ++ r) := by
    unfold eCmp
    rw [seq_of el]
    exact e
  have v20 : eVar 20 ρ μ = .ok (.lst ((List.replicate 11 ("none" : Str) ++ List.replicate 3 ("range" : Str) ++ List.replicate 3 ("form" : Str)).map .str)) μ := by rw [← hρ]; rfl
  refine ⟨r, ?_⟩
  unfold Q9
  refine (asg_set ((bin_of v20 ec).trans (cat_lst (by simp [eVar, eC, eBin, eTest, eTru, eAnd, eOr, eNot, eNeg, eIf, eTup, eLst, eNew, eCall, eFn, eMe, eMk, eFld, eMeL, eMeL0, aNil, aCons, bAnd, bOr, bNot, bYes, sSeq, sNx, sEx, sRet, sRetN, sIf, sAsg, gSet, sPar, sFldM, sFldAdd, sRaise, Out.bind, Out.st, SO.seq, fin, runB, startW]; omega)))).trans ?_
  rw [← hρ]
  rfl
theorem Q10_ok (hN : isNames ns) (f : Fin A ns o s ws w μ) (x : Tx s) : Q10 A (env20 scr ns o s a10 a11 a12 a13 w a15 a16 a17 a18 a19 (some (.lst ((List.replicate 11 ("none" : Str) ++ List.replicate 3 ("range" : Str) ++ List.replicate 11 ("form" : Str)).map .str)))) μ = .rt (.bl true) μ := by
  have sl := sizeLine_val
  have z1 : 1 ≤ sizeLine := by omega
  generalize hρ : env20 scr ns o s a10 a11 a12 a13 w a15 a16 a17 a18 a19 (some (.lst ((List.replicate 11 ("none" : Str) ++ List.replicate 3 ("range" : Str) ++ List.replicate 11 ("form" : Str)).map .str))) = ρ
  have rep : ∀ (t : Str) (k : Nat), k < 100 → eBin gMul (eLst (aCons (eC (.str t)) aNil)) (eC (.int (k : Nat))) ρ μ = .ok (.lst ((List.replicate k t).map .str)) μ := fun t k hk => by
    have e1 : eLst (aCons (eC (.str t)) aNil) ρ μ = .ok (.lst [.str t]) μ := by simp [eVar, eC, eBin, eTest, eTru, eAnd, eOr, eNot, eNeg, eIf, eTup, eLst, eNew, eCall, eFn, eMe, eMk, eFld, eMeL, eMeL0, aNil, aCons, bAnd, bOr, bNot, bYes, sSeq, sNx, sEx, sRet, sRetN, sIf, sAsg, gSet, sPar, sFldM, sFldAdd, sRaise, Out.bind, Out.st, SO.seq, fin, runB, startW, z1]
    refine (bin_of e1 rfl).trans ?_
    have eg : gRep (.lst [.str t]) (.int (k : Nat)) μ = .ok (.lst ((List.replicate k t).map .str)) μ := by
      have c1 : -(2 ^ 63) ≤ ((k : Nat) : Int) ∧ ((k : Nat) : Int) < 2 ^ 63 ∧ [W.str t].length * (((k : Nat) : Int)).toNat ≤ sizeLine := by
        refine ⟨by omega, by omega, ?_⟩
        simp [eVar, eC, eBin, eTest, eTru, eAnd, eOr, eNot, eNeg, eIf, eTup, eLst, eNew, eCall, eFn, eMe, eMk, eFld, eMeL, eMeL0, aNil, aCons, bAnd, bOr, bNot, bYes, sSeq, sNx, sEx, sRet, sRetN, sIf, sAsg, gSet, sPar, sFldM, sFldAdd, sRaise, Out.bind, Out.st, SO.seq, fin, runB, startW]; omega
      simp only [gRep, asL, if_pos c1]
      have : (List.replicate (((k : Nat) : Int)).toNat [W.str t]).flatten = (List.replicate k t).map .str := by
        rw [Int.toNat_natCast, List.flatten_replicate_singleton, List.map_replicate]
      rw [this]
    show orG gMulI gRep (.lst [.str t]) (.int (k : Nat)) μ = _
    unfold orG
    show Out.els (gMulI (.lst [.str t]) (.int (k : Nat)) μ) _ = _
    rw [eg]; rfl
  have v20 : eVar 20 ρ μ = .ok (.lst ((List.replicate 11 ("none" : Str) ++ List.replicate 3 ("range" : Str) ++ List.replicate 11 ("form" : Str)).map .str)) μ := by rw [← hρ]; rfl
  have r1 := rep "none" 11 (by decide)
  have r2 := rep "range" 3 (by decide)
  have r3 := rep "form" 11 (by decide)
  have ecat := (bin_of ((bin_of r1 r2).trans (cat_lst (by simp [eVar, eC, eBin, eTest, eTru, eAnd, eOr, eNot, eNeg, eIf, eTup, eLst, eNew, eCall, eFn, eMe, eMk, eFld, eMeL, eMeL0, aNil, aCons, bAnd, bOr, bNot, bYes, sSeq, sNx, sEx, sRet, sRetN, sIf, sAsg, gSet, sPar, sFldM, sFldAdd, sRaise, Out.bind, Out.st, SO.seq, fin, runB, startW]; omega))) r3).trans (cat_lst (by simp [eVar, eC, eBin, eTest, eTru, eAnd, eOr, eNot, eNeg, eIf, eTup, eLst, eNew, eCall, eFn, eMe, eMk, eFld, eMeL, eMeL0, aNil, aCons, bAnd, bOr, bNot, bYes, sSeq, sNx, sEx, sRet, sRetN, sIf, sAsg, gSet, sPar, sFldM, sFldAdd, sRaise, Out.bind, Out.st, SO.seq, fin, runB, startW]; omega))
  rw [← List.map_append, ← List.map_append] at ecat
  have ok3 : okS "none" ∧ okS "range" ∧ okS "form" := by unfold okS; decide +kernel
  have e1 := (bin_of v20 ecat).trans (eq_strs (fun y hy => by
    simp only [List.mem_append, List.mem_replicate] at hy
    rcases hy with (⟨_, rfl⟩ | ⟨_, rfl⟩) | ⟨_, rfl⟩
    · exact ok3.1
    · exact ok3.2.1
    · exact ok3.2.2))
  have t1 := text_comp (A := A) (μ := μ) hN (ρ := ρ) (by rw [← hρ]; rfl) (by rw [← hρ]; rfl) (by rw [← hρ]; rfl) f.y f.h
  have t2 := hand_comp (μ := μ) hN (ρ := ρ) (by rw [← hρ]; rfl) (by rw [← hρ]; rfl) (by rw [← hρ]; rfl) f.lh
  have et : (ns.map fun n => W.str (s.hand n)) = (ns.map s.hand).map .str := by rw [List.map_map]; rfl
  rw [et] at t1 t2
  have e2 := (bin_of (g := gEq) t1 t2).trans (eq_strs (fun y hy => by
    obtain ⟨n, _, rfl⟩ := List.mem_map.mp hy
    exact x.hand n))
  unfold Q10
  refine ret_of ?_
  have e1' : ∀ (a b : EM), a ρ μ = .ok (.bl true) μ → b ρ μ = .ok (.bl true) μ → eAnd a b ρ μ = .ok (.bl true) μ := fun a b h1 h2 => by
    simp only [eAnd, h1, Out.bind, if_true, h2]
  exact e1' _ _ e1 e2
theorem law_true (T : Txt K mg A) (xs : List Int) (hx : xs.length ≤ 63) : ∃ μ, f_law A [.scr (xs.map .int)] [] = .ok (.bl true) μ := by
  obtain ⟨μ0, dr, l, e0, hd⟩ := draws_ok (A := A) xs hx
  obtain ⟨ns, o, s, μ1, hN, h1, g1, x1, b1, e1⟩ := start_ok (A := A) (scr := .scr (xs.map .int)) l hd
  obtain ⟨o2, s2, μ2, b10, b11, b12, b13, b14, b15, b16, b17, b18, b19, e2, h2, g2, x2, b2⟩ := loop_ok (scr := .scr (xs.map .int)) (a10 := none) (a11 := none) (a12 := none) (a13 := none) (a14 := none) (a15 := none) (a16 := none) (a17 := none) (a18 := none) (a19 := none) T hN h1 g1 x1 b1
  obtain ⟨μ3, pn, ep, f3, e3⟩ := Q5_ok (scr := .scr (xs.map .int)) (a10 := b10) (a11 := b11) (a12 := b12) (a13 := b13) (a14 := b14) (a15 := b15) (a16 := b16) (a17 := b17) (a18 := b18) (a19 := b19) h2 g2 b2.few
  have hw : 1 ≤ s2.many + 1 := by have := g2.many; omega
  have nd : ((s2.ws ++ [pn]).map (·.id)).Nodup := by
    rw [List.map_append, List.nodup_append]
    refine ⟨g2.nd, by simp, fun a ha b hb => ?_⟩
    obtain ⟨p, hp, rfl⟩ := List.mem_map.mp ha
    simp at hb
    have := (g2.rng p hp).2
    rw [hb, ep]
    omega
  have hp : pn ∈ s2.ws ++ [pn] := List.mem_append_right _ (List.mem_singleton.mpr rfl)
  have e6 := Q6_ok (scr := .scr (xs.map .int)) (a10 := b10) (a11 := b11) (a12 := b12) (a13 := b13) (a15 := b15) (a16 := b16) (a17 := b17) (a18 := b18) (a19 := b19) (b20 := none) T hN f3 hw
  have e7 := Q7_ok (scr := .scr (xs.map .int)) (a10 := b10) (a11 := b11) (a12 := b12) (a13 := b13) (a15 := b15) (a16 := b16) (a17 := b17) (a18 := b18) (a19 := b19) T hN f3 nd hp ep hw
  have e8 := Q8_ok (scr := .scr (xs.map .int)) (a10 := b10) (a11 := b11) (a12 := b12) (a13 := b13) (a15 := b15) (a16 := b16) (a17 := b17) (a18 := b18) (a19 := b19) T hN f3 nd hp ep hw
  obtain ⟨r, e9⟩ := Q9_ok (scr := .scr (xs.map .int)) (a10 := b10) (a11 := b11) (a12 := b12) (a13 := b13) (a15 := b15) (a16 := b16) (a17 := b17) (a18 := b18) (a19 := b19) T f3
  have e10 := Q10_ok (scr := .scr (xs.map .int)) (a10 := b10) (a11 := b11) (a12 := b12) (a13 := b13) (a15 := b15) (a16 := b16) (a17 := b17) (a18 := b18) (a19 := b19) hN (f3.more r) x2
  have q0 : Q0 A (startW 25 [.scr (xs.map .int)]) [] = .nx [some (.scr (xs.map .int)), some (.loc dr), none, none, none, none, none, none, none, none, none, none, none, none, none, none, none, none, none, none, none, none, none, none, none] μ0 := by
    unfold Q0
    refine (asg_set (w := .loc dr) (μ1 := μ0) ?_).trans rfl
    simp [eVar, eC, eBin, eTest, eTru, eAnd, eOr, eNot, eNeg, eIf, eTup, eLst, eNew, eCall, eFn, eMe, eMk, eFld, eMeL, eMeL0, aNil, aCons, bAnd, bOr, bNot, bYes, sSeq, sNx, sEx, sRet, sRetN, sIf, sAsg, gSet, sPar, sFldM, sFldAdd, sRaise, Out.bind, Out.st, SO.seq, fin, runB, startW, startW, e0]
  have key : s_law A (startW 25 [.scr (xs.map .int)]) [] = .rt (.bl true) (μ3 ++ r) := by
    rw [law_eq, seq_nx q0, e1, seq_nx e2, seq_nx e3, seq_nx e6, seq_nx e7, seq_nx e8, seq_nx e9, e10]
  refine ⟨μ3 ++ r, ?_⟩
  show fin (s_law A (startW N_law.length [.scr (xs.map .int)]) []) = _
  rw [show N_law.length = 25 from rfl, key]
  rfl
end
end K76
namespace K76
open PySem PySem.Spec PyProof.Rows L2 PD

def dfn (x qn : Str) (p : He.Defn) (st : Stmt) : He.DefD := ⟨p, x, qn, defArgs st, defBody st, defScope st, [], []⟩
def fn : List He.DefD := [dfn "is_number" "is_number" ("is_number", none) t_is_number,
  dfn "is_word" "is_word" ("is_word", none) t_is_word,
  dfn "are_cells" "are_cells" ("are_cells", none) t_are_cells,
  dfn "__init__" "Yard.__init__" ("Yard", some "__init__") t_Yard_init,
  dfn "text" "Yard.text" ("Yard", some "text") t_Yard_text,
  dfn "works" "Yard.works" ("Yard", some "works") t_Yard_works,
  dfn "begin" "Yard.begin" ("Yard", some "begin") t_Yard_begin,
  dfn "rows_of" "Yard.rows_of" ("Yard", some "rows_of") t_Yard_rows_of,
  dfn "put" "Yard.put" ("Yard", some "put") t_Yard_put,
  dfn "end" "Yard.end" ("Yard", some "end") t_Yard_end,
  dfn "drop" "Yard.drop" ("Yard", some "drop") t_Yard_drop,
  dfn "sync" "Yard.sync" ("Yard", some "sync") t_Yard_sync,
  dfn "flush" "Yard.flush" ("Yard", some "flush") t_Yard_flush,
  dfn "waiting" "Yard.waiting" ("Yard", some "waiting") t_Yard_waiting,
  dfn "mended" "Yard.mended" ("Yard", some "mended") t_Yard_mended,
  dfn "crashed" "Yard.crashed" ("Yard", some "crashed") t_Yard_crashed,
  dfn "_law_draws" "_law_draws" ("_law_draws", none) t_law_draws,
  dfn "_law_take" "_law_take" ("_law_take", none) t_law_take,
  dfn "_law_alike" "_law_alike" ("_law_alike", none) t_law_alike,
  dfn "_law_word" "_law_word" ("_law_word", none) t_law_word,
  dfn "_law_tried" "_law_tried" ("_law_tried", none) t_law_tried,
  dfn "_law_crashed" "_law_crashed" ("_law_crashed", none) t_law_crashed,
  dfn "_law_behind" "_law_behind" ("_law_behind", none) t_law_behind,
  dfn "law" "law" ("law", none) t_law]
def fa : List He.Fa := [.glo "PathError",
  .glo "OutOfRange",
  .glo "Malformed",
  .glo "NotThere",
  .glo "Refused",
  .glo "TooMuch",
  .glo "Yard",
  .glo "is_number",
  .glo "is_word",
  .glo "are_cells",
  .mkr "Yard",
  .meth "Yard" "text",
  .meth "Yard" "works",
  .meth "Yard" "begin",
  .meth "Yard" "rows_of",
  .meth "Yard" "put",
  .meth "Yard" "end",
  .meth "Yard" "drop",
  .meth "Yard" "sync",
  .meth "Yard" "flush",
  .meth "Yard" "waiting",
  .meth "Yard" "mended",
  .meth "Yard" "crashed",
  .glo "_law_draws",
  .glo "_law_take",
  .glo "_law_alike",
  .glo "_law_word",
  .glo "_law_tried",
  .glo "_law_crashed",
  .glo "_law_behind",
  .glo "law",
  .free "bool",
  .free "isinstance",
  .free "int",
  .free "all",
  .free "len",
  .free "str",
  .free "range",
  .free "tuple",
  .free "sorted",
  .free "dict",
  .free "list",
  .free "reversed",
  .free "abs",
  .int "MOST_WORD" 6,
  .str "LETTERS" "abcdefghijklmnopqrstuvwxyz",
  .int "MOST_CELLS" 60,
  .exc "PathError",
  .exc "OutOfRange",
  .exc "Malformed",
  .exc "NotThere",
  .exc "Refused",
  .exc "TooMuch",
  .cls "Yard",
  .noat "Yard" "begun",
  .noat "Yard" "disk",
  .noat "Yard" "hand",
  .noat "Yard" "log",
  .noat "Yard" "many",
  .noat "Yard" "safe"]
def tf : List He.Defn := [("is_word", none), ("are_cells", none)]
def exs (K : PySem.W.Frag) : List Bool := [PySem.W.isClsIn K (He.ga K "PathError"),
  PySem.W.isClsIn K (He.ga K "OutOfRange"),
  PySem.W.isClsIn K (He.ga K "Malformed"),
  PySem.W.isClsIn K (He.ga K "NotThere"),
  PySem.W.isClsIn K (He.ga K "Refused"),
  PySem.W.isClsIn K (He.ga K "TooMuch"),
  He.eqO (PySem.W.findIn K (.ref (He.ga K "OutOfRange")) "__getattribute__") (some (some (.builtin "BaseException.__getattribute__"))),
  He.eqO (PySem.W.findIn K (.ref (He.ga K "OutOfRange")) "__getattr__") (some none),
  PySem.W.hasDictIn K (He.ga K "OutOfRange"),
  He.eqO (PySem.W.findIn K (.ref (He.ga K "OutOfRange")) "__class__") (some (some (.builtin "object.__class__"))),
  decide (PySem.W.mroIn K (He.ga K "OutOfRange") (.type "object") = some true),
  decide (PySem.W.subIn K (.ref (He.ga K "OutOfRange")) (.ref (He.ga K "PathError")) = some true),
  decide (PySem.W.subIn K (.ref (He.ga K "OutOfRange")) (.ref (He.ga K "OutOfRange")) = some true),
  decide (PySem.W.subIn K (.ref (He.ga K "OutOfRange")) (.ref (He.ga K "Malformed")) = some false),
  decide (PySem.W.subIn K (.ref (He.ga K "OutOfRange")) (.ref (He.ga K "NotThere")) = some false),
  decide (PySem.W.subIn K (.ref (He.ga K "OutOfRange")) (.ref (He.ga K "Refused")) = some false),
  decide (PySem.W.subIn K (.ref (He.ga K "OutOfRange")) (.ref (He.ga K "TooMuch")) = some false),
  He.eqO (PySem.W.findIn K (.ref (He.ga K "Malformed")) "__getattribute__") (some (some (.builtin "BaseException.__getattribute__"))),
  He.eqO (PySem.W.findIn K (.ref (He.ga K "Malformed")) "__getattr__") (some none),
  PySem.W.hasDictIn K (He.ga K "Malformed"),
  He.eqO (PySem.W.findIn K (.ref (He.ga K "Malformed")) "__class__") (some (some (.builtin "object.__class__"))),
  decide (PySem.W.mroIn K (He.ga K "Malformed") (.type "object") = some true),
  decide (PySem.W.subIn K (.ref (He.ga K "Malformed")) (.ref (He.ga K "PathError")) = some true),
  decide (PySem.W.subIn K (.ref (He.ga K "Malformed")) (.ref (He.ga K "OutOfRange")) = some false),
  decide (PySem.W.subIn K (.ref (He.ga K "Malformed")) (.ref (He.ga K "Malformed")) = some true),
  decide (PySem.W.subIn K (.ref (He.ga K "Malformed")) (.ref (He.ga K "NotThere")) = some false),
  decide (PySem.W.subIn K (.ref (He.ga K "Malformed")) (.ref (He.ga K "Refused")) = some false),
  decide (PySem.W.subIn K (.ref (He.ga K "Malformed")) (.ref (He.ga K "TooMuch")) = some false),
  He.eqO (PySem.W.findIn K (.ref (He.ga K "NotThere")) "__getattribute__") (some (some (.builtin "BaseException.__getattribute__"))),
  He.eqO (PySem.W.findIn K (.ref (He.ga K "NotThere")) "__getattr__") (some none),
  PySem.W.hasDictIn K (He.ga K "NotThere"),
  He.eqO (PySem.W.findIn K (.ref (He.ga K "NotThere")) "__class__") (some (some (.builtin "object.__class__"))),
  decide (PySem.W.mroIn K (He.ga K "NotThere") (.type "object") = some true),
  decide (PySem.W.subIn K (.ref (He.ga K "NotThere")) (.ref (He.ga K "PathError")) = some true),
  decide (PySem.W.subIn K (.ref (He.ga K "NotThere")) (.ref (He.ga K "OutOfRange")) = some false),
  decide (PySem.W.subIn K (.ref (He.ga K "NotThere")) (.ref (He.ga K "Malformed")) = some false),
  decide (PySem.W.subIn K (.ref (He.ga K "NotThere")) (.ref (He.ga K "NotThere")) = some true),
  decide (PySem.W.subIn K (.ref (He.ga K "NotThere")) (.ref (He.ga K "Refused")) = some false),
  decide (PySem.W.subIn K (.ref (He.ga K "NotThere")) (.ref (He.ga K "TooMuch")) = some false),
  He.eqO (PySem.W.findIn K (.ref (He.ga K "Refused")) "__getattribute__") (some (some (.builtin "BaseException.__getattribute__"))),
  He.eqO (PySem.W.findIn K (.ref (He.ga K "Refused")) "__getattr__") (some none),
  PySem.W.hasDictIn K (He.ga K "Refused"),
  He.eqO (PySem.W.findIn K (.ref (He.ga K "Refused")) "__class__") (some (some (.builtin "object.__class__"))),
  decide (PySem.W.mroIn K (He.ga K "Refused") (.type "object") = some true),
  decide (PySem.W.subIn K (.ref (He.ga K "Refused")) (.ref (He.ga K "PathError")) = some true),
  decide (PySem.W.subIn K (.ref (He.ga K "Refused")) (.ref (He.ga K "OutOfRange")) = some false),
  decide (PySem.W.subIn K (.ref (He.ga K "Refused")) (.ref (He.ga K "Malformed")) = some false),
  decide (PySem.W.subIn K (.ref (He.ga K "Refused")) (.ref (He.ga K "NotThere")) = some false),
  decide (PySem.W.subIn K (.ref (He.ga K "Refused")) (.ref (He.ga K "Refused")) = some true),
  decide (PySem.W.subIn K (.ref (He.ga K "Refused")) (.ref (He.ga K "TooMuch")) = some false),
  He.eqO (PySem.W.findIn K (.ref (He.ga K "TooMuch")) "__getattribute__") (some (some (.builtin "BaseException.__getattribute__"))),
  He.eqO (PySem.W.findIn K (.ref (He.ga K "TooMuch")) "__getattr__") (some none),
  PySem.W.hasDictIn K (He.ga K "TooMuch"),
  He.eqO (PySem.W.findIn K (.ref (He.ga K "TooMuch")) "__class__") (some (some (.builtin "object.__class__"))),
  decide (PySem.W.mroIn K (He.ga K "TooMuch") (.type "object") = some true),
  decide (PySem.W.subIn K (.ref (He.ga K "TooMuch")) (.ref (He.ga K "PathError")) = some true),
  decide (PySem.W.subIn K (.ref (He.ga K "TooMuch")) (.ref (He.ga K "OutOfRange")) = some false),
  decide (PySem.W.subIn K (.ref (He.ga K "TooMuch")) (.ref (He.ga K "Malformed")) = some false),
  decide (PySem.W.subIn K (.ref (He.ga K "TooMuch")) (.ref (He.ga K "NotThere")) = some false),
  decide (PySem.W.subIn K (.ref (He.ga K "TooMuch")) (.ref (He.ga K "Refused")) = some false),
  decide (PySem.W.subIn K (.ref (He.ga K "TooMuch")) (.ref (He.ga K "TooMuch")) = some true),
  He.eqO (PySem.W.specialIn K (.builtin "object.__class__") "__get__") (some (some (.builtin "getset_descriptor.__get__"))),
  decide (PySem.W.takesIn K (.builtin "object.__class__") = some true)]
def ex (K : PySem.W.Frag) : Bool := (exs K).all id
theorem ex_at {K : PySem.W.Frag} (h : ex K = true) (i : Nat) {b : Bool} (e : (exs K)[i]? = some b := by rfl) : b = true := List.all_eq_true.mp h b (List.mem_of_getElem? e)
abbrev R : PySem.W.OpenRow := PySem.W.OpenLaw.row PySem.Challenge.rw_pathsallowed_k76_whole_yards_that_crash
abbrev hk : PySem.W.Hook := He.hookX 6 fa fn [] tf ex
def ob (s : PySem.W.SharedT) : He.AlX := He.obsX 6 fa fn [] tf ex (HandSHeadRun.getT s)
theorem ob_eq (s : PySem.W.SharedT) : ob s = hk.obs s.abs := He.obsX_eq (HandSHeadRun.getT_eq s)
theorem run (w : World) : HandSHeadRun.RunEq R (PySem.W.view R.prog [25]) hk ob 6000 (["PathError", "OutOfRange", "Malformed", "NotThere", "Refused", "TooMuch", "is_number", "MOST_WORD", "LETTERS", "is_word", "MOST_CELLS", "are_cells", "Yard", "_law_draws", "_law_take", "_law_alike", "_law_word", "_law_tried", "_law_crashed", "_law_behind"]) w := by
  intro os
  kernel_rfl
abbrev adr (K : PySem.W.Frag) : Adr := ⟨He.ga K "PathError", He.ga K "OutOfRange", He.ga K "Malformed", He.ga K "NotThere", He.ga K "Refused", He.ga K "TooMuch", He.ga K "Yard"⟩
abbrev tabs (K : PySem.W.Frag) : Tbs := ⟨(tf.map (He.cT K)).map (·.2)⟩
theorem txt {w : World} {K : PySem.W.Frag} {h : Heap} {mg : Str → Option Value} (X : K.In h) (G : h.Ns mainGlobals mg) (c : He.SaysX fa fn [] tf ex w h K) (cD : He.SaysD fa fn K) : Txt K mg (adr K) :=
  { n_bool := He.free_ok X G (cD.fact 31 (f := .free "bool")), n_isinstance := He.free_ok X G (cD.fact 32 (f := .free "isinstance")), n_int := He.free_ok X G (cD.fact 33 (f := .free "int")), n_all := He.free_ok X G (cD.fact 34 (f := .free "all")), n_len := He.free_ok X G (cD.fact 35 (f := .free "len")), n_str := He.free_ok X G (cD.fact 36 (f := .free "str")), n_range := He.free_ok X G (cD.fact 37 (f := .free "range")), n_tuple := He.free_ok X G (cD.fact 38 (f := .free "tuple")), n_sorted := He.free_ok X G (cD.fact 39 (f := .free "sorted")), n_dict := He.free_ok X G (cD.fact 40 (f := .free "dict")), n_list := He.free_ok X G (cD.fact 41 (f := .free "list")), n_reversed := He.free_ok X G (cD.fact 42 (f := .free "reversed")), n_abs := He.free_ok X G (cD.fact 43 (f := .free "abs")), c_MOST_WORD := He.int_ok X G (cD.fact 44 (f := .int "MOST_WORD" 6)), c_LETTERS := He.str_ok X G (cD.fact 45 (f := .str "LETTERS" "abcdefghijklmnopqrstuvwxyz")), c_MOST_CELLS := He.int_ok X G (cD.fact 46 (f := .int "MOST_CELLS" 60)), e_PathError := ⟨(He.exc_ok (cD.fact 47 (f := .exc "PathError"))).1, He.glo_ok X G (cD.fact 0 (f := .glo "PathError")), (He.exc_ok (cD.fact 47 (f := .exc "PathError"))).2.1, (He.exc_ok (cD.fact 47 (f := .exc "PathError"))).2.2.1, (He.exc_ok (cD.fact 47 (f := .exc "PathError"))).2.2.2, (ex_at c.more 0)⟩, e_OutOfRange := ⟨(He.exc_ok (cD.fact 48 (f := .exc "OutOfRange"))).1, He.glo_ok X G (cD.fact 1 (f := .glo "OutOfRange")), (He.exc_ok (cD.fact 48 (f := .exc "OutOfRange"))).2.1, (He.exc_ok (cD.fact 48 (f := .exc "OutOfRange"))).2.2.1, (He.exc_ok (cD.fact 48 (f := .exc "OutOfRange"))).2.2.2, (ex_at c.more 1)⟩, e_Malformed := ⟨(He.exc_ok (cD.fact 49 (f := .exc "Malformed"))).1, He.glo_ok X G (cD.fact 2 (f := .glo "Malformed")), (He.exc_ok (cD.fact 49 (f := .exc "Malformed"))).2.1, (He.exc_ok (cD.fact 49 (f := .exc "Malformed"))).2.2.1, (He.exc_ok (cD.fact 49 (f := .exc "Malformed"))).2.2.2, (ex_at c.more 2)⟩, e_NotThere := ⟨(He.exc_ok (cD.fact 50 (f := .exc "NotThere"))).1, He.glo_ok X G (cD.fact 3 (f := .glo "NotThere")), (He.exc_ok (cD.fact 50 (f := .exc "NotThere"))).2.1, (He.exc_ok (cD.fact 50 (f := .exc "NotThere"))).2.2.1, (He.exc_ok (cD.fact 50 (f := .exc "NotThere"))).2.2.2, (ex_at c.more 3)⟩, e_Refused := ⟨(He.exc_ok (cD.fact 51 (f := .exc "Refused"))).1, He.glo_ok X G (cD.fact 4 (f := .glo "Refused")), (He.exc_ok (cD.fact 51 (f := .exc "Refused"))).2.1, (He.exc_ok (cD.fact 51 (f := .exc "Refused"))).2.2.1, (He.exc_ok (cD.fact 51 (f := .exc "Refused"))).2.2.2, (ex_at c.more 4)⟩, e_TooMuch := ⟨(He.exc_ok (cD.fact 52 (f := .exc "TooMuch"))).1, He.glo_ok X G (cD.fact 5 (f := .glo "TooMuch")), (He.exc_ok (cD.fact 52 (f := .exc "TooMuch"))).2.1, (He.exc_ok (cD.fact 52 (f := .exc "TooMuch"))).2.2.1, (He.exc_ok (cD.fact 52 (f := .exc "TooMuch"))).2.2.2, (ex_at c.more 5)⟩, cl_Yard := He.cls_ok (cD.fact 53 (f := .cls "Yard")), no_Yard_begun := He.noat_ok (cD.fact 54 (f := .noat "Yard" "begun")), no_Yard_disk := He.noat_ok (cD.fact 55 (f := .noat "Yard" "disk")), no_Yard_hand := He.noat_ok (cD.fact 56 (f := .noat "Yard" "hand")), no_Yard_log := He.noat_ok (cD.fact 57 (f := .noat "Yard" "log")), no_Yard_many := He.noat_ok (cD.fact 58 (f := .noat "Yard" "many")), no_Yard_safe := He.noat_ok (cD.fact 59 (f := .noat "Yard" "safe")), ec_OutOfRange := ⟨He.eqO_ok (ex_at c.more 6), He.eqO_ok (ex_at c.more 7), (He.exc_ok (cD.fact 48 (f := .exc "OutOfRange"))).2.2.1, (ex_at c.more 8), He.eqO_ok (ex_at c.more 9), He.eqO_ok (ex_at c.more 61), of_decide_eq_true (ex_at c.more 62), of_decide_eq_true (ex_at c.more 10)⟩, sp_OutOfRange := of_decide_eq_true (ex_at c.more 11), sub_OutOfRange_OutOfRange := of_decide_eq_true (ex_at c.more 12), sub_OutOfRange_Malformed := of_decide_eq_true (ex_at c.more 13), sub_OutOfRange_NotThere := of_decide_eq_true (ex_at c.more 14), sub_OutOfRange_Refused := of_decide_eq_true (ex_at c.more 15), sub_OutOfRange_TooMuch := of_decide_eq_true (ex_at c.more 16), ec_Malformed := ⟨He.eqO_ok (ex_at c.more 17), He.eqO_ok (ex_at c.more 18), (He.exc_ok (cD.fact 49 (f := .exc "Malformed"))).2.2.1, (ex_at c.more 19), He.eqO_ok (ex_at c.more 20), He.eqO_ok (ex_at c.more 61), of_decide_eq_true (ex_at c.more 62), of_decide_eq_true (ex_at c.more 21)⟩, sp_Malformed := of_decide_eq_true (ex_at c.more 22), sub_Malformed_OutOfRange := of_decide_eq_true (ex_at c.more 23), sub_Malformed_Malformed := of_decide_eq_true (ex_at c.more 24), sub_Malformed_NotThere := of_decide_eq_true (ex_at c.more 25), sub_Malformed_Refused := of_decide_eq_true (ex_at c.more 26), sub_Malformed_TooMuch := of_decide_eq_true (ex_at c.more 27), ec_NotThere := ⟨He.eqO_ok (ex_at c.more 28), He.eqO_ok (ex_at c.more 29), (He.exc_ok (cD.fact 50 (f := .exc "NotThere"))).2.2.1, (ex_at c.more 30), He.eqO_ok (ex_at c.more 31), He.eqO_ok (ex_at c.more 61), of_decide_eq_true (ex_at c.more 62), of_decide_eq_true (ex_at c.more 32)⟩, sp_NotThere := of_decide_eq_true (ex_at c.more 33), sub_NotThere_OutOfRange := of_decide_eq_true (ex_at c.more 34), sub_NotThere_Malformed := of_decide_eq_true (ex_at c.more 35), sub_NotThere_NotThere := of_decide_eq_true (ex_at c.more 36), sub_NotThere_Refused := of_decide_eq_true (ex_at c.more 37), sub_NotThere_TooMuch := of_decide_eq_true (ex_at c.more 38), ec_Refused := ⟨He.eqO_ok (ex_at c.more 39), He.eqO_ok (ex_at c.more 40), (He.exc_ok (cD.fact 51 (f := .exc "Refused"))).2.2.1, (ex_at c.more 41), He.eqO_ok (ex_at c.more 42), He.eqO_ok (ex_at c.more 61), of_decide_eq_true (ex_at c.more 62), of_decide_eq_true (ex_at c.more 43)⟩, sp_Refused := of_decide_eq_true (ex_at c.more 44), sub_Refused_OutOfRange := of_decide_eq_true (ex_at c.more 45), sub_Refused_Malformed := of_decide_eq_true (ex_at c.more 46), sub_Refused_NotThere := of_decide_eq_true (ex_at c.more 47), sub_Refused_Refused := of_decide_eq_true (ex_at c.more 48), sub_Refused_TooMuch := of_decide_eq_true (ex_at c.more 49), ec_TooMuch := ⟨He.eqO_ok (ex_at c.more 50), He.eqO_ok (ex_at c.more 51), (He.exc_ok (cD.fact 52 (f := .exc "TooMuch"))).2.2.1, (ex_at c.more 52), He.eqO_ok (ex_at c.more 53), He.eqO_ok (ex_at c.more 61), of_decide_eq_true (ex_at c.more 62), of_decide_eq_true (ex_at c.more 54)⟩, sp_TooMuch := of_decide_eq_true (ex_at c.more 55), sub_TooMuch_OutOfRange := of_decide_eq_true (ex_at c.more 56), sub_TooMuch_Malformed := of_decide_eq_true (ex_at c.more 57), sub_TooMuch_NotThere := of_decide_eq_true (ex_at c.more 58), sub_TooMuch_Refused := of_decide_eq_true (ex_at c.more 59), sub_TooMuch_TooMuch := of_decide_eq_true (ex_at c.more 60) }
theorem facts {w : World} {K : PySem.W.Frag} {h : Heap} {mg : Str → Option Value} {f : Addr} (X : K.In h) (G : h.Ns mainGlobals mg) (hfa : mg "law" = some (.ref f)) (c : He.SaysX fa fn [] tf ex w h K) : LamX.LawAtS PySem.Challenge.rw_pathsallowed_k76_whole_yards_that_crash w K (L2N.CX R.prog w) 9 63 "script" mg f h := by
  letI : Tbs := tabs K
  have cD : He.SaysD fa fn K := congrArg (fun z : He.AlT => z.1) c.t
  have e := hfa.symm.trans (He.glo_ok X G (cD.fact 30 (f := .glo "law")))
  cases e
  have T := txt X G c cD
  obtain ⟨fd_is_number, F0_is_number⟩ := cD.def_ 0 (d := dfn "is_number" "is_number" ("is_number", none) t_is_number)
  have C_is_number := funC_of (st := t_is_number) (p := ("is_number", none)) F0_is_number
  have F_is_number := C_is_number.fun
  have B_is_number := F_is_number.binds (ps := ["value", "least", "most"]) fun _ _ _ _ _ _ us hl => match us, hl with | [_, _, _], _ => rfl
  obtain ⟨fd_is_word, F0_is_word⟩ := cD.def_ 1 (d := dfn "is_word" "is_word" ("is_word", none) t_is_word)
  have C_is_word := funC_of (st := t_is_word) (p := ("is_word", none)) F0_is_word
  have F_is_word := C_is_word.fun
  have B_is_word := F_is_word.binds (ps := ["value"]) fun _ _ _ _ _ _ us hl => match us, hl with | [_], _ => rfl
  obtain ⟨fd_are_cells, F0_are_cells⟩ := cD.def_ 2 (d := dfn "are_cells" "are_cells" ("are_cells", none) t_are_cells)
  have C_are_cells := funC_of (st := t_are_cells) (p := ("are_cells", none)) F0_are_cells
  have F_are_cells := C_are_cells.fun
  have B_are_cells := F_are_cells.binds (ps := ["value"]) fun _ _ _ _ _ _ us hl => match us, hl with | [_], _ => rfl
  obtain ⟨fd_Yard_init, F0_Yard_init⟩ := cD.def_ 3 (d := dfn "__init__" "Yard.__init__" ("Yard", some "__init__") t_Yard_init)
  have C_Yard_init := funC_of (st := t_Yard_init) (p := ("Yard", some "__init__")) F0_Yard_init
  have F_Yard_init := C_Yard_init.fun
  have B_Yard_init := F_Yard_init.binds (ps := ["self", "names"]) fun _ _ _ _ _ _ us hl => match us, hl with | [_, _], _ => rfl
  obtain ⟨fd_Yard_text, F0_Yard_text⟩ := cD.def_ 4 (d := dfn "text" "Yard.text" ("Yard", some "text") t_Yard_text)
  have C_Yard_text := funC_of (st := t_Yard_text) (p := ("Yard", some "text")) F0_Yard_text
  have F_Yard_text := C_Yard_text.fun
  have B_Yard_text := F_Yard_text.binds (ps := ["self", "name"]) fun _ _ _ _ _ _ us hl => match us, hl with | [_, _], _ => rfl
  obtain ⟨fd_Yard_works, F0_Yard_works⟩ := cD.def_ 5 (d := dfn "works" "Yard.works" ("Yard", some "works") t_Yard_works)
  have C_Yard_works := funC_of (st := t_Yard_works) (p := ("Yard", some "works")) F0_Yard_works
  have F_Yard_works := C_Yard_works.fun
  have B_Yard_works := F_Yard_works.binds (ps := ["self"]) fun _ _ _ _ _ _ us hl => match us, hl with | [_], _ => rfl
  obtain ⟨fd_Yard_begin, F0_Yard_begin⟩ := cD.def_ 6 (d := dfn "begin" "Yard.begin" ("Yard", some "begin") t_Yard_begin)
  have C_Yard_begin := funC_of (st := t_Yard_begin) (p := ("Yard", some "begin")) F0_Yard_begin
  have F_Yard_begin := C_Yard_begin.fun
  have B_Yard_begin := F_Yard_begin.binds (ps := ["self"]) fun _ _ _ _ _ _ us hl => match us, hl with | [_], _ => rfl
  obtain ⟨fd_Yard_rows_of, F0_Yard_rows_of⟩ := cD.def_ 7 (d := dfn "rows_of" "Yard.rows_of" ("Yard", some "rows_of") t_Yard_rows_of)
  have C_Yard_rows_of := funC_of (st := t_Yard_rows_of) (p := ("Yard", some "rows_of")) F0_Yard_rows_of
  have F_Yard_rows_of := C_Yard_rows_of.fun
  have B_Yard_rows_of := F_Yard_rows_of.binds (ps := ["self", "work"]) fun _ _ _ _ _ _ us hl => match us, hl with | [_, _], _ => rfl
  obtain ⟨fd_Yard_put, F0_Yard_put⟩ := cD.def_ 8 (d := dfn "put" "Yard.put" ("Yard", some "put") t_Yard_put)
  have C_Yard_put := funC_of (st := t_Yard_put) (p := ("Yard", some "put")) F0_Yard_put
  have F_Yard_put := C_Yard_put.fun
  have B_Yard_put := F_Yard_put.binds (ps := ["self", "work", "name", "text"]) fun _ _ _ _ _ _ us hl => match us, hl with | [_, _, _, _], _ => rfl
  obtain ⟨fd_Yard_end, F0_Yard_end⟩ := cD.def_ 9 (d := dfn "end" "Yard.end" ("Yard", some "end") t_Yard_end)
  have C_Yard_end := funC_of (st := t_Yard_end) (p := ("Yard", some "end")) F0_Yard_end
  have F_Yard_end := C_Yard_end.fun
  have B_Yard_end := F_Yard_end.binds (ps := ["self", "work"]) fun _ _ _ _ _ _ us hl => match us, hl with | [_, _], _ => rfl
  obtain ⟨fd_Yard_drop, F0_Yard_drop⟩ := cD.def_ 10 (d := dfn "drop" "Yard.drop" ("Yard", some "drop") t_Yard_drop)
  have C_Yard_drop := funC_of (st := t_Yard_drop) (p := ("Yard", some "drop")) F0_Yard_drop
  have F_Yard_drop := C_Yard_drop.fun
  have B_Yard_drop := F_Yard_drop.binds (ps := ["self", "work"]) fun _ _ _ _ _ _ us hl => match us, hl with | [_, _], _ => rfl
  obtain ⟨fd_Yard_sync, F0_Yard_sync⟩ := cD.def_ 11 (d := dfn "sync" "Yard.sync" ("Yard", some "sync") t_Yard_sync)
  have C_Yard_sync := funC_of (st := t_Yard_sync) (p := ("Yard", some "sync")) F0_Yard_sync
  have F_Yard_sync := C_Yard_sync.fun
  have B_Yard_sync := F_Yard_sync.binds (ps := ["self"]) fun _ _ _ _ _ _ us hl => match us, hl with | [_], _ => rfl
  obtain ⟨fd_Yard_flush, F0_Yard_flush⟩ := cD.def_ 12 (d := dfn "flush" "Yard.flush" ("Yard", some "flush") t_Yard_flush)
  have C_Yard_flush := funC_of (st := t_Yard_flush) (p := ("Yard", some "flush")) F0_Yard_flush
  have F_Yard_flush := C_Yard_flush.fun
  have B_Yard_flush := F_Yard_flush.binds (ps := ["self", "name"]) fun _ _ _ _ _ _ us hl => match us, hl with | [_, _], _ => rfl
  obtain ⟨fd_Yard_waiting, F0_Yard_waiting⟩ := cD.def_ 13 (d := dfn "waiting" "Yard.waiting" ("Yard", some "waiting") t_Yard_waiting)
  have C_Yard_waiting := funC_of (st := t_Yard_waiting) (p := ("Yard", some "waiting")) F0_Yard_waiting
  have F_Yard_waiting := C_Yard_waiting.fun
  have B_Yard_waiting := F_Yard_waiting.binds (ps := ["self"]) fun _ _ _ _ _ _ us hl => match us, hl with | [_], _ => rfl
  obtain ⟨fd_Yard_mended, F0_Yard_mended⟩ := cD.def_ 14 (d := dfn "mended" "Yard.mended" ("Yard", some "mended") t_Yard_mended)
  have C_Yard_mended := funC_of (st := t_Yard_mended) (p := ("Yard", some "mended")) F0_Yard_mended
  have F_Yard_mended := C_Yard_mended.fun
  have B_Yard_mended := F_Yard_mended.binds (ps := ["self"]) fun _ _ _ _ _ _ us hl => match us, hl with | [_], _ => rfl
  obtain ⟨fd_Yard_crashed, F0_Yard_crashed⟩ := cD.def_ 15 (d := dfn "crashed" "Yard.crashed" ("Yard", some "crashed") t_Yard_crashed)
  have C_Yard_crashed := funC_of (st := t_Yard_crashed) (p := ("Yard", some "crashed")) F0_Yard_crashed
  have F_Yard_crashed := C_Yard_crashed.fun
  have B_Yard_crashed := F_Yard_crashed.binds (ps := ["self", "kept"]) fun _ _ _ _ _ _ us hl => match us, hl with | [_, _], _ => rfl
  obtain ⟨fd_law_draws, F0_law_draws⟩ := cD.def_ 16 (d := dfn "_law_draws" "_law_draws" ("_law_draws", none) t_law_draws)
  have C_law_draws := funC_of (st := t_law_draws) (p := ("_law_draws", none)) F0_law_draws
  have F_law_draws := C_law_draws.fun
  have B_law_draws := F_law_draws.binds (ps := ["script"]) fun _ _ _ _ _ _ us hl => match us, hl with | [_], _ => rfl
  obtain ⟨fd_law_take, F0_law_take⟩ := cD.def_ 17 (d := dfn "_law_take" "_law_take" ("_law_take", none) t_law_take)
  have C_law_take := funC_of (st := t_law_take) (p := ("_law_take", none)) F0_law_take
  have F_law_take := C_law_take.fun
  have B_law_take := F_law_take.binds (ps := ["draws", "limit"]) fun _ _ _ _ _ _ us hl => match us, hl with | [_, _], _ => rfl
  obtain ⟨fd_law_alike, F0_law_alike⟩ := cD.def_ 18 (d := dfn "_law_alike" "_law_alike" ("_law_alike", none) t_law_alike)
  have C_law_alike := funC_of (st := t_law_alike) (p := ("_law_alike", none)) F0_law_alike
  have F_law_alike := C_law_alike.fun
  have B_law_alike := F_law_alike.binds (ps := ["found", "due"]) fun _ _ _ _ _ _ us hl => match us, hl with | [_, _], _ => rfl
  obtain ⟨fd_law_word, F0_law_word⟩ := cD.def_ 19 (d := dfn "_law_word" "_law_word" ("_law_word", none) t_law_word)
  have C_law_word := funC_of (st := t_law_word) (p := ("_law_word", none)) F0_law_word
  have F_law_word := C_law_word.fun
  have B_law_word := F_law_word.binds (ps := ["e"]) fun _ _ _ _ _ _ us hl => match us, hl with | [_], _ => rfl
  obtain ⟨fd_law_tried, F0_law_tried⟩ := cD.def_ 20 (d := dfn "_law_tried" "_law_tried" ("_law_tried", none) t_law_tried)
  have C_law_tried := funC_of (st := t_law_tried) (p := ("_law_tried", none)) F0_law_tried
  have F_law_tried := C_law_tried.fun
  have B_law_tried := F_law_tried.binds (ps := ["which", "yard", "one", "other", "third"]) fun _ _ _ _ _ _ us hl => match us, hl with | [_, _, _, _, _], _ => rfl
  obtain ⟨fd_law_crashed, F0_law_crashed⟩ := cD.def_ 21 (d := dfn "_law_crashed" "_law_crashed" ("_law_crashed", none) t_law_crashed)
  have C_law_crashed := funC_of (st := t_law_crashed) (p := ("_law_crashed", none)) F0_law_crashed
  have F_law_crashed := C_law_crashed.fun
  have B_law_crashed := F_law_crashed.binds (ps := ["yard", "kept"]) fun _ _ _ _ _ _ us hl => match us, hl with | [_, _], _ => rfl
  obtain ⟨fd_law_behind, F0_law_behind⟩ := cD.def_ 22 (d := dfn "_law_behind" "_law_behind" ("_law_behind", none) t_law_behind)
  have C_law_behind := funC_of (st := t_law_behind) (p := ("_law_behind", none)) F0_law_behind
  have F_law_behind := C_law_behind.fun
  have B_law_behind := F_law_behind.binds (ps := ["first", "log"]) fun _ _ _ _ _ _ us hl => match us, hl with | [_, _], _ => rfl
  obtain ⟨fd_law, F0_law⟩ := cD.def_ 23 (d := dfn "law" "law" ("law", none) t_law)
  have C_law := funC_of (st := t_law) (p := ("law", none)) F0_law
  have F_law := C_law.fun
  have B_law := F_law.binds (ps := ["script"]) fun _ _ _ _ _ _ us hl => match us, hl with | [_], _ => rfl
  refine ⟨fd_law, tf.map (He.cT K), spLawT K, fun p hp => ?_, fun p hp => ?_, fun p hp => ?_, fun s v => FunD.bindsA (ps := ["script"]) F0_law (fun _ _ _ _ _ _ us hl => match us, hl with | [_], _ => rfl) s [v] rfl, fun H a ns hl _ hT hS => ⟨a, ns, rfl, hl, fun P hP => ?_, hS, fun _ => rfl⟩, fun base hKb hGb hTB => ?_⟩
  · obtain ⟨z, hz, rfl⟩ := List.mem_map.mp hp
    exact c.empty z hz
  · obtain ⟨z, hz, rfl⟩ := List.mem_map.mp hp
    exact c.out z hz
  · obtain ⟨z, hz, rfl⟩ := List.mem_map.mp hp
    exact PySem.W.codeHd_of_K X (c.hd z hz)
  · obtain ⟨z, hz, rfl⟩ := List.mem_map.mp hP
    exact hT z hz
  have hP_is_word : (He.cT K ("is_word", none)).2 ∈ Tbs.tabs := List.mem_map.mpr ⟨_, List.mem_map.mpr ⟨("is_word", none), List.mem_of_getElem? (i := 0) rfl, rfl⟩, rfl⟩
  have TB_is_word : GxR.TabB base mg (He.cT K ("is_word", none)).1 (He.cT K ("is_word", none)).2 := by
    have z := hTB _ (List.mem_map.mpr ⟨("is_word", none), List.mem_of_getElem? (i := 0) rfl, rfl⟩)
    exact ⟨z.code, z.bm, z.gP⟩
  have hP_are_cells : (He.cT K ("are_cells", none)).2 ∈ Tbs.tabs := List.mem_map.mpr ⟨_, List.mem_map.mpr ⟨("are_cells", none), List.mem_of_getElem? (i := 1) rfl, rfl⟩, rfl⟩
  have TB_are_cells : GxR.TabB base mg (He.cT K ("are_cells", none)).1 (He.cT K ("are_cells", none)).2 := by
    have z := hTB _ (List.mem_map.mpr ⟨("are_cells", none), List.mem_of_getElem? (i := 1) rfl, rfl⟩)
    exact ⟨z.code, z.bm, z.gP⟩
  have D_is_number : DOk R.prog w K mg base "is_number" 1 _ _ ["value", "least", "most"] (f_is_number (adr K)) := ⟨ok_is_number (A := adr K) T F_is_number , He.glo_ok X G (cD.fact 7 (f := .glo "is_number")), F_is_number.kp, B_is_number⟩
  have D_is_word : DOk R.prog w K mg base "is_word" 2 _ _ ["value"] (f_is_word (adr K)) := ⟨ok_is_word (A := adr K) T C_is_word  hP_is_word TB_is_word, He.glo_ok X G (cD.fact 8 (f := .glo "is_word")), C_is_word.kp, B_is_word⟩
  have D_are_cells : DOk R.prog w K mg base "are_cells" 4 _ _ ["value"] (f_are_cells (adr K)) := ⟨ok_are_cells (A := adr K) T C_are_cells D_is_word hP_are_cells TB_are_cells, He.glo_ok X G (cD.fact 9 (f := .glo "are_cells")), C_are_cells.kp, B_are_cells⟩
  have D_Yard_init : IOk R.prog w K mg base (He.ga K "Yard") "Yard" 5 _ _ ["self", "names"] (f_Yard_init (adr K)) := ⟨ok_Yard_init (A := adr K) T F_Yard_init D_are_cells, He.mkr_ok (cD.fact 10 (f := .mkr "Yard")), He.glo_ok X G (cD.fact 6 (f := .glo "Yard")), B_Yard_init⟩
  have D_Yard_text : MOk R.prog w K mg base (He.ga K "Yard") "text" 3 _ _ ["self", "name"] (f_Yard_text (adr K)) := ⟨ok_Yard_text (A := adr K) T F_Yard_text D_is_word, He.meth_ok (cD.fact 11 (f := .meth "Yard" "text")), B_Yard_text⟩
  have D_Yard_works : MOk R.prog w K mg base (He.ga K "Yard") "works" 1 _ _ ["self"] (f_Yard_works (adr K)) := ⟨ok_Yard_works (A := adr K) T F_Yard_works , He.meth_ok (cD.fact 12 (f := .meth "Yard" "works")), B_Yard_works⟩
  have D_Yard_begin : MOk R.prog w K mg base (He.ga K "Yard") "begin" 1 _ _ ["self"] (f_Yard_begin (adr K)) := ⟨ok_Yard_begin (A := adr K) T F_Yard_begin , He.meth_ok (cD.fact 13 (f := .meth "Yard" "begin")), B_Yard_begin⟩
  have D_Yard_rows_of : MOk R.prog w K mg base (He.ga K "Yard") "rows_of" 2 _ _ ["self", "work"] (f_Yard_rows_of (adr K)) := ⟨ok_Yard_rows_of (A := adr K) T F_Yard_rows_of D_is_number, He.meth_ok (cD.fact 14 (f := .meth "Yard" "rows_of")), B_Yard_rows_of⟩
  have D_Yard_put : MOk R.prog w K mg base (He.ga K "Yard") "put" 4 _ _ ["self", "work", "name", "text"] (f_Yard_put (adr K)) := ⟨ok_Yard_put (A := adr K) T F_Yard_put D_Yard_text D_Yard_rows_of, He.meth_ok (cD.fact 15 (f := .meth "Yard" "put")), B_Yard_put⟩
  have D_Yard_end : MOk R.prog w K mg base (He.ga K "Yard") "end" 3 _ _ ["self", "work"] (f_Yard_end (adr K)) := ⟨ok_Yard_end (A := adr K) T F_Yard_end D_Yard_rows_of, He.meth_ok (cD.fact 16 (f := .meth "Yard" "end")), B_Yard_end⟩
  have D_Yard_drop : MOk R.prog w K mg base (He.ga K "Yard") "drop" 4 _ _ ["self", "work"] (f_Yard_drop (adr K)) := ⟨ok_Yard_drop (A := adr K) T F_Yard_drop D_Yard_end D_Yard_rows_of, He.meth_ok (cD.fact 17 (f := .meth "Yard" "drop")), B_Yard_drop⟩
  have D_Yard_sync : MOk R.prog w K mg base (He.ga K "Yard") "sync" 1 _ _ ["self"] (f_Yard_sync (adr K)) := ⟨ok_Yard_sync (A := adr K) T F_Yard_sync , He.meth_ok (cD.fact 18 (f := .meth "Yard" "sync")), B_Yard_sync⟩
  have D_Yard_flush : MOk R.prog w K mg base (He.ga K "Yard") "flush" 4 _ _ ["self", "name"] (f_Yard_flush (adr K)) := ⟨ok_Yard_flush (A := adr K) T F_Yard_flush D_Yard_sync D_Yard_text, He.meth_ok (cD.fact 19 (f := .meth "Yard" "flush")), B_Yard_flush⟩
  have D_Yard_waiting : MOk R.prog w K mg base (He.ga K "Yard") "waiting" 1 _ _ ["self"] (f_Yard_waiting (adr K)) := ⟨ok_Yard_waiting (A := adr K) T F_Yard_waiting , He.meth_ok (cD.fact 20 (f := .meth "Yard" "waiting")), B_Yard_waiting⟩
  have D_Yard_mended : MOk R.prog w K mg base (He.ga K "Yard") "mended" 1 _ _ ["self"] (f_Yard_mended (adr K)) := ⟨ok_Yard_mended (A := adr K) T F_Yard_mended , He.meth_ok (cD.fact 21 (f := .meth "Yard" "mended")), B_Yard_mended⟩
  have D_Yard_crashed : MOk R.prog w K mg base (He.ga K "Yard") "crashed" 7 _ _ ["self", "kept"] (f_Yard_crashed (adr K)) := ⟨ok_Yard_crashed (A := adr K) T F_Yard_crashed D_Yard_mended D_Yard_init D_Yard_waiting D_is_number, He.meth_ok (cD.fact 22 (f := .meth "Yard" "crashed")), B_Yard_crashed⟩
  have D_law_draws : DOk R.prog w K mg base "_law_draws" 1 _ _ ["script"] (f_law_draws (adr K)) := ⟨ok_law_draws (A := adr K) T F_law_draws , He.glo_ok X G (cD.fact 23 (f := .glo "_law_draws")), F_law_draws.kp, B_law_draws⟩
  have D_law_take : DOk R.prog w K mg base "_law_take" 1 _ _ ["draws", "limit"] (f_law_take (adr K)) := ⟨ok_law_take (A := adr K) T F_law_take , He.glo_ok X G (cD.fact 24 (f := .glo "_law_take")), F_law_take.kp, B_law_take⟩
  have D_law_alike : DOk R.prog w K mg base "_law_alike" 7 _ _ ["found", "due"] (f_law_alike (adr K)) := ⟨ok_law_alike (A := adr K) T F_law_alike  (He.glo_ok X G (cD.fact 25 (f := .glo "_law_alike"))) F_law_alike.kp B_law_alike 6, He.glo_ok X G (cD.fact 25 (f := .glo "_law_alike")), F_law_alike.kp, B_law_alike⟩
  have D_law_word : PDM.FnP R.prog w K mg base (L2N.CX R.prog w) 1 _ _ ["e"] (spW K (wd (adr K))) := ok_law_word T F_law_word (word_true T)
  have D_law_tried : DOk R.prog w K mg base "_law_tried" 7 _ _ ["which", "yard", "one", "other", "third"] (f_law_tried (adr K)) := ⟨ok_law_tried (A := adr K) T F_law_tried D_Yard_text D_Yard_init D_Yard_flush D_Yard_drop D_Yard_end D_Yard_put D_law_word (He.glo_ok X G (cD.fact 26 (f := .glo "_law_word"))) F_law_word.kp B_law_word, He.glo_ok X G (cD.fact 27 (f := .glo "_law_tried")), F_law_tried.kp, B_law_tried⟩
  have D_law_crashed : DOk R.prog w K mg base "_law_crashed" 8 _ _ ["yard", "kept"] (f_law_crashed (adr K)) := ⟨ok_law_crashed (A := adr K) T F_law_crashed D_Yard_crashed D_law_word (He.glo_ok X G (cD.fact 26 (f := .glo "_law_word"))) F_law_word.kp B_law_word, He.glo_ok X G (cD.fact 28 (f := .glo "_law_crashed")), F_law_crashed.kp, B_law_crashed⟩
  have D_law_behind : DOk R.prog w K mg base "_law_behind" 1 _ _ ["first", "log"] (f_law_behind (adr K)) := ⟨ok_law_behind (A := adr K) T F_law_behind , He.glo_ok X G (cD.fact 29 (f := .glo "_law_behind")), F_law_behind.kp, B_law_behind⟩
  exact law_okT (ok_law (A := adr K) T F_law D_Yard_text D_law_tried D_law_crashed D_Yard_waiting D_Yard_begin D_law_take D_Yard_works D_law_alike D_Yard_sync D_law_behind D_Yard_init D_law_draws) (law_true T)
end K76
open PySem PySem.W PySem.Calls PyProof.Rows
set_option maxRecDepth 100000 in
set_option maxHeartbeats 0 in
theorem PySem.Challenge.cw_pathsallowed_k76_whole_yards_that_crash_holds : PySem.Challenge.rw_pathsallowed_k76_whole_yards_that_crash.Holds := by
  w_on; o_law
  refine HandSHeadRun.head_any (r := PySem.W.OpenLaw.row PySem.Challenge.rw_pathsallowed_k76_whole_yards_that_crash) (q := view (PySem.W.OpenLaw.row PySem.Challenge.rw_pathsallowed_k76_whole_yards_that_crash).prog [25]) (H := K76.hk) (ob := K76.ob) (M := 6000) (loose := ["PathError", "OutOfRange", "Malformed", "NotThere", "Refused", "TooMuch", "is_number", "MOST_WORD", "LETTERS", "is_word", "MOST_CELLS", "are_cells", "Yard", "_law_draws", "_law_take", "_law_alike", "_law_word", "_law_tried", "_law_crashed", "_law_behind"]) (d := HandSHeadRun.topDef (PySem.W.OpenLaw.row PySem.Challenge.rw_pathsallowed_k76_whole_yards_that_crash).prog 25) (kwd := []) K76.ob_eq
    (by kernel_rfl) (fun s => by kernel_rfl) K76.run (by kernel_rfl) (by kernel_rfl) (by kernel_rfl) (by rfl) (by first | assumption | decide +kernel) (by decide +kernel) ⟨rfl, rfl, rfl, rfl, rfl, by decide +kernel⟩ ?hw ?hc
  case hw => w_witness2
  case hc =>
    refine LamX.walk_ofTsE (l := PySem.Challenge.rw_pathsallowed_k76_whole_yards_that_crash) (n := 63) (k := 9) (x := "script") (CX := fun w => L2N.CX (PySem.W.OpenLaw.row PySem.Challenge.rw_pathsallowed_k76_whole_yards_that_crash).prog w) rfl (by decide) (by kernel_rfl) ⟨rfl, by decide, by decide⟩ ?F (fun _ _ _ _ _ ⟨_, _, _, _, _, _, _, _, _, _, _, _, z⟩ => z)
    intro w mg fa h Y G hmg0
    obtain ⟨K, KX, c⟩ := Y
    have hmg : mg ("law" : PySem.Str) = some (.ref fa) := by
      have e : (HandSHeadRun.topDef (PySem.W.OpenLaw.row PySem.Challenge.rw_pathsallowed_k76_whole_yards_that_crash).prog 25).name = ("law" : PySem.Str) := by kernel_rfl
      rw [← e]
      exact hmg0
    exact ⟨K, KX, K76.facts KX G hmg c⟩
#print axioms PySem.Challenge.cw_pathsallowed_k76_whole_yards_that_crash_holds
