import PyProof.Rows.All
import Wide.All
import OpenK.AllK
import Wide.FinOn
import HandS.ForMost
import HandS.ForExc
import HandS.ExcIs
import HandS.HotCalls
import HandS.SortRule
import HandS.Deep
import HandS.TupAny
import HandS.IsInst
import HandS.Rev
import HandS.Flow
import HandS.ExcValue
import HandS.Style
import KE.GoesEnum
import HandS.Iter
import HandS.TupSets
import PySem.Challenge.RW_pathsallowed_k44_whole_wires_of_links
set_option Elab.async false
set_option linter.all false
set_option maxRecDepth 100000
set_option maxHeartbeats 4000000
namespace PDM
open PySem PySem.Spec PyProof.Rows L2 RT
section
variable {prog : Program} {w : World} {A : Around} {E : Value → Shared → Prop} {s : Shared}
/-- list(it), it = reversed(a list) -/
theorem list_of_rev {it l : Addr} {items : Array Value} {Q : Value → Shared → Prop} (hh : A.handled = none) (hit : s.heap.IsRevIter it l ((items.size : Int) - 1)) (hl : s.heap.IsList l items) (hne : l ≠ it) (hn : items.size ≤ sizeLine)
    (hQ : ∀ (h' : Heap) (tk : Nat) (acc : Array Value) (c' : Nat), (∀ b o, b ≠ it → s.heap.get? b = some o → h'.get? b = some o) → h'.get? s.heap.objs.size = some { cls := .type "list", data := .seq acc c' } →
      ItemsOf (fun i v => items[items.size - 1 - i]? = some v) acc items.size → Q (.ref s.heap.objs.size) { s with heap := h', toks := tk }) : wpAny (model prog w) A (call (.type "list") [.ref it]) Q E s := by
  have hit0 : it < s.heap.objs.size := by obtain ⟨o, e, _⟩ := hit; exact Heap.lt_size e
  have hl0 : l < s.heap.objs.size := by obtain ⟨o, e, _⟩ := hl; exact Heap.lt_size e
  refine callType_codes (Q₁ := fun obj s1 => obj = .ref s.heap.objs.size ∧ s1 = { s with heap := s.heap.push { cls := .type "list", data := .seq #[] } }) F.called_list (F.typeCall_list_1 _) F.entry_list_init (code_list_new _ ⟨rfl, rfl⟩) fun obj s1 h1 => ?_
  obtain ⟨rfl, rfl⟩ := h1
  -- the new list at S
  have hS : (s.heap.push { cls := .type "list", data := .seq #[] }).get? s.heap.objs.size = some { cls := .type "list", data := .seq #[] } := Heap.get?_push_size _ rfl
  refine ⟨⟨_, hS, rfl⟩, F.args_list_init_2 _ _, ?_⟩
  generalize hSz : s.heap.objs.size = S at *
  have hSit : S ≠ it := fun e => Nat.lt_irrefl _ (e ▸ hit0)
  have hSl : S ≠ l := fun e => Nat.lt_irrefl _ (e ▸ hl0)
  have W := (Walks.listRev (prog := prog) (w := w) (A := A.in1.in1) hh it l hne items).toS
  have hSf : S ∉ [it, l] := fun hm => by
    rcases List.mem_cons.mp hm with e | hm
    · exact hSit e
    · exact hSl (List.mem_singleton.mp hm)
  show wpAny _ A.in1.in1 (do let old ← Builtin.List.listItems (.ref S); Builtin.List.listUpdate (.ref S) (fun _ => #[]); letGo old.toList.reverse; Builtin.List.listExtendWith (.ref S) (.ref it) .none) _ _ _
  refine wpAny_bind ?_
  unfold Builtin.List.listItems
  refine wpAny_bind (wpAny_seqItems hS rfl (wpAny_pure ?_))
  show wpAny _ A.in1.in1 (updateSeq S (fun _ => #[]) >>= fun _ => letGo (#[] : Array Value).toList.reverse >>= fun _ => Builtin.List.listExtendWith (.ref S) (.ref it) .none) _ _ _
  refine wpAny_bind (wpAny_updateSeq hS rfl ?_)
  have hS2 := Heap.get?_update_self (Obj.mapSeq (fun _ => (#[] : Array Value))) hS rfl
  have oth : ∀ b o, b ≠ S → s.heap.get? b = some o → ((s.heap.push { cls := .type "list", data := .seq #[] }).update S (Obj.mapSeq (fun _ => (#[] : Array Value)))).get? b = some o :=
    fun b o hb e => (Heap.get?_update_other _ _ (Ne.symm hb)).trans (Heap.get?_push_of_some _ e)
  refine wpAny_bind (wpAny_letGo ?_)
  generalize hh2 : (s.heap.push { cls := .type "list", data := .seq #[] }).update S (Obj.mapSeq (fun _ => (#[] : Array Value))) = h2 at *
  have hit2 : h2.IsRevIter it l ((items.size : Int) - 1) := hit.at fun o e => oth it o (Ne.symm hSit) e
  have hl2 : h2.IsList l items := hl.at fun o e => oth l o (Ne.symm hSl) e
  have hT : ({ s with heap := h2 } : Shared).TypeIs (.ref it) "list_reverseiterator" := Heap.IsRevIter.typeIs (s := { s with heap := h2 }) hit2
  have hr : Builtin.List.listSameRef (.ref S) (.ref it) = false := by simp [Builtin.List.listSameRef, hSit]
  unfold Builtin.List.listExtendWith
  refine wpAny_bind (wpAny_typeOf hT ?_)
  rw [if_neg (by rw [hr]; decide)]
  refine wpAny_bind (wpAny_pyIter_revIter (s := { s with heap := h2 }) hit2 ?_)
  refine wpAny_bind (wpAny_holding ?_)
  unfold Builtin.List.listLengthHint
  refine wpAny_bind (wpAny_specialOf hT nolen_lri ?_)
  show wpAny _ A.in1.in1 (specialOf (Value.ref it) (Str.ofString "__length_hint__") >>= _) _ _ _
  refine wpAny_bind (wpAny_specialOf hT hint_lri ?_)
  generalize hid : ("list_reverseiterator.__length_hint__" : String) = id0
  wp_delta
  rw [show splitId id0 = some ("list_reverseiterator", "__length_hint__") from by subst hid; decide +kernel]
  subst hid
  refine wpAny_bind (wpAny_isInstance (b := true) hT (by rw [isSubtype_type]; kernel_rfl) ?_)
  refine wpAny_pure ?_
  rw [if_neg (by decide)]
  have e0 : ((items.size : Nat) : Int) - 1 - ((0 : Nat) : Int) = (items.size : Int) - 1 := by omega
  have hS3 : h2.get? S = some { cls := .type "list", data := .seq #[] } := by
    have := hS2
    simpa [Obj.mapSeq] using this
  refine wpAny_pure ⟨plainId_quiet F.plain_extend_loop _, codeAny_extend_loopS W hn S hSf .none items.size 0 _ #[] _ rfl (Nat.zero_le _) ⟨Nat.zero_le _, by rw [e0]; exact hit2, hl2⟩ hS3 (ItemsOf.nil _) fun s' acc' c' hm hS' hacc => ?_⟩
  rw [Moved.eq_with hm]
  refine ⟨rfl, hQ s'.heap s'.toks acc' c' (fun b o hb e => hm.heap b o (fun hmem => ?_) (oth b o (fun z => ?_) e)) hS' hacc⟩
  · rcases List.mem_cons.mp hmem with e' | hmem
    · exact absurd (Heap.lt_size e) (by rw [e', ← hSz]; exact Nat.lt_irrefl _)
    · exact hb (List.mem_singleton.mp hmem)
  · exact absurd (Heap.lt_size e) (by rw [z, ← hSz]; exact Nat.lt_irrefl _)
end
end PDM
namespace PDM
open PySem PySem.Spec PyProof.Rows L2 RT
def tRevL (K : PySem.W.Frag) (te : TE) : TE := fun σ H Q => te σ H fun v H1 => ∃ (a : Addr) (xs : List V), v = .ref a ∧ SqL K H1 a xs ∧ ∀ q, H1 q = none → Q (.ref q) (upd H1 q (.lst xs.reverse))
section
variable {X : Cx}
theorem pe_revL {e : Expr} {te : TE} {p p2 pos pos2 : Pos} (hc : X.calm = true) (hg : Gl X "list") (hm : X.mg "list" = none) (hg2 : Gl X "reversed") (hm2 : X.mg "reversed" = none) (he : PE X e te)
    (hs : starEach [e] X.env = (false, eval e X.env) :: starEach [] X.env := by rfl)
    (hs2 : starEach [.Call (.Name "reversed" p2) [e] [] pos2] X.env = (false, eval (.Call (.Name "reversed" p2) [e] [] pos2) X.env) :: starEach [] X.env := by rfl) :
    PE X (.Call (.Name "list" p) [.Call (.Name "reversed" p2) [e] [] pos2] [] pos) (tRevL X.K te) := by
  constructor
  intro pins s σ H Q I h
  refine Call_ (ld_blt I hg hm boot_list (PyProof.Rows.callWith_type1 (args_cons (Call_ (ld_blt I hg2 hm2 PyProof.Rows.boot_reversed (PyProof.Rows.callWith_type1 (args_cons (thn (he.run pins s σ H _ I h) fun u s1 ⟨v, H1, I1, r1, q1⟩ => args_nil ?_) hs) hs rfl))) hs2) hs2 rfl))
  obtain ⟨a, xs, ev, hq, q⟩ := q1
  subst ev
  have eu : u = Value.ref a := r1
  subst eu
  obtain ⟨its, rv, pl, hz⟩ := I1.list hq
  refine call_reversed_list pl.isList (args_nil ?_)
  have k0 : ∀ b o, s1.heap.get? b = some o → (s1.heap.push (revObj a ((its.toArray.size : Int) - 1))).get? b = some o := fun b o e => Heap.get?_push_of_some _ e
  have I2 : Inv X pins σ H1 { s1 with heap := s1.heap.push (revObj a ((its.toArray.size : Int) - 1)) } := I1.kept (t' := s1.toks) k0
  obtain ⟨f0, f1, f2, f3, f4, f5⟩ := I1.fpOk (H' := H1) (b := s1.heap.objs.size) (Nat.le_refl _) (I1.hok.fresh (Nat.le_refl _))
  have hl := pl.isList
  obtain ⟨ol, hol, _⟩ := id hl
  have hne : a ≠ s1.heap.objs.size := Nat.ne_of_lt (Heap.lt_size hol)
  have hn : its.toArray.size ≤ sizeLine := by rw [List.size_toArray, ← rv.length]; exact hz
  refine list_of_rev (s := { s1 with heap := s1.heap.push (revObj a ((its.toArray.size : Int) - 1)) }) (I1.ok.hd hc) ⟨_, Heap.get?_push_size _ rfl, rfl, rfl⟩ (hl.push _) hne hn fun h' tk acc c' hk hS hi => ?_
  generalize hSz : (s1.heap.push (revObj a ((its.toArray.size : Int) - 1))).objs.size = S at *
  have nS : (s1.heap.push (revObj a ((its.toArray.size : Int) - 1))).get? S = none := Heap.get?_none_of_le (by rw [hSz]; exact Nat.le_refl _)
  have hnone : (PySem.W.hideAll h' [S]).get? S = none := PySem.W.hideAll_none [S] (by simp)
  have I3 : Inv X pins σ H1 { s1 with heap := PySem.W.hideAll h' [S], toks := tk } := I2.turned (t' := tk) (fun b o hb e => PySem.W.hideAll_get _ (hk b o hb e) fun hm => by
    rw [List.mem_singleton.mp hm, nS] at e; cases e) f0 f1 f3 f4 f5
  have nH : H1 S = none := I3.hok.gone hnone
  have I4 : Inv X pins σ (upd H1 S (.lst xs.reverse)) { s1 with heap := h', toks := tk } := I3.laidN (t' := tk) (fun b u e => PySem.W.of_hideAll [S] e) hnone nH ⟨by rw [List.length_reverse]; exact hz, acc.toList, c', vals_rev rv hi, by rw [Array.toArray_toList]; exact hS⟩
  exact ⟨.ref S, _, I4, rfl, q S nH⟩
end
end PDM
namespace PDM
open PySem PySem.Spec PyProof.Rows L2
section
variable {prog : Program} {w : World} {A : Around} {R : Result → Shared → Prop} {I : Addr} {fp wr : List Addr} {n : Nat} {P : Nat → Value → Prop} {St : Nat → Heap → Prop}
/-- one is less than another, in every heap that knows what B knows -/
def LtIn (prog : Program) (w : World) (A : Around) (B : Heap) (P : Nat → Value → Prop) (bt : Nat → Nat → Bool) : Prop :=
  ∀ i j vi vj (s : Shared) (Q : Value → Shared → Prop) (E : Value → Shared → Prop), (∀ b o, B.get? b = some o → s.heap.get? b = some o) → P i vi → P j vj → Q (.bool (bt i j)) s → wpAny (model prog w) A (richCompare .Lt vi vj) Q E s
theorem loop_min (W : Walks prog w A.in1 I fp wr n P St) (bt : Nat → Nat → Bool) (B : Heap) (hcmp : LtIn prog w A.in1 B P bt) (S : Addr) (hSf : S ∉ fp) (hB : ∀ b o, B.get? b = some o → b ∉ wr ∧ b ≠ S) (m : Nat) :
    ∀ (j : Nat) (s : Shared) (vb : Value) (c : Nat), n - (j + 1) = m → j + 1 ≤ n → St (j + 1) s.heap → (∀ b o, B.get? b = some o → s.heap.get? b = some o) → P (argBest bt j) vb →
    s.heap.get? S = some { cls := .type "list", dict := none, data := .seq #[vb, vb] c, slots := #[] } →
    (∀ v h1 tk, P (argBest bt (n - 1)) v → (∀ b o, b ∉ wr → b ≠ S → s.heap.get? b = some o → h1.get? b = some o) → R (.ok (.ret v)) { s with heap := h1, toks := tk }) →
    codeAny (model prog w) A (.builtin "min.loop" ⟨[.ref I, .none, .ref S], []⟩) R s := by
  have nw : S ∉ wr := fun z => hSf (W.sub _ z)
  have nm : (toString "min" ++ toString ".loop" : String) = "min.loop" := by decide
  induction m with
  | zero =>
    intro j s vb c e1 e2 e3 kB pb eS q
    have ej : j + 1 = n := by omega
    refine codeAny_builtin F.entry_min_loop ?_
    rw [Around.under_plainId F.plain_min_loop _]
    show wpAny (model prog w) A.in1 (seqItems? (.ref S) >>= _) _ _ s
    refine wpAny_bind (wpAny_seqItems eS rfl ?_)
    show wpAny (model prog w) A.in1 (tryCatch (pyNext (.ref I)) _ >>= _) _ _ s
    refine wpAny_bind (wpAny_tryCatch (W.done s _ _ (ej ▸ e3) fun h1 tk k1 => ?_))
    have eS1 := k1 S _ nw eS
    show wpAny (model prog w) A.in1 (updateSeq S (fun _ => #[]) >>= _) _ _ _
    refine wpAny_bind ?_
    refine wpAny_updateSeq eS1 rfl (wpAny_bind (wpAny_letGo (wpAny_pure ?_)))
    exact q vb _ tk (by rw [← ej]; exact pb) fun b o h2 h3 e => (Heap.get?_update_other _ _ (Ne.symm h3)).trans (k1 b o h2 e)
  | succ m ih =>
    intro j s vb c e1 e2 e3 kB pb eS q
    have lt : j + 1 < n := by omega
    refine codeAny_builtin F.entry_min_loop ?_
    rw [Around.under_plainId F.plain_min_loop _]
    show wpAny (model prog w) A.in1 (seqItems? (.ref S) >>= _) _ _ s
    refine wpAny_bind (wpAny_seqItems eS rfl ?_)
    show wpAny (model prog w) A.in1 (tryCatch (pyNext (.ref I)) _ >>= _) _ _ s
    refine wpAny_bind (wpAny_tryCatch (W.item (j + 1) s _ _ lt e3 fun v h1 tk pv st1 k1 => ?_))
    have eS1 := k1 S _ nw eS
    have kB1 : ∀ b o, B.get? b = some o → h1.get? b = some o := fun b o e => k1 b o (hB b o e).1 (kB b o e)
    show wpAny (model prog w) A.in1 (tryCatch (holding [v, v] (richCompare .Lt v vb >>= _)) _ >>= _) _ _ _
    refine wpAny_bind (wpAny_tryCatch (wpAny_holding (wpAny_bind (hcmp (j + 1) (argBest bt j) v vb _ _ _ kB1 pv pb ?_))))
    refine wpAny_bind (wpAny_holding (wpAny_truthy_bool ?_))
    refine wpAny_bind (wpAny_letGo (wpAny_pure ?_))
    cases hb : bt (j + 1) (argBest bt j) with
    | true =>
      simp only [if_true]
      refine wpAny_bind ?_
      refine wpAny_updateSeq eS1 rfl (wpAny_bind (wpAny_letGo ?_))
      rw [nm]
      refine wpAny_pure ⟨plainId_quiet F.plain_min_loop _, ih (j + 1) _ v _ (by omega) lt (W.frame _ _ _ st1 fun b h2 o e => ?_) (fun b o e => ?_) (by simp only [argBest, hb, if_true]; exact pv) (Heap.get?_update_self _ eS1 rfl) fun v' h2 tk2 pv' k2 => ?_⟩
      · exact (Heap.get?_update_other _ _ (fun z : S = b => hSf (by rw [z]; exact h2))).trans e
      · exact (Heap.get?_update_other _ _ (Ne.symm (hB b o e).2)).trans (kB1 b o e)
      · exact q v' h2 tk2 pv' fun b o h3 h4 e => k2 b o h3 h4 ((Heap.get?_update_other _ _ (Ne.symm h4)).trans (k1 b o h3 e))
    | false =>
      simp only [Bool.false_eq_true, if_false]
      refine wpAny_bind (wpAny_letGo ?_)
      rw [nm]
      refine wpAny_pure ⟨plainId_quiet F.plain_min_loop _, ih (j + 1) _ vb c (by omega) lt st1 kB1 (by simp only [argBest, hb, Bool.false_eq_true, if_false]; exact pb) eS1 fun v' h2 tk2 pv' k2 => ?_⟩
      exact q v' h2 tk2 pv' fun b o h3 h4 e => k2 b o h3 h4 (k1 b o h3 e)
theorem loop_min0 (W : Walks prog w A.in1 I fp wr n P St) (bt : Nat → Nat → Bool) (B : Heap) (hcmp : LtIn prog w A.in1 B P bt) (S : Addr) (hSf : S ∉ fp) (hB : ∀ b o, B.get? b = some o → b ∉ wr ∧ b ≠ S) (hn : 0 < n) {s : Shared} {c : Nat} (st : St 0 s.heap) (kB : ∀ b o, B.get? b = some o → s.heap.get? b = some o)
    (eS : s.heap.get? S = some { cls := .type "list", dict := none, data := .seq #[] c, slots := #[] })
    (q : ∀ v h1 tk, P (argBest bt (n - 1)) v → (∀ b o, b ∉ wr → b ≠ S → s.heap.get? b = some o → h1.get? b = some o) → R (.ok (.ret v)) { s with heap := h1, toks := tk }) :
    codeAny (model prog w) A (.builtin "min.loop" ⟨[.ref I, .none, .ref S], []⟩) R s := by
  have nw : S ∉ wr := fun z => hSf (W.sub _ z)
  have nm : (toString "min" ++ toString ".loop" : String) = "min.loop" := by decide
  refine codeAny_builtin F.entry_min_loop ?_
  rw [Around.under_plainId F.plain_min_loop _]
  show wpAny (model prog w) A.in1 (seqItems? (.ref S) >>= _) _ _ s
  refine wpAny_bind (wpAny_seqItems eS rfl ?_)
  show wpAny (model prog w) A.in1 (tryCatch (pyNext (.ref I)) _ >>= _) _ _ s
  refine wpAny_bind (wpAny_tryCatch (W.item 0 s _ _ hn st fun v h1 tk pv st1 k1 => ?_))
  have eS1 := k1 S _ nw eS
  show wpAny (model prog w) A.in1 (updateSeq S (fun _ => #[v, v]) >>= _) _ _ _
  refine wpAny_bind ?_
  refine wpAny_updateSeq eS1 rfl ?_
  rw [nm]
  refine wpAny_pure ⟨plainId_quiet F.plain_min_loop _, loop_min W bt B hcmp S hSf hB _ 0 _ v _ rfl hn (W.frame _ _ _ st1 fun b h2 o e => ?_) (fun b o e => ?_) pv (Heap.get?_update_self _ eS1 rfl) fun v' h2 tk2 pv' k2 => ?_⟩
  · exact (Heap.get?_update_other _ _ (fun z : S = b => hSf (by rw [z]; exact h2))).trans e
  · exact (Heap.get?_update_other _ _ (Ne.symm (hB b o e).2)).trans (k1 b o (hB b o e).1 (kB b o e))
  · exact q v' h2 tk2 pv' fun b o h3 h4 e => k2 b o h3 h4 ((Heap.get?_update_other _ _ (Ne.symm h4)).trans (k1 b o h3 e))
end
section
variable {prog : Program} {w : World} {A : Around} {E : Value → Shared → Prop} {s : Shared}
/-- min(xs), xs a list whose items are compared alike while they stand -/
theorem min_of_list {l : Addr} {items : Array Value} {Q : Value → Shared → Prop} (hh : A.handled = none) (hl : s.heap.IsList l items) (bt : Nat → Nat → Bool) (hcmp : LtIn prog w A.in1 s.heap (fun i v => items[i]? = some v) bt) (hn : 0 < items.size)
    (q : ∀ v h1 tk, items[argBest bt (items.size - 1)]? = some v → (∀ b o, s.heap.get? b = some o → h1.get? b = some o) → Q v { s with heap := h1, toks := tk }) : wpAny (model prog w) A (call (.builtin "min") [.ref l]) Q E s := by
  have nm : (toString "min" ++ toString ".loop" : String) = "min.loop" := by decide
  have hlt : l < s.heap.objs.size := by obtain ⟨_, e, _⟩ := hl; exact Heap.lt_size e
  refine call_function_tree F.kind_min F.plain_min F.entry_min (F.args_min1 _) ?_
  show wpAny (model prog w) A.in1 (Builtin.Builtins.bindParams "min" ["key", "default"] 0 ⟨[], []⟩ >>= _) _ _ s
  refine wpAny_bind (wpAny_of_eq (show Builtin.Builtins.bindParams "min" ["key", "default"] 0 ⟨[], []⟩ = pure [none, none] from rfl) ?_)
  refine wpAny_bind (wpAny_pure ?_)
  refine wpAny_bind (wpAny_pyIter_list hl ?_)
  have st0 : (s.heap.push { cls := .type "list_iterator", data := .fields #[.ref l, .int 0 0] }).IsListIter s.heap.objs.size l 0 := ⟨_, Heap.get?_push_size _ rfl, rfl, rfl⟩
  refine wpAny_bind (wpAny_newObj_type ?_)
  rw [nm]
  have hl1 : (s.heap.push { cls := .type "list_iterator", data := .fields #[.ref l, .int 0 0] }).IsList l items := hl.push _
  have hl2 := hl1.push { cls := .type "list", data := .seq #[] }
  have W := Walks.list (A := A.in1) (prog := prog) (w := w) hh s.heap.objs.size l (Nat.ne_of_lt hlt) items
  have hsz : (s.heap.push { cls := .type "list_iterator", data := .fields #[.ref l, .int 0 0] }).objs.size = s.heap.objs.size + 1 := Heap.size_push ..
  refine wpAny_pure ⟨plainId_quiet F.plain_min_loop _, loop_min0 W bt s.heap hcmp _ (fun hm => ?_) (fun b o e => ?_) hn (W.frame 0 _ _ ⟨st0, hl1⟩ fun b _ o e => Heap.get?_push_of_some _ e) (fun b o e => Heap.get?_push_of_some _ (Heap.get?_push_of_some _ e)) (Heap.get?_push_size _ rfl) fun v h1 tk pv k1 => ?_⟩
  · rcases List.mem_cons.mp hm with e | hm
    · exact absurd (hsz.symm.trans e) (Nat.succ_ne_self _)
    · exact absurd (hsz.symm.trans (List.mem_singleton.mp hm)) (Nat.ne_of_gt (Nat.lt_succ_of_lt hlt))
  · have hb := Heap.lt_size e
    exact ⟨fun hm => absurd (List.mem_singleton.mp hm) (Nat.ne_of_lt hb), fun z => absurd (z.trans hsz) (Nat.ne_of_lt (Nat.lt_succ_of_lt hb))⟩
  · refine q v h1 tk pv fun b o e => ?_
    have hb := Heap.lt_size e
    exact k1 b o (fun hm => absurd (List.mem_singleton.mp hm) (Nat.ne_of_lt hb)) (fun z => absurd (z.trans hsz) (Nat.ne_of_lt (Nat.lt_succ_of_lt hb))) (Heap.get?_push_of_some _ (Heap.get?_push_of_some _ e))
end
/-! over the layer: a list of pairs of ints -/
section
variable {X : Cx}
/-- min(xs): the first least one -/
def rMinP (K : PySem.W.Frag) : List V → Hp → VK → Prop := fun vs H Q => ∃ (a : Addr) (xs : List V) (k : Nat → List Int), vs = [.ref a] ∧ SqL K H a xs ∧ (∀ i x, xs[i]? = some x → ∃ t, x = .ref t ∧ SqT K H t ((k i).map V.int)) ∧ 0 < xs.length ∧
  ∀ x, xs[argBest (fun i j => HT.lexLt (k i) (k j)) (xs.length - 1)]? = some x → Q x H
theorem cr_minP (hc : X.calm = true) (hu : X.A.units + 1 < cLine) : CallR X (.builtin "min") (rMinP X.K) := by
  intro pins s σ H vs us Q I r h
  obtain ⟨a, xs, k, rfl, hs, hx, hn, q⟩ := h
  obtain ⟨u, rfl, ru⟩ := vals1 r
  have eu : u = Value.ref a := ru
  subst eu
  obtain ⟨its, rv, pl, hz⟩ := I.list hs
  have hl := rv.length
  refine min_of_list (I.ok.hd hc) pl.isList (fun i j => HT.lexLt (k i) (k j)) ?_ (by simpa using (by omega : 0 < its.length)) fun v h1 tk pv k1 => ?_
  · intro i j vi vj s' Q' E' kB hi hj hq
    have at_ : ∀ i vi, its.toArray[i]? = some vi → ∃ (t : Addr) (its2 : Array Value), vi = .ref t ∧ IsTup s'.heap t its2 ∧ IntsAre its2.toList (k i) := fun i vi hi => by
      have hi' : its[i]? = some vi := by simpa using hi
      have hlt : i < xs.length := by rw [hl]; exact (List.getElem?_eq_some_iff.mp hi').1
      obtain ⟨w', hw, rw'⟩ := rv.get (List.getElem?_eq_getElem hlt)
      rw [hi'] at hw; cases hw
      obtain ⟨t, et, ht⟩ := hx i _ (List.getElem?_eq_getElem hlt)
      rw [et] at rw'
      have e : vi = .ref t := rw'
      subst e
      obtain ⟨its2, r2, p2, _⟩ := I.tuple ht
      obtain ⟨o, ho, c, n, d⟩ := p2
      exact ⟨t, its2.toArray, rfl, ⟨o, kB _ _ ho, c, n, d⟩, intsAre_of r2⟩
    obtain ⟨t, a1, rfl, p1, i1⟩ := at_ i vi hi
    obtain ⟨u, a2, rfl, p2, i2⟩ := at_ j vj hj
    exact HT.lt_tupInts p1 p2 i1 i2 (by show X.A.in1.units < cLine; have : X.A.in1.units = X.A.units + 1 := rfl; omega) hq
  · have hsz : its.toArray.size = xs.length := by rw [List.size_toArray]; exact hl.symm
    rw [hsz] at pv
    have hi' : its[argBest (fun i j => HT.lexLt (k i) (k j)) (xs.length - 1)]? = some v := by simpa using pv
    have hlt : argBest (fun i j => HT.lexLt (k i) (k j)) (xs.length - 1) < xs.length := Nat.lt_of_lt_of_eq (List.getElem?_eq_some_iff.mp hi').1 hl.symm
    obtain ⟨w', hw, rw'⟩ := rv.get (List.getElem?_eq_getElem hlt)
    rw [hi'] at hw; cases hw
    exact ⟨_, H, I.kept (t' := tk) k1, rw', q _ (List.getElem?_eq_getElem hlt)⟩
end
end PDM
namespace PDM
open PySem PySem.Spec PyProof.Rows L2 HotX
section
variable {prog : Program} {w : World} {A : Around} {E : Value → Shared → Prop} {s : Shared}
theorem next_list_end_hot {it l x1 : Addr} {i : Nat} {items : Array Value} {Q : Option Value → Shared → Prop} (hot : HotAt A x1 s.heap) (hne : x1 ≠ it) (hit : s.heap.IsListIter it l i) (hl : s.heap.IsList l items) (hx : items[i]? = none)
    (q : ∀ h1, (∀ b o, b ≠ it → s.heap.get? b = some o → h1.get? b = some o) → Q none { s with heap := h1 }) : wpAny (model prog w) A (pyNext (.ref it)) Q E s := by
  obtain ⟨o, ho, hc, hd⟩ := id hit
  obtain ⟨ol, hol, _, nl, hdl⟩ := hl
  obtain ⟨hh, o1, vs1, h1, d1, c1⟩ := hot
  unfold pyNext
  refine wpAny_bind (wpAny_attempt (wpAny_callSpecial?_slot (name := Str.ofString "__next__") hit.typeIs slot_listiter_next (wpAny_call_entry slot_listiter_next hit.typeIs entry_listiter_next ?_ (args_listiter_next _))))
  show wpAny (model prog w) A.in1 (field (.ref it) 0 >>= _) _ _ s
  refine wpAny_bind (wpAny_field ho hd (x := .ref l) rfl ?_)
  show wpAny (model prog w) A.in1 (if (Value.ref l == Value.none) = true then _ else _) _ _ s
  rw [if_neg (show ¬ ((Value.ref l == Value.none) = true) from Bool.false_ne_true)]
  show wpAny (model prog w) A.in1 (field (.ref it) 1 >>= _) _ _ s
  refine wpAny_bind (wpAny_field ho hd (x := .int i 0) rfl ?_)
  show wpAny (model prog w) A.in1 (seqItems? (.ref l) >>= _) _ _ s
  refine wpAny_bind (wpAny_seqItems hol hdl ?_)
  simp only [Int.toNat_natCast, hx]
  refine wpAny_bind (wpAny_rule (wpAny_bind (wpAny_setField ho hd (by simp) ?_)))
  show wpAny (model prog w) A.in1 (newExc (.type "StopIteration") [] >>= _) _ _ _
  refine wpAny_bind ?_
  simp only [newExc, newTuple]
  refine wpAny_bind (wpAny_newObj_type ?_ (by size_fits))
  refine wpAny_bind (m := firstArgMember _ _) (wpAny_of_eq (a := Value.none) (by first | rfl | (simp only [firstArgMember]; rfl)) ?_)
  refine wpAny_newObj_type ?_ (by size_fits)
  have k0 : ∀ b o', b ≠ it → s.heap.get? b = some o' → (s.heap.update it (Obj.mapFields (·.setIfInBounds 0 Value.none))).get? b = some o' := fun b o' hb e => (Heap.get?_update_other _ _ (Ne.symm hb)).trans e
  have e1 := k0 x1 o1 hne h1
  refine raiseNew_hot (A := A.in1) ⟨hh, o1, vs1, Heap.get?_push_of_some _ (Heap.get?_push_of_some _ e1), d1, c1⟩ (Nat.ne_of_lt (Heap.lt_size (Heap.get?_push_of_some _ e1))) (Heap.get?_push_size _ rfl) rfl (by first | (simp; done) | (simp; omega) | (simp only [Array.size_append]; simp; omega)) ?_
  refine wpAny_bind (wpAny_isInstance (T := "StopIteration") (b := true) ⟨_, Heap.get?_update_self _ (Heap.get?_push_size _ rfl) rfl, rfl⟩ isSubtype_stop ?_)
  refine wpAny_pure (q _ fun b o' hb e => ?_)
  have e2 := Heap.get?_push_of_some { cls := .type "tuple", data := .seq ([] : List Value).toArray } (k0 b o' hb e)
  rw [Heap.get?_update_other _ _ (Nat.ne_of_gt (Heap.lt_size e2))]
  exact Heap.get?_push_of_some _ e2
end
end PDM
namespace PDM
open PySem PySem.Spec PyProof.Rows L2 HotX
section
variable {X : Cx}
theorem item_listH {tg : Expr} {a it : Addr} {i : Nat} {pins : List (Addr × Obj)} {s : Shared} {σ : L2.St} {H : Hp} {E : Value → Shared → Prop} (I : Inv X pins σ H s) (hf : FpOk X pins H it) (st : s.heap.IsListIter it a i) (hg : (Itl X.K a).go i H) :
    wpAny (model X.prog X.w) X.A (pyNext (.ref it)) (fun r s1 => ∃ u, r = some u ∧ wpAny (model X.prog X.w) X.A (letOwnedTupleGo tg (.ref it) u) (fun _ s2 => ∃ x H', Inv X pins σ H' s2 ∧ RelV x u ∧ (Itl X.K a).yld i H x H' ∧ s2.heap.IsListIter it a (i + 1) ∧ H' it = none) E s1) E s := by
  obtain ⟨xs, x, hq, hx⟩ := hg
  obtain ⟨its, rv, pl, hz⟩ := I.list hq
  obtain ⟨u, hu, ru⟩ := rv.get hx
  obtain ⟨f0, f1, f2, f3, f4, f5⟩ := hf
  refine wpAny_pyNext_list_item st pl.isList (x := u) (by simpa using hu) fun h1 st1 sb => ?_
  have I1 : Inv X pins σ H { s with heap := h1 } := I.turned (t' := s.toks) (fun b o hb e => (sb.2 b hb).trans e) f0 f1 f3 f4 f5
  obtain ⟨o, e, c, d⟩ := id st1
  exact ⟨u, rfl, go_of (s := { s with heap := h1 }) e c d (by decide) ⟨x, H, I1, ru, ⟨rfl, fun ys hy => by rw [I.list_inj hy hq]; exact hx⟩, st1, f0⟩⟩
theorem done_listH {a it x1 : Addr} {i : Nat} {pins : List (Addr × Obj)} {s : Shared} {σ : L2.St} {H : Hp} {E : Value → Shared → Prop} (hot : HotAt X.A x1 s.heap) (hne : x1 ≠ it) (I : Inv X pins σ H s) (hf : FpOk X pins H it) (st : s.heap.IsListIter it a i) (hg : (Itl X.K a).stop i H) :
    wpAny (model X.prog X.w) X.A (pyNext (.ref it)) (fun r s1 => r = none ∧ Inv X pins σ H s1) E s := by
  obtain ⟨xs, hq, hx⟩ := hg
  obtain ⟨its, rv, pl, hz⟩ := I.list hq
  obtain ⟨f0, f1, f2, f3, f4, f5⟩ := hf
  have hl := rv.length
  exact next_list_end_hot hot hne st pl.isList (by simp; omega) fun h1 eb => ⟨rfl, I.turned (t' := s.toks) (fun b o hb e => eb b o hb e) f0 f1 f3 f4 f5⟩
/-- [elt for tg in iter if ..] over a list, within an except suite's call -/
theorem pe_lcH {elt tg iter : Expr} {ifs : List Expr} {scope : Scope} {own : List (Str × Nat)} {pos : Pos} {tl : TE} {g : TG} {tt : TT} {te : TE} (hot : L2H.HotC X) (hN : X.N.Nodup) (hi : PE X iter tl) (ok : BlkOk X.N X.env.scope scope own)
    (hg : ∀ (s : Shared) (H : Hp) (C : Addr) (cl : List (Str × Addr)) (fp : List Addr), PG (X.blk s H scope (compEnvC scope cl C X.env) fp) tg g) (ht : ∀ (s : Shared) (H : Hp) (C : Addr) (cl : List (Str × Addr)) (fp : List Addr), PTs (X.blk s H scope (compEnvC scope cl C X.env) fp) ifs tt)
    (he : ∀ (s : Shared) (H : Hp) (C : Addr) (cl : List (Str × Addr)) (fp : List Addr), PE (X.blk s H scope (compEnvC scope cl C X.env) fp) elt te) (hs : ∀ x, foldedSetIterable iter X.env x = pure x := by intro _; rfl) :
    PE X (.ListComp elt [⟨tg, iter, ifs, 0⟩] scope pos) (tLc (iList X.K tl) g tt te (own.map (·.2))) := by
  constructor
  intro pins s σ H Q I h
  rw [eval_ListComp]
  obtain ⟨p, ⟨hh, v1, d1, c1⟩, hpn⟩ := hot
  have hfree : ∀ y ∈ scope.names, y.2 = .free → ∃ c, X.env.cells.lookup y.1 = some c := fun y hy e => (ok.free y hy e).elim (fun k => I.ok.has _ (.inl k)) fun k => I.ok.has _ (.inr k)
  refine wpAny_comprehension_free (use := none) rfl hs (closure_ok hfree) ok.kind (fun y hy e => by rw [ok.uniq y hy, e]) (thn (hi.run pins s σ H _ I h) fun xv s1 ⟨xw, H2, I1, r1, a, ea, ⟨xs, hq⟩, q⟩ => ?_)
  subst ea
  have exv : xv = Value.ref a := r1
  subst exv
  obtain ⟨its, rv, pl, hz⟩ := I1.list hq
  refine wpAny_pyIter_list pl.isList ?_
  -- the iterator
  generalize hit : s1.heap.objs.size = it
  generalize hs2 : ({ s1 with heap := s1.heap.push { cls := .type "list_iterator", data := .fields #[.ref a, .int 0 0] } } : Shared) = s2
  have I2 : Inv X pins σ H2 s2 := by
    rw [← hs2]
    exact I1.kept (t' := s1.toks) fun b o e => Heap.get?_push_of_some _ e
  have st2 : s2.heap.IsListIter it a 0 := by
    rw [← hs2, ← hit]
    exact ⟨_, Heap.get?_push_size _ rfl, rfl, rfl⟩
  have f2 : FpOk X pins H2 it := by
    rw [← hit]
    exact I1.fpOk (Nat.le_refl _) (I1.hok.fresh (Nat.le_refl _))
  refine wpAny_newObj_type (newEnv_comp ?_) (by show 0 ≤ sizeLine; decide)
  generalize hD : s2.heap.objs.size = D
  have hDn : H2 D = none := I2.hok.fresh (Nat.le_of_eq hD)
  obtain ⟨W, ⟨m0, w0⟩, turn⟩ := q D hDn
  generalize hs3 : ({ s2 with heap := s2.heap.push { cls := .type "list", data := .seq ([] : List Value).toArray } } : Shared) = s3
  have I3 : Inv X pins σ (upd H2 D (.lst [])) s3 := by
    rw [← hs3]
    refine I2.laid (t' := s2.toks) (fun b o e => Heap.get?_push_of_some _ e) (Nat.le_of_eq hD) ⟨Nat.zero_le _, [], 0, .nil, ?_⟩
    rw [← hD]
    exact Heap.get?_push_size _ rfl
  have h3 : s3.heap = s2.heap.push { cls := .type "list", data := .seq ([] : List Value).toArray } := by rw [← hs3]
  have itlt : it < s2.heap.objs.size := by obtain ⟨o, e, _⟩ := st2; exact Heap.lt_size e
  have f3 : FpOk X pins (upd H2 D (.lst [])) it ∧ it < s3.heap.objs.size := by
    refine ⟨⟨?_, f2.2⟩, by rw [h3, Heap.size_push]; exact Nat.lt_succ_of_lt itlt⟩
    rw [upd_ne (by rw [← hD]; exact Nat.ne_of_lt itlt)]
    exact f2.1
  have st3 : s3.heap.IsListIter it a 0 := by
    obtain ⟨o, e, z⟩ := st2
    exact ⟨o, by rw [h3]; exact Heap.get?_push_of_some _ e, z⟩
  have f3' : ∀ b ∈ [it], FpOk X pins (upd H2 D (.lst [])) b ∧ b < s3.heap.objs.size := fun b hb => by rw [List.mem_singleton.mp hb]; exact f3
  have I4 := block_start I3 ok hN f3'
  have pg := hg s3 (upd H2 D (.lst [])) s3.heap.objs.size (cellsFrom (s3.heap.objs.size + 1) scope.names (cloFrom X.env.cells scope.names [])) [it]
  have pt := ht s3 (upd H2 D (.lst [])) s3.heap.objs.size (cellsFrom (s3.heap.objs.size + 1) scope.names (cloFrom X.env.cells scope.names [])) [it]
  have pe := he s3 (upd H2 D (.lst [])) s3.heap.objs.size (cellsFrom (s3.heap.objs.size + 1) scope.names (cloFrom X.env.cells scope.names [])) [it]
  show codeAny _ _ (.compStart (.ListComp elt [⟨tg, iter, ifs, 0⟩] scope pos) 0 (.ref it) (.ref D) (compEnvC scope (cellsFrom (s3.heap.objs.size + 1) scope.names (cloFrom X.env.cells scope.names [])) s3.heap.objs.size X.env)) (compPost (model X.prog X.w) X.A X.xe none (EP X pins σ Q) (.ref D) s3.heap.objs.size) { s3 with heap := pushCells (s3.heap.push { cls := .type "dict", data := .dict #[] }) scope.names }
  generalize hce : compEnvC scope (cellsFrom (s3.heap.objs.size + 1) scope.names (cloFrom X.env.cells scope.names [])) s3.heap.objs.size X.env = ce at I4 pg pt pe ⊢
  have cL : ce.locals = s3.heap.objs.size := by subst hce; rfl
  -- the handled exception stands where the block starts
  have P3 := I3.pin p (List.mem_append_left _ hpn)
  have pfr : p.1 ∉ frs X.stack := fun hm => (List.mem_cons.mp (I3.stkSub p.1 hm)).elim P3.2.2.1 P3.2.2.2.1
  have pit : p.1 ≠ it := fun z => f2.2.2.2.2.2 p (List.mem_append_left _ hpn) z
  generalize hH3 : upd H2 D (.lst []) = H3 at I3 I4 pg pt pe w0 f3 f3' P3
  generalize hs4 : ({ s3 with heap := pushCells (s3.heap.push { cls := .type "dict", data := .dict #[] }) scope.names } : Shared) = s4 at I4 ⊢
  have st4 : s4.heap.IsListIter it a 0 := by
    obtain ⟨o, e, z⟩ := st3
    exact ⟨o, by rw [← hs4]; exact pushCells_keeps _ _ _ _ (Heap.get?_push_of_some _ e), z⟩
  have stat : ∀ {σ' : L2.St} {H' : Hp} {s' : Shared}, Inv (X.blk s3 H3 scope ce [it]) [] σ' H' s' → H' it = none → FpOk (X.blk s3 H3 scope ce [it]) [] H' it := fun {σ' H' s'} I' hn =>
    ⟨hn, (I'.ok.exf it (by simp)).1, I'.ok.exfs it (by simp), .inl (by simp), fun x c e => (I'.ok.exf it (by simp)).2 x c e, fun p hp => absurd (show p ∈ ([] : List (Addr × Obj)) ++ [] from hp) (by simp)⟩
  have hotAt : ∀ {σ' : L2.St} {H' : Hp} {s' : Shared}, Inv (X.blk s3 H3 scope ce [it]) [] σ' H' s' → HotAt X.A p.1 s'.heap := fun {σ' H' s'} I' =>
    ⟨hh, p.2, v1, I'.base.keep p.1 p.2 P3.1 P3.2.1 pfr (by simpa using pit), d1, c1⟩
  have loop : codeAny (model X.prog X.w) X.A (.compLoop (.ListComp elt [⟨tg, iter, ifs, 0⟩] scope pos) 0 (.ref it) (.ref D) ce) (compPost (model X.prog X.w) X.A X.xe none (EP X pins σ Q) (.ref D) s3.heap.objs.size) s4 := by
    refine compLoop_any (fun n s' => ∃ i H', Inv (X.blk s3 H3 scope ce [it]) [] (wipe σ (own.map (·.2))) H' s' ∧ s'.heap.IsListIter it a i ∧ H' it = none ∧ W i n H') ?_ m0 ⟨0, H3, I4, st4, f3.1.1, w0⟩
    rintro n s5 ⟨i, H5, I5, st5, n5, w5⟩
    rcases turn i n H5 w5 with ⟨stop, qq⟩ | ⟨go, Nx, hNx, step⟩
    · refine thnF (done_listH (X := X.blk s3 H3 scope ce [it]) (hotAt I5) pit I5 (stat I5 n5) st5 stop) fun r s6 ⟨hr, I6⟩ => ?_
      subst hr
      have I7 : Inv X pins σ H5 s6 := I3.call' (ch := [it]) I6.os I6.base I6.hok I6.bare fun b hb => by
        have z := (f3' b hb).1
        exact ⟨z.2.2.2.1, z.2.1, z.2.2.2.2.1, z.2.2.2.2.2⟩
      have nC : H5 s3.heap.objs.size = none := by
        have z : H5 ce.locals = none := I6.free
        rw [cL] at z
        exact z
      obtain ⟨m, hn, _⟩ := I6.loc
      have hn : s6.heap.Ns ce.locals m := hn
      rw [cL] at hn
      refine ⟨m, hn, fun h'' sb => ?_⟩
      obtain ⟨g0, g1, g2, g3, g4, g5⟩ := I3.fpOk (Nat.le_refl _) nC
      exact ⟨.ref D, H5, I7.turned (t' := s6.toks) (fun b o hb e => (sb.2 b hb).trans e) g0 g1 g3 g4 g5, rfl, qq⟩
    · refine thnF (item_listH (X := X.blk s3 H3 scope ce [it]) (tg := tg) I5 (stat I5 n5) st5 go) fun r s6 ⟨u, hr, h6⟩ => ?_
      subst hr
      refine thnF h6 fun _ s7 ⟨x, H7, I7, r7, y7, st7, n7⟩ => ?_
      have ob7 : ∀ b ∈ [it], ∃ o, s7.heap.get? b = some o ∧ ∀ v, o.data ≠ .cell v := fun b hb => by
        rw [List.mem_singleton.mp hb]
        obtain ⟨o, e, c, d⟩ := st7
        exact ⟨o, e, fun v z => by rw [d] at z; cases z⟩
      have I7' := I7.pinned (fp := [it]) (fun b hb => by rw [List.mem_singleton.mp hb]; exact stat I7 n7) ob7
      refine thnF (pg.run _ s7 _ H7 x u _ I7' r7 (step x H7 y7)) fun _ s8 ⟨σ8, H8, I8, hw8, q8⟩ => ?_
      refine thnF (pt.run _ s8 σ8 H8 _ I8 q8) fun b s9 ⟨H9, I9, q9⟩ => ?_
      have fin : ∀ {s' : Shared} {H' : Hp}, Inv (X.blk s3 H3 scope ce [it]) ([] ++ pinsAt [it] s7.heap) σ8 H' s' → Nx H' → ∃ m, m < n ∧ ∃ i H', Inv (X.blk s3 H3 scope ce [it]) [] (wipe σ (own.map (·.2))) H' s' ∧ s'.heap.IsListIter it a i ∧ H' it = none ∧ W i m H' := fun {s' H'} I' nx => by
        obtain ⟨m', hm, w'⟩ := hNx H' nx
        obtain ⟨o, e, cd⟩ := st7
        have z := I'.pin (it, o) (List.mem_append_right _ (List.mem_append_right _ (mem_pinsAt (by simp) e)))
        have hl : (wipe σ (own.map (·.2))).length = σ8.length := by rw [← hw8, wipe_length]
        exact ⟨m', hm, i + 1, H', (I'.unpinned (pins := [])).weak hl (fun j v e => by rw [← hw8] at e; exact (wipe_some e).1), ⟨o, z.1, cd⟩, z.2.1, w'⟩
      cases b with
      | false =>
        simp only [Bool.false_eq_true, if_false] at q9 ⊢
        exact fin I9 q9
      | true =>
        simp only [if_true] at q9 ⊢
        refine thnF (pe.run _ s9 σ8 H9 _ I9 q9) fun z s10 ⟨yv, H10, I10, r10, acc, hD10, hz10, nx⟩ => ?_
        exact app_ok (X := X.blk s3 H3 scope ce [it]) I10 hD10 hz10 r10 fun s11 I11 => fin I11 nx
  exact codeAny_compStart_list loop (wpAny_pyIter_listiter st4 loop)
end
end PDM
namespace PDM
open PySem PySem.Spec PyProof.Rows L2 HotX L2H
/-! a def that is called within an except suite, its promise by the exception that is handled -/
structure FnP (P : Program) (w : World) (K : PySem.W.Frag) (mg : Str → Option Value) (base : Heap) (CX : CXT) (k : Nat) (f : Addr) (fd : FuncData) (ps : List Str) (sp : Addr × Obj → Sp) : Prop where
  len : ∀ p vs H Q E, sp p vs H Q E → vs.length = ps.length
  run : ∀ (A : Around) (outer : List Env) (s : Shared) (H : Hp) (args : Args) (us : List Value) (vs : List V) (Q : VK) (E : XK) (p : Addr × Obj), RoomH k A → Hot1 A p → PinOk outer H s p → Env0 P w K mg base A outer s H → BindsTo s fd args (ps.zip us) → Vals vs us → sp p vs H Q E →
    codeAny (model P w) A (.call (.ref f) args) (CR CX outer P w H s Q E) s
theorem fnp_of {CX : CXT} {P : Program} {w : World} {K : PySem.W.Frag} {mg : Str → Option Value} {base : Heap} {k : Nat} {f : Addr} {name qual : Str} {params : Arguments} {body : List Stmt} {scope : Scope} {dV kV doc pm cdv ct oc : Value} {an od : Option Addr}
    {osl : Array (Option Value)} {N ps : List Str} {sp : Addr × Obj → Sp} (lk : K.lookup f = some ⟨oc, od, .func (PySem.W.fnOf name qual params body scope dV kV doc pm an cdv ct), osl⟩) (hcd : PySem.W.codeIn K cdv qual = true) (S : FnScope N ps scope)
    (len : ∀ p vs H Q E, sp p vs H Q E → vs.length = ps.length)
    (hbody : ∀ (A : Around) (outer : List Env) (s : Shared) (H : Hp) (vs : List V) (Q : VK) (E : XK) (p : Addr × Obj), Hot1 A p → RoomH k (A.deeper (envOfC qual scope s.heap.objs.size f cdv)) → sp p vs H Q E →
      ∃ t, PSs (cxH CX P w K mg base N qual scope f cdv A outer s H E p) body t ∧ t { nx := fun _ H' => Q .non H', rt := Q } (L2.start N vs) H) :
    FnP P w K mg base CX (k + 1) f (PySem.W.fnOf name qual params body scope dV kV doc pm an cdv ct) ps sp := by
  constructor
  · exact len
  intro A outer s H args us vs Q E p hr hot hpin e0 hb r hsp
  have hl := len _ _ _ _ _ hsp
  have kin : K.In s.heap := e0.mod.kin.keeps fun b o e => (e0.bs b o e).1
  have nol : s.heap.NoLimit := e0.mod.nolimit.keeps fun b o e => (e0.bs b o e).1
  have kinds : ∀ y ∈ ps.zip us, scope.names.lookup y.1 = some .local ∨ (scope.names.lookup y.1 = some .cell ∧ ((cellsFrom (s.heap.objs.size + 1) scope.names []).lookup y.1).isSome = true) := fun y hy =>
    (S.par y.1 (List.of_mem_zip (show (y.1, y.2) ∈ ps.zip us from hy)).1).elim .inl fun q => .inr ⟨q, PySem.W.cellsFrom_some _ _ _ (.inl q)⟩
  refine codeAny_call_function hr.depth (kin _ _ lk) rfl S.co S.gen rfl (PySem.W.codeRec_of kin hcd) (hb _ _ _ _ (wpAny_newFunctionEnv_cells S.kind kinds fun env he s1 x => ?_))
  subst he
  refine ⟨nol.keeps x.toInCall.keep, codeAny_func ?_⟩
  obtain ⟨t, ht, hq⟩ := hbody A outer s H vs Q E p hot (hr.deeper _) hsp
  have I := inv_startH (CX := CX) (P := P) (w := w) (K := K) (mg := mg) (base := base) (qual := qual) (f := f) (cd := cdv) (E := E) S hpin e0 hl r x
  refine wpAny_mono (ht.run [] s1 (L2.start N vs) H _ I hq) (fun fl s' hs => ?_) fun e s' hs => hs
  cases fl with
  | ret u => obtain ⟨v, σ', H', J, rv, q⟩ := hs; exact ⟨v, H', J.os, J.bare, J.base, J.hok, rv, q⟩
  | next => obtain ⟨σ', H', J, q⟩ := hs; exact ⟨V.non, H', J.os, J.bare, J.base, J.hok, rfl, q⟩
  | brk => obtain ⟨_, _, _, q⟩ := hs; exact q.elim
  | cont => obtain ⟨_, _, _, q⟩ := hs; exact q.elim
section
variable {X : Cx} {CX : CXT} {k : Nat} {f : Addr} {fd : FuncData} {ps : List Str} {sp : Addr × Obj → Sp} {E : L2.St → XK} {x : Str} {q pos : Pos} {e : Expr} {es : List Expr} {t : TA} {p : Addr × Obj}
theorem pe_callP (F : FnP X.prog X.w X.K X.mg X.base CX k f fd ps sp) (hr : RoomH k X.A) (hp : Hot1 X.A p) (hm : p ∈ X.pn) (hg : Gl X x) (hf : X.mg x = some (.ref f)) (hk : PySem.W.keepIn X.K (.ref f) = true) (hb : Binds X.K fd ps []) (hx : ∀ σ, PassesAt CX X σ (E σ))
    (ha : PA X (e :: es) t) (hdb : (x == ("__debug__" : Str)) = false := by decide) (he : starEach (e :: es) X.env = (false, eval e X.env) :: starEach es X.env := by rfl) (hpl : (backTo pos (starEach es X.env)).any (·.1) = false := by rfl) :
    PE X (.Call (.Name x q) (e :: es) [] pos) (tCallS (sp p) E t) := by
  constructor
  intro pins s σ H Q I h
  refine wpAny_Call_Name_kw (ld_glob I hg hf ?_ hdb)
  refine PySem.W.callWith_K (h₀ := X.base) I.ok.mod.kin hk (thn (ha.run pos pins s σ H _ I h) fun us s1 ⟨vs, H1, I1, r, hs⟩ => ⟨I1.kIn, ?_⟩) he hpl
  have hl : us.length = ps.length := by rw [← r.length]; exact F.len _ _ _ _ _ hs
  have b := hb s1 us I1.kIn (by rw [List.append_nil]; exact hl)
  rw [List.append_nil] at b
  have P1 := I1.pin p (List.mem_append_left _ hm)
  have hpin : PinOk X.stack H1 s1 p := ⟨P1.1, P1.2.1, fun z => (List.mem_cons.mp (I1.stkSub p.1 z)).elim P1.2.2.1 P1.2.2.2.1, P1.2.2.2.2⟩
  refine wpAny_call (codeAny_mono (F.run X.A X.stack s1 H1 ⟨us, []⟩ us vs Q (E σ) p hr hp hpin I1.env0 b r hs) fun r s' hq => ?_)
  cases r with
  | error e => exact hx σ pins H1 s1 e s' I1 hq
  | ok fl =>
    cases fl with
    | ret u => exact I1.after hq
    | next => exact hq.elim
    | brk => exact hq.elim
    | cont => exact hq.elim
/-- isinstance(e, C) of a handled exception of the class at D -/
theorem call_isP {D : Addr} (C : ExcC X.K D) (hm : p ∈ X.pn) (hz : p.2.cls = .ref D ∧ p.2.dict = none) (hf : ∃ vs, p.2.data = .fields vs) : CallR X (.builtin "isinstance") (rIsE X.K D p.1) := by
  intro pins s σ H xs us Q I r h
  obtain ⟨c, cv, b, rfl, hcv, e, q⟩ := h
  obtain ⟨u1, u2, rfl, rx, rt⟩ := vals2 r
  have e1 : u1 = Value.ref p.1 := rx
  have e2 := hcv _ rt
  subst e1 e2
  have hget := (I.pin p (List.mem_append_left _ hm)).1
  obtain ⟨vs, hv⟩ := hf
  have J : PySem.W.InstAt s.heap p.1 p.2 D none := by
    obtain ⟨a, oc, od, oda, osl⟩ := p
    obtain ⟨h1, h2⟩ := hz
    dsimp only at h1 h2 hv
    subst h1 h2 hv
    exact ⟨hget, rfl, rfl, trivial⟩
  exact PySem.W.kia_one (PySem.W.handS_kitx_exc C.hg C.hk C.hs C.hd C.ha C.hn C.ht C.hm) I.kIn J e (fun z => nomatch z) fun tk => ⟨.bl b, H, I.kept (t' := tk) fun _ _ z => z, rfl, q⟩
end
end PDM
/-! PD: programs read as functions over plain data with a small store of mutable cells. -/
namespace PD
open PySem PySem.Spec PyProof.Rows L2

/-! ### data and store -/
inductive W where
  | non | bl (b : Bool) | int (i : Int) | str (s : Str)
  | tup (l : List W) | lst (l : List W) | scr (l : List W)
  | loc (n : Nat) | ref (a : Addr) | ty (n : String)
inductive Cell where
  | lst (l : List W) | ins (C : Addr) (fs : List (Str × W)) | dead
abbrev Mu := List Cell
abbrev St := L2.St
abbrev Env := List (Option W)

mutual
inductive Rep (K : PySem.W.Frag) (θ : List Addr) (F : Hp) : V → W → Prop
  | non : Rep K θ F .non .non
  | bl (b : Bool) : Rep K θ F (.bl b) (.bl b)
  | int (i : Int) : Rep K θ F (.int i) (.int i)
  | str (x : Str) : Rep K θ F (.str x) (.str x)
  | ty (n : String) : Rep K θ F (.ty n) (.ty n)
  | ref (a : Addr) : Rep K θ F (.ref a) (.ref a)
  | loc {n : Nat} {a : Addr} : θ[n]? = some a → Rep K θ F (.ref a) (.loc n)
  | tup {a : Addr} {vs : List V} {ws : List W} : SqT K F a vs → RepAll K θ F vs ws → Rep K θ F (.ref a) (.tup ws)
  | lst {a : Addr} {vs : List V} {ws : List W} : F a = some (.lst vs) → RepAll K θ F vs ws → Rep K θ F (.ref a) (.lst ws)
  | scr {a : Addr} {vs : List V} {ws : List W} : SqL K F a vs → RepAll K θ F vs ws → Rep K θ F (.ref a) (.scr ws)
inductive RepAll (K : PySem.W.Frag) (θ : List Addr) (F : Hp) : List V → List W → Prop
  | nil : RepAll K θ F [] []
  | cons {v : V} {vs : List V} {w : W} {ws : List W} : Rep K θ F v w → RepAll K θ F vs ws → RepAll K θ F (v :: vs) (w :: ws)
end

/-- F' knows all that F knows -/
def Sub (F F' : Hp) : Prop := ∀ a o, F a = some o → F' a = some o
theorem Sub.refl (F : Hp) : Sub F F := fun _ _ h => h
theorem Sub.trans {F G J : Hp} (a : Sub F G) (b : Sub G J) : Sub F J := fun x o h => b x o (a x o h)
theorem Sub.sqT {K : PySem.W.Frag} {F F' : Hp} {a : Addr} {xs : List V} (e : Sub F F') (h : SqT K F a xs) : SqT K F' a xs := by
  rcases h with (h | ⟨o, h⟩) | h
  · exact .inl (.inl (e _ _ h))
  · exact .inl (.inr ⟨o, e _ _ h⟩)
  · exact .inr h
theorem Sub.sqL {K : PySem.W.Frag} {F F' : Hp} {a : Addr} {xs : List V} (e : Sub F F') (h : SqL K F a xs) : SqL K F' a xs := by
  rcases h with (h | ⟨o, h⟩) | h
  · exact .inl (.inl (e _ _ h))
  · exact .inl (.inr ⟨o, e _ _ h⟩)
  · exact .inr h

theorem pre_get {θ θ' : List Addr} (p : θ <+: θ') {n : Nat} {a : Addr} (h : θ[n]? = some a) : θ'[n]? = some a := by
  obtain ⟨t, rfl⟩ := p
  rw [List.getElem?_append_left (List.getElem?_eq_some_iff.mp h).1]
  exact h
mutual
theorem Rep.mono {K : PySem.W.Frag} {θ θ' : List Addr} {F F' : Hp} (p : θ <+: θ') (e : Sub F F') : ∀ {v : V} {w : W}, Rep K θ F v w → Rep K θ' F' v w
  | _, _, .non => .non
  | _, _, .bl b => .bl b
  | _, _, .int i => .int i
  | _, _, .str x => .str x
  | _, _, .ty n => .ty n
  | _, _, .ref a => .ref a
  | _, _, .loc h => .loc (pre_get p h)
  | _, _, .tup h r => .tup (e.sqT h) (RepAll.mono p e r)
  | _, _, .lst h r => .lst (e _ _ h) (RepAll.mono p e r)
  | _, _, .scr h r => .scr (e.sqL h) (RepAll.mono p e r)
theorem RepAll.mono {K : PySem.W.Frag} {θ θ' : List Addr} {F F' : Hp} (p : θ <+: θ') (e : Sub F F') : ∀ {vs : List V} {ws : List W}, RepAll K θ F vs ws → RepAll K θ' F' vs ws
  | _, _, .nil => .nil
  | _, _, .cons r t => .cons (Rep.mono p e r) (RepAll.mono p e t)
end
section
variable {K : PySem.W.Frag} {θ : List Addr} {F : Hp}
theorem RepAll.length : ∀ {vs : List V} {ws : List W}, RepAll K θ F vs ws → vs.length = ws.length
  | _, _, .nil => rfl
  | _, _, .cons _ t => by simp [RepAll.length t]
theorem RepAll.get : ∀ {vs : List V} {ws : List W} {i : Nat} {w : W}, RepAll K θ F vs ws → ws[i]? = some w → ∃ v, vs[i]? = some v ∧ Rep K θ F v w
  | _, _, _, _, .nil, e => by simp at e
  | _, _, 0, _, .cons r _, e => by simp at e; subst e; exact ⟨_, rfl, r⟩
  | _, _, i + 1, x, .cons _ t, e => by
    obtain ⟨u, h1, h2⟩ := RepAll.get (i := i) (w := x) t (by simpa using e)
    exact ⟨u, by simpa using h1, h2⟩
theorem RepAll.getV : ∀ {vs : List V} {ws : List W} {i : Nat} {v : V}, RepAll K θ F vs ws → vs[i]? = some v → ∃ w, ws[i]? = some w ∧ Rep K θ F v w
  | _, _, _, _, .nil, e => by simp at e
  | _, _, 0, _, .cons r _, e => by simp at e; subst e; exact ⟨_, rfl, r⟩
  | _, _, i + 1, x, .cons _ t, e => by
    obtain ⟨u, h1, h2⟩ := RepAll.getV (i := i) (v := x) t (by simpa using e)
    exact ⟨u, by simpa using h1, h2⟩
theorem RepAll.append : ∀ {vs us : List V} {ws zs : List W}, RepAll K θ F vs ws → RepAll K θ F us zs → RepAll K θ F (vs ++ us) (ws ++ zs)
  | _, _, _, _, .nil, s => s
  | _, _, _, _, .cons r t, s => .cons r (RepAll.append t s)
theorem RepAll.set {v : V} {w : W} (r : Rep K θ F v w) : ∀ {vs : List V} {ws : List W} (i : Nat), RepAll K θ F vs ws → RepAll K θ F (vs.set i v) (ws.set i w)
  | _, _, _, .nil => .nil
  | _, _, 0, .cons _ t => .cons r t
  | _, _, i + 1, .cons q t => .cons q (RepAll.set r i t)
theorem RepAll.take : ∀ {vs : List V} {ws : List W} (n : Nat), RepAll K θ F vs ws → RepAll K θ F (vs.take n) (ws.take n)
  | _, _, 0, _ => .nil
  | _, _, _ + 1, .nil => .nil
  | _, _, n + 1, .cons r t => .cons r (RepAll.take n t)
theorem RepAll.drop : ∀ {vs : List V} {ws : List W} (n : Nat), RepAll K θ F vs ws → RepAll K θ F (vs.drop n) (ws.drop n)
  | _, _, 0, r => r
  | _, _, _ + 1, .nil => .nil
  | _, _, n + 1, .cons _ t => RepAll.drop n t
theorem RepAll.eraseIdx : ∀ {vs : List V} {ws : List W} (n : Nat), RepAll K θ F vs ws → RepAll K θ F (vs.eraseIdx n) (ws.eraseIdx n)
  | _, _, _, .nil => .nil
  | _, _, 0, .cons _ t => t
  | _, _, n + 1, .cons r t => .cons r (RepAll.eraseIdx n t)
theorem RepAll.reverse {vs : List V} {ws : List W} (h : RepAll K θ F vs ws) : RepAll K θ F vs.reverse ws.reverse := by
  induction vs generalizing ws with
  | nil => cases h; exact .nil
  | cons v vs ih =>
    cases h with
    | cons r t => rw [List.reverse_cons, List.reverse_cons]; exact (ih t).append (.cons r .nil)
theorem RepAll.dropLast {vs : List V} {ws : List W} (h : RepAll K θ F vs ws) : RepAll K θ F vs.dropLast ws.dropLast := by
  rw [List.dropLast_eq_take, List.dropLast_eq_take, h.length]; exact h.take _
theorem RepAll.rep {vs : List V} {ws : List W} (h : RepAll K θ F vs ws) : ∀ k : Nat, RepAll K θ F (List.replicate k vs).flatten (List.replicate k ws).flatten
  | 0 => .nil
  | k + 1 => by rw [List.replicate_succ, List.replicate_succ, List.flatten_cons, List.flatten_cons]; exact h.append (RepAll.rep h k)
theorem RepAll.map_int (ns : List Int) : RepAll K θ F (ns.map V.int) (ns.map W.int) := by
  induction ns with
  | nil => exact .nil
  | cons n ns ih => exact .cons (.int n) ih
theorem RepAll.ints : ∀ {vs : List V} {ns : List Int}, RepAll K θ F vs (ns.map W.int) → vs = ns.map V.int
  | _, [], .nil => rfl
  | _, n :: ns, .cons r t => by
    cases r
    rw [RepAll.ints (ns := ns) t]; rfl
end

/-- the attributes of an instance -/
inductive Flds (K : PySem.W.Frag) (θ : List Addr) (F : Hp) : List (Str × V) → List (Str × W) → Prop
  | nil : Flds K θ F [] []
  | cons {x : Str} {v : V} {w : W} {gs : List (Str × V)} {fs : List (Str × W)} : Rep K θ F v w → Flds K θ F gs fs → Flds K θ F ((x, v) :: gs) ((x, w) :: fs)
def putW (f : Str) (w : W) : List (Str × W) → List (Str × W)
  | [] => [(f, w)]
  | (g, x) :: r => if g = f then (g, w) :: r else (g, x) :: putW f w r
section
variable {K : PySem.W.Frag} {θ θ' : List Addr} {F F' : Hp}
theorem Flds.mono (p : θ <+: θ') (e : Sub F F') : ∀ {gs : List (Str × V)} {fs : List (Str × W)}, Flds K θ F gs fs → Flds K θ' F' gs fs
  | _, _, .nil => .nil
  | _, _, .cons r t => .cons (r.mono p e) (Flds.mono p e t)
theorem Flds.look : ∀ {gs : List (Str × V)} {fs : List (Str × W)} {f : Str} {w : W}, Flds K θ F gs fs → fs.lookup f = some w → ∃ v, gs.lookup f = some v ∧ Rep K θ F v w
  | _, _, _, _, .nil, e => by simp at e
  | _, _, f, w, .cons (x := x) r t, e => by
    rw [List.lookup_cons] at e ⊢
    split at e
    · cases e; exact ⟨_, rfl, r⟩
    · exact Flds.look t e
theorem Flds.no : ∀ {gs : List (Str × V)} {fs : List (Str × W)} {f : Str}, Flds K θ F gs fs → fs.lookup f = none → gs.lookup f = none
  | _, _, _, .nil, _ => rfl
  | _, _, f, .cons (x := x) r t, e => by
    rw [List.lookup_cons] at e ⊢
    split at e
    · cases e
    · exact Flds.no t e
theorem Flds.length : ∀ {gs : List (Str × V)} {fs : List (Str × W)}, Flds K θ F gs fs → gs.length = fs.length
  | _, _, .nil => rfl
  | _, _, .cons _ t => by simp [Flds.length t]
end

section
variable {K : PySem.W.Frag} {θ θ' : List Addr} {F F' : Hp}
theorem Flds.put {f : Str} {v : V} {w : W} (q : Rep K θ F v w) : ∀ {gs : List (Str × V)} {fs : List (Str × W)}, Flds K θ F gs fs → Flds K θ F (putF f v gs) (putW f w fs)
  | _, _, .nil => .cons q .nil
  | _, _, .cons (x := x) (v := v0) (w := w0) (gs := gs) (fs := fs) r t => by
    show Flds K θ F (if x = f then (x, v) :: gs else (x, v0) :: putF f v gs) (if x = f then (x, w) :: fs else (x, w0) :: putW f w fs)
    by_cases h : x = f
    · rw [if_pos h, if_pos h]; exact .cons q t
    · rw [if_neg h, if_neg h]; exact .cons r (Flds.put q t)
end

/-! ### states -/
def CellOk (K : PySem.W.Frag) (θ : List Addr) (F H : Hp) (a : Addr) : Cell → Prop
  | .dead => ∃ o, H a = some o
  | .lst ws => F a = none ∧ ∃ vs, H a = some (.lst vs) ∧ RepAll K θ F vs ws
  | .ins C fs => F a = none ∧ ∃ dx gs, H a = some (.ins C dx gs) ∧ Flds K θ F gs fs
structure Sim (K : PySem.W.Frag) (θ : List Addr) (F H : Hp) (μ : Mu) : Prop where
  sub : Sub F H
  len : θ.length = μ.length
  nd : θ.Nodup
  cell : ∀ (n : Nat) (a : Addr) (c : Cell), θ[n]? = some a → μ[n]? = some c → CellOk K θ F H a c
/-- from one state to a later one -/
structure Ext (θ : List Addr) (F H : Hp) (θ' : List Addr) (F' H' : Hp) : Prop where
  pre : θ <+: θ'
  sub : Sub F F'
  frame : ∀ b o, H b = some o → b ∉ θ → H' b = some o
  fresh : ∀ b ∈ θ', b ∈ θ ∨ H b = none
  news : ∀ b o, F' b = some o → F b = some o ∨ H b = none ∨ b ∈ θ
theorem Ext.refl (θ : List Addr) (F H : Hp) : Ext θ F H θ F H := ⟨List.prefix_refl _, .refl _, fun _ _ h _ => h, fun _ h => .inl h, fun _ _ h => .inl h⟩
theorem Ext.old {θ θ1 : List Addr} {F F1 H H1 : Hp} (a : Ext θ F H θ1 F1 H1) {x : Addr} (z : H1 x = none) : H x = none ∨ x ∈ θ := by
  by_cases m : x ∈ θ
  · exact .inr m
  · cases e : H x with
    | none => exact .inl rfl
    | some o =>
      have := a.frame x o e m
      rw [z] at this; cases this
theorem Ext.trans {θ θ1 θ2 : List Addr} {F F1 F2 H H1 H2 : Hp} (a : Ext θ F H θ1 F1 H1) (b : Ext θ1 F1 H1 θ2 F2 H2) : Ext θ F H θ2 F2 H2 where
  pre := a.pre.trans b.pre
  sub := a.sub.trans b.sub
  frame := fun x o h n => b.frame x o (a.frame x o h n) fun m => by
    rcases a.fresh x m with z | z
    · exact n z
    · rw [h] at z; cases z
  fresh := fun x m => by
    rcases b.fresh x m with z | z
    · exact a.fresh x z
    · by_cases m' : x ∈ θ
      · exact .inl m'
      · cases e : H x with
        | none => exact .inr rfl
        | some o =>
          have := a.frame x o e m'
          rw [z] at this; cases this
  news := fun x o q => by
    rcases b.news x o q with z | z | z
    · exact a.news x o z
    · exact .inr (a.old z)
    · rcases a.fresh x z with z | z
      · exact .inr (.inr z)
      · exact .inr (.inl z)
theorem CellOk.here {K : PySem.W.Frag} {θ : List Addr} {F H : Hp} {a : Addr} {c : Cell} (h : CellOk K θ F H a c) : ∃ o, H a = some o := by
  cases c with
  | dead => exact h
  | lst ws => obtain ⟨_, vs, e, _⟩ := h; exact ⟨_, e⟩
  | ins C fs => obtain ⟨_, dx, gs, e, _⟩ := h; exact ⟨_, e⟩
section
variable {K : PySem.W.Frag} {θ : List Addr} {F H : Hp} {μ : Mu}
theorem Sim.at (S : Sim K θ F H μ) {n : Nat} {c : Cell} (h : μ[n]? = some c) : ∃ a, θ[n]? = some a ∧ CellOk K θ F H a c := by
  have hl : n < θ.length := by rw [S.len]; exact (List.getElem?_eq_some_iff.mp h).1
  exact ⟨θ[n], List.getElem?_eq_getElem hl, S.cell n _ c (List.getElem?_eq_getElem hl) h⟩
theorem Sim.there (S : Sim K θ F H μ) {a : Addr} (h : a ∈ θ) : ∃ o, H a = some o := by
  obtain ⟨n, hl, e⟩ := List.getElem_of_mem h
  have hm : n < μ.length := by rw [← S.len]; exact hl
  exact (S.cell n a μ[n] (by rw [List.getElem?_eq_getElem hl, e]) (List.getElem?_eq_getElem hm)).here
theorem Sim.out (S : Sim K θ F H μ) {p : Addr} (h : H p = none) : p ∉ θ := fun m => by
  obtain ⟨o, e⟩ := S.there m
  rw [h] at e; cases e
theorem Sim.outF (S : Sim K θ F H μ) {p : Addr} (h : H p = none) : F p = none := by
  cases e : F p with
  | none => rfl
  | some o => have := S.sub p o e; rw [h] at this; cases this
theorem sub_upd {F : Hp} {p : Addr} {o : HO} (h : F p = none) : Sub F (upd F p o) := fun a u e => by rw [upd_ne (ne_of_none e h)]; exact e
theorem CellOk.mono {θ' : List Addr} {F' H' : Hp} {a : Addr} {c : Cell} (h : CellOk K θ F H a c) (p : θ <+: θ') (e : Sub F F') (hf : F a = none → F' a = none) (hh : ∀ o, H a = some o → H' a = some o) : CellOk K θ' F' H' a c := by
  cases c with
  | dead => obtain ⟨o, e⟩ := h; exact ⟨o, hh o e⟩
  | lst ws => obtain ⟨f, vs, q, r⟩ := h; exact ⟨hf f, vs, hh _ q, r.mono p e⟩
  | ins C fs => obtain ⟨f, dx, gs, q, r⟩ := h; exact ⟨hf f, dx, gs, hh _ q, r.mono p e⟩
/-- a new object that is never changed -/
theorem Sim.froze (S : Sim K θ F H μ) {p : Addr} (o : HO) (h : H p = none) : Sim K θ (upd F p o) (upd H p o) μ ∧ Ext θ F H θ (upd F p o) (upd H p o) := by
  have hF := S.outF h
  have hn := S.out h
  refine ⟨⟨fun a u e => ?_, S.len, S.nd, fun n a c h1 h2 => ?_⟩, ⟨List.prefix_refl _, sub_upd hF, fun b u e _ => by rw [upd_ne (ne_of_none e h)]; exact e, fun _ m => .inl m, fun b u e => (Decidable.em (b = p)).elim (fun z => .inr (.inl (by rw [z]; exact h))) fun z => .inl (by rw [upd_ne z] at e; exact e)⟩⟩
  · by_cases ha : a = p
    · subst ha; rw [upd_same] at e; cases e; exact upd_same
    · rw [upd_ne ha] at e ⊢; exact S.sub a u e
  · have ne : a ≠ p := fun z => hn (by rw [← z]; exact List.mem_of_getElem? h1)
    refine (S.cell n a c h1 h2).mono (List.prefix_refl _) (sub_upd hF) (fun z => by rw [upd_ne ne]; exact z) fun o e => by rw [upd_ne ne]; exact e
/-- an object outside is changed that nobody knows -/
theorem Sim.aside (S : Sim K θ F H μ) {p : Addr} (o : HO) (h : F p = none) (hn : p ∉ θ) : Sim K θ F (upd H p o) μ := by
  refine ⟨fun a u e => ?_, S.len, S.nd, fun n a c h1 h2 => ?_⟩
  · rw [upd_ne (ne_of_none e h)]; exact S.sub a u e
  · have ne : a ≠ p := fun z => hn (by rw [← z]; exact List.mem_of_getElem? h1)
    exact (S.cell n a c h1 h2).mono (List.prefix_refl _) (.refl _) (fun z => z) fun o e => by rw [upd_ne ne]; exact e
theorem pre_app (θ : List Addr) (p : Addr) : θ <+: θ ++ [p] := ⟨[p], rfl⟩
/-- a new cell -/
theorem Sim.alloc (S : Sim K θ F H μ) {p : Addr} {o : HO} {c : Cell} (h : H p = none) (hc : CellOk K (θ ++ [p]) F (upd H p o) p c) : Sim K (θ ++ [p]) F (upd H p o) (μ ++ [c]) ∧ Ext θ F H (θ ++ [p]) F (upd H p o) := by
  have hF := S.outF h
  have hn := S.out h
  refine ⟨⟨fun a u e => by rw [upd_ne (ne_of_none e hF)]; exact S.sub a u e, by simp [S.len], ?_, fun n a d h1 h2 => ?_⟩, ⟨pre_app θ p, .refl _, fun b u e _ => by rw [upd_ne (ne_of_none e h)]; exact e, fun b m => ?_, fun _ _ e => .inl e⟩⟩
  · rw [List.nodup_append]
    refine ⟨S.nd, by simp, fun a ha b hb => ?_⟩
    simp at hb; subst hb
    exact fun e => hn (e ▸ ha)
  · by_cases hl : n < θ.length
    · rw [List.getElem?_append_left hl] at h1
      rw [List.getElem?_append_left (by rw [← S.len]; exact hl)] at h2
      have ne : a ≠ p := fun z => hn (by rw [← z]; exact List.mem_of_getElem? h1)
      exact (S.cell n a d h1 h2).mono (pre_app θ p) (.refl _) (fun z => z) fun o e => by rw [upd_ne ne]; exact e
    · have hl' : n < (θ ++ [p]).length := (List.getElem?_eq_some_iff.mp h1).1
      rw [List.length_append, List.length_singleton] at hl'
      have en : n = θ.length := by omega
      subst en
      rw [List.getElem?_append_right (Nat.le_refl _), Nat.sub_self] at h1
      rw [S.len, List.getElem?_append_right (Nat.le_refl _), Nat.sub_self] at h2
      simp at h1 h2
      subst h1 h2
      exact hc
  · rcases List.mem_append.mp m with m | m
    · exact .inl m
    · simp at m; subst m; exact .inr h
/-- a cell is written -/
theorem Sim.write (S : Sim K θ F H μ) {n : Nat} {a : Addr} {o : HO} {c : Cell} (ha : θ[n]? = some a) (hF : F a = none) (hc : CellOk K θ F (upd H a o) a c) : Sim K θ F (upd H a o) (μ.set n c) ∧ Ext θ F H θ F (upd H a o) := by
  refine ⟨⟨fun b u e => by rw [upd_ne (ne_of_none e hF)]; exact S.sub b u e, by simp [S.len], S.nd, fun m b d h1 h2 => ?_⟩, ⟨List.prefix_refl _, .refl _, fun b u e hb => ?_, fun _ m => .inl m, fun _ _ e => .inl e⟩⟩
  · by_cases hm : m = n
    · subst hm
      rw [ha] at h1; cases h1
      have : m < μ.length := by rw [← S.len]; exact (List.getElem?_eq_some_iff.mp ha).1
      rw [List.getElem?_set_self this] at h2; cases h2
      exact hc
    · rw [List.getElem?_set_ne (Ne.symm hm)] at h2
      have ne : b ≠ a := fun z => hm (by
        subst z
        obtain ⟨l1, e1⟩ := List.getElem?_eq_some_iff.mp h1
        obtain ⟨l2, e2⟩ := List.getElem?_eq_some_iff.mp ha
        exact (List.getElem_inj S.nd).mp (e1.trans e2.symm))
      exact (S.cell m b d h1 h2).mono (List.prefix_refl _) (.refl _) (fun z => z) fun o e => by rw [upd_ne ne]; exact e
  · rw [upd_ne (fun z => hb (by rw [z]; exact List.mem_of_getElem? ha))]; exact e
/-- a list that is no longer changed -/
theorem Sim.freeze (S : Sim K θ F H μ) {n : Nat} {a : Addr} {vs : List V} (ha : θ[n]? = some a) (hF : F a = none) (hH : H a = some (.lst vs)) : Sim K θ (upd F a (.lst vs)) H (μ.set n .dead) ∧ Ext θ F H θ (upd F a (.lst vs)) H := by
  refine ⟨⟨fun b u e => ?_, by simp [S.len], S.nd, fun m b d h1 h2 => ?_⟩, ⟨List.prefix_refl _, sub_upd hF, fun b u e _ => e, fun _ m => .inl m, fun b u e => (Decidable.em (b = a)).elim (fun z => .inr (.inr (by rw [z]; exact List.mem_of_getElem? ha))) fun z => .inl (by rw [upd_ne z] at e; exact e)⟩⟩
  · by_cases hb : b = a
    · subst hb; rw [upd_same] at e; cases e; exact hH
    · rw [upd_ne hb] at e; exact S.sub b u e
  · by_cases hm : m = n
    · subst hm
      rw [ha] at h1; cases h1
      have : m < μ.length := by rw [← S.len]; exact (List.getElem?_eq_some_iff.mp ha).1
      rw [List.getElem?_set_self this] at h2; cases h2
      exact ⟨_, hH⟩
    · rw [List.getElem?_set_ne (Ne.symm hm)] at h2
      have ne : b ≠ a := fun z => hm (by
        subst z
        obtain ⟨l1, e1⟩ := List.getElem?_eq_some_iff.mp h1
        obtain ⟨l2, e2⟩ := List.getElem?_eq_some_iff.mp ha
        exact (List.getElem_inj S.nd).mp (e1.trans e2.symm))
      exact (S.cell m b d h1 h2).mono (List.prefix_refl _) (sub_upd hF) (fun z => by rw [upd_ne ne]; exact z) fun o e => e
end

/-- the frame's slots -/
structure SimE (K : PySem.W.Frag) (θ : List Addr) (F : Hp) (σ : St) (ρ : Env) : Prop where
  len : σ.length = ρ.length
  get : ∀ (i : Nat) (w : W), ρ[i]? = some (some w) → ∃ v, σ[i]? = some (some v) ∧ Rep K θ F v w
theorem SimE.mono {K : PySem.W.Frag} {θ θ' : List Addr} {F F' : Hp} {σ : St} {ρ : Env} (h : SimE K θ F σ ρ) (p : θ <+: θ') (e : Sub F F') : SimE K θ' F' σ ρ :=
  ⟨h.len, fun i w q => let ⟨v, a, b⟩ := h.get i w q; ⟨v, a, b.mono p e⟩⟩
theorem SimE.set {K : PySem.W.Frag} {θ : List Addr} {F : Hp} {σ : St} {ρ : Env} (h : SimE K θ F σ ρ) {v : V} {w : W} (i : Nat) (r : Rep K θ F v w) : SimE K θ F (σ.set i (some v)) (ρ.set i (some w)) := by
  refine ⟨by simp [h.len], fun j u e => ?_⟩
  by_cases hj : i = j
  · subst hj
    have hl : i < ρ.length := by
      have := (List.getElem?_eq_some_iff.mp e).1
      simpa using this
    rw [List.getElem?_set_self hl] at e; cases e
    exact ⟨v, by rw [List.getElem?_set_self (by rw [h.len]; exact hl)], r⟩
  · rw [List.getElem?_set_ne hj] at e
    obtain ⟨v', a, b⟩ := h.get j u e
    exact ⟨v', by rw [List.getElem?_set_ne hj]; exact a, b⟩
theorem SimE.unset {K : PySem.W.Frag} {θ : List Addr} {F : Hp} {σ : St} {ρ : Env} (h : SimE K θ F σ ρ) (i : Nat) : SimE K θ F (σ.set i none) (ρ.set i none) := by
  refine ⟨by simp [h.len], fun j u e => ?_⟩
  by_cases hj : i = j
  · subst hj
    have hl : i < ρ.length := by
      have := (List.getElem?_eq_some_iff.mp e).1
      simpa using this
    rw [List.getElem?_set_self hl] at e; cases e
  · rw [List.getElem?_set_ne hj] at e
    obtain ⟨v', a, b⟩ := h.get j u e
    exact ⟨v', by rw [List.getElem?_set_ne hj]; exact a, b⟩
def wipeW (ρ : Env) : List Nat → Env
  | [] => ρ
  | v :: vs => (wipeW ρ vs).set v none
theorem SimE.wipe {K : PySem.W.Frag} {θ : List Addr} {F : Hp} {σ : St} {ρ : Env} (h : SimE K θ F σ ρ) : ∀ vs : List Nat, SimE K θ F (wipe σ vs) (wipeW ρ vs)
  | [] => h
  | v :: vs => (SimE.wipe h vs).unset v

/-! ### outcomes -/
inductive Out (α : Type) where
  | ok (a : α) (μ : Mu) | er (c : Addr) (μ : Mu) | no
def Out.bind {α β : Type} : Out α → (α → Mu → Out β) → Out β
  | .ok a μ, f => f a μ
  | .er c μ, _ => .er c μ
  | .no, _ => .no
def Out.map {α β : Type} (f : α → β) : Out α → Out β
  | .ok a μ => .ok (f a) μ
  | .er c μ => .er c μ
  | .no => .no
/-- what an outcome asks of what is wanted -/
def Out.Ok {α β : Type} (K : PySem.W.Frag) (R : List Addr → Hp → β → α → Prop) (θ : List Addr) (F H : Hp) (E : Addr → Hp → Prop) (Q : β → Hp → Prop) : Out α → Prop
  | .ok a μ => ∀ (θ' : List Addr) (F' H' : Hp) (b : β), Ext θ F H θ' F' H' → Sim K θ' F' H' μ → R θ' F' b a → Q b H'
  | .er c μ => ∀ (θ' : List Addr) (F' H' : Hp), Ext θ F H θ' F' H' → Sim K θ' F' H' μ → E c H'
  | .no => False
theorem Out.Ok.mono {α β : Type} {K : PySem.W.Frag} {R : List Addr → Hp → β → α → Prop} {θ θ1 : List Addr} {F F1 H H1 : Hp} {E : Addr → Hp → Prop} {Q : β → Hp → Prop} {o : Out α} (h : o.Ok K R θ F H E Q) (x : Ext θ F H θ1 F1 H1) : o.Ok K R θ1 F1 H1 E Q := by
  cases o with
  | ok a μ => exact fun θ' F' H' b x' S r => h θ' F' H' b (x.trans x') S r
  | er c μ => exact fun θ' F' H' x' S => h θ' F' H' (x.trans x') S
  | no => exact h
/-- the outcome just here -/
theorem Out.Ok.here {α β : Type} {K : PySem.W.Frag} {R : List Addr → Hp → β → α → Prop} {θ : List Addr} {F H : Hp} {E : Addr → Hp → Prop} {Q : β → Hp → Prop} {a : α} {b : β} {μ : Mu} (h : Out.Ok K R θ F H E Q (.ok a μ)) (S : Sim K θ F H μ) (r : R θ F b a) : Q b H := h θ F H b (.refl _ _ _) S r
/-- a reading t does what m says -/
def Ad {α β : Type} (K : PySem.W.Frag) (W : WX) (R : List Addr → Hp → β → α → Prop) (t : St → Hp → (β → Hp → Prop) → Prop) (m : Env → Mu → Out α) : Prop :=
  ∀ (σ : St) (H : Hp) (Q : β → Hp → Prop) (θ : List Addr) (F : Hp) (ρ : Env) (μ : Mu), Sim K θ F H μ → SimE K θ F σ ρ → (m ρ μ).Ok K R θ F H (fun c H' => W (.ref c) none σ H') Q → t σ H Q
theorem Ad.bind {α β γ δ : Type} {K : PySem.W.Frag} {W : WX} {R : List Addr → Hp → β → α → Prop} {R2 : List Addr → Hp → δ → γ → Prop} {t : St → Hp → (β → Hp → Prop) → Prop} {m : Env → Mu → Out α} {t2 : β → St → Hp → (δ → Hp → Prop) → Prop} {f : α → Env → Mu → Out γ}
    (h : Ad K W R t m) (h2 : ∀ (σ : St) (H : Hp) (Q : δ → Hp → Prop) (θ : List Addr) (F : Hp) (ρ : Env) (μ : Mu) (v : β) (w : α), Sim K θ F H μ → SimE K θ F σ ρ → R θ F v w → (f w ρ μ).Ok K R2 θ F H (fun c H' => W (.ref c) none σ H') Q → t2 v σ H Q) :
    Ad K W R2 (fun σ H Q => t σ H fun v H1 => t2 v σ H1 Q) (fun ρ μ => (m ρ μ).bind fun w μ1 => f w ρ μ1) := by
  intro σ H Q θ F ρ μ S E ok
  dsimp only at ok
  refine h σ H _ θ F ρ μ S E ?_
  cases e : m ρ μ with
  | ok w μ1 =>
    rw [e] at ok
    exact fun θ1 F1 H1 v x S1 r => h2 σ H1 Q θ1 F1 ρ μ1 v w S1 (E.mono x.pre x.sub) r (Out.Ok.mono ok x)
  | er c μ1 => rw [e] at ok; exact ok
  | no => rw [e] at ok; exact ok

/-! ### judgements -/
structure PED (X : Cx) (Wx : WX) (e : Expr) (t : TE) (m : Env → Mu → Out W) : Prop where
  pe : PE X e t
  ad : Ad X.K Wx (Rep X.K) t m
structure PAD (X : Cx) (Wx : WX) (es : List Expr) (t : TA) (m : Env → Mu → Out (List W)) : Prop where
  pa : PA X es t
  ad : Ad X.K Wx (RepAll X.K) t m
abbrev REq {α : Type} : List Addr → Hp → α → α → Prop := fun _ _ b a => b = a
structure PTD (X : Cx) (Wx : WX) (e : Expr) (t : TT) (m : Env → Mu → Out Bool) : Prop where
  pt : PT X e t
  ad : Ad X.K Wx REq t m
structure PWD (X : Cx) (Wx : WX) (e : Expr) (t : TT) (m : Env → Mu → Out Bool) : Prop where
  pw : PW X e t
  ad : Ad X.K Wx REq t m
theorem PWD.pt {X : Cx} {Wx : WX} {e : Expr} {t : TT} {m : Env → Mu → Out Bool} (h : PWD X Wx e t m) : PTD X Wx e t m := ⟨h.pw.pt, h.ad⟩
/-- a target -/
structure PGD (X : Cx) (Wx : WX) (tg : Expr) (g : TG) (m : W → Env → Mu → Out Env) : Prop where
  pg : PG X tg g
  ad : ∀ (v : V) (w : W) (σ : St) (H : Hp) (Q : St → Hp → Prop) (θ : List Addr) (F : Hp) (ρ : Env) (μ : Mu), Sim X.K θ F H μ → SimE X.K θ F σ ρ → Rep X.K θ F v w → (m w ρ μ).Ok X.K (SimE X.K) θ F H (fun c H' => Wx (.ref c) none σ H') Q → g v σ H Q
structure PGsD (X : Cx) (Wx : WX) (tgs : List Expr) (g : TGs) (m : List W → Env → Mu → Out Env) : Prop where
  pg : PGs X tgs g
  ad : ∀ (vs : List V) (ws : List W) (σ : St) (H : Hp) (Q : St → Hp → Prop) (θ : List Addr) (F : Hp) (ρ : Env) (μ : Mu), Sim X.K θ F H μ → SimE X.K θ F σ ρ → RepAll X.K θ F vs ws → (m ws ρ μ).Ok X.K (SimE X.K) θ F H (fun c H' => ∀ σ', Wx (.ref c) none σ' H') Q → g vs σ H Q
/-- statements' outcomes -/
inductive SO where
  | nx (ρ : Env) (μ : Mu) | rt (w : W) (μ : Mu) | bk (ρ : Env) (μ : Mu) | ct (ρ : Env) (μ : Mu) | er (c : Addr) (ρ : Env) (μ : Mu) | no
def SO.Ok (K : PySem.W.Frag) (Wx : WX) (θ : List Addr) (F H : Hp) (D : Ends) : SO → Prop
  | .nx ρ μ => ∀ (θ' : List Addr) (F' H' : Hp) (σ' : St), Ext θ F H θ' F' H' → Sim K θ' F' H' μ → SimE K θ' F' σ' ρ → D.nx σ' H'
  | .rt w μ => ∀ (θ' : List Addr) (F' H' : Hp) (v : V), Ext θ F H θ' F' H' → Sim K θ' F' H' μ → Rep K θ' F' v w → D.rt v H'
  | .bk ρ μ => ∀ (θ' : List Addr) (F' H' : Hp) (σ' : St), Ext θ F H θ' F' H' → Sim K θ' F' H' μ → SimE K θ' F' σ' ρ → D.bk σ' H'
  | .ct ρ μ => ∀ (θ' : List Addr) (F' H' : Hp) (σ' : St), Ext θ F H θ' F' H' → Sim K θ' F' H' μ → SimE K θ' F' σ' ρ → D.ct σ' H'
  | .er c ρ μ => ∀ (θ' : List Addr) (F' H' : Hp) (σ' : St), Ext θ F H θ' F' H' → Sim K θ' F' H' μ → SimE K θ' F' σ' ρ → Wx (.ref c) none σ' H'
  | .no => False
theorem SO.Ok.mono {K : PySem.W.Frag} {Wx : WX} {θ θ1 : List Addr} {F F1 H H1 : Hp} {D : Ends} {o : SO} (h : o.Ok K Wx θ F H D) (x : Ext θ F H θ1 F1 H1) : o.Ok K Wx θ1 F1 H1 D := by
  cases o with
  | nx ρ μ => exact fun θ' F' H' σ' x' => h θ' F' H' σ' (x.trans x')
  | rt w μ => exact fun θ' F' H' v x' => h θ' F' H' v (x.trans x')
  | bk ρ μ => exact fun θ' F' H' σ' x' => h θ' F' H' σ' (x.trans x')
  | ct ρ μ => exact fun θ' F' H' σ' x' => h θ' F' H' σ' (x.trans x')
  | er c ρ μ => exact fun θ' F' H' σ' x' => h θ' F' H' σ' (x.trans x')
  | no => exact h
abbrev SM := Env → Mu → SO
abbrev EM := Env → Mu → Out W
def AdS (K : PySem.W.Frag) (Wx : WX) (t : TS) (m : SM) : Prop :=
  ∀ (D : Ends) (σ : St) (H : Hp) (θ : List Addr) (F : Hp) (ρ : Env) (μ : Mu), Sim K θ F H μ → SimE K θ F σ ρ → (m ρ μ).Ok K Wx θ F H D → t D σ H
structure PSD (X : Cx) (Wx : WX) (st : Stmt) (t : TS) (m : SM) : Prop where
  ps : PS X st t
  ad : AdS X.K Wx t m
structure PSsD (X : Cx) (Wx : WX) (st : List Stmt) (t : TS) (m : SM) : Prop where
  ps : PSs X st t
  ad : AdS X.K Wx t m

/-- an expression's outcome in a statement -/
def Out.st {α : Type} (ρ : Env) : Out α → (α → Mu → SO) → SO
  | .ok a μ, f => f a μ
  | .er c μ, _ => .er c ρ μ
  | .no, _ => .no
theorem Ad.st {α β : Type} {K : PySem.W.Frag} {Wx : WX} {R : List Addr → Hp → β → α → Prop} {t : St → Hp → (β → Hp → Prop) → Prop} {m : Env → Mu → Out α} {u : β → TS} {f : α → SM}
    (h : Ad K Wx R t m) (h2 : ∀ (D : Ends) (σ : St) (H : Hp) (θ : List Addr) (F : Hp) (ρ : Env) (μ : Mu) (v : β) (w : α), Sim K θ F H μ → SimE K θ F σ ρ → R θ F v w → (f w ρ μ).Ok K Wx θ F H D → u v D σ H) :
    AdS K Wx (fun D σ H => t σ H fun v H1 => u v D σ H1) (fun ρ μ => (m ρ μ).st ρ fun w μ1 => f w ρ μ1) := by
  intro D σ H θ F ρ μ S E ok
  dsimp only at ok
  refine h σ H _ θ F ρ μ S E ?_
  cases e : m ρ μ with
  | ok w μ1 =>
    rw [e] at ok
    exact fun θ1 F1 H1 v x S1 r => h2 D σ H1 θ1 F1 ρ μ1 v w S1 (E.mono x.pre x.sub) r (SO.Ok.mono ok x)
  | er c μ1 =>
    rw [e] at ok
    exact fun θ1 F1 H1 x S1 => ok θ1 F1 H1 σ x S1 (E.mono x.pre x.sub)
  | no => rw [e] at ok; exact ok

/-! ### statements -/
def SO.seq : SO → SM → SO
  | .nx ρ μ, f => f ρ μ
  | .rt w μ, _ => .rt w μ
  | .bk ρ μ, _ => .bk ρ μ
  | .ct ρ μ, _ => .ct ρ μ
  | .er c ρ μ, _ => .er c ρ μ
  | .no, _ => .no
def sSeq (a b : SM) : SM := fun ρ μ => (a ρ μ).seq b
def sNx : SM := fun ρ μ => .nx ρ μ
section
variable {X : Cx} {Wx : WX}
theorem psd_nil : PSsD X Wx [] tNext sNx := ⟨pss_nil, fun D σ H θ F ρ μ S E ok => ok θ F H σ (.refl _ _ _) S E⟩
theorem psd_one {s : Stmt} {t : TS} {m : SM} (h : PSD X Wx s t m) : PSsD X Wx [s] t m := ⟨pss_one h.ps, h.ad⟩
theorem psd_cons {s : Stmt} {r : List Stmt} {t u : TS} {m n : SM} (h : PSD X Wx s t m) (h2 : PSsD X Wx r u n) : PSsD X Wx (s :: r) (tSeq t u) (sSeq m n) := by
  refine ⟨pss_cons h.ps h2.ps, fun D σ H θ F ρ μ S E ok => ?_⟩
  refine h.ad { D with nx := u D } σ H θ F ρ μ S E ?_
  unfold sSeq at ok
  cases e : m ρ μ with
  | nx ρ1 μ1 =>
    rw [e] at ok
    exact fun θ1 F1 H1 σ1 x S1 E1 => h2.ad D σ1 H1 θ1 F1 ρ1 μ1 S1 E1 (SO.Ok.mono ok x)
  | rt w μ1 => rw [e] at ok; exact ok
  | bk ρ1 μ1 => rw [e] at ok; exact ok
  | ct ρ1 μ1 => rw [e] at ok; exact ok
  | er c ρ1 μ1 => rw [e] at ok; exact ok
  | no => rw [e] at ok; exact ok
def sPass : SM := sNx
theorem psd_pass {pos : Pos} : PSD X Wx (.Pass pos) tNext sNx := ⟨ps_pass, fun D σ H θ F ρ μ S E ok => ok θ F H σ (.refl _ _ _) S E⟩
theorem psd_break {pos : Pos} : PSD X Wx (.Break pos) tBreak (fun ρ μ => .bk ρ μ) := ⟨ps_break, fun D σ H θ F ρ μ S E ok => ok θ F H σ (.refl _ _ _) S E⟩
theorem psd_continue {pos : Pos} : PSD X Wx (.Continue pos) tCont (fun ρ μ => .ct ρ μ) := ⟨ps_continue, fun D σ H θ F ρ μ S E ok => ok θ F H σ (.refl _ _ _) S E⟩
def sEx (m : EM) : SM := fun ρ μ => (m ρ μ).st ρ fun _ μ1 => .nx ρ μ1
theorem psd_expr {e : Expr} {t : TE} {m : EM} {pos : Pos} (h : PED X Wx e t m) (hs : swapsWith e none pos.line X.env = pure false := by rfl) : PSD X Wx (.Expr e pos) (tDrop t) (sEx m) :=
  ⟨ps_expr h.pe hs, Ad.st (u := fun _ D σ H => D.nx σ H) (f := fun _ ρ μ => .nx ρ μ) h.ad fun D σ H θ F ρ μ v w S E r ok => ok θ F H σ (.refl _ _ _) S E⟩
def sRet (m : EM) : SM := fun ρ μ => (m ρ μ).st ρ fun w μ1 => .rt w μ1
theorem psd_ret {e : Expr} {t : TE} {m : EM} {pos : Pos} (h : PED X Wx e t m) : PSD X Wx (.Return (some e) pos) (tRet t) (sRet m) :=
  ⟨ps_ret h.pe, Ad.st (u := fun v D _ H => D.rt v H) (f := fun w _ μ => .rt w μ) h.ad fun D σ H θ F ρ μ v w S E r ok => ok θ F H v (.refl _ _ _) S r⟩
def sRetN : SM := fun _ μ => .rt .non μ
theorem psd_retN {pos : Pos} : PSD X Wx (.Return none pos) tRetN sRetN := ⟨ps_retN, fun D σ H θ F ρ μ S E ok => ok θ F H .non (.refl _ _ _) S .non⟩
def sIf (c : Env → Mu → Out Bool) (a b : SM) : SM := fun ρ μ => (c ρ μ).st ρ fun k μ1 => if k = true then a ρ μ1 else b ρ μ1
theorem psd_if {c : Expr} {A B : List Stmt} {tc : TT} {t u : TS} {mc : Env → Mu → Out Bool} {m n : SM} {pos : Pos} (hc : PTD X Wx c tc mc) (ha : PSsD X Wx A t m) (hb : PSsD X Wx B u n) : PSD X Wx (.If c A B pos) (tIfS tc t u) (sIf mc m n) := by
  refine ⟨ps_if hc.pt ha.ps hb.ps, Ad.st (u := fun k D σ H => if k = true then t D σ H else u D σ H) (f := fun k ρ μ => if k = true then m ρ μ else n ρ μ) hc.ad fun D σ H θ F ρ μ v w S E r ok => ?_⟩
  have r : v = w := r
  subst r
  cases v with
  | true => exact ha.ad D σ H θ F ρ μ S E ok
  | false => exact hb.ad D σ H θ F ρ μ S E ok
/-- x = e -/
def sAsg (m : EM) (g : W → Env → Mu → Out Env) : SM := fun ρ μ => (m ρ μ).st ρ fun w μ1 => (g w ρ μ1).st ρ fun ρ' μ2 => .nx ρ' μ2
theorem psd_asg {e tg : Expr} {t : TE} {m : EM} {g : TG} {n : W → Env → Mu → Out Env} {pos : Pos} (h : PED X Wx e t m) (hg : PGD X Wx tg g n) (hs : swapsWithSole [tg] e pos.line X.env = pure false := by rfl) (hw : swappedStores [tg] e X.env = pure none := by rfl)
    (h1 : (assignEach [tg] X.env).map (·.2) = [assign tg X.env] := by rfl) : PSD X Wx (.Assign [tg] e pos) (tAsg t g) (sAsg m n) := by
  refine ⟨ps_asg h.pe hg.pg hs hw h1, Ad.st (u := fun v D σ H => g v σ H D.nx) (f := fun w ρ μ => (n w ρ μ).st ρ fun ρ' μ2 => .nx ρ' μ2) h.ad fun D σ H θ F ρ μ v w S E r ok => ?_⟩
  refine hg.ad v w σ H D.nx θ F ρ μ S E r ?_
  cases e1 : n w ρ μ with
  | ok ρ' μ' => rw [e1] at ok; exact fun θ1 F1 H1 σ1 x S1 E1 => ok θ1 F1 H1 σ1 x S1 E1
  | er c μ' => rw [e1] at ok; exact fun θ1 F1 H1 x S1 => ok θ1 F1 H1 σ x S1 (E.mono x.pre x.sub)
  | no => rw [e1] at ok; exact ok
def gSet (i : Nat) : W → Env → Mu → Out Env := fun w ρ μ => .ok (ρ.set i (some w)) μ
theorem pgd_name {i : Nat} {x : Str} {pos : Pos} (hN : X.N.Nodup) (hi : X.N[i]? = some x) (hx : Loc X.env.scope x) (hf : X.fn x = true ∨ X.env.scope.names.lookup x = some .local := by first | exact .inl rfl | exact .inr rfl | assumption) : PGD X Wx (.Name x pos) (gName i) (gSet i) :=
  ⟨pg_name hN hi hx hf, fun v w σ H Q θ F ρ μ S E r ok => ok θ F H _ (.refl _ _ _) S (E.set i r)⟩
end

/-! ### expressions -/
theorem Ad.use {α β γ δ : Type} {K : PySem.W.Frag} {Wx : WX} {R : List Addr → Hp → β → α → Prop} {R2 : List Addr → Hp → δ → γ → Prop} {t : St → Hp → (β → Hp → Prop) → Prop} {m : Env → Mu → Out α} {f : α → Mu → Out γ}
    {σ : St} {H : Hp} {Q1 : β → Hp → Prop} {Q : δ → Hp → Prop} {θ : List Addr} {F : Hp} {ρ : Env} {μ : Mu}
    (h : Ad K Wx R t m) (S : Sim K θ F H μ) (E : SimE K θ F σ ρ) (ok : ((m ρ μ).bind f).Ok K R2 θ F H (fun c H' => Wx (.ref c) none σ H') Q)
    (k : ∀ (θ1 : List Addr) (F1 H1 : Hp) (μ1 : Mu) (v : β) (w : α), Ext θ F H θ1 F1 H1 → Sim K θ1 F1 H1 μ1 → SimE K θ1 F1 σ ρ → R θ1 F1 v w → (f w μ1).Ok K R2 θ1 F1 H1 (fun c H' => Wx (.ref c) none σ H') Q → Q1 v H1) : t σ H Q1 := by
  refine h σ H _ θ F ρ μ S E ?_
  cases e : m ρ μ with
  | ok w μ1 =>
    rw [e] at ok
    exact fun θ1 F1 H1 v x S1 r => k θ1 F1 H1 μ1 v w x S1 (E.mono x.pre x.sub) r (Out.Ok.mono (o := f w μ1) ok x)
  | er c μ1 => rw [e] at ok; exact ok
  | no => rw [e] at ok; exact ok

def eVar (i : Nat) : EM := fun ρ μ => match ρ[i]? with
  | some (some w) => .ok w μ
  | _ => .no
def eC (w : W) : EM := fun _ μ => .ok w μ
section
variable {X : Cx} {Wx : WX} {pos : Pos}
theorem ped_var {i : Nat} {e : Expr} (h : PE X e (tVar i)) : PED X Wx e (tVar i) (eVar i) := by
  refine ⟨h, fun σ H Q θ F ρ μ S E ok => ?_⟩
  unfold eVar at ok
  split at ok
  · rename_i w e1
    obtain ⟨v, a, r⟩ := E.get i w e1
    exact ⟨v, a, ok.here S r⟩
  · exact ok.elim
theorem ped_c {e : Expr} {v : V} {w : W} (h : PE X e (tC v)) (r : ∀ θ F, Rep X.K θ F v w) : PED X Wx e (tC v) (eC w) :=
  ⟨h, fun σ H Q θ F ρ μ S E ok => ok.here S (r θ F)⟩
theorem ped_int {i : Int} {j : Nat} : PED X Wx (.Constant (.int i) j pos) (tC (.int i)) (eC (.int i)) := ped_c pe_int fun _ _ => .int i
theorem ped_str {x : Str} {j : Nat} : PED X Wx (.Constant (.str x) j pos) (tC (.str x)) (eC (.str x)) := ped_c pe_str fun _ _ => .str x
theorem ped_bl {b : Bool} {j : Nat} : PED X Wx (.Constant (.bool b) j pos) (tC (.bl b)) (eC (.bl b)) := ped_c pe_bl fun _ _ => .bl b
theorem ped_non {j : Nat} : PED X Wx (.Constant .none j pos) (tC .non) (eC .non) := ped_c pe_non fun _ _ => .non
end

/-! operators by values -/
abbrev GOp := W → W → Mu → Out W
def AdOp (K : PySem.W.Frag) (r : R2) (g : GOp) : Prop := ∀ {x y : V} {wx wy : W} {E : Addr → Hp → Prop} {Q : VK} {H : Hp} {θ : List Addr} {F : Hp} {μ : Mu}, Sim K θ F H μ → Rep K θ F x wx → Rep K θ F y wy → (g wx wy μ).Ok K (Rep K) θ F H E Q → r x y H Q
def Out.els {α : Type} : Out α → Out α → Out α
  | .no, b => b
  | a, _ => a
def orG (g g' : GOp) : GOp := fun x y μ => (g x y μ).els (g' x y μ)
theorem AdOp.or {K : PySem.W.Frag} {r r' : R2} {g g' : GOp} (h : AdOp K r g) (h' : AdOp K r' g') : AdOp K (fun x y H Q => r x y H Q ∨ r' x y H Q) (orG g g') := by
  intro x y wx wy E Q H θ F μ S rx ry ok
  unfold orG at ok
  cases e : g wx wy μ with
  | ok w μ1 => rw [e] at ok; exact .inl (h S rx ry (by rw [e]; exact ok))
  | er c μ1 => rw [e] at ok; exact .inl (h S rx ry (by rw [e]; exact ok))
  | no => rw [e] at ok; exact .inr (h' S rx ry ok)
def eBin (g : GOp) (a b : EM) : EM := fun ρ μ => (a ρ μ).bind fun x μ1 => (b ρ μ1).bind fun y μ2 => g x y μ2
theorem ad_bin {K : PySem.W.Frag} {Wx : WX} {ta tb : TE} {ma mb : EM} {r : R2} {g : GOp} (hg : AdOp K r g) (ha : Ad K Wx (Rep K) ta ma) (hb : Ad K Wx (Rep K) tb mb) : Ad K Wx (Rep K) (tOp r ta tb) (eBin g ma mb) := by
  intro σ H Q θ F ρ μ S E ok
  refine ha.use S E ok fun θ1 F1 H1 μ1 v w x S1 E1 r1 ok1 => ?_
  refine hb.use S1 E1 ok1 fun θ2 F2 H2 μ2 u z y S2 E2 r2 ok2 => ?_
  exact hg S2 (r1.mono y.pre y.sub) r2 ok2
section
variable {X : Cx} {Wx : WX} {pos : Pos} {a b : Expr} {ta tb : TE} {ma mb : EM} {r : R2} {g : GOp}
theorem ped_op {op : Operator} (ho : OpR X (binaryOp op) r) (hg : AdOp X.K r g) (ha : PED X Wx a ta ma) (hb : PED X Wx b tb mb) : PED X Wx (.BinOp a op b pos) (tOp r ta tb) (eBin g ma mb) := ⟨pe_op ho ha.pe hb.pe, ad_bin hg ha.ad hb.ad⟩
theorem ped_cmp {op : CmpOp} (ho : OpR X (compareOp op) r) (hg : AdOp X.K r g) (ha : PED X Wx a ta ma) (hb : PED X Wx b tb mb) (hm : behindInMarks op b = false) : PED X Wx (.Compare a [op] [b] pos) (tOp r ta tb) (eBin g ma mb) := ⟨pe_cmpR ho ha.pe hb.pe hm, ad_bin hg ha.ad hb.ad⟩
end
/-- a bool as a test -/
def eTest (m : EM) : Env → Mu → Out Bool := fun ρ μ => (m ρ μ).bind fun w μ1 => match w with
  | .bl k => .ok k μ1
  | _ => .no
theorem ad_test {K : PySem.W.Frag} {Wx : WX} {t : TE} {m : EM} (h : Ad K Wx (Rep K) t m) : Ad K Wx REq (tTest t) (eTest m) := by
  intro σ H Q θ F ρ μ S E ok
  refine h.use S E ok fun θ1 F1 H1 μ1 v w x S1 E1 r1 ok1 => ?_
  split at ok1
  · cases r1
    exact ⟨_, rfl, ok1.here S1 rfl⟩
  · exact ok1.elim
theorem tB_eq : tB = tTest := rfl
section
variable {X : Cx} {Wx : WX} {pos : Pos} {a b c : Expr} {ta tb tc : TE} {ma mb mc : EM} {r r' : R2} {g g' : GOp}
theorem ptd_cmp {op : CmpOp} (ho : OpR X (compareOp op) r) (hg : AdOp X.K r g) (ha : PED X Wx a ta ma) (hb : PED X Wx b tb mb) (hm : behindInMarks op b = false) : PTD X Wx (.Compare a [op] [b] pos) (tTest (tOp r ta tb)) (eTest (eBin g ma mb)) := ⟨pt_cmpR ho ha.pe hb.pe hm, ad_test (ad_bin hg ha.ad hb.ad)⟩
theorem ptd_val {e : Expr} {t : TE} {m : EM} (h : PED X Wx e t m) (he : ∀ whole, isTrue e X.env whole = (do let v ← whole; standAt e.pos; holding [v] (truthy v)) := by intro _; rfl) : PTD X Wx e (tTest t) (eTest m) := ⟨pt_val h.pe he, ad_test h.ad⟩
/-- a < b < c -/
def eChain (g g' : GOp) (a b c : EM) : EM := fun ρ μ => (a ρ μ).bind fun x μ1 => (b ρ μ1).bind fun y μ2 => (g x y μ2).bind fun z μ3 => match z with
  | .bl true => (c ρ μ3).bind fun u μ4 => g' y u μ4
  | .bl false => .ok (.bl false) μ3
  | _ => .no
end
theorem AdOp.use {K : PySem.W.Frag} {r : R2} {g : GOp} {γ δ : Type} {R2' : List Addr → Hp → δ → γ → Prop} {x y : V} {wx wy : W} {E : Addr → Hp → Prop} {Q1 : VK} {Q : δ → Hp → Prop} {H : Hp} {θ : List Addr} {F : Hp} {μ : Mu} {f : W → Mu → Out γ}
    (h : AdOp K r g) (S : Sim K θ F H μ) (rx : Rep K θ F x wx) (ry : Rep K θ F y wy) (ok : ((g wx wy μ).bind f).Ok K R2' θ F H E Q)
    (k : ∀ (θ1 : List Addr) (F1 H1 : Hp) (μ1 : Mu) (v : V) (w : W), Ext θ F H θ1 F1 H1 → Sim K θ1 F1 H1 μ1 → Rep K θ1 F1 v w → (f w μ1).Ok K R2' θ1 F1 H1 E Q → Q1 v H1) : r x y H Q1 := by
  refine h (E := E) S rx ry ?_
  cases e : g wx wy μ with
  | ok w μ1 =>
    rw [e] at ok
    exact fun θ1 F1 H1 v x S1 r => k θ1 F1 H1 μ1 v w x S1 r (Out.Ok.mono (o := f w μ1) ok x)
  | er c μ1 => rw [e] at ok; exact ok
  | no => rw [e] at ok; exact ok
theorem ad_chain {K : PySem.W.Frag} {Wx : WX} {ta tb tc : TE} {ma mb mc : EM} {r r' : R2} {g g' : GOp} (hg : AdOp K r g) (hg' : AdOp K r' g') (ha : Ad K Wx (Rep K) ta ma) (hb : Ad K Wx (Rep K) tb mb) (hc : Ad K Wx (Rep K) tc mc) : Ad K Wx (Rep K) (tChain r r' ta tb tc) (eChain g g' ma mb mc) := by
  intro σ H Q θ F ρ μ S E ok
  refine ha.use S E ok fun θ1 F1 H1 μ1 v w x1 S1 E1 r1 ok1 => ?_
  refine hb.use S1 E1 ok1 fun θ2 F2 H2 μ2 u z x2 S2 E2 r2 ok2 => ?_
  refine hg.use S2 (r1.mono x2.pre x2.sub) r2 ok2 fun θ3 F3 H3 μ3 k kw x3 S3 r3 ok3 => ?_
  have E3 := E2.mono x3.pre x3.sub
  split at ok3
  · cases r3
    refine ⟨true, rfl, ?_⟩
    rw [if_pos rfl]
    refine hc.use S3 E3 ok3 fun θ4 F4 H4 μ4 q qw x4 S4 E4 r4 ok4 => ?_
    exact hg' S4 (r2.mono (x3.trans x4).pre (x3.trans x4).sub) r4 ok4
  · cases r3
    refine ⟨false, rfl, ?_⟩
    rw [if_neg Bool.false_ne_true]
    exact ok3.here S3 (.bl false)
  · exact ok3.elim
section
variable {X : Cx} {Wx : WX} {pos : Pos} {a b c : Expr} {ta tb tc : TE} {ma mb mc : EM} {r r' : R2} {g g' : GOp}
theorem ped_chain {op op' : CmpOp} (ho : OpR X (compareOp op) r) (hg : AdOp X.K r g) (ho' : OpR X (compareOp op') r') (hg' : AdOp X.K r' g') (ha : PED X Wx a ta ma) (hb : PED X Wx b tb mb) (hc : PED X Wx c tc mc) (hm : lastMarks [op, op'] [b, c] = false := by with_unfolding_all rfl) :
    PED X Wx (.Compare a [op, op'] [b, c] pos) (tChain r r' ta tb tc) (eChain g g' ma mb mc) := ⟨pe_chain ho ho' ha.pe hb.pe hc.pe hm, ad_chain hg hg' ha.ad hb.ad hc.ad⟩
theorem ptd_chain {op op' : CmpOp} (ho : OpR X (compareOp op) r) (hg : AdOp X.K r g) (ho' : OpR X (compareOp op') r') (hg' : AdOp X.K r' g') (ha : PED X Wx a ta ma) (hb : PED X Wx b tb mb) (hc : PED X Wx c tc mc) (hm : lastMarks [op, op'] [b, c] = false := by with_unfolding_all rfl) :
    PTD X Wx (.Compare a [op, op'] [b, c] pos) (tTest (tChain r r' ta tb tc)) (eTest (eChain g g' ma mb mc)) := ⟨pt_chain ho ho' ha.pe hb.pe hc.pe hm, ad_test (ad_chain hg hg' ha.ad hb.ad hc.ad)⟩
end

/-! and, or, not -/
abbrev BM := Env → Mu → Out Bool
def bAnd (a b : BM) : BM := fun ρ μ => (a ρ μ).bind fun k μ1 => if k = true then b ρ μ1 else .ok false μ1
def bOr (a b : BM) : BM := fun ρ μ => (a ρ μ).bind fun k μ1 => if k = true then .ok true μ1 else b ρ μ1
def bNot (a : BM) : BM := fun ρ μ => (a ρ μ).bind fun k μ1 => .ok (!k) μ1
def eIf (c : BM) (a b : EM) : EM := fun ρ μ => (c ρ μ).bind fun k μ1 => if k = true then a ρ μ1 else b ρ μ1
def eAnd (a b : EM) : EM := fun ρ μ => (a ρ μ).bind fun w μ1 => match w with
  | .bl true => b ρ μ1
  | .bl false => .ok (.bl false) μ1
  | _ => .no
def eOr (a b : EM) : EM := fun ρ μ => (a ρ μ).bind fun w μ1 => match w with
  | .bl false => b ρ μ1
  | .bl true => .ok (.bl true) μ1
  | _ => .no
def eNot (a : EM) : EM := fun ρ μ => (a ρ μ).bind fun w μ1 => match w with
  | .bl k => .ok (.bl (!k)) μ1
  | _ => .no
section
variable {X : Cx} {Wx : WX} {pos : Pos} {a b c : Expr} {rest : List Expr} {tA tB' : TT} {mA mB : BM} {ta tb : TE} {ma mb : EM}
theorem pwd_and1 (ha : PTD X Wx a tA mA) : PWD X Wx (.BoolOp .And [a] pos) tA mA := ⟨pw_and1 ha.pt, ha.ad⟩
theorem pwd_or1 (ha : PTD X Wx a tA mA) : PWD X Wx (.BoolOp .Or [a] pos) tA mA := ⟨pw_or1 ha.pt, ha.ad⟩
theorem pwd_and (ha : PTD X Wx a tA mA) (hb : PWD X Wx (.BoolOp .And (b :: rest) pos) tB' mB) : PWD X Wx (.BoolOp .And (a :: b :: rest) pos) (tAnd tA tB') (bAnd mA mB) := by
  refine ⟨pw_and ha.pt hb.pw, fun σ H Q θ F ρ μ S E ok => ?_⟩
  refine ha.ad.use S E ok fun θ1 F1 H1 μ1 v w x S1 E1 r1 ok1 => ?_
  have r1 : v = w := r1
  subst r1
  cases v with
  | true => exact hb.ad σ H1 Q θ1 F1 ρ μ1 S1 E1 ok1
  | false => exact Out.Ok.here ok1 S1 rfl
theorem pwd_or (ha : PTD X Wx a tA mA) (hb : PWD X Wx (.BoolOp .Or (b :: rest) pos) tB' mB) : PWD X Wx (.BoolOp .Or (a :: b :: rest) pos) (tOr tA tB') (bOr mA mB) := by
  refine ⟨pw_or ha.pt hb.pw, fun σ H Q θ F ρ μ S E ok => ?_⟩
  refine ha.ad.use S E ok fun θ1 F1 H1 μ1 v w x S1 E1 r1 ok1 => ?_
  have r1 : v = w := r1
  subst r1
  cases v with
  | false => exact hb.ad σ H1 Q θ1 F1 ρ μ1 S1 E1 ok1
  | true => exact Out.Ok.here ok1 S1 rfl
theorem ptd_not (ha : PTD X Wx a tA mA) : PTD X Wx (.UnaryOp .Not a pos) (tNot tA) (bNot mA) := by
  refine ⟨pt_not ha.pt, fun σ H Q θ F ρ μ S E ok => ?_⟩
  refine ha.ad.use S E ok fun θ1 F1 H1 μ1 v w x S1 E1 r1 ok1 => ?_
  have r1 : v = w := r1
  subst r1
  exact Out.Ok.here ok1 S1 rfl
theorem ped_if (hc : PTD X Wx c tA mA) (ha : PED X Wx a ta ma) (hb : PED X Wx b tb mb) : PED X Wx (.IfExp c a b pos) (tIf tA ta tb) (eIf mA ma mb) := by
  refine ⟨pe_ifExp hc.pt ha.pe hb.pe, fun σ H Q θ F ρ μ S E ok => ?_⟩
  refine hc.ad.use S E ok fun θ1 F1 H1 μ1 v w x S1 E1 r1 ok1 => ?_
  have r1 : v = w := r1
  subst r1
  cases v with
  | true => exact ha.ad σ H1 Q θ1 F1 ρ μ1 S1 E1 ok1
  | false => exact hb.ad σ H1 Q θ1 F1 ρ μ1 S1 E1 ok1
theorem ped_one {op : BoolOp} (h : PED X Wx a ta ma) : PED X Wx (.BoolOp op [a] pos) ta ma := ⟨pe_one h.pe, h.ad⟩
theorem ped_and (ha : PED X Wx a ta ma) (hb : PED X Wx (.BoolOp .And (b :: rest) pos) tb mb) : PED X Wx (.BoolOp .And (a :: b :: rest) pos) (tAndV ta tb) (eAnd ma mb) := by
  refine ⟨pe_and ha.pe hb.pe, fun σ H Q θ F ρ μ S E ok => ?_⟩
  refine ha.ad.use S E ok fun θ1 F1 H1 μ1 v w x S1 E1 r1 ok1 => ?_
  split at ok1
  · cases r1
    exact ⟨true, rfl, by rw [if_pos rfl]; exact hb.ad σ H1 Q θ1 F1 ρ μ1 S1 E1 ok1⟩
  · cases r1
    exact ⟨false, rfl, by rw [if_neg Bool.false_ne_true]; exact ok1.here S1 (.bl false)⟩
  · exact ok1.elim
theorem ped_or (ha : PED X Wx a ta ma) (hb : PED X Wx (.BoolOp .Or (b :: rest) pos) tb mb) : PED X Wx (.BoolOp .Or (a :: b :: rest) pos) (tOrV ta tb) (eOr ma mb) := by
  refine ⟨pe_or ha.pe hb.pe, fun σ H Q θ F ρ μ S E ok => ?_⟩
  refine ha.ad.use S E ok fun θ1 F1 H1 μ1 v w x S1 E1 r1 ok1 => ?_
  split at ok1
  · cases r1
    exact ⟨false, rfl, by rw [if_neg Bool.false_ne_true]; exact hb.ad σ H1 Q θ1 F1 ρ μ1 S1 E1 ok1⟩
  · cases r1
    exact ⟨true, rfl, by rw [if_pos rfl]; exact ok1.here S1 (.bl true)⟩
  · exact ok1.elim
theorem ped_not (ha : PED X Wx a ta ma) : PED X Wx (.UnaryOp .Not a pos) (tNotV ta) (eNot ma) := by
  refine ⟨pe_not ha.pe, fun σ H Q θ F ρ μ S E ok => ?_⟩
  refine ha.ad.use S E ok fun θ1 F1 H1 μ1 v w x S1 E1 r1 ok1 => ?_
  split at ok1
  · cases r1
    exact ⟨_, rfl, ok1.here S1 (.bl _)⟩
  · exact ok1.elim
end

/-! ### what a value is, as a sequence -/
def asL (μ : Mu) : W → Option (List W)
  | .lst l => some l
  | .loc n => match μ[n]? with
    | some (.lst l) => some l
    | _ => none
  | _ => none
/-- a list or tuple that is read -/
def asQ (μ : Mu) : W → Option (List W)
  | .tup l => some l
  | .scr l => some l
  | w => asL μ w
theorem asL_rep {K : PySem.W.Frag} {θ : List Addr} {F H : Hp} {μ : Mu} (S : Sim K θ F H μ) {v : V} {w : W} {l : List W} (r : Rep K θ F v w) (h : asL μ w = some l) : ∃ a vs, v = .ref a ∧ H a = some (.lst vs) ∧ RepAll K θ F vs l := by
  cases r with
  | lst e q =>
    have : _ = l := Option.some.inj h
    subst this
    exact ⟨_, _, rfl, S.sub _ _ e, q⟩
  | @loc n a e =>
    unfold asL at h
    simp only at h
    split at h
    · rename_i l' e1
      have : l' = l := Option.some.inj h
      subst this
      obtain ⟨b, e2, c⟩ := S.at e1
      rw [e] at e2; cases e2
      obtain ⟨_, vs, q1, q2⟩ := c
      exact ⟨a, vs, rfl, q1, q2⟩
    · cases h
  | non => cases h
  | bl _ => cases h
  | int _ => cases h
  | str _ => cases h
  | ty _ => cases h
  | ref _ => cases h
  | tup _ _ => cases h
  | scr _ _ => cases h
theorem asQ_rep {K : PySem.W.Frag} {θ : List Addr} {F H : Hp} {μ : Mu} (S : Sim K θ F H μ) {v : V} {w : W} {l : List W} (r : Rep K θ F v w) (h : asQ μ w = some l) : ∃ a vs, v = .ref a ∧ (SqL K H a vs ∨ SqT K H a vs) ∧ RepAll K θ F vs l := by
  cases r with
  | tup e q =>
    have : _ = l := Option.some.inj h
    subst this
    exact ⟨_, _, rfl, .inr (S.sub.sqT e), q⟩
  | scr e q =>
    have : _ = l := Option.some.inj h
    subst this
    exact ⟨_, _, rfl, .inl (S.sub.sqL e), q⟩
  | lst e q =>
    obtain ⟨a, vs, e1, e2, e3⟩ := asL_rep S (.lst e q) h
    exact ⟨a, vs, e1, .inl (.of e2), e3⟩
  | loc e =>
    obtain ⟨a, vs, e1, e2, e3⟩ := asL_rep S (.loc e) h
    exact ⟨a, vs, e1, .inl (.of e2), e3⟩
  | non => cases h
  | bl _ => cases h
  | int _ => cases h
  | str _ => cases h
  | ty _ => cases h
  | ref _ => cases h

/-! ### data, as PyData -/
mutual
def toD : W → Option PyData
  | .non => some .none
  | .bl b => some (.bool b)
  | .int i => some (.int i)
  | .str s => some (.str s)
  | .tup l => (toDs l).map .tuple
  | .lst l => (toDs l).map .list
  | .scr l => (toDs l).map .list
  | .loc _ => none
  | .ref _ => none
  | .ty _ => none
def toDs : List W → Option (List PyData)
  | [] => some []
  | w :: ws => match toD w with
    | some d => (toDs ws).map (d :: ·)
    | none => none
end
def topD (μ : Mu) : W → Option PyData
  | .loc n => match μ[n]? with
    | some (.lst l) => (toDs l).map .list
    | _ => none
  | w => toD w
mutual
theorem toD_rep {K : PySem.W.Frag} {θ : List Addr} {F H : Hp} (e : Sub F H) : ∀ {v : V} {w : W} {d : PyData}, Rep K θ F v w → toD w = some d → Dp K H v d
  | _, _, _, .non, h => by simp [toD] at h; subst h; exact .non
  | _, _, _, .bl b, h => by simp [toD] at h; subst h; exact .bl b
  | _, _, _, .int i, h => by simp [toD] at h; subst h; exact .int i
  | _, _, _, .str x, h => by simp [toD] at h; subst h; exact .str x
  | _, _, _, .ty n, h => by simp [toD] at h
  | _, _, _, .ref a, h => by simp [toD] at h
  | _, _, _, .loc q, h => by simp [toD] at h
  | _, _, _, .tup q r, h => by
    simp only [toD, Option.map_eq_some_iff] at h
    obtain ⟨ds, h1, rfl⟩ := h
    exact .tup (e.sqT q) (toDs_rep e r h1)
  | _, _, _, .lst q r, h => by
    simp only [toD, Option.map_eq_some_iff] at h
    obtain ⟨ds, h1, rfl⟩ := h
    exact .lst (.of (e _ _ q)) (toDs_rep e r h1)
  | _, _, _, .scr q r, h => by
    simp only [toD, Option.map_eq_some_iff] at h
    obtain ⟨ds, h1, rfl⟩ := h
    exact .lst (e.sqL q) (toDs_rep e r h1)
theorem toDs_rep {K : PySem.W.Frag} {θ : List Addr} {F H : Hp} (e : Sub F H) : ∀ {vs : List V} {ws : List W} {ds : List PyData}, RepAll K θ F vs ws → toDs ws = some ds → DpAll K H vs ds
  | _, _, _, .nil, h => by simp [toDs] at h; subst h; exact .nil
  | _, _, ds, .cons (w := w) (ws := ws) r t, h => by
    simp only [toDs] at h
    split at h
    · rename_i d hd
      simp only [Option.map_eq_some_iff] at h
      obtain ⟨ds', h1, rfl⟩ := h
      exact .cons (toD_rep e r hd) (toDs_rep e t h1)
    · cases h
end
theorem topD_rep {K : PySem.W.Frag} {θ : List Addr} {F H : Hp} {μ : Mu} (S : Sim K θ F H μ) {v : V} {w : W} {d : PyData} (r : Rep K θ F v w) (h : topD μ w = some d) : Dp K H v d := by
  cases r with
  | @loc n a e =>
    unfold topD at h
    simp only at h
    split at h
    · rename_i l e1
      simp only [Option.map_eq_some_iff] at h
      obtain ⟨ds, h1, rfl⟩ := h
      obtain ⟨b, e2, c⟩ := S.at e1
      rw [e] at e2; cases e2
      obtain ⟨_, vs, q1, q2⟩ := c
      exact .lst (.of q1) (toDs_rep S.sub q2 h1)
    · cases h
  | non => exact toD_rep (θ := θ) S.sub .non h
  | bl b => exact toD_rep (θ := θ) S.sub (.bl b) h
  | int i => exact toD_rep (θ := θ) S.sub (.int i) h
  | str x => exact toD_rep (θ := θ) S.sub (.str x) h
  | ty n => exact toD_rep (θ := θ) S.sub (.ty n) h
  | ref a => exact toD_rep (θ := θ) S.sub (.ref a) h
  | tup q r => exact toD_rep S.sub (.tup q r) h
  | lst q r => exact toD_rep S.sub (.lst q r) h
  | scr q r => exact toD_rep S.sub (.scr q r) h

/-! ### operators -/
def gI (f : Int → Int → W) : GOp := fun x y μ => match x, y with
  | .int i, .int j => .ok (f i j) μ
  | _, _ => .no
def gIC (C : Int → Int → Bool) (f : Int → Int → W) : GOp := fun x y μ => match x, y with
  | .int i, .int j => if C i j = true then .ok (f i j) μ else .no
  | _, _ => .no
section
variable {K : PySem.W.Frag}
theorem ad_rI {f : Int → Int → W} {g : Int → Int → V} (h : ∀ i j θ F, Rep K θ F (g i j) (f i j)) : AdOp K (rI0 g) (gI f) := by
  intro x y wx wy E Q H θ F μ S rx ry ok
  unfold gI at ok
  split at ok
  · cases rx; cases ry
    exact ⟨_, _, rfl, rfl, ok.here S (h _ _ _ _)⟩
  · exact ok.elim
theorem ad_rIC {C : Int → Int → Bool} {C' : Int → Int → Prop} {f : Int → Int → W} {g : Int → Int → V} (hC : ∀ i j, C i j = true → C' i j) (h : ∀ i j θ F, Rep K θ F (g i j) (f i j)) : AdOp K (rI C' g) (gIC C f) := by
  intro x y wx wy E Q H θ F μ S rx ry ok
  unfold gIC at ok
  split at ok
  · cases rx; cases ry
    split at ok
    · rename_i hc
      exact ⟨_, _, rfl, rfl, hC _ _ hc, ok.here S (h _ _ _ _)⟩
    · exact ok.elim
  · exact ok.elim
def gSub : GOp := gI fun i j => .int (i - j)
theorem ad_sub : AdOp K (rI0 fun i j => .int (i - j)) gSub := ad_rI fun _ _ _ _ => .int _
def gMulI : GOp := gIC (fun i j => (decide (-(2 ^ 64) < i) && decide (i < 2 ^ 64)) || (decide (-(2 ^ 64) < j) && decide (j < 2 ^ 64))) fun i j => .int (i * j)
theorem ad_mulI : AdOp K (rI CMul fun i j => .int (i * j)) gMulI := ad_rIC (fun i j h => by simpa [CMul] using h) fun _ _ _ _ => .int _
def gDiv : GOp := gIC (fun _ j => decide (0 < j) && decide (j < 1073741824)) fun i j => .int (i / j)
theorem ad_div : AdOp K (rI CDiv fun i j => .int (i / j)) gDiv := ad_rIC (fun i j h => by simpa [CDiv] using h) fun _ _ _ _ => .int _
def gMod : GOp := gIC (fun _ j => decide (0 < j)) fun i j => .int (i % j)
theorem ad_mod : AdOp K (rI (fun _ j => 0 < j) fun i j => .int (i % j)) gMod := ad_rIC (fun i j h => by simpa using h) fun _ _ _ _ => .int _
def gPow : GOp := gIC (fun i j => decide (0 ≤ j) && decide (j ≤ 1000000) && decide (i.natAbs < 2 ^ 64)) fun i j => .int (i ^ j.toNat)
theorem ad_pow : AdOp K (rI CPow fun i j => .int (i ^ j.toNat)) gPow := ad_rIC (fun i j h => by
  simp only [Bool.and_eq_true, decide_eq_true_eq] at h
  exact ⟨h.1.1, h.1.2, h.2⟩) fun _ _ _ _ => .int _
def gLt : GOp := gI fun i j => .bl (decide (i < j))
def gLe : GOp := gI fun i j => .bl (decide (i ≤ j))
def gGt : GOp := gI fun i j => .bl (decide (j < i))
def gGe : GOp := gI fun i j => .bl (decide (j ≤ i))
theorem ad_lt : AdOp K (rI0 fun i j => .bl (decide (i < j))) gLt := ad_rI fun _ _ _ _ => .bl _
theorem ad_le : AdOp K (rI0 fun i j => .bl (decide (i ≤ j))) gLe := ad_rI fun _ _ _ _ => .bl _
theorem ad_gt : AdOp K (rI0 fun i j => .bl (decide (j < i))) gGt := ad_rI fun _ _ _ _ => .bl _
theorem ad_ge : AdOp K (rI0 fun i j => .bl (decide (j ≤ i))) gGe := ad_rI fun _ _ _ _ => .bl _
/-- +: ints, lists, tuples, texts -/
def gAddI : GOp := gI fun i j => .int (i + j)
theorem ad_addI : AdOp K (rI0 fun i j => .int (i + j)) gAddI := ad_rI fun _ _ _ _ => .int _
def gCat : GOp := fun x y μ => match asL μ x, asL μ y with
  | some l, some r => if l.length + r.length ≤ sizeLine then .ok (.lst (l ++ r)) μ else .no
  | _, _ => .no
theorem ad_cat : AdOp K rCat gCat := by
  intro x y wx wy E Q H θ F μ S rx ry ok
  unfold gCat at ok
  split at ok
  · rename_i l r e1 e2
    split at ok
    · rename_i hl
      obtain ⟨a, vs, rfl, h1, q1⟩ := asL_rep S rx e1
      obtain ⟨b, us, rfl, h2, q2⟩ := asL_rep S ry e2
      refine ⟨a, b, vs, us, rfl, rfl, h1, h2, by rw [q1.length, q2.length]; exact hl, fun p hp => ?_⟩
      obtain ⟨S1, x1⟩ := S.froze (.lst (vs ++ us)) hp
      exact ok _ _ _ _ x1 S1 (.lst upd_same ((q1.append q2).mono x1.pre x1.sub))
    · exact ok.elim
  · exact ok.elim
def gCatT : GOp := fun x y μ => match x, y with
  | .tup l, .tup r => if l.length + r.length ≤ sizeLine then .ok (.tup (l ++ r)) μ else .no
  | _, _ => .no
theorem ad_catT : AdOp K (rCatA K) gCatT := by
  intro x y wx wy E Q H θ F μ S rx ry ok
  unfold gCatT at ok
  split at ok
  · rename_i l r
    split at ok
    · rename_i hl
      cases rx with
      | @tup a vs _ h1 q1 =>
        cases ry with
        | @tup b us _ h2 q2 =>
          refine ⟨a, b, vs, us, rfl, rfl, S.sub.sqT h1, S.sub.sqT h2, by rw [q1.length, q2.length]; exact hl, fun z => ?_, fun z1 z2 => ?_, fun _ _ p hp => ?_⟩
          · subst z
            cases q1
            exact ok.here S (.tup h2 q2)
          · subst z2
            cases q2
            rw [List.append_nil] at ok
            exact ok.here S (.tup h1 q1)
          · obtain ⟨S1, x1⟩ := S.froze (.tup (vs ++ us)) hp
            exact ok _ _ _ _ x1 S1 (.tup (.of upd_same) ((q1.append q2).mono x1.pre x1.sub))
    · exact ok.elim
  · exact ok.elim
def gCatS : GOp := fun x y μ => match x, y with
  | .str l, .str r => if l.length + r.length ≤ sizeLine then .ok (.str (l ++ r)) μ else .no
  | _, _ => .no
theorem ad_catS : AdOp K (fun x y H Q => ∃ i j, x = .str i ∧ y = .str j ∧ i.length + j.length ≤ sizeLine ∧ Q (.str (i ++ j)) H) gCatS := by
  intro x y wx wy E Q H θ F μ S rx ry ok
  unfold gCatS at ok
  split at ok
  · split at ok
    · rename_i hl
      cases rx; cases ry
      exact ⟨_, _, rfl, rfl, hl, ok.here S (.str _)⟩
    · exact ok.elim
  · exact ok.elim
def gAdd : GOp := orG gAddI (orG gCat (orG gCatT gCatS))
def rAddA (K : PySem.W.Frag) : R2 := fun x y H Q => (∃ i j, x = .int i ∧ y = .int j ∧ Q (.int (i + j)) H) ∨ (rCat x y H Q ∨ (rCatA K x y H Q ∨ ∃ i j, x = .str i ∧ y = .str j ∧ i.length + j.length ≤ sizeLine ∧ Q (.str (i ++ j)) H))
theorem ad_add : AdOp K (rAddA K) gAdd := ad_addI.or (ad_cat.or (ad_catT.or ad_catS))
theorem opd_add {X : Cx} : OpR X (binaryOp .Add) (rAddA X.K) := op_add.or (op_cat.or (op_catA.or op_add_str))
/-- *: ints, a list again and again -/
def gRep : GOp := fun x y μ => match asL μ x, y with
  | some l, .int k => if -(2 ^ 63) ≤ k ∧ k < 2 ^ 63 ∧ l.length * k.toNat ≤ sizeLine then .ok (.lst (List.replicate k.toNat l).flatten) μ else .no
  | _, _ => .no
end

section
variable {K : PySem.W.Frag}
theorem ad_rep : AdOp K rRep gRep := by
  intro x y wx wy E Q H θ F μ S rx ry ok
  unfold gRep at ok
  split at ok
  · rename_i l k e1
    split at ok
    · rename_i hc
      cases ry
      obtain ⟨a, vs, rfl, h1, q1⟩ := asL_rep S rx e1
      refine ⟨a, k, vs, rfl, rfl, h1, hc.1, hc.2.1, by rw [q1.length]; exact hc.2.2, fun p hp => ?_⟩
      obtain ⟨S1, x1⟩ := S.froze (.lst (List.replicate k.toNat vs).flatten) hp
      exact ok _ _ _ _ x1 S1 (.lst upd_same ((q1.rep _).mono x1.pre x1.sub))
    · exact ok.elim
  · exact ok.elim
def gMul : GOp := orG gMulI gRep
theorem ad_mul : AdOp K (fun x y H Q => (rI CMul fun i j => V.int (i * j)) x y H Q ∨ rRep x y H Q) gMul := ad_mulI.or ad_rep
theorem opd_mul {X : Cx} : OpR X (binaryOp .Mult) (fun x y H Q => (rI CMul fun i j => V.int (i * j)) x y H Q ∨ rRep x y H Q) := op_mul.or op_rep
/-- == and != of data -/
def gEq : GOp := fun x y μ => match topD μ x, topD μ y with
  | some d, some e => if SeqAt.shaped d = true ∧ SeqAt.shaped e = true then .ok (.bl (PyData.eqv d e)) μ else .no
  | _, _ => .no
def gNe : GOp := fun x y μ => match topD μ x, topD μ y with
  | some d, some e => if SeqAt.shaped d = true ∧ SeqAt.shaped e = true then .ok (.bl (!PyData.eqv d e)) μ else .no
  | _, _ => .no
theorem ad_eq : AdOp K (rEqD K) gEq := by
  intro x y wx wy E Q H θ F μ S rx ry ok
  unfold gEq at ok
  split at ok
  · split at ok
    · rename_i d e h1 h2 h3
      exact ⟨d, e, topD_rep S rx h1, topD_rep S ry h2, h3.1, h3.2, ok.here S (.bl _)⟩
    · exact ok.elim
  · exact ok.elim
theorem ad_ne : AdOp K (rNeD K) gNe := by
  intro x y wx wy E Q H θ F μ S rx ry ok
  unfold gNe at ok
  split at ok
  · split at ok
    · rename_i d e h1 h2 h3
      exact ⟨d, e, topD_rep S rx h1, topD_rep S ry h2, h3.1, h3.2, ok.here S (.bl _)⟩
    · exact ok.elim
  · exact ok.elim
/-- is None, is not None -/
def isNon : W → Bool
  | .non => true
  | _ => false
theorem rep_non {θ : List Addr} {F : Hp} {v : V} {w : W} (r : Rep K θ F v w) : decide (v = .non) = isNon w := by
  cases r <;> rfl
def gIsN : GOp := fun x y μ => match y with
  | .non => .ok (.bl (isNon x)) μ
  | _ => .no
def gNotN : GOp := fun x y μ => match y with
  | .non => .ok (.bl (!isNon x)) μ
  | _ => .no
theorem ad_isN : AdOp K (fun x y H Q => y = .non ∧ Q (.bl (decide (x = .non))) H) gIsN := by
  intro x y wx wy E Q H θ F μ S rx ry ok
  unfold gIsN at ok
  split at ok
  · cases ry
    rw [rep_non rx]
    exact ⟨rfl, ok.here S (.bl _)⟩
  · exact ok.elim
theorem ad_notN : AdOp K (fun x y H Q => y = .non ∧ Q (.bl (!decide (x = .non))) H) gNotN := by
  intro x y wx wy E Q H θ F μ S rx ry ok
  unfold gNotN at ok
  split at ok
  · cases ry
    rw [rep_non rx]
    exact ⟨rfl, ok.here S (.bl _)⟩
  · exact ok.elim
/-- x in t, x not in t: flat things -/
def flatW : W → Bool
  | .non => true | .bl _ => true | .int _ => true | .str _ => true | _ => false
def eqW : W → W → Bool
  | .non, .non => true
  | .bl a, .bl b => a == b
  | .int a, .int b => a == b
  | .bl a, .int b => (if a then 1 else 0) == b
  | .int a, .bl b => a == (if b then 1 else 0)
  | .str a, .str b => a == b
  | _, _ => false
end

section
variable {K : PySem.W.Frag}
theorem rep_flat {θ : List Addr} {F : Hp} {v : V} {w : W} (r : Rep K θ F v w) (h : flatW w = true) : flatV v = true := by
  cases r <;> first | rfl | cases h
theorem rep_eqW {θ θ' : List Addr} {F F' : Hp} {v u : V} {w z : W} (r : Rep K θ F v w) (q : Rep K θ' F' u z) (h : flatW w = true) (h' : flatW z = true) : eqV v u = eqW w z := by
  cases r <;> cases q <;> first | rfl | cases h | cases h'
theorem repAll_flat {θ : List Addr} {F : Hp} : ∀ {vs : List V} {ws : List W}, RepAll K θ F vs ws → ws.all flatW = true → vs.all flatV = true
  | _, _, .nil, _ => rfl
  | _, _, .cons r t, h => by
    rw [List.all_cons, Bool.and_eq_true] at h ⊢
    exact ⟨rep_flat r h.1, repAll_flat t h.2⟩
theorem repAll_in {θ θ' : List Addr} {F F' : Hp} {v : V} {w : W} (r : Rep K θ' F' v w) (hw : flatW w = true) : ∀ {vs : List V} {ws : List W}, RepAll K θ F vs ws → ws.all flatW = true → inV v vs = ws.any fun z => eqW z w
  | _, _, .nil, _ => rfl
  | _, _, .cons q t, h => by
    rw [List.all_cons, Bool.and_eq_true] at h
    have ih := repAll_in r hw t h.2
    unfold inV at ih ⊢
    rw [List.any_cons, List.any_cons, ih, rep_eqW q r h.1 hw]
def gInF (neg : Bool) : GOp := fun x y μ => match asQ μ y with
  | some l => if flatW x = true ∧ l.all flatW = true then .ok (.bl (if neg = true then !(l.any fun z => eqW z x) else l.any fun z => eqW z x)) μ else .no
  | _ => .no
theorem ad_inF (neg : Bool) : AdOp K (rIn K neg) (gInF neg) := by
  intro x y wx wy E Q H θ F μ S rx ry ok
  unfold gInF at ok
  split at ok
  · split at ok
    · rename_i l h1 h2
      obtain ⟨a, vs, rfl, h3, q⟩ := asQ_rep S ry h1
      refine ⟨a, vs, rfl, h3, rep_flat rx h2.1, repAll_flat q h2.2, ?_⟩
      rw [repAll_in rx h2.1 q h2.2]
      exact ok.here S (.bl _)
    · exact ok.elim
  · exact ok.elim
def gInD (neg : Bool) : GOp := fun x y μ => match topD μ x, topD μ y with
  | some d, some (.list ds) => if SeqAt.shaped d = true ∧ SeqAt.shaped (.list ds) = true then .ok (.bl (if neg = true then !(ds.any fun z => PyData.eqv z d) else ds.any fun z => PyData.eqv z d)) μ else .no
  | _, _ => .no
theorem ad_inD : AdOp K (rInD K) (gInD false) := by
  intro x y wx wy E Q H θ F μ S rx ry ok
  unfold gInD at ok
  split at ok
  · split at ok
    · rename_i d ds h1 h2 h3
      exact ⟨d, ds, topD_rep S rx h1, topD_rep S ry h2, h3.1, h3.2, ok.here S (.bl _)⟩
    · exact ok.elim
  · exact ok.elim
theorem ad_notInD : AdOp K (rNotInD K) (gInD true) := by
  intro x y wx wy E Q H θ F μ S rx ry ok
  unfold gInD at ok
  split at ok
  · split at ok
    · rename_i d ds h1 h2 h3
      exact ⟨d, ds, topD_rep S rx h1, topD_rep S ry h2, h3.1, h3.2, ok.here S (.bl _)⟩
    · exact ok.elim
  · exact ok.elim
def gIn : GOp := orG (gInF false) (gInD false)
def gNotIn : GOp := orG (gInF true) (gInD true)
theorem ad_in : AdOp K (fun x y H Q => rIn K false x y H Q ∨ rInD K x y H Q) gIn := AdOp.or (ad_inF false) ad_inD
theorem ad_notIn : AdOp K (fun x y H Q => rIn K true x y H Q ∨ rNotInD K x y H Q) gNotIn := AdOp.or (ad_inF true) ad_notInD
theorem opd_in {X : Cx} (hu : X.A.units + 65 < cLine) : OpR X (compareOp .In) (fun x y H Q => rIn X.K false x y H Q ∨ rInD X.K x y H Q) := op_in_seq.or (op_inD hu)
theorem opd_notIn {X : Cx} (hu : X.A.units + 65 < cLine) : OpR X (compareOp .NotIn) (fun x y H Q => rIn X.K true x y H Q ∨ rNotInD X.K x y H Q) := op_notIn_seq.or (op_notInD hu)
theorem room65 {k : Nat} {A : Around} (r : Room k A) : A.units + 65 < cLine := by have := r.un; omega
theorem room64 {k : Nat} {A : Around} (r : Room k A) : A.units + 64 < cLine := by have := r.un; omega

/-! ### truth -/
def truW (μ : Mu) : W → Option Bool
  | .non => some false
  | .bl b => some b
  | .int i => some (i != 0)
  | .str y => if y.length ≤ sizeLine then some ((y.length : Int) != 0) else none
  | w => (asQ μ w).map fun l => !l.isEmpty
theorem isEmpty_rep {θ : List Addr} {F : Hp} {vs : List V} {ws : List W} (q : RepAll K θ F vs ws) : vs.isEmpty = ws.isEmpty := by cases q <;> rfl
theorem truW_rep {θ : List Addr} {F H : Hp} {μ : Mu} (S : Sim K θ F H μ) {v : V} {w : W} {k : Bool} (r : Rep K θ F v w) (h : truW μ w = some k) : TruV K v H k := by
  have seq : ∀ {w : W} {v : V}, Rep K θ F v w → (asQ μ w).map (fun l => !l.isEmpty) = some k → TruV K v H k := fun {w v} r h => by
    simp only [Option.map_eq_some_iff] at h
    obtain ⟨l, h1, h2⟩ := h
    obtain ⟨a, vs, rfl, h3, q⟩ := asQ_rep S r h1
    rcases h3 with h3 | h3
    · exact .inl ⟨vs, h3, by rw [isEmpty_rep q]; exact h2.symm⟩
    · exact .inr (.inl ⟨vs, h3, by rw [isEmpty_rep q]; exact h2.symm⟩)
  cases r with
  | non => exact (Option.some.inj h).symm
  | bl b => exact (Option.some.inj h).symm
  | int i => exact (Option.some.inj h).symm
  | str y =>
    unfold truW at h
    simp only at h
    split at h
    · rename_i hl
      exact ⟨hl, (Option.some.inj h).symm⟩
    · cases h
  | ty n => cases h
  | ref a => cases h
  | loc e => exact seq (.loc e) h
  | tup e q => exact seq (.tup e q) h
  | lst e q => exact seq (.lst e q) h
  | scr e q => exact seq (.scr e q) h
def eTru (m : EM) : BM := fun ρ μ => (m ρ μ).bind fun w μ1 => match truW μ1 w with
  | some k => .ok k μ1
  | none => .no
end
section
variable {X : Cx} {Wx : WX} {pos : Pos} {a b c : Expr} {es : List Expr} {ta tb tc : TE} {ma mb mc : EM} {t : TA}
theorem ptd_truth {e : Expr} {t : TE} {m : EM} (h : PED X Wx e t m) (he : ∀ whole, isTrue e X.env whole = (do let v ← whole; standAt e.pos; holding [v] (truthy v)) := by intro _; rfl) :
    PTD X Wx e (fun σ H Q => t σ H fun x H1 => ∃ k, TruV X.K x H1 k ∧ Q k H1) (eTru m) := by
  refine ⟨pt_truth h.pe he, fun σ H Q θ F ρ μ S E ok => ?_⟩
  refine h.ad.use S E ok fun θ1 F1 H1 μ1 v w x S1 E1 r1 ok1 => ?_
  split at ok1
  · rename_i k hk
    exact ⟨k, truW_rep S1 r1 hk, Out.Ok.here ok1 S1 rfl⟩
  · exact ok1.elim

/-! ### arguments, displays -/
abbrev AM := Env → Mu → Out (List W)
def aNil : AM := fun _ μ => .ok [] μ
def aCons (a : EM) (r : AM) : AM := fun ρ μ => (a ρ μ).bind fun x μ1 => (r ρ μ1).bind fun xs μ2 => .ok (x :: xs) μ2
theorem pad_nil : PAD X Wx [] tNil aNil := ⟨pa_nil, fun σ H Q θ F ρ μ S E ok => ok.here S .nil⟩
theorem ad_acons {K : PySem.W.Frag} {m : EM} {r : AM} {te : TE} (ha : Ad K Wx (Rep K) te m) (hr : Ad K Wx (RepAll K) t r) : Ad K Wx (RepAll K) (tCons te t) (aCons m r) := by
  intro σ H Q θ F ρ μ S E ok
  refine ha.use S E ok fun θ1 F1 H1 μ1 v w x1 S1 E1 r1 ok1 => ?_
  refine hr.use S1 E1 ok1 fun θ2 F2 H2 μ2 vs ws x2 S2 E2 r2 ok2 => ?_
  exact Out.Ok.here ok2 S2 (.cons (r1.mono x2.pre x2.sub) r2)
theorem pad_cons {e : Expr} {m : EM} {r : AM} {te : TE} (ha : PED X Wx e te m) (hr : PAD X Wx es t r) (hs : starEach (e :: es) X.env = (false, eval e X.env) :: starEach es X.env := by rfl) : PAD X Wx (e :: es) (tCons te t) (aCons m r) :=
  ⟨pa_cons ha.pe hr.pa hs, ad_acons ha.ad hr.ad⟩
def eTup (m : AM) : EM := fun ρ μ => (m ρ μ).bind fun ws μ1 => if ws.length ≤ sizeLine then .ok (.tup ws) μ1 else .no
def eLst (m : AM) : EM := fun ρ μ => (m ρ μ).bind fun ws μ1 => if ws.length ≤ sizeLine then .ok (.lst ws) μ1 else .no
/-- a list that will be changed -/
def eNew (m : AM) : EM := fun ρ μ => (m ρ μ).bind fun ws μ1 => if ws.length ≤ sizeLine then .ok (.loc μ1.length) (μ1 ++ [.lst ws]) else .no
theorem ped_tup {m : AM} {x1 : Nat} (h : PAD X Wx es t m) : PED X Wx (.Tuple es x1 pos) (tTup t) (eTup m) := by
  refine ⟨pe_tup h.pa, fun σ H Q θ F ρ μ S E ok => ?_⟩
  refine h.ad.use S E ok fun θ1 F1 H1 μ1 vs ws x S1 E1 r1 ok1 => ?_
  split at ok1
  · rename_i hl
    refine ⟨by rw [r1.length]; exact hl, fun p hp => ?_⟩
    obtain ⟨S2, x2⟩ := S1.froze (.tup vs) hp
    exact ok1 _ _ _ _ x2 S2 (.tup (.of upd_same) (r1.mono x2.pre x2.sub))
  · exact ok1.elim
theorem ped_lst {m : AM} (h : PAD X Wx es t m) : PED X Wx (.List es pos) (tLst t) (eLst m) := by
  refine ⟨pe_lst h.pa, fun σ H Q θ F ρ μ S E ok => ?_⟩
  refine h.ad.use S E ok fun θ1 F1 H1 μ1 vs ws x S1 E1 r1 ok1 => ?_
  split at ok1
  · rename_i hl
    refine ⟨by rw [r1.length]; exact hl, fun p hp => ?_⟩
    obtain ⟨S2, x2⟩ := S1.froze (.lst vs) hp
    exact ok1 _ _ _ _ x2 S2 (.lst upd_same (r1.mono x2.pre x2.sub))
  · exact ok1.elim
theorem new_cell {K : PySem.W.Frag} {θ : List Addr} {F H : Hp} {μ : Mu} (S : Sim K θ F H μ) {vs : List V} {ws : List W} (q : RepAll K θ F vs ws) {p : Addr} (hp : H p = none) :
    Sim K (θ ++ [p]) F (upd H p (.lst vs)) (μ ++ [.lst ws]) ∧ Ext θ F H (θ ++ [p]) F (upd H p (.lst vs)) ∧ Rep K (θ ++ [p]) F (.ref p) (.loc μ.length) := by
  obtain ⟨S2, x2⟩ := S.alloc (p := p) (o := .lst vs) (c := .lst ws) hp ⟨S.outF hp, vs, upd_same, q.mono (pre_app θ p) (.refl F)⟩
  exact ⟨S2, x2, .loc (by rw [← S.len, List.getElem?_append_right (Nat.le_refl _)]; simp)⟩
theorem ped_new {m : AM} (h : PAD X Wx es t m) : PED X Wx (.List es pos) (tLst t) (eNew m) := by
  refine ⟨pe_lst h.pa, fun σ H Q θ F ρ μ S E ok => ?_⟩
  refine h.ad.use S E ok fun θ1 F1 H1 μ1 vs ws x S1 E1 r1 ok1 => ?_
  split at ok1
  · rename_i hl
    refine ⟨by rw [r1.length]; exact hl, fun p hp => ?_⟩
    obtain ⟨S2, x2, r2⟩ := new_cell S1 r1 hp
    exact ok1 _ _ _ _ x2 S2 r2
  · exact ok1.elim
end

/-! ### subscripts, slices -/
theorem atI_rep {K : PySem.W.Frag} {θ : List Addr} {F : Hp} {vs : List V} {ws : List W} (q : RepAll K θ F vs ws) {i : Int} {w : W} (h : atI ws i = some w) : ∃ v, atI vs i = some v ∧ Rep K θ F v w := by
  unfold atI at h ⊢
  rw [q.length]
  cases e : ixN ws.length i with
  | none => rw [e] at h; cases h
  | some j =>
    rw [e, Option.bind_some] at h
    obtain ⟨v, e1, r⟩ := q.get h
    exact ⟨v, by rw [Option.bind_some]; exact e1, r⟩
def gIxQ : GOp := fun x y μ => match asQ μ x, y with
  | some l, .int i => match atI l i with
    | some w => .ok w μ
    | none => .no
  | _, _ => .no
def gIxS : GOp := fun x y μ => match x, y with
  | .str z, .int i => if z.length ≤ sizeLine then match atI z.cps.toList i with
    | some c => .ok (.str ⟨#[c]⟩) μ
    | none => .no else .no
  | _, _ => .no
section
variable {K : PySem.W.Frag}
theorem ad_ixQ : AdOp K (fun x y H Q => rIxL K x y H Q ∨ rIxT K x y H Q) gIxQ := by
  intro x y wx wy E Q H θ F μ S rx ry ok
  unfold gIxQ at ok
  split at ok
  · rename_i l i h1
    split at ok
    · rename_i w h2
      cases ry
      obtain ⟨a, vs, rfl, h3, q⟩ := asQ_rep S rx h1
      obtain ⟨v, h4, r4⟩ := atI_rep q h2
      rcases h3 with h3 | h3
      · exact .inl ⟨a, vs, i, v, rfl, rfl, h3, h4, ok.here S r4⟩
      · exact .inr ⟨a, vs, i, v, rfl, rfl, h3, h4, ok.here S r4⟩
    · exact ok.elim
  · exact ok.elim
theorem ad_ixS : AdOp K rIxS gIxS := by
  intro x y wx wy E Q H θ F μ S rx ry ok
  unfold gIxS at ok
  split at ok
  · split at ok
    · rename_i hz
      split at ok
      · rename_i c hc
        cases rx; cases ry
        exact ⟨_, _, c, rfl, rfl, hz, hc, ok.here S (.str _)⟩
      · exact ok.elim
    · exact ok.elim
  · exact ok.elim
def gIx : GOp := orG gIxQ gIxS
theorem ad_ix : AdOp K (fun x y H Q => (rIxL K x y H Q ∨ rIxT K x y H Q) ∨ rIxS x y H Q) gIx := AdOp.or ad_ixQ ad_ixS
end
theorem ixd {X : Cx} : IxR X (fun x y H Q => (rIxL X.K x y H Q ∨ rIxT X.K x y H Q) ∨ rIxS x y H Q) := (ix_list.or ix_tup).or ix_str
section
variable {X : Cx} {Wx : WX} {pos p2 : Pos} {a b : Expr} {ta tb : TE} {ma mb : EM}
theorem ped_ix (ha : PED X Wx a ta ma) (hb : PED X Wx b tb mb) (hs : PlainIx b := by exact fun _ _ => rfl) : PED X Wx (.Subscript a b pos) (tOp (fun x y H Q => (rIxL X.K x y H Q ∨ rIxT X.K x y H Q) ∨ rIxS x y H Q) ta tb) (eBin gIx ma mb) :=
  ⟨pe_ix ixd ha.pe hb.pe hs, ad_bin ad_ix ha.ad hb.ad⟩
end
/-- a part of a slice -/
abbrev OM := Env → Mu → Out (Option Int)
def oNone : OM := fun _ μ => .ok none μ
def oSome (m : EM) : OM := fun ρ μ => (m ρ μ).bind fun w μ1 => match w with
  | .int i => .ok (some i) μ1
  | _ => .no
structure POD (X : Cx) (Wx : WX) (e : Option Expr) (t : TO) (m : OM) : Prop where
  po : PO X e t
  ad : Ad X.K Wx REq t m
theorem pod_none {X : Cx} {Wx : WX} : POD X Wx none tNoPart oNone := ⟨po_none, fun σ H Q θ F ρ μ S E ok => Out.Ok.here ok S rfl⟩
theorem pod_some {X : Cx} {Wx : WX} {e : Expr} {t : TE} {m : EM} (h : PED X Wx e t m) : POD X Wx (some e) (tPart t) (oSome m) := by
  refine ⟨po_some h.pe, fun σ H Q θ F ρ μ S E ok => ?_⟩
  refine h.ad.use S E ok fun θ1 F1 H1 μ1 v w x S1 E1 r1 ok1 => ?_
  split at ok1
  · cases r1
    exact ⟨_, rfl, Out.Ok.here ok1 S1 rfl⟩
  · exact ok1.elim
def cutW (ws : List W) (lo hi : Option Int) : List W := (ws.drop (HT.sIx ws.length 0 lo)).take (HT.sIx ws.length ws.length hi - HT.sIx ws.length 0 lo)
theorem cut_rep {K : PySem.W.Frag} {θ : List Addr} {F : Hp} {vs : List V} {ws : List W} (q : RepAll K θ F vs ws) (lo hi : Option Int) : RepAll K θ F (cutV vs lo hi) (cutW ws lo hi) := by
  unfold cutV cutW
  rw [q.length]
  exact (q.drop _).take _
def gCut : W → Option Int → Option Int → Mu → Out W := fun x lo hi μ => match x with
  | .tup l => .ok (.tup (cutW l lo hi)) μ
  | .scr l => .ok (.lst (cutW l lo hi)) μ
  | w => match asL μ w with
    | some l => .ok (.lst (cutW l lo hi)) μ
    | none => .no
def eCut (a : EM) (lo hi : OM) : EM := fun ρ μ => (a ρ μ).bind fun x μ1 => (lo ρ μ1).bind fun l μ2 => (hi ρ μ2).bind fun u μ3 => gCut x l u μ3
theorem cut_whole (ws : List W) (lo hi : Option Int) (h : HT.sIx ws.length 0 lo = 0 ∧ HT.sIx ws.length ws.length hi = ws.length) : cutW ws lo hi = ws := by
  unfold cutW
  rw [h.1, h.2, List.drop_zero, Nat.sub_zero, List.take_length]
theorem ad_cut {K : PySem.W.Frag} {x : V} {w : W} {lo hi : Option Int} {E : Addr → Hp → Prop} {Q : VK} {H : Hp} {θ : List Addr} {F : Hp} {μ : Mu} (S : Sim K θ F H μ) (r : Rep K θ F x w) (ok : (gCut w lo hi μ).Ok K (Rep K) θ F H E Q) : rSlL K x lo hi H Q ∨ rSlA K x lo hi H Q := by
  have lst : ∀ {a vs l}, x = .ref a → SqL K H a vs → RepAll K θ F vs l → Out.Ok K (Rep K) θ F H E Q (.ok (.lst (cutW l lo hi)) μ) → rSlL K x lo hi H Q := fun {a vs l} e h q ok => by
    subst e
    refine ⟨a, vs, rfl, h, fun p hp => ?_⟩
    obtain ⟨S1, x1⟩ := S.froze (.lst (cutV vs lo hi)) hp
    exact ok _ _ _ _ x1 S1 (.lst upd_same ((cut_rep q lo hi).mono x1.pre x1.sub))
  unfold gCut at ok
  split at ok
  · rename_i l
    cases r with
    | @tup a vs _ h q =>
      refine .inr ⟨a, vs, rfl, S.sub.sqT h, fun z => ?_, fun _ p hp => ?_⟩
      · rw [q.length] at z
        rw [cut_whole l lo hi z] at ok
        exact ok.here S (.tup h q)
      · obtain ⟨S1, x1⟩ := S.froze (.tup (cutV vs lo hi)) hp
        exact ok _ _ _ _ x1 S1 (.tup (.of upd_same) ((cut_rep q lo hi).mono x1.pre x1.sub))
  · rename_i l
    cases r with
    | scr h q => exact .inl (lst rfl (S.sub.sqL h) q ok)
  · split at ok
    · rename_i l h
      obtain ⟨a, vs, rfl, h1, q⟩ := asL_rep S r h
      exact .inl (lst rfl (.of h1) q ok)
    · exact ok.elim
theorem ped_cut {X : Cx} {Wx : WX} {pos p2 : Pos} {a : Expr} {lo hi : Option Expr} {ta : TE} {tl th : TO} {ma : EM} {ml mh : OM} (ha : PED X Wx a ta ma) (hl : POD X Wx lo tl ml) (hh : POD X Wx hi th mh) :
    PED X Wx (.Subscript a (.Slice lo hi none p2) pos) (tSl (fun x lo hi H Q => rSlL X.K x lo hi H Q ∨ rSlA X.K x lo hi H Q) ta tl th) (eCut ma ml mh) := by
  refine ⟨pe_slice (sl_list.or sl_tupA) ha.pe hl.po hh.po, fun σ H Q θ F ρ μ S E ok => ?_⟩
  refine ha.ad.use S E ok fun θ1 F1 H1 μ1 v w x1 S1 E1 r1 ok1 => ?_
  refine hl.ad.use S1 E1 ok1 fun θ2 F2 H2 μ2 l lw x2 S2 E2 r2 ok2 => ?_
  have r2 : l = lw := r2
  subst r2
  refine hh.ad.use S2 E2 ok2 fun θ3 F3 H3 μ3 u uw x3 S3 E3 r3 ok3 => ?_
  have r3 : u = uw := r3
  subst r3
  exact ad_cut S3 (r1.mono (x2.trans x3).pre (x2.trans x3).sub) ok3

/-! ### calls of built-ins, by values -/
abbrev GC := List W → Mu → Out W
def AdC (K : PySem.W.Frag) (r : List V → Hp → VK → Prop) (g : GC) : Prop := ∀ {vs : List V} {ws : List W} {E : Addr → Hp → Prop} {Q : VK} {H : Hp} {θ : List Addr} {F : Hp} {μ : Mu}, Sim K θ F H μ → RepAll K θ F vs ws → (g ws μ).Ok K (Rep K) θ F H E Q → r vs H Q
def orC (g g' : GC) : GC := fun ws μ => (g ws μ).els (g' ws μ)
theorem AdC.or {K : PySem.W.Frag} {r r' : List V → Hp → VK → Prop} {g g' : GC} (h : AdC K r g) (h' : AdC K r' g') : AdC K (fun xs H Q => r xs H Q ∨ r' xs H Q) (orC g g') := by
  intro vs ws E Q H θ F μ S rs ok
  unfold orC at ok
  cases e : g ws μ with
  | ok w μ1 => rw [e] at ok; exact .inl (h S rs (by rw [e]; exact ok))
  | er c μ1 => rw [e] at ok; exact .inl (h S rs (by rw [e]; exact ok))
  | no => rw [e] at ok; exact .inr (h' S rs ok)
def eCall (g : GC) (m : AM) : EM := fun ρ μ => (m ρ μ).bind g
theorem ad_call {K : PySem.W.Frag} {Wx : WX} {t : TA} {m : AM} {r : List V → Hp → VK → Prop} {g : GC} (hg : AdC K r g) (h : Ad K Wx (RepAll K) t m) : Ad K Wx (Rep K) (tCB r t) (eCall g m) := by
  intro σ H Q θ F ρ μ S E ok
  refine h.use S E ok fun θ1 F1 H1 μ1 v w x1 S1 E1 r1 ok1 => ?_
  exact hg S1 r1 ok1
section
variable {X : Cx} {Wx : WX} {pos p : Pos} {e : Expr} {es : List Expr} {t : TA} {m : AM} {x : Str} {id T : String} {r : List V → Hp → VK → Prop} {g : GC}
theorem ped_callB (hc : CallR X (.builtin id) r) (hG : AdC X.K r g) (hg : Gl X x) (hm : X.mg x = none) (hv : bootBuiltins x = some (.builtin id)) (ha : PAD X Wx (e :: es) t m) (hn : x ≠ "__name__" := by decide) (hdb : (x == ("__debug__" : Str)) = false := by decide)
    (he : starEach (e :: es) X.env = (false, eval e X.env) :: starEach es X.env := by rfl) (hpl : (backTo pos (starEach es X.env)).any (·.1) = false := by rfl) : PED X Wx (.Call (.Name x p) (e :: es) [] pos) (tCB r t) (eCall g m) :=
  ⟨pe_callB hc hg hm hv ha.pa hn hdb he hpl, ad_call hG ha.ad⟩
theorem ped_callTy (hc : CallR X (.type T) r) (hG : AdC X.K r g) (hg : Gl X x) (hm : X.mg x = none) (hv : bootBuiltins x = some (.type T)) (ha : PAD X Wx (e :: es) t m) (hn : x ≠ "__name__" := by decide) (hdb : (x == ("__debug__" : Str)) = false := by decide)
    (he : starEach (e :: es) X.env = (false, eval e X.env) :: starEach es X.env := by rfl) (hpl : (backTo pos (starEach es X.env)).any (·.1) = false := by rfl) : PED X Wx (.Call (.Name x p) (e :: es) [] pos) (tCB r t) (eCall g m) :=
  ⟨pe_callTy hc hg hm hv ha.pa hn hdb he hpl, ad_call hG ha.ad⟩
end
section
variable {K : PySem.W.Frag}
theorem rep1 {θ : List Addr} {F : Hp} {vs : List V} {w : W} (q : RepAll K θ F vs [w]) : ∃ v, vs = [v] ∧ Rep K θ F v w := by
  cases q with
  | cons r t => cases t; exact ⟨_, rfl, r⟩
theorem rep2 {θ : List Addr} {F : Hp} {vs : List V} {w z : W} (q : RepAll K θ F vs [w, z]) : ∃ v u, vs = [v, u] ∧ Rep K θ F v w ∧ Rep K θ F u z := by
  cases q with
  | cons r t =>
    obtain ⟨u, rfl, r2⟩ := rep1 t
    exact ⟨_, _, rfl, r, r2⟩
def cAbs : GC := fun ws μ => match ws with
  | [.int i] => .ok (.int (if i < 0 then -i else i)) μ
  | _ => .no
theorem adc_abs : AdC K (fun xs H Q => ∃ i, xs = [.int i] ∧ Q (.int (if i < 0 then -i else i)) H) cAbs := by
  intro vs ws E Q H θ F μ S rs ok
  unfold cAbs at ok
  split at ok
  · obtain ⟨v, rfl, r⟩ := rep1 rs
    cases r
    exact ⟨_, rfl, ok.here S (.int _)⟩
  · exact ok.elim
def cInt : GC := fun ws μ => match ws with
  | [.int i] => .ok (.int i) μ
  | [.bl k] => .ok (.int (if k then 1 else 0)) μ
  | _ => .no
theorem adc_int : AdC K (fun xs H Q => (∃ i, xs = [.int i] ∧ Q (.int i) H) ∨ ∃ k, xs = [.bl k] ∧ Q (.int (if k then 1 else 0)) H) cInt := by
  intro vs ws E Q H θ F μ S rs ok
  unfold cInt at ok
  split at ok
  · obtain ⟨v, rfl, r⟩ := rep1 rs
    cases r
    exact .inl ⟨_, rfl, ok.here S (.int _)⟩
  · obtain ⟨v, rfl, r⟩ := rep1 rs
    cases r
    exact .inr ⟨_, rfl, ok.here S (.int _)⟩
  · exact ok.elim
def cLenQ : GC := fun ws μ => match ws with
  | [w] => match asQ μ w with
    | some l => .ok (.int l.length) μ
    | none => .no
  | _ => .no
def cLenS : GC := fun ws μ => match ws with
  | [.str z] => if z.length ≤ sizeLine then .ok (.int z.length) μ else .no
  | _ => .no
theorem adc_lenQ : AdC K (fun xs H Q => ∃ p ys, xs = [.ref p] ∧ (SqL K H p ys ∨ SqT K H p ys) ∧ Q (.int ys.length) H) cLenQ := by
  intro vs ws E Q H θ F μ S rs ok
  unfold cLenQ at ok
  split at ok
  · split at ok
    · rename_i l h
      obtain ⟨v, rfl, r⟩ := rep1 rs
      obtain ⟨a, us, rfl, h1, q⟩ := asQ_rep S r h
      refine ⟨a, us, rfl, h1, ?_⟩
      rw [q.length]
      exact ok.here S (.int _)
    · exact ok.elim
  · exact ok.elim
theorem adc_lenS : AdC K (fun xs H Q => ∃ z, xs = [.str z] ∧ z.length ≤ sizeLine ∧ Q (.int z.length) H) cLenS := by
  intro vs ws E Q H θ F μ S rs ok
  unfold cLenS at ok
  split at ok
  · split at ok
    · rename_i h
      obtain ⟨v, rfl, r⟩ := rep1 rs
      cases r
      exact ⟨_, rfl, h, ok.here S (.int _)⟩
    · exact ok.elim
  · exact ok.elim
def cLen : GC := orC cLenQ cLenS
theorem adc_len : AdC K (fun xs H Q => (∃ p ys, xs = [.ref p] ∧ (SqL K H p ys ∨ SqT K H p ys) ∧ Q (.int ys.length) H) ∨ ∃ z, xs = [.str z] ∧ z.length ≤ sizeLine ∧ Q (.int z.length) H) cLen := AdC.or adc_lenQ adc_lenS
theorem cr_len {X : Cx} : CallR X (.builtin "len") (fun xs H Q => (∃ p ys, xs = [.ref p] ∧ (SqL X.K H p ys ∨ SqT X.K H p ys) ∧ Q (.int ys.length) H) ∨ ∃ z, xs = [.str z] ∧ z.length ≤ sizeLine ∧ Q (.int z.length) H) := call_len_seq.or call_len_str
/-- tuple(x), list(x); list(x) to be changed -/
def cTuple : GC := fun ws μ => match ws with
  | [.tup l] => .ok (.tup l) μ
  | [w] => match asQ μ w with
    | some l => .ok (.tup l) μ
    | none => .no
  | _ => .no
theorem adc_tuple : AdC K (fun xs H Q => ∃ p ys, xs = [.ref p] ∧ ((SqL K H p ys ∧ ∀ l, H l = none → Q (.ref l) (upd H l (.tup ys))) ∨ (SqT K H p ys ∧ Q (.ref p) H))) cTuple := by
  intro vs ws E Q H θ F μ S rs ok
  unfold cTuple at ok
  split at ok
  · obtain ⟨v, rfl, r⟩ := rep1 rs
    cases r with
    | tup h q => exact ⟨_, _, rfl, .inr ⟨S.sub.sqT h, ok.here S (.tup h q)⟩⟩
  · split at ok
    · rename_i w hw _ l h
      obtain ⟨v, rfl, r⟩ := rep1 rs
      have lst : ∀ {a us}, v = .ref a → SqL K H a us → RepAll K θ F us l → ∃ p ys, [v] = [V.ref p] ∧ ((SqL K H p ys ∧ ∀ l, H l = none → Q (.ref l) (upd H l (.tup ys))) ∨ (SqT K H p ys ∧ Q (.ref p) H)) := fun {a us} e h1 q => by
        subst e
        refine ⟨a, us, rfl, .inl ⟨h1, fun p hp => ?_⟩⟩
        obtain ⟨S1, x1⟩ := S.froze (.tup us) hp
        exact ok _ _ _ _ x1 S1 (.tup (.of upd_same) (q.mono x1.pre x1.sub))
      cases r with
      | tup h1 q => exact absurd rfl (hw _)
      | scr h1 q => cases h; exact lst rfl (S.sub.sqL h1) q
      | lst h1 q => cases h; exact lst rfl (.of (S.sub _ _ h1)) q
      | loc h1 =>
        obtain ⟨a, us, e, h2, q⟩ := asL_rep S (.loc h1) h
        exact lst e (.of h2) q
      | non => cases h
      | bl _ => cases h
      | int _ => cases h
      | str _ => cases h
      | ty _ => cases h
      | ref _ => cases h
    · exact ok.elim
  · exact ok.elim
def cList : GC := fun ws μ => match ws with
  | [w] => match asQ μ w with
    | some l => .ok (.lst l) μ
    | none => .no
  | _ => .no
def cListM : GC := fun ws μ => match ws with
  | [w] => match asQ μ w with
    | some l => .ok (.loc μ.length) (μ ++ [.lst l])
    | none => .no
  | _ => .no
theorem adc_list : AdC K (fun xs H Q => ∃ p ys, xs = [.ref p] ∧ (SqL K H p ys ∨ SqT K H p ys) ∧ ∀ l, H l = none → Q (.ref l) (upd H l (.lst ys))) cList := by
  intro vs ws E Q H θ F μ S rs ok
  unfold cList at ok
  split at ok
  · split at ok
    · rename_i l h
      obtain ⟨v, rfl, r⟩ := rep1 rs
      obtain ⟨a, us, rfl, h1, q⟩ := asQ_rep S r h
      refine ⟨a, us, rfl, h1, fun p hp => ?_⟩
      obtain ⟨S1, x1⟩ := S.froze (.lst us) hp
      exact ok _ _ _ _ x1 S1 (.lst upd_same (q.mono x1.pre x1.sub))
    · exact ok.elim
  · exact ok.elim
theorem adc_listM : AdC K (fun xs H Q => ∃ p ys, xs = [.ref p] ∧ (SqL K H p ys ∨ SqT K H p ys) ∧ ∀ l, H l = none → Q (.ref l) (upd H l (.lst ys))) cListM := by
  intro vs ws E Q H θ F μ S rs ok
  unfold cListM at ok
  split at ok
  · split at ok
    · rename_i l h
      obtain ⟨v, rfl, r⟩ := rep1 rs
      obtain ⟨a, us, rfl, h1, q⟩ := asQ_rep S r h
      refine ⟨a, us, rfl, h1, fun p hp => ?_⟩
      obtain ⟨S1, x1, r1⟩ := new_cell S q hp
      exact ok _ _ _ _ x1 S1 r1
    · exact ok.elim
  · exact ok.elim
end

/-! ### what is walked -/
inductive Iter where
  | seq (l : List W) | cell (n : Nat)
def Iter.items : Iter → Mu → Option (List W)
  | .seq l, _ => some l
  | .cell n, μ => match μ[n]? with
    | some (.lst l) => some l
    | _ => none
def Impl (K : PySem.W.Frag) (θ : List Addr) (F : Hp) (J : It) (it : Iter) : Prop :=
  ∀ (i : Nat) (θ1 : List Addr) (F1 H1 : Hp) (μ1 : Mu) (l : List W), θ <+: θ1 → Sub F F1 → Sim K θ1 F1 H1 μ1 → it.items μ1 = some l →
    (l.length ≤ i → J.stop i H1) ∧ ∀ w, l[i]? = some w → J.go i H1 ∧ ∀ x H2, J.yld i H1 x H2 → ∃ F2, Ext θ1 F1 H1 θ1 F2 H2 ∧ Sim K θ1 F2 H2 μ1 ∧ Rep K θ1 F2 x w
abbrev IM := Env → Mu → Out Iter
structure PID (X : Cx) (Wx : WX) (tg e : Expr) (wi : TI) (m : IM) : Prop where
  pi : PI X tg e wi
  ad : Ad X.K Wx (Impl X.K) wi m
theorem PI.or {X : Cx} {tg e : Expr} {w1 w2 : TI} (h1 : PI X tg e w1) (h2 : PI X tg e w2) : PI X tg e (fun σ H R => w1 σ H R ∨ w2 σ H R) :=
  ⟨fun pins s σ H R I h => h.elim (h1.run pins s σ H R I) (h2.run pins s σ H R I)⟩
theorem impl_list {K : PySem.W.Frag} {θ : List Addr} {F : Hp} {a : Addr} {vs : List V} {l : List W} (h : SqL K F a vs) (q : RepAll K θ F vs l) : Impl K θ F (Itl K a) (.seq l) := by
  intro i θ1 F1 H1 μ1 l' p e S hi
  cases hi
  have h1 : SqL K H1 a vs := S.sub.sqL (e.sqL h)
  refine ⟨fun hl => ⟨vs, h1, by rw [q.length]; exact hl⟩, fun w hw => ?_⟩
  obtain ⟨v, hv, r⟩ := q.get hw
  refine ⟨⟨vs, v, h1, hv⟩, fun x H2 y => ?_⟩
  obtain ⟨rfl, y⟩ := y
  have e2 := y vs h1
  rw [hv] at e2; cases e2
  exact ⟨F1, .refl _ _ _, S, r.mono p e⟩
theorem impl_tup {K : PySem.W.Frag} {θ : List Addr} {F : Hp} {a : Addr} {vs : List V} {l : List W} (h : SqT K F a vs) (q : RepAll K θ F vs l) : Impl K θ F (Itt K a) (.seq l) := by
  intro i θ1 F1 H1 μ1 l' p e S hi
  cases hi
  have h1 : SqT K H1 a vs := S.sub.sqT (e.sqT h)
  refine ⟨fun hl => ⟨vs, h1, by rw [q.length]; exact hl⟩, fun w hw => ?_⟩
  obtain ⟨v, hv, r⟩ := q.get hw
  refine ⟨⟨vs, v, h1, hv⟩, fun x H2 y => ?_⟩
  obtain ⟨rfl, y⟩ := y
  have e2 := y vs h1
  rw [hv] at e2; cases e2
  exact ⟨F1, .refl _ _ _, S, r.mono p e⟩
theorem impl_cell {K : PySem.W.Frag} {θ : List Addr} {F : Hp} {a : Addr} {n : Nat} (h : θ[n]? = some a) : Impl K θ F (Itl K a) (.cell n) := by
  intro i θ1 F1 H1 μ1 l p e S hi
  unfold Iter.items at hi
  simp only at hi
  split at hi
  · rename_i l' e1
    cases hi
    obtain ⟨b, e2, c⟩ := S.at e1
    rw [pre_get p h] at e2; cases e2
    obtain ⟨_, vs, q1, q⟩ := c
    have h1 : SqL K H1 a vs := .of q1
    refine ⟨fun hl => ⟨vs, h1, by rw [q.length]; exact hl⟩, fun w hw => ?_⟩
    obtain ⟨v, hv, r⟩ := q.get hw
    refine ⟨⟨vs, v, h1, hv⟩, fun x H2 y => ?_⟩
    obtain ⟨rfl, y⟩ := y
    have e2 := y vs h1
    rw [hv] at e2; cases e2
    exact ⟨F1, .refl _ _ _, S, r⟩
  · cases hi
def irange (lo : Int) (n : Nat) : List W := (List.range n).map fun i => .int (lo + (i : Nat))
theorem impl_rng {K : PySem.W.Frag} {θ : List Addr} {F : Hp} (lo : Int) (n : Nat) : Impl K θ F (Itr lo n) (.seq (irange lo n)) := by
  intro i θ1 F1 H1 μ1 l' p e S hi
  cases hi
  refine ⟨fun hl => ?_, fun w hw => ?_⟩
  · unfold irange at hl
    rw [List.length_map, List.length_range] at hl
    exact hl
  · unfold irange at hw
    rw [List.getElem?_map] at hw
    cases e1 : (List.range n)[i]? with
    | none => rw [e1] at hw; cases hw
    | some j =>
      rw [e1] at hw
      obtain ⟨h1, h2⟩ := List.getElem?_eq_some_iff.mp e1
      rw [List.getElem_range] at h2
      rw [List.length_range] at h1
      subst h2
      cases hw
      refine ⟨h1, fun x H2 y => ?_⟩
      obtain ⟨rfl, rfl⟩ := y
      exact ⟨F1, .refl _ _ _, S, .int _⟩
def itOf (μ : Mu) : W → Option Iter
  | .loc n => (asL μ (.loc n)).map fun _ => .cell n
  | w => (asQ μ w).map .seq
def iSeq (m : EM) : IM := fun ρ μ => (m ρ μ).bind fun w μ1 => match itOf μ1 w with
  | some it => .ok it μ1
  | none => .no
section
variable {X : Cx} {Wx : WX} {tg e a b : Expr} {t : TE} {m ma mb : EM} {ta : TA} {mm : AM} {p pos : Pos}
theorem Ad.useE {α β γ δ : Type} {K : PySem.W.Frag} {Wx : WX} {R : List Addr → Hp → β → α → Prop} {R2 : List Addr → Hp → δ → γ → Prop} {t : St → Hp → (β → Hp → Prop) → Prop} {m : PD.Env → Mu → Out α} {f : α → Mu → Out γ}
    {σ : St} {H : Hp} {Q1 : β → Hp → Prop} {Q : δ → Hp → Prop} {θ : List Addr} {F : Hp} {ρ : PD.Env} {μ : Mu}
    (h : Ad K Wx R t m) (S : Sim K θ F H μ) (E : SimE K θ F σ ρ) (ok : ((m ρ μ).bind f).Ok K R2 θ F H (fun c H' => Wx (.ref c) none σ H') Q)
    (k : ∀ (θ1 : List Addr) (F1 H1 : Hp) (μ1 : Mu) (v : β) (w : α), m ρ μ = .ok w μ1 → Ext θ F H θ1 F1 H1 → Sim K θ1 F1 H1 μ1 → SimE K θ1 F1 σ ρ → R θ1 F1 v w → (f w μ1).Ok K R2 θ1 F1 H1 (fun c H' => Wx (.ref c) none σ H') Q → Q1 v H1) : t σ H Q1 := by
  refine h σ H _ θ F ρ μ S E ?_
  cases e : m ρ μ with
  | ok w μ1 =>
    rw [e] at ok
    exact fun θ1 F1 H1 v x S1 r => k θ1 F1 H1 μ1 v w e x S1 (E.mono x.pre x.sub) r (Out.Ok.mono (o := f w μ1) ok x)
  | er c μ1 => rw [e] at ok; exact ok
  | no => rw [e] at ok; exact ok
theorem pid_seq (h : PED X Wx e t m) : PID X Wx tg e (fun σ H R => iList X.K t σ H R ∨ iTup X.K t σ H R) (iSeq m) := by
  refine ⟨PI.or (pi_list h.pe) (pi_tup h.pe), fun σ H R θ F ρ μ S E ok => ?_⟩
  unfold iSeq at ok
  by_cases ht : ∃ l μ1, m ρ μ = .ok (.tup l) μ1
  · obtain ⟨l, μ1, e1⟩ := ht
    right
    refine h.ad.useE S E ok fun θ1 F1 H1 μ1' v w e2 x S1 E1 r ok1 => ?_
    rw [e1] at e2; cases e2
    cases r with
    | @tup a vs _ h1 q => exact ⟨a, rfl, ⟨vs, S1.sub.sqT h1⟩, Out.Ok.here ok1 S1 (impl_tup h1 q)⟩
  · left
    refine h.ad.useE S E ok fun θ1 F1 H1 μ1 v w e2 x S1 E1 r ok1 => ?_
    split at ok1
    · rename_i it hit
      cases r with
      | tup h1 q => exact absurd ⟨_, _, e2⟩ ht
      | @lst a vs ws h1 q =>
        cases (show some (Iter.seq ws) = some it from hit)
        exact ⟨a, rfl, ⟨vs, .of (S1.sub _ _ h1)⟩, Out.Ok.here ok1 S1 (impl_list (.of h1) q)⟩
      | @scr a vs ws h1 q =>
        cases (show some (Iter.seq ws) = some it from hit)
        exact ⟨a, rfl, ⟨vs, S1.sub.sqL h1⟩, Out.Ok.here ok1 S1 (impl_list h1 q)⟩
      | @loc n a h1 =>
        simp only [itOf, Option.map_eq_some_iff] at hit
        obtain ⟨l, h2, rfl⟩ := hit
        obtain ⟨b, vs, e3, h3, q⟩ := asL_rep S1 (.loc h1) h2
        cases e3
        exact ⟨a, rfl, ⟨vs, .of h3⟩, Out.Ok.here ok1 S1 (impl_cell h1)⟩
      | non => cases hit
      | bl _ => cases hit
      | int _ => cases hit
      | str _ => cases hit
      | ty _ => cases hit
      | ref _ => cases hit
    · exact ok1.elim
def iRngA (m : AM) : IM := fun ρ μ => (m ρ μ).bind fun ws μ1 => match ws with
  | [.int j] => if -(2 ^ 62) ≤ j ∧ j < 2 ^ 62 then .ok (.seq (irange 0 j.toNat)) μ1 else .no
  | _ => .no
def iRngB (m : AM) : IM := fun ρ μ => (m ρ μ).bind fun ws μ1 => match ws with
  | [.int i, .int j] => if -(2 ^ 62) ≤ i ∧ i < 2 ^ 62 ∧ -(2 ^ 62) ≤ j ∧ j < 2 ^ 62 then .ok (.seq (irange i (j - i).toNat)) μ1 else .no
  | _ => .no
theorem pid_rng1 (hg : Gl X "range") (hm : X.mg "range" = none) (h : PAD X Wx [a] ta mm) (hs : starEach [a] X.env = [(false, eval a X.env)] := by rfl) : PID X Wx tg (.Call (.Name "range" p) [a] [] pos) (iRng1 ta) (iRngA mm) := by
  refine ⟨pi_range1 hg hm h.pa hs, fun σ H R θ F ρ μ S E ok => ?_⟩
  refine h.ad.use S E ok fun θ1 F1 H1 μ1 v w x S1 E1 r ok1 => ?_
  split at ok1
  · split at ok1
    · rename_i j hj
      obtain ⟨u, rfl, r1⟩ := rep1 r
      cases r1
      exact ⟨j, rfl, hj.1, hj.2, Out.Ok.here ok1 S1 (impl_rng _ _)⟩
    · exact ok1.elim
  · exact ok1.elim
theorem pid_rng2 (hg : Gl X "range") (hm : X.mg "range" = none) (h : PAD X Wx [a, b] ta mm) (hs : starEach [a, b] X.env = [(false, eval a X.env), (false, eval b X.env)] := by rfl) (hs2 : starEach [b] X.env = [(false, eval b X.env)] := by rfl) : PID X Wx tg (.Call (.Name "range" p) [a, b] [] pos) (iRng2 ta) (iRngB mm) := by
  refine ⟨pi_range2 hg hm h.pa hs hs2, fun σ H R θ F ρ μ S E ok => ?_⟩
  refine h.ad.use S E ok fun θ1 F1 H1 μ1 v w x S1 E1 r ok1 => ?_
  split at ok1
  · split at ok1
    · rename_i i j hj
      obtain ⟨u, z, rfl, r1, r2⟩ := rep2 r
      cases r1; cases r2
      exact ⟨i, j, rfl, hj, Out.Ok.here ok1 S1 (impl_rng _ _)⟩
    · exact ok1.elim
  · exact ok1.elim
end

/-! ### for -/
open Classical in
/-- over l, the rest of what it holds at each turn -/
noncomputable def forL (it : Iter) (l : List W) (g : W → Env → Mu → Out Env) (body : SM) : List W → SM
  | [], ρ, μ => if it.items μ = some l then .nx ρ μ else .no
  | w :: r, ρ, μ => if it.items μ = some l then (g w ρ μ).st ρ fun ρ1 μ1 => match body ρ1 μ1 with
    | .nx ρ2 μ2 => forL it l g body r ρ2 μ2
    | .ct ρ2 μ2 => forL it l g body r ρ2 μ2
    | .bk ρ2 μ2 => .nx ρ2 μ2
    | o => o
   else .no
def forS (g : W → Env → Mu → Out Env) (body : SM) : List W → SM
  | [], ρ, μ => .nx ρ μ
  | w :: r, ρ, μ => (g w ρ μ).st ρ fun ρ1 μ1 => match body ρ1 μ1 with
    | .nx ρ2 μ2 => forS g body r ρ2 μ2
    | .ct ρ2 μ2 => forS g body r ρ2 μ2
    | .bk ρ2 μ2 => .nx ρ2 μ2
    | o => o
theorem forL_seq (l : List W) (g : W → Env → Mu → Out Env) (body : SM) : ∀ (r : List W) (ρ : Env) (μ : Mu), forL (.seq l) l g body r ρ μ = forS g body r ρ μ
  | [], ρ, μ => by
    unfold forL forS
    rw [if_pos (show (Iter.seq l).items μ = some l from rfl)]
  | w :: r, ρ, μ => by
    unfold forL forS
    rw [if_pos (show (Iter.seq l).items μ = some l from rfl)]
    congr 1
    funext ρ1 μ1
    cases body ρ1 μ1 <;> simp [forL_seq l g body r]
noncomputable def sFor (it : IM) (g : W → Env → Mu → Out Env) (body : SM) : SM := fun ρ μ => (it ρ μ).st ρ fun i μ1 => match i with
  | .seq l => forS g body l ρ μ1
  | .cell n => match (Iter.cell n).items μ1 with
    | some l => forL (.cell n) l g body l ρ μ1
    | none => .no
section
variable {X : Cx} {Wx : WX} {tg iter : Expr} {wi : TI} {mi : IM} {g : TG} {mg : W → Env → Mu → Out Env} {tb : TS} {mb : SM} {body : List Stmt} {pos : Pos}
theorem ad_forL {K : PySem.W.Frag} {J : It} {it : Iter} {l : List W} {θ : List Addr} {F H : Hp} {σ : St} {ρ : Env} {μ : Mu} {D : Ends}
    (hg : ∀ (v : V) (w : W) (σ : St) (H : Hp) (Q : St → Hp → Prop) (θ : List Addr) (F : Hp) (ρ : Env) (μ : Mu), Sim K θ F H μ → SimE K θ F σ ρ → Rep K θ F v w → (mg w ρ μ).Ok K (SimE K) θ F H (fun c H' => Wx (.ref c) none σ H') Q → g v σ H Q)
    (hb : AdS K Wx tb mb) (hJ : Impl K θ F J it) (S : Sim K θ F H μ) (E : SimE K θ F σ ρ) (ok : (forL it l mg mb l ρ μ).Ok K Wx θ F H D) :
    ∃ Wv : Nat → Nat → St → Hp → Prop, (∃ m, Wv 0 m σ H) ∧ ∀ i m σ H, Wv i m σ H → (J.stop i H ∧ D.nx σ H) ∨ (J.go i H ∧ ∃ N : St → Hp → Prop, (∀ σ' H', N σ' H' → ∃ m', m' < m ∧ Wv (i + 1) m' σ' H') ∧
      ∀ x H', J.yld i H x H' → g x σ H' fun σ2 H2 => tb { D with nx := N, ct := N, bk := D.nx } σ2 H2) := by
  refine ⟨fun i m σ1 H1 => ∃ (r : List W) (θ1 : List Addr) (F1 : Hp) (ρ1 : Env) (μ1 : Mu), m = r.length ∧ l.drop i = r ∧ Ext θ F H θ1 F1 H1 ∧ Sim K θ1 F1 H1 μ1 ∧ SimE K θ1 F1 σ1 ρ1 ∧ (forL it l mg mb r ρ1 μ1).Ok K Wx θ1 F1 H1 D,
    ⟨l.length, l, θ, F, ρ, μ, rfl, rfl, .refl _ _ _, S, E, ok⟩, ?_⟩
  rintro i m σ1 H1 ⟨r, θ1, F1, ρ1, μ1, rfl, hr, x1, S1, E1, ok1⟩
  cases r with
  | nil =>
    unfold forL at ok1
    split at ok1
    · rename_i hi
      refine .inl ⟨(hJ i θ1 F1 H1 μ1 l x1.pre x1.sub S1 hi).1 (List.drop_eq_nil_iff.mp hr), ok1 θ1 F1 H1 σ1 (.refl _ _ _) S1 E1⟩
    · exact ok1.elim
  | cons w r =>
    unfold forL at ok1
    split at ok1
    · rename_i hi
      have hw : l[i]? = some w := by
        rw [← List.head?_drop, hr]; rfl
      have hr' : l.drop (i + 1) = r := by rw [← List.tail_drop, hr]; rfl
      obtain ⟨go, yl⟩ := (hJ i θ1 F1 H1 μ1 l x1.pre x1.sub S1 hi).2 w hw
      refine .inr ⟨go, fun σ2 H2 => ∃ (θ2 : List Addr) (F2 : Hp) (ρ2 : Env) (μ2 : Mu), Ext θ F H θ2 F2 H2 ∧ Sim K θ2 F2 H2 μ2 ∧ SimE K θ2 F2 σ2 ρ2 ∧ (forL it l mg mb r ρ2 μ2).Ok K Wx θ2 F2 H2 D,
        fun σ2 H2 ⟨θ2, F2, ρ2, μ2, x2, S2, E2, ok2⟩ => ⟨r.length, by simp, r, θ2, F2, ρ2, μ2, rfl, hr', x2, S2, E2, ok2⟩, fun v H2 y => ?_⟩
      obtain ⟨F2, x2, S2, r2⟩ := yl v H2 y
      have E2 := E1.mono x2.pre x2.sub
      have ok2 := SO.Ok.mono ok1 x2
      refine hg v w σ1 H2 _ θ1 F2 ρ1 μ1 S2 E2 r2 ?_
      cases eg : mg w ρ1 μ1 with
      | no => rw [eg] at ok2; exact ok2
      | er c μ2 =>
        rw [eg] at ok2
        exact fun θ3 F3 H3 x3 S3 => ok2 θ3 F3 H3 σ1 x3 S3 (E2.mono x3.pre x3.sub)
      | ok ρ3 μ3 =>
        rw [eg] at ok2
        intro θ3 F3 H3 σ3 x3 S3 E3
        have x13 := (x1.trans x2).trans x3
        refine hb _ σ3 H3 θ3 F3 ρ3 μ3 S3 E3 ?_
        replace ok2 : SO.Ok K Wx θ1 F2 H2 D (match mb ρ3 μ3 with
          | .nx ρ2 μ2 => forL it l mg mb r ρ2 μ2
          | .ct ρ2 μ2 => forL it l mg mb r ρ2 μ2
          | .bk ρ2 μ2 => .nx ρ2 μ2
          | o => o) := ok2
        have ok3 := SO.Ok.mono ok2 x3
        cases eb : mb ρ3 μ3 with
        | no => rw [eb] at ok3; exact ok3
        | rt w' μ' => rw [eb] at ok3; exact ok3
        | er c ρ' μ' => rw [eb] at ok3; exact ok3
        | bk ρ' μ' => rw [eb] at ok3; exact ok3
        | nx ρ' μ' =>
          rw [eb] at ok3
          exact fun θ4 F4 H4 σ4 x4 S4 E4 => ⟨θ4, F4, ρ', μ', x13.trans x4, S4, E4, SO.Ok.mono ok3 x4⟩
        | ct ρ' μ' =>
          rw [eb] at ok3
          exact fun θ4 F4 H4 σ4 x4 S4 E4 => ⟨θ4, F4, ρ', μ', x13.trans x4, S4, E4, SO.Ok.mono ok3 x4⟩
    · exact ok1.elim
theorem psd_for (hp : PassesOwn (model X.prog X.w) X.A X.env X.xe) (hc : X.calm = true) (hi : PID X Wx tg iter wi mi) (hg : PGD X Wx tg g mg) (hb : PSsD X Wx body tb mb) (hs : ∀ x, foldedSetIterable iter X.env x = pure x := by intro _; rfl) :
    PSD X Wx (.For tg iter body [] pos) (tFor wi g tb) (sFor mi mg mb) := by
  refine ⟨ps_for hp hc hi.pi hg.pg hb.ps hs, fun D σ H θ F ρ μ S E ok => ?_⟩
  refine hi.ad σ H _ θ F ρ μ S E ?_
  unfold sFor at ok
  cases e : mi ρ μ with
  | no => rw [e] at ok; exact ok
  | er c μ1 =>
    rw [e] at ok
    exact fun θ1 F1 H1 x1 S1 => ok θ1 F1 H1 σ x1 S1 (E.mono x1.pre x1.sub)
  | ok it μ1 =>
    rw [e] at ok
    intro θ1 F1 H1 J x1 S1 hJ
    have E1 := E.mono x1.pre x1.sub
    cases it with
    | seq l =>
      refine ad_forL (l := l) hg.ad hb.ad hJ S1 E1 ?_
      rw [forL_seq]
      exact SO.Ok.mono (o := forS mg mb l ρ μ1) ok x1
    | cell n =>
      replace ok : SO.Ok X.K Wx θ F H D (match (Iter.cell n).items μ1 with
        | some l => forL (.cell n) l mg mb l ρ μ1
        | none => .no) := ok
      cases e2 : (Iter.cell n).items μ1 with
      | none => rw [e2] at ok; exact ok.elim
      | some l =>
        rw [e2] at ok
        exact ad_forL (l := l) hg.ad hb.ad hJ S1 E1 (SO.Ok.mono ok x1)
end

/-! ### while -/
def whileF (c : BM) (body : SM) : Nat → SM
  | 0, _, _ => .no
  | n + 1, ρ, μ => (c ρ μ).st ρ fun k μ1 => if k = true then match body ρ μ1 with
    | .nx ρ2 μ2 => whileF c body n ρ2 μ2
    | .ct ρ2 μ2 => whileF c body n ρ2 μ2
    | .bk ρ2 μ2 => .nx ρ2 μ2
    | o => o
   else .nx ρ μ1
open Classical in
/-- as many turns as it takes -/
noncomputable def sWhile (c : BM) (body : SM) : SM := fun ρ μ => if h : ∃ n, whileF c body n ρ μ ≠ .no then whileF c body h.choose ρ μ else .no
section
variable {X : Cx} {Wx : WX} {c : Expr} {tc : TT} {mc : BM} {tb : TS} {mb : SM} {body : List Stmt} {pos : Pos}
theorem ad_whileF {K : PySem.W.Frag} (hc : Ad K Wx REq tc mc) (hb : AdS K Wx tb mb) (n : Nat) : AdS K Wx (tWhile tc tb) (whileF mc mb n) := by
  intro D σ H θ F ρ μ S E ok
  refine ⟨fun m σ1 H1 => ∃ (θ1 : List Addr) (F1 : Hp) (ρ1 : Env) (μ1 : Mu), Ext θ F H θ1 F1 H1 ∧ Sim K θ1 F1 H1 μ1 ∧ SimE K θ1 F1 σ1 ρ1 ∧ (whileF mc mb m ρ1 μ1).Ok K Wx θ1 F1 H1 D, ⟨n, θ, F, ρ, μ, .refl _ _ _, S, E, ok⟩, ?_⟩
  rintro m σ1 H1 ⟨θ1, F1, ρ1, μ1, x1, S1, E1, ok1⟩
  cases m with
  | zero => exact ok1.elim
  | succ m =>
    unfold whileF at ok1
    refine hc σ1 H1 _ θ1 F1 ρ1 μ1 S1 E1 ?_
    cases e : mc ρ1 μ1 with
    | no => rw [e] at ok1; exact ok1
    | er cc μ2 =>
      rw [e] at ok1
      exact fun θ2 F2 H2 x2 S2 => ok1 θ2 F2 H2 σ1 x2 S2 (E1.mono x2.pre x2.sub)
    | ok k μ2 =>
      rw [e] at ok1
      intro θ2 F2 H2 k' x2 S2 hk
      have hk : k' = k := hk
      subst hk
      have E2 := E1.mono x2.pre x2.sub
      cases k' with
      | false =>
        rw [if_neg Bool.false_ne_true]
        exact ok1 θ2 F2 H2 σ1 x2 S2 E2
      | true =>
        rw [if_pos rfl]
        refine ⟨fun σ3 H3 => ∃ (θ3 : List Addr) (F3 : Hp) (ρ3 : Env) (μ3 : Mu), Ext θ F H θ3 F3 H3 ∧ Sim K θ3 F3 H3 μ3 ∧ SimE K θ3 F3 σ3 ρ3 ∧ (whileF mc mb m ρ3 μ3).Ok K Wx θ3 F3 H3 D, fun σ3 H3 h3 => ⟨m, Nat.lt_succ_self _, h3⟩, ?_⟩
        refine hb _ σ1 H2 θ2 F2 ρ1 μ2 S2 E2 ?_
        replace ok1 : SO.Ok K Wx θ1 F1 H1 D (match mb ρ1 μ2 with
          | .nx ρ2 μ2 => whileF mc mb m ρ2 μ2
          | .ct ρ2 μ2 => whileF mc mb m ρ2 μ2
          | .bk ρ2 μ2 => .nx ρ2 μ2
          | o => o) := ok1
        have ok3 := SO.Ok.mono ok1 x2
        have x12 := x1.trans x2
        cases eb : mb ρ1 μ2 with
        | no => rw [eb] at ok3; exact ok3
        | rt w' μ' => rw [eb] at ok3; exact ok3
        | er c ρ' μ' => rw [eb] at ok3; exact ok3
        | bk ρ' μ' => rw [eb] at ok3; exact ok3
        | nx ρ' μ' =>
          rw [eb] at ok3
          exact fun θ4 F4 H4 σ4 x4 S4 E4 => ⟨θ4, F4, ρ', μ', x12.trans x4, S4, E4, SO.Ok.mono ok3 x4⟩
        | ct ρ' μ' =>
          rw [eb] at ok3
          exact fun θ4 F4 H4 σ4 x4 S4 E4 => ⟨θ4, F4, ρ', μ', x12.trans x4, S4, E4, SO.Ok.mono ok3 x4⟩
theorem psd_while (hp : PassesOwn (model X.prog X.w) X.A X.env X.xe) (hc : PTD X Wx c tc mc) (hb : PSsD X Wx body tb mb) : PSD X Wx (.While c body [] pos) (tWhile tc tb) (sWhile mc mb) := by
  refine ⟨ps_while hp hc.pt hb.ps, fun D σ H θ F ρ μ S E ok => ?_⟩
  unfold sWhile at ok
  split at ok
  · exact ad_whileF hc.ad hb.ad _ D σ H θ F ρ μ S E ok
  · exact ok.elim
end

/-! ### list comprehensions -/
open Classical in
noncomputable def cmpL (it : Iter) (l : List W) (g : W → Env → Mu → Out Env) (tt : BM) (me : EM) (ρ : Env) : List W → List W → Mu → Out W
  | [], acc, μ => if it.items μ = some l then .ok (.lst acc) μ else .no
  | w :: r, acc, μ => if it.items μ = some l then match g w ρ μ with
    | .ok ρ1 μ1 => match tt ρ1 μ1 with
      | .ok true μ2 => match me ρ1 μ2 with
        | .ok y μ3 => if acc.length < sizeLine then cmpL it l g tt me ρ r (acc ++ [y]) μ3 else .no
        | _ => .no
      | .ok false μ2 => cmpL it l g tt me ρ r acc μ2
      | _ => .no
    | _ => .no
   else .no
def cmpS (g : W → Env → Mu → Out Env) (tt : BM) (me : EM) (ρ : Env) : List W → List W → Mu → Out W
  | [], acc, μ => .ok (.lst acc) μ
  | w :: r, acc, μ => match g w ρ μ with
    | .ok ρ1 μ1 => match tt ρ1 μ1 with
      | .ok true μ2 => match me ρ1 μ2 with
        | .ok y μ3 => if acc.length < sizeLine then cmpS g tt me ρ r (acc ++ [y]) μ3 else .no
        | _ => .no
      | .ok false μ2 => cmpS g tt me ρ r acc μ2
      | _ => .no
    | _ => .no
theorem cmpL_seq (l : List W) (g : W → Env → Mu → Out Env) (tt : BM) (me : EM) (ρ : Env) : ∀ (r acc : List W) (μ : Mu), cmpL (.seq l) l g tt me ρ r acc μ = cmpS g tt me ρ r acc μ
  | [], acc, μ => by
    unfold cmpL cmpS
    rw [if_pos (show (Iter.seq l).items μ = some l from rfl)]
  | w :: r, acc, μ => by
    unfold cmpL cmpS
    rw [if_pos (show (Iter.seq l).items μ = some l from rfl)]
    simp only [cmpL_seq l g tt me ρ r]
noncomputable def eCmp (it : IM) (vs : List Nat) (g : W → Env → Mu → Out Env) (tt : BM) (me : EM) : EM := fun ρ μ => (it ρ μ).bind fun i μ1 => match i with
  | .seq l => cmpS g tt me (wipeW ρ vs) l [] μ1
  | .cell n => match (Iter.cell n).items μ1 with
    | some l => cmpL (.cell n) l g tt me (wipeW ρ vs) l [] μ1
    | none => .no
def bYes : BM := fun _ μ => .ok true μ
/-- nothing may be let out -/
abbrev W0 : WX := fun _ _ _ _ => False
/-- the target stores at own places alone -/
def GOwn (g : TG) (vs : List Nat) : Prop := ∀ (v : V) (σ : St) (H : Hp) (Q : St → Hp → Prop), g v (wipe σ vs) H Q → g v (wipe σ vs) H fun σ2 H2 => wipe σ2 vs = wipe σ vs ∧ Q σ2 H2
theorem wipe_get {σ : St} : ∀ {vs : List Nat} {j : Nat}, (wipe σ vs)[j]? = if j ∈ vs ∧ j < σ.length then some none else σ[j]?
  | [], j => by simp [wipe]
  | v :: vs, j => by
    unfold wipe
    have ih := wipe_get (σ := σ) (vs := vs) (j := j)
    by_cases h : v = j
    · subst h
      by_cases hl : v < σ.length
      · rw [List.getElem?_set_self (by rw [wipe_length]; exact hl), if_pos ⟨List.mem_cons_self, hl⟩]
      · rw [List.getElem?_eq_none (by rw [List.length_set, wipe_length]; omega), if_neg (fun z => hl z.2), List.getElem?_eq_none (by omega)]
    · rw [List.getElem?_set_ne h, ih]
      by_cases hm : j ∈ vs ∧ j < σ.length
      · rw [if_pos hm, if_pos ⟨List.mem_cons_of_mem _ hm.1, hm.2⟩]
      · rw [if_neg hm, if_neg fun z => hm ⟨(List.mem_cons.mp z.1).elim (fun e => absurd e.symm h) id, z.2⟩]
theorem wipe_set {σ : St} {vs : List Nat} {i : Nat} {o : Option V} (hi : i ∈ vs) : wipe (σ.set i o) vs = wipe σ vs := by
  refine List.ext_getElem? fun j => ?_
  rw [wipe_get, wipe_get, List.length_set]
  by_cases h : j ∈ vs ∧ j < σ.length
  · rw [if_pos h, if_pos h]
  · rw [if_neg h, if_neg h]
    by_cases e : i = j
    · subst e
      have : ¬ i < σ.length := fun z => h ⟨hi, z⟩
      rw [List.getElem?_eq_none (by rw [List.length_set]; omega), List.getElem?_eq_none (by omega)]
    · rw [List.getElem?_set_ne e]
theorem wipe_wipe {σ : St} {vs : List Nat} : wipe (wipe σ vs) vs = wipe σ vs := by
  refine List.ext_getElem? fun j => ?_
  rw [wipe_get, wipe_length, wipe_get]
  by_cases h : j ∈ vs ∧ j < σ.length
  · rw [if_pos h, if_pos h]
  · rw [if_neg h, if_neg h]
theorem gown_name {i : Nat} {vs : List Nat} (h : i ∈ vs) : GOwn (gName i) vs := by
  intro v σ H Q q
  exact ⟨by rw [wipe_set h, wipe_wipe], q⟩
structure PTsD (X : Cx) (Wx : WX) (ifs : List Expr) (t : TT) (m : BM) : Prop where
  pt : PTs X ifs t
  ad : Ad X.K Wx REq t m
theorem ptsd_nil {X : Cx} {Wx : WX} : PTsD X Wx [] tYes bYes := ⟨pts_nil, fun σ H Q θ F ρ μ S E ok => Out.Ok.here ok S rfl⟩
theorem ptsd_one {X : Cx} {Wx : WX} {c : Expr} {t : TT} {m : BM} (h : PTD X Wx c t m) : PTsD X Wx [c] t m := ⟨pts_one h.pt, h.ad⟩
theorem ad_lc {K : PySem.W.Frag} {g : TG} {tt : TT} {te : TE} {vs : List Nat} {J : It} {it : Iter} {l : List W} {mg : W → Env → Mu → Out Env} {mt : BM} {me : EM} {θ : List Addr} {F H : Hp} {σ : St} {ρ : Env} {μ : Mu} {E0 : Addr → Hp → Prop} {Q : VK}
    (hw : GOwn g vs) (hg : ∀ (v : V) (w : W) (σ : St) (H : Hp) (Q : St → Hp → Prop) (θ : List Addr) (F : Hp) (ρ : Env) (μ : Mu), Sim K θ F H μ → SimE K θ F σ ρ → Rep K θ F v w → (mg w ρ μ).Ok K (SimE K) θ F H (fun c H' => W0 (.ref c) none σ H') Q → g v σ H Q)
    (ht : Ad K W0 REq tt mt) (he : Ad K W0 (Rep K) te me) (hJ : Impl K θ F J it) (S : Sim K θ F H μ) (E : SimE K θ F σ ρ) (ok : (cmpL it l mg mt me (wipeW ρ vs) l [] μ).Ok K (Rep K) θ F H E0 Q) :
    ∀ D, H D = none → ∃ Wv : Nat → Nat → Hp → Prop, (∃ m, Wv 0 m (upd H D (.lst []))) ∧ ∀ i m H, Wv i m H →
      (J.stop i H ∧ Q (.ref D) H) ∨ (J.go i H ∧ ∃ Nx : Hp → Prop, (∀ H', Nx H' → ∃ m', m' < m ∧ Wv (i + 1) m' H') ∧ ∀ x H', J.yld i H x H' → g x (wipe σ vs) H' fun σ2 H2 => wipe σ2 vs = wipe σ vs ∧ tt σ2 H2 fun b H3 =>
        if b = true then te σ2 H3 fun y H4 => ∃ acc, H4 D = some (.lst acc) ∧ acc.length < sizeLine ∧ Nx (upd H4 D (.lst (acc ++ [y]))) else Nx H3) := by
  intro D hD
  have hDF := S.outF hD
  have hDθ := S.out hD
  -- a state between two turns
  let St1 : List W → Hp → Prop := fun r H1 => ∃ (θ1 : List Addr) (F1 : Hp) (μ1 : Mu) (vacc : List V) (acc : List W), Ext θ F H θ1 F1 H1 ∧ Sim K θ1 F1 H1 μ1 ∧ F1 D = none ∧ D ∉ θ1 ∧ H1 D = some (.lst vacc) ∧ RepAll K θ1 F1 vacc acc ∧
    (cmpL it l mg mt me (wipeW ρ vs) r acc μ1).Ok K (Rep K) θ F H E0 Q
  refine ⟨fun i m H1 => ∃ r, m = r.length ∧ l.drop i = r ∧ St1 r H1, ⟨l.length, l, rfl, rfl, θ, F, μ, [], [], ⟨List.prefix_refl _, .refl _, fun b u e _ => by rw [upd_ne (ne_of_none e hD)]; exact e, fun _ m => .inl m, fun _ _ e => .inl e⟩,
    S.aside _ hDF hDθ, hDF, hDθ, upd_same, .nil, ok⟩, ?_⟩
  rintro i m H1 ⟨r, rfl, hr, θ1, F1, μ1, vacc, acc, x1, S1, nF, nθ, hH, ra, ok1⟩
  cases r with
  | nil =>
    unfold cmpL at ok1
    split at ok1
    · rename_i hi
      refine .inl ⟨(hJ i θ1 F1 H1 μ1 l x1.pre x1.sub S1 hi).1 (List.drop_eq_nil_iff.mp hr), ?_⟩
      have hs := sub_upd (o := .lst vacc) nF
      refine ok1 θ1 (upd F1 D (.lst vacc)) H1 (.ref D) ⟨x1.pre, x1.sub.trans hs, x1.frame, x1.fresh, fun b u e => ?_⟩ ⟨fun b u e => ?_, S1.len, S1.nd, fun n b c h1 h2 => ?_⟩ (.lst upd_same (ra.mono (List.prefix_refl _) hs))
      · by_cases hb : b = D
        · exact .inr (.inl (by rw [hb]; exact hD))
        · rw [upd_ne hb] at e; exact x1.news b u e
      · by_cases hb : b = D
        · subst hb; rw [upd_same] at e; cases e; exact hH
        · rw [upd_ne hb] at e; exact S1.sub b u e
      · have ne : b ≠ D := fun z => nθ (by rw [← z]; exact List.mem_of_getElem? h1)
        exact (S1.cell n b c h1 h2).mono (List.prefix_refl _) hs (fun z => by rw [upd_ne ne]; exact z) fun o e => e
    · exact ok1.elim
  | cons w r =>
    unfold cmpL at ok1
    split at ok1
    · rename_i hi
      have hwl : l[i]? = some w := by rw [← List.head?_drop, hr]; rfl
      have hr' : l.drop (i + 1) = r := by rw [← List.tail_drop, hr]; rfl
      obtain ⟨go, yl⟩ := (hJ i θ1 F1 H1 μ1 l x1.pre x1.sub S1 hi).2 w hwl
      refine .inr ⟨go, St1 r, fun H2 h2 => ⟨r.length, by simp, r, rfl, hr', h2⟩, fun v H2 y => ?_⟩
      obtain ⟨F2, x2, S2, r2⟩ := yl v H2 y
      have E2 : SimE K θ1 F2 (wipe σ vs) (wipeW ρ vs) := (E.mono (x1.trans x2).pre (x1.trans x2).sub).wipe vs
      -- where D stands as things go on
      have keepD : ∀ {θ' : List Addr} {F' H' : Hp}, Ext θ1 F1 H1 θ' F' H' → H' D = some (.lst vacc) ∧ D ∉ θ' ∧ F' D = none := fun {θ' F' H'} x => by
        refine ⟨x.frame D _ hH nθ, fun m => ?_, ?_⟩
        · rcases x.fresh D m with z | z
          · exact nθ z
          · rw [hH] at z; cases z
        · cases q : F' D with
          | none => rfl
          | some o =>
            rcases x.news D o q with z | z | z
            · rw [nF] at z; cases z
            · rw [hH] at z; cases z
            · exact absurd z nθ
      refine hw v σ H2 _ ?_
      refine hg v w _ H2 _ θ1 F2 _ μ1 S2 E2 r2 ?_
      cases eg : mg w (wipeW ρ vs) μ1 with
      | no => rw [eg] at ok1; exact ok1.elim
      | er c μ2 => rw [eg] at ok1; exact ok1.elim
      | ok ρ3 μ3 =>
        rw [eg] at ok1
        intro θ3 F3 H3 σ3 x3 S3 E3
        refine ht σ3 H3 _ θ3 F3 ρ3 μ3 S3 E3 ?_
        dsimp only at ok1
        cases et : mt ρ3 μ3 with
        | no => rw [et] at ok1; exact ok1.elim
        | er c μ4 => rw [et] at ok1; exact ok1.elim
        | ok b μ4 =>
          rw [et] at ok1
          intro θ4 F4 H4 b' x4 S4 hb
          have hb : b' = b := hb
          subst hb
          cases b' with
          | false =>
            rw [if_neg Bool.false_ne_true]
            have x14 := (x2.trans x3).trans x4
            obtain ⟨d1, d2, d3⟩ := keepD x14
            exact ⟨θ4, F4, μ4, vacc, acc, x1.trans x14, S4, d3, d2, d1, ra.mono x14.pre x14.sub, ok1⟩
          | true =>
            rw [if_pos rfl]
            refine he σ3 H4 _ θ4 F4 ρ3 μ4 S4 (E3.mono x4.pre x4.sub) ?_
            dsimp only at ok1
            cases ee : me ρ3 μ4 with
            | no => rw [ee] at ok1; exact ok1.elim
            | er c μ5 => rw [ee] at ok1; exact ok1.elim
            | ok yw μ5 =>
              rw [ee] at ok1
              intro θ5 F5 H5 yv x5 S5 r5
              have x15 := ((x2.trans x3).trans x4).trans x5
              obtain ⟨d1, d2, d3⟩ := keepD x15
              dsimp only at ok1
              split at ok1
              · rename_i hl
                have ra5 := ra.mono x15.pre x15.sub
                refine ⟨vacc, d1, by rw [ra5.length]; exact hl, θ5, F5, μ5, vacc ++ [yv], acc ++ [yw], ?_, S5.aside _ d3 d2, d3, d2, upd_same, ra5.append (.cons r5 .nil), ok1⟩
                have x6 := x1.trans x15
                refine ⟨x6.pre, x6.sub, fun b u e hb => ?_, x6.fresh, x6.news⟩
                rw [upd_ne (ne_of_none e hD)]
                exact x6.frame b u e hb
              · exact ok1.elim
    · exact ok1.elim
section
variable {X : Cx} {Wx : WX} {tg elt iter : Expr} {ifs : List Expr} {scope : Scope} {own : List (Str × Nat)} {pos : Pos} {wi : TI} {mi : IM} {g : TG} {mg : W → Env → Mu → Out Env} {tt : TT} {mt : BM} {te : TE} {me : EM}
theorem ped_cmp1 (hc : X.calm = true) (hN : X.N.Nodup) (hi : PID X Wx tg iter wi mi) (ok : BlkOk X.N X.env.scope scope own) (hw : GOwn g (own.map (·.2)))
    (hg : ∀ (s : Shared) (H : Hp) (C : Addr) (cl : List (Str × Addr)) (fp : List Addr), PGD (X.blk s H scope (compEnvC scope cl C X.env) fp) W0 tg g mg) (ht : ∀ (s : Shared) (H : Hp) (C : Addr) (cl : List (Str × Addr)) (fp : List Addr), PTsD (X.blk s H scope (compEnvC scope cl C X.env) fp) W0 ifs tt mt)
    (he : ∀ (s : Shared) (H : Hp) (C : Addr) (cl : List (Str × Addr)) (fp : List Addr), PED (X.blk s H scope (compEnvC scope cl C X.env) fp) W0 elt te me) (hs : ∀ x, foldedSetIterable iter X.env x = pure x := by intro _; rfl) :
    PED X Wx (.ListComp elt [⟨tg, iter, ifs, 0⟩] scope pos) (tLc wi g tt te (own.map (·.2))) (eCmp mi (own.map (·.2)) mg mt me) := by
  refine ⟨pe_lc hc hN hi.pi ok (fun s H C cl fp => (hg s H C cl fp).pg) (fun s H C cl fp => (ht s H C cl fp).pt) (fun s H C cl fp => (he s H C cl fp).pe) hs, fun σ H Q θ F ρ μ S E okk => ?_⟩
  have hg0 := (hg X.s_0 X.H_0 0 [] []).ad
  have ht0 := (ht X.s_0 X.H_0 0 [] []).ad
  have he0 := (he X.s_0 X.H_0 0 [] []).ad
  refine hi.ad.use S E okk fun θ1 F1 H1 μ1 J it x1 S1 E1 hJ ok1 => ?_
  cases it with
  | seq l => exact ad_lc (l := l) (ρ := ρ) hw hg0 ht0 he0 hJ S1 E1 (by rw [cmpL_seq]; exact ok1)
  | cell n =>
    dsimp only at ok1
    cases e2 : (Iter.cell n).items μ1 with
    | none => rw [e2] at ok1; exact ok1.elim
    | some l =>
      rw [e2] at ok1
      exact ad_lc (l := l) (ρ := ρ) hw hg0 ht0 he0 hJ S1 E1 ok1
end

/-! ### isinstance of built-in classes -/
inductive Bt where
  | non | bl | int | str | tup | lst
  deriving DecidableEq
def Bt.name : Bt → String
  | .non => "NoneType" | .bl => "bool" | .int => "int" | .str => "str" | .tup => "tuple" | .lst => "list"
def Bt.isA : Bt → Bt → Bool
  | .bl, .int => true
  | t, u => decide (t = u)
theorem Bt.kit (K : PySem.W.Frag) (t u : Bt) : PySem.W.kitOne K (.type t.name) (.type u.name) = some (t.isA u) := by
  cases t <;> cases u <;> kernel_rfl
def tyB (μ : Mu) : W → Option Bt
  | .non => some .non | .bl _ => some .bl | .int _ => some .int | .str _ => some .str | .tup _ => some .tup | .lst _ => some .lst | .scr _ => some .lst
  | .loc n => match μ[n]? with
    | some (.lst _) => some .lst
    | _ => none
  | _ => none
def btOf (n : String) : Option Bt := if n = "int" then some .int else if n = "bool" then some .bl else if n = "str" then some .str else if n = "tuple" then some .tup else if n = "list" then some .lst else none
theorem btOf_name {n : String} {t : Bt} (h : btOf n = some t) : n = t.name := by
  unfold btOf at h
  repeat' split at h
  all_goals first | (cases h; assumption) | cases h
theorem tyB_rep {K : PySem.W.Frag} {θ : List Addr} {F H : Hp} {μ : Mu} (S : Sim K θ F H μ) {v : V} {w : W} {t : Bt} (r : Rep K θ F v w) (h : tyB μ w = some t) : TyX K H v (.type t.name) := by
  cases r with
  | non => cases h; exact .base .non
  | bl b => cases h; exact .base (.bl b)
  | int i => cases h; exact .base (.int i)
  | str x => cases h; exact .base (.str x)
  | ty n => cases h
  | ref a => cases h
  | @loc n a e =>
    unfold tyB at h
    simp only at h
    split at h
    · rename_i l e1
      cases h
      obtain ⟨b, e2, c⟩ := S.at e1
      rw [e] at e2; cases e2
      obtain ⟨_, vs, q1, _⟩ := c
      exact .base (.lst q1)
    · cases h
  | tup q _ =>
    cases h
    rcases q with (q | ⟨o, q⟩) | ⟨o, its, n, q, c, _⟩
    · exact .base (.tup (S.sub _ _ q))
    · exact .fTuple (S.sub _ _ q)
    · exact .kTuple q c
  | lst q _ => cases h; exact .base (.lst (S.sub _ _ q))
  | scr q _ =>
    cases h
    rcases q with (q | ⟨o, q⟩) | ⟨o, its, n, q, c, _⟩
    · exact .base (.lst (S.sub _ _ q))
    · exact .base (.frz (S.sub _ _ q))
    · exact .kList q c
def cIsi : GC := fun ws μ => match ws with
  | [w, .ty n] => match tyB μ w, btOf n with
    | some t, some u => .ok (.bl (t.isA u)) μ
    | _, _ => .no
  | _ => .no
theorem adc_isi {K : PySem.W.Frag} : AdC K (rIsi K) cIsi := by
  intro vs ws E Q H θ F μ S rs ok
  unfold cIsi at ok
  split at ok
  · split at ok
    · rename_i w n t u h1 h2
      obtain ⟨v, c, rfl, r1, r2⟩ := rep2 rs
      cases r2
      have e := btOf_name h2
      subst e
      exact ⟨v, _, _, _, _, rfl, .ty _, tyB_rep S r1 h1, Bt.kit K t u, ok.here S (.bl _)⟩
    · exact ok.elim
  · exact ok.elim

/-! ### methods of lists -/
abbrev GM := W → List W → Mu → Out W
def AdM (K : PySem.W.Frag) (r : V → List V → Hp → VK → Prop) (g : GM) : Prop := ∀ {x : V} {vs : List V} {w : W} {ws : List W} {E : Addr → Hp → Prop} {Q : VK} {H : Hp} {θ : List Addr} {F : Hp} {μ : Mu}, Sim K θ F H μ → Rep K θ F x w → RepAll K θ F vs ws → (g w ws μ).Ok K (Rep K) θ F H E Q → r x vs H Q
def isL (μ : Mu) (w : W) : Bool := (asL μ w).isSome
theorem isL_rep {K : PySem.W.Frag} {θ : List Addr} {F H : Hp} {μ : Mu} (S : Sim K θ F H μ) {v : V} {w : W} (r : Rep K θ F v w) (h : isL μ w = true) : tyV K "list" v H := by
  unfold isL at h
  obtain ⟨l, e⟩ := Option.isSome_iff_exists.mp h
  obtain ⟨a, vs, rfl, h1, _⟩ := asL_rep S r e
  exact .inl ⟨rfl, vs, .of h1⟩
def eMeL (g : GM) (o : EM) (m : AM) : EM := fun ρ μ => (o ρ μ).bind fun x μ1 => if isL μ1 x = true then (m ρ μ1).bind fun ws μ2 => g x ws μ2 else .no
def eMeL0 (g : GM) (o : EM) : EM := fun ρ μ => (o ρ μ).bind fun x μ1 => if isL μ1 x = true then g x [] μ1 else .no
section
variable {X : Cx} {Wx : WX} {o e : Expr} {es : List Expr} {to : TE} {t : TA} {mo : EM} {m : AM} {name : Str} {apos cpos : Pos} {id : String} {r : V → List V → Hp → VK → Prop} {g : GM}
theorem ped_meL (slot : Slot "list" name id) (hty : typeOf (.builtin id) = pure (.type "method_descriptor")) (hm : MtR X id r) (hG : AdM X.K r g) (ho : PED X Wx o to mo) (ha : PAD X Wx (e :: es) t m)
    (hbase : attributeBase o name X.env (eval o X.env) = eval o X.env := by rfl)
    (hfew : ((backTo cpos (starEach (e :: es) X.env)).all (fun x => !x.1) && (backToKw cpos (keywordEach [] X.env)).all (fun x => x.1.isSome)
      && decide ((e :: es).length + ([] : List Keyword).length + (if ([] : List Keyword).isEmpty then 0 else 1) < 30)) = true := by rfl)
    (hline : (apos.endLine == cpos.line) = true := by rfl) (hs : starEach (e :: es) X.env = (false, eval e X.env) :: starEach es X.env := by rfl) (hplain : (backTo cpos (starEach es X.env)).any (·.1) = false := by rfl) :
    PED X Wx (.Call (.Attribute o name apos) (e :: es) [] cpos) (tBM X.K "list" r to t) (eMeL g mo m) := by
  refine ⟨pe_bm PySem.F.plainAttrs_list slot hty hm ho.pe ha.pa hbase hfew hline hs hplain, fun σ H Q θ F ρ μ S E ok => ?_⟩
  refine ho.ad.use S E ok fun θ1 F1 H1 μ1 v w x1 S1 E1 r1 ok1 => ?_
  split at ok1
  · rename_i hl
    refine ⟨isL_rep S1 r1 hl, ?_⟩
    refine ha.ad.use S1 E1 ok1 fun θ2 F2 H2 μ2 vs ws x2 S2 E2 r2 ok2 => ?_
    exact hG S2 (r1.mono x2.pre x2.sub) r2 ok2
  · exact ok1.elim
theorem ped_meL0 (slot : Slot "list" name id) (hty : typeOf (.builtin id) = pure (.type "method_descriptor")) (hm : MtR X id r) (hG : AdM X.K r g) (ho : PED X Wx o to mo)
    (hbase : attributeBase o name X.env (eval o X.env) = eval o X.env := by rfl) (hline : (apos.endLine == cpos.line) = true := by rfl) : PED X Wx (.Call (.Attribute o name apos) [] [] cpos) (tBM0 X.K "list" r to) (eMeL0 g mo) := by
  refine ⟨pe_bm0 PySem.F.plainAttrs_list slot hty hm ho.pe hbase hline, fun σ H Q θ F ρ μ S E ok => ?_⟩
  refine ho.ad.use S E ok fun θ1 F1 H1 μ1 v w x1 S1 E1 r1 ok1 => ?_
  split at ok1
  · rename_i hl
    exact ⟨isL_rep S1 r1 hl, hG S1 r1 .nil ok1⟩
  · exact ok1.elim
end
section
variable {K : PySem.W.Frag}
theorem loc_rep {θ : List Addr} {F H : Hp} {μ : Mu} (S : Sim K θ F H μ) {v : V} {n : Nat} {l : List W} (r : Rep K θ F v (.loc n)) (h : μ[n]? = some (.lst l)) : ∃ a vs, v = .ref a ∧ θ[n]? = some a ∧ F a = none ∧ H a = some (.lst vs) ∧ RepAll K θ F vs l := by
  cases r with
  | loc e =>
    obtain ⟨b, e2, c⟩ := S.at h
    rw [e] at e2; cases e2
    obtain ⟨f, vs, q1, q2⟩ := c
    exact ⟨_, vs, rfl, e, f, q1, q2⟩
theorem write_lst {θ : List Addr} {F H : Hp} {μ : Mu} (S : Sim K θ F H μ) {n : Nat} {a : Addr} {vs : List V} {l : List W} (ha : θ[n]? = some a) (hF : F a = none) (q : RepAll K θ F vs l) :
    Sim K θ F (upd H a (.lst vs)) (μ.set n (.lst l)) ∧ Ext θ F H θ F (upd H a (.lst vs)) := S.write ha hF ⟨hF, vs, upd_same, q⟩
def mAppend : GM := fun x ws μ => match x, ws with
  | .loc n, [w] => match μ[n]? with
    | some (.lst l) => if l.length < sizeLine then .ok .non (μ.set n (.lst (l ++ [w]))) else .no
    | _ => .no
  | _, _ => .no
theorem adm_append : AdM K rAppend mAppend := by
  intro x vs w ws E Q H θ F μ S rx rs ok
  unfold mAppend at ok
  split at ok
  · rename_i n w
    split at ok
    · rename_i l h
      split at ok
      · rename_i hl
        obtain ⟨a, us, rfl, h1, h2, h3, q⟩ := loc_rep S rx h
        obtain ⟨v, rfl, r⟩ := rep1 rs
        refine ⟨a, us, v, rfl, rfl, h3, by rw [q.length]; exact hl, ?_⟩
        obtain ⟨S1, x1⟩ := write_lst S h1 h2 (q.append (.cons r .nil))
        exact ok _ _ _ _ x1 S1 .non
      · exact ok.elim
    · exact ok.elim
  · exact ok.elim
def mPop : GM := fun x ws μ => match x, ws with
  | .loc n, [] => match μ[n]? with
    | some (.lst l) => match l[l.length - 1]? with
      | some w => .ok w (μ.set n (.lst l.dropLast))
      | none => .no
    | _ => .no
  | _, _ => .no
theorem adm_pop : AdM K rPop mPop := by
  intro x vs w ws E Q H θ F μ S rx rs ok
  unfold mPop at ok
  split at ok
  · rename_i n
    split at ok
    · rename_i l h
      split at ok
      · rename_i w hw
        obtain ⟨a, us, rfl, h1, h2, h3, q⟩ := loc_rep S rx h
        cases rs
        obtain ⟨v, hv, r⟩ := q.get hw
        refine ⟨a, us, v, rfl, rfl, h3, by rw [q.length]; exact hv, ?_⟩
        obtain ⟨S1, x1⟩ := write_lst S h1 h2 q.dropLast
        exact ok _ _ _ _ x1 S1 r
      · exact ok.elim
    · exact ok.elim
  · exact ok.elim
def mPopAt : GM := fun x ws μ => match x, ws with
  | .loc n, [.int i] => match μ[n]? with
    | some (.lst l) => if -(2 ^ 63) ≤ i ∧ i < 2 ^ 63 then match seqIndex? i l.length with
      | some k => match l[k]? with
        | some w => .ok w (μ.set n (.lst (l.eraseIdx k)))
        | none => .no
      | none => .no else .no
    | _ => .no
  | _, _ => .no
theorem adm_popAt : AdM K rPopAt mPopAt := by
  intro x vs w ws E Q H θ F μ S rx rs ok
  unfold mPopAt at ok
  split at ok
  · rename_i n i
    split at ok
    · rename_i l h
      split at ok
      · rename_i hi
        split at ok
        · rename_i k hk
          split at ok
          · rename_i w hw
            obtain ⟨a, us, rfl, h1, h2, h3, q⟩ := loc_rep S rx h
            obtain ⟨vi, rfl, ri⟩ := rep1 rs
            cases ri
            obtain ⟨v, hv, r⟩ := q.get hw
            refine ⟨a, us, i, k, v, rfl, rfl, h3, hi.1, hi.2, by rw [q.length]; exact hk, hv, ?_⟩
            obtain ⟨S1, x1⟩ := write_lst S h1 h2 (q.eraseIdx k)
            exact ok _ _ _ _ x1 S1 r
          · exact ok.elim
        · exact ok.elim
      · exact ok.elim
    · exact ok.elim
  · exact ok.elim
def mIndex : GM := fun x ws μ => match ws with
  | [y] => match topD μ x, topD μ y with
    | some (.list ds), some d => if SeqAt.shaped (.list ds) = true ∧ SeqAt.shaped d = true then match ds.findIdx? fun z => PyData.eqv z d with
      | some j => .ok (.int (j : Nat)) μ
      | none => .no else .no
    | _, _ => .no
  | _ => .no
theorem adm_index : AdM K (rIndexD K) mIndex := by
  intro x vs w ws E Q H θ F μ S rx rs ok
  unfold mIndex at ok
  split at ok
  · split at ok
    · split at ok
      · rename_i ds d h1 h2 h3
        split at ok
        · rename_i j hj
          obtain ⟨v, rfl, r⟩ := rep1 rs
          have hd := topD_rep S rx h1
          have hy := topD_rep S r h2
          cases hd with
          | @lst a xs _ hs ha =>
            rw [List.findIdx?_eq_some_iff_getElem] at hj
            obtain ⟨hl, hz, hno⟩ := hj
            refine ⟨a, v, d, ds, j, ds[j], rfl, rfl, .lst hs ha, hy, h3.1, h3.2, List.getElem?_eq_getElem hl, hz, fun m z' hm hz' => ?_, ok.here S (.int _)⟩
            obtain ⟨hml, rfl⟩ := List.getElem?_eq_some_iff.mp hz'
            have := hno m hm
            simpa using this
        · exact ok.elim
      · exact ok.elim
    · exact ok.elim
  · exact ok.elim
end

/-! ### calls of the program's own defs -/
abbrev FM := List W → Mu → Out W
def spD (K : PySem.W.Frag) (n : Nat) (f : FM) : Sp := fun vs H Q E => vs.length = n ∧ ∃ (θ : List Addr) (F : Hp) (ws : List W) (μ : Mu), Sim K θ F H μ ∧ RepAll K θ F vs ws ∧ (f ws μ).Ok K (Rep K) θ F H (fun c H' => E (.ref c) none H') Q
/-- the def at a does what f says -/
abbrev FnD (P : Program) (w : World) (K : PySem.W.Frag) (mg : Str → Option Value) (base : Heap) (k : Nat) (a : Addr) (fd : FuncData) (ps : List Str) (f : FM) : Prop := FnOk P w K mg base (L2N.CX P w) k a fd ps (spD K ps.length f)
def eFn (n : Nat) (f : FM) (m : AM) : EM := fun ρ μ => (m ρ μ).bind fun ws μ1 => if ws.length = n then f ws μ1 else .no
section
variable {X : Cx} {Wx : WX} {k : Nat} {a C : Addr} {fd : FuncData} {ps : List Str} {f : FM} {x m : Str} {p pos apos : Pos} {e o : Expr} {es : List Expr} {t : TA} {ta : TE} {ma : AM} {mo : EM} {E : St → XK} {sp : Sp}
theorem ped_fn (F : FnD X.prog X.w X.K X.mg X.base k a fd ps f) (hr : Room k X.A) (tk : L2N.Takes X Wx) (hg : Gl X x) (hm : X.mg x = some (.ref a)) (hk : PySem.W.keepIn X.K (.ref a) = true) (hb : Binds X.K fd ps []) (ha : PAD X Wx (e :: es) t ma)
    (hdb : (x == ("__debug__" : Str)) = false := by decide) (he : starEach (e :: es) X.env = (false, eval e X.env) :: starEach es X.env := by rfl) (hpl : (backTo pos (starEach es X.env)).any (·.1) = false := by rfl) :
    PED X Wx (.Call (.Name x p) (e :: es) [] pos) (tCallS (spD X.K ps.length f) (WE Wx) t) (eFn ps.length f ma) := by
  refine ⟨pe_callS F hr hg hm hk hb (fun σ => L2N.passAt tk σ) ha.pa hdb he hpl, fun σ H Q θ G ρ μ S E ok => ?_⟩
  refine ha.ad.use S E ok fun θ1 F1 H1 μ1 vs ws x1 S1 E1 r1 ok1 => ?_
  split at ok1
  · rename_i hl
    exact ⟨by rw [r1.length]; exact hl, θ1, F1, ws, μ1, S1, r1, ok1⟩
  · exact ok1.elim
/-- a call of a def of one's own without arguments -/
theorem pe_fn0 (F : FnOk X.prog X.w X.K X.mg X.base (L2N.CX X.prog X.w) k a fd ps sp) (hr : Room k X.A) (hg : Gl X x) (hm : X.mg x = some (.ref a)) (hk : PySem.W.keepIn X.K (.ref a) = true) (hb : Binds X.K fd ps []) (hx : ∀ σ, PassesAt (L2N.CX X.prog X.w) X σ (E σ))
    (hdb : (x == ("__debug__" : Str)) = false := by decide) : PE X (.Call (.Name x p) [] [] pos) (fun σ H Q => sp [] H Q (E σ)) :=
  ⟨fun pins s σ H Q I h => wpAny_Call_Name_kw (ld_glob I hg hm (PySem.W.callWith_K0 I.kIn hk (run_fnS (us := []) (vs := []) F hr hb (hx σ) I .nil h)) hdb)⟩
theorem ped_fn0 (F : FnD X.prog X.w X.K X.mg X.base k a fd ps f) (hr : Room k X.A) (tk : L2N.Takes X Wx) (hg : Gl X x) (hm : X.mg x = some (.ref a)) (hk : PySem.W.keepIn X.K (.ref a) = true) (hb : Binds X.K fd ps []) (h0 : ps.length = 0) (hdb : (x == ("__debug__" : Str)) = false := by decide) :
    PED X Wx (.Call (.Name x p) [] [] pos) (fun σ H Q => spD X.K ps.length f [] H Q (WE Wx σ)) (eFn ps.length f aNil) :=
  ⟨pe_fn0 F hr hg hm hk hb (fun σ => L2N.passAt tk σ) hdb, fun σ H Q θ G ρ μ S E ok => ⟨h0.symm, θ, G, [], μ, S, .nil, by
    unfold eFn aNil at ok
    simp only [Out.bind, List.length_nil, h0, if_true] at ok
    exact ok⟩⟩
/-- o.m(e, ..), what is raised is wished for at the slots -/
def tMeS (C : Addr) (m : Str) (sp : Sp) (E : St → XK) (ta : TE) (t : TA) : TE := fun σ H Q => ta σ H fun x H1 => ∃ a dx fs, x = .ref a ∧ H1 a = some (.ins C dx fs) ∧ fs.lookup m = none ∧ t σ H1 fun vs H2 => sp (x :: vs) H2 Q (E σ)
theorem pe_meA {pl : Sem Bool} (ho : PE X o ta) (c : Cls X.K C) (hm : Meth X.K C m a) (F : FnOk X.prog X.w X.K X.mg X.base (L2N.CX X.prog X.w) k a fd ps sp) (hr : Room k X.A) (hb : Binds X.K fd ps []) (hx : ∀ σ, PassesAt (L2N.CX X.prog X.w) X σ (E σ)) (ha : PA X (e :: es) t)
    (hst : starEach (e :: es) X.env = (false, eval e X.env) :: starEach es X.env := by rfl) (hpl : (backTo pos (starEach es X.env)).any (·.1) = false := by rfl)
    (ht : eval (.Call (.Attribute o m apos) (e :: es) [] pos) X.env = (do
      let ov ← eval o X.env
      standAt apos.atName
      let (f, first) ← holding [ov] (getMethod ov m pl)
      callWith pos f first (backTo pos (starEach (e :: es) X.env)) (backToKw pos (keywordEach [] X.env))) := by rfl) :
    PE X (.Call (.Attribute o m apos) (e :: es) [] pos) (tMeS C m sp E ta t) := by
  constructor
  intro pins s σ H Q I h
  refine PySem.W.methodCall_KW (pl := pl) (thn (ho.run pins s σ H _ I h) fun u s1 ⟨y, H1, I1, ry, b, dx, fs, ey, eb, l, q⟩ => ?_) ht
  subst ey
  have eu : u = Value.ref b := ry
  subst eu
  refine getmeth_ok I1 eb c hm l (PySem.W.callWith_K (first := [.ref b]) (h₀ := X.base) I.ok.mod.kin hm.kp (thn (ha.run pos pins s1 σ H1 _ I1 q) fun us s2 ⟨vs, H2, I2, r, q2⟩ => ⟨I2.kIn, ?_⟩) hst hpl)
  exact run_fnS (us := .ref b :: us) (vs := .ref b :: vs) F hr hb (hx σ) I2 (.cons rfl r) q2
theorem pe_meA0 {pl : Sem Bool} (ho : PE X o ta) (c : Cls X.K C) (hm : Meth X.K C m a) (F : FnOk X.prog X.w X.K X.mg X.base (L2N.CX X.prog X.w) k a fd ps sp) (hr : Room k X.A) (hb : Binds X.K fd ps []) (hx : ∀ σ, PassesAt (L2N.CX X.prog X.w) X σ (E σ))
    (ht : eval (.Call (.Attribute o m apos) [] [] pos) X.env = (do
      let ov ← eval o X.env
      standAt apos.atName
      let (f, first) ← holding [ov] (getMethod ov m pl)
      callWith pos f first (backTo pos (starEach [] X.env)) (backToKw pos (keywordEach [] X.env))) := by rfl) :
    PE X (.Call (.Attribute o m apos) [] [] pos) (tMeS C m sp E ta tNil) := by
  constructor
  intro pins s σ H Q I h
  refine PySem.W.methodCall_KW (pl := pl) (thn (ho.run pins s σ H _ I h) fun u s1 ⟨y, H1, I1, ry, b, dx, fs, ey, eb, l, q⟩ => ?_) ht
  subst ey
  have eu : u = Value.ref b := ry
  subst eu
  exact getmeth_ok I1 eb c hm l (PySem.W.callWith_K0 (first := [.ref b]) I1.kIn hm.kp (run_fnS (us := [.ref b]) (vs := [.ref b]) F hr hb (hx σ) I1 (.cons rfl .nil) q))
/-- the receiver is an instance of the class at C without the attribute m -/
def insOf (C : Addr) (m : Str) (μ : Mu) : W → Bool
  | .loc n => match μ[n]? with
    | some (.ins D fs) => decide (D = C) && (fs.lookup m).isNone
    | _ => false
  | _ => false
theorem insOf_rep {K : PySem.W.Frag} {θ : List Addr} {F H : Hp} {μ : Mu} (S : Sim K θ F H μ) {v : V} {w : W} (r : Rep K θ F v w) (h : insOf C m μ w = true) : ∃ a dx fs, v = .ref a ∧ H a = some (.ins C dx fs) ∧ fs.lookup m = none := by
  unfold insOf at h
  split at h
  · split at h
    · rename_i n D fs e1
      rw [Bool.and_eq_true, decide_eq_true_eq] at h
      obtain ⟨rfl, h2⟩ := h
      cases r with
      | loc e =>
        obtain ⟨b, e2, c⟩ := S.at e1
        rw [e] at e2; cases e2
        obtain ⟨_, dx, gs, q1, q2⟩ := c
        exact ⟨_, dx, gs, rfl, q1, q2.no (by simpa using h2)⟩
    · cases h
  · cases h
def eMe (C : Addr) (m : Str) (n : Nat) (f : FM) (o : EM) (ma : AM) : EM := fun ρ μ => (o ρ μ).bind fun x μ1 => if insOf C m μ1 x = true then (ma ρ μ1).bind fun ws μ2 => if ws.length + 1 = n then f (x :: ws) μ2 else .no else .no
theorem ad_me {K : PySem.W.Frag} {n : Nat} (ho : Ad K Wx (Rep K) ta mo) (ha : Ad K Wx (RepAll K) t ma) : Ad K Wx (Rep K) (tMeS C m (spD K n f) (WE Wx) ta t) (eMe C m n f mo ma) := by
  intro σ H Q θ F ρ μ S E ok
  refine ho.use S E ok fun θ1 F1 H1 μ1 v w x1 S1 E1 r1 ok1 => ?_
  split at ok1
  · rename_i hi
    obtain ⟨a, dx, fs, rfl, h1, h2⟩ := insOf_rep S1 r1 hi
    refine ⟨a, dx, fs, rfl, h1, h2, ?_⟩
    refine ha.use S1 E1 ok1 fun θ2 F2 H2 μ2 vs ws x2 S2 E2 r2 ok2 => ?_
    split at ok2
    · rename_i hl
      exact ⟨by rw [← hl, ← r2.length]; rfl, θ2, F2, w :: ws, μ2, S2, .cons (r1.mono x2.pre x2.sub) r2, ok2⟩
    · exact ok2.elim
  · exact ok1.elim
theorem ped_me {pl : Sem Bool} (ho : PED X Wx o ta mo) (c : Cls X.K C) (hm : Meth X.K C m a) (F : FnD X.prog X.w X.K X.mg X.base k a fd ps f) (hr : Room k X.A) (tk : L2N.Takes X Wx) (hb : Binds X.K fd ps []) (ha : PAD X Wx (e :: es) t ma)
    (hst : starEach (e :: es) X.env = (false, eval e X.env) :: starEach es X.env := by rfl) (hpl : (backTo pos (starEach es X.env)).any (·.1) = false := by rfl)
    (ht : eval (.Call (.Attribute o m apos) (e :: es) [] pos) X.env = (do
      let ov ← eval o X.env
      standAt apos.atName
      let (f, first) ← holding [ov] (getMethod ov m pl)
      callWith pos f first (backTo pos (starEach (e :: es) X.env)) (backToKw pos (keywordEach [] X.env))) := by rfl) :
    PED X Wx (.Call (.Attribute o m apos) (e :: es) [] pos) (tMeS C m (spD X.K ps.length f) (WE Wx) ta t) (eMe C m ps.length f mo ma) :=
  ⟨pe_meA (pl := pl) ho.pe c hm F hr hb (fun σ => L2N.passAt tk σ) ha.pa hst hpl ht, ad_me ho.ad ha.ad⟩
theorem ped_me0 {pl : Sem Bool} (ho : PED X Wx o ta mo) (c : Cls X.K C) (hm : Meth X.K C m a) (F : FnD X.prog X.w X.K X.mg X.base k a fd ps f) (hr : Room k X.A) (tk : L2N.Takes X Wx) (hb : Binds X.K fd ps [])
    (ht : eval (.Call (.Attribute o m apos) [] [] pos) X.env = (do
      let ov ← eval o X.env
      standAt apos.atName
      let (f, first) ← holding [ov] (getMethod ov m pl)
      callWith pos f first (backTo pos (starEach [] X.env)) (backToKw pos (keywordEach [] X.env))) := by rfl) :
    PED X Wx (.Call (.Attribute o m apos) [] [] pos) (tMeS C m (spD X.K ps.length f) (WE Wx) ta tNil) (eMe C m ps.length f mo aNil) :=
  ⟨pe_meA0 (pl := pl) ho.pe c hm F hr hb (fun σ => L2N.passAt tk σ) ht, ad_me ho.ad (fun σ H Q θ F ρ μ S E ok => ok.here S .nil)⟩
end

/-! ### instances -/
section
variable {X : Cx} {Wx : WX} {k : Nat} {a C : Addr} {fd : FuncData} {ps : List Str} {f : FM} {x m fl : Str} {p pos pos' tpos apos : Pos} {e o value : Expr} {es : List Expr} {t : TA} {ta tv : TE} {ma : AM} {mo mv : EM} {E : St → XK} {sp : Sp}
def tMkS (C : Addr) (sp : Sp) (E : St → XK) (t : TA) : TE := fun σ H Q => t σ H fun vs H1 => ∀ x dx, H1 x = none → H1 dx = none → dx ≠ x → sp (.ref x :: vs) (upd (upd H1 dx (.own x)) x (.ins C dx [])) (fun v H2 => v = .non ∧ Q (.ref x) H2) (E σ)
theorem run_mk {pins : List (Addr × Obj)} {σ : St} {H : Hp} {s : Shared} {Q : VK} {us : List Value} {vs : List V} (M : Mk X.K C a) (F : FnOk X.prog X.w X.K X.mg X.base (L2N.CX X.prog X.w) k a fd ps sp) (hr : Room (k + 1) X.A) (hb : Binds X.K fd ps [])
    (hx : PassesAt (L2N.CX X.prog X.w) X σ (E σ)) (I : Inv X pins σ H s) (r : Vals vs us)
    (h : ∀ x dx, H x = none → H dx = none → dx ≠ x → sp (.ref x :: vs) (upd (upd H dx (.own x)) x (.ins C dx [])) (fun v H2 => v = .non ∧ Q (.ref x) H2) (E σ)) :
    wpAny (model X.prog X.w) X.A (call (.ref C) us) (EP X pins σ Q) X.xe s := by
  have hq := h (s.heap.objs.size + 1) s.heap.objs.size (I.hok.fresh (Nat.le_succ _)) (I.hok.fresh (Nat.le_refl _)) (Nat.ne_of_lt (Nat.lt_succ_self _))
  have I2 := Inv.made (C := C) I
  have r2 : Vals (V.ref (s.heap.objs.size + 1) :: vs) (Value.ref (s.heap.objs.size + 1) :: us) := .cons rfl r
  have hl : (Value.ref (s.heap.objs.size + 1) :: us).length = ps.length := by rw [← r2.length]; exact F.len _ _ _ _ hq
  have b := hb _ (Value.ref (s.heap.objs.size + 1) :: us) I2.kIn (by rw [List.append_nil]; exact hl)
  rw [List.append_nil] at b
  refine wpAny_call (make_map (f := a) I.kIn M.makes M.init (beq_iff_eq.mp M.fn) (codeAny_mono (F.run _ X.stack _ _ ⟨Value.ref (s.heap.objs.size + 1) :: us, []⟩ (Value.ref (s.heap.objs.size + 1) :: us) _ _ (E σ) (hr.make C us []) (I2.env0.make C us []) b r2 hq) fun r s' hq' => ?_))
  cases r with
  | error e => exact hx pins _ _ e s' I2 hq'
  | ok fw =>
    cases fw with
    | ret u =>
      obtain ⟨v, H', I3, rv, ev, q3⟩ := I2.after hq'
      subst ev
      exact ⟨rv, V.ref (s.heap.objs.size + 1), H', I3, rfl, q3⟩
    | next => exact hq'.elim
    | brk => exact hq'.elim
    | cont => exact hq'.elim
theorem pe_mkA (M : Mk X.K C a) (F : FnOk X.prog X.w X.K X.mg X.base (L2N.CX X.prog X.w) k a fd ps sp) (hr : Room (k + 1) X.A) (hg : Gl X x) (hm : X.mg x = some (.ref C)) (hb : Binds X.K fd ps []) (hx : ∀ σ, PassesAt (L2N.CX X.prog X.w) X σ (E σ))
    (ha : PA X (e :: es) t) (hdb : (x == ("__debug__" : Str)) = false := by decide) (he : starEach (e :: es) X.env = (false, eval e X.env) :: starEach es X.env := by rfl) (hpl : (backTo pos (starEach es X.env)).any (·.1) = false := by rfl) :
    PE X (.Call (.Name x p) (e :: es) [] pos) (tMkS C sp E t) := by
  constructor
  intro pins s σ H Q I h
  refine wpAny_Call_Name_kw (ld_glob I hg hm (PySem.W.callWith_K (h₀ := X.base) I.ok.mod.kin M.kp (thn (ha.run pos pins s σ H _ I h) fun us s1 ⟨vs, H1, I1, r, q⟩ => ⟨I1.kIn, ?_⟩) he hpl) hdb)
  exact run_mk M F hr hb (hx σ) I1 r q
theorem pe_mkA0 (M : Mk X.K C a) (F : FnOk X.prog X.w X.K X.mg X.base (L2N.CX X.prog X.w) k a fd ps sp) (hr : Room (k + 1) X.A) (hg : Gl X x) (hm : X.mg x = some (.ref C)) (hb : Binds X.K fd ps []) (hx : ∀ σ, PassesAt (L2N.CX X.prog X.w) X σ (E σ))
    (hdb : (x == ("__debug__" : Str)) = false := by decide) : PE X (.Call (.Name x p) [] [] pos) (tMkS C sp E tNil) := by
  constructor
  intro pins s σ H Q I h
  exact wpAny_Call_Name_kw (ld_glob I hg hm (PySem.W.callWith_K0 I.kIn M.kp (run_mk (us := []) M F hr hb (hx σ) I .nil h)) hdb)
/-- a new instance, then what __init__ does -/
def eMk (C : Addr) (n : Nat) (f : FM) (m : AM) : EM := fun ρ μ => (m ρ μ).bind fun ws μ1 => if ws.length + 1 = n then (f (.loc μ1.length :: ws) (μ1 ++ [.ins C []])).bind fun r μ2 => match r with
  | .non => .ok (.loc μ1.length) μ2
  | _ => .no else .no
theorem ad_mk {K : PySem.W.Frag} {n : Nat} (ha : Ad K Wx (RepAll K) t ma) : Ad K Wx (Rep K) (tMkS C (spD K n f) (WE Wx) t) (eMk C n f ma) := by
  intro σ H Q θ F ρ μ S E ok
  refine ha.use S E ok fun θ1 F1 H1 μ1 vs ws x1 S1 E1 r1 ok1 => ?_
  split at ok1
  · rename_i hl
    intro x dx hx hdx hne
    have S2 := S1.aside (p := dx) (.own x) (S1.outF hdx) (S1.out hdx)
    have hx2 : upd H1 dx (.own x) x = none := by rw [upd_ne (Ne.symm hne)]; exact hx
    have x2 : Ext θ1 F1 H1 θ1 F1 (upd H1 dx (.own x)) := ⟨List.prefix_refl _, .refl _, fun b u e _ => by rw [upd_ne (ne_of_none e hdx)]; exact e, fun _ m => .inl m, fun _ _ e => .inl e⟩
    obtain ⟨S3, x3⟩ := S2.alloc (p := x) (o := .ins C dx []) (c := .ins C []) hx2 ⟨S1.outF hx, dx, [], upd_same, .nil⟩
    have x23 := x2.trans x3
    have rx : Rep K (θ1 ++ [x]) F1 (.ref x) (.loc μ1.length) := .loc (by rw [← S1.len, List.getElem?_append_right (Nat.le_refl _)]; simp)
    refine ⟨by rw [← hl, ← r1.length]; rfl, θ1 ++ [x], F1, .loc μ1.length :: ws, μ1 ++ [.ins C []], S3, .cons rx (r1.mono x23.pre x23.sub), ?_⟩
    have ok2 := Out.Ok.mono ok1 x23
    cases e : f (.loc μ1.length :: ws) (μ1 ++ [.ins C []]) with
    | no => rw [e] at ok2; exact ok2
    | er c μ2 => rw [e] at ok2; exact ok2
    | ok r μ2 =>
      rw [e] at ok2
      intro θ4 F4 H4 v x4 S4 r4
      cases r4 with
      | non => exact ⟨rfl, ok2 θ4 F4 H4 _ x4 S4 (rx.mono x4.pre x4.sub)⟩
      | bl _ => exact ok2.elim
      | int _ => exact ok2.elim
      | str _ => exact ok2.elim
      | ty _ => exact ok2.elim
      | ref _ => exact ok2.elim
      | loc _ => exact ok2.elim
      | tup _ _ => exact ok2.elim
      | lst _ _ => exact ok2.elim
      | scr _ _ => exact ok2.elim
  · exact ok1.elim
theorem ped_mk (M : Mk X.K C a) (F : FnD X.prog X.w X.K X.mg X.base k a fd ps f) (hr : Room (k + 1) X.A) (tk : L2N.Takes X Wx) (hg : Gl X x) (hm : X.mg x = some (.ref C)) (hb : Binds X.K fd ps []) (ha : PAD X Wx (e :: es) t ma)
    (hdb : (x == ("__debug__" : Str)) = false := by decide) (he : starEach (e :: es) X.env = (false, eval e X.env) :: starEach es X.env := by rfl) (hpl : (backTo pos (starEach es X.env)).any (·.1) = false := by rfl) :
    PED X Wx (.Call (.Name x p) (e :: es) [] pos) (tMkS C (spD X.K ps.length f) (WE Wx) t) (eMk C ps.length f ma) := ⟨pe_mkA M F hr hg hm hb (fun σ => L2N.passAt tk σ) ha.pa hdb he hpl, ad_mk ha.ad⟩
theorem ped_mk0 (M : Mk X.K C a) (F : FnD X.prog X.w X.K X.mg X.base k a fd ps f) (hr : Room (k + 1) X.A) (tk : L2N.Takes X Wx) (hg : Gl X x) (hm : X.mg x = some (.ref C)) (hb : Binds X.K fd ps []) (hdb : (x == ("__debug__" : Str)) = false := by decide) :
    PED X Wx (.Call (.Name x p) [] [] pos) (tMkS C (spD X.K ps.length f) (WE Wx) tNil) (eMk C ps.length f aNil) := ⟨pe_mkA0 M F hr hg hm hb (fun σ => L2N.passAt tk σ) hdb, ad_mk (fun σ H Q θ F ρ μ S E ok => ok.here S .nil)⟩
/-- o.f -/
def fldOf (C : Addr) (fl : Str) (μ : Mu) : W → Option W
  | .loc n => match μ[n]? with
    | some (.ins D fs) => if D = C then fs.lookup fl else none
    | _ => none
  | _ => none
def eFld (C : Addr) (fl : Str) (o : EM) : EM := fun ρ μ => (o ρ μ).bind fun x μ1 => match fldOf C fl μ1 x with
  | some w => .ok w μ1
  | none => .no
theorem fldOf_rep {K : PySem.W.Frag} {θ : List Addr} {F H : Hp} {μ : Mu} (S : Sim K θ F H μ) {v : V} {w z : W} (r : Rep K θ F v w) (h : fldOf C fl μ w = some z) : ∃ a dx gs y, v = .ref a ∧ H a = some (.ins C dx gs) ∧ gs.lookup fl = some y ∧ Rep K θ F y z := by
  unfold fldOf at h
  split at h
  · split at h
    · rename_i n D fs e1
      split at h
      · rename_i hD
        subst hD
        cases r with
        | loc e =>
          obtain ⟨b, e2, c⟩ := S.at e1
          rw [e] at e2; cases e2
          obtain ⟨_, dx, gs, q1, q2⟩ := c
          obtain ⟨y, h3, r3⟩ := q2.look h
          exact ⟨_, dx, gs, y, rfl, q1, h3, r3⟩
      · cases h
    · cases h
  · cases h
theorem ped_fld (c : Cls X.K C) (n : NoAttr X.K C fl) (ho : PED X Wx o ta mo) (hb : attributeBase o fl X.env (eval o X.env) = eval o X.env := by rfl) : PED X Wx (.Attribute o fl pos) (tFld X.K ta fl) (eFld C fl mo) := by
  refine ⟨pe_fld ho.pe hb, fun σ H Q θ F ρ μ S E ok => ?_⟩
  refine ho.ad.use S E ok fun θ1 F1 H1 μ1 v w x1 S1 E1 r1 ok1 => ?_
  split at ok1
  · rename_i z hz
    obtain ⟨b, dx, gs, y, rfl, h1, h2, r2⟩ := fldOf_rep S1 r1 hz
    exact ⟨b, C, dx, gs, y, rfl, h1, c, n, h2, ok1.here S1 r2⟩
  · exact ok1.elim
/-- o.f = value -/
def setFld (C : Addr) (fl : Str) (y : W) (μ : Mu) : W → Option Mu
  | .loc n => match μ[n]? with
    | some (.ins D fs) => if D = C ∧ fs.length < 1000 then some (μ.set n (.ins C (putW fl y fs))) else none
    | _ => none
  | _ => none
theorem setFld_rep {K : PySem.W.Frag} {θ : List Addr} {F H : Hp} {μ μ' : Mu} (S : Sim K θ F H μ) {v u : V} {w y : W} (r : Rep K θ F v w) (q : Rep K θ F u y) (h : setFld C fl y μ w = some μ') : ∃ a dx gs, v = .ref a ∧ H a = some (.ins C dx gs) ∧ gs.length < 1000 ∧
    Sim K θ F (upd H a (.ins C dx (putF fl u gs))) μ' ∧ Ext θ F H θ F (upd H a (.ins C dx (putF fl u gs))) := by
  unfold setFld at h
  split at h
  · split at h
    · rename_i n D fs e1
      split at h
      · rename_i hD
        obtain ⟨hD, hl⟩ := hD
        subst hD
        cases h
        cases r with
        | loc e =>
          obtain ⟨b, e2, c⟩ := S.at e1
          rw [e] at e2; cases e2
          obtain ⟨hF, dx, gs, q1, q2⟩ := c
          obtain ⟨S1, x1⟩ := S.write (o := .ins D dx (putF fl u gs)) (c := .ins D (putW fl y fs)) e hF ⟨hF, dx, _, upd_same, q2.put q⟩
          exact ⟨_, dx, gs, rfl, q1, by rw [q2.length]; exact hl, S1, x1⟩
      · cases h
    · cases h
  · cases h
def sFldM (C : Addr) (fl : Str) (mv mo : EM) : SM := fun ρ μ => (mv ρ μ).st ρ fun y μ1 => (mo ρ μ1).st ρ fun x μ2 => match setFld C fl y μ2 x with
  | some μ3 => .nx ρ μ3
  | none => .no
theorem psd_fld (c : Cls X.K C) (n : NoAttr X.K C fl) (ho : PED X Wx o ta mo) (hv : PED X Wx value tv mv) (hs : swapsWith value (some (.Attribute o fl pos')) pos.line X.env = pure false := by rfl) : PSD X Wx (.Assign [.Attribute o fl pos'] value pos) (sFld X.K ta tv fl) (sFldM C fl mv mo) := by
  refine ⟨ps_fld ho.pe hv.pe hs, ?_⟩
  refine Ad.st (u := fun y D σ H1 => ta σ H1 fun x H2 => ∃ a C dx fs, x = .ref a ∧ H2 a = some (.ins C dx fs) ∧ Cls X.K C ∧ NoAttr X.K C fl ∧ fs.length < 1000 ∧ D.nx σ (upd H2 a (.ins C dx (putF fl y fs))))
    (f := fun y ρ μ1 => (mo ρ μ1).st ρ fun x μ2 => match setFld C fl y μ2 x with
      | some μ3 => .nx ρ μ3
      | none => .no) hv.ad fun D σ H θ F ρ μ y yw S E ry ok => ?_
  refine ho.ad σ H _ θ F ρ μ S E ?_
  cases e : mo ρ μ with
  | no => rw [e] at ok; exact ok
  | er c μ1 => rw [e] at ok; exact fun θ1 F1 H1 x1 S1 => ok θ1 F1 H1 σ x1 S1 (E.mono x1.pre x1.sub)
  | ok w μ1 =>
    rw [e] at ok
    intro θ1 F1 H1 v x1 S1 r1
    replace ok : SO.Ok X.K Wx θ F H D (match setFld C fl yw μ1 w with
      | some μ3 => .nx ρ μ3
      | none => .no) := ok
    split at ok
    · rename_i μ3 h3
      obtain ⟨b, dx, gs, rfl, h1, h2, S2, x2⟩ := setFld_rep S1 r1 (ry.mono x1.pre x1.sub) h3
      exact ⟨b, C, dx, gs, rfl, h1, c, n, h2, ok θ1 F1 _ σ (x1.trans x2) S2 (E.mono x1.pre x1.sub)⟩
    · exact ok.elim
/-- o.f += value, ints -/
def sFldAdd (C : Addr) (fl : Str) (mo mv : EM) : SM := fun ρ μ => (mo ρ μ).st ρ fun x μ1 => match fldOf C fl μ1 x with
  | some (.int i) => (mv ρ μ1).st ρ fun y μ2 => match y with
    | .int j => match setFld C fl (.int (i + j)) μ2 x with
      | some μ3 => .nx ρ μ3
      | none => .no
    | _ => .no
  | _ => .no
theorem psd_fldadd (c : Cls X.K C) (n : NoAttr X.K C fl) (ho : PED X Wx o ta mo) (hv : PED X Wx value tv mv) : PSD X Wx (.AugAssign (.Attribute o fl tpos) .Add value pos) (sFldAug X.K ta tv rAdd fl) (sFldAdd C fl mo mv) := by
  refine ⟨ps_fldaug ho.pe hv.pe in_add, ?_⟩
  refine Ad.st (u := fun x D σ H1 => ∃ a C dx fs v, x = .ref a ∧ H1 a = some (.ins C dx fs) ∧ Cls X.K C ∧ NoAttr X.K C fl ∧ fs.lookup fl = some v ∧ tv σ H1 fun y H2 => rAdd v y H2 fun z H3 => ∃ dx' fs', H3 a = some (.ins C dx' fs') ∧ fs'.length < 1000 ∧ D.nx σ (upd H3 a (.ins C dx' (putF fl z fs'))))
    (f := fun x ρ μ1 => match fldOf C fl μ1 x with
      | some (.int i) => (mv ρ μ1).st ρ fun y μ2 => match y with
        | .int j => match setFld C fl (.int (i + j)) μ2 x with
          | some μ3 => .nx ρ μ3
          | none => .no
        | _ => .no
      | _ => .no) ho.ad fun D σ H θ F ρ μ v w S E r ok => ?_
  split at ok
  · rename_i i hi
    obtain ⟨b, dx, gs, y, rfl, h1, h2, r2⟩ := fldOf_rep S r hi
    cases r2
    refine ⟨b, C, dx, gs, _, rfl, h1, c, n, h2, ?_⟩
    refine hv.ad σ H _ θ F ρ μ S E ?_
    cases e : mv ρ μ with
    | no => rw [e] at ok; exact ok
    | er c μ1 => rw [e] at ok; exact fun θ1 F1 H1 x1 S1 => ok θ1 F1 H1 σ x1 S1 (E.mono x1.pre x1.sub)
    | ok yw μ1 =>
      rw [e] at ok
      intro θ1 F1 H1 yv x1 S1 r1
      simp only [Out.st] at ok
      split at ok
      · rename_i j
        cases r1
        split at ok
        · rename_i μ3 h3
          obtain ⟨b', dx', gs', e', h1', h2', S2, x2⟩ := setFld_rep S1 (r.mono x1.pre x1.sub) (.int (i + j)) h3
          cases e'
          exact ⟨i, j, rfl, rfl, dx', gs', h1', h2', ok θ1 F1 _ σ (x1.trans x2) S2 (E.mono x1.pre x1.sub)⟩
        · exact ok.elim
      · exact ok.elim
  · exact ok.elim
end

/-! ### raise -/
def sRaise (C : Addr) : SM := fun ρ μ => .er C ρ μ
theorem psd_raise {X : Cx} {Wx : WX} {C : Addr} {e : Expr} {pos : Pos} (hc : X.calm = true) (tk : L2N.Takes X Wx) (he : L2N.PMk X e (fun _ H Q => Q (.ref C) none H)) : PSD X Wx (.Raise (some e) none pos) (fun _ σ H => Wx (.ref C) none σ H) (sRaise C) :=
  ⟨L2N.ps_raise hc tk he, fun D σ H θ F ρ μ S E ok => ok θ F H σ (.refl _ _ _) S E⟩

/-! ### targets -/
section
variable {X : Cx} {Wx : WX}
def gsNil : List W → Env → Mu → Out Env := fun ws ρ μ => match ws with
  | [] => .ok ρ μ
  | _ => .no
def gsName (i : Nat) (r : List W → Env → Mu → Out Env) : List W → Env → Mu → Out Env := fun ws ρ μ => match ws with
  | w :: ws => r ws (ρ.set i (some w)) μ
  | [] => .no
theorem pgsd_nil : PGsD X Wx [] gNil gsNil := by
  refine ⟨pgs_nil, fun vs ws σ H Q θ F ρ μ S E r ok => ?_⟩
  cases r with
  | nil => exact ⟨rfl, Out.Ok.here ok S E⟩
  | cons _ _ => exact ok.elim
theorem pgsd_name {i : Nat} {x : Str} {pos : Pos} {es : List Expr} {u : TGs} {mu : List W → Env → Mu → Out Env} (hN : X.N.Nodup) (hi : X.N[i]? = some x) (hx : Loc X.env.scope x) (h2 : PGsD X Wx es u mu)
    (hs : (assignEach (.Name x pos :: es) X.env).map (·.2) = assign (.Name x pos) X.env :: (assignEach es X.env).map (·.2) := by rfl) (hf : X.fn x = true ∨ X.env.scope.names.lookup x = some .local := by first | exact .inl rfl | exact .inr rfl | assumption) :
    PGsD X Wx (.Name x pos :: es) (gCons (gName i) u) (gsName i mu) := by
  refine ⟨pgs_cons (pg_name hN hi hx hf) h2.pg hs, fun vs ws σ H Q θ F ρ μ S E r ok => ?_⟩
  cases r with
  | nil => exact ok.elim
  | cons r1 r2 => exact ⟨_, _, rfl, h2.ad _ _ _ H Q θ F _ μ S (E.set i r1) r2 ok⟩
def gTupM (n : Nat) (r : List W → Env → Mu → Out Env) : W → Env → Mu → Out Env := fun w ρ μ => match w with
  | .tup l => if l.length = n then r l ρ μ else .no
  | _ => .no
theorem pgd_tup {es : List Expr} {k : Nat} {pos : Pos} {t : TGs} {n : Nat} {m : List W → Env → Mu → Out Env} (hc : X.calm = true) (h : PGsD X Wx es t m) (hn : (assignEach es X.env).length = n := by rfl) (hst : (assignEach es X.env).findIdx? (·.1) = none := by rfl)
    (her : ∀ ws ρ μ c μ', m ws ρ μ ≠ .er c μ') : PGD X Wx (.Tuple es k pos) (gTup X.K n t) (gTupM n m) := by
  refine ⟨pg_tup hc h.pg hn hst, fun v w σ H Q θ F ρ μ S E r ok => ?_⟩
  unfold gTupM at ok
  split at ok
  · split at ok
    · rename_i l hl
      cases r with
      | @tup a vs _ h1 q =>
        refine ⟨a, vs, rfl, S.sub.sqT h1, by rw [q.length]; exact hl, h.ad vs l σ H Q θ F ρ μ S E q ?_⟩
        cases e : m l ρ μ with
        | ok ρ' μ' => rw [e] at ok; exact ok
        | er c μ' => exact absurd e (her _ _ _ _ _)
        | no => rw [e] at ok; exact ok
    · exact ok.elim
  · exact ok.elim
/-- xs[i] = .. -/
def gSubM (o i : EM) : W → Env → Mu → Out Env := fun w ρ μ => (o ρ μ).bind fun x μ1 => (i ρ μ1).bind fun y μ2 => match x, y with
  | .loc n, .int k => match μ2[n]? with
    | some (.lst l) => match ixN l.length k with
      | some j => .ok ρ (μ2.set n (.lst (l.set j w)))
      | none => .no
    | _ => .no
  | _, _ => .no
theorem pgd_sub {o i : Expr} {pos : Pos} {to ti : TE} {mo mi : EM} (ho : PED X Wx o to mo) (hi : PED X Wx i ti mi)
    (ha : ∀ v, assign (.Subscript o i pos) X.env v = (do
      let ov ← holding [v] (eval o X.env)
      let iv ← holding [v, ov] (eval i X.env)
      standAt pos
      holding [v, ov, iv] (setItem ov iv v)
      release [v, ov, iv] []) := by intro _; rfl) : PGD X Wx (.Subscript o i pos) (L2.gSub to ti rSetL) (gSubM mo mi) := by
  refine ⟨pg_sub ho.pe hi.pe set_list ha, fun v w σ H Q θ F ρ μ S E r ok => ?_⟩
  refine ho.ad.use S E ok fun θ1 F1 H1 μ1 x xw x1 S1 E1 r1 ok1 => ?_
  refine hi.ad.use S1 E1 ok1 fun θ2 F2 H2 μ2 y yw x2 S2 E2 r2 ok2 => ?_
  split at ok2
  · split at ok2
    · rename_i n k _ l hl
      split at ok2
      · rename_i j hj
        cases r2
        obtain ⟨a, us, rfl, h1, h2, h3, q⟩ := loc_rep S2 (r1.mono x2.pre x2.sub) hl
        have x12 := x1.trans x2
        refine ⟨a, us, k, j, rfl, rfl, h3, by rw [q.length]; exact hj, ?_⟩
        obtain ⟨S3, x3⟩ := write_lst S2 h1 h2 (q.set (r.mono x12.pre x12.sub) j)
        exact ok2 _ _ _ _ x3 S3 (E2.mono x3.pre x3.sub)
      · exact ok2.elim
    · exact ok2.elim
  · exact ok2.elim
end

/-! ### a def's promise by its body -/
def startW (n : Nat) (ws : List W) : Env := ws.map some ++ List.replicate (n - ws.length) none
def fin : SO → Out W
  | .nx _ μ => .ok .non μ
  | .rt w μ => .ok w μ
  | .er c _ μ => .er c μ
  | _ => .no
def runB (n : Nat) (m : SM) : FM := fun ws μ => fin (m (startW n ws) μ)
theorem simE_start {K : PySem.W.Frag} {θ : List Addr} {F : Hp} {N : List Str} {vs : List V} {ws : List W} (q : RepAll K θ F vs ws) : SimE K θ F (L2.start N vs) (startW N.length ws) := by
  refine ⟨by unfold L2.start startW; simp [q.length], fun i w e => ?_⟩
  unfold startW at e
  by_cases hi : i < ws.length
  · rw [List.getElem?_append_left (by simpa using hi), List.getElem?_map] at e
    cases e1 : ws[i]? with
    | none => rw [e1] at e; cases e
    | some z =>
      rw [e1] at e; cases e
      obtain ⟨v, h1, r⟩ := q.get e1
      refine ⟨v, ?_, r⟩
      unfold L2.start
      rw [List.getElem?_append_left (by rw [List.length_map, q.length]; exact hi), List.getElem?_map, h1]
      rfl
  · rw [List.getElem?_append_right (by simpa using hi), List.getElem?_replicate] at e
    split at e <;> cases e
section
variable {P : Program} {w : World} {K : PySem.W.Frag} {mg : Str → Option Value} {base : Heap}
theorem fnd_of {x qual : Str} {st : Stmt} {f : Addr} {fd : FuncData} {N ps : List Str} {k : Nat} {m : SM} (F : Fun K x qual st f fd) (S : FnScope N ps (defScope st))
    (hb : ∀ (cdv : Value) (A : Around) (outer : List PySem.Env) (s : Shared) (H : Hp) (E : XK), Room k (A.deeper (envOfC qual (defScope st) s.heap.objs.size f cdv)) →
      ∃ t, PSsD (cxOf (L2N.CX P w) P w K mg base N qual (defScope st) f cdv A outer s H E) (fun cls d _ H => E cls d H) (defBody st) t m) : FnD P w K mg base (k + 1) f fd ps (runB N.length m) := by
  obtain ⟨oc, od, kV, doc, pm, an, cdv, ct, osl, rfl, lk, hcd⟩ := F.ex
  refine fn_of lk hcd S (fun vs H Q E h => h.1) fun A outer s H vs Q E hr hsp => ?_
  obtain ⟨t, ht⟩ := hb cdv A outer s H E hr
  refine ⟨t, ht.ps, ?_⟩
  obtain ⟨_, θ, G, ws, μ, S0, q, ok⟩ := hsp
  refine ht.ad _ _ H θ G (startW N.length ws) μ S0 (simE_start q) ?_
  unfold runB at ok
  cases e : m (startW N.length ws) μ with
  | nx ρ' μ' => rw [e] at ok; exact fun θ' F' H' σ' x S' _ => ok θ' F' H' .non x S' .non
  | rt w μ' => rw [e] at ok; exact ok
  | bk ρ' μ' => rw [e] at ok; exact ok.elim
  | ct ρ' μ' => rw [e] at ok; exact ok.elim
  | er c ρ' μ' => rw [e] at ok; exact fun θ' F' H' σ' x S' _ => ok θ' F' H' x S'
  | no => rw [e] at ok; exact ok.elim
end

/-! ### more statements and calls -/
section
variable {X : Cx} {Wx : WX} {pos : Pos} {e : Expr} {te : TE} {me : EM}
theorem pvd (i : Nat) {x : Str} {pos : Pos} (hN : X.N[i]? = some x := by rfl) (hv : Vis X.env.scope x := by first | exact Or.inl rfl | exact Or.inr (Or.inl rfl) | exact Or.inr (Or.inr rfl)) (hd : (x == ("__debug__" : Str)) = false := by decide)
    (hcd : (x == ("__classdict__" : Str)) = false := by decide) : PED X Wx (.Name x pos) (tVar i) (eVar i) := ped_var (pe_var hN hv hd hcd)
theorem ped_ty {x : Str} {n : String} (hg : Gl X x) (hm : X.mg x = none) (hv : bootBuiltins x = some (.type n)) (hn : x ≠ "__name__" := by decide) (hd : (x == ("__debug__" : Str)) = false := by decide) : PED X Wx (.Name x pos) (tC (.ty n)) (eC (.ty n)) :=
  ped_c (pe_bltn hg hm hv rfl hn hd) fun _ _ => .ty n
theorem ped_gint {x : Str} {i : Int} {t : Tok} (hg : Gl X x) (hm : X.mg x = some (.int i t)) (hd : (x == ("__debug__" : Str)) = false := by decide) : PED X Wx (.Name x pos) (tC (.int i)) (eC (.int i)) :=
  ped_c (pe_glob hg hm ⟨t, rfl⟩ hd) fun _ _ => .int i
theorem ped_gstr {x y : Str} {t : Tok} (hg : Gl X x) (hm : X.mg x = some (.str y t)) (hd : (x == ("__debug__" : Str)) = false := by decide) : PED X Wx (.Name x pos) (tC (.str y)) (eC (.str y)) :=
  ped_c (pe_glob hg hm ⟨t, rfl⟩ hd) fun _ _ => .str y
theorem ped_gtup {x : Str} {a : Addr} {vs : List V} {ws : List W} (hg : Gl X x) (hm : X.mg x = some (.ref a)) (h : ∀ F, SqT X.K F a vs) (q : ∀ θ F, RepAll X.K θ F vs ws) (hd : (x == ("__debug__" : Str)) = false := by decide) : PED X Wx (.Name x pos) (tC (.ref a)) (eC (.tup ws)) :=
  ped_c (pe_glob hg hm rfl hd) fun θ F => .tup (h F) (q θ F)
def sPar (i j : Nat) (m : AM) : SM := fun ρ μ => (m ρ μ).st ρ fun ws μ1 => match ws with
  | [x, y] => .nx ((ρ.set i (some x)).set j (some y)) μ1
  | _ => .no
theorem psd_par {i j : Nat} {x y : Str} {a b : Expr} {ta : TA} {ma : AM} {px py pt : Pos} {kt k2 : Nat} {pt2 : Pos} (hc : X.calm = true) (hN : X.N.Nodup) (hi : X.N[i]? = some x) (hj : X.N[j]? = some y) (hij : i ≠ j)
    (hx : X.env.scope.names.lookup x = some .local) (hy : X.env.scope.names.lookup y = some .local) (ha : PAD X Wx [a, b] ta ma)
    (hw : swappedStores [.Tuple [.Name x px, .Name y py] kt pt] (.Tuple [a, b] k2 pt2) X.env = pure (some [x, y])) (hs : swapsWithSole [.Tuple [.Name x px, .Name y py] kt pt] (.Tuple [a, b] k2 pt2) pos.line X.env = pure false := by rfl) :
    PSD X Wx (.Assign [.Tuple [.Name x px, .Name y py] kt pt] (.Tuple [a, b] k2 pt2) pos) (tPar i j ta) (sPar i j ma) := by
  refine ⟨ps_par hc hN hi hj hij hx hy ha.pa hw hs, ?_⟩
  refine Ad.st (u := fun vs D σ H => ∃ v w, vs = [v, w] ∧ D.nx ((σ.set i (some v)).set j (some w)) H) (f := fun ws ρ μ1 => match ws with
    | [x, y] => .nx ((ρ.set i (some x)).set j (some y)) μ1
    | _ => .no) ha.ad fun D σ H θ F ρ μ vs ws S E r ok => ?_
  split at ok
  · obtain ⟨v, w, rfl, r1, r2⟩ := rep2 r
    exact ⟨v, w, rfl, ok θ F H _ (.refl _ _ _) S ((E.set i r1).set j r2)⟩
  · exact ok.elim
/-- x += e, ints -/
def sAdd (i : Nat) (m : EM) : SM := fun ρ μ => match ρ[i]? with
  | some (some (.int a)) => (m ρ μ).st ρ fun w μ1 => match w with
    | .int b => .nx (ρ.set i (some (.int (a + b)))) μ1
    | _ => .no
  | _ => .no
theorem psd_add {i : Nat} {x : Str} {pos' : Pos} (hN : X.N.Nodup) (hi : X.N[i]? = some x) (hx : Loc X.env.scope x) (h : PED X Wx e te me) (hf : X.fn x = true ∨ X.env.scope.names.lookup x = some .local := by first | exact .inl rfl | exact .inr rfl | assumption) :
    PSD X Wx (.AugAssign (.Name x pos') .Add e pos) (tAug i te (ipI fun i j => i + j)) (sAdd i me) := by
  refine ⟨ps_aug hN hi hx h.pe ip_add hf, fun D σ H θ F ρ μ S E ok => ?_⟩
  unfold sAdd at ok
  split at ok
  · rename_i a ha
    obtain ⟨v, h1, r1⟩ := E.get i _ ha
    cases r1
    refine ⟨_, h1, h.ad σ H _ θ F ρ μ S E ?_⟩
    cases e1 : me ρ μ with
    | no => rw [e1] at ok; exact ok
    | er c μ1 => rw [e1] at ok; exact fun θ1 F1 H1 x1 S1 => ok θ1 F1 H1 σ x1 S1 (E.mono x1.pre x1.sub)
    | ok w μ1 =>
      rw [e1] at ok
      intro θ1 F1 H1 v x1 S1 r
      simp only [Out.st] at ok
      split at ok
      · cases r
        exact ⟨_, _, rfl, rfl, ok θ1 F1 H1 _ x1 S1 ((E.mono x1.pre x1.sub).set i (.int _))⟩
      · exact ok.elim
  · exact ok.elim
/-- -n -/
def eNeg (m : EM) : EM := fun ρ μ => (m ρ μ).bind fun w μ1 => match w with
  | .int i => .ok (.int (-i)) μ1
  | _ => .no
theorem ped_neg (h : PED X Wx e te me) : PED X Wx (.UnaryOp .USub e pos) (tUn (rU fun i => .int (-i)) te) (eNeg me) := by
  refine ⟨pe_un un_neg h.pe, fun σ H Q θ F ρ μ S E ok => ?_⟩
  refine h.ad.use S E ok fun θ1 F1 H1 μ1 v w x1 S1 E1 r ok1 => ?_
  split at ok1
  · cases r
    exact ⟨_, rfl, ok1.here S1 (.int _)⟩
  · exact ok1.elim
theorem takes0N {X : Cx} : L2N.Takes X W0 := fun u s' ⟨_, _, _, _, _, _, _, _, _, _, _, _, _, _, _, _, w⟩ => w.elim
end
end PD
namespace PDM
open PySem PySem.Spec PyProof.Rows L2
abbrev leP (p q : Int × Int) : Bool := !SrtO.lexB q p
def sortP (ps : List (Int × Int)) : List (Int × Int) := ps.mergeSort leP
theorem leP_trans (a b c : Int × Int) : leP a b = true → leP b c = true → leP a c = true := by
  simp only [leP, Bool.not_eq_true', SrtO.lexB_no]
  omega
theorem leP_total (a b : Int × Int) : (leP a b || leP b a) = true := by
  simp only [leP, Bool.or_eq_true, Bool.not_eq_true', SrtO.lexB_no]
  omega
theorem leP_anti {a b : Int × Int} (h : leP a b = true) (h' : leP b a = true) : a = b := by
  simp only [leP, Bool.not_eq_true', SrtO.lexB_no] at h h'
  obtain ⟨a1, a2⟩ := a
  obtain ⟨b1, b2⟩ := b
  simp only at h h'
  have : a1 = b1 := by omega
  have : a2 = b2 := by omega
  simp_all
theorem sortP_uniq {l ps : List (Int × Int)} (h : l.Pairwise fun a b => leP a b = true) (p : l.Perm ps) : l = sortP ps := by
  refine List.Perm.eq_of_pairwise (le := fun a b => leP a b = true) (fun a b _ _ h h' => leP_anti h h') h ?_ (p.trans (List.mergeSort_perm _ _).symm)
  exact List.pairwise_mergeSort (fun a b c => leP_trans a b c) (fun a b => leP_total a b) _
theorem sortP_eq {l ps : List (Int × Int)} (p : l.Perm ps) : sortP l = sortP ps := by
  refine sortP_uniq ?_ ((List.mergeSort_perm _ _).trans p)
  exact List.pairwise_mergeSort (fun a b c => leP_trans a b c) (fun a b => leP_total a b) _
theorem sortP_perm {l ps : List (Int × Int)} (e : sortP l = sortP ps) : l.Perm ps := (List.mergeSort_perm l leP).symm.trans ((show l.mergeSort leP = ps.mergeSort leP from e) ▸ List.mergeSort_perm ps leP)
def PairAt (K : PySem.W.Frag) (H : Hp) (x : V) (p : Int × Int) : Prop := ∃ t, x = .ref t ∧ SqT K H t [.int p.1, .int p.2]
def rSortedQ (K : PySem.W.Frag) : List V → Hp → VK → Prop := fun vs H Q => ∃ (a : Addr) (xs : List V) (ps : List (Int × Int)), vs = [.ref a] ∧ SqL K H a xs ∧ xs.length = ps.length ∧ (∀ (i : Nat) (x : V) (p : Int × Int), xs[i]? = some x → ps[i]? = some p → PairAt K H x p) ∧
  ∀ (ys : List V) (q : Addr), ys.length = ps.length → (∀ (i : Nat) (x : V) (p : Int × Int), ys[i]? = some x → (sortP ps)[i]? = some p → ∃ j : Nat, xs[j]? = some x ∧ ps[j]? = some p) → H q = none → Q (.ref q) (upd H q (.lst ys))
theorem pair_uniq {h : Heap} {v : Value} {a b c d : Int} (p : Srt.IsPair h v a b) (q : Srt.IsPair h v c d) : a = c ∧ b = d := by
  obtain ⟨t, o, t1, t2, n, rfl, ho, hc, hd⟩ := p
  obtain ⟨t', o', t1', t2', n', e, ho', hc', hd'⟩ := q
  cases e
  rw [ho] at ho'; cases ho'
  rw [hd] at hd'
  cases hd'
  exact ⟨rfl, rfl⟩
open Classical in
noncomputable def keyAt (h : Heap) (v : Value) : Int × Int := if e : ∃ p : Int × Int, Srt.IsPair h v p.1 p.2 then e.choose else (0, 0)
theorem keyAt_eq {h : Heap} {v : Value} {p : Int × Int} (e : Srt.IsPair h v p.1 p.2) : keyAt h v = p := by
  have e' : ∃ p : Int × Int, Srt.IsPair h v p.1 p.2 := ⟨p, e⟩
  unfold keyAt
  rw [dif_pos e']
  obtain ⟨h1, h2⟩ := pair_uniq e'.choose_spec e
  exact Prod.ext h1 h2
theorem Vals.at : ∀ {xs : List V} {us : List Value} {i : Nat} {u : Value}, Vals xs us → us[i]? = some u → ∃ x, xs[i]? = some x ∧ RelV x u
  | _, _, _, _, .nil, e => by simp at e
  | _, _, 0, _, .cons r _, e => by simp at e; subst e; exact ⟨_, rfl, r⟩
  | _, _, i + 1, u, .cons _ t, e => by
    obtain ⟨x, h1, h2⟩ := Vals.at (i := i) (u := u) t (by simpa using e)
    exact ⟨x, by simpa using h1, h2⟩
section
variable {X : Cx}
theorem pair_raw {pins : List (Addr × Obj)} {σ : L2.St} {H : Hp} {s : Shared} (I : Inv X pins σ H s) {t : Addr} {p : Int × Int} (h : SqT X.K H t [.int p.1, .int p.2]) : Srt.IsPair s.heap (.ref t) p.1 p.2 := by
  obtain ⟨its, rv, hl, hz⟩ := I.tuple h
  obtain ⟨u1, u2, rfl, ri, rj⟩ := vals2 rv
  obtain ⟨t1, rfl⟩ := ri
  obtain ⟨t2, rfl⟩ := rj
  obtain ⟨o, ho, hc, n, hd⟩ := hl
  exact ⟨t, o, t1, t2, n, rfl, ho, hc, hd⟩
theorem cr_sortedQ : CallR X (.builtin "sorted") (rSortedQ X.K) := by
  intro pins s σ H vs us Q I r h
  obtain ⟨a, xs, ps, rfl, hs, hlen, hx, q⟩ := h
  obtain ⟨its, rv, hl, hz⟩ := I.list hs
  obtain ⟨u, rfl, ru⟩ := vals1 r
  obtain rfl : u = Value.ref a := ru
  have ri : ∀ x ∈ xs, ∃ t, x = V.ref t := fun x m => by
    obtain ⟨i, hi⟩ := List.mem_iff_getElem?.mp m
    have hi2 : i < ps.length := by rw [← hlen]; exact (List.getElem?_eq_some_iff.mp hi).1
    obtain ⟨t, e, _⟩ := hx i x ps[i] hi (List.getElem?_eq_getElem hi2)
    exact ⟨t, e⟩
  obtain ⟨e1, e2⟩ := refs_back rv ri
  have at_ : ∀ (i : Nat) (v : Value), its[i]? = some v → ∃ p, ps[i]? = some p ∧ Srt.IsPair s.heap v p.1 p.2 ∧ PairAt X.K H (backV v) p := fun i v hv => by
    have hxi : xs[i]? = some (backV v) := by rw [e1, List.getElem?_map, hv]; rfl
    have hi2 : i < ps.length := by rw [← hlen]; exact (List.getElem?_eq_some_iff.mp hxi).1
    obtain ⟨t, e, hsq⟩ := hx i _ ps[i] hxi (List.getElem?_eq_getElem hi2)
    obtain ⟨t', rfl⟩ := e2 v (List.mem_of_getElem? hv)
    have et : t' = t := by
      have e' : V.ref t' = V.ref t := e
      cases e'; rfl
    subst et
    exact ⟨ps[i], List.getElem?_eq_getElem hi2, pair_raw I hsq, t', rfl, hsq⟩
  have kps : its.map (keyAt s.heap) = ps := by
    have hl2 : its.length = ps.length := by rw [← hlen, rv.length]
    refine List.ext_getElem? fun i => ?_
    rw [List.getElem?_map]
    cases hi : its[i]? with
    | none =>
      rw [List.getElem?_eq_none (by rw [← hl2]; exact List.getElem?_eq_none_iff.mp hi)]; rfl
    | some v =>
      obtain ⟨p, h1, h2, _⟩ := at_ i v hi
      rw [h1]
      show some (keyAt s.heap v) = _
      rw [keyAt_eq h2]
  refine SrtO.sorted_pairsO (k := keyAt s.heap) hl.isList (by rw [← rv.length]; exact hz) (fun v hv => ?_) fun h' d out h1 h2 kp hd hn => ?_
  · obtain ⟨i, hi⟩ := List.mem_iff_getElem?.mp hv
    obtain ⟨p, _, h2, _⟩ := at_ i v hi
    rw [keyAt_eq h2]; exact h2
  · have h3 : ∀ u ∈ out, ∃ a, u = Value.ref a := fun u hu => e2 u (h2.perm.mem_iff.mp hu)
    obtain ⟨n, hn⟩ := hn
    have hlo : out.length = its.length := h2.perm.length_eq
    have hso : out.map (keyAt s.heap) = sortP ps := by
      refine sortP_uniq ?_ (by rw [← kps]; exact h2.perm.map _)
      rw [List.pairwise_map]
      refine List.Pairwise.imp (fun {x y} h => ?_) h1
      show (!SrtO.lexB (keyAt s.heap y) (keyAt s.heap x)) = true
      have h' : SrtO.lexB (keyAt s.heap y) (keyAt s.heap x) = false := h
      rw [h']; rfl
    refine ⟨.ref d, upd H d (.lst (out.map backV)), I.laid (t' := s.toks) kp hd ⟨?_, out, n, vals_back h3, hn⟩, rfl, q _ d ?_ (fun i x p hx' hp => ?_) (I.hok.fresh hd)⟩
    · rw [List.length_map, hlo, ← rv.length]; exact hz
    · rw [List.length_map, hlo, ← hlen, rv.length]
    · rw [List.getElem?_map] at hx'
      obtain ⟨v, hv, rfl⟩ := Option.map_eq_some_iff.mp hx'
      rw [← hso, List.getElem?_map, hv] at hp
      cases hp
      obtain ⟨j, hj⟩ := List.mem_iff_getElem?.mp (h2.perm.mem_iff.mp (List.mem_of_getElem? hv))
      obtain ⟨p, g1, g2, g3⟩ := at_ j v hj
      refine ⟨j, ?_, by rw [keyAt_eq g2]; exact g1⟩
      rw [e1, List.getElem?_map, hj]; rfl
end
end PDM
namespace PD
open PySem PySem.Spec PyProof.Rows L2
/-! ### pairs of ints: min, sorted; reversed -/
def pairW (p : Int × Int) : W := .tup [.int p.1, .int p.2]
def pairOf : W → Option (Int × Int)
  | .tup [.int a, .int b] => some (a, b)
  | _ => none
def pairsOf : List W → Option (List (Int × Int))
  | [] => some []
  | w :: ws => match pairOf w, pairsOf ws with
    | some p, some ps => some (p :: ps)
    | _, _ => none
theorem pairOf_eq {w : W} {p : Int × Int} (h : pairOf w = some p) : w = pairW p := by
  unfold pairOf at h
  split at h
  · cases h; rfl
  · cases h
theorem pairsOf_eq : ∀ {ws : List W} {ps : List (Int × Int)}, pairsOf ws = some ps → ws = ps.map pairW
  | [], ps, h => by cases h; rfl
  | w :: ws, ps, h => by
    unfold pairsOf at h
    split at h
    · rename_i p qs h1 h2
      cases h
      rw [pairOf_eq h1, pairsOf_eq h2]; rfl
    · cases h
theorem pairsOf_map : ∀ (ps : List (Int × Int)), pairsOf (ps.map pairW) = some ps
  | [] => rfl
  | p :: ps => by
    rw [List.map_cons]
    unfold pairsOf
    rw [pairsOf_map ps]; rfl
def kOf (ps : List (Int × Int)) (i : Nat) : List Int := match ps[i]? with
  | some p => [p.1, p.2]
  | none => []
def minIx (ps : List (Int × Int)) : Nat := argBest (fun i j => HT.lexLt (kOf ps i) (kOf ps j)) (ps.length - 1)
def cMinP : GC := fun ws μ => match ws with
  | [w] => match asL μ w with
    | some l => match pairsOf l with
      | some ps => match ps[minIx ps]? with
        | some p => .ok (pairW p) μ
        | none => .no
      | none => .no
    | none => .no
  | _ => .no
def cSortP : GC := fun ws μ => match ws with
  | [w] => match asL μ w with
    | some l => match pairsOf l with
      | some ps => .ok (.lst ((PDM.sortP ps).map pairW)) μ
      | none => .no
    | none => .no
  | _ => .no
theorem rep_pair {K : PySem.W.Frag} {θ : List Addr} {F : Hp} {v : V} {p : Int × Int} (r : Rep K θ F v (pairW p)) : ∃ t, v = .ref t ∧ SqT K F t [.int p.1, .int p.2] := by
  cases r with
  | tup h q =>
    rename_i a vs
    cases q with
    | cons r1 q => cases r1; cases q with
      | cons r2 q => cases r2; cases q with
        | nil => exact ⟨a, rfl, h⟩
theorem pair_rep {K : PySem.W.Frag} {θ : List Addr} {F : Hp} {t : Addr} {p : Int × Int} (h : SqT K F t [.int p.1, .int p.2]) : Rep K θ F (.ref t) (pairW p) := .tup h (.cons (.int _) (.cons (.int _) .nil))
section
variable {K : PySem.W.Frag}
theorem adc_minP : AdC K (PDM.rMinP K) cMinP := by
  intro vs ws E Q H θ F μ S q ok
  unfold cMinP at ok
  split at ok
  · rename_i w
    obtain ⟨v, rfl, r⟩ := rep1 q
    split at ok
    · rename_i l hl
      split at ok
      · rename_i ps hp
        split at ok
        · rename_i p hm
          obtain ⟨a, xs, rfl, ha, hq⟩ := asL_rep S r hl
          rw [pairsOf_eq hp] at hq
          have hlen : xs.length = ps.length := by rw [hq.length, List.length_map]
          have hpos : 0 < ps.length := Nat.lt_of_le_of_lt (Nat.zero_le _) (List.getElem?_eq_some_iff.mp hm).1
          have at_ : ∀ (i : Nat) (x : V), xs[i]? = some x → ∃ p, ps[i]? = some p ∧ Rep K θ F x (pairW p) := fun i x hx => by
            obtain ⟨w, hw, rx⟩ := hq.getV hx
            rw [List.getElem?_map] at hw
            obtain ⟨p, h1, rfl⟩ := Option.map_eq_some_iff.mp hw
            exact ⟨p, h1, rx⟩
          refine ⟨a, xs, kOf ps, rfl, .of ha, fun i x hx => ?_, by rw [hlen]; exact hpos, fun x hx => ?_⟩
          · obtain ⟨p, h1, rx⟩ := at_ i x hx
            obtain ⟨t, rfl, ht⟩ := rep_pair rx
            refine ⟨t, rfl, ?_⟩
            have e : (kOf ps i).map V.int = [.int p.1, .int p.2] := by unfold kOf; rw [h1]; rfl
            rw [e]
            exact S.sub.sqT ht
          · rw [hlen] at hx
            obtain ⟨p', h1, rx⟩ := at_ _ x hx
            have h2 : ps[minIx ps]? = some p' := h1
            rw [hm] at h2
            cases h2
            exact ok.here S rx
        · exact ok.elim
      · exact ok.elim
    · exact ok.elim
  · exact ok.elim
theorem adc_sortP : AdC K (PDM.rSortedQ K) cSortP := by
  intro vs ws E Q H θ F μ S q ok
  unfold cSortP at ok
  split at ok
  · rename_i w
    obtain ⟨v, rfl, r⟩ := rep1 q
    split at ok
    · rename_i l hl
      split at ok
      · rename_i ps hp
        obtain ⟨a, xs, rfl, ha, hq⟩ := asL_rep S r hl
        rw [pairsOf_eq hp] at hq
        have hlen : xs.length = ps.length := by rw [hq.length, List.length_map]
        have at_ : ∀ (i : Nat) (x : V), xs[i]? = some x → ∃ p, ps[i]? = some p ∧ Rep K θ F x (pairW p) := fun i x hx => by
          obtain ⟨w, hw, rx⟩ := hq.getV hx
          rw [List.getElem?_map] at hw
          obtain ⟨p, h1, rfl⟩ := Option.map_eq_some_iff.mp hw
          exact ⟨p, h1, rx⟩
        refine ⟨a, xs, ps, rfl, .of ha, hlen, fun i x p hx hp' => ?_, fun ys d hy hat hd => ?_⟩
        · obtain ⟨p', h1, rx⟩ := at_ i x hx
          rw [hp'] at h1; cases h1
          obtain ⟨t, rfl, ht⟩ := rep_pair rx
          exact ⟨t, rfl, S.sub.sqT ht⟩
        · have rs : RepAll K θ F ys ((PDM.sortP ps).map pairW) := by
            have hl2 : ys.length = (PDM.sortP ps).length := by rw [hy]; exact (List.length_mergeSort ps).symm
            have gen : ∀ (ys : List V) (zs : List (Int × Int)), ys.length = zs.length → (∀ (i : Nat) (x : V) (p : Int × Int), ys[i]? = some x → zs[i]? = some p → ∃ j : Nat, xs[j]? = some x ∧ ps[j]? = some p) → RepAll K θ F ys (zs.map pairW) := by
              intro ys
              induction ys with
              | nil =>
                intro zs h _
                cases zs with
                | nil => exact .nil
                | cons z zs => simp at h
              | cons y ys ih =>
                intro zs h hh
                cases zs with
                | nil => simp at h
                | cons z zs =>
                  obtain ⟨j, h1, h2⟩ := hh 0 y z rfl rfl
                  obtain ⟨p', h3, rx⟩ := at_ j y h1
                  rw [h2] at h3; cases h3
                  exact .cons rx (ih zs (by simpa using h) fun i x p h1 h2 => hh (i + 1) x p h1 h2)
            exact gen ys _ hl2 hat
          obtain ⟨S2, x2⟩ := S.froze (.lst ys) hd
          exact ok _ _ _ _ x2 S2 (.lst upd_same (rs.mono (List.prefix_refl _) (sub_upd (S.outF hd))))
      · exact ok.elim
    · exact ok.elim
  · exact ok.elim
end
/-- list(reversed(x)), to be changed -/
def eRevM (m : EM) : EM := fun ρ μ => (m ρ μ).bind fun w μ1 => match asL μ1 w with
  | some l => .ok (.loc μ1.length) (μ1 ++ [.lst l.reverse])
  | none => .no
section
variable {X : Cx} {Wx : WX} {e : Expr} {te : TE} {m : EM} {p p2 pos pos2 : Pos}
theorem ped_revM (hc : X.calm = true) (hg : Gl X "list") (hm : X.mg "list" = none) (hg2 : Gl X "reversed") (hm2 : X.mg "reversed" = none) (he : PED X Wx e te m)
    (hs : starEach [e] X.env = (false, eval e X.env) :: starEach [] X.env := by rfl)
    (hs2 : starEach [.Call (.Name "reversed" p2) [e] [] pos2] X.env = (false, eval (.Call (.Name "reversed" p2) [e] [] pos2) X.env) :: starEach [] X.env := by rfl) :
    PED X Wx (.Call (.Name "list" p) [.Call (.Name "reversed" p2) [e] [] pos2] [] pos) (PDM.tRevL X.K te) (eRevM m) := by
  refine ⟨PDM.pe_revL hc hg hm hg2 hm2 he.pe hs hs2, fun σ H Q θ F ρ μ S E ok => ?_⟩
  refine he.ad.use S E ok fun θ1 F1 H1 μ1 v w x1 S1 E1 r ok1 => ?_
  split at ok1
  · rename_i l hl
    obtain ⟨a, vs, rfl, ha, q⟩ := asL_rep S1 r hl
    refine ⟨a, vs, rfl, .of ha, fun d hd => ?_⟩
    obtain ⟨S2, x2, r2⟩ := new_cell S1 q.reverse hd
    exact ok1 _ _ _ _ x2 S2 r2
  · exact ok1.elim

end
end PD
namespace PD
open PySem PySem.Spec PyProof.Rows L2
/-! ### while an exception is handled -/
section
variable {X : Cx} {Wx : WX} {tg elt iter : Expr} {ifs : List Expr} {scope : Scope} {own : List (Str × Nat)} {pos : Pos} {tl : TE} {ml : EM} {g : TG} {mg : W → Env → Mu → Out Env} {tt : TT} {mt : BM} {te : TE} {me : EM}
/-- a list or cell walked, as a list -/
def iLst (m : EM) : IM := fun ρ μ => (m ρ μ).bind fun w μ1 => match w with
  | .lst l => .ok (.seq l) μ1
  | _ => .no
theorem ad_iLst {K : PySem.W.Frag} (h : Ad K Wx (Rep K) tl ml) : Ad K Wx (Impl K) (iList K tl) (iLst ml) := by
  intro σ H Q θ F ρ μ S E ok
  refine h.use S E ok fun θ1 F1 H1 μ1 v w x1 S1 E1 r ok1 => ?_
  split at ok1
  · rename_i l
    cases r with
    | lst ha q => exact ⟨_, rfl, ⟨_, .of (S1.sub _ _ ha)⟩, ok1.here S1 (impl_list (.of ha) q)⟩
  · exact ok1.elim
theorem ped_cmpH (hot : L2H.HotC X) (hN : X.N.Nodup) (hi : PED X Wx iter tl ml) (ok : BlkOk X.N X.env.scope scope own) (hw : GOwn g (own.map (·.2)))
    (hg : ∀ (s : Shared) (H : Hp) (C : Addr) (cl : List (Str × Addr)) (fp : List Addr), PGD (X.blk s H scope (compEnvC scope cl C X.env) fp) W0 tg g mg) (ht : ∀ (s : Shared) (H : Hp) (C : Addr) (cl : List (Str × Addr)) (fp : List Addr), PTsD (X.blk s H scope (compEnvC scope cl C X.env) fp) W0 ifs tt mt)
    (he : ∀ (s : Shared) (H : Hp) (C : Addr) (cl : List (Str × Addr)) (fp : List Addr), PED (X.blk s H scope (compEnvC scope cl C X.env) fp) W0 elt te me) (hs : ∀ x, foldedSetIterable iter X.env x = pure x := by intro _; rfl) :
    PED X Wx (.ListComp elt [⟨tg, iter, ifs, 0⟩] scope pos) (tLc (iList X.K tl) g tt te (own.map (·.2))) (eCmp (iLst ml) (own.map (·.2)) mg mt me) := by
  refine ⟨PDM.pe_lcH hot hN hi.pe ok (fun s H C cl fp => (hg s H C cl fp).pg) (fun s H C cl fp => (ht s H C cl fp).pt) (fun s H C cl fp => (he s H C cl fp).pe) hs, fun σ H Q θ F ρ μ S E okk => ?_⟩
  have hg0 := (hg X.s_0 X.H_0 0 [] []).ad
  have ht0 := (ht X.s_0 X.H_0 0 [] []).ad
  have he0 := (he X.s_0 X.H_0 0 [] []).ad
  refine (ad_iLst hi.ad).use S E okk fun θ1 F1 H1 μ1 J it x1 S1 E1 hJ ok1 => ?_
  cases it with
  | seq l => exact ad_lc (l := l) (ρ := ρ) hw hg0 ht0 he0 hJ S1 E1 (by rw [cmpL_seq]; exact ok1)
  | cell n =>
    dsimp only at ok1
    cases e2 : (Iter.cell n).items μ1 with
    | none => rw [e2] at ok1; exact ok1.elim
    | some l =>
      rw [e2] at ok1
      exact ad_lc (l := l) (ρ := ρ) hw hg0 ht0 he0 hJ S1 E1 ok1
/-- isinstance(e, C), e the handled exception of the class at D -/
def cIsE (k : Addr → Option Bool) (a : Addr) : GC := fun ws μ => match ws with
  | [.ref b, .ref C] => if b = a then match k C with
    | some r => .ok (.bl r) μ
    | none => .no
   else .no
  | _ => .no
theorem adc_isE {K : PySem.W.Frag} {D a : Addr} {k : Addr → Option Bool} (hk : ∀ C b, k C = some b → PySem.W.kitOne K (.ref D) (.ref C) = some b) : AdC K (rIsE K D a) (cIsE k a) := by
  intro vs ws E Q H θ F μ S q ok
  unfold cIsE at ok
  split at ok
  · rename_i b C
    split at ok
    · rename_i hb
      subst hb
      split at ok
      · rename_i r hr
        obtain ⟨v, u, rfl, r1, r2⟩ := rep2 q
        cases r1
        cases r2
        exact ⟨_, .ref C, r, rfl, fun u h => h, hk _ _ hr, ok.here S (.bl r)⟩
      · exact ok.elim
    · exact ok.elim
  · exact ok.elim
theorem ped_gref {x : Str} {a : Addr} (hg : Gl X x) (hm : X.mg x = some (.ref a)) (hd : (x == ("__debug__" : Str)) = false := by decide) : PED X Wx (.Name x pos) (tC (.ref a)) (eC (.ref a)) :=
  ped_c (pe_glob hg hm rfl hd) fun θ F => .ref a
end
/-- what a def called by a handled exception promises: class c gives w -/
def spW (K : PySem.W.Frag) (wd : Addr → Option W) (p : Addr × Obj) : Sp := fun vs H Q E => vs = [.ref p.1] ∧ ∃ (c : Addr) (w : W) (θ : List Addr) (F : Hp) (μ : Mu), p.2.cls = .ref c ∧ p.2.dict = none ∧ (∃ us, p.2.data = .fields us) ∧ wd c = some w ∧ Sim K θ F H μ ∧
  ∀ (θ' : List Addr) (F' H' : Hp) (v : V), Ext θ F H θ' F' H' → Sim K θ' F' H' μ → Rep K θ' F' v w → Q v H'
section
variable {P : Program} {w : World} {K : PySem.W.Frag} {mg : Str → Option Value} {base : Heap}
theorem fnw_of {x qual : Str} {st : Stmt} {f : Addr} {fd : FuncData} {N : List Str} {y : Str} {k : Nat} {wd : Addr → Option W} {m : Addr → Addr → SM} (F : Fun K x qual st f fd) (S : FnScope N [y] (defScope st))
    (hm : ∀ a c r μ, wd c = some r → fin (m a c (startW N.length [.ref a]) μ) = .ok r μ)
    (hb : ∀ (cdv : Value) (A : Around) (outer : List PySem.Env) (s : Shared) (H : Hp) (E : XK) (p : Addr × Obj) (c : Addr), L2H.Hot1 A p → L2H.RoomH k (A.deeper (envOfC qual (defScope st) s.heap.objs.size f cdv)) → p.2.cls = .ref c → p.2.dict = none → (∃ us, p.2.data = .fields us) → (wd c).isSome = true →
      ∃ t, PSsD (L2H.cxH (L2N.CX P w) P w K mg base N qual (defScope st) f cdv A outer s H E p) W0 (defBody st) t (m p.1 c)) : PDM.FnP P w K mg base (L2N.CX P w) (k + 1) f fd [y] (spW K wd) := by
  obtain ⟨oc, od, kV, doc, pm, an, cdv, ct, osl, rfl, lk, hcd⟩ := F.ex
  refine PDM.fnp_of lk hcd S (fun p vs H Q E h => by rw [h.1]; rfl) fun A outer s H vs Q E p hot hr sp => ?_
  obtain ⟨rfl, c, r, θ, F, μ, h1, h2, h3, h4, S0, hQ⟩ := sp
  obtain ⟨t, ht⟩ := hb cdv A outer s H E p c hot hr h1 h2 h3 (by rw [h4]; rfl)
  refine ⟨t, ht.ps, ht.ad _ _ _ θ F _ μ S0 (simE_start (.cons (.ref p.1) .nil)) ?_⟩
  have e := hm p.1 c r μ h4
  generalize m p.1 c (startW N.length [.ref p.1]) μ = o at e ⊢
  cases o with
  | nx ρ μ' =>
    have e' : Out.ok W.non μ' = .ok r μ := e
    cases e'
    exact fun θ' F' H' σ' x' S' _ => hQ _ _ _ _ x' S' .non
  | rt v μ' =>
    have e' : Out.ok v μ' = .ok r μ := e
    cases e'
    exact fun θ' F' H' v x' S' r => hQ _ _ _ _ x' S' r
  | bk ρ μ' => cases e
  | ct ρ μ' => cases e
  | er c ρ μ' => cases e
  | no => cases e
end

/-! ### try: .. except C as n: return f(n) -/
theorem pss_imp {X : Cx} {b : List Stmt} {t t' : TS} (h : PSs X b t) (i : ∀ D σ H, t' D σ H → t D σ H) : PSs X b t' := ⟨fun pins s σ H D I r => h.run pins s σ H D I (i D σ H r)⟩
def sTryW (i : Nat) (hit : Addr → Option Bool) (wd : Addr → Option W) (m : SM) : SM := fun ρ μ => match m ρ μ with
  | .er c ρ1 μ1 => match hit c with
    | some true => match wd c with
      | some w => if i < ρ1.length then .rt w μ1 else .no
      | none => .no
    | some false => .er c ρ1 μ1
    | none => .no
  | o => o
section
variable {X : Cx} {Wx : WX} {x n f : Str} {cv : Value} {i k : Nat} {body : List Stmt} {np q qn q2 pos pos' pos2 : Pos} {a : Addr} {fd : FuncData} {y : Str} {wd : Addr → Option W} {hit : Addr → Option Bool} {m : SM}
/-- the suite's reading -/
def tWord (K : PySem.W.Frag) (wd : Addr → Option W) (i : Nat) (e : Addr) (cls : Value) (d : Option Addr) : TS := fun D σ H => ∃ (c : Addr) (w : W) (θ : List Addr) (F : Hp) (μ : Mu), cls = .ref c ∧ d = none ∧ wd c = some w ∧ σ[i]? = some (some (.ref e)) ∧ Sim K θ F H μ ∧
  ∀ (θ' : List Addr) (F' H' : Hp) (v : V), Ext θ F H θ' F' H' → Sim K θ' F' H' μ → Rep K θ' F' v w → D.rt v H'
theorem psd_tryw (hs : X.stack = X.env :: X.outer) (hf : X.env.frame = some X.env.locals) (hN : X.N.Nodup) (hi : X.N[i]? = some n) (hln : X.env.kindOf n = some .local) (hc : Names X x cv) (tk : L2N.Takes X Wx)
    (hh : ∀ c b, hit c = some b → PySem.W.exmOne X.K (.ref c) cv = some b) (Fw : PDM.FnP X.prog X.w X.K X.mg X.base (L2N.CX X.prog X.w) k a fd [y] (spW X.K wd)) (hr : Room k X.A)
    (hg : Gl X f) (hm : X.mg f = some (.ref a)) (hk : PySem.W.keepIn X.K (.ref a) = true) (hbd : Binds X.K fd [y] [])
    (hb : ∀ W : WX, ∃ t, ∀ (pn : List (Addr × Obj)) (xe : Value → Shared → Prop), L2N.Takes (X.tr pn xe) W → PSsD (X.tr pn xe) W body t m)
    (hdb : (f == ("__debug__" : Str)) = false := by decide)
    (hst : starEach [.Name n qn] X.env = (false, eval (.Name n qn) X.env) :: starEach [] X.env := by rfl) (hpl : (backTo q2 (starEach [] X.env)).any (·.1) = false := by rfl)
    (hvar : ∀ (a : Addr) (pn : List (Addr × Obj)), PE (X.suite a pn) (.Name n qn) (tVar i)) :
    ∃ t, PSD X Wx (.Try body [.ExceptHandler (some (.Name x np)) (some n) [.Return (some (.Call (.Name f q) [.Name n qn] [] q2)) pos2] pos'] [] [] pos) t (sTryW i hit wd m) := by
  have hb' : ∃ tb : WX → TS, ∀ W : WX, ∀ (pn : List (Addr × Obj)) (xe : Value → Shared → Prop), L2N.Takes (X.tr pn xe) W → PSsD (X.tr pn xe) W body (tb W) m := ⟨fun W => (hb W).choose, fun W => (hb W).choose_spec⟩
  obtain ⟨tb, htb⟩ := hb'
  refine ⟨_, L2N.ps_try_as (ts := fun e cls d => tWord X.K wd i e cls d) (tb := tb) (Wout := Wx) hs hf hN hi hln hc tk (fun W pn xe h1 h2 => (htb W pn xe h1).ps) fun e oe cls d pn hz hfl => ?_, ?_⟩
  · have hot : L2H.Hot1 (X.suite e ((e, oe) :: pn)).A (e, oe) := ⟨rfl, by obtain ⟨vs, hv⟩ := hfl; exact ⟨vs, hv, hz.2.2 vs hv⟩⟩
    have hp := PDM.pe_callP (X := X.suite e ((e, oe) :: pn)) (E := WE W0) (p := (e, oe)) (q := q) (pos := q2) (e := .Name n qn) (es := []) Fw (⟨hr.dp, hr.un⟩) hot List.mem_cons_self hg hm hk hbd (L2N.passAt takes0N) (pa_cons (hvar e ((e, oe) :: pn)) pa_nil hst) hdb hst hpl
    refine pss_imp (pss_one (ps_ret hp)) fun D σ H ⟨c, w, θ, F, μ, h1, h2, h3, h4, S, hQ⟩ => ?_
    subst h1 h2
    refine ⟨.ref e, h4, ?_⟩
    exact ⟨rfl, c, w, θ, F, μ, hz.1, hz.2.1, hfl, h3, S, hQ⟩
  · intro D σ H θ F ρ μ S E ok
    show tb (wAs X.K cv i (fun e cls d => tWord X.K wd i e cls d) Wx D) D σ H
    refine (htb _ [] (fun _ _ => True) fun _ _ _ => trivial).ad D σ H θ F ρ μ S E ?_
    unfold sTryW at ok
    cases e : m ρ μ with
    | er c ρ1 μ1 =>
      rw [e] at ok
      dsimp only at ok
      intro θ' F' H' σ' x1 S1 E1
      cases eh : hit c with
      | none => rw [eh] at ok; exact ok.elim
      | some b =>
        rw [eh] at ok
        refine ⟨b, hh _ _ eh, fun hb => ?_, fun hb => ?_⟩
        · subst hb
          intro e' he'
          dsimp only at ok
          cases ew : wd c with
          | none => rw [ew] at ok; exact ok.elim
          | some w =>
            rw [ew] at ok
            dsimp only at ok
            split at ok
            · rename_i hlt
              refine ⟨c, w, θ', F', μ1, rfl, rfl, ew, ?_, S1, fun θ2 F2 H2 v x2 S2 r => ok _ _ _ _ (x1.trans x2) S2 r⟩
              rw [List.getElem?_set_self (by rw [E1.len]; exact hlt)]
            · exact ok.elim
        · subst hb
          exact ok _ _ _ _ x1 S1 E1
    | nx ρ1 μ1 => rw [e] at ok; exact ok
    | rt w μ1 => rw [e] at ok; exact ok
    | bk ρ1 μ1 => rw [e] at ok; exact ok
    | ct ρ1 μ1 => rw [e] at ok; exact ok
    | no => rw [e] at ok; exact ok
end
end PD
namespace PD
open PySem PySem.Spec PyProof.Rows L2
/-! ### a def, a method, a class of the program, with what its calls ask -/
structure DOk (P : Program) (w : World) (K : PySem.W.Frag) (mg : Str → Option Value) (base : Heap) (x : Str) (k : Nat) (a : Addr) (fd : FuncData) (ps : List Str) (f : FM) : Prop where
  F : FnD P w K mg base k a fd ps f
  g : mg x = some (.ref a)
  k : PySem.W.keepIn K (.ref a) = true
  b : Binds K fd ps []
structure MOk (P : Program) (w : World) (K : PySem.W.Frag) (mg : Str → Option Value) (base : Heap) (C : Addr) (x : Str) (k : Nat) (a : Addr) (fd : FuncData) (ps : List Str) (f : FM) : Prop where
  F : FnD P w K mg base k a fd ps f
  m : Meth K C x a
  b : Binds K fd ps []
structure IOk (P : Program) (w : World) (K : PySem.W.Frag) (mg : Str → Option Value) (base : Heap) (C : Addr) (x : Str) (k : Nat) (a : Addr) (fd : FuncData) (ps : List Str) (f : FM) : Prop where
  F : FnD P w K mg base k a fd ps f
  M : Mk K C a
  g : mg x = some (.ref C)
  b : Binds K fd ps []
/-- an own class of exceptions, raised with a text -/
structure EOk (K : PySem.W.Frag) (mg : Str → Option Value) (x : Str) (C : Addr) : Prop where
  xi : PySem.W.excIn K C [.type "ValueError", .type "Exception", .type "BaseException", .type "object"] "ValueError.__new__" = true
  g : mg x = some (.ref C)
  k : PySem.W.keepIn K (.ref C) = true
  b : PySem.W.subIn K (.ref C) (.type "BaseException") = some true
  t : PySem.W.typeIn K (.ref C) = some (.type "type")
  i : PySem.W.isClsIn K C = true
theorem room1 {k : Nat} {A : Around} (r : Room k A) : A.units + 1 < cLine := by have := r.un; omega
theorem roomH64 {k : Nat} {A : Around} (r : L2H.RoomH k A) : A.units + 64 < cLine := by have := r.un; omega
theorem roomH65 {k : Nat} {A : Around} (r : L2H.RoomH k A) : A.units + 65 < cLine := by have := r.un; omega
theorem ner_nil : ∀ ws ρ μ c μ', gsNil ws ρ μ ≠ .er c μ' := fun ws ρ μ c μ' h => by
  unfold gsNil at h
  split at h <;> cases h
theorem ner_name {i : Nat} {r : List W → Env → Mu → Out Env} (hr : ∀ ws ρ μ c μ', r ws ρ μ ≠ .er c μ') : ∀ ws ρ μ c μ', gsName i r ws ρ μ ≠ .er c μ' := fun ws ρ μ c μ' h => by
  unfold gsName at h
  split at h
  · exact hr _ _ _ _ _ h
  · cases h
/-- a def that is never asked -/
theorem fnd_no {P : Program} {w : World} {K : PySem.W.Frag} {mg : Str → Option Value} {base : Heap} {k : Nat} {a : Addr} {fd : FuncData} {ps : List Str} : FnD P w K mg base k a fd ps (fun _ _ => .no) :=
  ⟨fun vs H Q E h => h.1, fun A outer s H args us vs Q E _ _ _ _ sp => by obtain ⟨_, θ, F, ws, μ, _, _, ok⟩ := sp; exact ok.elim⟩
/-- isinstance(e, C) of a handled exception, where it is known -/
def cIsE1 (a C : Addr) (r : Bool) : GC := fun ws μ => match ws with
  | [.ref b, .ref D] => if b = a ∧ D = C then .ok (.bl r) μ else .no
  | _ => .no
theorem adc_isE1 {K : PySem.W.Frag} {c a C : Addr} {r : Bool} (hk : PySem.W.kitOne K (.ref c) (.ref C) = some r) : AdC K (rIsE K c a) (cIsE1 a C r) := by
  intro vs ws E Q H θ F μ S q ok
  unfold cIsE1 at ok
  split at ok
  · split at ok
    · rename_i b D hb
      obtain ⟨rfl, rfl⟩ := hb
      obtain ⟨v, u, rfl, r1, r2⟩ := rep2 q
      cases r1
      cases r2
      exact ⟨_, .ref D, r, rfl, fun u h => h, hk, ok.here S (.bl r)⟩
    · exact ok.elim
  · exact ok.elim
theorem kit_own {K : PySem.W.Frag} {c C : Addr} {r : Bool} (h1 : PySem.W.isClsIn K C = true) (h2 : PySem.W.typeIn K (.ref C) = some (.type "type")) (h3 : PySem.W.subIn K (.ref c) (.ref C) = some r) (h4 : c = C → r = true) : PySem.W.kitOne K (.ref c) (.ref C) = some r := by
  unfold PySem.W.kitOne
  by_cases e : c = C
  · subst e
    rw [if_pos (by exact beq_self_eq_true _), h4 rfl]
  · rw [if_neg (by intro h; exact e (by have := eq_of_beq h; cases this; rfl))]
    show (if ((PySem.W.clsIn K C).isSome && PySem.W.typeIn K (.ref C) == some (.type "type")) = true then PySem.W.subIn K (.ref c) (.ref C) else none) = some r
    have h1' : (PySem.W.clsIn K C).isSome = true := h1
    rw [if_pos (by rw [h1', h2]; rfl)]
    exact h3
theorem exm_own {K : PySem.W.Frag} {c C : Addr} {r : Bool} (h0 : PySem.W.subIn K (.ref C) (.type "BaseException") = some true) (h1 : PySem.W.isClsIn K C = true) (h2 : PySem.W.typeIn K (.ref C) = some (.type "type")) (h3 : PySem.W.subIn K (.ref c) (.ref C) = some r) : PySem.W.exmOne K (.ref c) (.ref C) = some r := by
  have e1 : (PySem.W.subIn K (.ref C) (.type "BaseException") == some true) = true := by rw [h0]; rfl
  have e2 : ((PySem.W.clsIn K C).isSome && PySem.W.typeIn K (.ref C) == some (.type "type")) = true := by
    have h1' : (PySem.W.clsIn K C).isSome = true := h1
    rw [h1', h2]; rfl
  show (if (PySem.W.subIn K (.ref C) (.type "BaseException") == some true) = true then (if ((PySem.W.clsIn K C).isSome && PySem.W.typeIn K (.ref C) == some (.type "type")) = true then PySem.W.subIn K (.ref c) (.ref C) else none) else none) = some r
  rw [if_pos e1, if_pos e2]
  exact h3
/-! ### readings by the function alone -/
def tOf {α β : Type} (K : PySem.W.Frag) (Wx : WX) (R : List Addr → Hp → β → α → Prop) (m : Env → Mu → Out α) : St → Hp → (β → Hp → Prop) → Prop := fun σ H Q => ∃ (θ : List Addr) (F : Hp) (ρ : Env) (μ : Mu), Sim K θ F H μ ∧ SimE K θ F σ ρ ∧ (m ρ μ).Ok K R θ F H (fun c H' => Wx (.ref c) none σ H') Q
def tOfS (K : PySem.W.Frag) (Wx : WX) (m : SM) : TS := fun D σ H => ∃ (θ : List Addr) (F : Hp) (ρ : Env) (μ : Mu), Sim K θ F H μ ∧ SimE K θ F σ ρ ∧ (m ρ μ).Ok K Wx θ F H D
theorem ex_one {X : Cx} {Wx : WX} {s : Stmt} {m : SM} (h : ∃ t, PSD X Wx s t m) : ∃ t, PSsD X Wx [s] t m := ⟨_, psd_one h.choose_spec⟩
theorem ad_of {α β : Type} {K : PySem.W.Frag} {Wx : WX} {R : List Addr → Hp → β → α → Prop} {m : Env → Mu → Out α} : Ad K Wx R (tOf K Wx R m) m := fun σ H Q θ F ρ μ S E ok => ⟨θ, F, ρ, μ, S, E, ok⟩
section
variable {X : Cx} {Wx : WX}
theorem PED.can {e : Expr} {t : TE} {m : EM} (h : PED X Wx e t m) : PED X Wx e (tOf X.K Wx (Rep X.K) m) m :=
  ⟨⟨fun pins s σ H Q I ⟨θ, F, ρ, μ, S, E, ok⟩ => h.pe.run pins s σ H Q I (h.ad σ H Q θ F ρ μ S E ok)⟩, ad_of⟩
theorem PTsD.can {es : List Expr} {t : TT} {m : BM} (h : PTsD X Wx es t m) : PTsD X Wx es (tOf X.K Wx REq m) m :=
  ⟨⟨fun pins s σ H Q I ⟨θ, F, ρ, μ, S, E, ok⟩ => h.pt.run pins s σ H Q I (h.ad σ H Q θ F ρ μ S E ok)⟩, ad_of⟩
theorem PSsD.can {b : List Stmt} {t : TS} {m : SM} (h : PSsD X Wx b t m) : PSsD X Wx b (tOfS X.K Wx m) m :=
  ⟨⟨fun pins s σ H D I ⟨θ, F, ρ, μ, S, E, ok⟩ => h.ps.run pins s σ H D I (h.ad D σ H θ F ρ μ S E ok)⟩, fun D σ H θ F ρ μ S E ok => ⟨θ, F, ρ, μ, S, E, ok⟩⟩
variable {tg elt iter : Expr} {ifs : List Expr} {scope : Scope} {own : List (Str × Nat)} {pos : Pos} {wi : TI} {mi : IM} {tl : TE} {ml : EM} {g : TG} {mg : W → Env → Mu → Out Env} {mt : BM} {me : EM}
theorem ped_cmpC (hc : X.calm = true) (hN : X.N.Nodup) (hi : PID X Wx tg iter wi mi) (ok : BlkOk X.N X.env.scope scope own) (hw : GOwn g (own.map (·.2)))
    (hg : ∀ (s : Shared) (H : Hp) (C : Addr) (cl : List (Str × Addr)) (fp : List Addr), PGD (X.blk s H scope (compEnvC scope cl C X.env) fp) W0 tg g mg) (ht : ∀ (s : Shared) (H : Hp) (C : Addr) (cl : List (Str × Addr)) (fp : List Addr), ∃ t, PTsD (X.blk s H scope (compEnvC scope cl C X.env) fp) W0 ifs t mt)
    (he : ∀ (s : Shared) (H : Hp) (C : Addr) (cl : List (Str × Addr)) (fp : List Addr), ∃ t, PED (X.blk s H scope (compEnvC scope cl C X.env) fp) W0 elt t me) (hs : ∀ x, foldedSetIterable iter X.env x = pure x := by intro _; rfl) :
    PED X Wx (.ListComp elt [⟨tg, iter, ifs, 0⟩] scope pos) (tLc wi g (tOf X.K W0 REq mt) (tOf X.K W0 (Rep X.K) me) (own.map (·.2))) (eCmp mi (own.map (·.2)) mg mt me) :=
  ped_cmp1 hc hN hi ok hw hg (fun s H C cl fp => (ht s H C cl fp).choose_spec.can) (fun s H C cl fp => (he s H C cl fp).choose_spec.can) hs
theorem ped_cmpHC (hot : L2H.HotC X) (hN : X.N.Nodup) (hi : PED X Wx iter tl ml) (ok : BlkOk X.N X.env.scope scope own) (hw : GOwn g (own.map (·.2)))
    (hg : ∀ (s : Shared) (H : Hp) (C : Addr) (cl : List (Str × Addr)) (fp : List Addr), PGD (X.blk s H scope (compEnvC scope cl C X.env) fp) W0 tg g mg) (ht : ∀ (s : Shared) (H : Hp) (C : Addr) (cl : List (Str × Addr)) (fp : List Addr), ∃ t, PTsD (X.blk s H scope (compEnvC scope cl C X.env) fp) W0 ifs t mt)
    (he : ∀ (s : Shared) (H : Hp) (C : Addr) (cl : List (Str × Addr)) (fp : List Addr), ∃ t, PED (X.blk s H scope (compEnvC scope cl C X.env) fp) W0 elt t me) (hs : ∀ x, foldedSetIterable iter X.env x = pure x := by intro _; rfl) :
    PED X Wx (.ListComp elt [⟨tg, iter, ifs, 0⟩] scope pos) (tLc (iList X.K tl) g (tOf X.K W0 REq mt) (tOf X.K W0 (Rep X.K) me) (own.map (·.2))) (eCmp (iLst ml) (own.map (·.2)) mg mt me) :=
  ped_cmpH hot hN hi ok hw hg (fun s H C cl fp => (ht s H C cl fp).choose_spec.can) (fun s H C cl fp => (he s H C cl fp).choose_spec.can) hs
end
section
variable {X : Cx} {Wx : WX} {x n f : Str} {cv : Value} {i k : Nat} {body : List Stmt} {np q qn q2 pos pos' pos2 : Pos} {a : Addr} {fd : FuncData} {y : Str} {wd : Addr → Option W} {hit : Addr → Option Bool} {m : SM}
theorem psd_trywC (hs : X.stack = X.env :: X.outer) (hf : X.env.frame = some X.env.locals) (hN : X.N.Nodup) (hi : X.N[i]? = some n) (hln : X.env.kindOf n = some .local) (hc : Names X x cv) (tk : L2N.Takes X Wx)
    (hh : ∀ c b, hit c = some b → PySem.W.exmOne X.K (.ref c) cv = some b) (Fw : PDM.FnP X.prog X.w X.K X.mg X.base (L2N.CX X.prog X.w) k a fd [y] (spW X.K wd)) (hr : Room k X.A)
    (hg : Gl X f) (hm : X.mg f = some (.ref a)) (hk : PySem.W.keepIn X.K (.ref a) = true) (hbd : Binds X.K fd [y] [])
    (hb : ∀ (W : WX) (pn : List (Addr × Obj)) (xe : Value → Shared → Prop), L2N.Takes (X.tr pn xe) W → ∃ t, PSsD (X.tr pn xe) W body t m)
    (hdb : (f == ("__debug__" : Str)) = false := by decide)
    (hst : starEach [.Name n qn] X.env = (false, eval (.Name n qn) X.env) :: starEach [] X.env := by rfl) (hpl : (backTo q2 (starEach [] X.env)).any (·.1) = false := by rfl)
    (hvar : ∀ (a : Addr) (pn : List (Addr × Obj)), PE (X.suite a pn) (.Name n qn) (tVar i)) :
    ∃ t, PSD X Wx (.Try body [.ExceptHandler (some (.Name x np)) (some n) [.Return (some (.Call (.Name f q) [.Name n qn] [] q2)) pos2] pos'] [] [] pos) t (sTryW i hit wd m) :=
  psd_tryw hs hf hN hi hln hc tk hh Fw hr hg hm hk hbd (fun W => ⟨tOfS X.K W m, fun pn xe tk => (hb W pn xe tk).choose_spec.can⟩) hdb hst hpl hvar
end
end PD
namespace PD
open PySem PySem.Spec PyProof.Rows L2
/-! ### the functions worked out -/
section
variable {μ : Mu}
theorem gEq_int {i j : Int} : gEq (.int i) (.int j) μ = .ok (.bl (i == j)) μ := rfl
theorem gNe_int {i j : Int} : gNe (.int i) (.int j) μ = .ok (.bl (!(i == j))) μ := rfl
theorem gEq_bl {i j : Bool} : gEq (.bl i) (.bl j) μ = .ok (.bl (i == j)) μ := rfl
theorem gNe_bl {i j : Bool} : gNe (.bl i) (.bl j) μ = .ok (.bl (!(i == j))) μ := rfl
theorem gEq_nil : gEq (.lst []) (.lst []) μ = .ok (.bl true) μ := rfl
mutual
theorem eqv_refl : ∀ {d : PyData}, PyData.canLay0 d = true → PyData.eqv d d = true
  | .none, _ => rfl
  | .bool b, _ => by simp [PyData.eqv]
  | .int i, _ => by simp [PyData.eqv]
  | .str x, _ => by simp [PyData.eqv]
  | .list xs, h => by
    simp only [PyData.canLay0] at h
    simp only [PyData.eqv]
    exact eqvAll_refl h
  | .tuple xs, h => by
    simp only [PyData.canLay0] at h
    simp only [PyData.eqv]
    exact eqvAll_refl h
  | .dict _, h => by simp [PyData.canLay0] at h
theorem eqvAll_refl : ∀ {ds : List PyData}, PyData.canLayAll0 ds = true → PyData.eqvAll ds ds = true
  | [], _ => rfl
  | d :: ds, h => by
    simp only [PyData.canLayAll0, Bool.and_eq_true] at h
    simp only [PyData.eqvAll, Bool.and_eq_true]
    exact ⟨eqv_refl h.1, eqvAll_refl h.2⟩
end
/-- w reads as a value that may be compared -/
def Sh (n : Nat) (w : W) (d : PyData) : Prop := toD w = some d ∧ PyData.canLay0 d = true ∧ PyData.depth d ≤ n
def ShL (n : Nat) (ws : List W) (ds : List PyData) : Prop := toDs ws = some ds ∧ PyData.canLayAll0 ds = true ∧ PyData.depthAll ds ≤ n
theorem Sh.sh {n : Nat} {w : W} {d : PyData} (h : Sh n w d) (hn : n ≤ 64) : SeqAt.shaped d = true := by
  unfold SeqAt.shaped
  rw [h.2.1, Bool.true_and, decide_eq_true_eq]
  exact Nat.le_trans h.2.2 hn
theorem Sh.eqv {n : Nat} {w : W} {d : PyData} (h : Sh n w d) : PyData.eqv d d = true := eqv_refl h.2.1
theorem Sh.int {i : Int} : Sh 0 (.int i) (.int i) := ⟨rfl, rfl, Nat.le_refl _⟩
theorem ShL.nil {n : Nat} : ShL n [] [] := ⟨rfl, rfl, Nat.zero_le _⟩
theorem ShL.cons {n : Nat} {w : W} {ws : List W} {d : PyData} {ds : List PyData} (h : Sh n w d) (t : ShL n ws ds) : ShL n (w :: ws) (d :: ds) := by
  refine ⟨?_, ?_, ?_⟩
  · simp only [toDs, h.1, t.1, Option.map_some]
  · simp only [PyData.canLayAll0, h.2.1, t.2.1, Bool.and_self]
  · simp only [PyData.depthAll]
    exact Nat.max_le.mpr ⟨h.2.2, t.2.2⟩
theorem Sh.tup {n : Nat} {ws : List W} {ds : List PyData} (h : ShL n ws ds) : Sh (n + 1) (.tup ws) (.tuple ds) := by
  refine ⟨by simp only [toD, h.1, Option.map_some], by simp only [PyData.canLay0, h.2.1], ?_⟩
  simp only [PyData.depth]
  exact Nat.succ_le_succ h.2.2
theorem Sh.lst {n : Nat} {ws : List W} {ds : List PyData} (h : ShL n ws ds) : Sh (n + 1) (.lst ws) (.list ds) := by
  refine ⟨by simp only [toD, h.1, Option.map_some], by simp only [PyData.canLay0, h.2.1], ?_⟩
  simp only [PyData.depth]
  exact Nat.succ_le_succ h.2.2
theorem Sh.mono {n m : Nat} {w : W} {d : PyData} (h : Sh n w d) (hm : n ≤ m) : Sh m w d := ⟨h.1, h.2.1, Nat.le_trans h.2.2 hm⟩
theorem Sh.str {x : Str} (h : PyData.canLay0 (.str x) = true) : Sh 0 (.str x) (.str x) := ⟨rfl, h, Nat.le_refl _⟩
theorem gEq_str {x y : Str} (hx : PyData.canLay0 (.str x) = true) (hy : PyData.canLay0 (.str y) = true) : gEq (.str x) (.str y) μ = .ok (.bl (x == y)) μ := by
  have e1 : SeqAt.shaped (.str x) = true := (Sh.str hx).sh (by decide)
  have e2 : SeqAt.shaped (.str y) = true := (Sh.str hy).sh (by decide)
  simp only [gEq, topD, toD, e1, e2, and_self, if_true, PyData.eqv]
theorem gNe_str {x y : Str} (hx : PyData.canLay0 (.str x) = true) (hy : PyData.canLay0 (.str y) = true) : gNe (.str x) (.str y) μ = .ok (.bl (!(x == y))) μ := by
  have e1 : SeqAt.shaped (.str x) = true := (Sh.str hx).sh (by decide)
  have e2 : SeqAt.shaped (.str y) = true := (Sh.str hy).sh (by decide)
  simp only [gNe, topD, toD, e1, e2, and_self, if_true, PyData.eqv]
def pairD (p : Int × Int) : PyData := .tuple [.int p.1, .int p.2]
theorem Sh.pair {p : Int × Int} : Sh 1 (pairW p) (pairD p) := .tup (.cons .int (.cons .int .nil))
theorem ShL.pairs : ∀ (ps : List (Int × Int)), ShL 1 (ps.map pairW) (ps.map pairD)
  | [] => .nil
  | p :: ps => .cons .pair (ShL.pairs ps)
theorem Sh.pairs (ps : List (Int × Int)) : Sh 2 (.lst (ps.map pairW)) (.list (ps.map pairD)) := .lst (.pairs ps)
theorem topD_sh {n : Nat} {w : W} {d : PyData} (h : Sh n w d) : topD μ w = some d := by
  cases w <;> first | exact h.1 | (have := h.1; simp [toD] at this)
theorem topD_loc {n k : Nat} {ws : List W} {ds : List PyData} (h : ShL n ws ds) (hm : μ[k]? = some (.lst ws)) : topD μ (.loc k) = some (.list ds) := by
  simp only [topD, hm, h.1, Option.map_some]
theorem gEq_sh {n m : Nat} {x y : W} {d e : PyData} (h : Sh n x d) (h' : Sh m y e) (hn : n ≤ 64 := by decide) (hm : m ≤ 64 := by decide) : gEq x y μ = .ok (.bl (PyData.eqv d e)) μ := by
  unfold gEq
  rw [topD_sh h, topD_sh h']
  exact if_pos ⟨h.sh hn, h'.sh hm⟩
theorem gNe_sh {n m : Nat} {x y : W} {d e : PyData} (h : Sh n x d) (h' : Sh m y e) (hn : n ≤ 64 := by decide) (hm : m ≤ 64 := by decide) : gNe x y μ = .ok (.bl (!PyData.eqv d e)) μ := by
  unfold gNe
  rw [topD_sh h, topD_sh h']
  exact if_pos ⟨h.sh hn, h'.sh hm⟩
theorem gEq_same {n : Nat} {x : W} {d : PyData} (h : Sh n x d) (hn : n ≤ 64 := by decide) : gEq x x μ = .ok (.bl true) μ := by rw [gEq_sh h h hn hn, h.eqv]
theorem gNe_same {n : Nat} {x : W} {d : PyData} (h : Sh n x d) (hn : n ≤ 64 := by decide) : gNe x x μ = .ok (.bl false) μ := by rw [gNe_sh h h hn hn, h.eqv]; rfl
theorem eqv_pair {p q : Int × Int} : PyData.eqv (pairD p) (pairD q) = decide (p = q) := by
  obtain ⟨a, b⟩ := p
  obtain ⟨c, d⟩ := q
  simp only [pairD, PyData.eqv, PyData.eqvAll, Bool.and_true]
  by_cases h1 : a = c <;> by_cases h2 : b = d <;> simp [h1, h2]
theorem seq_nx {a b : SM} {ρ ρ1 : Env} {μ1 : Mu} (h : a ρ μ = .nx ρ1 μ1) : sSeq a b ρ μ = b ρ1 μ1 := by
  unfold sSeq
  rw [h]
  rfl
theorem cmpS_none {g : W → Env → Mu → Out Env} {tt : BM} {me : EM} {ρ : Env} {acc : List W} : ∀ {l : List W}, (∀ x ∈ l, ∃ ρ1, g x ρ μ = .ok ρ1 μ ∧ tt ρ1 μ = .ok false μ) → cmpS g tt me ρ l acc μ = .ok (.lst acc) μ
  | [], _ => rfl
  | x :: l, h => by
    obtain ⟨ρ1, e1, e2⟩ := h x List.mem_cons_self
    unfold cmpS
    rw [e1]
    dsimp only
    rw [e2]
    exact cmpS_none fun y hy => h y (List.mem_cons_of_mem _ hy)
theorem mem_irange {n : Nat} {x : W} (h : x ∈ irange 0 n) : ∃ i : Nat, i < n ∧ x = .int (i : Nat) := by
  simp only [irange, List.mem_map, List.mem_range] at h
  obtain ⟨i, hi, rfl⟩ := h
  exact ⟨i, hi, by simp⟩
theorem cLen_q {w : W} {l : List W} (h : asQ μ w = some l) : cLen [w] μ = .ok (.int l.length) μ := by
  unfold cLen orC cLenQ
  simp only [h, Out.els]
theorem cLen_lst {l : List W} : cLen [.lst l] μ = .ok (.int l.length) μ := cLen_q rfl
theorem cLen_tup {l : List W} : cLen [.tup l] μ = .ok (.int l.length) μ := cLen_q rfl
theorem cLen_loc {n : Nat} {l : List W} (h : μ[n]? = some (.lst l)) : cLen [.loc n] μ = .ok (.int l.length) μ := cLen_q (by simp only [asQ, asL, h])
theorem seq_rt {a b : SM} {ρ : Env} {w : W} {μ1 : Mu} (h : a ρ μ = .rt w μ1) : sSeq a b ρ μ = .rt w μ1 := by
  unfold sSeq
  rw [h]
  rfl
theorem if_yes {c : BM} {a b : SM} {ρ : Env} (μ1 : Mu) (h : c ρ μ = .ok true μ1) : sIf c a b ρ μ = a ρ μ1 := by
  unfold sIf
  rw [h]
  rfl
theorem if_not {c : BM} {a b : SM} {ρ : Env} (μ1 : Mu) (h : c ρ μ = .ok false μ1) : sIf c a b ρ μ = b ρ μ1 := by
  unfold sIf
  rw [h]
  rfl
theorem asg_set {m : EM} {i : Nat} {ρ : Env} {w : W} {μ1 : Mu} (h : m ρ μ = .ok w μ1) : sAsg m (gSet i) ρ μ = .nx (ρ.set i (some w)) μ1 := by
  unfold sAsg
  rw [h]
  rfl
theorem ret_of {m : EM} {ρ : Env} {w : W} {μ1 : Mu} (h : m ρ μ = .ok w μ1) : sRet m ρ μ = .rt w μ1 := by
  unfold sRet
  rw [h]
  rfl
theorem ex_of {m : EM} {ρ : Env} {w : W} {μ1 : Mu} (h : m ρ μ = .ok w μ1) : sEx m ρ μ = .nx ρ μ1 := by
  unfold sEx
  rw [h]
  rfl
theorem cat_at {c : Cell} {r : Mu} : (μ ++ c :: r)[μ.length]? = some c := by simp
theorem cat_set {c d : Cell} {r : Mu} : (μ ++ c :: r).set μ.length d = μ ++ d :: r := by simp
/-! loops -/
theorem forS_inv {g : W → Env → Mu → Out Env} {body : SM} (P : Nat → Env → Mu → Prop) : ∀ (l : List W) (i : Nat) (ρ : Env) (μ : Mu), P i ρ μ →
    (∀ (j : Nat) (w : W) (ρ : Env) (μ : Mu), i ≤ j → l[j - i]? = some w → P j ρ μ → ∃ ρ1 μ1 ρ2 μ2, g w ρ μ = .ok ρ1 μ1 ∧ body ρ1 μ1 = .nx ρ2 μ2 ∧ P (j + 1) ρ2 μ2) → ∃ ρ' μ', forS g body l ρ μ = .nx ρ' μ' ∧ P (i + l.length) ρ' μ'
  | [], i, ρ, μ, h, _ => ⟨ρ, μ, rfl, h⟩
  | w :: l, i, ρ, μ, h, st => by
    obtain ⟨ρ1, μ1, ρ2, μ2, e1, e2, h2⟩ := st i w ρ μ (Nat.le_refl _) (by simp) h
    obtain ⟨ρ', μ', e3, h3⟩ := forS_inv P l (i + 1) ρ2 μ2 h2 fun j w ρ μ hj hw hP => st j w ρ μ (by omega) (by rw [show j - i = (j - (i + 1)) + 1 by omega, List.getElem?_cons_succ]; exact hw) hP
    refine ⟨ρ', μ', ?_, by rw [List.length_cons, show i + (l.length + 1) = i + 1 + l.length by omega]; exact h3⟩
    show ((g w ρ μ).st ρ fun ρ1 μ1 => match body ρ1 μ1 with
      | .nx ρ2 μ2 => forS g body l ρ2 μ2
      | .ct ρ2 μ2 => forS g body l ρ2 μ2
      | .bk ρ2 μ2 => .nx ρ2 μ2
      | o => o) = _
    rw [e1]
    show (match body ρ1 μ1 with
      | .nx ρ2 μ2 => forS g body l ρ2 μ2
      | .ct ρ2 μ2 => forS g body l ρ2 μ2
      | .bk ρ2 μ2 => .nx ρ2 μ2
      | o => o) = _
    rw [e2]
    exact e3
end
end PD
namespace PD
open PySem PySem.Spec PyProof.Rows L2
/-! ### a comprehension's list, frozen or to be changed -/
theorem ad_lcF {K : PySem.W.Frag} {fz : W → Mu → Out W} {g : TG} {tt : TT} {te : TE} {vs : List Nat} {J : It} {it : Iter} {l : List W} {mg : W → Env → Mu → Out Env} {mt : BM} {me : EM} {θ : List Addr} {F H : Hp} {σ : St} {ρ : Env} {μ : Mu} {E0 : Addr → Hp → Prop} {Q : VK}
    (hw : GOwn g vs) (hg : ∀ (v : V) (w : W) (σ : St) (H : Hp) (Q : St → Hp → Prop) (θ : List Addr) (F : Hp) (ρ : Env) (μ : Mu), Sim K θ F H μ → SimE K θ F σ ρ → Rep K θ F v w → (mg w ρ μ).Ok K (SimE K) θ F H (fun c H' => W0 (.ref c) none σ H') Q → g v σ H Q)
    (ht : Ad K W0 REq tt mt) (he : Ad K W0 (Rep K) te me) (hJ : Impl K θ F J it) (S : Sim K θ F H μ) (E : SimE K θ F σ ρ) (ok : ((cmpL it l mg mt me (wipeW ρ vs) l [] μ).bind fz).Ok K (Rep K) θ F H E0 Q)
    (hfz : ∀ (D : Addr) (θ1 : List Addr) (F1 H1 : Hp) (μ1 : Mu) (vacc : List V) (acc : List W), H D = none → Ext θ F H θ1 F1 H1 → Sim K θ1 F1 H1 μ1 → F1 D = none → D ∉ θ1 → H1 D = some (.lst vacc) → RepAll K θ1 F1 vacc acc → (fz (.lst acc) μ1).Ok K (Rep K) θ F H E0 Q → Q (.ref D) H1) :
    ∀ D, H D = none → ∃ Wv : Nat → Nat → Hp → Prop, (∃ m, Wv 0 m (upd H D (.lst []))) ∧ ∀ i m H, Wv i m H →
      (J.stop i H ∧ Q (.ref D) H) ∨ (J.go i H ∧ ∃ Nx : Hp → Prop, (∀ H', Nx H' → ∃ m', m' < m ∧ Wv (i + 1) m' H') ∧ ∀ x H', J.yld i H x H' → g x (wipe σ vs) H' fun σ2 H2 => wipe σ2 vs = wipe σ vs ∧ tt σ2 H2 fun b H3 =>
        if b = true then te σ2 H3 fun y H4 => ∃ acc, H4 D = some (.lst acc) ∧ acc.length < sizeLine ∧ Nx (upd H4 D (.lst (acc ++ [y]))) else Nx H3) := by
  intro D hD
  have hDF := S.outF hD
  have hDθ := S.out hD
  -- a state between two turns
  let St1 : List W → Hp → Prop := fun r H1 => ∃ (θ1 : List Addr) (F1 : Hp) (μ1 : Mu) (vacc : List V) (acc : List W), Ext θ F H θ1 F1 H1 ∧ Sim K θ1 F1 H1 μ1 ∧ F1 D = none ∧ D ∉ θ1 ∧ H1 D = some (.lst vacc) ∧ RepAll K θ1 F1 vacc acc ∧
    ((cmpL it l mg mt me (wipeW ρ vs) r acc μ1).bind fz).Ok K (Rep K) θ F H E0 Q
  refine ⟨fun i m H1 => ∃ r, m = r.length ∧ l.drop i = r ∧ St1 r H1, ⟨l.length, l, rfl, rfl, θ, F, μ, [], [], ⟨List.prefix_refl _, .refl _, fun b u e _ => by rw [upd_ne (ne_of_none e hD)]; exact e, fun _ m => .inl m, fun _ _ e => .inl e⟩,
    S.aside _ hDF hDθ, hDF, hDθ, upd_same, .nil, ok⟩, ?_⟩
  rintro i m H1 ⟨r, rfl, hr, θ1, F1, μ1, vacc, acc, x1, S1, nF, nθ, hH, ra, ok1⟩
  cases r with
  | nil =>
    unfold cmpL at ok1
    split at ok1
    · rename_i hi
      refine .inl ⟨(hJ i θ1 F1 H1 μ1 l x1.pre x1.sub S1 hi).1 (List.drop_eq_nil_iff.mp hr), ?_⟩
      exact hfz D θ1 F1 H1 μ1 vacc acc hD x1 S1 nF nθ hH ra ok1
    · exact ok1.elim
  | cons w r =>
    unfold cmpL at ok1
    split at ok1
    · rename_i hi
      have hwl : l[i]? = some w := by rw [← List.head?_drop, hr]; rfl
      have hr' : l.drop (i + 1) = r := by rw [← List.tail_drop, hr]; rfl
      obtain ⟨go, yl⟩ := (hJ i θ1 F1 H1 μ1 l x1.pre x1.sub S1 hi).2 w hwl
      refine .inr ⟨go, St1 r, fun H2 h2 => ⟨r.length, by simp, r, rfl, hr', h2⟩, fun v H2 y => ?_⟩
      obtain ⟨F2, x2, S2, r2⟩ := yl v H2 y
      have E2 : SimE K θ1 F2 (wipe σ vs) (wipeW ρ vs) := (E.mono (x1.trans x2).pre (x1.trans x2).sub).wipe vs
      -- where D stands as things go on
      have keepD : ∀ {θ' : List Addr} {F' H' : Hp}, Ext θ1 F1 H1 θ' F' H' → H' D = some (.lst vacc) ∧ D ∉ θ' ∧ F' D = none := fun {θ' F' H'} x => by
        refine ⟨x.frame D _ hH nθ, fun m => ?_, ?_⟩
        · rcases x.fresh D m with z | z
          · exact nθ z
          · rw [hH] at z; cases z
        · cases q : F' D with
          | none => rfl
          | some o =>
            rcases x.news D o q with z | z | z
            · rw [nF] at z; cases z
            · rw [hH] at z; cases z
            · exact absurd z nθ
      refine hw v σ H2 _ ?_
      refine hg v w _ H2 _ θ1 F2 _ μ1 S2 E2 r2 ?_
      cases eg : mg w (wipeW ρ vs) μ1 with
      | no => rw [eg] at ok1; exact ok1.elim
      | er c μ2 => rw [eg] at ok1; exact ok1.elim
      | ok ρ3 μ3 =>
        rw [eg] at ok1
        intro θ3 F3 H3 σ3 x3 S3 E3
        refine ht σ3 H3 _ θ3 F3 ρ3 μ3 S3 E3 ?_
        dsimp only at ok1
        cases et : mt ρ3 μ3 with
        | no => rw [et] at ok1; exact ok1.elim
        | er c μ4 => rw [et] at ok1; exact ok1.elim
        | ok b μ4 =>
          rw [et] at ok1
          intro θ4 F4 H4 b' x4 S4 hb
          have hb : b' = b := hb
          subst hb
          cases b' with
          | false =>
            rw [if_neg Bool.false_ne_true]
            have x14 := (x2.trans x3).trans x4
            obtain ⟨d1, d2, d3⟩ := keepD x14
            exact ⟨θ4, F4, μ4, vacc, acc, x1.trans x14, S4, d3, d2, d1, ra.mono x14.pre x14.sub, ok1⟩
          | true =>
            rw [if_pos rfl]
            refine he σ3 H4 _ θ4 F4 ρ3 μ4 S4 (E3.mono x4.pre x4.sub) ?_
            dsimp only at ok1
            cases ee : me ρ3 μ4 with
            | no => rw [ee] at ok1; exact ok1.elim
            | er c μ5 => rw [ee] at ok1; exact ok1.elim
            | ok yw μ5 =>
              rw [ee] at ok1
              intro θ5 F5 H5 yv x5 S5 r5
              have x15 := ((x2.trans x3).trans x4).trans x5
              obtain ⟨d1, d2, d3⟩ := keepD x15
              dsimp only at ok1
              split at ok1
              · rename_i hl
                have ra5 := ra.mono x15.pre x15.sub
                refine ⟨vacc, d1, by rw [ra5.length]; exact hl, θ5, F5, μ5, vacc ++ [yv], acc ++ [yw], ?_, S5.aside _ d3 d2, d3, d2, upd_same, ra5.append (.cons r5 .nil), ok1⟩
                have x6 := x1.trans x15
                refine ⟨x6.pre, x6.sub, fun b u e hb => ?_, x6.fresh, x6.news⟩
                rw [upd_ne (ne_of_none e hD)]
                exact x6.frame b u e hb
              · exact ok1.elim
    · exact ok1.elim
/-- the list is a cell -/
def thaw : W → Mu → Out W := fun w μ => match w with
  | .lst l => .ok (.loc μ.length) (μ ++ [.lst l])
  | _ => .no
theorem thaw_fin {K : PySem.W.Frag} {θ : List Addr} {F H : Hp} {E0 : Addr → Hp → Prop} {Q : VK} (D : Addr) (θ1 : List Addr) (F1 H1 : Hp) (μ1 : Mu) (vacc : List V) (acc : List W) (hD : H D = none) (x1 : Ext θ F H θ1 F1 H1) (S1 : Sim K θ1 F1 H1 μ1) (nF : F1 D = none) (nθ : D ∉ θ1) (hH : H1 D = some (.lst vacc)) (ra : RepAll K θ1 F1 vacc acc)
    (ok : (thaw (.lst acc) μ1).Ok K (Rep K) θ F H E0 Q) : Q (.ref D) H1 := by
  refine ok (θ1 ++ [D]) F1 H1 (.ref D) ⟨x1.pre.trans (pre_app θ1 D), x1.sub, x1.frame, fun b m => ?_, x1.news⟩ ⟨S1.sub, by simp [S1.len], ?_, fun n a c h1 h2 => ?_⟩ (.loc ?_)
  · rcases List.mem_append.mp m with z | z
    · exact x1.fresh b z
    · rw [List.mem_singleton.mp z]; exact .inr hD
  · rw [List.nodup_append]
    refine ⟨S1.nd, by simp, fun a ha b hb => ?_⟩
    rw [List.mem_singleton] at hb
    subst hb
    exact fun e => nθ (e ▸ ha)
  · by_cases hl : n < θ1.length
    · rw [List.getElem?_append_left hl] at h1
      rw [List.getElem?_append_left (by rw [← S1.len]; exact hl)] at h2
      exact (S1.cell n a c h1 h2).mono (pre_app θ1 D) (.refl _) (fun z => z) fun o e => e
    · have hl' := (List.getElem?_eq_some_iff.mp h1).1
      rw [List.length_append, List.length_singleton] at hl'
      have en : n = θ1.length := by omega
      subst en
      rw [List.getElem?_append_right (Nat.le_refl _), Nat.sub_self] at h1
      cases h1
      rw [S1.len, List.getElem?_append_right (Nat.le_refl _), Nat.sub_self] at h2
      cases h2
      exact ⟨nF, vacc, hH, ra.mono (pre_app θ1 D) (.refl _)⟩
  · rw [← S1.len, List.getElem?_append_right (Nat.le_refl _), Nat.sub_self]
    rfl
noncomputable def eCmpM (it : IM) (vs : List Nat) (g : W → Env → Mu → Out Env) (tt : BM) (me : EM) : EM := fun ρ μ => (eCmp it vs g tt me ρ μ).bind thaw
section
variable {X : Cx} {Wx : WX} {tg elt iter : Expr} {ifs : List Expr} {scope : Scope} {own : List (Str × Nat)} {pos : Pos} {wi : TI} {mi : IM} {g : TG} {mg : W → Env → Mu → Out Env} {mt : BM} {me : EM}
theorem bind_bind {α β γ : Type} (o : Out α) (f : α → Mu → Out β) (g : β → Mu → Out γ) : (o.bind f).bind g = o.bind fun a μ => (f a μ).bind g := by cases o <;> rfl
theorem ped_cmpM (hc : X.calm = true) (hN : X.N.Nodup) (hi : PID X Wx tg iter wi mi) (ok : BlkOk X.N X.env.scope scope own) (hw : GOwn g (own.map (·.2)))
    (hg : ∀ (s : Shared) (H : Hp) (C : Addr) (cl : List (Str × Addr)) (fp : List Addr), PGD (X.blk s H scope (compEnvC scope cl C X.env) fp) W0 tg g mg) (ht : ∀ (s : Shared) (H : Hp) (C : Addr) (cl : List (Str × Addr)) (fp : List Addr), ∃ t, PTsD (X.blk s H scope (compEnvC scope cl C X.env) fp) W0 ifs t mt)
    (he : ∀ (s : Shared) (H : Hp) (C : Addr) (cl : List (Str × Addr)) (fp : List Addr), ∃ t, PED (X.blk s H scope (compEnvC scope cl C X.env) fp) W0 elt t me) (hs : ∀ x, foldedSetIterable iter X.env x = pure x := by intro _; rfl) :
    PED X Wx (.ListComp elt [⟨tg, iter, ifs, 0⟩] scope pos) (tLc wi g (tOf X.K W0 REq mt) (tOf X.K W0 (Rep X.K) me) (own.map (·.2))) (eCmpM mi (own.map (·.2)) mg mt me) := by
  have ht' := fun s H C cl fp => (ht s H C cl fp).choose_spec.can
  have he' := fun s H C cl fp => (he s H C cl fp).choose_spec.can
  refine ⟨pe_lc hc hN hi.pi ok (fun s H C cl fp => (hg s H C cl fp).pg) (fun s H C cl fp => (ht' s H C cl fp).pt) (fun s H C cl fp => (he' s H C cl fp).pe) hs, fun σ H Q θ F ρ μ S E okk => ?_⟩
  have hg0 := (hg X.s_0 X.H_0 0 [] []).ad
  have ht0 := (ht' X.s_0 X.H_0 0 [] []).ad
  have he0 := (he' X.s_0 X.H_0 0 [] []).ad
  have okk : ((mi ρ μ).bind fun i μ1 => (match i with
    | .seq l => cmpS mg mt me (wipeW ρ (own.map fun p : Str × Nat => p.2)) l [] μ1
    | .cell n => match (Iter.cell n).items μ1 with
      | some l => cmpL (.cell n) l mg mt me (wipeW ρ (own.map fun p : Str × Nat => p.2)) l [] μ1
      | none => .no).bind thaw).Ok X.K (Rep X.K) θ F H (fun c H' => Wx (.ref c) none σ H') Q := by
    have e : eCmpM mi (own.map fun p : Str × Nat => p.2) mg mt me ρ μ = _ := bind_bind (mi ρ μ) _ thaw
    rw [e] at okk
    exact okk
  refine hi.ad.use S E okk fun θ1 F1 H1 μ1 J it x1 S1 E1 hJ ok1 => ?_
  cases it with
  | seq l => exact ad_lcF (l := l) (ρ := ρ) (fz := thaw) hw hg0 ht0 he0 hJ S1 E1 (by rw [cmpL_seq]; exact ok1) thaw_fin
  | cell n =>
    dsimp only at ok1
    cases e2 : (Iter.cell n).items μ1 with
    | none => rw [e2] at ok1; exact ok1.elim
    | some l =>
      rw [e2] at ok1
      exact ad_lcF (l := l) (ρ := ρ) (fz := thaw) hw hg0 ht0 he0 hJ S1 E1 ok1 thaw_fin
end
end PD
namespace PD
open PySem PySem.Spec PyProof.Rows L2
section
variable {X : Cx} {Wx : WX} {tg elt iter : Expr} {ifs : List Expr} {scope : Scope} {own : List (Str × Nat)} {pos spos : Pos} {wi : TI} {mi : IM} {g : TG} {mg : W → Env → Mu → Out Env} {mt : BM} {me : EM} {i : Nat} {y : Str} {py : Pos}
theorem psd_setLcC (hc : X.calm = true) (hN : X.N.Nodup) (hy : X.N[i]? = some y) (hyl : X.env.scope.names.lookup y = some .local) (hsw : swapsWith (.ListComp elt [⟨tg, iter, ifs, 0⟩] scope pos) (some (.Name y py)) spos.line X.env = pure true) (hi : PID X Wx tg iter wi mi) (ok : BlkOk X.N X.env.scope scope own) (hw : GOwn g (own.map (·.2)))
    (hg : ∀ (s : Shared) (H : Hp) (C : Addr) (cl : List (Str × Addr)) (fp : List Addr), PGD (X.blk s H scope (compEnvC scope cl C X.env) fp) W0 tg g mg) (ht : ∀ (s : Shared) (H : Hp) (C : Addr) (cl : List (Str × Addr)) (fp : List Addr), ∃ t, PTsD (X.blk s H scope (compEnvC scope cl C X.env) fp) W0 ifs t mt)
    (he : ∀ (s : Shared) (H : Hp) (C : Addr) (cl : List (Str × Addr)) (fp : List Addr), ∃ t, PED (X.blk s H scope (compEnvC scope cl C X.env) fp) W0 elt t me) (hs : ∀ x, foldedSetIterable iter X.env x = pure x := by intro _; rfl) :
    PSD X Wx (.Assign [.Name y py] (.ListComp elt [⟨tg, iter, ifs, 0⟩] scope pos) spos) (tAsg (tLc wi g (tOf X.K W0 REq mt) (tOf X.K W0 (Rep X.K) me) (own.map (·.2))) (gName i)) (sAsg (eCmp mi (own.map (·.2)) mg mt me) (gSet i)) := by
  refine ⟨ps_setLc hc hN hy hyl hsw hi.pi ok (fun s H C cl fp => (hg s H C cl fp).pg) (fun s H C cl fp => (ht s H C cl fp).choose_spec.can.pt) (fun s H C cl fp => (he s H C cl fp).choose_spec.can.pe) hs, ?_⟩
  have h := (ped_cmpC hc hN hi ok hw hg ht he hs (pos := pos)).ad
  exact Ad.st (u := fun v D σ H => gName i v σ H D.nx) (f := fun w ρ μ => (gSet i w ρ μ).st ρ fun ρ' μ2 => .nx ρ' μ2) h fun D σ H θ F ρ μ v w S E r okk => okk θ F H _ (.refl _ _ _) S (E.set i r)
end
/-! sum -/
def intsOf : List W → Option (List Int)
  | [] => some []
  | .int i :: ws => (intsOf ws).map (i :: ·)
  | _ :: _ => none
theorem intsOf_eq : ∀ {ws : List W} {ns : List Int}, intsOf ws = some ns → ws = ns.map W.int
  | [], ns, h => by cases h; rfl
  | .int i :: ws, ns, h => by
    simp only [intsOf, Option.map_eq_some_iff] at h
    obtain ⟨ms, h1, rfl⟩ := h
    rw [intsOf_eq h1]; rfl
  | .non :: _, _, h => by cases h
  | .bl _ :: _, _, h => by cases h
  | .str _ :: _, _, h => by cases h
  | .tup _ :: _, _, h => by cases h
  | .lst _ :: _, _, h => by cases h
  | .scr _ :: _, _, h => by cases h
  | .loc _ :: _, _, h => by cases h
  | .ref _ :: _, _, h => by cases h
  | .ty _ :: _, _, h => by cases h
theorem intsOf_map : ∀ ns : List Int, intsOf (ns.map W.int) = some ns
  | [] => rfl
  | n :: ns => by simp only [List.map_cons, intsOf, intsOf_map ns, Option.map_some]
def cSum : GC := fun ws μ => match ws with
  | [w] => match asL μ w with
    | some l => match intsOf l with
      | some ns => .ok (.int ns.sum) μ
      | none => .no
    | none => .no
  | _ => .no
theorem adc_sum {K : PySem.W.Frag} : AdC K (rSum K) cSum := by
  intro vs ws E Q H θ F μ S q ok
  unfold cSum at ok
  split at ok
  · obtain ⟨v, rfl, r⟩ := rep1 q
    split at ok
    · rename_i l hl
      split at ok
      · rename_i ns hn
        obtain ⟨a, xs, rfl, ha, hq⟩ := asL_rep S r hl
        rw [intsOf_eq hn] at hq
        have e := hq.ints
        subst e
        exact ⟨a, ns, rfl, .of ha, ok.here S (.int _)⟩
      · exact ok.elim
    · exact ok.elim
  · exact ok.elim
end PD
namespace PD
open PySem PySem.Spec PyProof.Rows L2
/-! sorted, of a few tuples of d ints in [0, B) -/
theorem code_inj {B : Int} : ∀ {a b : List Int}, a.length = b.length → TS.Bd B a → TS.Bd B b → TS.code B a = TS.code B b → a = b
  | [], [], _, _, _, _ => rfl
  | [], _ :: _, h, _, _, _ => by simp at h
  | _ :: _, [], h, _, _, _ => by simp at h
  | d :: r, e :: q, h, ha, hb, hc => by
    have hl : r.length = q.length := by simpa using h
    have lt := fun z : d < e => TS.code_lt (B := B) hl ha.tail hb.tail z
    have gt := fun z : e < d => TS.code_lt (B := B) hl.symm hb.tail ha.tail z
    have de : d = e := by
      rcases Int.lt_trichotomy d e with z | z | z
      · have := lt z; omega
      · exact z
      · have := gt z; omega
    subst de
    have h1 : d * B ^ r.length + TS.code B r = d * B ^ q.length + TS.code B q := hc
    rw [hl] at h1
    rw [code_inj hl ha.tail hb.tail (by omega)]
def tupW (k : List Int) : W := .tup (k.map .int)
def tupsOf : List W → Option (List (List Int))
  | [] => some []
  | .tup l :: ws => match intsOf l, tupsOf ws with
    | some k, some ks => some (k :: ks)
    | _, _ => none
  | _ :: _ => none
theorem tupsOf_eq : ∀ {ws : List W} {ks : List (List Int)}, tupsOf ws = some ks → ws = ks.map tupW
  | [], ks, h => by cases h; rfl
  | .tup l :: ws, ks, h => by
    simp only [tupsOf] at h
    split at h
    · rename_i k ks' h1 h2
      cases h
      rw [intsOf_eq h1, tupsOf_eq h2]; rfl
    · cases h
  | .non :: _, _, h => by cases h
  | .bl _ :: _, _, h => by cases h
  | .str _ :: _, _, h => by cases h
  | .int _ :: _, _, h => by cases h
  | .lst _ :: _, _, h => by cases h
  | .scr _ :: _, _, h => by cases h
  | .loc _ :: _, _, h => by cases h
  | .ref _ :: _, _, h => by cases h
  | .ty _ :: _, _, h => by cases h
theorem tupsOf_map : ∀ ks : List (List Int), tupsOf (ks.map tupW) = some ks
  | [] => rfl
  | k :: ks => by simp only [List.map_cons, tupW, tupsOf, intsOf_map, show tupsOf (ks.map tupW) = some ks from tupsOf_map ks]
def sortT (B : Int) (ks : List (List Int)) : List (List Int) := ks.mergeSort fun a b => decide (TS.code B a ≤ TS.code B b)
theorem sortT_perm {B : Int} {ks : List (List Int)} : (sortT B ks).Perm ks := List.mergeSort_perm _ _
def inT (d : Nat) (B : Int) (k : List Int) : Bool := decide (k.length = d) && k.all fun m => decide (0 ≤ m) && decide (m < B)
theorem inT_iff {d : Nat} {B : Int} {k : List Int} : inT d B k = true ↔ k.length = d ∧ TS.Bd B k := by
  simp [inT, TS.Bd]
theorem sortT_uniq {d : Nat} {B : Int} {l ks : List (List Int)} (h : l.Pairwise fun a b => TS.code B a ≤ TS.code B b) (p : l.Perm ks) (hk : ∀ k ∈ ks, inT d B k = true) : l = sortT B ks := by
  have p2 : l.Perm (sortT B ks) := p.trans sortT_perm.symm
  refine List.Perm.eq_of_pairwise (le := fun a b => TS.code B a ≤ TS.code B b) (fun a b ha hb h1 h2 => ?_) h ?_ p2
  · obtain ⟨l1, b1⟩ := inT_iff.mp (hk a (p.mem_iff.mp ha))
    obtain ⟨l2, b2⟩ := inT_iff.mp (hk b (sortT_perm.mem_iff.mp hb))
    exact code_inj (l1.trans l2.symm) b1 b2 (Int.le_antisymm h1 h2)
  · have := List.pairwise_mergeSort (le := fun a b : List Int => decide (TS.code B a ≤ TS.code B b)) (fun a b c h1 h2 => by
      simp only [decide_eq_true_eq] at h1 h2 ⊢
      omega) (fun a b => by
      simp only [Bool.or_eq_true, decide_eq_true_eq]
      omega) ks
    exact this.imp fun h => of_decide_eq_true h
theorem RepAll.perm {K : PySem.W.Frag} {θ : List Addr} {F : Hp} {α : Type} {f : α → W} {vs us : List V} (p : us.Perm vs) : ∀ {ks : List α}, RepAll K θ F vs (ks.map f) → ∃ ks' : List α, ks'.Perm ks ∧ RepAll K θ F us (ks'.map f) := by
  induction p with
  | nil => exact fun {ks} h => ⟨ks, .refl _, h⟩
  | cons x p ih =>
    intro ks h
    cases ks with
    | nil => cases h
    | cons k ks =>
      cases h with
      | cons r t =>
        obtain ⟨ks', h1, h2⟩ := ih t
        exact ⟨k :: ks', h1.cons k, .cons r h2⟩
  | swap x y l =>
    intro ks h
    match ks, h with
    | k1 :: k2 :: ks, .cons r1 (.cons r2 t) => exact ⟨k2 :: k1 :: ks, .swap _ _ _, .cons r2 (.cons r1 t)⟩
  | trans p q ih1 ih2 =>
    intro ks h
    obtain ⟨ks1, h1, r1⟩ := ih2 h
    obtain ⟨ks2, h2, r2⟩ := ih1 r1
    exact ⟨ks2, h2.trans h1, r2⟩
def cSortT (d : Nat) (B : Int) : GC := fun ws μ => match ws with
  | [w] => match asL μ w with
    | some l => match tupsOf l with
      | some ks => if ks.length < 64 ∧ ks.all (inT d B) = true then .ok (.lst ((sortT B ks).map tupW)) μ else .no
      | none => .no
    | none => .no
  | _ => .no
theorem rep_tup {K : PySem.W.Frag} {θ : List Addr} {F H : Hp} (e : Sub F H) {v : V} {k : List Int} (r : Rep K θ F v (tupW k)) : TupI K H v k := by
  cases r with
  | tup h q =>
    have e2 := q.ints
    subst e2
    exact ⟨_, rfl, e.sqT h⟩
theorem pw_rep {K : PySem.W.Frag} {θ : List Addr} {F H : Hp} {B : Int} (e : Sub F H) : ∀ {ys : List V} {ks : List (List Int)}, RepAll K θ F ys (ks.map tupW) → ys.Pairwise (fun x y => ∀ n m, TupI K H x n → TupI K H y m → TS.code B n ≤ TS.code B m) → ks.Pairwise fun a b => TS.code B a ≤ TS.code B b
  | _, [], _, _ => .nil
  | y :: ys, k :: ks, .cons r t, h => by
    rw [List.pairwise_cons] at h
    refine List.pairwise_cons.mpr ⟨fun k' hk' => ?_, pw_rep e t h.2⟩
    obtain ⟨i, hi⟩ := List.mem_iff_getElem?.mp hk'
    obtain ⟨v, hv, rv⟩ := t.get (i := i) (w := tupW k') (by rw [List.getElem?_map, hi]; rfl)
    exact h.1 v (List.mem_of_getElem? hv) k k' (rep_tup e r) (rep_tup e rv)
theorem adc_sortT {K : PySem.W.Frag} {d : Nat} {B : Int} : AdC K (rSortU K d B) (cSortT d B) := by
  intro vs ws E Q H θ F μ S q ok
  unfold cSortT at ok
  split at ok
  · obtain ⟨v, rfl, r⟩ := rep1 q
    split at ok
    · rename_i l hl
      split at ok
      · rename_i ks hk
        split at ok
        · rename_i hb
          obtain ⟨h64, hall⟩ := hb
          obtain ⟨a, xs, rfl, ha, hq⟩ := asL_rep S r hl
          rw [tupsOf_eq hk] at hq
          have hall' : ∀ k ∈ ks, inT d B k = true := List.all_eq_true.mp hall
          refine ⟨a, xs, rfl, .of ha, by rw [hq.length, List.length_map]; exact h64, fun x hx => ?_, fun ys p hp hw hn => ?_⟩
          · obtain ⟨i, hi⟩ := List.mem_iff_getElem?.mp hx
            obtain ⟨w, hw, rx⟩ := hq.getV hi
            rw [List.getElem?_map] at hw
            obtain ⟨k, hk2, rfl⟩ := Option.map_eq_some_iff.mp hw
            obtain ⟨h1, h2⟩ := inT_iff.mp (hall' k (List.mem_of_getElem? hk2))
            exact ⟨k, rep_tup S.sub rx, h1, h2⟩
          · obtain ⟨ks', p1, r1⟩ := RepAll.perm hp hq
            have hw' : ks'.Pairwise fun a b => TS.code B a ≤ TS.code B b := pw_rep S.sub r1 hw
            have e := sortT_uniq hw' p1 hall'
            rw [e] at r1
            obtain ⟨S2, x2⟩ := S.froze (.lst ys) hn
            exact ok _ _ _ _ x2 S2 (.lst upd_same (r1.mono (List.prefix_refl _) (sub_upd (S.outF hn))))
        · exact ok.elim
      · exact ok.elim
    · exact ok.elim
  · exact ok.elim
end PD
namespace PDM
open PySem PySem.Spec PyProof.Rows L2
/-! ### enumerate over a tuple -/
set_option maxHeartbeats 1000000 in
theorem meets_enum1 {v : Value} {ob : Obj} {G : Heap → Prop} (B : Begins v ob G) :
    Meets (Builtin.«enumerate.__new__» ⟨[.type "enumerate", v], []⟩) (fun _ R s => G s.heap ∧
      R (.ok (.ret (.ref (s.heap.push ob).objs.size))) { s with heap := (s.heap.push ob).push { cls := .type "enumerate", data := .fields #[.none, .bool false, .ref s.heap.objs.size, rawInt 0, .none, .none] } }) :=
  .of_wp fun prog w A R s h => by
    obtain ⟨hp, gg, dr, tk, sys⟩ := s
    obtain ⟨g1, fin⟩ := h
    have sb := sub_enumerate
    have it1 : ∀ {A' : Around} {E : Value → Shared → Prop} {Q : Value → Shared → Prop}, Q (.ref hp.objs.size) ⟨hp.push ob, gg, dr, tk, sys⟩ → wpAny (model prog w) A' (pyIter v) Q E ⟨hp, gg, dr, tk, sys⟩ := fun q => B.iter prog w _ _ ⟨hp, gg, dr, tk, sys⟩ _ g1 q
    wp_walk using it1
    refine wpAny_stack_any fun st => wpAny_pure ?_
    split
    · rename_i c _ _ _ _ _
      cases (c == Value.type "enumerate") <;> (wp_walk using it1; exact ⟨_, rfl, fin⟩)
    · wp_walk using it1
      exact ⟨_, rfl, fin⟩
section
variable {prog : Program} {w : World} {A : Around} {E : Value → Shared → Prop} {s : Shared}
theorem call_enum_tup {t : Addr} {items : Array Value} {Q : Value → Shared → Prop} (ht : s.heap.IsTuple t items)
    (q : ∀ h', IsEnum h' (s.heap.objs.size + 1) s.heap.objs.size 0 .none → h'.IsTupleIter s.heap.objs.size t 0 → h'.objs.size = s.heap.objs.size + 2 → (∀ b o, s.heap.get? b = some o → h'.get? b = some o) → Q (.ref (s.heap.objs.size + 1)) { s with heap := h' }) :
    wpAny (model prog w) A (call (.type "enumerate") [.ref t]) Q E s := by
  generalize hob : ({ cls := .type "tuple_iterator", data := .fields #[.ref t, .int 0 0] } : Obj) = ob
  have B := begins_tuple t items
  rw [hob] at B
  refine callType_new F.called_enumerate (by decide) (F.typeCall_enumerate_1 _) (F.newCall_enumerate_1 _) (fun obj => F.args_object_init_2 obj _) F.entry_enumerate_new (meets_enum1 B) ⟨ht, ?_⟩
  have hz : (s.heap.push ob).objs.size = s.heap.objs.size + 1 := Heap.size_push ..
  show _ ∧ _
  rw [hz]
  have he : IsEnum ((s.heap.push ob).push { cls := .type "enumerate", data := .fields #[.none, .bool false, .ref s.heap.objs.size, rawInt 0, .none, .none] }) (s.heap.objs.size + 1) s.heap.objs.size 0 .none := by
    have e := Heap.get?_push_size (s.heap.push ob) (o := { cls := .type "enumerate", data := .fields #[.none, .bool false, .ref s.heap.objs.size, rawInt 0, .none, .none] }) rfl
    rw [hz] at e
    exact e
  refine ⟨⟨_, he, rfl⟩, q _ he ⟨_, Heap.get?_push_of_some _ (Heap.get?_push_size _ B.free), by rw [← hob], by rw [← hob]; rfl⟩ (by rw [Heap.size_push, hz]) fun b o x => Heap.get?_push_of_some _ (Heap.get?_push_of_some _ x)⟩
theorem next_enum_tup_end {en it t : Addr} {i : Nat} {c : Int} {items : Array Value} {old : Value} {Q : Option Value → Shared → Prop} (hh : A.handled = none) (he : IsEnum s.heap en it c old) (hit : s.heap.IsTupleIter it t i) (ht : s.heap.IsTuple t items) (hx : items[i]? = none)
    (q : ∀ h', Heap.ExtBut it s.heap h' → Q none { s with heap := h' }) : wpAny (model prog w) A (pyNext (.ref en)) Q E s := by
  have ty : s.TypeIs (.ref en) "enumerate" := ⟨_, he, rfl⟩
  unfold pyNext
  refine wpAny_bind (wpAny_attempt (wpAny_callSpecial?_slot (name := Str.ofString "__next__") ty F.slot_enumerate_next (wpAny_call_entry F.slot_enumerate_next ty F.entry_enumerate_next ?_ (F.args_enumerate_next_1 _))))
  show wpAny _ _ (field (.ref en) 2 >>= _) _ _ _
  refine wpAny_bind (wpAny_field he rfl (x := .ref it) rfl (wpAny_bind (wpAny_nextOf_tuple_end hh hit ht hx fun h' x eb hst => ?_)))
  obtain ⟨o, ho, hc⟩ := hst
  exact wpAny_bind (wpAny_isInstance (T := "StopIteration") (b := true) ⟨o, ho, hc⟩ isSubtype_stop (wpAny_pure (q _ eb)))
end
/-- the items of the tuple at a, each in a new pair -/
def Iut (K : PySem.W.Frag) (a : Addr) : It :=
  ⟨fun i H => ∃ (xs : List V) (x : V), SqT K H a xs ∧ xs[i]? = some x, fun i H v H' => ∃ T x, v = .ref T ∧ H T = none ∧ H' = upd H T (.tup [.int (i : Nat), x]) ∧ ∀ xs, SqT K H a xs → xs[i]? = some x, fun i H => ∃ xs : List V, SqT K H a xs ∧ xs.length ≤ i⟩
theorem turn_enumT {P : Program} {w : World} {K : PySem.W.Frag} {elts : List Expr} {kk : Nat} {tpos : Pos} (a en it : Addr) :
    Turn P w K (.Tuple elts kk tpos) (Iut K a) [en, it] en (fun i h => (∃ old, IsEnum h en it ((i : Nat) : Int) old) ∧ h.IsTupleIter it a i ∧ en ≠ it) where
  mem := List.mem_cons_self
  obj := fun i h st b hb => by
    obtain ⟨⟨old, he⟩, ⟨o, ho, hc, hd⟩, _⟩ := st
    rcases List.mem_cons.mp hb with z | z
    · subst z; exact ⟨_, he, fun v q => nomatch q⟩
    · rw [List.mem_singleton.mp z]; exact ⟨o, ho, fun v q => by rw [hd] at q; cases q⟩
  keep := fun i h h' st k => by
    obtain ⟨⟨old, he⟩, hi, hne⟩ := st
    exact ⟨⟨old, k en List.mem_cons_self _ he⟩, hi.at fun o q => k it (by simp) o q, hne⟩
  item := by
    intro X hP hw hK hc i pins s σ H E I hf st hg
    subst hP hw hK
    obtain ⟨⟨old, he⟩, hit, hne⟩ := st
    obtain ⟨xs, x, hq, hx⟩ := hg
    obtain ⟨its, rv, p, hz⟩ := I.tuple hq
    obtain ⟨u, hu, ru⟩ := rv.get hx
    have hT : s.heap.IsTuple a its.toArray := p
    have nta : a ≠ it := fun z => by
      obtain ⟨o1, g1, c1, _⟩ := hT
      obtain ⟨o2, g2, c2, _⟩ := hit
      rw [z, g2] at g1
      cases g1
      rw [c1] at c2
      exact absurd (Value.type.inj c2) (by decide)
    have nea : en ∉ [it, a] := fun m => by
      rcases List.mem_cons.mp m with z | z
      · exact hne z
      · obtain ⟨o1, g1, c1, _⟩ := hT
        rw [List.mem_singleton] at z
        rw [← z, he] at g1
        cases g1
        exact absurd (Value.type.inj c1) (by decide)
    have hel : en < s.heap.objs.size := Heap.lt_size he
    have hil : it < s.heap.objs.size := by obtain ⟨_, q, _⟩ := hit; exact Heap.lt_size q
    have hi : i < its.toArray.size := by
      have := (List.getElem?_eq_some_iff.mp hu).1
      simpa using this
    refine wpAny_pyNext_enum_itemD (Draws.tuple (A := X.A.in1) (I.ok.hd hc) it a nta its.toArray) he ⟨hit, hT⟩ hi hne nea fun u' h' tk hu' ho hit' hTn hsz hk => ?_
    have eu : u' = u := by
      have : its.toArray[i]? = some u' := hu'
      rw [List.getElem?_toArray, hu] at this
      exact (Option.some.inj this).symm
    subst eu
    refine ⟨_, rfl, wpAny_letOwnedTupleGo_enum (s := { s with heap := h', toks := tk + 1 }) ho fun h'' he' sb => ?_⟩
    have hT2 : h''.get? s.heap.objs.size = some { cls := .type "tuple", data := .seq #[.int i tk, u'] } := (sb.2 _ (Nat.ne_of_gt hel)).trans hTn
    have new : ObjOk X.prog X.w (upd H s.heap.objs.size (.tup [.int (i : Nat), x])) h'' s.heap.objs.size (.tup [.int (i : Nat), x]) := ⟨by show 2 ≤ sizeLine; decide, [.int i tk, u'], .cons ⟨_, rfl⟩ (.cons ru .nil), ⟨_, hT2, rfl, _, rfl⟩⟩
    have I1 : Inv X pins σ (upd H s.heap.objs.size (.tup [.int (i : Nat), x])) { s with heap := h'', toks := tk + 1 } :=
      I.turnedNew (ch := [en, it]) (fun b ob hb q => (sb.2 b (fun z => hb (by simp [z]))).trans (hk b ob (fun z => hb (by simp [z])) (fun z => hb (by simp [z])) q)) hf (Nat.le_refl _) new
    refine ⟨.ref s.heap.objs.size, _, I1, rfl, ⟨_, x, rfl, I.hok.fresh (Nat.le_refl _), rfl, fun ys hy => by rw [I.tuple_inj hy hq]; exact hx⟩, ⟨⟨u', ?_⟩, hit'.1.at fun o q => (sb.2 it (Ne.symm hne)).trans q, hne⟩, fun b hb => ?_⟩
    · rw [show ((i + 1 : Nat) : Int) = (i : Int) + 1 by omega]
      exact he'
    · have hb' : b < s.heap.objs.size := by
        rcases List.mem_cons.mp hb with z | z
        · rw [z]; exact hel
        · rw [List.mem_singleton.mp z]; exact hil
      rw [upd_ne (Nat.ne_of_lt hb')]
      exact (hf b hb).1
  done := by
    intro X hP hw hK hc i pins s σ H E I hf st hg
    subst hP hw hK
    obtain ⟨⟨old, he⟩, hit, hne⟩ := st
    obtain ⟨xs, hq, hx⟩ := hg
    obtain ⟨its, rv, p, hz⟩ := I.tuple hq
    obtain ⟨f0, f1, f2, f3, f4, f5⟩ := hf it (by simp)
    have hn : its.toArray[i]? = none := by
      rw [List.getElem?_toArray, List.getElem?_eq_none]
      rw [← rv.length]; exact hx
    exact next_enum_tup_end (I.ok.hd hc) he hit p hn fun h' eb => ⟨rfl, I.turned (t' := s.toks) (fun b o hb q => eb b o hb q) f0 f1 f3 f4 f5⟩
  self := fun A i s Q E st h => by
    obtain ⟨⟨old, he⟩, _⟩ := st
    exact wpAny_pyIter_enum he h
def iEnumT (K : PySem.W.Frag) (ta : TA) : TI := fun σ H R => ta σ H fun vs H1 => ∃ a xs, vs = [.ref a] ∧ SqT K H1 a xs ∧ R (Iut K a) H1
theorem pi_enumT {X : Cx} {e : Expr} {ta : TA} {p pos tpos : Pos} {elts : List Expr} {kk : Nat} (hg : Gl X "enumerate") (hm : X.mg "enumerate" = none) (ha : PA X [e] ta) (hs : starEach [e] X.env = [(false, eval e X.env)] := by rfl) :
    PI X (.Tuple elts kk tpos) (.Call (.Name "enumerate" p) [e] [] pos) (iEnumT X.K ta) := by
  refine ⟨fun pins s σ H R I h => Call_ (ld_blt I hg hm boot_enumerate (PyProof.Rows.callWith_type1 (thn (ha.run pos pins s σ H _ I h) fun us s1 ⟨vs, H1, I1, r1, a, xs, ev, hq, q⟩ => ?_) hs rfl))⟩
  subst ev
  rw [Vals.ref1 r1]
  obtain ⟨its, rv, p', hz⟩ := I1.tuple hq
  refine call_enum_tup (show s1.heap.IsTuple a its.toArray from p') fun h' he hit hsz hk => wpAny_pyIter_enum he ?_
  refine ⟨s1.heap.objs.size + 1, [s1.heap.objs.size + 1, s1.heap.objs.size], _, _, H1, rfl, I1.kept (t' := s1.toks) hk, turn_enumT a (s1.heap.objs.size + 1) s1.heap.objs.size, ⟨⟨.none, he⟩, hit, Nat.succ_ne_self _⟩, fun b hb => ?_, q⟩
  have hle : s1.heap.objs.size ≤ b := by
    rcases List.mem_cons.mp hb with z | z
    · rw [z]; exact Nat.le_add_right _ _
    · rw [List.mem_singleton.mp z]; exact Nat.le_refl _
  exact I1.fpOk hle (I1.hok.fresh hle)
end PDM
namespace PD
open PySem PySem.Spec PyProof.Rows L2
def enumW (l : List W) : List W := l.zipIdx.map fun p => .tup [.int (p.2 : Nat), p.1]
theorem enumW_get {l : List W} {i : Nat} {w : W} (h : (enumW l)[i]? = some w) : ∃ x, l[i]? = some x ∧ w = .tup [.int (i : Nat), x] := by
  unfold enumW at h
  rw [List.getElem?_map, List.getElem?_zipIdx] at h
  cases e : l[i]? with
  | none => rw [e] at h; simp at h
  | some x => rw [e] at h; simp at h; exact ⟨x, rfl, h.symm⟩
theorem enumW_length {l : List W} : (enumW l).length = l.length := by simp [enumW]
theorem froze_pair {K : PySem.W.Frag} {θ : List Addr} {F H : Hp} {μ : Mu} (S : Sim K θ F H μ) {T : Addr} {i : Nat} {x : V} {w : W} (r : Rep K θ F x w) (hT : H T = none) :
    ∃ F2, Ext θ F H θ F2 (upd H T (.tup [.int (i : Nat), x])) ∧ Sim K θ F2 (upd H T (.tup [.int (i : Nat), x])) μ ∧ Rep K θ F2 (.ref T) (.tup [.int (i : Nat), w]) := by
  obtain ⟨S2, x2⟩ := S.froze (.tup [.int (i : Nat), x]) hT
  exact ⟨_, x2, S2, .tup (.inl (.inl upd_same)) (.cons (.int _) (.cons (r.mono (List.prefix_refl _) (sub_upd (S.outF hT))) .nil))⟩
theorem impl_enumL {K : PySem.W.Frag} {θ : List Addr} {F : Hp} {a : Addr} {vs : List V} {l : List W} (h : SqL K F a vs) (q : RepAll K θ F vs l) : Impl K θ F (Ite K a) (.seq (enumW l)) := by
  intro i θ1 F1 H1 μ1 l1 p e S hl
  cases hl
  have hs : SqL K H1 a vs := S.sub.sqL (e.sqL h)
  refine ⟨fun hi => ⟨vs, hs, by rw [q.length]; rw [enumW_length] at hi; exact hi⟩, fun w hw => ?_⟩
  obtain ⟨x, hx, rfl⟩ := enumW_get hw
  obtain ⟨v, hv, r⟩ := q.get hx
  refine ⟨⟨vs, v, hs, hv⟩, fun y H2 hy => ?_⟩
  obtain ⟨T, x', rfl, hT, rfl, hx'⟩ := hy
  have ex : x' = v := by
    have := hx' vs hs
    rw [hv] at this
    exact (Option.some.inj this).symm
  subst ex
  exact froze_pair S (r.mono p e) hT
theorem impl_enumT {K : PySem.W.Frag} {θ : List Addr} {F : Hp} {a : Addr} {vs : List V} {l : List W} (h : SqT K F a vs) (q : RepAll K θ F vs l) : Impl K θ F (PDM.Iut K a) (.seq (enumW l)) := by
  intro i θ1 F1 H1 μ1 l1 p e S hl
  cases hl
  have hs : SqT K H1 a vs := S.sub.sqT (e.sqT h)
  refine ⟨fun hi => ⟨vs, hs, by rw [q.length]; rw [enumW_length] at hi; exact hi⟩, fun w hw => ?_⟩
  obtain ⟨x, hx, rfl⟩ := enumW_get hw
  obtain ⟨v, hv, r⟩ := q.get hx
  refine ⟨⟨vs, v, hs, hv⟩, fun y H2 hy => ?_⟩
  obtain ⟨T, x', rfl, hT, rfl, hx'⟩ := hy
  have ex : x' = v := by
    have := hx' vs hs
    rw [hv] at this
    exact (Option.some.inj this).symm
  subst ex
  exact froze_pair S (r.mono p e) hT
/-- enumerate(x): a tuple, or a list that stays -/
def iEnumM (m : AM) : IM := fun ρ μ => (m ρ μ).bind fun ws μ1 => match ws with
  | [.tup l] => .ok (.seq (enumW l)) μ1
  | [.lst l] => .ok (.seq (enumW l)) μ1
  | _ => .no
section
variable {X : Cx} {Wx : WX} {e : Expr} {ta : TA} {mm : AM} {p pos tpos : Pos} {elts : List Expr} {kk : Nat}
theorem pid_enum (hg : Gl X "enumerate") (hm : X.mg "enumerate" = none) (h : PAD X Wx [e] ta mm) (hs : starEach [e] X.env = [(false, eval e X.env)] := by rfl) :
    PID X Wx (.Tuple elts kk tpos) (.Call (.Name "enumerate" p) [e] [] pos) (fun σ H R => iEnum X.K ta σ H R ∨ PDM.iEnumT X.K ta σ H R) (iEnumM mm) := by
  refine ⟨PI.or (pi_enum hg hm h.pa hs) (PDM.pi_enumT hg hm h.pa hs), fun σ H R θ F ρ μ S E ok => ?_⟩
  have hh := ok
  unfold iEnumM at ok
  cases em : mm ρ μ with
  | no => rw [em] at ok; exact ok.elim
  | er c μ1 =>
    rw [em] at ok
    exact .inl (h.ad σ H _ θ F ρ μ S E (by rw [em]; exact ok))
  | ok ws μ1 =>
    rw [em] at ok
    dsimp only [Out.bind] at ok
    split at ok
    · rename_i l
      refine .inr (h.ad σ H _ θ F ρ μ S E ?_)
      rw [em]
      intro θ1 F1 H1 vs x1 S1 r1
      obtain ⟨v, rfl, rv⟩ := rep1 r1
      cases rv with
      | tup ha q => exact ⟨_, _, rfl, S1.sub.sqT ha, ok θ1 F1 H1 _ x1 S1 (impl_enumT ha q)⟩
    · rename_i l
      refine .inl (h.ad σ H _ θ F ρ μ S E ?_)
      rw [em]
      intro θ1 F1 H1 vs x1 S1 r1
      obtain ⟨v, rfl, rv⟩ := rep1 r1
      cases rv with
      | lst ha q => exact ⟨_, _, rfl, .of (S1.sub _ _ ha), ok θ1 F1 H1 _ x1 S1 (impl_enumL (.of ha) q)⟩
    · exact ok.elim
end
end PD
namespace PDM
open PySem PySem.Spec PyProof.Rows L2
/-! ### xs += t, t a tuple -/
theorem iadd_lt (l : Addr) (xs : Array Value) (n : Nat) (b : Addr) (ys : Array Value) (n2 : Nat) (dd : Option Addr) (sl : Array (Option Value)) (h0 : ¬(!xs.isEmpty && Builtin.List.listTooLong (xs.size + ys.size)) = true) (h1 : xs.size ≤ sizeLine) (h2 : xs.size + ys.size ≤ sizeLine + 1) :
    Meets (Builtin.«list.__iadd__» ⟨[.ref l, .ref b], []⟩) (fun _ R s => s.heap.get? l = some { cls := .type "list", dict := none, data := .seq xs n, slots := #[] } ∧ s.heap.get? b = some { cls := .type "tuple", dict := dd, data := .seq ys n2, slots := sl } ∧ R (.ok (.ret (Value.ref l))) { s with heap := s.heap.update l (Obj.mapSeq fun x => x ++ ys), toks := s.toks }) :=
  .of_wp fun prog w A R s h => by
    obtain ⟨hp, gg, dr, tk, sys⟩ := s
    obtain ⟨hl, hb, fin⟩ := h
    have g1 := AutoSeq1.idx_int
    have g2 := AutoSeq1.sub_tuple_tuple
    have g3 := AutoSeq1.sub_list_list
    have g4 := AutoSeq1.sub_tuple_list
    have g5 := AutoSeq1.sub_list_tuple
    have hz' : (xs ++ ys).size ≤ sizeLine + 1 := by rw [Array.size_append]; exact h2
    wp_walk using (wpAny_updateSeq hl rfl (hz := h1) (_hz' := hz')), AutoSeq1.wpAny_loadPart' hl, AutoSeq1.wpAny_loadPart' hb
    exact ⟨_, rfl, fin⟩
theorem road_lt {M : Model} {A : Around} {E : Value → Shared → Prop} {s : Shared} {a b : Value} {Q : Value → Shared → Prop} (ha : s.TypeIs a "list") (hb : s.TypeIs b "tuple") (hc : wpAny M A (call (.builtin "list.__iadd__") [a, b]) Q E s) : wpAny M A (inplaceOp .Add a b) Q E s := by
  have look : typeLookup (.type "list") (dunderI "add") = pure (some (.builtin "list.__iadd__")) := PySem.F.slot_list_iadd.lookup
  have isq : isSeqSlot (some (.builtin "list.__iadd__")) = true := by decide +kernel
  have fil : fillsInplaceSlot (.type "list") "add" (Operator.Add == .Add) = pure false := by
    unfold fillsInplaceSlot
    show (typeLookup (.type "list") (dunderI "add") >>= fun fi => pure (fi.isSome && !isSeqSlot fi)) = pure false
    rw [look]
    show (pure (true && !isSeqSlot (some (.builtin "list.__iadd__"))) : Sem Bool) = pure false
    rw [isq] <;> rfl
  have sq : seqSlot? (.type "list") (dunderI "add") = pure (some (.builtin "list.__iadd__")) := PySem.seqSlot_of look isq
  have none1 : ∀ {Q : Option Value → Shared → Prop}, Q none s → wpAny M A (binaryOp1 "add" a b) Q E s := fun {Q} q => by
    simp only [binaryOp1]
    refine wpAny_bind (wpAny_typeOf ha (wpAny_bind (wpAny_typeOf hb (wpAny_bind (wpAny_of_eq noFill_list_add ?_)))))
    have ne : (Value.type "list" == Value.type "tuple") = false := by decide +kernel
    simp only [ne, Bool.false_eq_true, if_false]
    refine wpAny_bind (wpAny_of_eq noFill_tuple_add ?_)
    simp only [pure_bind, Bool.false_and, Bool.false_eq_true, if_false, Bool.and_false]
    exact wpAny_pure q
  unfold inplaceOp
  refine wpAny_holding (wpAny_bind (wpAny_typeOf ha (wpAny_bind (wpAny_of_eq fil ?_))))
  show wpAny M A (if false = true then _ else _) Q E s
  rw [if_neg Bool.false_ne_true]
  exact wpAny_bind (none1 (wpAny_bind (wpAny_of_eq sq (wpAny_bind (wpAny_rule hc)))))
def rExtT (K : PySem.W.Frag) : R2 := fun x y H Q => ∃ l b xs zs, x = .ref l ∧ y = .ref b ∧ H l = some (.lst xs) ∧ SqT K H b zs ∧ xs.length + zs.length ≤ sizeLine ∧ Q (.ref l) (upd H l (.lst (xs ++ zs)))
theorem iop_extT {X : Cx} : OpR X (inplaceOp .Add) (rExtT X.K) := by
  intro pins s σ H x y v u Q I rx ry h
  obtain ⟨l, b, xs, zs, rfl, rfl, hH, hB, hz, q⟩ := h
  cases rx
  cases ry
  obtain ⟨z, its, n, r, hl, e⟩ := I.lstM hH
  obtain ⟨its2, r2, ⟨⟨c2, d2, dt2, sl2⟩, ho2, hc2, n2, hd2⟩, hz2⟩ := I.tuple hB
  replace hc2 : c2 = .type "tuple" := hc2
  replace hd2 : dt2 = .seq its2.toArray n2 := hd2
  subst hc2 hd2
  have hr2 := r2.length
  have hsz : its.toArray.size + its2.toArray.size ≤ sizeLine := by rw [List.size_toArray, List.size_toArray]; omega
  have hlong : ¬ (!its.toArray.isEmpty && Builtin.List.listTooLong (its.toArray.size + its2.toArray.size)) = true := by
    rw [notLongL hsz, Bool.and_false]
    exact Bool.false_ne_true
  refine road_lt ⟨_, e, rfl⟩ ⟨_, ho2, rfl⟩ (call_meets PySem.F.slot_list_iadd ⟨_, e, rfl⟩ PySem.F.entry_list_iadd (PySem.F.args_list_iadd_2 _ _) (iadd_lt l its.toArray n b its2.toArray n2 d2 sl2 hlong (by rw [List.size_toArray]; omega) (by omega)) ⟨e, ho2, ?_⟩)
  exact ⟨.ref l, _, I.lset (its' := its ++ its2) (t' := s.toks) hH e (by simp) (r.append r2) (by rw [List.length_append]; omega), rfl, q⟩
end PDM
namespace PD
open PySem PySem.Spec PyProof.Rows L2
/-! x += y, a list -/
def sExt (i : Nat) (m : EM) : SM := fun ρ μ => match ρ[i]? with
  | some (some (.loc n)) => (m ρ μ).st ρ fun w μ1 => match μ1[n]?, w with
    | some (.lst l), .tup r => if l.length + r.length ≤ sizeLine then .nx (ρ.set i (some (.loc n))) (μ1.set n (.lst (l ++ r))) else .no
    | some (.lst l), .lst r => if l.length + r.length ≤ sizeLine then .nx (ρ.set i (some (.loc n))) (μ1.set n (.lst (l ++ r))) else .no
    | _, _ => .no
  | _ => .no
section
variable {X : Cx} {Wx : WX} {pos : Pos} {e : Expr} {te : TE} {me : EM}
theorem psd_ext {i : Nat} {x : Str} {pos' : Pos} (hN : X.N.Nodup) (hi : X.N[i]? = some x) (hx : Loc X.env.scope x) (h : PED X Wx e te me) (hf : X.fn x = true ∨ X.env.scope.names.lookup x = some .local := by first | exact .inl rfl | exact .inr rfl | assumption) :
    PSD X Wx (.AugAssign (.Name x pos') .Add e pos) (tAug i te (fun x y H Q => PDM.rExtT X.K x y H Q ∨ rExt2 x y H Q)) (sExt i me) := by
  refine ⟨ps_aug hN hi hx h.pe (PDM.iop_extT.or iop_ext) hf, fun D σ H θ F ρ μ S E ok => ?_⟩
  unfold sExt at ok
  split at ok
  · rename_i n hρ
    obtain ⟨v, hv, rv⟩ := E.get i _ hρ
    refine ⟨v, hv, ?_⟩
    cases em : me ρ μ with
    | no => rw [em] at ok; exact ok.elim
    | er c μ1 =>
      rw [em] at ok
      refine h.ad σ H _ θ F ρ μ S E ?_
      rw [em]
      exact fun θ1 F1 H1 x1 S1 => ok θ1 F1 H1 σ x1 S1 (E.mono x1.pre x1.sub)
    | ok w μ1 =>
      rw [em] at ok
      refine h.ad σ H _ θ F ρ μ S E ?_
      rw [em]
      intro θ1 F1 H1 y x1 S1 ry
      have E1 := E.mono x1.pre x1.sub
      have rv1 := rv.mono x1.pre x1.sub
      dsimp only [Out.st] at ok
      split at ok
      · rename_i l r hl
        split at ok
        · rename_i hz
          obtain ⟨a, vs, rfl, ha, hF, hH, q⟩ := loc_rep S1 rv1 hl
          cases ry with
          | tup hb qb =>
            rename_i b zs
            refine .inl ⟨a, b, vs, zs, rfl, rfl, hH, S1.sub.sqT hb, by rw [q.length, qb.length]; exact hz, ?_⟩
            obtain ⟨S2, x2⟩ := write_lst S1 ha hF (q.append qb)
            exact ok θ1 F1 _ _ (x1.trans x2) S2 (E1.set i (.loc ha))
        · exact ok.elim
      · rename_i l r hl
        split at ok
        · rename_i hz
          obtain ⟨a, vs, rfl, ha, hF, hH, q⟩ := loc_rep S1 rv1 hl
          cases ry with
          | lst hb qb =>
            rename_i b zs
            refine .inr ⟨a, b, vs, zs, rfl, rfl, hH, S1.sub _ _ hb, by rw [q.length, qb.length]; exact hz, ?_⟩
            obtain ⟨S2, x2⟩ := write_lst S1 ha hF (q.append qb)
            exact ok θ1 F1 _ _ (x1.trans x2) S2 (E1.set i (.loc ha))
        · exact ok.elim
      · exact ok.elim
  · exact ok.elim
end
end PD
namespace PD
open PySem PySem.Spec PyProof.Rows L2
/-! ### targets within targets -/
def gsCons (g : W → Env → Mu → Out Env) (r : List W → Env → Mu → Out Env) : List W → Env → Mu → Out Env := fun ws ρ μ => match ws with
  | w :: ws => (g w ρ μ).bind fun ρ1 μ1 => r ws ρ1 μ1
  | [] => .no
section
variable {X : Cx} {Wx : WX}
theorem pgsd_cons {tg : Expr} {es : List Expr} {g : TG} {u : TGs} {mg : W → Env → Mu → Out Env} {mu : List W → Env → Mu → Out Env} (h1 : PGD X Wx tg g mg) (h2 : PGsD X Wx es u mu)
    (hs : (assignEach (tg :: es) X.env).map (·.2) = assign tg X.env :: (assignEach es X.env).map (·.2) := by rfl) : PGsD X Wx (tg :: es) (gCons g u) (gsCons mg mu) := by
  refine ⟨pgs_cons h1.pg h2.pg hs, fun vs ws σ H Q θ F ρ μ S E r ok => ?_⟩
  cases r with
  | nil => exact ok.elim
  | @cons v vs w ws r1 r2 =>
    refine ⟨_, _, rfl, h1.ad _ _ σ H _ θ F ρ μ S E r1 ?_⟩
    have ok' : ((mg w ρ μ).bind fun ρ1 μ1 => mu ws ρ1 μ1).Ok X.K (SimE X.K) θ F H (fun c H' => ∀ σ', Wx (.ref c) none σ' H') Q := ok
    cases e : mg w ρ μ with
    | no => rw [e] at ok'; exact ok'.elim
    | er c μ1 =>
      rw [e] at ok'
      exact fun θ1 F1 H1 x1 S1 => ok' θ1 F1 H1 x1 S1 σ
    | ok ρ1 μ1 =>
      rw [e] at ok'
      intro θ1 F1 H1 σ1 x1 S1 E1
      exact h2.ad _ _ σ1 H1 Q θ1 F1 ρ1 μ1 S1 E1 (r2.mono x1.pre x1.sub) (Out.Ok.mono (o := mu ws ρ1 μ1) ok' x1)
end
theorem ner_set {i : Nat} : ∀ w ρ μ c μ', gSet i w ρ μ ≠ .er c μ' := fun w ρ μ c μ' h => by cases h
theorem ner_cons {g : W → Env → Mu → Out Env} {r : List W → Env → Mu → Out Env} (hg : ∀ w ρ μ c μ', g w ρ μ ≠ .er c μ') (hr : ∀ ws ρ μ c μ', r ws ρ μ ≠ .er c μ') : ∀ ws ρ μ c μ', gsCons g r ws ρ μ ≠ .er c μ' := fun ws ρ μ c μ' h => by
  unfold gsCons at h
  split at h
  · rename_i w ws
    cases e : g w ρ μ with
    | no => rw [e] at h; cases h
    | er c1 μ1 => exact hg _ _ _ _ _ e
    | ok ρ1 μ1 => rw [e] at h; exact hr _ _ _ _ _ h
  · cases h
theorem ner_tup {n : Nat} {r : List W → Env → Mu → Out Env} (hr : ∀ ws ρ μ c μ', r ws ρ μ ≠ .er c μ') : ∀ w ρ μ c μ', gTupM n r w ρ μ ≠ .er c μ' := fun w ρ μ c μ' h => by
  unfold gTupM at h
  split at h
  · split at h
    · exact hr _ _ _ _ _ h
    · cases h
  · cases h
theorem ner_var {i : Nat} : ∀ ρ μ c μ', eVar i ρ μ ≠ .er c μ' := fun ρ μ c μ' h => by
  unfold eVar at h
  split at h <;> cases h
theorem ner_sub {o i : EM} (ho : ∀ ρ μ c μ', o ρ μ ≠ .er c μ') (hi : ∀ ρ μ c μ', i ρ μ ≠ .er c μ') : ∀ w ρ μ c μ', gSubM o i w ρ μ ≠ .er c μ' := fun w ρ μ c μ' h => by
  unfold gSubM at h
  cases e : o ρ μ with
  | no => rw [e] at h; cases h
  | er c1 μ1 => exact ho _ _ _ _ e
  | ok x μ1 =>
    rw [e] at h
    dsimp only [Out.bind] at h
    cases e2 : i ρ μ1 with
    | no => rw [e2] at h; cases h
    | er c1 μ1 => exact hi _ _ _ _ e2
    | ok y μ2 =>
      rw [e2] at h
      dsimp only [Out.bind] at h
      split at h
      · split at h
        · split at h <;> cases h
        · cases h
      · cases h
/-- a target stores at own places alone, from any state alike outside -/
def GOw (g : TG) (vs : List Nat) : Prop := ∀ (v : V) (σ0 σ : St) (H : Hp) (Q : St → Hp → Prop), wipe σ vs = wipe σ0 vs → g v σ H Q → g v σ H fun σ2 H2 => wipe σ2 vs = wipe σ0 vs ∧ Q σ2 H2
def GsOw (g : TGs) (vs : List Nat) : Prop := ∀ (us : List V) (σ0 σ : St) (H : Hp) (Q : St → Hp → Prop), wipe σ vs = wipe σ0 vs → g us σ H Q → g us σ H fun σ2 H2 => wipe σ2 vs = wipe σ0 vs ∧ Q σ2 H2
theorem GOw.own {g : TG} {vs : List Nat} (h : GOw g vs) : GOwn g vs := fun v σ H Q q => h v σ (wipe σ vs) H Q wipe_wipe q
theorem gow_name {i : Nat} {vs : List Nat} (h : i ∈ vs) : GOw (gName i) vs := fun v σ0 σ H Q e q => ⟨by rw [wipe_set h, e], q⟩
theorem gsow_nil {vs : List Nat} : GsOw gNil vs := fun us σ0 σ H Q e q => ⟨q.1, e, q.2⟩
theorem gsow_cons {g : TG} {u : TGs} {vs : List Nat} (h1 : GOw g vs) (hm : ∀ v σ H (Q Q' : St → Hp → Prop), (∀ σ H, Q σ H → Q' σ H) → g v σ H Q → g v σ H Q') (h2 : GsOw u vs) : GsOw (gCons g u) vs := fun us σ0 σ H Q e q => by
  obtain ⟨v, vs', rfl, q⟩ := q
  refine ⟨v, vs', rfl, hm v σ H _ _ (fun σ1 H1 z => ?_) (h1 v σ0 σ H _ e q)⟩
  exact h2 vs' σ0 σ1 H1 Q z.1 z.2
theorem gmono_name {i : Nat} : ∀ v σ H (Q Q' : St → Hp → Prop), (∀ σ H, Q σ H → Q' σ H) → gName i v σ H Q → gName i v σ H Q' := fun v σ H Q Q' h q => h _ _ q
theorem gsmono_nil : ∀ vs σ H (Q Q' : St → Hp → Prop), (∀ σ H, Q σ H → Q' σ H) → gNil vs σ H Q → gNil vs σ H Q' := fun v σ H Q Q' h q => ⟨q.1, h _ _ q.2⟩
theorem gsmono_cons {g : TG} {u : TGs} (h1 : ∀ v σ H (Q Q' : St → Hp → Prop), (∀ σ H, Q σ H → Q' σ H) → g v σ H Q → g v σ H Q') (h2 : ∀ vs σ H (Q Q' : St → Hp → Prop), (∀ σ H, Q σ H → Q' σ H) → u vs σ H Q → u vs σ H Q') : ∀ vs σ H (Q Q' : St → Hp → Prop), (∀ σ H, Q σ H → Q' σ H) → gCons g u vs σ H Q → gCons g u vs σ H Q' := fun vs σ H Q Q' h q => by
  obtain ⟨v, vs', rfl, q⟩ := q
  exact ⟨v, vs', rfl, h1 v σ H _ _ (fun σ1 H1 z => h2 vs' σ1 H1 Q Q' h z) q⟩
theorem gmono_tup {K : PySem.W.Frag} {n : Nat} {u : TGs} (h : ∀ vs σ H (Q Q' : St → Hp → Prop), (∀ σ H, Q σ H → Q' σ H) → u vs σ H Q → u vs σ H Q') : ∀ v σ H (Q Q' : St → Hp → Prop), (∀ σ H, Q σ H → Q' σ H) → gTup K n u v σ H Q → gTup K n u v σ H Q' := fun v σ H Q Q' hh q => by
  obtain ⟨a, xs, e, hq, hl, q⟩ := q
  exact ⟨a, xs, e, hq, hl, h xs σ H Q Q' hh q⟩
theorem gow_tup {K : PySem.W.Frag} {n : Nat} {u : TGs} {vs : List Nat} (h : GsOw u vs) : GOw (gTup K n u) vs := fun v σ0 σ H Q e q => by
  obtain ⟨a, xs, e1, hq, hl, q⟩ := q
  exact ⟨a, xs, e1, hq, hl, h xs σ0 σ H Q e q⟩
end PD
namespace PD
open PySem PySem.Spec PyProof.Rows L2
/-! ### more functions worked out: walks by place -/
section
variable {μ : Mu}
theorem at_set {i j : Nat} {c e : Cell} (h : μ[i]? = some e) : (μ.set i c)[j]? = if i = j then some c else μ[j]? := by
  by_cases hij : i = j
  · subst hij
    rw [if_pos rfl, List.getElem?_set_self (List.getElem?_eq_some_iff.mp h).1]
  · rw [if_neg hij, List.getElem?_set_ne hij]
theorem cmpS_ix {g : W → Env → Mu → Out Env} {tt : BM} {me : EM} {ρ : Env} {f : Nat → Option W} : ∀ (l : List W) (k : Nat) (acc : List W),
    (∀ (i : Nat) (x : W), l[i]? = some x → ∃ ρ1, g x ρ μ = .ok ρ1 μ ∧ ((f (k + i) = none ∧ tt ρ1 μ = .ok false μ) ∨ ∃ y, f (k + i) = some y ∧ tt ρ1 μ = .ok true μ ∧ me ρ1 μ = .ok y μ)) →
    acc.length + l.length ≤ sizeLine → cmpS g tt me ρ l acc μ = .ok (.lst (acc ++ (List.range' k l.length).filterMap f)) μ
  | [], k, acc, _, _ => by simp [cmpS]
  | x :: l, k, acc, h, hs => by
    obtain ⟨ρ1, e1, h2⟩ := h 0 x rfl
    rw [Nat.add_zero] at h2
    have hl : acc.length < sizeLine := by rw [List.length_cons] at hs; omega
    have h' : ∀ (i : Nat) (y : W), l[i]? = some y → ∃ ρ1, g y ρ μ = .ok ρ1 μ ∧ ((f (k + 1 + i) = none ∧ tt ρ1 μ = .ok false μ) ∨ ∃ z, f (k + 1 + i) = some z ∧ tt ρ1 μ = .ok true μ ∧ me ρ1 μ = .ok z μ) := fun i y hy => by
      have := h (i + 1) y (by rw [List.getElem?_cons_succ]; exact hy)
      rw [show k + 1 + i = k + (i + 1) by omega]
      exact this
    unfold cmpS
    rw [e1]
    dsimp only
    rcases h2 with ⟨h3, e2⟩ | ⟨y, h3, e2, e3⟩
    · rw [e2]
      dsimp only
      rw [cmpS_ix l (k + 1) acc h' (by rw [List.length_cons] at hs; omega), List.length_cons, List.range'_succ, List.filterMap_cons_none h3]
    · rw [e2]
      dsimp only
      rw [e3]
      dsimp only
      rw [if_pos hl, cmpS_ix l (k + 1) (acc ++ [y]) h' (by rw [List.length_append, List.length_singleton]; rw [List.length_cons] at hs; omega), List.length_cons, List.range'_succ, List.filterMap_cons_some h3]
      simp
theorem cmpL_ix {it : Iter} {l0 : List W} (hit : it.items μ = some l0) {g : W → Env → Mu → Out Env} {tt : BM} {me : EM} {ρ : Env} {f : Nat → Option W} : ∀ (l : List W) (k : Nat) (acc : List W),
    (∀ (i : Nat) (x : W), l[i]? = some x → ∃ ρ1, g x ρ μ = .ok ρ1 μ ∧ ((f (k + i) = none ∧ tt ρ1 μ = .ok false μ) ∨ ∃ y, f (k + i) = some y ∧ tt ρ1 μ = .ok true μ ∧ me ρ1 μ = .ok y μ)) →
    acc.length + l.length ≤ sizeLine → cmpL it l0 g tt me ρ l acc μ = .ok (.lst (acc ++ (List.range' k l.length).filterMap f)) μ
  | [], k, acc, _, _ => by unfold cmpL; rw [if_pos hit]; simp
  | x :: l, k, acc, h, hs => by
    obtain ⟨ρ1, e1, h2⟩ := h 0 x rfl
    rw [Nat.add_zero] at h2
    have hl : acc.length < sizeLine := by rw [List.length_cons] at hs; omega
    have h' : ∀ (i : Nat) (y : W), l[i]? = some y → ∃ ρ1, g y ρ μ = .ok ρ1 μ ∧ ((f (k + 1 + i) = none ∧ tt ρ1 μ = .ok false μ) ∨ ∃ z, f (k + 1 + i) = some z ∧ tt ρ1 μ = .ok true μ ∧ me ρ1 μ = .ok z μ) := fun i y hy => by
      have := h (i + 1) y (by rw [List.getElem?_cons_succ]; exact hy)
      rw [show k + 1 + i = k + (i + 1) by omega]
      exact this
    unfold cmpL
    rw [if_pos hit, e1]
    dsimp only
    rcases h2 with ⟨h3, e2⟩ | ⟨y, h3, e2, e3⟩
    · rw [e2]
      dsimp only
      rw [cmpL_ix hit l (k + 1) acc h' (by rw [List.length_cons] at hs; omega), List.length_cons, List.range'_succ, List.filterMap_cons_none h3]
    · rw [e2]
      dsimp only
      rw [e3]
      dsimp only
      rw [if_pos hl, cmpL_ix hit l (k + 1) (acc ++ [y]) h' (by rw [List.length_append, List.length_singleton]; rw [List.length_cons] at hs; omega), List.length_cons, List.range'_succ, List.filterMap_cons_some h3]
      simp
/-- a walk that ends at the first that is right -/
theorem forS_first {g : W → Env → Mu → Out Env} {body : SM} {f : Nat → Option W} (I : Env → Prop) : ∀ (l : List W) (k : Nat) (ρ : Env), I ρ →
    (∀ (i : Nat) (x : W) (ρ : Env), l[i]? = some x → I ρ → ∃ ρ1, g x ρ μ = .ok ρ1 μ ∧ ((f (k + i) = none ∧ ∃ ρ2, body ρ1 μ = .nx ρ2 μ ∧ I ρ2) ∨ ∃ y, f (k + i) = some y ∧ body ρ1 μ = .rt y μ)) →
    ((List.range' k l.length).findSome? f = none ∧ ∃ ρ', forS g body l ρ μ = .nx ρ' μ ∧ I ρ') ∨ ∃ y, (List.range' k l.length).findSome? f = some y ∧ forS g body l ρ μ = .rt y μ
  | [], k, ρ, h, _ => .inl ⟨rfl, ρ, rfl, h⟩
  | x :: l, k, ρ, h, st => by
    obtain ⟨ρ1, e1, h2⟩ := st 0 x ρ rfl h
    rw [Nat.add_zero] at h2
    rw [List.length_cons, List.range'_succ]
    have eq : forS g body (x :: l) ρ μ = match body ρ1 μ with
        | .nx ρ2 μ2 => forS g body l ρ2 μ2
        | .ct ρ2 μ2 => forS g body l ρ2 μ2
        | .bk ρ2 μ2 => .nx ρ2 μ2
        | o => o := by
      show ((g x ρ μ).st ρ fun ρ1 μ1 => match body ρ1 μ1 with
        | .nx ρ2 μ2 => forS g body l ρ2 μ2
        | .ct ρ2 μ2 => forS g body l ρ2 μ2
        | .bk ρ2 μ2 => .nx ρ2 μ2
        | o => o) = _
      rw [e1]
      rfl
    rw [eq]
    rcases h2 with ⟨h3, ρ2, e2, h4⟩ | ⟨y, h3, e2⟩
    · rw [e2]
      rw [List.findSome?_cons_of_isNone (by rw [h3]; rfl)]
      exact forS_first I l (k + 1) ρ2 h4 fun i y ρ hy hI => by
        rw [show k + 1 + i = k + (i + 1) by omega]
        exact st (i + 1) y ρ (by rw [List.getElem?_cons_succ]; exact hy) hI
    · rw [e2]
      exact .inr ⟨y, by rw [List.findSome?_cons, show f k = some y from h3], rfl⟩
/-- a walk along a cell that stays -/
theorem forL_inv {it : Iter} {l0 : List W} {g : W → Env → Mu → Out Env} {body : SM} (P : Nat → Env → Mu → Prop) (hit : ∀ i ρ μ, P i ρ μ → it.items μ = some l0) : ∀ (l : List W) (i : Nat) (ρ : Env) (μ : Mu), P i ρ μ →
    (∀ (j : Nat) (w : W) (ρ : Env) (μ : Mu), i ≤ j → l[j - i]? = some w → P j ρ μ → ∃ ρ1 μ1 ρ2 μ2, g w ρ μ = .ok ρ1 μ1 ∧ body ρ1 μ1 = .nx ρ2 μ2 ∧ P (j + 1) ρ2 μ2) → ∃ ρ' μ', forL it l0 g body l ρ μ = .nx ρ' μ' ∧ P (i + l.length) ρ' μ'
  | [], i, ρ, μ, h, _ => ⟨ρ, μ, by unfold forL; rw [if_pos (hit _ _ _ h)], h⟩
  | w :: l, i, ρ, μ, h, st => by
    obtain ⟨ρ1, μ1, ρ2, μ2, e1, e2, h2⟩ := st i w ρ μ (Nat.le_refl _) (by simp) h
    obtain ⟨ρ', μ', e3, h3⟩ := forL_inv P hit l (i + 1) ρ2 μ2 h2 fun j w ρ μ hj hw hP => st j w ρ μ (by omega) (by rw [show j - i = (j - (i + 1)) + 1 by omega, List.getElem?_cons_succ]; exact hw) hP
    refine ⟨ρ', μ', ?_, by rw [List.length_cons, show i + (l.length + 1) = i + 1 + l.length by omega]; exact h3⟩
    unfold forL
    rw [if_pos (hit _ _ _ h), e1]
    show (match body ρ1 μ1 with
      | .nx ρ2 μ2 => forL it l0 g body l ρ2 μ2
      | .ct ρ2 μ2 => forL it l0 g body l ρ2 μ2
      | .bk ρ2 μ2 => .nx ρ2 μ2
      | o => o) = _
    rw [e2]
    exact e3
theorem call1 {g : GC} {m : EM} {ρ : Env} {v : W} {μ1 : Mu} (h : m ρ μ = .ok v μ1) : eCall g (aCons m aNil) ρ μ = g [v] μ1 := by
  simp only [eCall, aCons, h, Out.bind, aNil]
theorem irange_get {lo : Int} {n i : Nat} {x : W} (h : (irange lo n)[i]? = some x) : i < n ∧ x = .int (lo + (i : Nat)) := by
  unfold irange at h
  rw [List.getElem?_map] at h
  obtain ⟨j, hj, rfl⟩ := Option.map_eq_some_iff.mp h
  obtain ⟨h1, h2⟩ := List.getElem?_eq_some_iff.mp hj
  rw [List.length_range] at h1
  rw [List.getElem_range] at h2
  subst h2
  exact ⟨h1, rfl⟩
theorem irange_len {lo : Int} {n : Nat} : (irange lo n).length = n := by simp [irange]
theorem rangeA {n : Nat} (h : n < 2 ^ 62) {m : AM} {ρ : Env} {μ1 : Mu} (e : m ρ μ = .ok [.int (n : Nat)] μ1) : iRngA m ρ μ = .ok (.seq (irange 0 n)) μ1 := by
  have h1 : -(2 ^ 62) ≤ ((n : Nat) : Int) ∧ ((n : Nat) : Int) < 2 ^ 62 := by omega
  simp only [iRngA, e, Out.bind, if_pos h1, Int.toNat_natCast]
theorem cutHead {l : List W} {k : Nat} : cutW l none (some (k : Int)) = l.take k := by
  unfold cutW
  rw [HT.sIx_none, HT.sIx_nat, List.drop_zero, Nat.sub_zero]
  by_cases h : k ≤ l.length
  · rw [Nat.min_eq_left h]
  · rw [Nat.min_eq_right (by omega), List.take_length, List.take_of_length_le (by omega)]
theorem cutTail {l : List W} {k : Nat} : cutW l (some (k : Int)) none = l.drop k := by
  unfold cutW
  rw [HT.sIx_none, HT.sIx_nat]
  by_cases h : k ≤ l.length
  · rw [Nat.min_eq_left h, List.take_of_length_le]
    rw [List.length_drop]
    omega
  · rw [Nat.min_eq_right (by omega), Nat.sub_self, List.take_zero, List.drop_eq_nil_of_le (by omega)]
/-! ints in tuples and lists -/
theorem ShL.ints : ∀ (ns : List Int), ShL 0 (ns.map W.int) (ns.map PyData.int)
  | [] => .nil
  | n :: ns => .cons .int (ShL.ints ns)
theorem Sh.tupW (k : List Int) : Sh 1 (tupW k) (.tuple (k.map .int)) := .tup (.ints k)
theorem Sh.intsL (k : List Int) : Sh 1 (.lst (k.map .int)) (.list (k.map .int)) := .lst (.ints k)
theorem ShL.tups : ∀ (ks : List (List Int)), ShL 1 (ks.map tupW) (ks.map fun k => .tuple (k.map .int))
  | [] => .nil
  | k :: ks => .cons (.tupW k) (ShL.tups ks)
theorem ShL.rows : ∀ (ks : List (List Int)), ShL 1 (ks.map fun k => .lst (k.map .int)) (ks.map fun k => .list (k.map .int))
  | [] => .nil
  | k :: ks => .cons (.intsL k) (ShL.rows ks)
theorem eqv_ints : ∀ (a b : List Int), PyData.eqvAll (a.map .int) (b.map .int) = decide (a = b)
  | [], [] => by simp [PyData.eqvAll]
  | [], _ :: _ => by simp [PyData.eqvAll]
  | _ :: _, [] => by simp [PyData.eqvAll]
  | x :: a, y :: b => by
    simp only [List.map_cons, PyData.eqvAll, PyData.eqv, eqv_ints a b]
    by_cases h1 : x = y <;> by_cases h2 : a = b <;> simp [h1, h2]
theorem gEq_tupW {a b : List Int} : gEq (tupW a) (tupW b) μ = .ok (.bl (decide (a = b))) μ := by
  rw [gEq_sh (.tupW a) (.tupW b)]
  simp only [PyData.eqv, eqv_ints]
theorem gEq_intsL {a b : List Int} : gEq (.lst (a.map .int)) (.lst (b.map .int)) μ = .ok (.bl (decide (a = b))) μ := by
  rw [gEq_sh (.intsL a) (.intsL b)]
  simp only [PyData.eqv, eqv_ints]
theorem gNe_intsL {a b : List Int} : gNe (.lst (a.map .int)) (.lst (b.map .int)) μ = .ok (.bl (!decide (a = b))) μ := by
  rw [gNe_sh (.intsL a) (.intsL b)]
  simp only [PyData.eqv, eqv_ints]
theorem gNe_tups_nil {ks : List (List Int)} : gNe (.tup (ks.map tupW)) (.tup []) μ = .ok (.bl (!ks.isEmpty)) μ := by
  rw [gNe_sh (.tup (.tups ks)) (.tup (n := 0) .nil)]
  cases ks <;> simp [PyData.eqv, PyData.eqvAll]
end
end PD
namespace K44
open PySem PySem.Spec PyProof.Rows L2 PD

def top (i : Nat) : Stmt := PySem.Challenge.pw_pathsallowed_k44_whole_wires_of_links.main.body.getD i (.Pass ⟨0, 0, 0, 0⟩)
abbrev t_is_number : Stmt := top 8
abbrev t_place_of : Stmt := top 12
abbrev t_value_in : Stmt := top 13
abbrev t_end_of : Stmt := top 15
abbrev t_Queue_init : Stmt := inClass (top 19) 0
abbrev t_Queue_put : Stmt := inClass (top 19) 1
abbrev t_Queue_place : Stmt := inClass (top 19) 2
abbrev t_Queue_take : Stmt := inClass (top 19) 3
abbrev t_Queue_many : Stmt := inClass (top 19) 4
abbrev t_Queue_waiting : Stmt := inClass (top 19) 5
abbrev t_Queue_lost : Stmt := inClass (top 19) 6
abbrev t_Wires_init : Stmt := inClass (top 22) 0
abbrev t_Wires_wire_from : Stmt := inClass (top 22) 1
abbrev t_Wires_put : Stmt := inClass (top 22) 2
abbrev t_Wires_take : Stmt := inClass (top 22) 3
abbrev t_Wires_queue : Stmt := inClass (top 22) 4
abbrev t_Wires_ready : Stmt := inClass (top 22) 5
abbrev t_Wires_things : Stmt := inClass (top 22) 6
abbrev t_Wires_lost : Stmt := inClass (top 22) 7
abbrev t_law_draws : Stmt := top 24
abbrev t_law_take : Stmt := top 25
abbrev t_law_alike : Stmt := top 26
abbrev t_law_says : Stmt := top 27
abbrev t_law_word : Stmt := top 28
abbrev t_law_kind : Stmt := top 29
abbrev t_law_links : Stmt := top 30
abbrev t_law_packets : Stmt := top 31
abbrev t_law_told : Stmt := top 32
abbrev t_law : Stmt := top 33
structure Adr where
  PathError : Addr
  OutOfRange : Addr
  Malformed : Addr
  NotThere : Addr
  Refused : Addr
  TooMuch : Addr
  Queue : Addr
  Wires : Addr
def k_ORDERS : List W := [.str "first", .str "last", .str "least"]
def v_ORDERS : List V := [.str "first", .str "last", .str "least"]
structure Txt (K : PySem.W.Frag) (mg : Str → Option Value) (A : Adr) : Prop where
  n_bool : mg "bool" = none
  n_isinstance : mg "isinstance" = none
  n_int : mg "int" = none
  n_enumerate : mg "enumerate" = none
  n_len : mg "len" = none
  n_min : mg "min" = none
  n_tuple : mg "tuple" = none
  n_sum : mg "sum" = none
  n_list : mg "list" = none
  n_reversed : mg "reversed" = none
  n_range : mg "range" = none
  n_abs : mg "abs" = none
  n_str : mg "str" = none
  n_sorted : mg "sorted" = none
  c_SWITCH : ∃ t, mg "SWITCH" = some (.str "sw" t)
  c_PORT : ∃ t, mg "PORT" = some (.str "pt" t)
  c_MOST_ROOM : ∃ t, mg "MOST_ROOM" = some (.int 1000 t)
  c_FIRST : ∃ t, mg "FIRST" = some (.str "first" t)
  e_PathError : EOk K mg "PathError" A.PathError
  e_OutOfRange : EOk K mg "OutOfRange" A.OutOfRange
  e_Malformed : EOk K mg "Malformed" A.Malformed
  e_NotThere : EOk K mg "NotThere" A.NotThere
  e_Refused : EOk K mg "Refused" A.Refused
  e_TooMuch : EOk K mg "TooMuch" A.TooMuch
  cl_Queue : Cls K A.Queue
  no_Queue_gone : NoAttr K A.Queue "gone"
  no_Queue_order : NoAttr K A.Queue "order"
  no_Queue_room : NoAttr K A.Queue "room"
  no_Queue_things : NoAttr K A.Queue "things"
  cl_Wires : Cls K A.Wires
  no_Wires_kind : NoAttr K A.Wires "kind"
  no_Wires_links : NoAttr K A.Wires "links"
  no_Wires_queues : NoAttr K A.Wires "queues"
  c_ORDERS : ∃ a, mg "ORDERS" = some (.ref a) ∧ ∀ F, SqT K F a v_ORDERS
  ec_OutOfRange : ExcC K A.OutOfRange
  sp_OutOfRange : PySem.W.subIn K (.ref A.OutOfRange) (.ref A.PathError) = some true
  sub_OutOfRange_OutOfRange : PySem.W.subIn K (.ref A.OutOfRange) (.ref A.OutOfRange) = some true
  sub_OutOfRange_Malformed : PySem.W.subIn K (.ref A.OutOfRange) (.ref A.Malformed) = some false
  sub_OutOfRange_NotThere : PySem.W.subIn K (.ref A.OutOfRange) (.ref A.NotThere) = some false
  sub_OutOfRange_Refused : PySem.W.subIn K (.ref A.OutOfRange) (.ref A.Refused) = some false
  sub_OutOfRange_TooMuch : PySem.W.subIn K (.ref A.OutOfRange) (.ref A.TooMuch) = some false
  ec_Malformed : ExcC K A.Malformed
  sp_Malformed : PySem.W.subIn K (.ref A.Malformed) (.ref A.PathError) = some true
  sub_Malformed_OutOfRange : PySem.W.subIn K (.ref A.Malformed) (.ref A.OutOfRange) = some false
  sub_Malformed_Malformed : PySem.W.subIn K (.ref A.Malformed) (.ref A.Malformed) = some true
  sub_Malformed_NotThere : PySem.W.subIn K (.ref A.Malformed) (.ref A.NotThere) = some false
  sub_Malformed_Refused : PySem.W.subIn K (.ref A.Malformed) (.ref A.Refused) = some false
  sub_Malformed_TooMuch : PySem.W.subIn K (.ref A.Malformed) (.ref A.TooMuch) = some false
  ec_NotThere : ExcC K A.NotThere
  sp_NotThere : PySem.W.subIn K (.ref A.NotThere) (.ref A.PathError) = some true
  sub_NotThere_OutOfRange : PySem.W.subIn K (.ref A.NotThere) (.ref A.OutOfRange) = some false
  sub_NotThere_Malformed : PySem.W.subIn K (.ref A.NotThere) (.ref A.Malformed) = some false
  sub_NotThere_NotThere : PySem.W.subIn K (.ref A.NotThere) (.ref A.NotThere) = some true
  sub_NotThere_Refused : PySem.W.subIn K (.ref A.NotThere) (.ref A.Refused) = some false
  sub_NotThere_TooMuch : PySem.W.subIn K (.ref A.NotThere) (.ref A.TooMuch) = some false
  ec_Refused : ExcC K A.Refused
  sp_Refused : PySem.W.subIn K (.ref A.Refused) (.ref A.PathError) = some true
  sub_Refused_OutOfRange : PySem.W.subIn K (.ref A.Refused) (.ref A.OutOfRange) = some false
  sub_Refused_Malformed : PySem.W.subIn K (.ref A.Refused) (.ref A.Malformed) = some false
  sub_Refused_NotThere : PySem.W.subIn K (.ref A.Refused) (.ref A.NotThere) = some false
  sub_Refused_Refused : PySem.W.subIn K (.ref A.Refused) (.ref A.Refused) = some true
  sub_Refused_TooMuch : PySem.W.subIn K (.ref A.Refused) (.ref A.TooMuch) = some false
  ec_TooMuch : ExcC K A.TooMuch
  sp_TooMuch : PySem.W.subIn K (.ref A.TooMuch) (.ref A.PathError) = some true
  sub_TooMuch_OutOfRange : PySem.W.subIn K (.ref A.TooMuch) (.ref A.OutOfRange) = some false
  sub_TooMuch_Malformed : PySem.W.subIn K (.ref A.TooMuch) (.ref A.Malformed) = some false
  sub_TooMuch_NotThere : PySem.W.subIn K (.ref A.TooMuch) (.ref A.NotThere) = some false
  sub_TooMuch_Refused : PySem.W.subIn K (.ref A.TooMuch) (.ref A.Refused) = some false
  sub_TooMuch_TooMuch : PySem.W.subIn K (.ref A.TooMuch) (.ref A.TooMuch) = some true
def IsE (A : Adr) (c : Addr) : Prop := c = A.OutOfRange ∨ c = A.Malformed ∨ c = A.NotThere ∨ c = A.Refused ∨ c = A.TooMuch
def wd (A : Adr) (c : Addr) : Option W := if c = A.OutOfRange then some (.str "range") else if c = A.Malformed then some (.str "form") else if c = A.NotThere then some (.str "none") else if c = A.Refused then some (.str "refused") else if c = A.TooMuch then some (.str "much") else none
def hit (A : Adr) (c : Addr) : Option Bool := if c = A.OutOfRange ∨ c = A.Malformed ∨ c = A.NotThere ∨ c = A.Refused ∨ c = A.TooMuch then some true else none
section
variable {K : PySem.W.Frag} {mg : Str → Option Value} {A : Adr}
theorem Txt.ne_OutOfRange_Malformed (T : Txt K mg A) : A.OutOfRange ≠ A.Malformed := fun e => by
  have h := T.sub_OutOfRange_Malformed
  rw [e, T.sub_Malformed_Malformed] at h
  cases h
theorem Txt.ne_OutOfRange_NotThere (T : Txt K mg A) : A.OutOfRange ≠ A.NotThere := fun e => by
  have h := T.sub_OutOfRange_NotThere
  rw [e, T.sub_NotThere_NotThere] at h
  cases h
theorem Txt.ne_OutOfRange_Refused (T : Txt K mg A) : A.OutOfRange ≠ A.Refused := fun e => by
  have h := T.sub_OutOfRange_Refused
  rw [e, T.sub_Refused_Refused] at h
  cases h
theorem Txt.ne_OutOfRange_TooMuch (T : Txt K mg A) : A.OutOfRange ≠ A.TooMuch := fun e => by
  have h := T.sub_OutOfRange_TooMuch
  rw [e, T.sub_TooMuch_TooMuch] at h
  cases h
theorem Txt.ne_Malformed_OutOfRange (T : Txt K mg A) : A.Malformed ≠ A.OutOfRange := fun e => by
  have h := T.sub_Malformed_OutOfRange
  rw [e, T.sub_OutOfRange_OutOfRange] at h
  cases h
theorem Txt.ne_Malformed_NotThere (T : Txt K mg A) : A.Malformed ≠ A.NotThere := fun e => by
  have h := T.sub_Malformed_NotThere
  rw [e, T.sub_NotThere_NotThere] at h
  cases h
theorem Txt.ne_Malformed_Refused (T : Txt K mg A) : A.Malformed ≠ A.Refused := fun e => by
  have h := T.sub_Malformed_Refused
  rw [e, T.sub_Refused_Refused] at h
  cases h
theorem Txt.ne_Malformed_TooMuch (T : Txt K mg A) : A.Malformed ≠ A.TooMuch := fun e => by
  have h := T.sub_Malformed_TooMuch
  rw [e, T.sub_TooMuch_TooMuch] at h
  cases h
theorem Txt.ne_NotThere_OutOfRange (T : Txt K mg A) : A.NotThere ≠ A.OutOfRange := fun e => by
  have h := T.sub_NotThere_OutOfRange
  rw [e, T.sub_OutOfRange_OutOfRange] at h
  cases h
theorem Txt.ne_NotThere_Malformed (T : Txt K mg A) : A.NotThere ≠ A.Malformed := fun e => by
  have h := T.sub_NotThere_Malformed
  rw [e, T.sub_Malformed_Malformed] at h
  cases h
theorem Txt.ne_NotThere_Refused (T : Txt K mg A) : A.NotThere ≠ A.Refused := fun e => by
  have h := T.sub_NotThere_Refused
  rw [e, T.sub_Refused_Refused] at h
  cases h
theorem Txt.ne_NotThere_TooMuch (T : Txt K mg A) : A.NotThere ≠ A.TooMuch := fun e => by
  have h := T.sub_NotThere_TooMuch
  rw [e, T.sub_TooMuch_TooMuch] at h
  cases h
theorem Txt.ne_Refused_OutOfRange (T : Txt K mg A) : A.Refused ≠ A.OutOfRange := fun e => by
  have h := T.sub_Refused_OutOfRange
  rw [e, T.sub_OutOfRange_OutOfRange] at h
  cases h
theorem Txt.ne_Refused_Malformed (T : Txt K mg A) : A.Refused ≠ A.Malformed := fun e => by
  have h := T.sub_Refused_Malformed
  rw [e, T.sub_Malformed_Malformed] at h
  cases h
theorem Txt.ne_Refused_NotThere (T : Txt K mg A) : A.Refused ≠ A.NotThere := fun e => by
  have h := T.sub_Refused_NotThere
  rw [e, T.sub_NotThere_NotThere] at h
  cases h
theorem Txt.ne_Refused_TooMuch (T : Txt K mg A) : A.Refused ≠ A.TooMuch := fun e => by
  have h := T.sub_Refused_TooMuch
  rw [e, T.sub_TooMuch_TooMuch] at h
  cases h
theorem Txt.ne_TooMuch_OutOfRange (T : Txt K mg A) : A.TooMuch ≠ A.OutOfRange := fun e => by
  have h := T.sub_TooMuch_OutOfRange
  rw [e, T.sub_OutOfRange_OutOfRange] at h
  cases h
theorem Txt.ne_TooMuch_Malformed (T : Txt K mg A) : A.TooMuch ≠ A.Malformed := fun e => by
  have h := T.sub_TooMuch_Malformed
  rw [e, T.sub_Malformed_Malformed] at h
  cases h
theorem Txt.ne_TooMuch_NotThere (T : Txt K mg A) : A.TooMuch ≠ A.NotThere := fun e => by
  have h := T.sub_TooMuch_NotThere
  rw [e, T.sub_NotThere_NotThere] at h
  cases h
theorem Txt.ne_TooMuch_Refused (T : Txt K mg A) : A.TooMuch ≠ A.Refused := fun e => by
  have h := T.sub_TooMuch_Refused
  rw [e, T.sub_Refused_Refused] at h
  cases h
theorem Txt.exc (T : Txt K mg A) {c : Addr} (h : IsE A c) : ExcC K c := by
  rcases h with rfl | rfl | rfl | rfl | rfl
  · exact T.ec_OutOfRange
  · exact T.ec_Malformed
  · exact T.ec_NotThere
  · exact T.ec_Refused
  · exact T.ec_TooMuch
theorem Txt.kit_OutOfRange (T : Txt K mg A) {c : Addr} (h : IsE A c) : PySem.W.kitOne K (.ref c) (.ref A.OutOfRange) = some (decide (c = A.OutOfRange)) := by
  rcases h with rfl | rfl | rfl | rfl | rfl
  · rw [decide_eq_true rfl]; exact kit_own T.e_OutOfRange.i T.e_OutOfRange.t T.sub_OutOfRange_OutOfRange fun _ => rfl
  · rw [decide_eq_false T.ne_Malformed_OutOfRange]; exact kit_own T.e_OutOfRange.i T.e_OutOfRange.t T.sub_Malformed_OutOfRange fun e => absurd e T.ne_Malformed_OutOfRange
  · rw [decide_eq_false T.ne_NotThere_OutOfRange]; exact kit_own T.e_OutOfRange.i T.e_OutOfRange.t T.sub_NotThere_OutOfRange fun e => absurd e T.ne_NotThere_OutOfRange
  · rw [decide_eq_false T.ne_Refused_OutOfRange]; exact kit_own T.e_OutOfRange.i T.e_OutOfRange.t T.sub_Refused_OutOfRange fun e => absurd e T.ne_Refused_OutOfRange
  · rw [decide_eq_false T.ne_TooMuch_OutOfRange]; exact kit_own T.e_OutOfRange.i T.e_OutOfRange.t T.sub_TooMuch_OutOfRange fun e => absurd e T.ne_TooMuch_OutOfRange
theorem Txt.kit_Malformed (T : Txt K mg A) {c : Addr} (h : IsE A c) : PySem.W.kitOne K (.ref c) (.ref A.Malformed) = some (decide (c = A.Malformed)) := by
  rcases h with rfl | rfl | rfl | rfl | rfl
  · rw [decide_eq_false T.ne_OutOfRange_Malformed]; exact kit_own T.e_Malformed.i T.e_Malformed.t T.sub_OutOfRange_Malformed fun e => absurd e T.ne_OutOfRange_Malformed
  · rw [decide_eq_true rfl]; exact kit_own T.e_Malformed.i T.e_Malformed.t T.sub_Malformed_Malformed fun _ => rfl
  · rw [decide_eq_false T.ne_NotThere_Malformed]; exact kit_own T.e_Malformed.i T.e_Malformed.t T.sub_NotThere_Malformed fun e => absurd e T.ne_NotThere_Malformed
  · rw [decide_eq_false T.ne_Refused_Malformed]; exact kit_own T.e_Malformed.i T.e_Malformed.t T.sub_Refused_Malformed fun e => absurd e T.ne_Refused_Malformed
  · rw [decide_eq_false T.ne_TooMuch_Malformed]; exact kit_own T.e_Malformed.i T.e_Malformed.t T.sub_TooMuch_Malformed fun e => absurd e T.ne_TooMuch_Malformed
theorem Txt.kit_NotThere (T : Txt K mg A) {c : Addr} (h : IsE A c) : PySem.W.kitOne K (.ref c) (.ref A.NotThere) = some (decide (c = A.NotThere)) := by
  rcases h with rfl | rfl | rfl | rfl | rfl
  · rw [decide_eq_false T.ne_OutOfRange_NotThere]; exact kit_own T.e_NotThere.i T.e_NotThere.t T.sub_OutOfRange_NotThere fun e => absurd e T.ne_OutOfRange_NotThere
  · rw [decide_eq_false T.ne_Malformed_NotThere]; exact kit_own T.e_NotThere.i T.e_NotThere.t T.sub_Malformed_NotThere fun e => absurd e T.ne_Malformed_NotThere
  · rw [decide_eq_true rfl]; exact kit_own T.e_NotThere.i T.e_NotThere.t T.sub_NotThere_NotThere fun _ => rfl
  · rw [decide_eq_false T.ne_Refused_NotThere]; exact kit_own T.e_NotThere.i T.e_NotThere.t T.sub_Refused_NotThere fun e => absurd e T.ne_Refused_NotThere
  · rw [decide_eq_false T.ne_TooMuch_NotThere]; exact kit_own T.e_NotThere.i T.e_NotThere.t T.sub_TooMuch_NotThere fun e => absurd e T.ne_TooMuch_NotThere
theorem Txt.kit_Refused (T : Txt K mg A) {c : Addr} (h : IsE A c) : PySem.W.kitOne K (.ref c) (.ref A.Refused) = some (decide (c = A.Refused)) := by
  rcases h with rfl | rfl | rfl | rfl | rfl
  · rw [decide_eq_false T.ne_OutOfRange_Refused]; exact kit_own T.e_Refused.i T.e_Refused.t T.sub_OutOfRange_Refused fun e => absurd e T.ne_OutOfRange_Refused
  · rw [decide_eq_false T.ne_Malformed_Refused]; exact kit_own T.e_Refused.i T.e_Refused.t T.sub_Malformed_Refused fun e => absurd e T.ne_Malformed_Refused
  · rw [decide_eq_false T.ne_NotThere_Refused]; exact kit_own T.e_Refused.i T.e_Refused.t T.sub_NotThere_Refused fun e => absurd e T.ne_NotThere_Refused
  · rw [decide_eq_true rfl]; exact kit_own T.e_Refused.i T.e_Refused.t T.sub_Refused_Refused fun _ => rfl
  · rw [decide_eq_false T.ne_TooMuch_Refused]; exact kit_own T.e_Refused.i T.e_Refused.t T.sub_TooMuch_Refused fun e => absurd e T.ne_TooMuch_Refused
theorem Txt.kit_TooMuch (T : Txt K mg A) {c : Addr} (h : IsE A c) : PySem.W.kitOne K (.ref c) (.ref A.TooMuch) = some (decide (c = A.TooMuch)) := by
  rcases h with rfl | rfl | rfl | rfl | rfl
  · rw [decide_eq_false T.ne_OutOfRange_TooMuch]; exact kit_own T.e_TooMuch.i T.e_TooMuch.t T.sub_OutOfRange_TooMuch fun e => absurd e T.ne_OutOfRange_TooMuch
  · rw [decide_eq_false T.ne_Malformed_TooMuch]; exact kit_own T.e_TooMuch.i T.e_TooMuch.t T.sub_Malformed_TooMuch fun e => absurd e T.ne_Malformed_TooMuch
  · rw [decide_eq_false T.ne_NotThere_TooMuch]; exact kit_own T.e_TooMuch.i T.e_TooMuch.t T.sub_NotThere_TooMuch fun e => absurd e T.ne_NotThere_TooMuch
  · rw [decide_eq_false T.ne_Refused_TooMuch]; exact kit_own T.e_TooMuch.i T.e_TooMuch.t T.sub_Refused_TooMuch fun e => absurd e T.ne_Refused_TooMuch
  · rw [decide_eq_true rfl]; exact kit_own T.e_TooMuch.i T.e_TooMuch.t T.sub_TooMuch_TooMuch fun _ => rfl
theorem Txt.hits (T : Txt K mg A) (c : Addr) (b : Bool) (h : hit A c = some b) : PySem.W.exmOne K (.ref c) (.ref A.PathError) = some b := by
  unfold hit at h
  split at h
  · rename_i hc
    cases h
    refine exm_own T.e_PathError.b T.e_PathError.i T.e_PathError.t ?_
    rcases hc with rfl | rfl | rfl | rfl | rfl
    · exact T.sp_OutOfRange
    · exact T.sp_Malformed
    · exact T.sp_NotThere
    · exact T.sp_Refused
    · exact T.sp_TooMuch
  · cases h
theorem wd_isE {c : Addr} (h : (wd A c).isSome = true) : IsE A c := by
  unfold wd at h
  unfold IsE
  split at h
  · exact .inl ‹_›
  split at h
  · exact .inr (.inl ‹_›)
  split at h
  · exact .inr (.inr (.inl ‹_›))
  split at h
  · exact .inr (.inr (.inr (.inl ‹_›)))
  split at h
  · exact .inr (.inr (.inr (.inr ‹_›)))
  · cases h
end
def N_is_number : List Str := ["value", "least", "most"]
theorem sc_is_number : FnScope N_is_number ["value", "least", "most"] (defScope t_is_number) := ⟨rfl, rfl, rfl, by decide +kernel, rfl, by decide +kernel, by decide +kernel⟩
noncomputable def s_is_number (A : Adr) : SM := (sRet (eAnd (eCall cIsi (aCons (eVar 0) (aCons (eC (.ty "int")) aNil))) (eAnd (eNot (eCall cIsi (aCons (eVar 0) (aCons (eC (.ty "bool")) aNil)))) (eChain gLe gLe (eVar 1) (eVar 0) (eVar 2)))))
noncomputable def f_is_number (A : Adr) : FM := runB N_is_number.length (s_is_number A)
theorem ok_is_number {P : Program} {w : World} {K : PySem.W.Frag} {mg : Str → Option Value} {base : Heap} {A : Adr} {a : Addr} {fd : FuncData} (T : Txt K mg A) (F : Fun K "is_number" "is_number" t_is_number a fd) : FnD P w K mg base 1 a fd ["value", "least", "most"] (f_is_number A) := by
  have h : FnD P w K mg base (0 + 1) a fd ["value", "least", "most"] (runB N_is_number.length (s_is_number A)) := by
    apply fnd_of F sc_is_number
    intro cdv A' outer s H E hr
    exact ⟨_, (by exact psd_one (by exact psd_ret (by exact ped_and (by exact ped_callB call_isi adc_isi rfl T.n_isinstance boot_isinstance (by exact pad_cons (pvd 0) (by exact pad_cons (by exact ped_ty (by exact rfl) T.n_int boot_int) pad_nil))) (by exact ped_and (by exact ped_not (by exact ped_callB call_isi adc_isi rfl T.n_isinstance boot_isinstance (by exact pad_cons (pvd 0) (by exact pad_cons (by exact ped_ty (by exact rfl) T.n_bool boot_bool) pad_nil)))) (by exact ped_one (by exact ped_chain op_le ad_le op_le ad_le (pvd 1) (pvd 0) (pvd 2)))))))⟩
  exact h
def N_place_of : List Str := ["kind", "field", "place", "name", "_"]
theorem sc_place_of : FnScope N_place_of ["kind", "field"] (defScope t_place_of) := ⟨rfl, rfl, rfl, by decide +kernel, rfl, by decide +kernel, by decide +kernel⟩
noncomputable def s_place_of_0 (A : Adr) : SM := (sIf (eTest (eBin gEq (eVar 3) (eVar 1))) (sRet (eVar 2)) sNx)
noncomputable def s_place_of (A : Adr) : SM := (sSeq (sFor (iEnumM (aCons (eVar 0) aNil)) (gTupM 2 (gsCons (gSet 2) (gsCons (gTupM 2 (gsCons (gSet 3) (gsCons (gSet 4) gsNil))) gsNil))) (s_place_of_0 A))
 (sRet (eC .non)))
noncomputable def f_place_of (A : Adr) : FM := runB N_place_of.length (s_place_of A)
theorem ok_place_of {P : Program} {w : World} {K : PySem.W.Frag} {mg : Str → Option Value} {base : Heap} {A : Adr} {a : Addr} {fd : FuncData} (T : Txt K mg A) (F : Fun K "place_of" "place_of" t_place_of a fd) : FnD P w K mg base 1 a fd ["kind", "field"] (f_place_of A) := by
  have h : FnD P w K mg base (0 + 1) a fd ["kind", "field"] (runB N_place_of.length (s_place_of A)) := by
    apply fnd_of F sc_place_of
    intro cdv A' outer s H E hr
    exact ⟨_, (by exact psd_cons (by exact psd_for (passes_of rfl) rfl (by exact pid_enum rfl T.n_enumerate (by exact pad_cons (pvd 0) pad_nil)) (by exact pgd_tup rfl (by exact pgsd_cons (by exact pgd_name (i := 2) sc_place_of.nd rfl (Or.inl rfl)) (by exact pgsd_cons (by exact pgd_tup rfl (by exact pgsd_cons (by exact pgd_name (i := 3) sc_place_of.nd rfl (Or.inl rfl)) (by exact pgsd_cons (by exact pgd_name (i := 4) sc_place_of.nd rfl (Or.inl rfl)) pgsd_nil)) rfl rfl (ner_cons ner_set (ner_cons ner_set ner_nil))) pgsd_nil)) rfl rfl (ner_cons ner_set (ner_cons (ner_tup (ner_cons ner_set (ner_cons ner_set ner_nil))) ner_nil))) (by exact psd_one (by exact psd_if (by exact ptd_cmp (by exact op_eqD (room64 hr)) (by exact ad_eq) (pvd 3) (pvd 1) (by exact nomark _)) (by exact psd_one (by exact psd_ret (pvd 2))) psd_nil))) (by exact psd_one (by exact psd_ret ped_non)))⟩
  exact h
def N_value_in : List Str := ["kind", "packet", "field"]
theorem sc_value_in : FnScope N_value_in ["kind", "packet", "field"] (defScope t_value_in) := ⟨rfl, rfl, rfl, by decide +kernel, rfl, by decide +kernel, by decide +kernel⟩
noncomputable def s_value_in (A : Adr) : SM := (sRet (eBin gIx (eVar 1) (eFn 2 (f_place_of A) (aCons (eVar 0) (aCons (eVar 2) aNil)))))
noncomputable def f_value_in (A : Adr) : FM := runB N_value_in.length (s_value_in A)
theorem ok_value_in {P : Program} {w : World} {K : PySem.W.Frag} {mg : Str → Option Value} {base : Heap} {A : Adr} {a a_place_of : Addr} {fd fd_place_of : FuncData} (T : Txt K mg A) (F : Fun K "value_in" "value_in" t_value_in a fd) (D_place_of : DOk P w K mg base "place_of" 1 a_place_of fd_place_of ["kind", "field"] (f_place_of A)) : FnD P w K mg base 2 a fd ["kind", "packet", "field"] (f_value_in A) := by
  have h : FnD P w K mg base (1 + 1) a fd ["kind", "packet", "field"] (runB N_value_in.length (s_value_in A)) := by
    apply fnd_of F sc_value_in
    intro cdv A' outer s H E hr
    have HR_place_of : Room 1 _ := hr.mono (by decide)
    exact ⟨_, (by exact psd_one (by exact psd_ret (by exact ped_ix (pvd 1) (by exact ped_fn (ps := ["kind", "field"]) (by exact D_place_of.F) (by exact HR_place_of) (by exact L2N.takes_of rfl rfl rfl rfl) (by exact rfl) (by exact D_place_of.g) (by exact D_place_of.k) (by exact D_place_of.b) (by exact pad_cons (pvd 0) (by exact pad_cons (pvd 2) pad_nil))))))⟩
  exact h
def N_end_of : List Str := ["kind", "packet"]
theorem sc_end_of : FnScope N_end_of ["kind", "packet"] (defScope t_end_of) := ⟨rfl, rfl, rfl, by decide +kernel, rfl, by decide +kernel, by decide +kernel⟩
noncomputable def s_end_of (A : Adr) : SM := (sRet (eTup (aCons (eFn 3 (f_value_in A) (aCons (eVar 0) (aCons (eVar 1) (aCons (eC (.str "sw")) aNil)))) (aCons (eFn 3 (f_value_in A) (aCons (eVar 0) (aCons (eVar 1) (aCons (eC (.str "pt")) aNil)))) aNil))))
noncomputable def f_end_of (A : Adr) : FM := runB N_end_of.length (s_end_of A)
theorem ok_end_of {P : Program} {w : World} {K : PySem.W.Frag} {mg : Str → Option Value} {base : Heap} {A : Adr} {a a_value_in : Addr} {fd fd_value_in : FuncData} (T : Txt K mg A) (F : Fun K "end_of" "end_of" t_end_of a fd) (D_value_in : DOk P w K mg base "value_in" 2 a_value_in fd_value_in ["kind", "packet", "field"] (f_value_in A)) : FnD P w K mg base 3 a fd ["kind", "packet"] (f_end_of A) := by
  have h : FnD P w K mg base (2 + 1) a fd ["kind", "packet"] (runB N_end_of.length (s_end_of A)) := by
    apply fnd_of F sc_end_of
    intro cdv A' outer s H E hr
    have HR_value_in : Room 2 _ := hr.mono (by decide)
    obtain ⟨_, C_SWITCH⟩ := T.c_SWITCH
    obtain ⟨_, C_PORT⟩ := T.c_PORT
    exact ⟨_, (by exact psd_one (by exact psd_ret (by exact ped_tup (by exact pad_cons (by exact ped_fn (ps := ["kind", "packet", "field"]) (by exact D_value_in.F) (by exact HR_value_in) (by exact L2N.takes_of rfl rfl rfl rfl) (by exact rfl) (by exact D_value_in.g) (by exact D_value_in.k) (by exact D_value_in.b) (by exact pad_cons (pvd 0) (by exact pad_cons (pvd 1) (by exact pad_cons (by exact ped_gstr (by exact rfl) C_SWITCH) pad_nil)))) (by exact pad_cons (by exact ped_fn (ps := ["kind", "packet", "field"]) (by exact D_value_in.F) (by exact HR_value_in) (by exact L2N.takes_of rfl rfl rfl rfl) (by exact rfl) (by exact D_value_in.g) (by exact D_value_in.k) (by exact D_value_in.b) (by exact pad_cons (pvd 0) (by exact pad_cons (pvd 1) (by exact pad_cons (by exact ped_gstr (by exact rfl) C_PORT) pad_nil)))) pad_nil)))))⟩
  exact h
def N_Queue_init : List Str := ["self", "order", "room"]
theorem sc_Queue_init : FnScope N_Queue_init ["self", "order", "room"] (defScope t_Queue_init) := ⟨rfl, rfl, rfl, by decide +kernel, rfl, by decide +kernel, by decide +kernel⟩
noncomputable def s_Queue_init (A : Adr) : SM := (sSeq (sIf (bOr (eTest (eBin gNotIn (eVar 1) (eC (.tup k_ORDERS)))) (bAnd (eTest (eBin gNotN (eVar 2) (eC .non))) (bNot (eTru (eFn 3 (f_is_number A) (aCons (eVar 2) (aCons (eC (.int 0)) (aCons (eC (.int 1000)) aNil)))))))) (sRaise A.Malformed) sNx)
 (sSeq (sFldM A.Queue "order" (eVar 1) (eVar 0))
 (sSeq (sFldM A.Queue "room" (eVar 2) (eVar 0))
 (sSeq (sFldM A.Queue "things" (eNew aNil) (eVar 0))
 (sFldM A.Queue "gone" (eC (.int 0)) (eVar 0))))))
noncomputable def f_Queue_init (A : Adr) : FM := runB N_Queue_init.length (s_Queue_init A)
theorem ok_Queue_init {P : Program} {w : World} {K : PySem.W.Frag} {mg : Str → Option Value} {base : Heap} {A : Adr} {a a_is_number : Addr} {fd fd_is_number : FuncData} (T : Txt K mg A) (F : Fun K "__init__" "Queue.__init__" t_Queue_init a fd) (D_is_number : DOk P w K mg base "is_number" 1 a_is_number fd_is_number ["value", "least", "most"] (f_is_number A)) : FnD P w K mg base 2 a fd ["self", "order", "room"] (f_Queue_init A) := by
  have h : FnD P w K mg base (1 + 1) a fd ["self", "order", "room"] (runB N_Queue_init.length (s_Queue_init A)) := by
    apply fnd_of F sc_Queue_init
    intro cdv A' outer s H E hr
    have HR_is_number : Room 1 _ := hr.mono (by decide)
    obtain ⟨_, C_MOST_ROOM⟩ := T.c_MOST_ROOM
    obtain ⟨_, C_ORDERS, S_ORDERS⟩ := T.c_ORDERS
    exact ⟨_, (by exact psd_cons (by exact psd_if (by exact PWD.pt (by exact pwd_or (by exact ptd_cmp (by exact opd_notIn (room65 hr)) (by exact ad_notIn) (pvd 1) (by exact ped_gtup (by exact rfl) C_ORDERS S_ORDERS (by intro _ _; unfold v_ORDERS k_ORDERS; repeat' constructor)) rfl) (by exact pwd_or1 (by exact PWD.pt (by exact pwd_and (by exact ptd_cmp op_notN ad_notN (pvd 2) ped_non (by exact nomark _)) (by exact pwd_and1 (by exact ptd_not (by exact ptd_truth (by exact ped_fn (ps := ["value", "least", "most"]) (by exact D_is_number.F) (by exact HR_is_number) (by exact L2N.takes_of rfl rfl rfl rfl) (by exact rfl) (by exact D_is_number.g) (by exact D_is_number.k) (by exact D_is_number.b) (by exact pad_cons (pvd 2) (by exact pad_cons ped_int (by exact pad_cons (by exact ped_gint (by exact rfl) C_MOST_ROOM) pad_nil)))))))))))) (by exact psd_one (by exact psd_raise rfl (by exact L2N.takes_of rfl rfl rfl rfl) (L2N.pmk_own PySem.F.excBase_ValueError T.e_Malformed.xi T.e_Malformed.g T.e_Malformed.k (raises_own T.e_Malformed.b T.e_Malformed.t) (by exact rfl)))) psd_nil) (by exact psd_cons (by exact psd_fld T.cl_Queue T.no_Queue_order (pvd 0) (pvd 1)) (by exact psd_cons (by exact psd_fld T.cl_Queue T.no_Queue_room (pvd 0) (pvd 2)) (by exact psd_cons (by exact psd_fld T.cl_Queue T.no_Queue_things (pvd 0) (by exact ped_new pad_nil)) (by exact psd_one (by exact psd_fld T.cl_Queue T.no_Queue_gone (pvd 0) ped_int))))))⟩
  exact h
def N_Queue_put : List Str := ["self", "thing"]
theorem sc_Queue_put : FnScope N_Queue_put ["self", "thing"] (defScope t_Queue_put) := ⟨rfl, rfl, rfl, by decide +kernel, rfl, by decide +kernel, by decide +kernel⟩
noncomputable def s_Queue_put (A : Adr) : SM := (sSeq (sIf (bAnd (eTest (eBin gNotN (eFld A.Queue "room" (eVar 0)) (eC .non))) (eTest (eBin gGe (eCall cLen (aCons (eFld A.Queue "things" (eVar 0)) aNil)) (eFld A.Queue "room" (eVar 0))))) (sSeq (sFldAdd A.Queue "gone" (eVar 0) (eC (.int 1)))
 (sRet (eC (.bl false)))) sNx)
 (sSeq (sEx (eMeL mAppend (eFld A.Queue "things" (eVar 0)) (aCons (eVar 1) aNil)))
 (sRet (eC (.bl true)))))
noncomputable def f_Queue_put (A : Adr) : FM := runB N_Queue_put.length (s_Queue_put A)
theorem ok_Queue_put {P : Program} {w : World} {K : PySem.W.Frag} {mg : Str → Option Value} {base : Heap} {A : Adr} {a : Addr} {fd : FuncData} (T : Txt K mg A) (F : Fun K "put" "Queue.put" t_Queue_put a fd) : FnD P w K mg base 1 a fd ["self", "thing"] (f_Queue_put A) := by
  have h : FnD P w K mg base (0 + 1) a fd ["self", "thing"] (runB N_Queue_put.length (s_Queue_put A)) := by
    apply fnd_of F sc_Queue_put
    intro cdv A' outer s H E hr
    exact ⟨_, (by exact psd_cons (by exact psd_if (by exact PWD.pt (by exact pwd_and (by exact ptd_cmp op_notN ad_notN (by exact ped_fld T.cl_Queue T.no_Queue_room (pvd 0)) ped_non (by exact nomark _)) (by exact pwd_and1 (by exact ptd_cmp op_ge ad_ge (by exact ped_callB PD.cr_len adc_len rfl T.n_len boot_len (by exact pad_cons (by exact ped_fld T.cl_Queue T.no_Queue_things (pvd 0)) pad_nil)) (by exact ped_fld T.cl_Queue T.no_Queue_room (pvd 0)) (by exact nomark _))))) (by exact psd_cons (by exact psd_fldadd T.cl_Queue T.no_Queue_gone (pvd 0) ped_int) (by exact psd_one (by exact psd_ret ped_bl))) psd_nil) (by exact psd_cons (by exact psd_expr (by exact ped_meL PySem.F.slot_list_append PySem.F.type_list_append mt_append adm_append (by exact ped_fld T.cl_Queue T.no_Queue_things (pvd 0)) (by exact pad_cons (pvd 1) pad_nil))) (by exact psd_one (by exact psd_ret ped_bl))))⟩
  exact h
def N_Queue_place : List Str := ["self"]
theorem sc_Queue_place : FnScope N_Queue_place ["self"] (defScope t_Queue_place) := ⟨rfl, rfl, rfl, by decide +kernel, rfl, by decide +kernel, by decide +kernel⟩
noncomputable def s_Queue_place (A : Adr) : SM := (sSeq (sIf (eTest (eBin gEq (eFld A.Queue "order" (eVar 0)) (eC (.str "first")))) (sRet (eC (.int 0))) sNx)
 (sSeq (sIf (eTest (eBin gEq (eFld A.Queue "order" (eVar 0)) (eC (.str "last")))) (sRet (eBin gSub (eCall cLen (aCons (eFld A.Queue "things" (eVar 0)) aNil)) (eC (.int 1)))) sNx)
 (sRet (eMeL mIndex (eFld A.Queue "things" (eVar 0)) (aCons (eCall cMinP (aCons (eFld A.Queue "things" (eVar 0)) aNil)) aNil)))))
noncomputable def f_Queue_place (A : Adr) : FM := runB N_Queue_place.length (s_Queue_place A)
theorem ok_Queue_place {P : Program} {w : World} {K : PySem.W.Frag} {mg : Str → Option Value} {base : Heap} {A : Adr} {a : Addr} {fd : FuncData} (T : Txt K mg A) (F : Fun K "place" "Queue.place" t_Queue_place a fd) : FnD P w K mg base 1 a fd ["self"] (f_Queue_place A) := by
  have h : FnD P w K mg base (0 + 1) a fd ["self"] (runB N_Queue_place.length (s_Queue_place A)) := by
    apply fnd_of F sc_Queue_place
    intro cdv A' outer s H E hr
    exact ⟨_, (by exact psd_cons (by exact psd_if (by exact ptd_cmp (by exact op_eqD (room64 hr)) (by exact ad_eq) (by exact ped_fld T.cl_Queue T.no_Queue_order (pvd 0)) ped_str (by exact nomark _)) (by exact psd_one (by exact psd_ret ped_int)) psd_nil) (by exact psd_cons (by exact psd_if (by exact ptd_cmp (by exact op_eqD (room64 hr)) (by exact ad_eq) (by exact ped_fld T.cl_Queue T.no_Queue_order (pvd 0)) ped_str (by exact nomark _)) (by exact psd_one (by exact psd_ret (by exact ped_op op_sub ad_sub (by exact ped_callB PD.cr_len adc_len rfl T.n_len boot_len (by exact pad_cons (by exact ped_fld T.cl_Queue T.no_Queue_things (pvd 0)) pad_nil)) ped_int))) psd_nil) (by exact psd_one (by exact psd_ret (by exact ped_meL PySem.F.slot_list_index PySem.F.type_list_index (mt_indexD (room65 hr)) adm_index (by exact ped_fld T.cl_Queue T.no_Queue_things (pvd 0)) (by exact pad_cons (by exact ped_callB (PDM.cr_minP rfl (room1 hr)) adc_minP rfl T.n_min boot_min (by exact pad_cons (by exact ped_fld T.cl_Queue T.no_Queue_things (pvd 0)) pad_nil)) pad_nil))))))⟩
  exact h
def N_Queue_take : List Str := ["self"]
theorem sc_Queue_take : FnScope N_Queue_take ["self"] (defScope t_Queue_take) := ⟨rfl, rfl, rfl, by decide +kernel, rfl, by decide +kernel, by decide +kernel⟩
noncomputable def s_Queue_take (A : Adr) : SM := (sSeq (sIf (eTest (eBin gEq (eCall cLen (aCons (eFld A.Queue "things" (eVar 0)) aNil)) (eC (.int 0)))) (sRaise A.NotThere) sNx)
 (sRet (eMeL mPopAt (eFld A.Queue "things" (eVar 0)) (aCons (eMe A.Queue "place" 1 (f_Queue_place A) (eVar 0) aNil) aNil))))
noncomputable def f_Queue_take (A : Adr) : FM := runB N_Queue_take.length (s_Queue_take A)
theorem ok_Queue_take {P : Program} {w : World} {K : PySem.W.Frag} {mg : Str → Option Value} {base : Heap} {A : Adr} {a a_Queue_place : Addr} {fd fd_Queue_place : FuncData} (T : Txt K mg A) (F : Fun K "take" "Queue.take" t_Queue_take a fd) (D_Queue_place : MOk P w K mg base A.Queue "place" 1 a_Queue_place fd_Queue_place ["self"] (f_Queue_place A)) : FnD P w K mg base 2 a fd ["self"] (f_Queue_take A) := by
  have h : FnD P w K mg base (1 + 1) a fd ["self"] (runB N_Queue_take.length (s_Queue_take A)) := by
    apply fnd_of F sc_Queue_take
    intro cdv A' outer s H E hr
    have HR_Queue_place : Room 1 _ := hr.mono (by decide)
    exact ⟨_, (by exact psd_cons (by exact psd_if (by exact ptd_cmp (by exact op_eqD (room64 hr)) (by exact ad_eq) (by exact ped_callB PD.cr_len adc_len rfl T.n_len boot_len (by exact pad_cons (by exact ped_fld T.cl_Queue T.no_Queue_things (pvd 0)) pad_nil)) ped_int (by exact nomark _)) (by exact psd_one (by exact psd_raise rfl (by exact L2N.takes_of rfl rfl rfl rfl) (L2N.pmk_own PySem.F.excBase_ValueError T.e_NotThere.xi T.e_NotThere.g T.e_NotThere.k (raises_own T.e_NotThere.b T.e_NotThere.t) (by exact rfl)))) psd_nil) (by exact psd_one (by exact psd_ret (by exact ped_meL PySem.F.slot_list_pop PySem.F.type_list_pop mt_popAt adm_popAt (by exact ped_fld T.cl_Queue T.no_Queue_things (pvd 0)) (by exact pad_cons (by exact ped_me0 (ps := ["self"]) (pvd 0) (by exact T.cl_Queue) (by exact D_Queue_place.m) (by exact D_Queue_place.F) (by exact HR_Queue_place) (by exact L2N.takes_of rfl rfl rfl rfl) (by exact D_Queue_place.b)) pad_nil)))))⟩
  exact h
def N_Queue_many : List Str := ["self"]
theorem sc_Queue_many : FnScope N_Queue_many ["self"] (defScope t_Queue_many) := ⟨rfl, rfl, rfl, by decide +kernel, rfl, by decide +kernel, by decide +kernel⟩
noncomputable def s_Queue_many (A : Adr) : SM := (sRet (eCall cLen (aCons (eFld A.Queue "things" (eVar 0)) aNil)))
noncomputable def f_Queue_many (A : Adr) : FM := runB N_Queue_many.length (s_Queue_many A)
theorem ok_Queue_many {P : Program} {w : World} {K : PySem.W.Frag} {mg : Str → Option Value} {base : Heap} {A : Adr} {a : Addr} {fd : FuncData} (T : Txt K mg A) (F : Fun K "many" "Queue.many" t_Queue_many a fd) : FnD P w K mg base 1 a fd ["self"] (f_Queue_many A) := by
  have h : FnD P w K mg base (0 + 1) a fd ["self"] (runB N_Queue_many.length (s_Queue_many A)) := by
    apply fnd_of F sc_Queue_many
    intro cdv A' outer s H E hr
    exact ⟨_, (by exact psd_one (by exact psd_ret (by exact ped_callB PD.cr_len adc_len rfl T.n_len boot_len (by exact pad_cons (by exact ped_fld T.cl_Queue T.no_Queue_things (pvd 0)) pad_nil))))⟩
  exact h
def N_Queue_waiting : List Str := ["self"]
theorem sc_Queue_waiting : FnScope N_Queue_waiting ["self"] (defScope t_Queue_waiting) := ⟨rfl, rfl, rfl, by decide +kernel, rfl, by decide +kernel, by decide +kernel⟩
noncomputable def s_Queue_waiting (A : Adr) : SM := (sRet (eCall cTuple (aCons (eFld A.Queue "things" (eVar 0)) aNil)))
noncomputable def f_Queue_waiting (A : Adr) : FM := runB N_Queue_waiting.length (s_Queue_waiting A)
theorem ok_Queue_waiting {P : Program} {w : World} {K : PySem.W.Frag} {mg : Str → Option Value} {base : Heap} {A : Adr} {a : Addr} {fd : FuncData} (T : Txt K mg A) (F : Fun K "waiting" "Queue.waiting" t_Queue_waiting a fd) : FnD P w K mg base 1 a fd ["self"] (f_Queue_waiting A) := by
  have h : FnD P w K mg base (0 + 1) a fd ["self"] (runB N_Queue_waiting.length (s_Queue_waiting A)) := by
    apply fnd_of F sc_Queue_waiting
    intro cdv A' outer s H E hr
    exact ⟨_, (by exact psd_one (by exact psd_ret (by exact ped_callTy call_tuple_of adc_tuple rfl T.n_tuple boot_tuple (by exact pad_cons (by exact ped_fld T.cl_Queue T.no_Queue_things (pvd 0)) pad_nil))))⟩
  exact h
def N_Queue_lost : List Str := ["self"]
theorem sc_Queue_lost : FnScope N_Queue_lost ["self"] (defScope t_Queue_lost) := ⟨rfl, rfl, rfl, by decide +kernel, rfl, by decide +kernel, by decide +kernel⟩
noncomputable def s_Queue_lost (A : Adr) : SM := (sRet (eFld A.Queue "gone" (eVar 0)))
noncomputable def f_Queue_lost (A : Adr) : FM := runB N_Queue_lost.length (s_Queue_lost A)
theorem ok_Queue_lost {P : Program} {w : World} {K : PySem.W.Frag} {mg : Str → Option Value} {base : Heap} {A : Adr} {a : Addr} {fd : FuncData} (T : Txt K mg A) (F : Fun K "lost" "Queue.lost" t_Queue_lost a fd) : FnD P w K mg base 1 a fd ["self"] (f_Queue_lost A) := by
  have h : FnD P w K mg base (0 + 1) a fd ["self"] (runB N_Queue_lost.length (s_Queue_lost A)) := by
    apply fnd_of F sc_Queue_lost
    intro cdv A' outer s H E hr
    exact ⟨_, (by exact psd_one (by exact psd_ret (by exact ped_fld T.cl_Queue T.no_Queue_gone (pvd 0))))⟩
  exact h
def N_Wires_init : List Str := ["self", "kind", "links", "room", "_"]
theorem sc_Wires_init : FnScope N_Wires_init ["self", "kind", "links", "room"] (defScope t_Wires_init) := ⟨rfl, rfl, rfl, by decide +kernel, rfl, by decide +kernel, by decide +kernel⟩
noncomputable def s_Wires_init (A : Adr) : SM := (sSeq (sFldM A.Wires "kind" (eVar 1) (eVar 0))
 (sSeq (sFldM A.Wires "links" (eVar 2) (eVar 0))
 (sFldM A.Wires "queues" (eCmp (iSeq (eVar 2)) [4] (gSet 4) bYes (eMk A.Queue 3 (f_Queue_init A) (aCons (eC (.str "first")) (aCons (eVar 3) aNil)))) (eVar 0))))
noncomputable def f_Wires_init (A : Adr) : FM := runB N_Wires_init.length (s_Wires_init A)
theorem ok_Wires_init {P : Program} {w : World} {K : PySem.W.Frag} {mg : Str → Option Value} {base : Heap} {A : Adr} {a a_Queue_init : Addr} {fd fd_Queue_init : FuncData} (T : Txt K mg A) (F : Fun K "__init__" "Wires.__init__" t_Wires_init a fd) (D_Queue_init : IOk P w K mg base A.Queue "Queue" 2 a_Queue_init fd_Queue_init ["self", "order", "room"] (f_Queue_init A)) : FnD P w K mg base 4 a fd ["self", "kind", "links", "room"] (f_Wires_init A) := by
  have h : FnD P w K mg base (3 + 1) a fd ["self", "kind", "links", "room"] (runB N_Wires_init.length (s_Wires_init A)) := by
    apply fnd_of F sc_Wires_init
    intro cdv A' outer s H E hr
    have HR3_Queue_init : Room (2 + 1) _ := hr.mono (by decide)
    obtain ⟨_, C_FIRST⟩ := T.c_FIRST
    exact ⟨_, (by exact psd_cons (by exact psd_fld T.cl_Wires T.no_Wires_kind (pvd 0) (pvd 1)) (by exact psd_cons (by exact psd_fld T.cl_Wires T.no_Wires_links (pvd 0) (pvd 2)) (by exact psd_one (by exact psd_fld T.cl_Wires T.no_Wires_queues (pvd 0) (by exact ped_cmpC (own := [("_", 4)]) (g := (gName 4)) rfl sc_Wires_init.nd (by exact pid_seq (pvd 2)) (blkOk_by (own := [("_", 4)]) (N := N_Wires_init) (sc := defScope t_Wires_init) (by decide +kernel)) (gown_name (by decide)) (fun _ _ _ _ _ => (by exact pgd_name (i := 4) sc_Wires_init.nd rfl (Or.inl rfl))) (fun _ _ _ _ _ => ⟨_, ptsd_nil⟩) (fun _ _ _ _ _ => ⟨_, (by exact ped_mk (ps := ["self", "order", "room"]) (by exact D_Queue_init.M) (by exact D_Queue_init.F) (by exact HR3_Queue_init) takes0N (by exact rfl) (by exact D_Queue_init.g) (by exact D_Queue_init.b) (by exact pad_cons (by exact ped_gstr (by exact rfl) C_FIRST) (by exact pad_cons (pvd 3) pad_nil)))⟩))))))⟩
  exact h
def N_Wires_wire_from : List Str := ["self", "packet", "here", "number", "link"]
theorem sc_Wires_wire_from : FnScope N_Wires_wire_from ["self", "packet"] (defScope t_Wires_wire_from) := ⟨rfl, rfl, rfl, by decide +kernel, rfl, by decide +kernel, by decide +kernel⟩
noncomputable def s_Wires_wire_from_0 (A : Adr) : SM := (sIf (eTest (eBin gEq (eCut (eVar 4) oNone (oSome (eC (.int 2)))) (eVar 2))) (sRet (eVar 3)) sNx)
noncomputable def s_Wires_wire_from (A : Adr) : SM := (sSeq (sAsg (eFn 2 (f_end_of A) (aCons (eFld A.Wires "kind" (eVar 0)) (aCons (eVar 1) aNil))) (gSet 2))
 (sSeq (sFor (iEnumM (aCons (eFld A.Wires "links" (eVar 0)) aNil)) (gTupM 2 (gsCons (gSet 3) (gsCons (gSet 4) gsNil))) (s_Wires_wire_from_0 A))
 (sRet (eC .non))))
noncomputable def f_Wires_wire_from (A : Adr) : FM := runB N_Wires_wire_from.length (s_Wires_wire_from A)
theorem ok_Wires_wire_from {P : Program} {w : World} {K : PySem.W.Frag} {mg : Str → Option Value} {base : Heap} {A : Adr} {a a_end_of : Addr} {fd fd_end_of : FuncData} (T : Txt K mg A) (F : Fun K "wire_from" "Wires.wire_from" t_Wires_wire_from a fd) (D_end_of : DOk P w K mg base "end_of" 3 a_end_of fd_end_of ["kind", "packet"] (f_end_of A)) : FnD P w K mg base 4 a fd ["self", "packet"] (f_Wires_wire_from A) := by
  have h : FnD P w K mg base (3 + 1) a fd ["self", "packet"] (runB N_Wires_wire_from.length (s_Wires_wire_from A)) := by
    apply fnd_of F sc_Wires_wire_from
    intro cdv A' outer s H E hr
    have HR_end_of : Room 3 _ := hr.mono (by decide)
    exact ⟨_, (by exact psd_cons (by exact psd_asg (by exact ped_fn (ps := ["kind", "packet"]) (by exact D_end_of.F) (by exact HR_end_of) (by exact L2N.takes_of rfl rfl rfl rfl) (by exact rfl) (by exact D_end_of.g) (by exact D_end_of.k) (by exact D_end_of.b) (by exact pad_cons (by exact ped_fld T.cl_Wires T.no_Wires_kind (pvd 0)) (by exact pad_cons (pvd 1) pad_nil))) (by exact pgd_name (i := 2) sc_Wires_wire_from.nd rfl (Or.inl rfl))) (by exact psd_cons (by exact psd_for (passes_of rfl) rfl (by exact pid_enum rfl T.n_enumerate (by exact pad_cons (by exact ped_fld T.cl_Wires T.no_Wires_links (pvd 0)) pad_nil)) (by exact pgd_tup rfl (by exact pgsd_cons (by exact pgd_name (i := 3) sc_Wires_wire_from.nd rfl (Or.inl rfl)) (by exact pgsd_cons (by exact pgd_name (i := 4) sc_Wires_wire_from.nd rfl (Or.inl rfl)) pgsd_nil)) rfl rfl (ner_cons ner_set (ner_cons ner_set ner_nil))) (by exact psd_one (by exact psd_if (by exact ptd_cmp (by exact op_eqD (room64 hr)) (by exact ad_eq) (by exact ped_cut (pvd 4) pod_none (by exact pod_some ped_int)) (pvd 2) (by exact nomark _)) (by exact psd_one (by exact psd_ret (pvd 3))) psd_nil))) (by exact psd_one (by exact psd_ret ped_non))))⟩
  exact h
def N_Wires_queue : List Str := ["self", "number"]
theorem sc_Wires_queue : FnScope N_Wires_queue ["self", "number"] (defScope t_Wires_queue) := ⟨rfl, rfl, rfl, by decide +kernel, rfl, by decide +kernel, by decide +kernel⟩
noncomputable def s_Wires_queue (A : Adr) : SM := (sSeq (sIf (bNot (eTru (eFn 3 (f_is_number A) (aCons (eVar 1) (aCons (eC (.int 0)) (aCons (eBin gSub (eCall cLen (aCons (eFld A.Wires "links" (eVar 0)) aNil)) (eC (.int 1))) aNil)))))) (sRaise A.NotThere) sNx)
 (sRet (eBin gIx (eFld A.Wires "queues" (eVar 0)) (eVar 1))))
noncomputable def f_Wires_queue (A : Adr) : FM := runB N_Wires_queue.length (s_Wires_queue A)
theorem ok_Wires_queue {P : Program} {w : World} {K : PySem.W.Frag} {mg : Str → Option Value} {base : Heap} {A : Adr} {a a_is_number : Addr} {fd fd_is_number : FuncData} (T : Txt K mg A) (F : Fun K "queue" "Wires.queue" t_Wires_queue a fd) (D_is_number : DOk P w K mg base "is_number" 1 a_is_number fd_is_number ["value", "least", "most"] (f_is_number A)) : FnD P w K mg base 2 a fd ["self", "number"] (f_Wires_queue A) := by
  have h : FnD P w K mg base (1 + 1) a fd ["self", "number"] (runB N_Wires_queue.length (s_Wires_queue A)) := by
    apply fnd_of F sc_Wires_queue
    intro cdv A' outer s H E hr
    have HR_is_number : Room 1 _ := hr.mono (by decide)
    exact ⟨_, (by exact psd_cons (by exact psd_if (by exact ptd_not (by exact ptd_truth (by exact ped_fn (ps := ["value", "least", "most"]) (by exact D_is_number.F) (by exact HR_is_number) (by exact L2N.takes_of rfl rfl rfl rfl) (by exact rfl) (by exact D_is_number.g) (by exact D_is_number.k) (by exact D_is_number.b) (by exact pad_cons (pvd 1) (by exact pad_cons ped_int (by exact pad_cons (by exact ped_op op_sub ad_sub (by exact ped_callB PD.cr_len adc_len rfl T.n_len boot_len (by exact pad_cons (by exact ped_fld T.cl_Wires T.no_Wires_links (pvd 0)) pad_nil)) ped_int) pad_nil)))))) (by exact psd_one (by exact psd_raise rfl (by exact L2N.takes_of rfl rfl rfl rfl) (L2N.pmk_own PySem.F.excBase_ValueError T.e_NotThere.xi T.e_NotThere.g T.e_NotThere.k (raises_own T.e_NotThere.b T.e_NotThere.t) (by exact rfl)))) psd_nil) (by exact psd_one (by exact psd_ret (by exact ped_ix (by exact ped_fld T.cl_Wires T.no_Wires_queues (pvd 0)) (pvd 1)))))⟩
  exact h
def N_Wires_put : List Str := ["self", "number", "thing"]
theorem sc_Wires_put : FnScope N_Wires_put ["self", "number", "thing"] (defScope t_Wires_put) := ⟨rfl, rfl, rfl, by decide +kernel, rfl, by decide +kernel, by decide +kernel⟩
noncomputable def s_Wires_put (A : Adr) : SM := (sRet (eMe A.Queue "put" 2 (f_Queue_put A) (eMe A.Wires "queue" 2 (f_Wires_queue A) (eVar 0) (aCons (eVar 1) aNil)) (aCons (eVar 2) aNil)))
noncomputable def f_Wires_put (A : Adr) : FM := runB N_Wires_put.length (s_Wires_put A)
theorem ok_Wires_put {P : Program} {w : World} {K : PySem.W.Frag} {mg : Str → Option Value} {base : Heap} {A : Adr} {a a_Wires_queue a_Queue_put : Addr} {fd fd_Wires_queue fd_Queue_put : FuncData} (T : Txt K mg A) (F : Fun K "put" "Wires.put" t_Wires_put a fd) (D_Wires_queue : MOk P w K mg base A.Wires "queue" 2 a_Wires_queue fd_Wires_queue ["self", "number"] (f_Wires_queue A)) (D_Queue_put : MOk P w K mg base A.Queue "put" 1 a_Queue_put fd_Queue_put ["self", "thing"] (f_Queue_put A)) : FnD P w K mg base 3 a fd ["self", "number", "thing"] (f_Wires_put A) := by
  have h : FnD P w K mg base (2 + 1) a fd ["self", "number", "thing"] (runB N_Wires_put.length (s_Wires_put A)) := by
    apply fnd_of F sc_Wires_put
    intro cdv A' outer s H E hr
    have HR_Wires_queue : Room 2 _ := hr.mono (by decide)
    have HR_Queue_put : Room 1 _ := hr.mono (by decide)
    exact ⟨_, (by exact psd_one (by exact psd_ret (by exact ped_me (ps := ["self", "thing"]) (by exact ped_me (ps := ["self", "number"]) (pvd 0) (by exact T.cl_Wires) (by exact D_Wires_queue.m) (by exact D_Wires_queue.F) (by exact HR_Wires_queue) (by exact L2N.takes_of rfl rfl rfl rfl) (by exact D_Wires_queue.b) (by exact pad_cons (pvd 1) pad_nil)) (by exact T.cl_Queue) (by exact D_Queue_put.m) (by exact D_Queue_put.F) (by exact HR_Queue_put) (by exact L2N.takes_of rfl rfl rfl rfl) (by exact D_Queue_put.b) (by exact pad_cons (pvd 2) pad_nil))))⟩
  exact h
def N_Wires_take : List Str := ["self", "number"]
theorem sc_Wires_take : FnScope N_Wires_take ["self", "number"] (defScope t_Wires_take) := ⟨rfl, rfl, rfl, by decide +kernel, rfl, by decide +kernel, by decide +kernel⟩
noncomputable def s_Wires_take (A : Adr) : SM := (sRet (eMe A.Queue "take" 1 (f_Queue_take A) (eMe A.Wires "queue" 2 (f_Wires_queue A) (eVar 0) (aCons (eVar 1) aNil)) aNil))
noncomputable def f_Wires_take (A : Adr) : FM := runB N_Wires_take.length (s_Wires_take A)
theorem ok_Wires_take {P : Program} {w : World} {K : PySem.W.Frag} {mg : Str → Option Value} {base : Heap} {A : Adr} {a a_Wires_queue a_Queue_take : Addr} {fd fd_Wires_queue fd_Queue_take : FuncData} (T : Txt K mg A) (F : Fun K "take" "Wires.take" t_Wires_take a fd) (D_Wires_queue : MOk P w K mg base A.Wires "queue" 2 a_Wires_queue fd_Wires_queue ["self", "number"] (f_Wires_queue A)) (D_Queue_take : MOk P w K mg base A.Queue "take" 2 a_Queue_take fd_Queue_take ["self"] (f_Queue_take A)) : FnD P w K mg base 3 a fd ["self", "number"] (f_Wires_take A) := by
  have h : FnD P w K mg base (2 + 1) a fd ["self", "number"] (runB N_Wires_take.length (s_Wires_take A)) := by
    apply fnd_of F sc_Wires_take
    intro cdv A' outer s H E hr
    have HR_Wires_queue : Room 2 _ := hr.mono (by decide)
    have HR_Queue_take : Room 2 _ := hr.mono (by decide)
    exact ⟨_, (by exact psd_one (by exact psd_ret (by exact ped_me0 (ps := ["self"]) (by exact ped_me (ps := ["self", "number"]) (pvd 0) (by exact T.cl_Wires) (by exact D_Wires_queue.m) (by exact D_Wires_queue.F) (by exact HR_Wires_queue) (by exact L2N.takes_of rfl rfl rfl rfl) (by exact D_Wires_queue.b) (by exact pad_cons (pvd 1) pad_nil)) (by exact T.cl_Queue) (by exact D_Queue_take.m) (by exact D_Queue_take.F) (by exact HR_Queue_take) (by exact L2N.takes_of rfl rfl rfl rfl) (by exact D_Queue_take.b))))⟩
  exact h
def N_Wires_ready : List Str := ["self", "queue", "number"]
theorem sc_Wires_ready : FnScope N_Wires_ready ["self"] (defScope t_Wires_ready) := ⟨rfl, rfl, rfl, by decide +kernel, rfl, by decide +kernel, by decide +kernel⟩
noncomputable def s_Wires_ready (A : Adr) : SM := (sRet (eCall cTuple (aCons (eCmp (iEnumM (aCons (eFld A.Wires "queues" (eVar 0)) aNil)) [2, 1] (gTupM 2 (gsCons (gSet 2) (gsCons (gSet 1) gsNil))) (eTest (eBin gGt (eMe A.Queue "many" 1 (f_Queue_many A) (eVar 1) aNil) (eC (.int 0)))) (eVar 2)) aNil)))
noncomputable def f_Wires_ready (A : Adr) : FM := runB N_Wires_ready.length (s_Wires_ready A)
theorem ok_Wires_ready {P : Program} {w : World} {K : PySem.W.Frag} {mg : Str → Option Value} {base : Heap} {A : Adr} {a a_Queue_many : Addr} {fd fd_Queue_many : FuncData} (T : Txt K mg A) (F : Fun K "ready" "Wires.ready" t_Wires_ready a fd) (D_Queue_many : MOk P w K mg base A.Queue "many" 1 a_Queue_many fd_Queue_many ["self"] (f_Queue_many A)) : FnD P w K mg base 2 a fd ["self"] (f_Wires_ready A) := by
  have h : FnD P w K mg base (1 + 1) a fd ["self"] (runB N_Wires_ready.length (s_Wires_ready A)) := by
    apply fnd_of F sc_Wires_ready
    intro cdv A' outer s H E hr
    have HR_Queue_many : Room 1 _ := hr.mono (by decide)
    exact ⟨_, (by exact psd_one (by exact psd_ret (by exact ped_callTy call_tuple_of adc_tuple rfl T.n_tuple boot_tuple (by exact pad_cons (by exact ped_cmpC (own := [("number", 2), ("queue", 1)]) (g := (gTup K 2 (gCons (gName 2) (gCons (gName 1) gNil)))) rfl sc_Wires_ready.nd (by exact pid_enum rfl T.n_enumerate (by exact pad_cons (by exact ped_fld T.cl_Wires T.no_Wires_queues (pvd 0)) pad_nil)) (blkOk_by (own := [("number", 2), ("queue", 1)]) (N := N_Wires_ready) (sc := defScope t_Wires_ready) (by decide +kernel)) (GOw.own (gow_tup (gsow_cons (gow_name (by decide)) gmono_name (gsow_cons (gow_name (by decide)) gmono_name gsow_nil)))) (fun _ _ _ _ _ => (by exact pgd_tup rfl (by exact pgsd_cons (by exact pgd_name (i := 2) sc_Wires_ready.nd rfl (Or.inl rfl)) (by exact pgsd_cons (by exact pgd_name (i := 1) sc_Wires_ready.nd rfl (Or.inl rfl)) pgsd_nil)) rfl rfl (ner_cons ner_set (ner_cons ner_set ner_nil)))) (fun _ _ _ _ _ => ⟨_, (by exact ptsd_one (by exact ptd_cmp op_gt ad_gt (by exact ped_me0 (ps := ["self"]) (pvd 1) (by exact T.cl_Queue) (by exact D_Queue_many.m) (by exact D_Queue_many.F) (by exact HR_Queue_many) takes0N (by exact D_Queue_many.b)) ped_int (by exact nomark _)))⟩) (fun _ _ _ _ _ => ⟨_, (pvd 2)⟩)) pad_nil))))⟩
  exact h
def N_Wires_things : List Str := ["self", "found", "queue"]
theorem sc_Wires_things : FnScope N_Wires_things ["self"] (defScope t_Wires_things) := ⟨rfl, rfl, rfl, by decide +kernel, rfl, by decide +kernel, by decide +kernel⟩
noncomputable def s_Wires_things_0 (A : Adr) : SM := (sExt 1 (eMe A.Queue "waiting" 1 (f_Queue_waiting A) (eVar 2) aNil))
noncomputable def s_Wires_things (A : Adr) : SM := (sSeq (sAsg (eNew aNil) (gSet 1))
 (sSeq (sFor (iSeq (eFld A.Wires "queues" (eVar 0))) (gSet 2) (s_Wires_things_0 A))
 (sRet (eVar 1))))
noncomputable def f_Wires_things (A : Adr) : FM := runB N_Wires_things.length (s_Wires_things A)
theorem ok_Wires_things {P : Program} {w : World} {K : PySem.W.Frag} {mg : Str → Option Value} {base : Heap} {A : Adr} {a a_Queue_waiting : Addr} {fd fd_Queue_waiting : FuncData} (T : Txt K mg A) (F : Fun K "things" "Wires.things" t_Wires_things a fd) (D_Queue_waiting : MOk P w K mg base A.Queue "waiting" 1 a_Queue_waiting fd_Queue_waiting ["self"] (f_Queue_waiting A)) : FnD P w K mg base 2 a fd ["self"] (f_Wires_things A) := by
  have h : FnD P w K mg base (1 + 1) a fd ["self"] (runB N_Wires_things.length (s_Wires_things A)) := by
    apply fnd_of F sc_Wires_things
    intro cdv A' outer s H E hr
    have HR_Queue_waiting : Room 1 _ := hr.mono (by decide)
    exact ⟨_, (by exact psd_cons (by exact psd_asg (by exact ped_new pad_nil) (by exact pgd_name (i := 1) sc_Wires_things.nd rfl (Or.inl rfl))) (by exact psd_cons (by exact psd_for (passes_of rfl) rfl (by exact pid_seq (by exact ped_fld T.cl_Wires T.no_Wires_queues (pvd 0))) (by exact pgd_name (i := 2) sc_Wires_things.nd rfl (Or.inl rfl)) (by exact psd_one (by exact psd_ext (i := 1) sc_Wires_things.nd rfl (Or.inl rfl) (by exact ped_me0 (ps := ["self"]) (pvd 2) (by exact T.cl_Queue) (by exact D_Queue_waiting.m) (by exact D_Queue_waiting.F) (by exact HR_Queue_waiting) (by exact L2N.takes_of rfl rfl rfl rfl) (by exact D_Queue_waiting.b))))) (by exact psd_one (by exact psd_ret (pvd 1)))))⟩
  exact h
def N_Wires_lost : List Str := ["self", "queue"]
theorem sc_Wires_lost : FnScope N_Wires_lost ["self"] (defScope t_Wires_lost) := ⟨rfl, rfl, rfl, by decide +kernel, rfl, by decide +kernel, by decide +kernel⟩
noncomputable def s_Wires_lost (A : Adr) : SM := (sRet (eCall cSum (aCons (eCmp (iSeq (eFld A.Wires "queues" (eVar 0))) [1] (gSet 1) bYes (eMe A.Queue "lost" 1 (f_Queue_lost A) (eVar 1) aNil)) aNil)))
noncomputable def f_Wires_lost (A : Adr) : FM := runB N_Wires_lost.length (s_Wires_lost A)
theorem ok_Wires_lost {P : Program} {w : World} {K : PySem.W.Frag} {mg : Str → Option Value} {base : Heap} {A : Adr} {a a_Queue_lost : Addr} {fd fd_Queue_lost : FuncData} (T : Txt K mg A) (F : Fun K "lost" "Wires.lost" t_Wires_lost a fd) (D_Queue_lost : MOk P w K mg base A.Queue "lost" 1 a_Queue_lost fd_Queue_lost ["self"] (f_Queue_lost A)) : FnD P w K mg base 2 a fd ["self"] (f_Wires_lost A) := by
  have h : FnD P w K mg base (1 + 1) a fd ["self"] (runB N_Wires_lost.length (s_Wires_lost A)) := by
    apply fnd_of F sc_Wires_lost
    intro cdv A' outer s H E hr
    have HR_Queue_lost : Room 1 _ := hr.mono (by decide)
    exact ⟨_, (by exact psd_one (by exact psd_ret (by exact ped_callB (cr_sum rfl) adc_sum rfl T.n_sum boot_sum (by exact pad_cons (by exact ped_cmpC (own := [("queue", 1)]) (g := (gName 1)) rfl sc_Wires_lost.nd (by exact pid_seq (by exact ped_fld T.cl_Wires T.no_Wires_queues (pvd 0))) (blkOk_by (own := [("queue", 1)]) (N := N_Wires_lost) (sc := defScope t_Wires_lost) (by decide +kernel)) (gown_name (by decide)) (fun _ _ _ _ _ => (by exact pgd_name (i := 1) sc_Wires_lost.nd rfl (Or.inl rfl))) (fun _ _ _ _ _ => ⟨_, ptsd_nil⟩) (fun _ _ _ _ _ => ⟨_, (by exact ped_me0 (ps := ["self"]) (pvd 1) (by exact T.cl_Queue) (by exact D_Queue_lost.m) (by exact D_Queue_lost.F) (by exact HR_Queue_lost) takes0N (by exact D_Queue_lost.b))⟩)) pad_nil))))⟩
  exact h
def N_law_draws : List Str := ["script", "draws", "cell", "number", "first", "k", "seed"]
theorem sc_law_draws : FnScope N_law_draws ["script"] (defScope t_law_draws) := ⟨rfl, rfl, rfl, by decide +kernel, rfl, by decide +kernel, by decide +kernel⟩
noncomputable def s_law_draws_0 (A : Adr) : SM := (sSeq (sAsg (eBin gMod (eCall cInt (aCons (eBin gAdd (eBin gMul (eVar 6) (eC (.int 48271))) (eC (.int 69621))) aNil)) (eC (.int 2147483647))) (gSet 6))
 (sEx (eMeL mAppend (eVar 1) (aCons (eBin gDiv (eVar 6) (eC (.int 5))) aNil))))
noncomputable def s_law_draws_1 (A : Adr) : SM := (sIf (eTest (eBin gGt (eVar 3) (eC (.int 0)))) (sSeq (sEx (eMeL mAppend (eVar 1) (aCons (eBin gMod (eCall cInt (aCons (eVar 3) aNil)) (eC (.int 997))) aNil)))
 (sAsg (eBin gDiv (eVar 3) (eC (.int 997))) (gSet 3))) sNx)
noncomputable def s_law_draws_2 (A : Adr) : SM := (sSeq (sAsg (eCall cAbs (aCons (eVar 2) aNil)) (gSet 3))
 (sSeq (sIf (eTest (eBin gLt (eVar 3) (eBin gPow (eC (.int 10)) (eC (.int 18))))) (sSeq (sAsg (eBin gMod (eCall cInt (aCons (eBin gAdd (eBin gMul (eVar 3) (eC (.int 48271))) (eC (.int 11))) aNil)) (eC (.int 2147483647))) (gSet 4))
 (sSeq (sEx (eMeL mAppend (eVar 1) (aCons (eBin gMod (eCall cInt (aCons (eBin gAdd (eBin gMul (eVar 4) (eC (.int 69621))) (eVar 3)) aNil)) (eC (.int 2147483629))) aNil)))
 (sSeq (sEx (eMeL mAppend (eVar 1) (aCons (eBin gMod (eCall cInt (aCons (eBin gAdd (eVar 4) (eBin gDiv (eVar 3) (eC (.int 7)))) aNil)) (eC (.int 1000003))) aNil)))
 (sAsg (eC (.int 0)) (gSet 3))))) sNx)
 (sFor (iRngA (aCons (eC (.int 60)) aNil)) (gSet 5) (s_law_draws_1 A))))
noncomputable def s_law_draws (A : Adr) : SM := (sSeq (sAsg (eNew aNil) (gSet 1))
 (sSeq (sFor (iSeq (eVar 0)) (gSet 2) (s_law_draws_2 A))
 (sSeq (sAsg (eC (.int 1)) (gSet 6))
 (sSeq (sIf (eTest (eBin gGt (eCall cLen (aCons (eVar 0) aNil)) (eC (.int 0)))) (sAsg (eBin gAdd (eC (.int 1)) (eCall cAbs (aCons (eBin gIx (eVar 0) (eC (.int 0))) aNil))) (gSet 6)) sNx)
 (sSeq (sFor (iRngA (aCons (eC (.int 900)) aNil)) (gSet 5) (s_law_draws_0 A))
 (sRet (eRevM (eVar 1))))))))
noncomputable def f_law_draws (A : Adr) : FM := runB N_law_draws.length (s_law_draws A)
theorem ok_law_draws {P : Program} {w : World} {K : PySem.W.Frag} {mg : Str → Option Value} {base : Heap} {A : Adr} {a : Addr} {fd : FuncData} (T : Txt K mg A) (F : Fun K "_law_draws" "_law_draws" t_law_draws a fd) : FnD P w K mg base 1 a fd ["script"] (f_law_draws A) := by
  have h : FnD P w K mg base (0 + 1) a fd ["script"] (runB N_law_draws.length (s_law_draws A)) := by
    apply fnd_of F sc_law_draws
    intro cdv A' outer s H E hr
    exact ⟨_, (by exact psd_cons (by exact psd_asg (by exact ped_new pad_nil) (by exact pgd_name (i := 1) sc_law_draws.nd rfl (Or.inl rfl))) (by exact psd_cons (by exact psd_for (passes_of rfl) rfl (by exact pid_seq (pvd 0)) (by exact pgd_name (i := 2) sc_law_draws.nd rfl (Or.inl rfl)) (by exact psd_cons (by exact psd_asg (by exact ped_callB call_abs adc_abs rfl T.n_abs boot_abs (by exact pad_cons (pvd 2) pad_nil)) (by exact pgd_name (i := 3) sc_law_draws.nd rfl (Or.inl rfl))) (by exact psd_cons (by exact psd_if (by exact ptd_cmp op_lt ad_lt (pvd 3) (by exact ped_op op_pow ad_pow ped_int ped_int) (by exact nomark _)) (by exact psd_cons (by exact psd_asg (by exact ped_op op_mod ad_mod (by exact ped_callTy call_int1 adc_int rfl T.n_int boot_int (by exact pad_cons (by exact ped_op opd_add ad_add (by exact ped_op opd_mul ad_mul (pvd 3) ped_int) ped_int) pad_nil)) ped_int) (by exact pgd_name (i := 4) sc_law_draws.nd rfl (Or.inl rfl))) (by exact psd_cons (by exact psd_expr (by exact ped_meL PySem.F.slot_list_append PySem.F.type_list_append mt_append adm_append (pvd 1) (by exact pad_cons (by exact ped_op op_mod ad_mod (by exact ped_callTy call_int1 adc_int rfl T.n_int boot_int (by exact pad_cons (by exact ped_op opd_add ad_add (by exact ped_op opd_mul ad_mul (pvd 4) ped_int) (pvd 3)) pad_nil)) ped_int) pad_nil))) (by exact psd_cons (by exact psd_expr (by exact ped_meL PySem.F.slot_list_append PySem.F.type_list_append mt_append adm_append (pvd 1) (by exact pad_cons (by exact ped_op op_mod ad_mod (by exact ped_callTy call_int1 adc_int rfl T.n_int boot_int (by exact pad_cons (by exact ped_op opd_add ad_add (pvd 4) (by exact ped_op op_fdiv ad_div (pvd 3) ped_int)) pad_nil)) ped_int) pad_nil))) (by exact psd_one (by exact psd_asg ped_int (by exact pgd_name (i := 3) sc_law_draws.nd rfl (Or.inl rfl))))))) psd_nil) (by exact psd_one (by exact psd_for (passes_of rfl) rfl (by exact pid_rng1 rfl T.n_range (by exact pad_cons ped_int pad_nil)) (by exact pgd_name (i := 5) sc_law_draws.nd rfl (Or.inl rfl)) (by exact psd_one (by exact psd_if (by exact ptd_cmp op_gt ad_gt (pvd 3) ped_int (by exact nomark _)) (by exact psd_cons (by exact psd_expr (by exact ped_meL PySem.F.slot_list_append PySem.F.type_list_append mt_append adm_append (pvd 1) (by exact pad_cons (by exact ped_op op_mod ad_mod (by exact ped_callTy call_int1 adc_int rfl T.n_int boot_int (by exact pad_cons (pvd 3) pad_nil)) ped_int) pad_nil))) (by exact psd_one (by exact psd_asg (by exact ped_op op_fdiv ad_div (pvd 3) ped_int) (by exact pgd_name (i := 3) sc_law_draws.nd rfl (Or.inl rfl))))) psd_nil))))))) (by exact psd_cons (by exact psd_asg ped_int (by exact pgd_name (i := 6) sc_law_draws.nd rfl (Or.inl rfl))) (by exact psd_cons (by exact psd_if (by exact ptd_cmp op_gt ad_gt (by exact ped_callB PD.cr_len adc_len rfl T.n_len boot_len (by exact pad_cons (pvd 0) pad_nil)) ped_int (by exact nomark _)) (by exact psd_one (by exact psd_asg (by exact ped_op opd_add ad_add ped_int (by exact ped_callB call_abs adc_abs rfl T.n_abs boot_abs (by exact pad_cons (by exact ped_ix (pvd 0) ped_int) pad_nil))) (by exact pgd_name (i := 6) sc_law_draws.nd rfl (Or.inl rfl)))) psd_nil) (by exact psd_cons (by exact psd_for (passes_of rfl) rfl (by exact pid_rng1 rfl T.n_range (by exact pad_cons ped_int pad_nil)) (by exact pgd_name (i := 5) sc_law_draws.nd rfl (Or.inl rfl)) (by exact psd_cons (by exact psd_asg (by exact ped_op op_mod ad_mod (by exact ped_callTy call_int1 adc_int rfl T.n_int boot_int (by exact pad_cons (by exact ped_op opd_add ad_add (by exact ped_op opd_mul ad_mul (pvd 6) ped_int) ped_int) pad_nil)) ped_int) (by exact pgd_name (i := 6) sc_law_draws.nd rfl (Or.inl rfl))) (by exact psd_one (by exact psd_expr (by exact ped_meL PySem.F.slot_list_append PySem.F.type_list_append mt_append adm_append (pvd 1) (by exact pad_cons (by exact ped_op op_fdiv ad_div (pvd 6) ped_int) pad_nil)))))) (by exact psd_one (by exact psd_ret (by exact ped_revM rfl rfl T.n_list rfl T.n_reversed (pvd 1)))))))))⟩
  exact h
def N_law_take : List Str := ["draws", "bound"]
theorem sc_law_take : FnScope N_law_take ["draws", "bound"] (defScope t_law_take) := ⟨rfl, rfl, rfl, by decide +kernel, rfl, by decide +kernel, by decide +kernel⟩
noncomputable def s_law_take (A : Adr) : SM := (sSeq (sIf (eTest (eBin gEq (eCall cLen (aCons (eVar 0) aNil)) (eC (.int 0)))) (sRet (eC (.int 0))) sNx)
 (sRet (eBin gMod (eCall cInt (aCons (eMeL0 mPop (eVar 0)) aNil)) (eVar 1))))
noncomputable def f_law_take (A : Adr) : FM := runB N_law_take.length (s_law_take A)
theorem ok_law_take {P : Program} {w : World} {K : PySem.W.Frag} {mg : Str → Option Value} {base : Heap} {A : Adr} {a : Addr} {fd : FuncData} (T : Txt K mg A) (F : Fun K "_law_take" "_law_take" t_law_take a fd) : FnD P w K mg base 1 a fd ["draws", "bound"] (f_law_take A) := by
  have h : FnD P w K mg base (0 + 1) a fd ["draws", "bound"] (runB N_law_take.length (s_law_take A)) := by
    apply fnd_of F sc_law_take
    intro cdv A' outer s H E hr
    exact ⟨_, (by exact psd_cons (by exact psd_if (by exact ptd_cmp (by exact op_eqD (room64 hr)) (by exact ad_eq) (by exact ped_callB PD.cr_len adc_len rfl T.n_len boot_len (by exact pad_cons (pvd 0) pad_nil)) ped_int (by exact nomark _)) (by exact psd_one (by exact psd_ret ped_int)) psd_nil) (by exact psd_one (by exact psd_ret (by exact ped_op op_mod ad_mod (by exact ped_callTy call_int1 adc_int rfl T.n_int boot_int (by exact pad_cons (by exact ped_meL0 PySem.F.slot_list_pop PySem.F.type_list_pop mt_pop adm_pop (pvd 0)) pad_nil)) (pvd 1)))))⟩
  exact h
def N_law_alike : List Str := ["found", "due", "k"]
theorem sc_law_alike : FnScope N_law_alike ["found", "due"] (defScope t_law_alike) := ⟨rfl, rfl, rfl, by decide +kernel, rfl, by decide +kernel, by decide +kernel⟩
noncomputable def s_law_alike (A : Adr) (fr : FM) : SM := (sSeq (sIf (bOr (eTru (eCall cIsi (aCons (eVar 1) (aCons (eC (.ty "list")) aNil)))) (eTru (eCall cIsi (aCons (eVar 1) (aCons (eC (.ty "tuple")) aNil))))) (sSeq (sIf (bOr (eTest (eBin gNe (eCall cIsi (aCons (eVar 0) (aCons (eC (.ty "list")) aNil))) (eCall cIsi (aCons (eVar 1) (aCons (eC (.ty "list")) aNil))))) (eTest (eBin gNe (eCall cIsi (aCons (eVar 0) (aCons (eC (.ty "tuple")) aNil))) (eCall cIsi (aCons (eVar 1) (aCons (eC (.ty "tuple")) aNil)))))) (sRet (eC (.bl false))) sNx)
 (sRet (eAnd (eBin gEq (eCall cLen (aCons (eVar 0) aNil)) (eCall cLen (aCons (eVar 1) aNil))) (eBin gEq (eCmp (iRngA (aCons (eCall cLen (aCons (eVar 1) aNil)) aNil)) [2] (gSet 2) (bNot (eTru (eFn 2 fr (aCons (eBin gIx (eVar 0) (eVar 2)) (aCons (eBin gIx (eVar 1) (eVar 2)) aNil))))) (eVar 2)) (eLst aNil))))) sNx)
 (sSeq (sIf (eTest (eBin gIsN (eVar 1) (eC .non))) (sRet (eBin gIsN (eVar 0) (eC .non))) sNx)
 (sSeq (sIf (bOr (eTru (eCall cIsi (aCons (eVar 1) (aCons (eC (.ty "bool")) aNil)))) (eTru (eCall cIsi (aCons (eVar 0) (aCons (eC (.ty "bool")) aNil))))) (sRet (eAnd (eCall cIsi (aCons (eVar 0) (aCons (eC (.ty "bool")) aNil))) (eAnd (eCall cIsi (aCons (eVar 1) (aCons (eC (.ty "bool")) aNil))) (eBin gEq (eVar 0) (eVar 1))))) sNx)
 (sSeq (sIf (eTru (eCall cIsi (aCons (eVar 1) (aCons (eC (.ty "int")) aNil)))) (sRet (eAnd (eCall cIsi (aCons (eVar 0) (aCons (eC (.ty "int")) aNil))) (eBin gEq (eVar 0) (eVar 1)))) sNx)
 (sRet (eAnd (eCall cIsi (aCons (eVar 0) (aCons (eC (.ty "str")) aNil))) (eBin gEq (eVar 0) (eVar 1))))))))
noncomputable def fr_law_alike (A : Adr) : Nat → FM
  | 0 => fun _ _ => .no
  | n + 1 => runB N_law_alike.length (s_law_alike A (fr_law_alike A n))
noncomputable abbrev f_law_alike (A : Adr) : FM := fr_law_alike A 6
theorem ok_law_alike {P : Program} {w : World} {K : PySem.W.Frag} {mg : Str → Option Value} {base : Heap} {A : Adr} {a : Addr} {fd : FuncData} (T : Txt K mg A) (F : Fun K "_law_alike" "_law_alike" t_law_alike a fd) (hg : mg "_law_alike" = some (.ref a)) (hk : PySem.W.keepIn K (.ref a) = true) (hb : Binds K fd ["found", "due"] []) : ∀ n : Nat, FnD P w K mg base (1 + n) a fd ["found", "due"] (fr_law_alike A n) := by
  intro n
  induction n with
  | zero => exact fnd_no
  | succ n ih =>
  have Fr : DOk P w K mg base "_law_alike" (1 + n) a fd ["found", "due"] (fr_law_alike A n) := ⟨ih, hg, hk, hb⟩
  have h : FnD P w K mg base (1 + n + 1) a fd ["found", "due"] (runB N_law_alike.length (s_law_alike A (fr_law_alike A n))) := by
    apply fnd_of F sc_law_alike
    intro cdv A' outer s H E hr
    have HRr : Room (1 + n) _ := hr
    exact ⟨_, (by exact psd_cons (by exact psd_if (by exact PWD.pt (by exact pwd_or (by exact ptd_truth (by exact ped_callB call_isi adc_isi rfl T.n_isinstance boot_isinstance (by exact pad_cons (pvd 1) (by exact pad_cons (by exact ped_ty (by exact rfl) T.n_list boot_list) pad_nil)))) (by exact pwd_or1 (by exact ptd_truth (by exact ped_callB call_isi adc_isi rfl T.n_isinstance boot_isinstance (by exact pad_cons (pvd 1) (by exact pad_cons (by exact ped_ty (by exact rfl) T.n_tuple boot_tuple) pad_nil))))))) (by exact psd_cons (by exact psd_if (by exact PWD.pt (by exact pwd_or (by exact ptd_cmp (by exact op_neD (room64 hr)) (by exact ad_ne) (by exact ped_callB call_isi adc_isi rfl T.n_isinstance boot_isinstance (by exact pad_cons (pvd 0) (by exact pad_cons (by exact ped_ty (by exact rfl) T.n_list boot_list) pad_nil))) (by exact ped_callB call_isi adc_isi rfl T.n_isinstance boot_isinstance (by exact pad_cons (pvd 1) (by exact pad_cons (by exact ped_ty (by exact rfl) T.n_list boot_list) pad_nil))) (by exact nomark _)) (by exact pwd_or1 (by exact ptd_cmp (by exact op_neD (room64 hr)) (by exact ad_ne) (by exact ped_callB call_isi adc_isi rfl T.n_isinstance boot_isinstance (by exact pad_cons (pvd 0) (by exact pad_cons (by exact ped_ty (by exact rfl) T.n_tuple boot_tuple) pad_nil))) (by exact ped_callB call_isi adc_isi rfl T.n_isinstance boot_isinstance (by exact pad_cons (pvd 1) (by exact pad_cons (by exact ped_ty (by exact rfl) T.n_tuple boot_tuple) pad_nil))) (by exact nomark _))))) (by exact psd_one (by exact psd_ret ped_bl)) psd_nil) (by exact psd_one (by exact psd_ret (by exact ped_and (by exact ped_cmp (by exact op_eqD (room64 hr)) (by exact ad_eq) (by exact ped_callB PD.cr_len adc_len rfl T.n_len boot_len (by exact pad_cons (pvd 0) pad_nil)) (by exact ped_callB PD.cr_len adc_len rfl T.n_len boot_len (by exact pad_cons (pvd 1) pad_nil)) (by exact nomark _)) (by exact ped_one (by exact ped_cmp (by exact op_eqD (room64 hr)) (by exact ad_eq) (by exact ped_cmpC (own := [("k", 2)]) (g := (gName 2)) rfl sc_law_alike.nd (by exact pid_rng1 rfl T.n_range (by exact pad_cons (by exact ped_callB PD.cr_len adc_len rfl T.n_len boot_len (by exact pad_cons (pvd 1) pad_nil)) pad_nil)) (blkOk_by (own := [("k", 2)]) (N := N_law_alike) (sc := defScope t_law_alike) (by decide +kernel)) (gown_name (by decide)) (fun _ _ _ _ _ => (by exact pgd_name (i := 2) sc_law_alike.nd rfl (Or.inl rfl))) (fun _ _ _ _ _ => ⟨_, (by exact ptsd_one (by exact ptd_not (by exact ptd_truth (by exact ped_fn (ps := ["found", "due"]) (by exact Fr.F) (by exact HRr) takes0N (by exact rfl) (by exact Fr.g) (by exact Fr.k) (by exact Fr.b) (by exact pad_cons (by exact ped_ix (pvd 0) (pvd 2)) (by exact pad_cons (by exact ped_ix (pvd 1) (pvd 2)) pad_nil))))))⟩) (fun _ _ _ _ _ => ⟨_, (pvd 2)⟩)) (by exact ped_lst pad_nil) (by exact nomark _))))))) psd_nil) (by exact psd_cons (by exact psd_if (by exact ptd_cmp op_isN ad_isN (pvd 1) ped_non (by exact nomark _)) (by exact psd_one (by exact psd_ret (by exact ped_cmp op_isN ad_isN (pvd 0) ped_non (by exact nomark _)))) psd_nil) (by exact psd_cons (by exact psd_if (by exact PWD.pt (by exact pwd_or (by exact ptd_truth (by exact ped_callB call_isi adc_isi rfl T.n_isinstance boot_isinstance (by exact pad_cons (pvd 1) (by exact pad_cons (by exact ped_ty (by exact rfl) T.n_bool boot_bool) pad_nil)))) (by exact pwd_or1 (by exact ptd_truth (by exact ped_callB call_isi adc_isi rfl T.n_isinstance boot_isinstance (by exact pad_cons (pvd 0) (by exact pad_cons (by exact ped_ty (by exact rfl) T.n_bool boot_bool) pad_nil))))))) (by exact psd_one (by exact psd_ret (by exact ped_and (by exact ped_callB call_isi adc_isi rfl T.n_isinstance boot_isinstance (by exact pad_cons (pvd 0) (by exact pad_cons (by exact ped_ty (by exact rfl) T.n_bool boot_bool) pad_nil))) (by exact ped_and (by exact ped_callB call_isi adc_isi rfl T.n_isinstance boot_isinstance (by exact pad_cons (pvd 1) (by exact pad_cons (by exact ped_ty (by exact rfl) T.n_bool boot_bool) pad_nil))) (by exact ped_one (by exact ped_cmp (by exact op_eqD (room64 hr)) (by exact ad_eq) (pvd 0) (pvd 1) (by exact nomark _))))))) psd_nil) (by exact psd_cons (by exact psd_if (by exact ptd_truth (by exact ped_callB call_isi adc_isi rfl T.n_isinstance boot_isinstance (by exact pad_cons (pvd 1) (by exact pad_cons (by exact ped_ty (by exact rfl) T.n_int boot_int) pad_nil)))) (by exact psd_one (by exact psd_ret (by exact ped_and (by exact ped_callB call_isi adc_isi rfl T.n_isinstance boot_isinstance (by exact pad_cons (pvd 0) (by exact pad_cons (by exact ped_ty (by exact rfl) T.n_int boot_int) pad_nil))) (by exact ped_one (by exact ped_cmp (by exact op_eqD (room64 hr)) (by exact ad_eq) (pvd 0) (pvd 1) (by exact nomark _)))))) psd_nil) (by exact psd_one (by exact psd_ret (by exact ped_and (by exact ped_callB call_isi adc_isi rfl T.n_isinstance boot_isinstance (by exact pad_cons (pvd 0) (by exact pad_cons (by exact ped_ty (by exact rfl) T.n_str boot_str) pad_nil))) (by exact ped_one (by exact ped_cmp (by exact op_eqD (room64 hr)) (by exact ad_eq) (pvd 0) (pvd 1) (by exact nomark _))))))))))⟩
  exact h
def N_law_says : List Str := ["heard", "due"]
theorem sc_law_says : FnScope N_law_says ["heard", "due"] (defScope t_law_says) := ⟨rfl, rfl, rfl, by decide +kernel, rfl, by decide +kernel, by decide +kernel⟩
noncomputable def s_law_says (A : Adr) : SM := (sRet (eAnd (eCall cIsi (aCons (eVar 0) (aCons (eC (.ty "bool")) aNil))) (eBin gEq (eVar 0) (eVar 1))))
noncomputable def f_law_says (A : Adr) : FM := runB N_law_says.length (s_law_says A)
theorem ok_law_says {P : Program} {w : World} {K : PySem.W.Frag} {mg : Str → Option Value} {base : Heap} {A : Adr} {a : Addr} {fd : FuncData} (T : Txt K mg A) (F : Fun K "_law_says" "_law_says" t_law_says a fd) : FnD P w K mg base 1 a fd ["heard", "due"] (f_law_says A) := by
  have h : FnD P w K mg base (0 + 1) a fd ["heard", "due"] (runB N_law_says.length (s_law_says A)) := by
    apply fnd_of F sc_law_says
    intro cdv A' outer s H E hr
    exact ⟨_, (by exact psd_one (by exact psd_ret (by exact ped_and (by exact ped_callB call_isi adc_isi rfl T.n_isinstance boot_isinstance (by exact pad_cons (pvd 0) (by exact pad_cons (by exact ped_ty (by exact rfl) T.n_bool boot_bool) pad_nil))) (by exact ped_one (by exact ped_cmp (by exact op_eqD (room64 hr)) (by exact ad_eq) (pvd 0) (pvd 1) (by exact nomark _))))))⟩
  exact h
def N_law_word : List Str := ["e", "kinds", "kind"]
theorem sc_law_word : FnScope N_law_word ["e"] (defScope t_law_word) := ⟨rfl, rfl, rfl, by decide +kernel, rfl, by decide +kernel, by decide +kernel⟩
noncomputable def s_law_word (A : Adr) (a c : Addr) : SM := (sSeq (sAsg (eLst (aCons (eCall (cIsE1 a A.OutOfRange (decide (c = A.OutOfRange))) (aCons (eVar 0) (aCons (eC (.ref A.OutOfRange)) aNil))) (aCons (eCall (cIsE1 a A.Malformed (decide (c = A.Malformed))) (aCons (eVar 0) (aCons (eC (.ref A.Malformed)) aNil))) (aCons (eCall (cIsE1 a A.NotThere (decide (c = A.NotThere))) (aCons (eVar 0) (aCons (eC (.ref A.NotThere)) aNil))) (aCons (eCall (cIsE1 a A.Refused (decide (c = A.Refused))) (aCons (eVar 0) (aCons (eC (.ref A.Refused)) aNil))) (aCons (eCall (cIsE1 a A.TooMuch (decide (c = A.TooMuch))) (aCons (eVar 0) (aCons (eC (.ref A.TooMuch)) aNil))) aNil)))))) (gSet 1))
 (sSeq (sIf (eTest (eBin gNe (eCall cLen (aCons (eCmp (iLst (eVar 1)) [2] (gSet 2) (eTru (eVar 2)) (eVar 2)) aNil)) (eC (.int 1)))) (sRet (eC (.str "many"))) sNx)
 (sRet (eBin gIx (eLst (aCons (eC (.str "range")) (aCons (eC (.str "form")) (aCons (eC (.str "none")) (aCons (eC (.str "refused")) (aCons (eC (.str "much")) aNil)))))) (eMeL mIndex (eVar 1) (aCons (eC (.bl true)) aNil))))))
theorem ok_law_word {P : Program} {w : World} {K : PySem.W.Frag} {mg : Str → Option Value} {base : Heap} {A : Adr} {a : Addr} {fd : FuncData} (T : Txt K mg A) (F : Fun K "_law_word" "_law_word" t_law_word a fd) (hw : ∀ a c r μ, wd A c = some r → fin (s_law_word A a c (startW N_law_word.length [.ref a]) μ) = .ok r μ) : PDM.FnP P w K mg base (L2N.CX P w) 1 a fd ["e"] (spW K (wd A)) := by
  refine fnw_of (m := s_law_word A) F sc_law_word hw fun cdv A' outer s H E p c hot hr h1 h2 h3 hw => ?_
  have hc := wd_isE hw
  obtain ⟨a, oe⟩ := p
  have hm : (a, oe) ∈ [(a, oe)] := List.mem_cons_self
  exact ⟨_, (by exact psd_cons (by exact psd_asg (by exact ped_lst (by exact pad_cons (by exact ped_callB (PDM.call_isP (D := c) (T.exc hc) hm ⟨h1, h2⟩ h3) (adc_isE1 (T.kit_OutOfRange hc)) rfl T.n_isinstance boot_isinstance (by exact pad_cons (pvd 0) (by exact pad_cons (by exact ped_gref (by exact rfl) T.e_OutOfRange.g) pad_nil))) (by exact pad_cons (by exact ped_callB (PDM.call_isP (D := c) (T.exc hc) hm ⟨h1, h2⟩ h3) (adc_isE1 (T.kit_Malformed hc)) rfl T.n_isinstance boot_isinstance (by exact pad_cons (pvd 0) (by exact pad_cons (by exact ped_gref (by exact rfl) T.e_Malformed.g) pad_nil))) (by exact pad_cons (by exact ped_callB (PDM.call_isP (D := c) (T.exc hc) hm ⟨h1, h2⟩ h3) (adc_isE1 (T.kit_NotThere hc)) rfl T.n_isinstance boot_isinstance (by exact pad_cons (pvd 0) (by exact pad_cons (by exact ped_gref (by exact rfl) T.e_NotThere.g) pad_nil))) (by exact pad_cons (by exact ped_callB (PDM.call_isP (D := c) (T.exc hc) hm ⟨h1, h2⟩ h3) (adc_isE1 (T.kit_Refused hc)) rfl T.n_isinstance boot_isinstance (by exact pad_cons (pvd 0) (by exact pad_cons (by exact ped_gref (by exact rfl) T.e_Refused.g) pad_nil))) (by exact pad_cons (by exact ped_callB (PDM.call_isP (D := c) (T.exc hc) hm ⟨h1, h2⟩ h3) (adc_isE1 (T.kit_TooMuch hc)) rfl T.n_isinstance boot_isinstance (by exact pad_cons (pvd 0) (by exact pad_cons (by exact ped_gref (by exact rfl) T.e_TooMuch.g) pad_nil))) pad_nil)))))) (by exact pgd_name (i := 1) sc_law_word.nd rfl (Or.inl rfl))) (by exact psd_cons (by exact psd_if (by exact ptd_cmp (by exact op_neD (roomH64 hr)) (by exact ad_ne) (by exact ped_callB PD.cr_len adc_len rfl T.n_len boot_len (by exact pad_cons (by exact ped_cmpHC (own := [("kind", 2)]) (g := (gName 2)) ⟨_, hot, hm⟩ sc_law_word.nd (pvd 1) (blkOk_by (own := [("kind", 2)]) (N := N_law_word) (sc := defScope t_law_word) (by decide +kernel)) (gown_name (by decide)) (fun _ _ _ _ _ => (by exact pgd_name (i := 2) sc_law_word.nd rfl (Or.inl rfl))) (fun _ _ _ _ _ => ⟨_, (by exact ptsd_one (by exact ptd_truth (pvd 2)))⟩) (fun _ _ _ _ _ => ⟨_, (pvd 2)⟩)) pad_nil)) ped_int (by exact nomark _)) (by exact psd_one (by exact psd_ret ped_str)) psd_nil) (by exact psd_one (by exact psd_ret (by exact ped_ix (by exact ped_lst (by exact pad_cons ped_str (by exact pad_cons ped_str (by exact pad_cons ped_str (by exact pad_cons ped_str (by exact pad_cons ped_str pad_nil)))))) (by exact ped_meL PySem.F.slot_list_index PySem.F.type_list_index (mt_indexD (roomH65 hr)) adm_index (pvd 1) (by exact pad_cons ped_bl pad_nil)))))))⟩
def N_law_kind : List Str := ["draws"]
theorem sc_law_kind : FnScope N_law_kind ["draws"] (defScope t_law_kind) := ⟨rfl, rfl, rfl, by decide +kernel, rfl, by decide +kernel, by decide +kernel⟩
noncomputable def s_law_kind (A : Adr) : SM := (sRet (eTup (aCons (eTup (aCons (eC (.str "dst")) (aCons (eBin gAdd (eC (.int 1)) (eFn 2 (f_law_take A) (aCons (eVar 0) (aCons (eC (.int 2)) aNil)))) aNil))) (aCons (eTup (aCons (eC (.str "pt")) (aCons (eC (.int 2)) aNil))) (aCons (eTup (aCons (eC (.str "sw")) (aCons (eBin gAdd (eC (.int 1)) (eFn 2 (f_law_take A) (aCons (eVar 0) (aCons (eC (.int 3)) aNil)))) aNil))) aNil)))))
noncomputable def f_law_kind (A : Adr) : FM := runB N_law_kind.length (s_law_kind A)
theorem ok_law_kind {P : Program} {w : World} {K : PySem.W.Frag} {mg : Str → Option Value} {base : Heap} {A : Adr} {a a_law_take : Addr} {fd fd_law_take : FuncData} (T : Txt K mg A) (F : Fun K "_law_kind" "_law_kind" t_law_kind a fd) (D_law_take : DOk P w K mg base "_law_take" 1 a_law_take fd_law_take ["draws", "bound"] (f_law_take A)) : FnD P w K mg base 2 a fd ["draws"] (f_law_kind A) := by
  have h : FnD P w K mg base (1 + 1) a fd ["draws"] (runB N_law_kind.length (s_law_kind A)) := by
    apply fnd_of F sc_law_kind
    intro cdv A' outer s H E hr
    have HR_law_take : Room 1 _ := hr.mono (by decide)
    exact ⟨_, (by exact psd_one (by exact psd_ret (by exact ped_tup (by exact pad_cons (by exact ped_tup (by exact pad_cons ped_str (by exact pad_cons (by exact ped_op opd_add ad_add ped_int (by exact ped_fn (ps := ["draws", "bound"]) (by exact D_law_take.F) (by exact HR_law_take) (by exact L2N.takes_of rfl rfl rfl rfl) (by exact rfl) (by exact D_law_take.g) (by exact D_law_take.k) (by exact D_law_take.b) (by exact pad_cons (pvd 0) (by exact pad_cons ped_int pad_nil)))) pad_nil))) (by exact pad_cons (by exact ped_tup (by exact pad_cons ped_str (by exact pad_cons ped_int pad_nil))) (by exact pad_cons (by exact ped_tup (by exact pad_cons ped_str (by exact pad_cons (by exact ped_op opd_add ad_add ped_int (by exact ped_fn (ps := ["draws", "bound"]) (by exact D_law_take.F) (by exact HR_law_take) (by exact L2N.takes_of rfl rfl rfl rfl) (by exact rfl) (by exact D_law_take.g) (by exact D_law_take.k) (by exact D_law_take.b) (by exact pad_cons (pvd 0) (by exact pad_cons ped_int pad_nil)))) pad_nil))) pad_nil))))))⟩
  exact h
def N_law_links : List Str := ["draws", "kind", "outs", "ins", "found", "one", "other", "switch"]
theorem sc_law_links : FnScope N_law_links ["draws", "kind"] (defScope t_law_links) := ⟨rfl, rfl, rfl, by decide +kernel, rfl, by decide +kernel, by decide +kernel⟩
noncomputable def s_law_links_0 (A : Adr) : SM := (sIf (eTest (eBin gGt (eFn 2 (f_law_take A) (aCons (eVar 0) (aCons (eC (.int 6)) aNil))) (eC (.int 0)))) (sSeq (sAsg (eMeL mPopAt (eVar 3) (aCons (eFn 2 (f_law_take A) (aCons (eVar 0) (aCons (eCall cLen (aCons (eVar 3) aNil)) aNil))) aNil)) (gSet 6))
 (sEx (eMeL mAppend (eVar 4) (aCons (eBin gAdd (eVar 5) (eVar 6)) aNil)))) sNx)
noncomputable def s_law_links (A : Adr) : SM := (sSeq (sAsg (eBin gAdd (eCmp (iRngA (aCons (eBin gAdd (eBin gIx (eBin gIx (eVar 1) (eC (.int 2))) (eC (.int 1))) (eC (.int 1))) aNil)) [7] (gSet 7) bYes (eTup (aCons (eVar 7) (aCons (eC (.int 1)) aNil)))) (eCmp (iRngA (aCons (eBin gAdd (eBin gIx (eBin gIx (eVar 1) (eC (.int 2))) (eC (.int 1))) (eC (.int 1))) aNil)) [7] (gSet 7) bYes (eTup (aCons (eVar 7) (aCons (eC (.int 2)) aNil))))) (gSet 2))
 (sSeq (sPar 3 4 (aCons (eCall cListM (aCons (eVar 2) aNil)) (aCons (eNew aNil) aNil)))
 (sSeq (sFor (iSeq (eVar 2)) (gSet 5) (s_law_links_0 A))
 (sRet (eCall cTuple (aCons (eCall (cSortT 4 8) (aCons (eVar 4) aNil)) aNil))))))
noncomputable def f_law_links (A : Adr) : FM := runB N_law_links.length (s_law_links A)
theorem ok_law_links {P : Program} {w : World} {K : PySem.W.Frag} {mg : Str → Option Value} {base : Heap} {A : Adr} {a a_law_take : Addr} {fd fd_law_take : FuncData} (T : Txt K mg A) (F : Fun K "_law_links" "_law_links" t_law_links a fd) (D_law_take : DOk P w K mg base "_law_take" 1 a_law_take fd_law_take ["draws", "bound"] (f_law_take A)) : FnD P w K mg base 2 a fd ["draws", "kind"] (f_law_links A) := by
  have h : FnD P w K mg base (1 + 1) a fd ["draws", "kind"] (runB N_law_links.length (s_law_links A)) := by
    apply fnd_of F sc_law_links
    intro cdv A' outer s H E hr
    have HR_law_take : Room 1 _ := hr.mono (by decide)
    exact ⟨_, (by exact psd_cons (by exact psd_asg (by exact ped_op opd_add ad_add (by exact ped_cmpC (own := [("switch", 7)]) (g := (gName 7)) rfl sc_law_links.nd (by exact pid_rng1 rfl T.n_range (by exact pad_cons (by exact ped_op opd_add ad_add (by exact ped_ix (by exact ped_ix (pvd 1) ped_int) ped_int) ped_int) pad_nil)) (blkOk_by (own := [("switch", 7)]) (N := N_law_links) (sc := defScope t_law_links) (by decide +kernel)) (gown_name (by decide)) (fun _ _ _ _ _ => (by exact pgd_name (i := 7) sc_law_links.nd rfl (Or.inl rfl))) (fun _ _ _ _ _ => ⟨_, ptsd_nil⟩) (fun _ _ _ _ _ => ⟨_, (by exact ped_tup (by exact pad_cons (pvd 7) (by exact pad_cons ped_int pad_nil)))⟩)) (by exact ped_cmpC (own := [("switch", 7)]) (g := (gName 7)) rfl sc_law_links.nd (by exact pid_rng1 rfl T.n_range (by exact pad_cons (by exact ped_op opd_add ad_add (by exact ped_ix (by exact ped_ix (pvd 1) ped_int) ped_int) ped_int) pad_nil)) (blkOk_by (own := [("switch", 7)]) (N := N_law_links) (sc := defScope t_law_links) (by decide +kernel)) (gown_name (by decide)) (fun _ _ _ _ _ => (by exact pgd_name (i := 7) sc_law_links.nd rfl (Or.inl rfl))) (fun _ _ _ _ _ => ⟨_, ptsd_nil⟩) (fun _ _ _ _ _ => ⟨_, (by exact ped_tup (by exact pad_cons (pvd 7) (by exact pad_cons ped_int pad_nil)))⟩))) (by exact pgd_name (i := 2) sc_law_links.nd rfl (Or.inl rfl))) (by exact psd_cons (by exact psd_par rfl sc_law_links.nd rfl rfl (by decide) rfl rfl (by exact pad_cons (by exact ped_callTy call_list_of adc_listM rfl T.n_list boot_list (by exact pad_cons (pvd 2) pad_nil)) (by exact pad_cons (by exact ped_new pad_nil) pad_nil)) rfl) (by exact psd_cons (by exact psd_for (passes_of rfl) rfl (by exact pid_seq (pvd 2)) (by exact pgd_name (i := 5) sc_law_links.nd rfl (Or.inl rfl)) (by exact psd_one (by exact psd_if (by exact ptd_cmp op_gt ad_gt (by exact ped_fn (ps := ["draws", "bound"]) (by exact D_law_take.F) (by exact HR_law_take) (by exact L2N.takes_of rfl rfl rfl rfl) (by exact rfl) (by exact D_law_take.g) (by exact D_law_take.k) (by exact D_law_take.b) (by exact pad_cons (pvd 0) (by exact pad_cons ped_int pad_nil))) ped_int (by exact nomark _)) (by exact psd_cons (by exact psd_asg (by exact ped_meL PySem.F.slot_list_pop PySem.F.type_list_pop mt_popAt adm_popAt (pvd 3) (by exact pad_cons (by exact ped_fn (ps := ["draws", "bound"]) (by exact D_law_take.F) (by exact HR_law_take) (by exact L2N.takes_of rfl rfl rfl rfl) (by exact rfl) (by exact D_law_take.g) (by exact D_law_take.k) (by exact D_law_take.b) (by exact pad_cons (pvd 0) (by exact pad_cons (by exact ped_callB PD.cr_len adc_len rfl T.n_len boot_len (by exact pad_cons (pvd 3) pad_nil)) pad_nil))) pad_nil)) (by exact pgd_name (i := 6) sc_law_links.nd rfl (Or.inl rfl))) (by exact psd_one (by exact psd_expr (by exact ped_meL PySem.F.slot_list_append PySem.F.type_list_append mt_append adm_append (pvd 4) (by exact pad_cons (by exact ped_op opd_add ad_add (pvd 5) (pvd 6)) pad_nil))))) psd_nil))) (by exact psd_one (by exact psd_ret (by exact ped_callTy call_tuple_of adc_tuple rfl T.n_tuple boot_tuple (by exact pad_cons (by exact ped_callB (cr_sortT (d := 4) (B := 8) (by decide)) adc_sortT rfl T.n_sorted boot_sorted (by exact pad_cons (pvd 4) pad_nil)) pad_nil)))))))⟩
  exact h
def N_law_packets : List Str := ["kind", "found", "field", "most", "later", "row", "one"]
theorem sc_law_packets : FnScope N_law_packets ["kind"] (defScope t_law_packets) := ⟨rfl, rfl, rfl, by decide +kernel, rfl, by decide +kernel, by decide +kernel⟩
noncomputable def s_law_packets_0 (A : Adr) : SM := (sAsg (eBin gAdd (eVar 4) (eCmp (iRngA (aCons (eBin gAdd (eVar 3) (eC (.int 1))) aNil)) [6] (gSet 6) bYes (eBin gAdd (eVar 5) (eTup (aCons (eVar 6) aNil))))) (gSet 4))
noncomputable def s_law_packets_1 (A : Adr) : SM := (sSeq (sAsg (eLst aNil) (gSet 4))
 (sSeq (sFor (iSeq (eVar 1)) (gSet 5) (s_law_packets_0 A))
 (sAsg (eVar 4) (gSet 1))))
noncomputable def s_law_packets (A : Adr) : SM := (sSeq (sAsg (eLst (aCons (eTup aNil) aNil)) (gSet 1))
 (sSeq (sFor (iSeq (eVar 0)) (gTupM 2 (gsCons (gSet 2) (gsCons (gSet 3) gsNil))) (s_law_packets_1 A))
 (sRet (eVar 1))))
noncomputable def f_law_packets (A : Adr) : FM := runB N_law_packets.length (s_law_packets A)
theorem ok_law_packets {P : Program} {w : World} {K : PySem.W.Frag} {mg : Str → Option Value} {base : Heap} {A : Adr} {a : Addr} {fd : FuncData} (T : Txt K mg A) (F : Fun K "_law_packets" "_law_packets" t_law_packets a fd) : FnD P w K mg base 1 a fd ["kind"] (f_law_packets A) := by
  have h : FnD P w K mg base (0 + 1) a fd ["kind"] (runB N_law_packets.length (s_law_packets A)) := by
    apply fnd_of F sc_law_packets
    intro cdv A' outer s H E hr
    exact ⟨_, (by exact psd_cons (by exact psd_asg (by exact ped_lst (by exact pad_cons (by exact ped_tup pad_nil) pad_nil)) (by exact pgd_name (i := 1) sc_law_packets.nd rfl (Or.inl rfl))) (by exact psd_cons (by exact psd_for (passes_of rfl) rfl (by exact pid_seq (pvd 0)) (by exact pgd_tup rfl (by exact pgsd_cons (by exact pgd_name (i := 2) sc_law_packets.nd rfl (Or.inl rfl)) (by exact pgsd_cons (by exact pgd_name (i := 3) sc_law_packets.nd rfl (Or.inl rfl)) pgsd_nil)) rfl rfl (ner_cons ner_set (ner_cons ner_set ner_nil))) (by exact psd_cons (by exact psd_asg (by exact ped_lst pad_nil) (by exact pgd_name (i := 4) sc_law_packets.nd rfl (Or.inl rfl))) (by exact psd_cons (by exact psd_for (passes_of rfl) rfl (by exact pid_seq (pvd 1)) (by exact pgd_name (i := 5) sc_law_packets.nd rfl (Or.inr rfl)) (by exact psd_one (by exact psd_asg (by exact ped_op opd_add ad_add (pvd 4) (by exact ped_cmpC (own := [("one", 6)]) (g := (gName 6)) rfl sc_law_packets.nd (by exact pid_rng1 rfl T.n_range (by exact pad_cons (by exact ped_op opd_add ad_add (pvd 3) ped_int) pad_nil)) (blkOk_by (own := [("one", 6)]) (N := N_law_packets) (sc := defScope t_law_packets) (by decide +kernel)) (gown_name (by decide)) (fun _ _ _ _ _ => (by exact pgd_name (i := 6) sc_law_packets.nd rfl (Or.inl rfl))) (fun _ _ _ _ _ => ⟨_, ptsd_nil⟩) (fun _ _ _ _ _ => ⟨_, (by exact ped_op opd_add ad_add (pvd 5) (by exact ped_tup (by exact pad_cons (pvd 6) pad_nil)))⟩))) (by exact pgd_name (i := 4) sc_law_packets.nd rfl (Or.inl rfl))))) (by exact psd_one (by exact psd_asg (pvd 4) (by exact pgd_name (i := 1) sc_law_packets.nd rfl (Or.inl rfl))))))) (by exact psd_one (by exact psd_ret (pvd 1)))))⟩
  exact h
def N_law_told : List Str := ["wires", "what", "number", "e"]
theorem sc_law_told : FnScope N_law_told ["wires", "what", "number"] (defScope t_law_told) := ⟨rfl, rfl, rfl, by decide +kernel, rfl, by decide +kernel, by decide +kernel⟩
noncomputable def b_law_told (A : Adr) : SM := (sRet (eIf (eTest (eBin gEq (eVar 1) (eC (.int 0)))) (eMe A.Wires "take" 2 (f_Wires_take A) (eVar 0) (aCons (eVar 2) aNil)) (eMe A.Wires "put" 3 (f_Wires_put A) (eVar 0) (aCons (eVar 2) (aCons (eC (.str "x")) aNil)))))
noncomputable def s_law_told (A : Adr) : SM := sTryW 3 (hit A) (wd A) (b_law_told A)
noncomputable def f_law_told (A : Adr) : FM := runB N_law_told.length (s_law_told A)
theorem ok_law_told {P : Program} {w : World} {K : PySem.W.Frag} {mg : Str → Option Value} {base : Heap} {A : Adr} {a a_Wires_take a_Wires_put a_w : Addr} {fd fd_Wires_take fd_Wires_put fd_w : FuncData} (T : Txt K mg A) (F : Fun K "_law_told" "_law_told" t_law_told a fd) (D_Wires_take : MOk P w K mg base A.Wires "take" 3 a_Wires_take fd_Wires_take ["self", "number"] (f_Wires_take A)) (D_Wires_put : MOk P w K mg base A.Wires "put" 3 a_Wires_put fd_Wires_put ["self", "number", "thing"] (f_Wires_put A)) (W_F : PDM.FnP P w K mg base (L2N.CX P w) 1 a_w fd_w ["e"] (spW K (wd A))) (W_g : mg "_law_word" = some (.ref a_w)) (W_k : PySem.W.keepIn K (.ref a_w) = true) (W_b : Binds K fd_w ["e"] []) : FnD P w K mg base 4 a fd ["wires", "what", "number"] (f_law_told A) := by
  have h : FnD P w K mg base (3 + 1) a fd ["wires", "what", "number"] (runB N_law_told.length (s_law_told A)) := by
    apply fnd_of F sc_law_told
    intro cdv A' outer s H E hr
    have HR_Wires_take : Room 3 _ := hr.mono (by decide)
    have HR_Wires_put : Room 3 _ := hr.mono (by decide)
    have HRw : Room 1 _ := hr.mono (by decide)
    exact ex_one (by exact psd_trywC (X := cxOf (L2N.CX P w) P w K mg base N_law_told "_law_told" (defScope t_law_told) a cdv A' outer s H E) (Wx := fun cls d _ H => E cls d H) (x := "PathError") (n := "e") (f := "_law_word") (i := 3) (y := "e") (m := b_law_told A) (hit := hit A) (wd := wd A) rfl rfl sc_law_told.nd rfl rfl (by exact ⟨rfl, by decide, .inl T.e_PathError.g⟩) (by exact L2N.takes_of rfl rfl rfl rfl) (T.hits) W_F HRw (by exact rfl) W_g W_k W_b (fun W pn xe tk => ⟨_, (by exact psd_one (by exact psd_ret (by exact ped_if (by exact ptd_cmp (by exact op_eqD (room64 hr)) (by exact ad_eq) (pvd 1) ped_int (by exact nomark _)) (by exact ped_me (ps := ["self", "number"]) (pvd 0) (by exact T.cl_Wires) (by exact D_Wires_take.m) (by exact D_Wires_take.F) (by exact HR_Wires_take) tk (by exact D_Wires_take.b) (by exact pad_cons (pvd 2) pad_nil)) (by exact ped_me (ps := ["self", "number", "thing"]) (pvd 0) (by exact T.cl_Wires) (by exact D_Wires_put.m) (by exact D_Wires_put.F) (by exact HR_Wires_put) tk (by exact D_Wires_put.b) (by exact pad_cons (pvd 2) (by exact pad_cons ped_str pad_nil))))))⟩) (hvar := fun _ _ => (pvd (Wx := W0) 3).pe))
  exact h
def N_law : List Str := ["script", "draws", "kind", "links", "room", "wires", "rows", "lost", "packet", "due", "step", "k", "fits", "heard", "every", "row", "link", "number", "what"]
theorem sc_law : FnScope N_law ["script"] (defScope t_law) := ⟨rfl, rfl, rfl, by decide +kernel, rfl, by decide +kernel, by decide +kernel⟩
noncomputable def s_law_0 (A : Adr) : SM := (sAsg (eBin gAdd (eVar 14) (eVar 15)) (gSet 14))
noncomputable def s_law_1 (A : Adr) : SM := (sSeq (sIf (eTest (eBin gNe (eVar 3) (eTup aNil))) (sSeq (sAsg (eFn 2 (f_law_take A) (aCons (eVar 1) (aCons (eCall cLen (aCons (eVar 3) aNil)) aNil))) (gSet 11))
 (sIf (eTest (eBin gEq (eFn 2 (f_law_take A) (aCons (eVar 1) (aCons (eC (.int 2)) aNil))) (eC (.int 0)))) (sSeq (sAsg (eOr (eBin gIsN (eVar 4) (eC .non)) (eBin gLt (eCall cLen (aCons (eBin gIx (eVar 6) (eVar 11)) aNil)) (eVar 4))) (gSet 12))
 (sSeq (sIf (bNot (eTru (eFn 2 (f_law_says A) (aCons (eMe A.Wires "put" 3 (f_Wires_put A) (eVar 5) (aCons (eVar 11) (aCons (eVar 10) aNil))) (aCons (eVar 12) aNil))))) (sRet (eC (.bl false))) sNx)
 (sAsg (eTup (aCons (eBin gAdd (eBin gIx (eVar 6) (eVar 11)) (eBin gMul (eLst (aCons (eVar 10) aNil)) (eCall cInt (aCons (eVar 12) aNil)))) (aCons (eBin gAdd (eVar 7) (eCall cInt (aCons (eNot (eVar 12)) aNil))) aNil))) (gTupM 2 (gsCons (gSubM (eVar 6) (eVar 11)) (gsCons (gSet 7) gsNil)))))) (sSeq (sAsg (eFn 3 (f_law_told A) (aCons (eVar 5) (aCons (eC (.int 0)) (aCons (eVar 11) aNil)))) (gSet 13))
 (sSeq (sIf (bNot (eTru (eFn 2 (f_law_alike A) (aCons (eVar 13) (aCons (eIf (eTest (eBin gNe (eBin gIx (eVar 6) (eVar 11)) (eLst aNil))) (eBin gIx (eBin gIx (eVar 6) (eVar 11)) (eC (.int 0))) (eC (.str "none"))) aNil))))) (sRet (eC (.bl false))) sNx)
 (sAsg (eCut (eBin gIx (eVar 6) (eVar 11)) (oSome (eC (.int 1))) oNone) (gSubM (eVar 6) (eVar 11))))))) sNx)
 (sSeq (sAsg (eLst aNil) (gSet 14))
 (sSeq (sFor (iSeq (eVar 6)) (gSet 15) (s_law_0 A))
 (sIf (bNot (eTru (eFn 2 (f_law_alike A) (aCons (eLst (aCons (eMe A.Wires "ready" 1 (f_Wires_ready A) (eVar 5) aNil) (aCons (eMe A.Wires "things" 1 (f_Wires_things A) (eVar 5) aNil) (aCons (eMe A.Wires "lost" 1 (f_Wires_lost A) (eVar 5) aNil) aNil)))) (aCons (eLst (aCons (eCall cTuple (aCons (eCmp (iRngA (aCons (eCall cLen (aCons (eVar 6) aNil)) aNil)) [11] (gSet 11) (eTest (eBin gNe (eBin gIx (eVar 6) (eVar 11)) (eLst aNil))) (eVar 11)) aNil)) (aCons (eVar 14) (aCons (eVar 7) aNil)))) aNil))))) (sRet (eC (.bl false))) sNx))))
noncomputable def s_law_2 (A : Adr) : SM := (sSeq (sAsg (eCmp (iRngA (aCons (eCall cLen (aCons (eVar 3) aNil)) aNil)) [11] (gSet 11) (eTest (eBin gEq (eCut (eBin gIx (eVar 3) (eVar 11)) oNone (oSome (eC (.int 2)))) (eTup (aCons (eBin gIx (eVar 8) (eC (.int 2))) (aCons (eBin gIx (eVar 8) (eC (.int 1))) aNil))))) (eVar 11)) (gSet 9))
 (sIf (bNot (eTru (eFn 2 (f_law_alike A) (aCons (eMe A.Wires "wire_from" 2 (f_Wires_wire_from A) (eVar 5) (aCons (eVar 8) aNil)) (aCons (eIf (eTest (eBin gNe (eVar 9) (eLst aNil))) (eBin gIx (eVar 9) (eC (.int 0))) (eC .non)) aNil))))) (sRet (eC (.bl false))) sNx))
noncomputable def s_law (A : Adr) : SM := (sSeq (sAsg (eFn 1 (f_law_draws A) (aCons (eVar 0) aNil)) (gSet 1))
 (sSeq (sAsg (eFn 1 (f_law_kind A) (aCons (eVar 1) aNil)) (gSet 2))
 (sSeq (sAsg (eFn 2 (f_law_links A) (aCons (eVar 1) (aCons (eVar 2) aNil))) (gSet 3))
 (sSeq (sAsg (eBin gIx (eLst (aCons (eC .non) (aCons (eC (.int 2)) (aCons (eC (.int 0)) aNil)))) (eFn 2 (f_law_take A) (aCons (eVar 1) (aCons (eC (.int 3)) aNil)))) (gSet 4))
 (sSeq (sAsg (eTup (aCons (eMk A.Wires 4 (f_Wires_init A) (aCons (eVar 2) (aCons (eVar 3) (aCons (eVar 4) aNil)))) (aCons (eCmpM (iSeq (eVar 3)) [16] (gSet 16) bYes (eLst aNil)) (aCons (eC (.int 0)) aNil)))) (gTupM 3 (gsCons (gSet 5) (gsCons (gSet 6) (gsCons (gSet 7) gsNil)))))
 (sSeq (sFor (iSeq (eFn 1 (f_law_packets A) (aCons (eVar 2) aNil))) (gSet 8) (s_law_2 A))
 (sSeq (sFor (iRngA (aCons (eC (.int 30)) aNil)) (gSet 10) (s_law_1 A))
 (sRet (eBin gEq (eCmp (iSeq (eLst (aCons (eNeg (eC (.int 1))) (aCons (eCall cLen (aCons (eVar 3) aNil)) (aCons (eC .non) (aCons (eC (.bl true)) (aCons (eC (.str "0")) aNil))))))) [17] (gSet 17) (eTest (eBin gNe (eCmp (iRngA (aCons (eC (.int 2)) aNil)) [18] (gSet 18) bYes (eFn 3 (f_law_told A) (aCons (eVar 5) (aCons (eVar 18) (aCons (eVar 17) aNil))))) (eBin gMul (eLst (aCons (eC (.str "none")) aNil)) (eC (.int 2))))) (eVar 17)) (eLst aNil))))))))))
noncomputable def f_law (A : Adr) : FM := runB N_law.length (s_law A)
theorem ok_law {P : Program} {w : World} {K : PySem.W.Frag} {mg : Str → Option Value} {base : Heap} {A : Adr} {a a_law_told a_law_alike a_Wires_lost a_Wires_things a_Wires_ready a_law_take a_law_says a_Wires_put a_law_packets a_Wires_wire_from a_Wires_init a_law_links a_law_kind a_law_draws : Addr} {fd fd_law_told fd_law_alike fd_Wires_lost fd_Wires_things fd_Wires_ready fd_law_take fd_law_says fd_Wires_put fd_law_packets fd_Wires_wire_from fd_Wires_init fd_law_links fd_law_kind fd_law_draws : FuncData} (T : Txt K mg A) (F : Fun K "law" "law" t_law a fd) (D_law_told : DOk P w K mg base "_law_told" 4 a_law_told fd_law_told ["wires", "what", "number"] (f_law_told A)) (D_law_alike : DOk P w K mg base "_law_alike" 7 a_law_alike fd_law_alike ["found", "due"] (f_law_alike A)) (D_Wires_lost : MOk P w K mg base A.Wires "lost" 2 a_Wires_lost fd_Wires_lost ["self"] (f_Wires_lost A)) (D_Wires_things : MOk P w K mg base A.Wires "things" 2 a_Wires_things fd_Wires_things ["self"] (f_Wires_things A)) (D_Wires_ready : MOk P w K mg base A.Wires "ready" 2 a_Wires_ready fd_Wires_ready ["self"] (f_Wires_ready A)) (D_law_take : DOk P w K mg base "_law_take" 1 a_law_take fd_law_take ["draws", "bound"] (f_law_take A)) (D_law_says : DOk P w K mg base "_law_says" 1 a_law_says fd_law_says ["heard", "due"] (f_law_says A)) (D_Wires_put : MOk P w K mg base A.Wires "put" 3 a_Wires_put fd_Wires_put ["self", "number", "thing"] (f_Wires_put A)) (D_law_packets : DOk P w K mg base "_law_packets" 1 a_law_packets fd_law_packets ["kind"] (f_law_packets A)) (D_Wires_wire_from : MOk P w K mg base A.Wires "wire_from" 4 a_Wires_wire_from fd_Wires_wire_from ["self", "packet"] (f_Wires_wire_from A)) (D_Wires_init : IOk P w K mg base A.Wires "Wires" 4 a_Wires_init fd_Wires_init ["self", "kind", "links", "room"] (f_Wires_init A)) (D_law_links : DOk P w K mg base "_law_links" 2 a_law_links fd_law_links ["draws", "kind"] (f_law_links A)) (D_law_kind : DOk P w K mg base "_law_kind" 2 a_law_kind fd_law_kind ["draws"] (f_law_kind A)) (D_law_draws : DOk P w K mg base "_law_draws" 1 a_law_draws fd_law_draws ["script"] (f_law_draws A)) : FnD P w K mg base 8 a fd ["script"] (f_law A) := by
  have h : FnD P w K mg base (7 + 1) a fd ["script"] (runB N_law.length (s_law A)) := by
    apply fnd_of F sc_law
    intro cdv A' outer s H E hr
    have HR_law_told : Room 4 _ := hr.mono (by decide)
    have HR_law_alike : Room 7 _ := hr.mono (by decide)
    have HR_Wires_lost : Room 2 _ := hr.mono (by decide)
    have HR_Wires_things : Room 2 _ := hr.mono (by decide)
    have HR_Wires_ready : Room 2 _ := hr.mono (by decide)
    have HR_law_take : Room 1 _ := hr.mono (by decide)
    have HR_law_says : Room 1 _ := hr.mono (by decide)
    have HR_Wires_put : Room 3 _ := hr.mono (by decide)
    have HR_law_packets : Room 1 _ := hr.mono (by decide)
    have HR_Wires_wire_from : Room 4 _ := hr.mono (by decide)
    have HR4_Wires_init : Room (4 + 1) _ := hr.mono (by decide)
    have HR_law_links : Room 2 _ := hr.mono (by decide)
    have HR_law_kind : Room 2 _ := hr.mono (by decide)
    have HR_law_draws : Room 1 _ := hr.mono (by decide)
    exact ⟨_, (by exact psd_cons (by exact psd_asg (by exact ped_fn (ps := ["script"]) (by exact D_law_draws.F) (by exact HR_law_draws) (by exact L2N.takes_of rfl rfl rfl rfl) (by exact rfl) (by exact D_law_draws.g) (by exact D_law_draws.k) (by exact D_law_draws.b) (by exact pad_cons (pvd 0) pad_nil)) (by exact pgd_name (i := 1) sc_law.nd rfl (Or.inl rfl))) (by exact psd_cons (by exact psd_asg (by exact ped_fn (ps := ["draws"]) (by exact D_law_kind.F) (by exact HR_law_kind) (by exact L2N.takes_of rfl rfl rfl rfl) (by exact rfl) (by exact D_law_kind.g) (by exact D_law_kind.k) (by exact D_law_kind.b) (by exact pad_cons (pvd 1) pad_nil)) (by exact pgd_name (i := 2) sc_law.nd rfl (Or.inl rfl))) (by exact psd_cons (by exact psd_asg (by exact ped_fn (ps := ["draws", "kind"]) (by exact D_law_links.F) (by exact HR_law_links) (by exact L2N.takes_of rfl rfl rfl rfl) (by exact rfl) (by exact D_law_links.g) (by exact D_law_links.k) (by exact D_law_links.b) (by exact pad_cons (pvd 1) (by exact pad_cons (pvd 2) pad_nil))) (by exact pgd_name (i := 3) sc_law.nd rfl (Or.inr rfl))) (by exact psd_cons (by exact psd_asg (by exact ped_ix (by exact ped_lst (by exact pad_cons ped_non (by exact pad_cons ped_int (by exact pad_cons ped_int pad_nil)))) (by exact ped_fn (ps := ["draws", "bound"]) (by exact D_law_take.F) (by exact HR_law_take) (by exact L2N.takes_of rfl rfl rfl rfl) (by exact rfl) (by exact D_law_take.g) (by exact D_law_take.k) (by exact D_law_take.b) (by exact pad_cons (pvd 1) (by exact pad_cons ped_int pad_nil)))) (by exact pgd_name (i := 4) sc_law.nd rfl (Or.inl rfl))) (by exact psd_cons (by exact psd_asg (by exact ped_tup (by exact pad_cons (by exact ped_mk (ps := ["self", "kind", "links", "room"]) (by exact D_Wires_init.M) (by exact D_Wires_init.F) (by exact HR4_Wires_init) (by exact L2N.takes_of rfl rfl rfl rfl) (by exact rfl) (by exact D_Wires_init.g) (by exact D_Wires_init.b) (by exact pad_cons (pvd 2) (by exact pad_cons (pvd 3) (by exact pad_cons (pvd 4) pad_nil)))) (by exact pad_cons (by exact ped_cmpM (own := [("link", 16)]) (g := (gName 16)) rfl sc_law.nd (by exact pid_seq (pvd 3)) (blkOk_by (own := [("link", 16)]) (N := N_law) (sc := defScope t_law) (by decide +kernel)) (gown_name (by decide)) (fun _ _ _ _ _ => (by exact pgd_name (i := 16) sc_law.nd rfl (Or.inl rfl))) (fun _ _ _ _ _ => ⟨_, ptsd_nil⟩) (fun _ _ _ _ _ => ⟨_, (by exact ped_lst pad_nil)⟩)) (by exact pad_cons ped_int pad_nil)))) (by exact pgd_tup rfl (by exact pgsd_cons (by exact pgd_name (i := 5) sc_law.nd rfl (Or.inr rfl)) (by exact pgsd_cons (by exact pgd_name (i := 6) sc_law.nd rfl (Or.inr rfl)) (by exact pgsd_cons (by exact pgd_name (i := 7) sc_law.nd rfl (Or.inl rfl)) pgsd_nil))) rfl rfl (ner_cons ner_set (ner_cons ner_set (ner_cons ner_set ner_nil))))) (by exact psd_cons (by exact psd_for (passes_of rfl) rfl (by exact pid_seq (by exact ped_fn (ps := ["kind"]) (by exact D_law_packets.F) (by exact HR_law_packets) (by exact L2N.takes_of rfl rfl rfl rfl) (by exact rfl) (by exact D_law_packets.g) (by exact D_law_packets.k) (by exact D_law_packets.b) (by exact pad_cons (pvd 2) pad_nil))) (by exact pgd_name (i := 8) sc_law.nd rfl (Or.inr rfl)) (by exact psd_cons (by exact psd_setLcC (i := 9) (own := [("k", 11)]) (g := (gName 11)) rfl sc_law.nd rfl rfl (sw_true rfl rfl rfl (by decide +kernel)) (by exact pid_rng1 rfl T.n_range (by exact pad_cons (by exact ped_callB PD.cr_len adc_len rfl T.n_len boot_len (by exact pad_cons (pvd 3) pad_nil)) pad_nil)) (blkOk_by (own := [("k", 11)]) (N := N_law) (sc := defScope t_law) (by decide +kernel)) (gown_name (by decide)) (fun _ _ _ _ _ => (by exact pgd_name (i := 11) sc_law.nd rfl (Or.inl rfl))) (fun _ _ _ _ _ => ⟨_, (by exact ptsd_one (by exact ptd_cmp (by exact op_eqD (room64 hr)) (by exact ad_eq) (by exact ped_cut (by exact ped_ix (pvd 3) (pvd 11)) pod_none (by exact pod_some ped_int)) (by exact ped_tup (by exact pad_cons (by exact ped_ix (pvd 8) ped_int) (by exact pad_cons (by exact ped_ix (pvd 8) ped_int) pad_nil))) (by exact nomark _)))⟩) (fun _ _ _ _ _ => ⟨_, (pvd 11)⟩)) (by exact psd_one (by exact psd_if (by exact ptd_not (by exact ptd_truth (by exact ped_fn (ps := ["found", "due"]) (by exact D_law_alike.F) (by exact HR_law_alike) (by exact L2N.takes_of rfl rfl rfl rfl) (by exact rfl) (by exact D_law_alike.g) (by exact D_law_alike.k) (by exact D_law_alike.b) (by exact pad_cons (by exact ped_me (ps := ["self", "packet"]) (pvd 5) (by exact T.cl_Wires) (by exact D_Wires_wire_from.m) (by exact D_Wires_wire_from.F) (by exact HR_Wires_wire_from) (by exact L2N.takes_of rfl rfl rfl rfl) (by exact D_Wires_wire_from.b) (by exact pad_cons (pvd 8) pad_nil)) (by exact pad_cons (by exact ped_if (by exact ptd_cmp (by exact op_neD (room64 hr)) (by exact ad_ne) (pvd 9) (by exact ped_lst pad_nil) (by exact nomark _)) (by exact ped_ix (pvd 9) ped_int) ped_non) pad_nil))))) (by exact psd_one (by exact psd_ret ped_bl)) psd_nil)))) (by exact psd_cons (by exact psd_for (passes_of rfl) rfl (by exact pid_rng1 rfl T.n_range (by exact pad_cons ped_int pad_nil)) (by exact pgd_name (i := 10) sc_law.nd rfl (Or.inl rfl)) (by exact psd_cons (by exact psd_if (by exact ptd_cmp (by exact op_neD (room64 hr)) (by exact ad_ne) (pvd 3) (by exact ped_tup pad_nil) (by exact nomark _)) (by exact psd_cons (by exact psd_asg (by exact ped_fn (ps := ["draws", "bound"]) (by exact D_law_take.F) (by exact HR_law_take) (by exact L2N.takes_of rfl rfl rfl rfl) (by exact rfl) (by exact D_law_take.g) (by exact D_law_take.k) (by exact D_law_take.b) (by exact pad_cons (pvd 1) (by exact pad_cons (by exact ped_callB PD.cr_len adc_len rfl T.n_len boot_len (by exact pad_cons (pvd 3) pad_nil)) pad_nil))) (by exact pgd_name (i := 11) sc_law.nd rfl (Or.inl rfl))) (by exact psd_one (by exact psd_if (by exact ptd_cmp (by exact op_eqD (room64 hr)) (by exact ad_eq) (by exact ped_fn (ps := ["draws", "bound"]) (by exact D_law_take.F) (by exact HR_law_take) (by exact L2N.takes_of rfl rfl rfl rfl) (by exact rfl) (by exact D_law_take.g) (by exact D_law_take.k) (by exact D_law_take.b) (by exact pad_cons (pvd 1) (by exact pad_cons ped_int pad_nil))) ped_int (by exact nomark _)) (by exact psd_cons (by exact psd_asg (by exact ped_or (by exact ped_cmp op_isN ad_isN (pvd 4) ped_non (by exact nomark _)) (by exact ped_one (by exact ped_cmp op_lt ad_lt (by exact ped_callB PD.cr_len adc_len rfl T.n_len boot_len (by exact pad_cons (by exact ped_ix (pvd 6) (pvd 11)) pad_nil)) (pvd 4) (by exact nomark _)))) (by exact pgd_name (i := 12) sc_law.nd rfl (Or.inl rfl))) (by exact psd_cons (by exact psd_if (by exact ptd_not (by exact ptd_truth (by exact ped_fn (ps := ["heard", "due"]) (by exact D_law_says.F) (by exact HR_law_says) (by exact L2N.takes_of rfl rfl rfl rfl) (by exact rfl) (by exact D_law_says.g) (by exact D_law_says.k) (by exact D_law_says.b) (by exact pad_cons (by exact ped_me (ps := ["self", "number", "thing"]) (pvd 5) (by exact T.cl_Wires) (by exact D_Wires_put.m) (by exact D_Wires_put.F) (by exact HR_Wires_put) (by exact L2N.takes_of rfl rfl rfl rfl) (by exact D_Wires_put.b) (by exact pad_cons (pvd 11) (by exact pad_cons (pvd 10) pad_nil))) (by exact pad_cons (pvd 12) pad_nil))))) (by exact psd_one (by exact psd_ret ped_bl)) psd_nil) (by exact psd_one (by exact psd_asg (by exact ped_tup (by exact pad_cons (by exact ped_op opd_add ad_add (by exact ped_ix (pvd 6) (pvd 11)) (by exact ped_op opd_mul ad_mul (by exact ped_lst (by exact pad_cons (pvd 10) pad_nil)) (by exact ped_callTy call_int1 adc_int rfl T.n_int boot_int (by exact pad_cons (pvd 12) pad_nil)))) (by exact pad_cons (by exact ped_op opd_add ad_add (pvd 7) (by exact ped_callTy call_int1 adc_int rfl T.n_int boot_int (by exact pad_cons (by exact ped_not (pvd 12)) pad_nil))) pad_nil))) (by exact pgd_tup rfl (by exact pgsd_cons (by exact pgd_sub (pvd 6) (pvd 11)) (by exact pgsd_cons (by exact pgd_name (i := 7) sc_law.nd rfl (Or.inl rfl)) pgsd_nil)) rfl rfl (ner_cons (ner_sub ner_var ner_var) (ner_cons ner_set ner_nil))))))) (by exact psd_cons (by exact psd_asg (by exact ped_fn (ps := ["wires", "what", "number"]) (by exact D_law_told.F) (by exact HR_law_told) (by exact L2N.takes_of rfl rfl rfl rfl) (by exact rfl) (by exact D_law_told.g) (by exact D_law_told.k) (by exact D_law_told.b) (by exact pad_cons (pvd 5) (by exact pad_cons ped_int (by exact pad_cons (pvd 11) pad_nil)))) (by exact pgd_name (i := 13) sc_law.nd rfl (Or.inl rfl))) (by exact psd_cons (by exact psd_if (by exact ptd_not (by exact ptd_truth (by exact ped_fn (ps := ["found", "due"]) (by exact D_law_alike.F) (by exact HR_law_alike) (by exact L2N.takes_of rfl rfl rfl rfl) (by exact rfl) (by exact D_law_alike.g) (by exact D_law_alike.k) (by exact D_law_alike.b) (by exact pad_cons (pvd 13) (by exact pad_cons (by exact ped_if (by exact ptd_cmp (by exact op_neD (room64 hr)) (by exact ad_ne) (by exact ped_ix (pvd 6) (pvd 11)) (by exact ped_lst pad_nil) (by exact nomark _)) (by exact ped_ix (by exact ped_ix (pvd 6) (pvd 11)) ped_int) ped_str) pad_nil))))) (by exact psd_one (by exact psd_ret ped_bl)) psd_nil) (by exact psd_one (by exact psd_asg (by exact ped_cut (by exact ped_ix (pvd 6) (pvd 11)) (by exact pod_some ped_int) pod_none) (by exact pgd_sub (pvd 6) (pvd 11))))))))) psd_nil) (by exact psd_cons (by exact psd_asg (by exact ped_lst pad_nil) (by exact pgd_name (i := 14) sc_law.nd rfl (Or.inl rfl))) (by exact psd_cons (by exact psd_for (passes_of rfl) rfl (by exact pid_seq (pvd 6)) (by exact pgd_name (i := 15) sc_law.nd rfl (Or.inl rfl)) (by exact psd_one (by exact psd_asg (by exact ped_op opd_add ad_add (pvd 14) (pvd 15)) (by exact pgd_name (i := 14) sc_law.nd rfl (Or.inl rfl))))) (by exact psd_one (by exact psd_if (by exact ptd_not (by exact ptd_truth (by exact ped_fn (ps := ["found", "due"]) (by exact D_law_alike.F) (by exact HR_law_alike) (by exact L2N.takes_of rfl rfl rfl rfl) (by exact rfl) (by exact D_law_alike.g) (by exact D_law_alike.k) (by exact D_law_alike.b) (by exact pad_cons (by exact ped_lst (by exact pad_cons (by exact ped_me0 (ps := ["self"]) (pvd 5) (by exact T.cl_Wires) (by exact D_Wires_ready.m) (by exact D_Wires_ready.F) (by exact HR_Wires_ready) (by exact L2N.takes_of rfl rfl rfl rfl) (by exact D_Wires_ready.b)) (by exact pad_cons (by exact ped_me0 (ps := ["self"]) (pvd 5) (by exact T.cl_Wires) (by exact D_Wires_things.m) (by exact D_Wires_things.F) (by exact HR_Wires_things) (by exact L2N.takes_of rfl rfl rfl rfl) (by exact D_Wires_things.b)) (by exact pad_cons (by exact ped_me0 (ps := ["self"]) (pvd 5) (by exact T.cl_Wires) (by exact D_Wires_lost.m) (by exact D_Wires_lost.F) (by exact HR_Wires_lost) (by exact L2N.takes_of rfl rfl rfl rfl) (by exact D_Wires_lost.b)) pad_nil)))) (by exact pad_cons (by exact ped_lst (by exact pad_cons (by exact ped_callTy call_tuple_of adc_tuple rfl T.n_tuple boot_tuple (by exact pad_cons (by exact ped_cmpC (own := [("k", 11)]) (g := (gName 11)) rfl sc_law.nd (by exact pid_rng1 rfl T.n_range (by exact pad_cons (by exact ped_callB PD.cr_len adc_len rfl T.n_len boot_len (by exact pad_cons (pvd 6) pad_nil)) pad_nil)) (blkOk_by (own := [("k", 11)]) (N := N_law) (sc := defScope t_law) (by decide +kernel)) (gown_name (by decide)) (fun _ _ _ _ _ => (by exact pgd_name (i := 11) sc_law.nd rfl (Or.inl rfl))) (fun _ _ _ _ _ => ⟨_, (by exact ptsd_one (by exact ptd_cmp (by exact op_neD (room64 hr)) (by exact ad_ne) (by exact ped_ix (pvd 6) (pvd 11)) (by exact ped_lst pad_nil) (by exact nomark _)))⟩) (fun _ _ _ _ _ => ⟨_, (pvd 11)⟩)) pad_nil)) (by exact pad_cons (pvd 14) (by exact pad_cons (pvd 7) pad_nil)))) pad_nil))))) (by exact psd_one (by exact psd_ret ped_bl)) psd_nil)))))) (by exact psd_one (by exact psd_ret (by exact ped_cmp (by exact op_eqD (room64 hr)) (by exact ad_eq) (by exact ped_cmpC (own := [("number", 17)]) (g := (gName 17)) rfl sc_law.nd (by exact pid_seq (by exact ped_lst (by exact pad_cons (by exact ped_neg ped_int) (by exact pad_cons (by exact ped_callB PD.cr_len adc_len rfl T.n_len boot_len (by exact pad_cons (pvd 3) pad_nil)) (by exact pad_cons ped_non (by exact pad_cons ped_bl (by exact pad_cons ped_str pad_nil))))))) (blkOk_by (own := [("number", 17)]) (N := N_law) (sc := defScope t_law) (by decide +kernel)) (gown_name (by decide)) (fun _ _ _ _ _ => (by exact pgd_name (i := 17) sc_law.nd rfl (Or.inr rfl))) (fun _ _ _ _ _ => ⟨_, (by exact ptsd_one (by exact ptd_cmp (by exact op_neD (room64 hr)) (by exact ad_ne) (by exact ped_cmpC (own := [("what", 18)]) (g := (gName 18)) rfl sc_law.nd (by exact pid_rng1 rfl T.n_range (by exact pad_cons ped_int pad_nil)) (blkOk_by (own := [("what", 18)]) (N := N_law) (by kernel_rfl)) (gown_name (by decide)) (fun _ _ _ _ _ => (by exact pgd_name (i := 18) sc_law.nd rfl (Or.inl rfl))) (fun _ _ _ _ _ => ⟨_, ptsd_nil⟩) (fun _ _ _ _ _ => ⟨_, (by exact ped_fn (ps := ["wires", "what", "number"]) (by exact D_law_told.F) (by exact HR_law_told) takes0N (by exact rfl) (by exact D_law_told.g) (by exact D_law_told.k) (by exact D_law_told.b) (by exact pad_cons (pvd 5) (by exact pad_cons (pvd 18) (by exact pad_cons (pvd 17) pad_nil))))⟩)) (by exact ped_op opd_mul ad_mul (by exact ped_lst (by exact pad_cons ped_str pad_nil)) ped_int) (by exact nomark _)))⟩) (fun _ _ _ _ _ => ⟨_, (pvd 17)⟩)) (by exact ped_lst pad_nil) (by exact nomark _)))))))))))⟩
  exact h
end K44
namespace K44
open PySem PySem.Spec PyProof.Rows L2 PD
theorem set_same {μ : Mu} {d : Nat} {c : Cell} (h : μ[d]? = some c) : μ.set d c = μ := by
  refine List.ext_getElem? fun i => ?_
  by_cases e : d = i
  · subst e
    rw [List.getElem?_set_self (List.getElem?_eq_some_iff.mp h).1, h]
  · rw [List.getElem?_set_ne e]
section
variable {A : Adr} {μ : Mu}
def intsW (l : List Int) : List W := l.map .int
theorem take_nil {d : Nat} {b : Int} (h : μ[d]? = some (.lst [])) : f_law_take A [.loc d, .int b] μ = .ok (.int 0) μ := by
  simp [eVar, eC, eBin, eTest, eTru, eAnd, eOr, eNot, eNeg, eIf, eTup, eLst, eNew, eCall, eFn, eMe, eMk, eFld, eMeL, eMeL0, aNil, aCons, bAnd, bOr, bNot, bYes, sSeq, sNx, sEx, sRet, sRetN, sIf, sAsg, gSet, sPar, sFldM, sFldAdd, sRaise, Out.bind, Out.st, SO.seq, fin, runB, startW, f_law_take, N_law_take, s_law_take, cLen, orC, cLenQ, asQ, asL, h, Out.els, gEq_int]
theorem take_snoc {d : Nat} {b z : Int} {l : List Int} (h : μ[d]? = some (.lst (intsW (l ++ [z])))) (hb : 0 < b) : f_law_take A [.loc d, .int b] μ = .ok (.int (z % b)) (μ.set d (.lst (intsW l))) := by
  have hne : ¬ ((l.length : Int) + 1 = 0) := by omega
  simp [eVar, eC, eBin, eTest, eTru, eAnd, eOr, eNot, eNeg, eIf, eTup, eLst, eNew, eCall, eFn, eMe, eMk, eFld, eMeL, eMeL0, aNil, aCons, bAnd, bOr, bNot, bYes, sSeq, sNx, sEx, sRet, sRetN, sIf, sAsg, gSet, sPar, sFldM, sFldAdd, sRaise, Out.bind, Out.st, SO.seq, fin, runB, startW, f_law_take, N_law_take, s_law_take, cLen, orC, cLenQ, asQ, asL, h, Out.els, gEq_int, isL, mPop, intsW, cInt, gMod, gIC, hb, hne]
theorem take_ok {d : Nat} {b : Int} {l : List Int} (h : μ[d]? = some (.lst (intsW l))) (hb : 0 < b) : ∃ z l', f_law_take A [.loc d, .int b] μ = .ok (.int z) (μ.set d (.lst (intsW l'))) ∧ 0 ≤ z ∧ z < b := by
  rcases List.eq_nil_or_concat l with rfl | ⟨l', z, rfl⟩
  · exact ⟨0, [], by rw [take_nil h, set_same h], Int.le_refl _, hb⟩
  · rw [List.concat_eq_append] at h
    exact ⟨z % b, l', take_snoc h hb, Int.emod_nonneg _ (by omega), Int.emod_lt_of_pos _ hb⟩
/-! the draws: a list of ints, whatever the script -/
theorem sizeLine_val : sizeLine = 16777216 := by rw [sizeLine_eq]
theorem intsW_snoc (l : List Int) (z : Int) : intsW l ++ [.int z] = intsW (l ++ [z]) := by simp [eVar, eC, eBin, eTest, eTru, eAnd, eOr, eNot, eNeg, eIf, eTup, eLst, eNew, eCall, eFn, eMe, eMk, eFld, eMeL, eMeL0, aNil, aCons, bAnd, bOr, bNot, bYes, sSeq, sNx, sEx, sRet, sRetN, sIf, sAsg, gSet, sPar, sFldM, sFldAdd, sRaise, Out.bind, Out.st, SO.seq, fin, runB, startW, intsW]
theorem intsW_length (l : List Int) : (intsW l).length = l.length := by simp [eVar, eC, eBin, eTest, eTru, eAnd, eOr, eNot, eNeg, eIf, eTup, eLst, eNew, eCall, eFn, eMe, eMk, eFld, eMeL, eMeL0, aNil, aCons, bAnd, bOr, bNot, bYes, sSeq, sNx, sEx, sRet, sRetN, sIf, sAsg, gSet, sPar, sFldM, sFldAdd, sRaise, Out.bind, Out.st, SO.seq, fin, runB, startW, intsW]
theorem dr1 {w : W} {a b c d : Option W} {n : Int} {l : List Int} (h : l.length < sizeLine) : ∃ n' l', s_law_draws_1 A [some w, some (.loc 0), a, some (.int n), b, c, d] [.lst (intsW l)] = .nx [some w, some (.loc 0), a, some (.int n'), b, c, d] [.lst (intsW l')] ∧ l'.length ≤ l.length + 1 := by
  by_cases hn : 0 < n
  · refine ⟨n / 997, l ++ [n % 997], ?_, by simp⟩
    simp [eVar, eC, eBin, eTest, eTru, eAnd, eOr, eNot, eNeg, eIf, eTup, eLst, eNew, eCall, eFn, eMe, eMk, eFld, eMeL, eMeL0, aNil, aCons, bAnd, bOr, bNot, bYes, sSeq, sNx, sEx, sRet, sRetN, sIf, sAsg, gSet, sPar, sFldM, sFldAdd, sRaise, Out.bind, Out.st, SO.seq, fin, runB, startW, s_law_draws_1, gGt, gI, hn, cInt, gMod, gIC, isL, asL, mAppend, intsW_length, h, gDiv, intsW_snoc]
  · exact ⟨n, l, by simp [eVar, eC, eBin, eTest, eTru, eAnd, eOr, eNot, eNeg, eIf, eTup, eLst, eNew, eCall, eFn, eMe, eMk, eFld, eMeL, eMeL0, aNil, aCons, bAnd, bOr, bNot, bYes, sSeq, sNx, sEx, sRet, sRetN, sIf, sAsg, gSet, sPar, sFldM, sFldAdd, sRaise, Out.bind, Out.st, SO.seq, fin, runB, startW, s_law_draws_1, gGt, gI, hn], Nat.le_succ _⟩
theorem dr0 {w : W} {a b c d e : Option W} {n : Int} {l : List Int} (h : l.length < sizeLine) : ∃ n' l', s_law_draws_0 A [some w, some (.loc 0), a, b, c, d, some (.int n)] [.lst (intsW l)] = .nx [some w, some (.loc 0), a, b, c, d, some (.int n')] [.lst (intsW l')] ∧ l'.length ≤ l.length + 1 := by
  refine ⟨(n * 48271 + 69621) % 2147483647, l ++ [(n * 48271 + 69621) % 2147483647 / 5], ?_, by simp⟩
  simp [eVar, eC, eBin, eTest, eTru, eAnd, eOr, eNot, eNeg, eIf, eTup, eLst, eNew, eCall, eFn, eMe, eMk, eFld, eMeL, eMeL0, aNil, aCons, bAnd, bOr, bNot, bYes, sSeq, sNx, sEx, sRet, sRetN, sIf, sAsg, gSet, sPar, sFldM, sFldAdd, sRaise, Out.bind, Out.st, SO.seq, fin, runB, startW, s_law_draws_0, gAdd, gMul, gMulI, orG, Out.els, gAddI, gI, cInt, gMod, gIC, isL, asL, mAppend, intsW_length, h, gDiv, intsW_snoc]
theorem dr2 {w : W} {b c d e : Option W} {n : Int} {l : List Int} (h : l.length + 62 < sizeLine) : ∃ b' c' d' l', s_law_draws_2 A [some w, some (.loc 0), some (.int n), b, c, d, e] [.lst (intsW l)] = .nx [some w, some (.loc 0), some (.int n), b', c', d', e] [.lst (intsW l')] ∧ l'.length ≤ l.length + 62 := by
  -- the inner loop from any number on
  have inner : ∀ (m : Int) (c : Option W) (l : List Int), l.length + 60 < sizeLine → ∃ b' c' d' l', sFor (iRngA (aCons (eC (.int 60)) aNil)) (gSet 5) (s_law_draws_1 A) [some w, some (.loc 0), some (.int n), some (.int m), c, d, e] [.lst (intsW l)] = .nx [some w, some (.loc 0), some (.int n), b', c', d', e] [.lst (intsW l')] ∧ l'.length ≤ l.length + 60 := by
    intro m c l hl
    obtain ⟨ρ', μ', e1, c1, d1, m1, l1, rfl, rfl, h1⟩ := forS_inv (g := gSet 5) (body := s_law_draws_1 A) (fun i ρ μ => ∃ (c1 d1 : Option W) (m1 : Int) (l1 : List Int), ρ = [some w, some (.loc 0), some (.int n), some (.int m1), c1, d1, e] ∧ μ = [.lst (intsW l1)] ∧ l1.length ≤ l.length + i) (irange 0 60) 0
      [some w, some (.loc 0), some (.int n), some (.int m), c, d, e] [.lst (intsW l)] ⟨c, d, m, l, rfl, rfl, Nat.le_refl _⟩ fun j x ρ μ _ hx ⟨c1, d1, m1, l1, e1, e2, h1⟩ => by
        subst e1 e2
        have hj : j < 60 := by
          have := (List.getElem?_eq_some_iff.mp hx).1
          simpa [irange] using this
        obtain ⟨n', l', e3, h3⟩ := dr1 (A := A) (w := w) (a := some (.int n)) (b := c1) (c := some x) (d := e) (n := m1) (l := l1) (by omega)
        exact ⟨_, _, _, _, rfl, e3, _, _, _, _, rfl, rfl, by omega⟩
    refine ⟨some (.int m1), c1, d1, l1, ?_, by simpa [irange] using h1⟩
    simp [eVar, eC, eBin, eTest, eTru, eAnd, eOr, eNot, eNeg, eIf, eTup, eLst, eNew, eCall, eFn, eMe, eMk, eFld, eMeL, eMeL0, aNil, aCons, bAnd, bOr, bNot, bYes, sSeq, sNx, sEx, sRet, sRetN, sIf, sAsg, gSet, sPar, sFldM, sFldAdd, sRaise, Out.bind, Out.st, SO.seq, fin, runB, startW, sFor, iRngA]
    exact e1
  generalize hm : (if n < 0 then -n else n) = m at *
  by_cases hn : m < 1000000000000000000
  · obtain ⟨b', c', d', l', e1, h1⟩ := inner 0 (some (.int ((m * 48271 + 11) % 2147483647))) (l ++ [((m * 48271 + 11) % 2147483647 * 69621 + m) % 2147483629] ++ [((m * 48271 + 11) % 2147483647 + m / 7) % 1000003]) (by simp [eVar, eC, eBin, eTest, eTru, eAnd, eOr, eNot, eNeg, eIf, eTup, eLst, eNew, eCall, eFn, eMe, eMk, eFld, eMeL, eMeL0, aNil, aCons, bAnd, bOr, bNot, bYes, sSeq, sNx, sEx, sRet, sRetN, sIf, sAsg, gSet, sPar, sFldM, sFldAdd, sRaise, Out.bind, Out.st, SO.seq, fin, runB, startW]; omega)
    refine ⟨b', c', d', l', ?_, by simp at h1; omega⟩
    have hl1 : l.length < sizeLine := by omega
    have hl2 : l.length + 1 < sizeLine := by omega
    rw [← e1]
    simp [eVar, eC, eBin, eTest, eTru, eAnd, eOr, eNot, eNeg, eIf, eTup, eLst, eNew, eCall, eFn, eMe, eMk, eFld, eMeL, eMeL0, aNil, aCons, bAnd, bOr, bNot, bYes, sSeq, sNx, sEx, sRet, sRetN, sIf, sAsg, gSet, sPar, sFldM, sFldAdd, sRaise, Out.bind, Out.st, SO.seq, fin, runB, startW, s_law_draws_2, cAbs, hm, gLt, gI, gPow, gIC, hn, gAdd, gMul, gMulI, orG, Out.els, gAddI, cInt, gMod, isL, asL, mAppend, intsW_length, hl1, hl2, gDiv, intsW_snoc]
  · obtain ⟨b', c', d', l', e1, h1⟩ := inner m c l (by omega)
    refine ⟨b', c', d', l', ?_, by omega⟩
    rw [← e1]
    simp [eVar, eC, eBin, eTest, eTru, eAnd, eOr, eNot, eNeg, eIf, eTup, eLst, eNew, eCall, eFn, eMe, eMk, eFld, eMeL, eMeL0, aNil, aCons, bAnd, bOr, bNot, bYes, sSeq, sNx, sEx, sRet, sRetN, sIf, sAsg, gSet, sPar, sFldM, sFldAdd, sRaise, Out.bind, Out.st, SO.seq, fin, runB, startW, s_law_draws_2, cAbs, hm, gLt, gI, gPow, gIC, hn]
theorem draws_ok (ns : List Int) (hn : ns.length ≤ 63) : ∃ μ n l, f_law_draws A [.scr (ns.map .int)] [] = .ok (.loc n) μ ∧ μ[n]? = some (.lst (intsW l)) := by
  have sl := sizeLine_val
  -- the first loop
  obtain ⟨ρ1, μ1, e1, a1, b1, c1, d1, l1, rfl, rfl, h1⟩ := forS_inv (g := gSet 2) (body := s_law_draws_2 A) (fun i ρ μ => ∃ (a b c d : Option W) (l : List Int), ρ = [some (.scr (ns.map .int)), some (.loc 0), a, b, c, d, none] ∧ μ = [.lst (intsW l)] ∧ l.length ≤ 62 * i) (ns.map .int) 0
    [some (.scr (ns.map .int)), some (.loc 0), none, none, none, none, none] [.lst (intsW [])] ⟨none, none, none, none, [], rfl, rfl, Nat.le_refl _⟩ fun j x ρ μ _ hx ⟨a, b, c, d, l, e1, e2, h1⟩ => by
      subst e1 e2
      rw [Nat.sub_zero, List.getElem?_map] at hx
      obtain ⟨z, hz, rfl⟩ := Option.map_eq_some_iff.mp hx
      have hj : j < ns.length := (List.getElem?_eq_some_iff.mp hz).1
      obtain ⟨b', c', d', l', e3, h3⟩ := dr2 (A := A) (w := .scr (ns.map .int)) (b := b) (c := c) (d := d) (e := none) (n := z) (l := l) (by omega)
      exact ⟨_, _, _, _, rfl, e3, _, _, _, _, _, rfl, rfl, by omega⟩
  simp at h1
  -- the seed
  have seed : ∃ z : Int, (sIf (eTest (eBin gGt (eCall cLen (aCons (eVar 0) aNil)) (eC (.int 0)))) (sAsg (eBin gAdd (eC (.int 1)) (eCall cAbs (aCons (eBin gIx (eVar 0) (eC (.int 0))) aNil))) (gSet 6)) sNx) [some (.scr (ns.map .int)), some (.loc 0), a1, b1, c1, d1, some (.int 1)] [.lst (intsW l1)] =
      .nx [some (.scr (ns.map .int)), some (.loc 0), a1, b1, c1, d1, some (.int z)] [.lst (intsW l1)] := by
    cases ns with
    | nil => exact ⟨1, by simp [eVar, eC, eBin, eTest, eTru, eAnd, eOr, eNot, eNeg, eIf, eTup, eLst, eNew, eCall, eFn, eMe, eMk, eFld, eMeL, eMeL0, aNil, aCons, bAnd, bOr, bNot, bYes, sSeq, sNx, sEx, sRet, sRetN, sIf, sAsg, gSet, sPar, sFldM, sFldAdd, sRaise, Out.bind, Out.st, SO.seq, fin, runB, startW, cLen, orC, cLenQ, asQ, Out.els, gGt, gI]⟩
    | cons n ns =>
      have hne : ¬ ((0 : Int) < (ns.length : Int) + 1) → False := by omega
      have hp : (0 : Int) < (ns.length : Int) + 1 := by omega
      exact ⟨1 + (if n < 0 then -n else n), by simp [eVar, eC, eBin, eTest, eTru, eAnd, eOr, eNot, eNeg, eIf, eTup, eLst, eNew, eCall, eFn, eMe, eMk, eFld, eMeL, eMeL0, aNil, aCons, bAnd, bOr, bNot, bYes, sSeq, sNx, sEx, sRet, sRetN, sIf, sAsg, gSet, sPar, sFldM, sFldAdd, sRaise, Out.bind, Out.st, SO.seq, fin, runB, startW, cLen, orC, cLenQ, asQ, Out.els, gGt, gI, hp, gIx, gIxQ, orG, atI, ixN, cAbs, gAdd, gAddI]⟩
  obtain ⟨z, e2⟩ := seed
  obtain ⟨ρ3, μ3, e3, d3, z3, l3, rfl, rfl, h3⟩ := forS_inv (g := gSet 5) (body := s_law_draws_0 A) (fun i ρ μ => ∃ (d : Option W) (z : Int) (l : List Int), ρ = [some (.scr (ns.map .int)), some (.loc 0), a1, b1, c1, d, some (.int z)] ∧ μ = [.lst (intsW l)] ∧ l.length ≤ l1.length + i) (irange 0 900) 0
    [some (.scr (ns.map .int)), some (.loc 0), a1, b1, c1, d1, some (.int z)] [.lst (intsW l1)] ⟨d1, z, l1, rfl, rfl, Nat.le_refl _⟩ fun j x ρ μ _ hx ⟨d, z, l, e1, e2, h1⟩ => by
      subst e1 e2
      have hj : j < 900 := by
        have := (List.getElem?_eq_some_iff.mp hx).1
        simpa [irange] using this
      obtain ⟨n', l', e3, h3⟩ := dr0 (A := A) (w := .scr (ns.map .int)) (a := a1) (b := b1) (c := c1) (d := some x) (e := d) (n := z) (l := l) (by omega)
      exact ⟨_, _, _, _, rfl, e3, _, _, _, rfl, rfl, by omega⟩
  refine ⟨[.lst (intsW l3), .lst (intsW l3.reverse)], 1, l3.reverse, ?_, rfl⟩
  have f1 : sFor (iSeq (eVar 0)) (gSet 2) (s_law_draws_2 A) [some (.scr (ns.map .int)), some (.loc 0), none, none, none, none, none] [.lst []] = .nx [some (.scr (ns.map .int)), some (.loc 0), a1, b1, c1, d1, none] [.lst (intsW l1)] := by
    rw [← e1]
    simp [eVar, eC, eBin, eTest, eTru, eAnd, eOr, eNot, eNeg, eIf, eTup, eLst, eNew, eCall, eFn, eMe, eMk, eFld, eMeL, eMeL0, aNil, aCons, bAnd, bOr, bNot, bYes, sSeq, sNx, sEx, sRet, sRetN, sIf, sAsg, gSet, sPar, sFldM, sFldAdd, sRaise, Out.bind, Out.st, SO.seq, fin, runB, startW, sFor, iSeq, itOf, asQ, intsW]
  have f3 : sFor (iRngA (aCons (eC (.int 900)) aNil)) (gSet 5) (s_law_draws_0 A) [some (.scr (ns.map .int)), some (.loc 0), a1, b1, c1, d1, some (.int z)] [.lst (intsW l1)] = .nx [some (.scr (ns.map .int)), some (.loc 0), a1, b1, c1, d3, some (.int z3)] [.lst (intsW l3)] := by
    rw [← e3]
    simp [eVar, eC, eBin, eTest, eTru, eAnd, eOr, eNot, eNeg, eIf, eTup, eLst, eNew, eCall, eFn, eMe, eMk, eFld, eMeL, eMeL0, aNil, aCons, bAnd, bOr, bNot, bYes, sSeq, sNx, sEx, sRet, sRetN, sIf, sAsg, gSet, sPar, sFldM, sFldAdd, sRaise, Out.bind, Out.st, SO.seq, fin, runB, startW, sFor, iRngA]
  have hz : 0 ≤ sizeLine := Nat.zero_le _
  have s1 : s_law_draws A [some (.scr (ns.map .int)), none, none, none, none, none, none] [] = .rt (.loc 1) [.lst (intsW l3), .lst (intsW l3.reverse)] := by
    refine (seq_nx (ρ1 := [some (.scr (ns.map .int)), some (.loc 0), none, none, none, none, none]) (μ1 := [.lst []]) (by simp [eVar, eC, eBin, eTest, eTru, eAnd, eOr, eNot, eNeg, eIf, eTup, eLst, eNew, eCall, eFn, eMe, eMk, eFld, eMeL, eMeL0, aNil, aCons, bAnd, bOr, bNot, bYes, sSeq, sNx, sEx, sRet, sRetN, sIf, sAsg, gSet, sPar, sFldM, sFldAdd, sRaise, Out.bind, Out.st, SO.seq, fin, runB, startW, hz])).trans ((seq_nx f1).trans ((seq_nx (ρ1 := [some (.scr (ns.map .int)), some (.loc 0), a1, b1, c1, d1, some (.int 1)]) (μ1 := [.lst (intsW l1)]) (by simp [eVar, eC, eBin, eTest, eTru, eAnd, eOr, eNot, eNeg, eIf, eTup, eLst, eNew, eCall, eFn, eMe, eMk, eFld, eMeL, eMeL0, aNil, aCons, bAnd, bOr, bNot, bYes, sSeq, sNx, sEx, sRet, sRetN, sIf, sAsg, gSet, sPar, sFldM, sFldAdd, sRaise, Out.bind, Out.st, SO.seq, fin, runB, startW])).trans ((seq_nx e2).trans ((seq_nx f3).trans ?_))))
    simp [eVar, eC, eBin, eTest, eTru, eAnd, eOr, eNot, eNeg, eIf, eTup, eLst, eNew, eCall, eFn, eMe, eMk, eFld, eMeL, eMeL0, aNil, aCons, bAnd, bOr, bNot, bYes, sSeq, sNx, sEx, sRet, sRetN, sIf, sAsg, gSet, sPar, sFldM, sFldAdd, sRaise, Out.bind, Out.st, SO.seq, fin, runB, startW, eRevM, asL, intsW]
  simp [eVar, eC, eBin, eTest, eTru, eAnd, eOr, eNot, eNeg, eIf, eTup, eLst, eNew, eCall, eFn, eMe, eMk, eFld, eMeL, eMeL0, aNil, aCons, bAnd, bOr, bNot, bYes, sSeq, sNx, sEx, sRet, sRetN, sIf, sAsg, gSet, sPar, sFldM, sFldAdd, sRaise, Out.bind, Out.st, SO.seq, fin, runB, startW, f_law_draws, N_law_draws, s1]
end
end K44
namespace K44
open PySem PySem.Spec PyProof.Rows L2 PD
section
variable {A : Adr} {μ : Mu}
theorem alike_int (n : Nat) (i : Int) : fr_law_alike A (n + 1) [.int i, .int i] μ = .ok (.bl true) μ := by
  simp [eVar, eC, eBin, eTest, eTru, eAnd, eOr, eNot, eNeg, eIf, eTup, eLst, eNew, eCall, eFn, eMe, eMk, eFld, eMeL, eMeL0, aNil, aCons, bAnd, bOr, bNot, bYes, sSeq, sNx, sEx, sRet, sRetN, sIf, sAsg, gSet, sPar, sFldM, sFldAdd, sRaise, Out.bind, Out.st, SO.seq, fin, runB, startW, fr_law_alike, N_law_alike, s_law_alike, cIsi, tyB, btOf, Bt.isA, truW, gIsN, PD.isNon, gEq_int]
theorem alike_walk {n : Nat} {l : List W} {f d : W} (hf : asQ μ f = some l) (hd : asQ μ d = some l) (h : ∀ x ∈ l, fr_law_alike A n [x, x] μ = .ok (.bl true) μ) (hl : l.length ≤ sizeLine) :
    eCmp (iRngA (aCons (eCall cLen (aCons (eVar 1) aNil)) aNil)) [2] (gSet 2) (bNot (eTru (eFn 2 (fr_law_alike A n) (aCons (eBin gIx (eVar 0) (eVar 2)) (aCons (eBin gIx (eVar 1) (eVar 2)) aNil))))) (eVar 2) [some f, some d, none] μ = .ok (.lst []) μ := by
  have sl := sizeLine_val
  have b1 : -(2 ^ 62) ≤ (l.length : Int) ∧ (l.length : Int) < 2 ^ 62 := by omega
  have b2 : -4611686018427387904 ≤ (l.length : Int) := by omega
  have b3 : (l.length : Int) < 4611686018427387904 := by omega
  simp [eVar, eC, eBin, eTest, eTru, eAnd, eOr, eNot, eNeg, eIf, eTup, eLst, eNew, eCall, eFn, eMe, eMk, eFld, eMeL, eMeL0, aNil, aCons, bAnd, bOr, bNot, bYes, sSeq, sNx, sEx, sRet, sRetN, sIf, sAsg, gSet, sPar, sFldM, sFldAdd, sRaise, Out.bind, Out.st, SO.seq, fin, runB, startW, eCmp, iRngA, cLen_q hd, b2, b3]
  refine cmpS_none fun x hx => ?_
  obtain ⟨i, hi, rfl⟩ := mem_irange hx
  have hx : l[i]? = some l[i] := List.getElem?_eq_getElem hi
  have ha := L2.atI_nat hx
  refine ⟨_, rfl, ?_⟩
  simp [eVar, eC, eBin, eTest, eTru, eAnd, eOr, eNot, eNeg, eIf, eTup, eLst, eNew, eCall, eFn, eMe, eMk, eFld, eMeL, eMeL0, aNil, aCons, bAnd, bOr, bNot, bYes, sSeq, sNx, sEx, sRet, sRetN, sIf, sAsg, gSet, sPar, sFldM, sFldAdd, sRaise, Out.bind, Out.st, SO.seq, fin, runB, startW, wipeW, gIx, orG, gIxQ, hf, hd, ha, Out.els, h l[i] (List.getElem_mem hi), truW]
theorem alike_ret_tup {l : List W} {c : EM} (e : c [some (.tup l), some (.tup l), none] μ = .ok (.lst []) μ) : (sRet (eAnd (eBin gEq (eCall cLen (aCons (eVar 0) aNil)) (eCall cLen (aCons (eVar 1) aNil))) (eBin gEq c (eLst aNil)))) [some (.tup l), some (.tup l), none] μ = .rt (.bl true) μ := by
  simp [eVar, eC, eBin, eTest, eTru, eAnd, eOr, eNot, eNeg, eIf, eTup, eLst, eNew, eCall, eFn, eMe, eMk, eFld, eMeL, eMeL0, aNil, aCons, bAnd, bOr, bNot, bYes, sSeq, sNx, sEx, sRet, sRetN, sIf, sAsg, gSet, sPar, sFldM, sFldAdd, sRaise, Out.bind, Out.st, SO.seq, fin, runB, startW, cLen_tup, gEq_int, gEq_nil, e]
theorem alike_tup {n : Nat} {l : List W} (h : ∀ x ∈ l, fr_law_alike A n [x, x] μ = .ok (.bl true) μ) (hl : l.length ≤ sizeLine) : fr_law_alike A (n + 1) [.tup l, .tup l] μ = .ok (.bl true) μ := by
  have e := alike_walk (f := .tup l) (d := .tup l) rfl rfl h hl
  have h : s_law_alike A (fr_law_alike A n) [some (.tup l), some (.tup l), none] μ = .rt (.bl true) μ :=
    seq_rt ((if_yes μ (by simp [eVar, eC, eBin, eTest, eTru, eAnd, eOr, eNot, eNeg, eIf, eTup, eLst, eNew, eCall, eFn, eMe, eMk, eFld, eMeL, eMeL0, aNil, aCons, bAnd, bOr, bNot, bYes, sSeq, sNx, sEx, sRet, sRetN, sIf, sAsg, gSet, sPar, sFldM, sFldAdd, sRaise, Out.bind, Out.st, SO.seq, fin, runB, startW, cIsi, tyB, btOf, Bt.isA, truW])).trans ((seq_nx (ρ1 := [some (.tup l), some (.tup l), none]) (μ1 := μ) (by simp [eVar, eC, eBin, eTest, eTru, eAnd, eOr, eNot, eNeg, eIf, eTup, eLst, eNew, eCall, eFn, eMe, eMk, eFld, eMeL, eMeL0, aNil, aCons, bAnd, bOr, bNot, bYes, sSeq, sNx, sEx, sRet, sRetN, sIf, sAsg, gSet, sPar, sFldM, sFldAdd, sRaise, Out.bind, Out.st, SO.seq, fin, runB, startW, cIsi, tyB, btOf, Bt.isA, gNe_bl])).trans (alike_ret_tup e)))
  show fin (s_law_alike A (fr_law_alike A n) [some (.tup l), some (.tup l), none] μ) = _
  rw [h]
  rfl
theorem alike_ret_lst {l : List W} {c : EM} (e : c [some (.lst l), some (.lst l), none] μ = .ok (.lst []) μ) : (sRet (eAnd (eBin gEq (eCall cLen (aCons (eVar 0) aNil)) (eCall cLen (aCons (eVar 1) aNil))) (eBin gEq c (eLst aNil)))) [some (.lst l), some (.lst l), none] μ = .rt (.bl true) μ := by
  simp [eVar, eC, eBin, eTest, eTru, eAnd, eOr, eNot, eNeg, eIf, eTup, eLst, eNew, eCall, eFn, eMe, eMk, eFld, eMeL, eMeL0, aNil, aCons, bAnd, bOr, bNot, bYes, sSeq, sNx, sEx, sRet, sRetN, sIf, sAsg, gSet, sPar, sFldM, sFldAdd, sRaise, Out.bind, Out.st, SO.seq, fin, runB, startW, cLen_lst, gEq_int, gEq_nil, e]
theorem alike_lst {n : Nat} {l : List W} (h : ∀ x ∈ l, fr_law_alike A n [x, x] μ = .ok (.bl true) μ) (hl : l.length ≤ sizeLine) : fr_law_alike A (n + 1) [.lst l, .lst l] μ = .ok (.bl true) μ := by
  have e := alike_walk (f := .lst l) (d := .lst l) rfl rfl h hl
  have h : s_law_alike A (fr_law_alike A n) [some (.lst l), some (.lst l), none] μ = .rt (.bl true) μ :=
    seq_rt ((if_yes μ (by simp [eVar, eC, eBin, eTest, eTru, eAnd, eOr, eNot, eNeg, eIf, eTup, eLst, eNew, eCall, eFn, eMe, eMk, eFld, eMeL, eMeL0, aNil, aCons, bAnd, bOr, bNot, bYes, sSeq, sNx, sEx, sRet, sRetN, sIf, sAsg, gSet, sPar, sFldM, sFldAdd, sRaise, Out.bind, Out.st, SO.seq, fin, runB, startW, cIsi, tyB, btOf, Bt.isA, truW])).trans ((seq_nx (ρ1 := [some (.lst l), some (.lst l), none]) (μ1 := μ) (by simp [eVar, eC, eBin, eTest, eTru, eAnd, eOr, eNot, eNeg, eIf, eTup, eLst, eNew, eCall, eFn, eMe, eMk, eFld, eMeL, eMeL0, aNil, aCons, bAnd, bOr, bNot, bYes, sSeq, sNx, sEx, sRet, sRetN, sIf, sAsg, gSet, sPar, sFldM, sFldAdd, sRaise, Out.bind, Out.st, SO.seq, fin, runB, startW, cIsi, tyB, btOf, Bt.isA, gNe_bl])).trans (alike_ret_lst e)))
  show fin (s_law_alike A (fr_law_alike A n) [some (.lst l), some (.lst l), none] μ) = _
  rw [h]
  rfl
theorem alike_walk2 {n : Nat} {lf ld : List W} {f d : W} (hf : asQ μ f = some lf) (hd : asQ μ d = some ld) (hn : lf.length = ld.length) (h : ∀ (i : Nat) x y, lf[i]? = some x → ld[i]? = some y → fr_law_alike A n [x, y] μ = .ok (.bl true) μ) (hl : ld.length ≤ sizeLine) :
    eCmp (iRngA (aCons (eCall cLen (aCons (eVar 1) aNil)) aNil)) [2] (gSet 2) (bNot (eTru (eFn 2 (fr_law_alike A n) (aCons (eBin gIx (eVar 0) (eVar 2)) (aCons (eBin gIx (eVar 1) (eVar 2)) aNil))))) (eVar 2) [some f, some d, none] μ = .ok (.lst []) μ := by
  have sl := sizeLine_val
  have b1 : -(2 ^ 62) ≤ (ld.length : Int) ∧ (ld.length : Int) < 2 ^ 62 := by omega
  have b2 : -4611686018427387904 ≤ (ld.length : Int) := by omega
  have b3 : (ld.length : Int) < 4611686018427387904 := by omega
  simp [eVar, eC, eBin, eTest, eTru, eAnd, eOr, eNot, eNeg, eIf, eTup, eLst, eNew, eCall, eFn, eMe, eMk, eFld, eMeL, eMeL0, aNil, aCons, bAnd, bOr, bNot, bYes, sSeq, sNx, sEx, sRet, sRetN, sIf, sAsg, gSet, sPar, sFldM, sFldAdd, sRaise, Out.bind, Out.st, SO.seq, fin, runB, startW, eCmp, iRngA, cLen_q hd, b2, b3]
  refine cmpS_none fun x hx => ?_
  obtain ⟨i, hi, rfl⟩ := mem_irange hx
  have hy : ld[i]? = some ld[i] := List.getElem?_eq_getElem hi
  have hx : lf[i]? = some (lf[i]'(by omega)) := List.getElem?_eq_getElem (by omega)
  have ha := L2.atI_nat hx
  have hb := L2.atI_nat hy
  refine ⟨_, rfl, ?_⟩
  simp [eVar, eC, eBin, eTest, eTru, eAnd, eOr, eNot, eNeg, eIf, eTup, eLst, eNew, eCall, eFn, eMe, eMk, eFld, eMeL, eMeL0, aNil, aCons, bAnd, bOr, bNot, bYes, sSeq, sNx, sEx, sRet, sRetN, sIf, sAsg, gSet, sPar, sFldM, sFldAdd, sRaise, Out.bind, Out.st, SO.seq, fin, runB, startW, wipeW, gIx, orG, gIxQ, hf, hd, ha, hb, Out.els, h i _ _ hx hy, truW]
theorem alike_ret2 {f d : W} {lf ld : List W} (hf : asQ μ f = some lf) (hd : asQ μ d = some ld) (hn : lf.length = ld.length) {c : EM} (e : c [some f, some d, none] μ = .ok (.lst []) μ) : (sRet (eAnd (eBin gEq (eCall cLen (aCons (eVar 0) aNil)) (eCall cLen (aCons (eVar 1) aNil))) (eBin gEq c (eLst aNil)))) [some f, some d, none] μ = .rt (.bl true) μ := by
  simp [eVar, eC, eBin, eTest, eTru, eAnd, eOr, eNot, eNeg, eIf, eTup, eLst, eNew, eCall, eFn, eMe, eMk, eFld, eMeL, eMeL0, aNil, aCons, bAnd, bOr, bNot, bYes, sSeq, sNx, sEx, sRet, sRetN, sIf, sAsg, gSet, sPar, sFldM, sFldAdd, sRaise, Out.bind, Out.st, SO.seq, fin, runB, startW, cLen_q hf, cLen_q hd, gEq_int, gEq_nil, e, hn]
theorem alike_loc {n m : Nat} {l : List W} (hm : μ[m]? = some (.lst l)) (h : ∀ x ∈ l, fr_law_alike A n [x, x] μ = .ok (.bl true) μ) (hl : l.length ≤ sizeLine) : fr_law_alike A (n + 1) [.loc m, .lst l] μ = .ok (.bl true) μ := by
  have hf : asQ μ (.loc m) = some l := by simp only [asQ, asL, hm]
  have hd : asQ μ (.lst l) = some l := rfl
  have e := alike_walk2 (A := A) (n := n) hf hd rfl (fun i x y hx hy => by rw [hx] at hy; cases hy; exact h x (List.mem_of_getElem? hx)) hl
  have h : s_law_alike A (fr_law_alike A n) [some (.loc m), some (.lst l), none] μ = .rt (.bl true) μ :=
    seq_rt ((if_yes μ (by simp [eVar, eC, eBin, eTest, eTru, eAnd, eOr, eNot, eNeg, eIf, eTup, eLst, eNew, eCall, eFn, eMe, eMk, eFld, eMeL, eMeL0, aNil, aCons, bAnd, bOr, bNot, bYes, sSeq, sNx, sEx, sRet, sRetN, sIf, sAsg, gSet, sPar, sFldM, sFldAdd, sRaise, Out.bind, Out.st, SO.seq, fin, runB, startW, cIsi, tyB, btOf, Bt.isA, truW])).trans ((seq_nx (ρ1 := [some (.loc m), some (.lst l), none]) (μ1 := μ) (by simp [eVar, eC, eBin, eTest, eTru, eAnd, eOr, eNot, eNeg, eIf, eTup, eLst, eNew, eCall, eFn, eMe, eMk, eFld, eMeL, eMeL0, aNil, aCons, bAnd, bOr, bNot, bYes, sSeq, sNx, sEx, sRet, sRetN, sIf, sAsg, gSet, sPar, sFldM, sFldAdd, sRaise, Out.bind, Out.st, SO.seq, fin, runB, startW, cIsi, tyB, btOf, Bt.isA, gNe_bl, hm])).trans (alike_ret2 hf hd rfl e)))
  show fin (s_law_alike A (fr_law_alike A n) [some (.loc m), some (.lst l), none] μ) = _
  rw [h]
  rfl
theorem alike_lst2 {n : Nat} {lf ld : List W} (hn : lf.length = ld.length) (h : ∀ (i : Nat) x y, lf[i]? = some x → ld[i]? = some y → fr_law_alike A n [x, y] μ = .ok (.bl true) μ) (hl : ld.length ≤ sizeLine) : fr_law_alike A (n + 1) [.lst lf, .lst ld] μ = .ok (.bl true) μ := by
  have e := alike_walk2 (A := A) (n := n) (f := .lst lf) (d := .lst ld) rfl rfl hn h hl
  have h : s_law_alike A (fr_law_alike A n) [some (.lst lf), some (.lst ld), none] μ = .rt (.bl true) μ :=
    seq_rt ((if_yes μ (by simp [eVar, eC, eBin, eTest, eTru, eAnd, eOr, eNot, eNeg, eIf, eTup, eLst, eNew, eCall, eFn, eMe, eMk, eFld, eMeL, eMeL0, aNil, aCons, bAnd, bOr, bNot, bYes, sSeq, sNx, sEx, sRet, sRetN, sIf, sAsg, gSet, sPar, sFldM, sFldAdd, sRaise, Out.bind, Out.st, SO.seq, fin, runB, startW, cIsi, tyB, btOf, Bt.isA, truW])).trans ((seq_nx (ρ1 := [some (.lst lf), some (.lst ld), none]) (μ1 := μ) (by simp [eVar, eC, eBin, eTest, eTru, eAnd, eOr, eNot, eNeg, eIf, eTup, eLst, eNew, eCall, eFn, eMe, eMk, eFld, eMeL, eMeL0, aNil, aCons, bAnd, bOr, bNot, bYes, sSeq, sNx, sEx, sRet, sRetN, sIf, sAsg, gSet, sPar, sFldM, sFldAdd, sRaise, Out.bind, Out.st, SO.seq, fin, runB, startW, cIsi, tyB, btOf, Bt.isA, gNe_bl])).trans (alike_ret2 rfl rfl hn e)))
  show fin (s_law_alike A (fr_law_alike A n) [some (.lst lf), some (.lst ld), none] μ) = _
  rw [h]
  rfl
theorem alike_non (n : Nat) : fr_law_alike A (n + 1) [.non, .non] μ = .ok (.bl true) μ := by
  simp [eVar, eC, eBin, eTest, eTru, eAnd, eOr, eNot, eNeg, eIf, eTup, eLst, eNew, eCall, eFn, eMe, eMk, eFld, eMeL, eMeL0, aNil, aCons, bAnd, bOr, bNot, bYes, sSeq, sNx, sEx, sRet, sRetN, sIf, sAsg, gSet, sPar, sFldM, sFldAdd, sRaise, Out.bind, Out.st, SO.seq, fin, runB, startW, fr_law_alike, N_law_alike, s_law_alike, cIsi, tyB, btOf, Bt.isA, truW, gIsN, PD.isNon]
theorem alike_str (n : Nat) {x : Str} (hx : PyData.canLay0 (.str x) = true) : fr_law_alike A (n + 1) [.str x, .str x] μ = .ok (.bl true) μ := by
  have e : gEq (.str x) (.str x) μ = .ok (.bl true) μ := by rw [gEq_str hx hx]; simp [eVar, eC, eBin, eTest, eTru, eAnd, eOr, eNot, eNeg, eIf, eTup, eLst, eNew, eCall, eFn, eMe, eMk, eFld, eMeL, eMeL0, aNil, aCons, bAnd, bOr, bNot, bYes, sSeq, sNx, sEx, sRet, sRetN, sIf, sAsg, gSet, sPar, sFldM, sFldAdd, sRaise, Out.bind, Out.st, SO.seq, fin, runB, startW]
  simp [eVar, eC, eBin, eTest, eTru, eAnd, eOr, eNot, eNeg, eIf, eTup, eLst, eNew, eCall, eFn, eMe, eMk, eFld, eMeL, eMeL0, aNil, aCons, bAnd, bOr, bNot, bYes, sSeq, sNx, sEx, sRet, sRetN, sIf, sAsg, gSet, sPar, sFldM, sFldAdd, sRaise, Out.bind, Out.st, SO.seq, fin, runB, startW, fr_law_alike, N_law_alike, s_law_alike, cIsi, tyB, btOf, Bt.isA, truW, gIsN, PD.isNon, e]
theorem says_bl (b : Bool) : f_law_says A [.bl b, .bl b] μ = .ok (.bl true) μ := by
  simp [eVar, eC, eBin, eTest, eTru, eAnd, eOr, eNot, eNeg, eIf, eTup, eLst, eNew, eCall, eFn, eMe, eMk, eFld, eMeL, eMeL0, aNil, aCons, bAnd, bOr, bNot, bYes, sSeq, sNx, sEx, sRet, sRetN, sIf, sAsg, gSet, sPar, sFldM, sFldAdd, sRaise, Out.bind, Out.st, SO.seq, fin, runB, startW, f_law_says, N_law_says, s_law_says, cIsi, tyB, btOf, Bt.isA, gEq_bl]
theorem alike_pair (n : Nat) (p : Int × Int) : fr_law_alike A (n + 2) [pairW p, pairW p] μ = .ok (.bl true) μ := by
  refine alike_tup (fun x hx => ?_) (by have := sizeLine_val; simp [eVar, eC, eBin, eTest, eTru, eAnd, eOr, eNot, eNeg, eIf, eTup, eLst, eNew, eCall, eFn, eMe, eMk, eFld, eMeL, eMeL0, aNil, aCons, bAnd, bOr, bNot, bYes, sSeq, sNx, sEx, sRet, sRetN, sIf, sAsg, gSet, sPar, sFldM, sFldAdd, sRaise, Out.bind, Out.st, SO.seq, fin, runB, startW]; omega)
  simp at hx
  rcases hx with rfl | rfl <;> exact alike_int _ _
end
end K44
namespace K44
open PySem PySem.Spec PyProof.Rows L2 PD
section
variable {A : Adr} {μ : Mu}
/-- a queue's attributes -/
def qf (o r : W) (t : Nat) (g : Int) : List (Str × W) := [("order", o), ("room", r), ("things", .loc t), ("gone", .int g)]
def isOrder (o : Str) : Prop := o = "first" ∨ o = "last" ∨ o = "least"
def isRoom (r : W) : Prop := r = .non ∨ ∃ n : Int, r = .int n ∧ 0 ≤ n ∧ n ≤ 1000
theorem number_ok {n a b : Int} : f_is_number A [.int n, .int a, .int b] μ = .ok (.bl (decide (a ≤ n) && decide (n ≤ b))) μ := by
  by_cases h : a ≤ n
  · simp [eVar, eC, eBin, eTest, eTru, eAnd, eOr, eNot, eNeg, eIf, eTup, eLst, eNew, eCall, eFn, eMe, eMk, eFld, eMeL, eMeL0, aNil, aCons, bAnd, bOr, bNot, bYes, sSeq, sNx, sEx, sRet, sRetN, sIf, sAsg, gSet, sPar, sFldM, sFldAdd, sRaise, Out.bind, Out.st, SO.seq, fin, runB, startW, f_is_number, N_is_number, s_is_number, cIsi, tyB, btOf, Bt.isA, eChain, gLe, gI, h]
  · simp [eVar, eC, eBin, eTest, eTru, eAnd, eOr, eNot, eNeg, eIf, eTup, eLst, eNew, eCall, eFn, eMe, eMk, eFld, eMeL, eMeL0, aNil, aCons, bAnd, bOr, bNot, bYes, sSeq, sNx, sEx, sRet, sRetN, sIf, sAsg, gSet, sPar, sFldM, sFldAdd, sRaise, Out.bind, Out.st, SO.seq, fin, runB, startW, f_is_number, N_is_number, s_is_number, cIsi, tyB, btOf, Bt.isA, eChain, gLe, gI, h]
theorem order_in {o : Str} (h : isOrder o) {μ : Mu} : gNotIn (.str o) (.tup k_ORDERS) μ = .ok (.bl false) μ := by
  rcases h with rfl | rfl | rfl <;> rfl
theorem sn1 : ¬ (Str.ofString "order" = Str.ofString "room") := by decide +kernel
theorem sn2 : ¬ (Str.ofString "order" = Str.ofString "things") := by decide +kernel
theorem sn3 : ¬ (Str.ofString "order" = Str.ofString "gone") := by decide +kernel
theorem sn4 : ¬ (Str.ofString "room" = Str.ofString "things") := by decide +kernel
theorem sn5 : ¬ (Str.ofString "room" = Str.ofString "gone") := by decide +kernel
theorem sn6 : ¬ (Str.ofString "things" = Str.ofString "gone") := by decide +kernel
theorem sb0 : (Str.ofString "room" == Str.ofString "order") = false := by decide +kernel
theorem sb1 : (Str.ofString "things" == Str.ofString "order") = false := by decide +kernel
theorem sb2 : (Str.ofString "gone" == Str.ofString "order") = false := by decide +kernel
theorem sb3 : (Str.ofString "things" == Str.ofString "room") = false := by decide +kernel
theorem sb4 : (Str.ofString "gone" == Str.ofString "room") = false := by decide +kernel
theorem sb5 : (Str.ofString "gone" == Str.ofString "things") = false := by decide +kernel
theorem qf_order {o r : W} {t : Nat} {g : Int} : (qf o r t g).lookup ("order" : Str) = some o := by simp [eVar, eC, eBin, eTest, eTru, eAnd, eOr, eNot, eNeg, eIf, eTup, eLst, eNew, eCall, eFn, eMe, eMk, eFld, eMeL, eMeL0, aNil, aCons, bAnd, bOr, bNot, bYes, sSeq, sNx, sEx, sRet, sRetN, sIf, sAsg, gSet, sPar, sFldM, sFldAdd, sRaise, Out.bind, Out.st, SO.seq, fin, runB, startW, sn1, sn2, sn3, sn4, sn5, sn6, sb0, sb1, sb2, sb3, sb4, sb5, qf, List.lookup]
theorem qf_room {o r : W} {t : Nat} {g : Int} : (qf o r t g).lookup ("room" : Str) = some r := by simp [eVar, eC, eBin, eTest, eTru, eAnd, eOr, eNot, eNeg, eIf, eTup, eLst, eNew, eCall, eFn, eMe, eMk, eFld, eMeL, eMeL0, aNil, aCons, bAnd, bOr, bNot, bYes, sSeq, sNx, sEx, sRet, sRetN, sIf, sAsg, gSet, sPar, sFldM, sFldAdd, sRaise, Out.bind, Out.st, SO.seq, fin, runB, startW, sn1, sn2, sn3, sn4, sn5, sn6, sb0, sb1, sb2, sb3, sb4, sb5, qf, List.lookup]
theorem qf_things {o r : W} {t : Nat} {g : Int} : (qf o r t g).lookup ("things" : Str) = some (.loc t) := by simp [eVar, eC, eBin, eTest, eTru, eAnd, eOr, eNot, eNeg, eIf, eTup, eLst, eNew, eCall, eFn, eMe, eMk, eFld, eMeL, eMeL0, aNil, aCons, bAnd, bOr, bNot, bYes, sSeq, sNx, sEx, sRet, sRetN, sIf, sAsg, gSet, sPar, sFldM, sFldAdd, sRaise, Out.bind, Out.st, SO.seq, fin, runB, startW, sn1, sn2, sn3, sn4, sn5, sn6, sb0, sb1, sb2, sb3, sb4, sb5, qf, List.lookup]
theorem qf_gone {o r : W} {t : Nat} {g : Int} : (qf o r t g).lookup ("gone" : Str) = some (.int g) := by simp [eVar, eC, eBin, eTest, eTru, eAnd, eOr, eNot, eNeg, eIf, eTup, eLst, eNew, eCall, eFn, eMe, eMk, eFld, eMeL, eMeL0, aNil, aCons, bAnd, bOr, bNot, bYes, sSeq, sNx, sEx, sRet, sRetN, sIf, sAsg, gSet, sPar, sFldM, sFldAdd, sRaise, Out.bind, Out.st, SO.seq, fin, runB, startW, sn1, sn2, sn3, sn4, sn5, sn6, sb0, sb1, sb2, sb3, sb4, sb5, qf, List.lookup]
theorem qf_no {o r : W} {t : Nat} {g : Int} {m : Str} (h : m = "put" ∨ m = "take" ∨ m = "place" ∨ m = "many" ∨ m = "waiting" ∨ m = "lost") : (qf o r t g).lookup m = none := by
  have e : ∀ m : Str, (m == Str.ofString "order") = false → (m == Str.ofString "room") = false → (m == Str.ofString "things") = false → (m == Str.ofString "gone") = false → (qf o r t g).lookup m = none := fun m h1 h2 h3 h4 => by simp [eVar, eC, eBin, eTest, eTru, eAnd, eOr, eNot, eNeg, eIf, eTup, eLst, eNew, eCall, eFn, eMe, eMk, eFld, eMeL, eMeL0, aNil, aCons, bAnd, bOr, bNot, bYes, sSeq, sNx, sEx, sRet, sRetN, sIf, sAsg, gSet, sPar, sFldM, sFldAdd, sRaise, Out.bind, Out.st, SO.seq, fin, runB, startW, sn1, sn2, sn3, sn4, sn5, sn6, sb0, sb1, sb2, sb3, sb4, sb5, qf, List.lookup, h1, h2, h3, h4]
  rcases h with rfl | rfl | rfl | rfl | rfl | rfl <;> exact e _ (by decide +kernel) (by decide +kernel) (by decide +kernel) (by decide +kernel)
theorem qf_gone_put {o r : W} {t : Nat} {g h : Int} : putW "gone" (.int h) (qf o r t g) = qf o r t h := by simp [eVar, eC, eBin, eTest, eTru, eAnd, eOr, eNot, eNeg, eIf, eTup, eLst, eNew, eCall, eFn, eMe, eMk, eFld, eMeL, eMeL0, aNil, aCons, bAnd, bOr, bNot, bYes, sSeq, sNx, sEx, sRet, sRetN, sIf, sAsg, gSet, sPar, sFldM, sFldAdd, sRaise, Out.bind, Out.st, SO.seq, fin, runB, startW, sn1, sn2, sn3, sn4, sn5, sn6, sb0, sb1, sb2, sb3, sb4, sb5, qf, putW]
theorem putW1 (f : Str) (w : W) : putW f w [] = [(f, w)] := rfl
theorem init_ok {o : Str} {r : W} (ho : isOrder o) (hr : isRoom r) : f_Queue_init A [.loc μ.length, .str o, r] (μ ++ [.ins A.Queue []]) = .ok .non (μ ++ [.ins A.Queue (qf (.str o) r (μ.length + 1) 0), .lst []]) := by
  have z : (0 : Nat) ≤ sizeLine := Nat.zero_le _
  have key : s_Queue_init A [some (.loc μ.length), some (.str o), some r] (μ ++ [.ins A.Queue []]) = .nx [some (.loc μ.length), some (.str o), some r] (μ ++ [.ins A.Queue (qf (.str o) r (μ.length + 1) 0), .lst []]) := by
    refine (seq_nx (ρ1 := [some (.loc μ.length), some (.str o), some r]) (μ1 := μ ++ [.ins A.Queue []]) ?_).trans ?_
    · rcases hr with rfl | ⟨n, rfl, h1, h2⟩
      · simp [eVar, eC, eBin, eTest, eTru, eAnd, eOr, eNot, eNeg, eIf, eTup, eLst, eNew, eCall, eFn, eMe, eMk, eFld, eMeL, eMeL0, aNil, aCons, bAnd, bOr, bNot, bYes, sSeq, sNx, sEx, sRet, sRetN, sIf, sAsg, gSet, sPar, sFldM, sFldAdd, sRaise, Out.bind, Out.st, SO.seq, fin, runB, startW, sn1, sn2, sn3, sn4, sn5, sn6, sb0, sb1, sb2, sb3, sb4, sb5, order_in ho, gNotN, PD.isNon]
      · simp [eVar, eC, eBin, eTest, eTru, eAnd, eOr, eNot, eNeg, eIf, eTup, eLst, eNew, eCall, eFn, eMe, eMk, eFld, eMeL, eMeL0, aNil, aCons, bAnd, bOr, bNot, bYes, sSeq, sNx, sEx, sRet, sRetN, sIf, sAsg, gSet, sPar, sFldM, sFldAdd, sRaise, Out.bind, Out.st, SO.seq, fin, runB, startW, sn1, sn2, sn3, sn4, sn5, sn6, sb0, sb1, sb2, sb3, sb4, sb5, order_in ho, gNotN, PD.isNon, number_ok, h1, h2, truW]
    · simp [eVar, eC, eBin, eTest, eTru, eAnd, eOr, eNot, eNeg, eIf, eTup, eLst, eNew, eCall, eFn, eMe, eMk, eFld, eMeL, eMeL0, aNil, aCons, bAnd, bOr, bNot, bYes, sSeq, sNx, sEx, sRet, sRetN, sIf, sAsg, gSet, sPar, sFldM, sFldAdd, sRaise, Out.bind, Out.st, SO.seq, fin, runB, startW, sn1, sn2, sn3, sn4, sn5, sn6, sb0, sb1, sb2, sb3, sb4, sb5, setFld, putW, qf, z, cat_at, cat_set]
  simp [eVar, eC, eBin, eTest, eTru, eAnd, eOr, eNot, eNeg, eIf, eTup, eLst, eNew, eCall, eFn, eMe, eMk, eFld, eMeL, eMeL0, aNil, aCons, bAnd, bOr, bNot, bYes, sSeq, sNx, sEx, sRet, sRetN, sIf, sAsg, gSet, sPar, sFldM, sFldAdd, sRaise, Out.bind, Out.st, SO.seq, fin, runB, startW, sn1, sn2, sn3, sn4, sn5, sn6, sb0, sb1, sb2, sb3, sb4, sb5, f_Queue_init, N_Queue_init, key]
theorem many_ok {q t : Nat} {o r : W} {g : Int} {l : List W} (hq : μ[q]? = some (.ins A.Queue (qf o r t g))) (ht : μ[t]? = some (.lst l)) : f_Queue_many A [.loc q] μ = .ok (.int l.length) μ := by
  simp [eVar, eC, eBin, eTest, eTru, eAnd, eOr, eNot, eNeg, eIf, eTup, eLst, eNew, eCall, eFn, eMe, eMk, eFld, eMeL, eMeL0, aNil, aCons, bAnd, bOr, bNot, bYes, sSeq, sNx, sEx, sRet, sRetN, sIf, sAsg, gSet, sPar, sFldM, sFldAdd, sRaise, Out.bind, Out.st, SO.seq, fin, runB, startW, sn1, sn2, sn3, sn4, sn5, sn6, sb0, sb1, sb2, sb3, sb4, sb5, f_Queue_many, N_Queue_many, s_Queue_many, fldOf, hq, qf_things, cLen_loc ht]
theorem waiting_ok {q t : Nat} {o r : W} {g : Int} {l : List W} (hq : μ[q]? = some (.ins A.Queue (qf o r t g))) (ht : μ[t]? = some (.lst l)) : f_Queue_waiting A [.loc q] μ = .ok (.tup l) μ := by
  simp [eVar, eC, eBin, eTest, eTru, eAnd, eOr, eNot, eNeg, eIf, eTup, eLst, eNew, eCall, eFn, eMe, eMk, eFld, eMeL, eMeL0, aNil, aCons, bAnd, bOr, bNot, bYes, sSeq, sNx, sEx, sRet, sRetN, sIf, sAsg, gSet, sPar, sFldM, sFldAdd, sRaise, Out.bind, Out.st, SO.seq, fin, runB, startW, sn1, sn2, sn3, sn4, sn5, sn6, sb0, sb1, sb2, sb3, sb4, sb5, f_Queue_waiting, N_Queue_waiting, s_Queue_waiting, fldOf, hq, qf_things, cTuple, asQ, asL, ht]
theorem lost_ok {q t : Nat} {o r : W} {g : Int} (hq : μ[q]? = some (.ins A.Queue (qf o r t g))) : f_Queue_lost A [.loc q] μ = .ok (.int g) μ := by
  simp [eVar, eC, eBin, eTest, eTru, eAnd, eOr, eNot, eNeg, eIf, eTup, eLst, eNew, eCall, eFn, eMe, eMk, eFld, eMeL, eMeL0, aNil, aCons, bAnd, bOr, bNot, bYes, sSeq, sNx, sEx, sRet, sRetN, sIf, sAsg, gSet, sPar, sFldM, sFldAdd, sRaise, Out.bind, Out.st, SO.seq, fin, runB, startW, sn1, sn2, sn3, sn4, sn5, sn6, sb0, sb1, sb2, sb3, sb4, sb5, f_Queue_lost, N_Queue_lost, s_Queue_lost, fldOf, hq, qf_gone]
/-- is there room for one more -/
def fitsR (r : W) (n : Nat) : Bool := match r with
  | .int k => decide ((n : Int) < k)
  | _ => true
theorem put_ok {q t : Nat} {o r v : W} {g : Int} {l : List W} (hr : isRoom r) (hq : μ[q]? = some (.ins A.Queue (qf o r t g))) (ht : μ[t]? = some (.lst l)) (hl : l.length < sizeLine) :
    f_Queue_put A [.loc q, v] μ = if fitsR r l.length = true then .ok (.bl true) (μ.set t (.lst (l ++ [v]))) else .ok (.bl false) (μ.set q (.ins A.Queue (qf o r t (g + 1)))) := by
  rcases hr with rfl | ⟨k, rfl, h1, h2⟩
  · simp [eVar, eC, eBin, eTest, eTru, eAnd, eOr, eNot, eNeg, eIf, eTup, eLst, eNew, eCall, eFn, eMe, eMk, eFld, eMeL, eMeL0, aNil, aCons, bAnd, bOr, bNot, bYes, sSeq, sNx, sEx, sRet, sRetN, sIf, sAsg, gSet, sPar, sFldM, sFldAdd, sRaise, Out.bind, Out.st, SO.seq, fin, runB, startW, sn1, sn2, sn3, sn4, sn5, sn6, sb0, sb1, sb2, sb3, sb4, sb5, f_Queue_put, N_Queue_put, s_Queue_put, fldOf, hq, qf_things, qf_room, gNotN, PD.isNon, isL, asL, ht, mAppend, hl, fitsR]
  · by_cases h : (l.length : Int) < k
    · have h' : ¬ (k ≤ (l.length : Int)) := by omega
      simp [eVar, eC, eBin, eTest, eTru, eAnd, eOr, eNot, eNeg, eIf, eTup, eLst, eNew, eCall, eFn, eMe, eMk, eFld, eMeL, eMeL0, aNil, aCons, bAnd, bOr, bNot, bYes, sSeq, sNx, sEx, sRet, sRetN, sIf, sAsg, gSet, sPar, sFldM, sFldAdd, sRaise, Out.bind, Out.st, SO.seq, fin, runB, startW, sn1, sn2, sn3, sn4, sn5, sn6, sb0, sb1, sb2, sb3, sb4, sb5, f_Queue_put, N_Queue_put, s_Queue_put, fldOf, hq, qf_things, qf_room, gNotN, PD.isNon, isL, asL, ht, mAppend, hl, fitsR, cLen_loc ht, gGe, gI, h, h']
    · have h' : k ≤ (l.length : Int) := by omega
      simp [eVar, eC, eBin, eTest, eTru, eAnd, eOr, eNot, eNeg, eIf, eTup, eLst, eNew, eCall, eFn, eMe, eMk, eFld, eMeL, eMeL0, aNil, aCons, bAnd, bOr, bNot, bYes, sSeq, sNx, sEx, sRet, sRetN, sIf, sAsg, gSet, sPar, sFldM, sFldAdd, sRaise, Out.bind, Out.st, SO.seq, fin, runB, startW, sn1, sn2, sn3, sn4, sn5, sn6, sb0, sb1, sb2, sb3, sb4, sb5, f_Queue_put, N_Queue_put, s_Queue_put, fldOf, hq, qf_things, qf_room, gNotN, PD.isNon, fitsR, cLen_loc ht, gGe, gI, h, h', qf_gone, setFld, qf_gone_put, show (qf o (.int k) t g).length < 1000 from by show 4 < 1000; decide]
end
end K44
namespace K44
open PySem PySem.Spec PyProof.Rows L2 PD
section
variable {A : Adr} {μ : Mu}
abbrev fst : Str := "first"
theorem fst_order : isOrder fst := .inl rfl
theorem placeF_ok {q t : Nat} {r : W} {g : Int} (hq : μ[q]? = some (.ins A.Queue (qf (.str fst) r t g))) : f_Queue_place A [.loc q] μ = .ok (.int 0) μ := by
  have e1 : gEq (.str fst) (.str "first") μ = .ok (.bl true) μ := by rw [gEq_str (by decide +kernel) (by decide +kernel)]; simp [eVar, eC, eBin, eTest, eTru, eAnd, eOr, eNot, eNeg, eIf, eTup, eLst, eNew, eCall, eFn, eMe, eMk, eFld, eMeL, eMeL0, aNil, aCons, bAnd, bOr, bNot, bYes, sSeq, sNx, sEx, sRet, sRetN, sIf, sAsg, gSet, sPar, sFldM, sFldAdd, sRaise, Out.bind, Out.st, SO.seq, fin, runB, startW]
  have hfo : fldOf A.Queue "order" μ (.loc q) = some (.str fst) := by simp [eVar, eC, eBin, eTest, eTru, eAnd, eOr, eNot, eNeg, eIf, eTup, eLst, eNew, eCall, eFn, eMe, eMk, eFld, eMeL, eMeL0, aNil, aCons, bAnd, bOr, bNot, bYes, sSeq, sNx, sEx, sRet, sRetN, sIf, sAsg, gSet, sPar, sFldM, sFldAdd, sRaise, Out.bind, Out.st, SO.seq, fin, runB, startW, fldOf, hq, qf_order]
  have key : s_Queue_place A [some (.loc q)] μ = .rt (.int 0) μ := by
    refine seq_rt ?_
    simp [eVar, eC, eBin, eTest, eTru, eAnd, eOr, eNot, eNeg, eIf, eTup, eLst, eNew, eCall, eFn, eMe, eMk, eFld, eMeL, eMeL0, aNil, aCons, bAnd, bOr, bNot, bYes, sSeq, sNx, sEx, sRet, sRetN, sIf, sAsg, gSet, sPar, sFldM, sFldAdd, sRaise, Out.bind, Out.st, SO.seq, fin, runB, startW, hfo, e1]
  simp [eVar, eC, eBin, eTest, eTru, eAnd, eOr, eNot, eNeg, eIf, eTup, eLst, eNew, eCall, eFn, eMe, eMk, eFld, eMeL, eMeL0, aNil, aCons, bAnd, bOr, bNot, bYes, sSeq, sNx, sEx, sRet, sRetN, sIf, sAsg, gSet, sPar, sFldM, sFldAdd, sRaise, Out.bind, Out.st, SO.seq, fin, runB, startW, f_Queue_place, N_Queue_place, key]
theorem takeF_ok {q t : Nat} {r x : W} {g : Int} {l : List W} (hq : μ[q]? = some (.ins A.Queue (qf (.str fst) r t g))) (ht : μ[t]? = some (.lst (x :: l))) :
    f_Queue_take A [.loc q] μ = .ok x (μ.set t (.lst l)) := by
  have hf : fldOf A.Queue "things" μ (.loc q) = some (.loc t) := by simp [eVar, eC, eBin, eTest, eTru, eAnd, eOr, eNot, eNeg, eIf, eTup, eLst, eNew, eCall, eFn, eMe, eMk, eFld, eMeL, eMeL0, aNil, aCons, bAnd, bOr, bNot, bYes, sSeq, sNx, sEx, sRet, sRetN, sIf, sAsg, gSet, sPar, sFldM, sFldAdd, sRaise, Out.bind, Out.st, SO.seq, fin, runB, startW, fldOf, hq, qf_things]
  have hne : ¬ ((l.length : Int) + 1 = 0) := by omega
  have hL : asL μ (.loc t) = some (x :: l) := by simp only [asL, ht]
  have hi : insOf A.Queue "place" μ (.loc q) = true := by simp [eVar, eC, eBin, eTest, eTru, eAnd, eOr, eNot, eNeg, eIf, eTup, eLst, eNew, eCall, eFn, eMe, eMk, eFld, eMeL, eMeL0, aNil, aCons, bAnd, bOr, bNot, bYes, sSeq, sNx, sEx, sRet, sRetN, sIf, sAsg, gSet, sPar, sFldM, sFldAdd, sRaise, Out.bind, Out.st, SO.seq, fin, runB, startW, insOf, hq, qf_no]
  have hsq : seqIndex? (0 : Int) (x :: l).length = some 0 := by simp [eVar, eC, eBin, eTest, eTru, eAnd, eOr, eNot, eNeg, eIf, eTup, eLst, eNew, eCall, eFn, eMe, eMk, eFld, eMeL, eMeL0, aNil, aCons, bAnd, bOr, bNot, bYes, sSeq, sNx, sEx, sRet, sRetN, sIf, sAsg, gSet, sPar, sFldM, sFldAdd, sRaise, Out.bind, Out.st, SO.seq, fin, runB, startW, seqIndex?]
  have hpop : mPopAt (.loc t) [.int 0] μ = .ok x (μ.set t (.lst l)) := by
    have b1 : -(2 ^ 63) ≤ (0 : Int) ∧ (0 : Int) < 2 ^ 63 := by omega
    simp only [mPopAt, ht, hsq, if_pos b1, List.getElem?_cons_zero, List.eraseIdx_zero, List.tail_cons]
  have key : s_Queue_take A [some (.loc q)] μ = .rt x (μ.set t (.lst l)) := by
    refine (seq_nx (ρ1 := [some (.loc q)]) (μ1 := μ) (by simp [eVar, eC, eBin, eTest, eTru, eAnd, eOr, eNot, eNeg, eIf, eTup, eLst, eNew, eCall, eFn, eMe, eMk, eFld, eMeL, eMeL0, aNil, aCons, bAnd, bOr, bNot, bYes, sSeq, sNx, sEx, sRet, sRetN, sIf, sAsg, gSet, sPar, sFldM, sFldAdd, sRaise, Out.bind, Out.st, SO.seq, fin, runB, startW, hf, cLen_loc ht, gEq_int, hne])).trans ?_
    simp [eVar, eC, eBin, eTest, eTru, eAnd, eOr, eNot, eNeg, eIf, eTup, eLst, eNew, eCall, eFn, eMe, eMk, eFld, eMeL, eMeL0, aNil, aCons, bAnd, bOr, bNot, bYes, sSeq, sNx, sEx, sRet, sRetN, sIf, sAsg, gSet, sPar, sFldM, sFldAdd, sRaise, Out.bind, Out.st, SO.seq, fin, runB, startW, hf, isL, hL, hi, placeF_ok hq, hpop]
  simp [eVar, eC, eBin, eTest, eTru, eAnd, eOr, eNot, eNeg, eIf, eTup, eLst, eNew, eCall, eFn, eMe, eMk, eFld, eMeL, eMeL0, aNil, aCons, bAnd, bOr, bNot, bYes, sSeq, sNx, sEx, sRet, sRetN, sIf, sAsg, gSet, sPar, sFldM, sFldAdd, sRaise, Out.bind, Out.st, SO.seq, fin, runB, startW, f_Queue_take, N_Queue_take, key]
theorem takeF_no {q t : Nat} {o : Str} {r : W} {g : Int} (hq : μ[q]? = some (.ins A.Queue (qf (.str o) r t g))) (ht : μ[t]? = some (.lst [])) : f_Queue_take A [.loc q] μ = .er A.NotThere μ := by
  have hf : fldOf A.Queue "things" μ (.loc q) = some (.loc t) := by simp [eVar, eC, eBin, eTest, eTru, eAnd, eOr, eNot, eNeg, eIf, eTup, eLst, eNew, eCall, eFn, eMe, eMk, eFld, eMeL, eMeL0, aNil, aCons, bAnd, bOr, bNot, bYes, sSeq, sNx, sEx, sRet, sRetN, sIf, sAsg, gSet, sPar, sFldM, sFldAdd, sRaise, Out.bind, Out.st, SO.seq, fin, runB, startW, fldOf, hq, qf_things]
  simp [eVar, eC, eBin, eTest, eTru, eAnd, eOr, eNot, eNeg, eIf, eTup, eLst, eNew, eCall, eFn, eMe, eMk, eFld, eMeL, eMeL0, aNil, aCons, bAnd, bOr, bNot, bYes, sSeq, sNx, sEx, sRet, sRetN, sIf, sAsg, gSet, sPar, sFldM, sFldAdd, sRaise, Out.bind, Out.st, SO.seq, fin, runB, startW, f_Queue_take, N_Queue_take, s_Queue_take, hf, cLen_loc ht, gEq_int]
/-! the wires -/
def wf (kW lW : W) (qs : List Nat) : List (Str × W) := [("kind", kW), ("links", lW), ("queues", .lst (qs.map .loc))]
theorem ws0 : (Str.ofString "links" == Str.ofString "kind") = false := by decide +kernel
theorem ws1 : (Str.ofString "queues" == Str.ofString "kind") = false := by decide +kernel
theorem ws2 : (Str.ofString "queues" == Str.ofString "links") = false := by decide +kernel
theorem wt0 : ¬ (Str.ofString "kind" = Str.ofString "links") := by decide +kernel
theorem wt1 : ¬ (Str.ofString "kind" = Str.ofString "queues") := by decide +kernel
theorem wt2 : ¬ (Str.ofString "links" = Str.ofString "queues") := by decide +kernel
theorem wf_kind {kW lW : W} {qs : List Nat} : (wf kW lW qs).lookup ("kind" : Str) = some kW := by simp [eVar, eC, eBin, eTest, eTru, eAnd, eOr, eNot, eNeg, eIf, eTup, eLst, eNew, eCall, eFn, eMe, eMk, eFld, eMeL, eMeL0, aNil, aCons, bAnd, bOr, bNot, bYes, sSeq, sNx, sEx, sRet, sRetN, sIf, sAsg, gSet, sPar, sFldM, sFldAdd, sRaise, Out.bind, Out.st, SO.seq, fin, runB, startW, wf, List.lookup]
theorem wf_links {kW lW : W} {qs : List Nat} : (wf kW lW qs).lookup ("links" : Str) = some lW := by simp [eVar, eC, eBin, eTest, eTru, eAnd, eOr, eNot, eNeg, eIf, eTup, eLst, eNew, eCall, eFn, eMe, eMk, eFld, eMeL, eMeL0, aNil, aCons, bAnd, bOr, bNot, bYes, sSeq, sNx, sEx, sRet, sRetN, sIf, sAsg, gSet, sPar, sFldM, sFldAdd, sRaise, Out.bind, Out.st, SO.seq, fin, runB, startW, wf, List.lookup, ws0]
theorem wf_queues {kW lW : W} {qs : List Nat} : (wf kW lW qs).lookup ("queues" : Str) = some (.lst (qs.map .loc)) := by simp [eVar, eC, eBin, eTest, eTru, eAnd, eOr, eNot, eNeg, eIf, eTup, eLst, eNew, eCall, eFn, eMe, eMk, eFld, eMeL, eMeL0, aNil, aCons, bAnd, bOr, bNot, bYes, sSeq, sNx, sEx, sRet, sRetN, sIf, sAsg, gSet, sPar, sFldM, sFldAdd, sRaise, Out.bind, Out.st, SO.seq, fin, runB, startW, wf, List.lookup, ws1, ws2]
theorem wf_no {kW lW : W} {qs : List Nat} {m : Str} (h : m = "put" ∨ m = "take" ∨ m = "queue" ∨ m = "wire_from" ∨ m = "ready" ∨ m = "things" ∨ m = "lost") : (wf kW lW qs).lookup m = none := by
  have e : ∀ m : Str, (m == Str.ofString "kind") = false → (m == Str.ofString "links") = false → (m == Str.ofString "queues") = false → (wf kW lW qs).lookup m = none := fun m h1 h2 h3 => by simp [eVar, eC, eBin, eTest, eTru, eAnd, eOr, eNot, eNeg, eIf, eTup, eLst, eNew, eCall, eFn, eMe, eMk, eFld, eMeL, eMeL0, aNil, aCons, bAnd, bOr, bNot, bYes, sSeq, sNx, sEx, sRet, sRetN, sIf, sAsg, gSet, sPar, sFldM, sFldAdd, sRaise, Out.bind, Out.st, SO.seq, fin, runB, startW, wf, List.lookup, h1, h2, h3]
  rcases h with rfl | rfl | rfl | rfl | rfl | rfl | rfl <;> exact e _ (by decide +kernel) (by decide +kernel) (by decide +kernel)
section
variable {w : Nat} {kW : W} {lk : List W} {qs : List Nat}
theorem Wf_kind {lW : W} (hw : μ[w]? = some (.ins A.Wires (wf kW lW qs))) : fldOf A.Wires "kind" μ (.loc w) = some kW := by simp [eVar, eC, eBin, eTest, eTru, eAnd, eOr, eNot, eNeg, eIf, eTup, eLst, eNew, eCall, eFn, eMe, eMk, eFld, eMeL, eMeL0, aNil, aCons, bAnd, bOr, bNot, bYes, sSeq, sNx, sEx, sRet, sRetN, sIf, sAsg, gSet, sPar, sFldM, sFldAdd, sRaise, Out.bind, Out.st, SO.seq, fin, runB, startW, fldOf, hw, wf_kind]
theorem Wf_links {lW : W} (hw : μ[w]? = some (.ins A.Wires (wf kW lW qs))) : fldOf A.Wires "links" μ (.loc w) = some lW := by simp [eVar, eC, eBin, eTest, eTru, eAnd, eOr, eNot, eNeg, eIf, eTup, eLst, eNew, eCall, eFn, eMe, eMk, eFld, eMeL, eMeL0, aNil, aCons, bAnd, bOr, bNot, bYes, sSeq, sNx, sEx, sRet, sRetN, sIf, sAsg, gSet, sPar, sFldM, sFldAdd, sRaise, Out.bind, Out.st, SO.seq, fin, runB, startW, fldOf, hw, wf_links]
theorem Wf_queues {lW : W} (hw : μ[w]? = some (.ins A.Wires (wf kW lW qs))) : fldOf A.Wires "queues" μ (.loc w) = some (.lst (qs.map .loc)) := by simp [eVar, eC, eBin, eTest, eTru, eAnd, eOr, eNot, eNeg, eIf, eTup, eLst, eNew, eCall, eFn, eMe, eMk, eFld, eMeL, eMeL0, aNil, aCons, bAnd, bOr, bNot, bYes, sSeq, sNx, sEx, sRet, sRetN, sIf, sAsg, gSet, sPar, sFldM, sFldAdd, sRaise, Out.bind, Out.st, SO.seq, fin, runB, startW, fldOf, hw, wf_queues]
theorem queue_ok (hw : μ[w]? = some (.ins A.Wires (wf kW (.tup lk) qs))) (hn : qs.length = lk.length) {i q : Nat} (hi : qs[i]? = some q) : f_Wires_queue A [.loc w, .int (i : Nat)] μ = .ok (.loc q) μ := by
  have hlt : i < lk.length := by rw [← hn]; exact (List.getElem?_eq_some_iff.mp hi).1
  have h1 : (0 : Int) ≤ (i : Nat) := by omega
  have h2 : ((i : Nat) : Int) ≤ (lk.length : Int) - 1 := by omega
  have ha : atI (qs.map W.loc) ((i : Nat) : Int) = some (.loc q) := L2.atI_nat (by rw [List.getElem?_map, hi]; rfl)
  simp [eVar, eC, eBin, eTest, eTru, eAnd, eOr, eNot, eNeg, eIf, eTup, eLst, eNew, eCall, eFn, eMe, eMk, eFld, eMeL, eMeL0, aNil, aCons, bAnd, bOr, bNot, bYes, sSeq, sNx, sEx, sRet, sRetN, sIf, sAsg, gSet, sPar, sFldM, sFldAdd, sRaise, Out.bind, Out.st, SO.seq, fin, runB, startW, f_Wires_queue, N_Wires_queue, s_Wires_queue, Wf_links hw, Wf_queues hw, cLen_tup, PD.gSub, gI, number_ok, h1, h2, truW, gIx, orG, gIxQ, asQ, asL, ha, Out.els]
/-- numbers that are none -/
def badN (n : Nat) (x : W) : Prop := ∀ μ, f_is_number A [x, .int 0, .int ((n : Int) - 1)] μ = .ok (.bl false) μ
theorem queue_bad (hw : μ[w]? = some (.ins A.Wires (wf kW (.tup lk) qs))) {x : W} (hx : badN (A := A) lk.length x) : f_Wires_queue A [.loc w, x] μ = .er A.NotThere μ := by
  simp [eVar, eC, eBin, eTest, eTru, eAnd, eOr, eNot, eNeg, eIf, eTup, eLst, eNew, eCall, eFn, eMe, eMk, eFld, eMeL, eMeL0, aNil, aCons, bAnd, bOr, bNot, bYes, sSeq, sNx, sEx, sRet, sRetN, sIf, sAsg, gSet, sPar, sFldM, sFldAdd, sRaise, Out.bind, Out.st, SO.seq, fin, runB, startW, f_Wires_queue, N_Wires_queue, s_Wires_queue, Wf_links hw, cLen_tup, PD.gSub, gI, hx μ, truW]
theorem putW_ok (hw : μ[w]? = some (.ins A.Wires (wf kW (.tup lk) qs))) (hn : qs.length = lk.length) {i q t : Nat} (hi : qs[i]? = some q) {r v : W} {g : Int} {l : List W} (hr : isRoom r) (hq : μ[q]? = some (.ins A.Queue (qf (.str fst) r t g))) (ht : μ[t]? = some (.lst l)) (hl : l.length < sizeLine) :
    f_Wires_put A [.loc w, .int (i : Nat), v] μ = if fitsR r l.length = true then .ok (.bl true) (μ.set t (.lst (l ++ [v]))) else .ok (.bl false) (μ.set q (.ins A.Queue (qf (.str fst) r t (g + 1)))) := by
  have h1 : insOf A.Wires "queue" μ (.loc w) = true := by simp [eVar, eC, eBin, eTest, eTru, eAnd, eOr, eNot, eNeg, eIf, eTup, eLst, eNew, eCall, eFn, eMe, eMk, eFld, eMeL, eMeL0, aNil, aCons, bAnd, bOr, bNot, bYes, sSeq, sNx, sEx, sRet, sRetN, sIf, sAsg, gSet, sPar, sFldM, sFldAdd, sRaise, Out.bind, Out.st, SO.seq, fin, runB, startW, insOf, hw, wf_no]
  have h2 : insOf A.Queue "put" μ (.loc q) = true := by simp [eVar, eC, eBin, eTest, eTru, eAnd, eOr, eNot, eNeg, eIf, eTup, eLst, eNew, eCall, eFn, eMe, eMk, eFld, eMeL, eMeL0, aNil, aCons, bAnd, bOr, bNot, bYes, sSeq, sNx, sEx, sRet, sRetN, sIf, sAsg, gSet, sPar, sFldM, sFldAdd, sRaise, Out.bind, Out.st, SO.seq, fin, runB, startW, insOf, hq, qf_no]
  have e := put_ok (A := A) (v := v) hr hq ht hl
  by_cases h : fitsR r l.length = true
  · rw [if_pos h] at e ⊢
    simp [eVar, eC, eBin, eTest, eTru, eAnd, eOr, eNot, eNeg, eIf, eTup, eLst, eNew, eCall, eFn, eMe, eMk, eFld, eMeL, eMeL0, aNil, aCons, bAnd, bOr, bNot, bYes, sSeq, sNx, sEx, sRet, sRetN, sIf, sAsg, gSet, sPar, sFldM, sFldAdd, sRaise, Out.bind, Out.st, SO.seq, fin, runB, startW, f_Wires_put, N_Wires_put, s_Wires_put, h1, h2, queue_ok hw hn hi, e]
  · rw [if_neg h] at e ⊢
    simp [eVar, eC, eBin, eTest, eTru, eAnd, eOr, eNot, eNeg, eIf, eTup, eLst, eNew, eCall, eFn, eMe, eMk, eFld, eMeL, eMeL0, aNil, aCons, bAnd, bOr, bNot, bYes, sSeq, sNx, sEx, sRet, sRetN, sIf, sAsg, gSet, sPar, sFldM, sFldAdd, sRaise, Out.bind, Out.st, SO.seq, fin, runB, startW, f_Wires_put, N_Wires_put, s_Wires_put, h1, h2, queue_ok hw hn hi, e]
theorem takeW_ok (hw : μ[w]? = some (.ins A.Wires (wf kW (.tup lk) qs))) (hn : qs.length = lk.length) {i q t : Nat} (hi : qs[i]? = some q) {r x : W} {g : Int} {l : List W} (hq : μ[q]? = some (.ins A.Queue (qf (.str fst) r t g))) (ht : μ[t]? = some (.lst (x :: l))) :
    f_Wires_take A [.loc w, .int (i : Nat)] μ = .ok x (μ.set t (.lst l)) := by
  have h1 : insOf A.Wires "queue" μ (.loc w) = true := by simp [eVar, eC, eBin, eTest, eTru, eAnd, eOr, eNot, eNeg, eIf, eTup, eLst, eNew, eCall, eFn, eMe, eMk, eFld, eMeL, eMeL0, aNil, aCons, bAnd, bOr, bNot, bYes, sSeq, sNx, sEx, sRet, sRetN, sIf, sAsg, gSet, sPar, sFldM, sFldAdd, sRaise, Out.bind, Out.st, SO.seq, fin, runB, startW, insOf, hw, wf_no]
  have h2 : insOf A.Queue "take" μ (.loc q) = true := by simp [eVar, eC, eBin, eTest, eTru, eAnd, eOr, eNot, eNeg, eIf, eTup, eLst, eNew, eCall, eFn, eMe, eMk, eFld, eMeL, eMeL0, aNil, aCons, bAnd, bOr, bNot, bYes, sSeq, sNx, sEx, sRet, sRetN, sIf, sAsg, gSet, sPar, sFldM, sFldAdd, sRaise, Out.bind, Out.st, SO.seq, fin, runB, startW, insOf, hq, qf_no]
  simp [eVar, eC, eBin, eTest, eTru, eAnd, eOr, eNot, eNeg, eIf, eTup, eLst, eNew, eCall, eFn, eMe, eMk, eFld, eMeL, eMeL0, aNil, aCons, bAnd, bOr, bNot, bYes, sSeq, sNx, sEx, sRet, sRetN, sIf, sAsg, gSet, sPar, sFldM, sFldAdd, sRaise, Out.bind, Out.st, SO.seq, fin, runB, startW, f_Wires_take, N_Wires_take, s_Wires_take, h1, h2, queue_ok hw hn hi, takeF_ok hq ht]
theorem takeW_no (hw : μ[w]? = some (.ins A.Wires (wf kW (.tup lk) qs))) (hn : qs.length = lk.length) {i q t : Nat} (hi : qs[i]? = some q) {r : W} {g : Int} (hq : μ[q]? = some (.ins A.Queue (qf (.str fst) r t g))) (ht : μ[t]? = some (.lst [])) :
    f_Wires_take A [.loc w, .int (i : Nat)] μ = .er A.NotThere μ := by
  have h1 : insOf A.Wires "queue" μ (.loc w) = true := by simp [eVar, eC, eBin, eTest, eTru, eAnd, eOr, eNot, eNeg, eIf, eTup, eLst, eNew, eCall, eFn, eMe, eMk, eFld, eMeL, eMeL0, aNil, aCons, bAnd, bOr, bNot, bYes, sSeq, sNx, sEx, sRet, sRetN, sIf, sAsg, gSet, sPar, sFldM, sFldAdd, sRaise, Out.bind, Out.st, SO.seq, fin, runB, startW, insOf, hw, wf_no]
  have h2 : insOf A.Queue "take" μ (.loc q) = true := by simp [eVar, eC, eBin, eTest, eTru, eAnd, eOr, eNot, eNeg, eIf, eTup, eLst, eNew, eCall, eFn, eMe, eMk, eFld, eMeL, eMeL0, aNil, aCons, bAnd, bOr, bNot, bYes, sSeq, sNx, sEx, sRet, sRetN, sIf, sAsg, gSet, sPar, sFldM, sFldAdd, sRaise, Out.bind, Out.st, SO.seq, fin, runB, startW, insOf, hq, qf_no]
  simp [eVar, eC, eBin, eTest, eTru, eAnd, eOr, eNot, eNeg, eIf, eTup, eLst, eNew, eCall, eFn, eMe, eMk, eFld, eMeL, eMeL0, aNil, aCons, bAnd, bOr, bNot, bYes, sSeq, sNx, sEx, sRet, sRetN, sIf, sAsg, gSet, sPar, sFldM, sFldAdd, sRaise, Out.bind, Out.st, SO.seq, fin, runB, startW, f_Wires_take, N_Wires_take, s_Wires_take, h1, h2, queue_ok hw hn hi, takeF_no hq ht]
/-! what is told -/
theorem told_of {q v : W} {n : Int} {z : W} {μ1 : Mu} (h : b_law_told A [some q, some (.int n), some v, none] μ = .rt z μ1) : f_law_told A [q, .int n, v] μ = .ok z μ1 := by
  simp [eVar, eC, eBin, eTest, eTru, eAnd, eOr, eNot, eNeg, eIf, eTup, eLst, eNew, eCall, eFn, eMe, eMk, eFld, eMeL, eMeL0, aNil, aCons, bAnd, bOr, bNot, bYes, sSeq, sNx, sEx, sRet, sRetN, sIf, sAsg, gSet, sPar, sFldM, sFldAdd, sRaise, Out.bind, Out.st, SO.seq, fin, runB, startW, f_law_told, N_law_told, s_law_told, sTryW, h]
theorem told_er {K : PySem.W.Frag} {mg : Str → Option Value} (T : Txt K mg A) {q v : W} {n : Int} {ρ1 : PD.Env} {μ1 : Mu} (h : b_law_told A [some q, some (.int n), some v, none] μ = .er A.NotThere ρ1 μ1) (hl : ρ1.length = 4) : f_law_told A [q, .int n, v] μ = .ok (.str "none") μ1 := by
  have h1 : hit A A.NotThere = some true := by simp [eVar, eC, eBin, eTest, eTru, eAnd, eOr, eNot, eNeg, eIf, eTup, eLst, eNew, eCall, eFn, eMe, eMk, eFld, eMeL, eMeL0, aNil, aCons, bAnd, bOr, bNot, bYes, sSeq, sNx, sEx, sRet, sRetN, sIf, sAsg, gSet, sPar, sFldM, sFldAdd, sRaise, Out.bind, Out.st, SO.seq, fin, runB, startW, hit]
  have h2 : wd A A.NotThere = some (.str "none") := by simp [eVar, eC, eBin, eTest, eTru, eAnd, eOr, eNot, eNeg, eIf, eTup, eLst, eNew, eCall, eFn, eMe, eMk, eFld, eMeL, eMeL0, aNil, aCons, bAnd, bOr, bNot, bYes, sSeq, sNx, sEx, sRet, sRetN, sIf, sAsg, gSet, sPar, sFldM, sFldAdd, sRaise, Out.bind, Out.st, SO.seq, fin, runB, startW, wd, T.ne_NotThere_OutOfRange, T.ne_NotThere_Malformed]
  simp [eVar, eC, eBin, eTest, eTru, eAnd, eOr, eNot, eNeg, eIf, eTup, eLst, eNew, eCall, eFn, eMe, eMk, eFld, eMeL, eMeL0, aNil, aCons, bAnd, bOr, bNot, bYes, sSeq, sNx, sEx, sRet, sRetN, sIf, sAsg, gSet, sPar, sFldM, sFldAdd, sRaise, Out.bind, Out.st, SO.seq, fin, runB, startW, f_law_told, N_law_told, s_law_told, sTryW, h, h1, h2, hl]
theorem told_take (hw : μ[w]? = some (.ins A.Wires (wf kW (.tup lk) qs))) (hn : qs.length = lk.length) {i q t : Nat} (hi : qs[i]? = some q) {r x : W} {g : Int} {l : List W} (hq : μ[q]? = some (.ins A.Queue (qf (.str fst) r t g))) (ht : μ[t]? = some (.lst (x :: l))) :
    f_law_told A [.loc w, .int 0, .int (i : Nat)] μ = .ok x (μ.set t (.lst l)) := by
  have h1 : insOf A.Wires "take" μ (.loc w) = true := by simp [eVar, eC, eBin, eTest, eTru, eAnd, eOr, eNot, eNeg, eIf, eTup, eLst, eNew, eCall, eFn, eMe, eMk, eFld, eMeL, eMeL0, aNil, aCons, bAnd, bOr, bNot, bYes, sSeq, sNx, sEx, sRet, sRetN, sIf, sAsg, gSet, sPar, sFldM, sFldAdd, sRaise, Out.bind, Out.st, SO.seq, fin, runB, startW, insOf, hw, wf_no]
  exact told_of (by simp [eVar, eC, eBin, eTest, eTru, eAnd, eOr, eNot, eNeg, eIf, eTup, eLst, eNew, eCall, eFn, eMe, eMk, eFld, eMeL, eMeL0, aNil, aCons, bAnd, bOr, bNot, bYes, sSeq, sNx, sEx, sRet, sRetN, sIf, sAsg, gSet, sPar, sFldM, sFldAdd, sRaise, Out.bind, Out.st, SO.seq, fin, runB, startW, b_law_told, gEq_int, h1, takeW_ok hw hn hi hq ht])
theorem told_none {K : PySem.W.Frag} {mg : Str → Option Value} (T : Txt K mg A) (hw : μ[w]? = some (.ins A.Wires (wf kW (.tup lk) qs))) (hn : qs.length = lk.length) {i q t : Nat} (hi : qs[i]? = some q) {r : W} {g : Int} (hq : μ[q]? = some (.ins A.Queue (qf (.str fst) r t g))) (ht : μ[t]? = some (.lst [])) :
    f_law_told A [.loc w, .int 0, .int (i : Nat)] μ = .ok (.str "none") μ := by
  have h1 : insOf A.Wires "take" μ (.loc w) = true := by simp [eVar, eC, eBin, eTest, eTru, eAnd, eOr, eNot, eNeg, eIf, eTup, eLst, eNew, eCall, eFn, eMe, eMk, eFld, eMeL, eMeL0, aNil, aCons, bAnd, bOr, bNot, bYes, sSeq, sNx, sEx, sRet, sRetN, sIf, sAsg, gSet, sPar, sFldM, sFldAdd, sRaise, Out.bind, Out.st, SO.seq, fin, runB, startW, insOf, hw, wf_no]
  exact told_er T (ρ1 := [some (.loc w), some (.int 0), some (.int (i : Nat)), none]) (by simp [eVar, eC, eBin, eTest, eTru, eAnd, eOr, eNot, eNeg, eIf, eTup, eLst, eNew, eCall, eFn, eMe, eMk, eFld, eMeL, eMeL0, aNil, aCons, bAnd, bOr, bNot, bYes, sSeq, sNx, sEx, sRet, sRetN, sIf, sAsg, gSet, sPar, sFldM, sFldAdd, sRaise, Out.bind, Out.st, SO.seq, fin, runB, startW, b_law_told, gEq_int, h1, takeW_no hw hn hi hq ht]) rfl
theorem told_bad {K : PySem.W.Frag} {mg : Str → Option Value} (T : Txt K mg A) (hw : μ[w]? = some (.ins A.Wires (wf kW (.tup lk) qs))) {x : W} (hx : badN (A := A) lk.length x) {n : Int} (h01 : n = 0 ∨ n = 1) :
    f_law_told A [.loc w, .int n, x] μ = .ok (.str "none") μ := by
  have h1 : insOf A.Wires "take" μ (.loc w) = true := by simp [eVar, eC, eBin, eTest, eTru, eAnd, eOr, eNot, eNeg, eIf, eTup, eLst, eNew, eCall, eFn, eMe, eMk, eFld, eMeL, eMeL0, aNil, aCons, bAnd, bOr, bNot, bYes, sSeq, sNx, sEx, sRet, sRetN, sIf, sAsg, gSet, sPar, sFldM, sFldAdd, sRaise, Out.bind, Out.st, SO.seq, fin, runB, startW, insOf, hw, wf_no]
  have h2 : insOf A.Wires "put" μ (.loc w) = true := by simp [eVar, eC, eBin, eTest, eTru, eAnd, eOr, eNot, eNeg, eIf, eTup, eLst, eNew, eCall, eFn, eMe, eMk, eFld, eMeL, eMeL0, aNil, aCons, bAnd, bOr, bNot, bYes, sSeq, sNx, sEx, sRet, sRetN, sIf, sAsg, gSet, sPar, sFldM, sFldAdd, sRaise, Out.bind, Out.st, SO.seq, fin, runB, startW, insOf, hw, wf_no]
  have h3 : insOf A.Wires "queue" μ (.loc w) = true := by simp [eVar, eC, eBin, eTest, eTru, eAnd, eOr, eNot, eNeg, eIf, eTup, eLst, eNew, eCall, eFn, eMe, eMk, eFld, eMeL, eMeL0, aNil, aCons, bAnd, bOr, bNot, bYes, sSeq, sNx, sEx, sRet, sRetN, sIf, sAsg, gSet, sPar, sFldM, sFldAdd, sRaise, Out.bind, Out.st, SO.seq, fin, runB, startW, insOf, hw, wf_no]
  rcases h01 with rfl | rfl
  · exact told_er T (ρ1 := [some (.loc w), some (.int 0), some x, none]) (by simp [eVar, eC, eBin, eTest, eTru, eAnd, eOr, eNot, eNeg, eIf, eTup, eLst, eNew, eCall, eFn, eMe, eMk, eFld, eMeL, eMeL0, aNil, aCons, bAnd, bOr, bNot, bYes, sSeq, sNx, sEx, sRet, sRetN, sIf, sAsg, gSet, sPar, sFldM, sFldAdd, sRaise, Out.bind, Out.st, SO.seq, fin, runB, startW, b_law_told, gEq_int, h1, f_Wires_take, N_Wires_take, s_Wires_take, h3, queue_bad hw hx]) rfl
  · exact told_er T (ρ1 := [some (.loc w), some (.int 1), some x, none]) (by simp [eVar, eC, eBin, eTest, eTru, eAnd, eOr, eNot, eNeg, eIf, eTup, eLst, eNew, eCall, eFn, eMe, eMk, eFld, eMeL, eMeL0, aNil, aCons, bAnd, bOr, bNot, bYes, sSeq, sNx, sEx, sRet, sRetN, sIf, sAsg, gSet, sPar, sFldM, sFldAdd, sRaise, Out.bind, Out.st, SO.seq, fin, runB, startW, b_law_told, gEq_int, h2, f_Wires_put, N_Wires_put, s_Wires_put, h3, queue_bad hw hx]) rfl
theorem bad_non {n : Nat} : badN (A := A) n .non := fun μ => by simp [eVar, eC, eBin, eTest, eTru, eAnd, eOr, eNot, eNeg, eIf, eTup, eLst, eNew, eCall, eFn, eMe, eMk, eFld, eMeL, eMeL0, aNil, aCons, bAnd, bOr, bNot, bYes, sSeq, sNx, sEx, sRet, sRetN, sIf, sAsg, gSet, sPar, sFldM, sFldAdd, sRaise, Out.bind, Out.st, SO.seq, fin, runB, startW, f_is_number, N_is_number, s_is_number, cIsi, tyB, btOf, Bt.isA]
theorem bad_bl {n : Nat} {b : Bool} : badN (A := A) n (.bl b) := fun μ => by simp [eVar, eC, eBin, eTest, eTru, eAnd, eOr, eNot, eNeg, eIf, eTup, eLst, eNew, eCall, eFn, eMe, eMk, eFld, eMeL, eMeL0, aNil, aCons, bAnd, bOr, bNot, bYes, sSeq, sNx, sEx, sRet, sRetN, sIf, sAsg, gSet, sPar, sFldM, sFldAdd, sRaise, Out.bind, Out.st, SO.seq, fin, runB, startW, f_is_number, N_is_number, s_is_number, cIsi, tyB, btOf, Bt.isA]
theorem bad_str {n : Nat} {x : Str} : badN (A := A) n (.str x) := fun μ => by simp [eVar, eC, eBin, eTest, eTru, eAnd, eOr, eNot, eNeg, eIf, eTup, eLst, eNew, eCall, eFn, eMe, eMk, eFld, eMeL, eMeL0, aNil, aCons, bAnd, bOr, bNot, bYes, sSeq, sNx, sEx, sRet, sRetN, sIf, sAsg, gSet, sPar, sFldM, sFldAdd, sRaise, Out.bind, Out.st, SO.seq, fin, runB, startW, f_is_number, N_is_number, s_is_number, cIsi, tyB, btOf, Bt.isA]
theorem bad_neg {n : Nat} : badN (A := A) n (.int (-1)) := fun μ => by rw [number_ok]; rfl
theorem bad_n {n : Nat} : badN (A := A) n (.int (n : Nat)) := fun μ => by
  rw [number_ok]
  have h : ¬ (((n : Nat) : Int) ≤ (n : Int) - 1) := by omega
  rw [decide_eq_false h, Bool.and_false]
end
/-- the rest of the word, by the five answers -/
noncomputable def wordRest : SM := sSeq (sIf (eTest (eBin gNe (eCall cLen (aCons (eCmp (iLst (eVar 1)) [2] (gSet 2) (eTru (eVar 2)) (eVar 2)) aNil)) (eC (.int 1)))) (sRet (eC (.str "many"))) sNx)
 (sRet (eBin gIx (eLst (aCons (eC (.str "range")) (aCons (eC (.str "form")) (aCons (eC (.str "none")) (aCons (eC (.str "refused")) (aCons (eC (.str "much")) aNil)))))) (eMeL mIndex (eVar 1) (aCons (eC (.bl true)) aNil))))
theorem word_rest {a : Addr} {bs : List Bool} {x : Str} (h : (bs, x) ∈ [([true, false, false, false, false], ("range" : Str)), ([false, true, false, false, false], "form"), ([false, false, true, false, false], "none"), ([false, false, false, true, false], "refused"), ([false, false, false, false, true], "much")]) :
    wordRest [some (.ref a), some (.lst (bs.map .bl)), none] μ = .rt (.str x) μ := by
  have z : 0 < sizeLine := by rw [sizeLine_val]; decide
  have z1 : 5 ≤ sizeLine := by rw [sizeLine_val]; decide
  simp only [List.mem_cons, Prod.mk.injEq, List.not_mem_nil, or_false] at h
  rcases h with ⟨rfl, rfl⟩ | ⟨rfl, rfl⟩ | ⟨rfl, rfl⟩ | ⟨rfl, rfl⟩ | ⟨rfl, rfl⟩ <;>
  · refine (seq_nx (ρ1 := [some (.ref a), some (.lst _), none]) (μ1 := μ) (by simp [eVar, eC, eBin, eTest, eTru, eAnd, eOr, eNot, eNeg, eIf, eTup, eLst, eNew, eCall, eFn, eMe, eMk, eFld, eMeL, eMeL0, aNil, aCons, bAnd, bOr, bNot, bYes, sSeq, sNx, sEx, sRet, sRetN, sIf, sAsg, gSet, sPar, sFldM, sFldAdd, sRaise, Out.bind, Out.st, SO.seq, fin, runB, startW, eCmp, iLst, wipeW, cmpS, truW, z, cLen_lst, gNe_int]; rfl)).trans ?_
    simp [eVar, eC, eBin, eTest, eTru, eAnd, eOr, eNot, eNeg, eIf, eTup, eLst, eNew, eCall, eFn, eMe, eMk, eFld, eMeL, eMeL0, aNil, aCons, bAnd, bOr, bNot, bYes, sSeq, sNx, sEx, sRet, sRetN, sIf, sAsg, gSet, sPar, sFldM, sFldAdd, sRaise, Out.bind, Out.st, SO.seq, fin, runB, startW, isL, asL, mIndex, topD, toD, toDs, SeqAt.shaped, PyData.canLay0, PyData.canLayAll0, PyData.depth, PyData.depthAll, PyData.eqv, List.findIdx?_cons, z1, gIx, orG, gIxQ, asQ, atI, ixN, Out.els]
theorem word_true {K : PySem.W.Frag} {mg : Str → Option Value} {A : Adr} (T : Txt K mg A) : ∀ a c r μ, wd A c = some r → fin (s_law_word A a c (startW N_law_word.length [.ref a]) μ) = .ok r μ := by
  intro a c r μ h
  have z1 : 5 ≤ sizeLine := by rw [sizeLine_val]; decide
  have first : ∀ (bs : List Bool), [decide (c = A.OutOfRange), decide (c = A.Malformed), decide (c = A.NotThere), decide (c = A.Refused), decide (c = A.TooMuch)] = bs → s_law_word A a c [some (.ref a), none, none] μ = wordRest [some (.ref a), some (.lst (bs.map .bl)), none] μ := fun bs e => by
    subst e
    exact seq_nx (by simp [eVar, eC, eBin, eTest, eTru, eAnd, eOr, eNot, eNeg, eIf, eTup, eLst, eNew, eCall, eFn, eMe, eMk, eFld, eMeL, eMeL0, aNil, aCons, bAnd, bOr, bNot, bYes, sSeq, sNx, sEx, sRet, sRetN, sIf, sAsg, gSet, sPar, sFldM, sFldAdd, sRaise, Out.bind, Out.st, SO.seq, fin, runB, startW, cIsE1, z1])
  have done : ∀ (bs : List Bool) (x : Str), [decide (c = A.OutOfRange), decide (c = A.Malformed), decide (c = A.NotThere), decide (c = A.Refused), decide (c = A.TooMuch)] = bs → (bs, x) ∈ [([true, false, false, false, false], ("range" : Str)), ([false, true, false, false, false], "form"), ([false, false, true, false, false], "none"), ([false, false, false, true, false], "refused"), ([false, false, false, false, true], "much")] → r = .str x → fin (s_law_word A a c (startW N_law_word.length [.ref a]) μ) = .ok r μ := fun bs x e1 e2 e3 => by
    show fin (s_law_word A a c [some (.ref a), none, none] μ) = _
    rw [first bs e1, word_rest e2, e3]
    rfl
  have hc := wd_isE (A := A) (c := c) (by rw [h]; rfl)
  rcases hc with rfl | rfl | rfl | rfl | rfl
  · exact done [true, false, false, false, false] "range" (by simp [eVar, eC, eBin, eTest, eTru, eAnd, eOr, eNot, eNeg, eIf, eTup, eLst, eNew, eCall, eFn, eMe, eMk, eFld, eMeL, eMeL0, aNil, aCons, bAnd, bOr, bNot, bYes, sSeq, sNx, sEx, sRet, sRetN, sIf, sAsg, gSet, sPar, sFldM, sFldAdd, sRaise, Out.bind, Out.st, SO.seq, fin, runB, startW, T.ne_OutOfRange_Malformed, T.ne_OutOfRange_NotThere, T.ne_OutOfRange_Refused, T.ne_OutOfRange_TooMuch]) (by simp [eVar, eC, eBin, eTest, eTru, eAnd, eOr, eNot, eNeg, eIf, eTup, eLst, eNew, eCall, eFn, eMe, eMk, eFld, eMeL, eMeL0, aNil, aCons, bAnd, bOr, bNot, bYes, sSeq, sNx, sEx, sRet, sRetN, sIf, sAsg, gSet, sPar, sFldM, sFldAdd, sRaise, Out.bind, Out.st, SO.seq, fin, runB, startW]) (by simpa [wd, T.ne_OutOfRange_Malformed, T.ne_OutOfRange_NotThere, T.ne_OutOfRange_Refused, T.ne_OutOfRange_TooMuch] using h.symm)
  · exact done [false, true, false, false, false] "form" (by simp [eVar, eC, eBin, eTest, eTru, eAnd, eOr, eNot, eNeg, eIf, eTup, eLst, eNew, eCall, eFn, eMe, eMk, eFld, eMeL, eMeL0, aNil, aCons, bAnd, bOr, bNot, bYes, sSeq, sNx, sEx, sRet, sRetN, sIf, sAsg, gSet, sPar, sFldM, sFldAdd, sRaise, Out.bind, Out.st, SO.seq, fin, runB, startW, T.ne_Malformed_OutOfRange, T.ne_Malformed_NotThere, T.ne_Malformed_Refused, T.ne_Malformed_TooMuch]) (by simp [eVar, eC, eBin, eTest, eTru, eAnd, eOr, eNot, eNeg, eIf, eTup, eLst, eNew, eCall, eFn, eMe, eMk, eFld, eMeL, eMeL0, aNil, aCons, bAnd, bOr, bNot, bYes, sSeq, sNx, sEx, sRet, sRetN, sIf, sAsg, gSet, sPar, sFldM, sFldAdd, sRaise, Out.bind, Out.st, SO.seq, fin, runB, startW]) (by simpa [wd, T.ne_Malformed_OutOfRange, T.ne_Malformed_NotThere, T.ne_Malformed_Refused, T.ne_Malformed_TooMuch] using h.symm)
  · exact done [false, false, true, false, false] "none" (by simp [eVar, eC, eBin, eTest, eTru, eAnd, eOr, eNot, eNeg, eIf, eTup, eLst, eNew, eCall, eFn, eMe, eMk, eFld, eMeL, eMeL0, aNil, aCons, bAnd, bOr, bNot, bYes, sSeq, sNx, sEx, sRet, sRetN, sIf, sAsg, gSet, sPar, sFldM, sFldAdd, sRaise, Out.bind, Out.st, SO.seq, fin, runB, startW, T.ne_NotThere_OutOfRange, T.ne_NotThere_Malformed, T.ne_NotThere_Refused, T.ne_NotThere_TooMuch]) (by simp [eVar, eC, eBin, eTest, eTru, eAnd, eOr, eNot, eNeg, eIf, eTup, eLst, eNew, eCall, eFn, eMe, eMk, eFld, eMeL, eMeL0, aNil, aCons, bAnd, bOr, bNot, bYes, sSeq, sNx, sEx, sRet, sRetN, sIf, sAsg, gSet, sPar, sFldM, sFldAdd, sRaise, Out.bind, Out.st, SO.seq, fin, runB, startW]) (by simpa [wd, T.ne_NotThere_OutOfRange, T.ne_NotThere_Malformed, T.ne_NotThere_Refused, T.ne_NotThere_TooMuch] using h.symm)
  · exact done [false, false, false, true, false] "refused" (by simp [eVar, eC, eBin, eTest, eTru, eAnd, eOr, eNot, eNeg, eIf, eTup, eLst, eNew, eCall, eFn, eMe, eMk, eFld, eMeL, eMeL0, aNil, aCons, bAnd, bOr, bNot, bYes, sSeq, sNx, sEx, sRet, sRetN, sIf, sAsg, gSet, sPar, sFldM, sFldAdd, sRaise, Out.bind, Out.st, SO.seq, fin, runB, startW, T.ne_Refused_OutOfRange, T.ne_Refused_Malformed, T.ne_Refused_NotThere, T.ne_Refused_TooMuch]) (by simp [eVar, eC, eBin, eTest, eTru, eAnd, eOr, eNot, eNeg, eIf, eTup, eLst, eNew, eCall, eFn, eMe, eMk, eFld, eMeL, eMeL0, aNil, aCons, bAnd, bOr, bNot, bYes, sSeq, sNx, sEx, sRet, sRetN, sIf, sAsg, gSet, sPar, sFldM, sFldAdd, sRaise, Out.bind, Out.st, SO.seq, fin, runB, startW]) (by simpa [wd, T.ne_Refused_OutOfRange, T.ne_Refused_Malformed, T.ne_Refused_NotThere, T.ne_Refused_TooMuch] using h.symm)
  · exact done [false, false, false, false, true] "much" (by simp [eVar, eC, eBin, eTest, eTru, eAnd, eOr, eNot, eNeg, eIf, eTup, eLst, eNew, eCall, eFn, eMe, eMk, eFld, eMeL, eMeL0, aNil, aCons, bAnd, bOr, bNot, bYes, sSeq, sNx, sEx, sRet, sRetN, sIf, sAsg, gSet, sPar, sFldM, sFldAdd, sRaise, Out.bind, Out.st, SO.seq, fin, runB, startW, T.ne_TooMuch_OutOfRange, T.ne_TooMuch_Malformed, T.ne_TooMuch_NotThere, T.ne_TooMuch_Refused]) (by simp [eVar, eC, eBin, eTest, eTru, eAnd, eOr, eNot, eNeg, eIf, eTup, eLst, eNew, eCall, eFn, eMe, eMk, eFld, eMeL, eMeL0, aNil, aCons, bAnd, bOr, bNot, bYes, sSeq, sNx, sEx, sRet, sRetN, sIf, sAsg, gSet, sPar, sFldM, sFldAdd, sRaise, Out.bind, Out.st, SO.seq, fin, runB, startW]) (by simpa [wd, T.ne_TooMuch_OutOfRange, T.ne_TooMuch_Malformed, T.ne_TooMuch_NotThere, T.ne_TooMuch_Refused] using h.symm)
end
end K44
namespace K44
open PySem PySem.Spec PyProof.Rows L2 PD
section
variable {A : Adr} {μ : Mu}
/-- the kind -/
def kW (a b : Int) : W := .tup [.tup [.str "dst", .int a], .tup [.str "pt", .int 2], .tup [.str "sw", .int b]]
theorem eqs (x y : Str) (hx : PyData.canLay0 (.str x) = true) (hy : PyData.canLay0 (.str y) = true) (b : Bool) (h : (x == y) = b) : gEq (.str x) (.str y) μ = .ok (.bl b) μ := by rw [gEq_str hx hy, h]
theorem c_dst : PyData.canLay0 (.str "dst") = true := by decide +kernel
theorem c_pt : PyData.canLay0 (.str "pt") = true := by decide +kernel
theorem c_sw : PyData.canLay0 (.str "sw") = true := by decide +kernel
theorem place_pt {a b : Int} : f_place_of A [kW a b, .str "pt"] μ = .ok (.int 1) μ := by
  have e1 : gEq (.str "dst") (.str "pt") μ = .ok (.bl false) μ := eqs _ _ c_dst c_pt _ (by decide +kernel)
  have e2 : gEq (.str "pt") (.str "pt") μ = .ok (.bl true) μ := eqs _ _ c_pt c_pt _ (by decide +kernel)
  simp [eVar, eC, eBin, eTest, eTru, eAnd, eOr, eNot, eNeg, eIf, eTup, eLst, eNew, eCall, eFn, eMe, eMk, eFld, eMeL, eMeL0, aNil, aCons, bAnd, bOr, bNot, bYes, sSeq, sNx, sEx, sRet, sRetN, sIf, sAsg, gSet, sPar, sFldM, sFldAdd, sRaise, Out.bind, Out.st, SO.seq, fin, runB, startW, f_place_of, N_place_of, s_place_of, kW, sFor, iEnumM, enumW, forS, gTupM, gsCons, gsNil, s_place_of_0, e1, e2]
theorem place_sw {a b : Int} : f_place_of A [kW a b, .str "sw"] μ = .ok (.int 2) μ := by
  have e1 : gEq (.str "dst") (.str "sw") μ = .ok (.bl false) μ := eqs _ _ c_dst c_sw _ (by decide +kernel)
  have e2 : gEq (.str "pt") (.str "sw") μ = .ok (.bl false) μ := eqs _ _ c_pt c_sw _ (by decide +kernel)
  have e3 : gEq (.str "sw") (.str "sw") μ = .ok (.bl true) μ := eqs _ _ c_sw c_sw _ (by decide +kernel)
  simp [eVar, eC, eBin, eTest, eTru, eAnd, eOr, eNot, eNeg, eIf, eTup, eLst, eNew, eCall, eFn, eMe, eMk, eFld, eMeL, eMeL0, aNil, aCons, bAnd, bOr, bNot, bYes, sSeq, sNx, sEx, sRet, sRetN, sIf, sAsg, gSet, sPar, sFldM, sFldAdd, sRaise, Out.bind, Out.st, SO.seq, fin, runB, startW, f_place_of, N_place_of, s_place_of, kW, sFor, iEnumM, enumW, forS, gTupM, gsCons, gsNil, s_place_of_0, e1, e2, e3]
theorem ix1 {x y z : W} : gIx (.tup [x, y, z]) (.int 1) μ = .ok y μ := rfl
theorem ix2 {x y z : W} : gIx (.tup [x, y, z]) (.int 2) μ = .ok z μ := rfl
theorem end_ok {a b d p s : Int} : f_end_of A [kW a b, tupW [d, p, s]] μ = .ok (tupW [s, p]) μ := by
  have z2 : 2 ≤ sizeLine := by rw [sizeLine_val]; decide
  have v1 : f_value_in A [kW a b, tupW [d, p, s], .str "sw"] μ = .ok (.int s) μ := by
    simp [eVar, eC, eBin, eTest, eTru, eAnd, eOr, eNot, eNeg, eIf, eTup, eLst, eNew, eCall, eFn, eMe, eMk, eFld, eMeL, eMeL0, aNil, aCons, bAnd, bOr, bNot, bYes, sSeq, sNx, sEx, sRet, sRetN, sIf, sAsg, gSet, sPar, sFldM, sFldAdd, sRaise, Out.bind, Out.st, SO.seq, fin, runB, startW, f_value_in, N_value_in, s_value_in, place_sw, tupW, ix2]
  have v2 : f_value_in A [kW a b, tupW [d, p, s], .str "pt"] μ = .ok (.int p) μ := by
    simp [eVar, eC, eBin, eTest, eTru, eAnd, eOr, eNot, eNeg, eIf, eTup, eLst, eNew, eCall, eFn, eMe, eMk, eFld, eMeL, eMeL0, aNil, aCons, bAnd, bOr, bNot, bYes, sSeq, sNx, sEx, sRet, sRetN, sIf, sAsg, gSet, sPar, sFldM, sFldAdd, sRaise, Out.bind, Out.st, SO.seq, fin, runB, startW, f_value_in, N_value_in, s_value_in, place_pt, tupW, ix1]
  simp [eVar, eC, eBin, eTest, eTru, eAnd, eOr, eNot, eNeg, eIf, eTup, eLst, eNew, eCall, eFn, eMe, eMk, eFld, eMeL, eMeL0, aNil, aCons, bAnd, bOr, bNot, bYes, sSeq, sNx, sEx, sRet, sRetN, sIf, sAsg, gSet, sPar, sFldM, sFldAdd, sRaise, Out.bind, Out.st, SO.seq, fin, runB, startW, f_end_of, N_end_of, s_end_of, v1, v2, z2]
  rfl
/-! the wire at a packet's end -/
/-- the place of a link that begins here -/
def begins (L : List (List Int)) (s p : Int) (i : Nat) : Option W := if ((L.getD i []).take 2) = [s, p] then some (.int (i : Nat)) else none
theorem enum_get {l : List W} {i : Nat} {x : W} (h : (enumW l)[i]? = some x) : ∃ y, l[i]? = some y ∧ x = .tup [.int (i : Nat), y] := enumW_get h
theorem getD_of {α : Type} {l : List α} {i : Nat} {x d : α} (h : l[i]? = some x) : l.getD i d = x := by rw [List.getD_eq_getElem?_getD, h]; rfl
theorem cut2 {k : List Int} : cutW (k.map W.int) none (some 2) = (k.take 2).map W.int := by
  rw [show (2 : Int) = ((2 : Nat) : Int) from rfl, cutHead, List.map_take]
theorem wire_from_ok {w : Nat} {qs : List Nat} {a b d p s : Int} {L : List (List Int)} (hw : μ[w]? = some (.ins A.Wires (wf (kW a b) (.tup (L.map tupW)) qs))) :
    f_Wires_wire_from A [.loc w, tupW [d, p, s]] μ = .ok (((List.range' 0 L.length).findSome? (begins L s p)).getD .non) μ := by
  have key : s_Wires_wire_from A [some (.loc w), some (tupW [d, p, s]), none, none, none] μ = .rt (((List.range' 0 L.length).findSome? (begins L s p)).getD .non) μ := by
    refine (seq_nx (ρ1 := [some (.loc w), some (tupW [d, p, s]), some (tupW [s, p]), none, none]) (μ1 := μ) (by simp [eVar, eC, eBin, eTest, eTru, eAnd, eOr, eNot, eNeg, eIf, eTup, eLst, eNew, eCall, eFn, eMe, eMk, eFld, eMeL, eMeL0, aNil, aCons, bAnd, bOr, bNot, bYes, sSeq, sNx, sEx, sRet, sRetN, sIf, sAsg, gSet, sPar, sFldM, sFldAdd, sRaise, Out.bind, Out.st, SO.seq, fin, runB, startW, Wf_kind hw, end_ok])).trans ?_
    have fe : sFor (iEnumM (aCons (eFld A.Wires "links" (eVar 0)) aNil)) (gTupM 2 (gsCons (gSet 3) (gsCons (gSet 4) gsNil))) (s_Wires_wire_from_0 A) [some (.loc w), some (tupW [d, p, s]), some (tupW [s, p]), none, none] μ =
        forS (gTupM 2 (gsCons (gSet 3) (gsCons (gSet 4) gsNil))) (s_Wires_wire_from_0 A) (enumW (L.map tupW)) [some (.loc w), some (tupW [d, p, s]), some (tupW [s, p]), none, none] μ := by
      simp [eVar, eC, eBin, eTest, eTru, eAnd, eOr, eNot, eNeg, eIf, eTup, eLst, eNew, eCall, eFn, eMe, eMk, eFld, eMeL, eMeL0, aNil, aCons, bAnd, bOr, bNot, bYes, sSeq, sNx, sEx, sRet, sRetN, sIf, sAsg, gSet, sPar, sFldM, sFldAdd, sRaise, Out.bind, Out.st, SO.seq, fin, runB, startW, sFor, iEnumM, Wf_links hw]
    have h := forS_first (μ := μ) (g := gTupM 2 (gsCons (gSet 3) (gsCons (gSet 4) gsNil))) (body := s_Wires_wire_from_0 A) (f := begins L s p) (fun ρ => ∃ u v, ρ = [some (.loc w), some (tupW [d, p, s]), some (tupW [s, p]), u, v]) (enumW (L.map tupW)) 0
      [some (.loc w), some (tupW [d, p, s]), some (tupW [s, p]), none, none] ⟨none, none, rfl⟩ fun i x ρ hx hI => by
        obtain ⟨u, v, rfl⟩ := hI
        obtain ⟨y, hy, rfl⟩ := enum_get hx
        rw [List.getElem?_map] at hy
        obtain ⟨k, hk, rfl⟩ := Option.map_eq_some_iff.mp hy
        refine ⟨[some (.loc w), some (tupW [d, p, s]), some (tupW [s, p]), some (.int (i : Nat)), some (tupW k)], by simp [eVar, eC, eBin, eTest, eTru, eAnd, eOr, eNot, eNeg, eIf, eTup, eLst, eNew, eCall, eFn, eMe, eMk, eFld, eMeL, eMeL0, aNil, aCons, bAnd, bOr, bNot, bYes, sSeq, sNx, sEx, sRet, sRetN, sIf, sAsg, gSet, sPar, sFldM, sFldAdd, sRaise, Out.bind, Out.st, SO.seq, fin, runB, startW, gTupM, gsCons, gsNil], ?_⟩
        have c : gCut (tupW k) none (some 2) μ = .ok (tupW (k.take 2)) μ := by simp only [gCut, tupW, cut2]
        rw [Nat.zero_add]
        unfold begins
        rw [getD_of hk]
        by_cases h : k.take 2 = [s, p]
        · exact .inr ⟨.int (i : Nat), by rw [if_pos h], by simp [eVar, eC, eBin, eTest, eTru, eAnd, eOr, eNot, eNeg, eIf, eTup, eLst, eNew, eCall, eFn, eMe, eMk, eFld, eMeL, eMeL0, aNil, aCons, bAnd, bOr, bNot, bYes, sSeq, sNx, sEx, sRet, sRetN, sIf, sAsg, gSet, sPar, sFldM, sFldAdd, sRaise, Out.bind, Out.st, SO.seq, fin, runB, startW, s_Wires_wire_from_0, eCut, oNone, oSome, c, gEq_tupW, h]⟩
        · exact .inl ⟨by rw [if_neg h], [some (.loc w), some (tupW [d, p, s]), some (tupW [s, p]), some (.int (i : Nat)), some (tupW k)], by simp [eVar, eC, eBin, eTest, eTru, eAnd, eOr, eNot, eNeg, eIf, eTup, eLst, eNew, eCall, eFn, eMe, eMk, eFld, eMeL, eMeL0, aNil, aCons, bAnd, bOr, bNot, bYes, sSeq, sNx, sEx, sRet, sRetN, sIf, sAsg, gSet, sPar, sFldM, sFldAdd, sRaise, Out.bind, Out.st, SO.seq, fin, runB, startW, s_Wires_wire_from_0, eCut, oNone, oSome, c, gEq_tupW, h], _, _, rfl⟩
    rw [enumW_length, List.length_map] at h
    rcases h with ⟨h1, ρ', e, _⟩ | ⟨y, h1, e⟩
    · refine (seq_nx (fe.trans e)).trans ?_
      rw [h1]
      rfl
    · refine (seq_rt (fe.trans e)).trans ?_
      rw [h1]
      rfl
  simp [eVar, eC, eBin, eTest, eTru, eAnd, eOr, eNot, eNeg, eIf, eTup, eLst, eNew, eCall, eFn, eMe, eMk, eFld, eMeL, eMeL0, aNil, aCons, bAnd, bOr, bNot, bYes, sSeq, sNx, sEx, sRet, sRetN, sIf, sAsg, gSet, sPar, sFldM, sFldAdd, sRaise, Out.bind, Out.st, SO.seq, fin, runB, startW, f_Wires_wire_from, N_Wires_wire_from, key]
/-! the wires are made -/
def locs (b : Nat) : Nat → List Nat
  | 0 => []
  | n + 1 => b :: locs (b + 2) n
def qcells (A : Adr) (r : W) (b : Nat) : Nat → Mu
  | 0 => []
  | n + 1 => .ins A.Queue (qf (.str fst) r (b + 1) 0) :: .lst [] :: qcells A r (b + 2) n
theorem locs_len : ∀ {n b : Nat}, (locs b n).length = n
  | 0, _ => rfl
  | n + 1, b => by rw [locs, List.length_cons, locs_len]
theorem locs_get : ∀ {n b i : Nat}, i < n → (locs b n)[i]? = some (b + 2 * i)
  | 0, _, _, h => by omega
  | n + 1, b, 0, _ => rfl
  | n + 1, b, i + 1, h => by
    rw [locs, List.getElem?_cons_succ, locs_get (by omega)]
    congr 1
    omega
theorem qcells_len {r : W} : ∀ {n b : Nat}, (qcells A r b n).length = 2 * n
  | 0, _ => rfl
  | n + 1, b => by rw [qcells, List.length_cons, List.length_cons, qcells_len]; omega
theorem qcells_q {r : W} : ∀ {n b i : Nat}, i < n → (qcells A r b n)[2 * i]? = some (.ins A.Queue (qf (.str fst) r (b + 2 * i + 1) 0))
  | 0, _, _, h => by omega
  | n + 1, b, 0, _ => rfl
  | n + 1, b, i + 1, h => by
    rw [qcells, show 2 * (i + 1) = 2 * i + 1 + 1 by omega, List.getElem?_cons_succ, List.getElem?_cons_succ, qcells_q (by omega), show b + 2 + 2 * i + 1 = b + (2 * i + 1 + 1) + 1 by omega]
theorem qcells_t {r : W} : ∀ {n b i : Nat}, i < n → (qcells A r b n)[2 * i + 1]? = some (.lst [])
  | 0, _, _, h => by omega
  | n + 1, b, 0, _ => rfl
  | n + 1, b, i + 1, h => by
    rw [qcells, show 2 * (i + 1) + 1 = 2 * i + 1 + 1 + 1 by omega, List.getElem?_cons_succ, List.getElem?_cons_succ, qcells_t (by omega)]
theorem make_queues {r : W} (hr : isRoom r) {ρ : PD.Env} (h3 : ρ.length = 5) (h4 : ρ[3]? = some (some r)) : ∀ (l acc : List W) (μ : Mu), acc.length + l.length ≤ sizeLine →
    cmpS (gSet 4) bYes (eMk A.Queue 3 (f_Queue_init A) (aCons (eC (.str "first")) (aCons (eVar 3) aNil))) ρ l acc μ = .ok (.lst (acc ++ (locs μ.length l.length).map .loc)) (μ ++ qcells A r μ.length l.length)
  | [], acc, μ, _ => by simp [eVar, eC, eBin, eTest, eTru, eAnd, eOr, eNot, eNeg, eIf, eTup, eLst, eNew, eCall, eFn, eMe, eMk, eFld, eMeL, eMeL0, aNil, aCons, bAnd, bOr, bNot, bYes, sSeq, sNx, sEx, sRet, sRetN, sIf, sAsg, gSet, sPar, sFldM, sFldAdd, sRaise, Out.bind, Out.st, SO.seq, fin, runB, startW, cmpS, locs, qcells]
  | x :: l, acc, μ, hl => by
    have hl' : acc.length < sizeLine := by rw [List.length_cons] at hl; omega
    have e : (eMk A.Queue 3 (f_Queue_init A) (aCons (eC (.str "first")) (aCons (eVar 3) aNil))) (ρ.set 4 (some x)) μ = .ok (.loc μ.length) (μ ++ [.ins A.Queue (qf (.str fst) r (μ.length + 1) 0), .lst []]) := by
      have h5 : (ρ.set 4 (some x))[3]? = some (some r) := by rw [List.getElem?_set_ne (by decide)]; exact h4
      have hi := init_ok (A := A) (μ := μ) (o := fst) (r := r) (.inl rfl) hr
      simp only [eMk, aCons, aNil, eC, eVar, Out.bind, h5, List.length_cons, List.length_nil, if_true, hi]
    unfold cmpS
    simp only [gSet, bYes]
    rw [e]
    dsimp only
    rw [if_pos hl']
    have ih := make_queues hr h3 h4 l (acc ++ [.loc μ.length]) (μ ++ [.ins A.Queue (qf (.str fst) r (μ.length + 1) 0), .lst []]) (by rw [List.length_append, List.length_singleton]; rw [List.length_cons] at hl; omega)
    refine ih.trans ?_
    simp [eVar, eC, eBin, eTest, eTru, eAnd, eOr, eNot, eNeg, eIf, eTup, eLst, eNew, eCall, eFn, eMe, eMk, eFld, eMeL, eMeL0, aNil, aCons, bAnd, bOr, bNot, bYes, sSeq, sNx, sEx, sRet, sRetN, sIf, sAsg, gSet, sPar, sFldM, sFldAdd, sRaise, Out.bind, Out.st, SO.seq, fin, runB, startW, locs, qcells]
theorem initW_ok {k r : W} {lk : List W} (hr : isRoom r) (hl : lk.length ≤ sizeLine) : f_Wires_init A [.loc μ.length, k, .tup lk, r] (μ ++ [.ins A.Wires []]) = .ok .non (μ ++ .ins A.Wires (wf k (.tup lk) (locs (μ.length + 1) lk.length)) :: qcells A r (μ.length + 1) lk.length) := by
  have key : s_Wires_init A [some (.loc μ.length), some k, some (.tup lk), some r, none] (μ ++ [.ins A.Wires []]) = .nx [some (.loc μ.length), some k, some (.tup lk), some r, none] (μ ++ .ins A.Wires (wf k (.tup lk) (locs (μ.length + 1) lk.length)) :: qcells A r (μ.length + 1) lk.length) := by
    refine (seq_nx (ρ1 := [some (.loc μ.length), some k, some (.tup lk), some r, none]) (μ1 := μ ++ [.ins A.Wires [("kind", k)]]) (by simp [eVar, eC, eBin, eTest, eTru, eAnd, eOr, eNot, eNeg, eIf, eTup, eLst, eNew, eCall, eFn, eMe, eMk, eFld, eMeL, eMeL0, aNil, aCons, bAnd, bOr, bNot, bYes, sSeq, sNx, sEx, sRet, sRetN, sIf, sAsg, gSet, sPar, sFldM, sFldAdd, sRaise, Out.bind, Out.st, SO.seq, fin, runB, startW, setFld, putW, cat_at, cat_set])).trans ?_
    refine (seq_nx (ρ1 := [some (.loc μ.length), some k, some (.tup lk), some r, none]) (μ1 := μ ++ [.ins A.Wires [("kind", k), ("links", .tup lk)]]) (by simp [eVar, eC, eBin, eTest, eTru, eAnd, eOr, eNot, eNeg, eIf, eTup, eLst, eNew, eCall, eFn, eMe, eMk, eFld, eMeL, eMeL0, aNil, aCons, bAnd, bOr, bNot, bYes, sSeq, sNx, sEx, sRet, sRetN, sIf, sAsg, gSet, sPar, sFldM, sFldAdd, sRaise, Out.bind, Out.st, SO.seq, fin, runB, startW, setFld, putW, cat_at, cat_set, wt0])).trans ?_
    have e : eCmp (iSeq (eVar 2)) [4] (gSet 4) bYes (eMk A.Queue 3 (f_Queue_init A) (aCons (eC (.str "first")) (aCons (eVar 3) aNil))) [some (.loc μ.length), some k, some (.tup lk), some r, none] (μ ++ [.ins A.Wires [("kind", k), ("links", .tup lk)]]) =
        .ok (.lst ((locs (μ.length + 1) lk.length).map .loc)) (μ ++ .ins A.Wires [("kind", k), ("links", .tup lk)] :: qcells A r (μ.length + 1) lk.length) := by
      have h := make_queues (A := A) hr (ρ := [some (.loc μ.length), some k, some (.tup lk), some r, none]) rfl rfl lk [] (μ ++ [.ins A.Wires [("kind", k), ("links", .tup lk)]]) (by simpa using hl)
      rw [List.length_append, List.length_singleton, List.nil_append, List.append_assoc] at h
      exact h
    have s : sFldM A.Wires "queues" (eCmp (iSeq (eVar 2)) [4] (gSet 4) bYes (eMk A.Queue 3 (f_Queue_init A) (aCons (eC (.str "first")) (aCons (eVar 3) aNil)))) (eVar 0) [some (.loc μ.length), some k, some (.tup lk), some r, none] (μ ++ [.ins A.Wires [("kind", k), ("links", .tup lk)]]) =
        match setFld A.Wires "queues" (.lst ((locs (μ.length + 1) lk.length).map .loc)) (μ ++ .ins A.Wires [("kind", k), ("links", .tup lk)] :: qcells A r (μ.length + 1) lk.length) (.loc μ.length) with
        | some μ3 => .nx [some (.loc μ.length), some k, some (.tup lk), some r, none] μ3
        | none => .no := by
      unfold sFldM
      rw [e]
      rfl
    rw [s]
    simp [eVar, eC, eBin, eTest, eTru, eAnd, eOr, eNot, eNeg, eIf, eTup, eLst, eNew, eCall, eFn, eMe, eMk, eFld, eMeL, eMeL0, aNil, aCons, bAnd, bOr, bNot, bYes, sSeq, sNx, sEx, sRet, sRetN, sIf, sAsg, gSet, sPar, sFldM, sFldAdd, sRaise, Out.bind, Out.st, SO.seq, fin, runB, startW, setFld, putW, wf, cat_at, cat_set, wt1, wt2]
  simp [eVar, eC, eBin, eTest, eTru, eAnd, eOr, eNot, eNeg, eIf, eTup, eLst, eNew, eCall, eFn, eMe, eMk, eFld, eMeL, eMeL0, aNil, aCons, bAnd, bOr, bNot, bYes, sSeq, sNx, sEx, sRet, sRetN, sIf, sAsg, gSet, sPar, sFldM, sFldAdd, sRaise, Out.bind, Out.st, SO.seq, fin, runB, startW, f_Wires_init, N_Wires_init, key]
end
end K44
namespace K44
open PySem PySem.Spec PyProof.Rows L2 PD
section
variable {A : Adr} {μ : Mu}
theorem gAdd_int {i j : Int} : gAdd (.int i) (.int j) μ = .ok (.int (i + j)) μ := rfl
theorem take_ok2 {d : Nat} {b : Int} {l : List Int} (h : μ[d]? = some (.lst (intsW l))) (hb : 0 < b) : ∃ z l' μ', f_law_take A [.loc d, .int b] μ = .ok (.int z) μ' ∧ 0 ≤ z ∧ z < b ∧ μ'.length = μ.length ∧ μ'[d]? = some (.lst (intsW l')) ∧ ∀ i, i ≠ d → μ'[i]? = μ[i]? := by
  obtain ⟨z, l', e, h1, h2⟩ := take_ok (A := A) h hb
  refine ⟨z, l', _, e, h1, h2, by simp, by rw [at_set h, if_pos rfl], fun i hi => ?_⟩
  rw [at_set h, if_neg (Ne.symm hi)]
theorem kind_ok {d : Nat} {l : List Int} (h : μ[d]? = some (.lst (intsW l))) : ∃ a b μ' l', f_law_kind A [.loc d] μ = .ok (kW a b) μ' ∧ 1 ≤ a ∧ a ≤ 2 ∧ 1 ≤ b ∧ b ≤ 3 ∧ μ'[d]? = some (.lst (intsW l')) := by
  have z2 : 2 ≤ sizeLine := by rw [sizeLine_val]; decide
  have z3 : 3 ≤ sizeLine := by rw [sizeLine_val]; decide
  obtain ⟨x, l1, μ1, e1, x0, x1, _, h1, _⟩ := take_ok2 (A := A) h (show (0 : Int) < 2 by decide)
  obtain ⟨y, l2, μ2, e2, y0, y1, _, h2, _⟩ := take_ok2 (A := A) h1 (show (0 : Int) < 3 by decide)
  refine ⟨1 + x, 1 + y, μ2, l2, ?_, by omega, by omega, by omega, by omega, h2⟩
  simp [eVar, eC, eBin, eTest, eTru, eAnd, eOr, eNot, eNeg, eIf, eTup, eLst, eNew, eCall, eFn, eMe, eMk, eFld, eMeL, eMeL0, aNil, aCons, bAnd, bOr, bNot, bYes, sSeq, sNx, sEx, sRet, sRetN, sIf, sAsg, gSet, sPar, sFldM, sFldAdd, sRaise, Out.bind, Out.st, SO.seq, fin, runB, startW, f_law_kind, N_law_kind, s_law_kind, e1, e2, gAdd_int, z2, z3, kW]
theorem map_erase {α β : Type} (f : α → β) : ∀ (l : List α) (k : Nat), (l.map f).eraseIdx k = (l.eraseIdx k).map f
  | [], _ => rfl
  | _ :: _, 0 => rfl
  | x :: l, k + 1 => by
    rw [List.map_cons, List.eraseIdx_cons_succ, List.eraseIdx_cons_succ, List.map_cons, map_erase f l k]
/-! the links -/
abbrev LL := List (List Int)
def outsF (c : Int) (i : Nat) : Option W := some (tupW [((i : Nat) : Int), c])
def outsL (n : Nat) (c : Int) : LL := (List.range' 0 n).map fun i => [((i : Nat) : Int), c]
theorem outs_comp {n : Nat} {b c : Int} (hb : b + 1 = (n : Nat)) (hn : n ≤ 8) {ρ : PD.Env} {a : Int} (h1 : ρ[1]? = some (some (kW a b))) (h7 : ρ.length = 8) :
    eCmp (iRngA (aCons (eBin gAdd (eBin gIx (eBin gIx (eVar 1) (eC (.int 2))) (eC (.int 1))) (eC (.int 1))) aNil)) [7] (gSet 7) bYes (eTup (aCons (eVar 7) (aCons (eC (.int c)) aNil))) ρ μ = .ok (.lst ((outsL n c).map tupW)) μ := by
  have sl := sizeLine_val
  have z2 : 2 ≤ sizeLine := by omega
  have i1 : gIx (kW a b) (.int 2) μ = .ok (.tup [.str "sw", .int b]) μ := rfl
  have i2 : gIx (.tup [.str "sw", .int b]) (.int 1) μ = .ok (.int b) μ := rfl
  have r : iRngA (aCons (eBin gAdd (eBin gIx (eBin gIx (eVar 1) (eC (.int 2))) (eC (.int 1))) (eC (.int 1))) aNil) ρ μ = .ok (.seq (irange 0 n)) μ := by
    refine rangeA (by omega) ?_
    simp [eVar, eC, eBin, eTest, eTru, eAnd, eOr, eNot, eNeg, eIf, eTup, eLst, eNew, eCall, eFn, eMe, eMk, eFld, eMeL, eMeL0, aNil, aCons, bAnd, bOr, bNot, bYes, sSeq, sNx, sEx, sRet, sRetN, sIf, sAsg, gSet, sPar, sFldM, sFldAdd, sRaise, Out.bind, Out.st, SO.seq, fin, runB, startW, h1, i1, i2, gAdd_int, hb]
  have h := cmpS_ix (μ := μ) (g := gSet 7) (tt := bYes) (me := eTup (aCons (eVar 7) (aCons (eC (.int c)) aNil))) (ρ := wipeW ρ [7]) (f := outsF c) (irange 0 n) 0 [] (fun i x hx => by
    obtain ⟨hi, rfl⟩ := irange_get hx
    refine ⟨_, rfl, .inr ⟨_, rfl, rfl, ?_⟩⟩
    have h7' : ((wipeW ρ [7]).set 7 (some (W.int (0 + (i : Nat)))))[7]? = some (some (.int (0 + (i : Nat)))) := by
      rw [List.getElem?_set_self]
      simp [eVar, eC, eBin, eTest, eTru, eAnd, eOr, eNot, eNeg, eIf, eTup, eLst, eNew, eCall, eFn, eMe, eMk, eFld, eMeL, eMeL0, aNil, aCons, bAnd, bOr, bNot, bYes, sSeq, sNx, sEx, sRet, sRetN, sIf, sAsg, gSet, sPar, sFldM, sFldAdd, sRaise, Out.bind, Out.st, SO.seq, fin, runB, startW, wipeW, h7]
    rw [Int.zero_add] at h7' ⊢
    simp only [eTup, aCons, aNil, eVar, eC, Out.bind, h7', List.length_cons, List.length_nil, z2, if_true, Nat.zero_add]
    rfl) (by rw [irange_len, List.length_nil]; omega)
  have e : eCmp (iRngA (aCons (eBin gAdd (eBin gIx (eBin gIx (eVar 1) (eC (.int 2))) (eC (.int 1))) (eC (.int 1))) aNil)) [7] (gSet 7) bYes (eTup (aCons (eVar 7) (aCons (eC (.int c)) aNil))) ρ μ = cmpS (gSet 7) bYes (eTup (aCons (eVar 7) (aCons (eC (.int c)) aNil))) (wipeW ρ [7]) (irange 0 n) [] μ := by
    unfold eCmp
    rw [r]
    rfl
  rw [e, h, irange_len, List.nil_append]
  congr 2
  unfold outsF outsL
  rw [List.map_map, ← List.filterMap_eq_map]
  rfl
def small (k : List Int) : Prop := ∃ x y : Int, k = [x, y] ∧ 0 ≤ x ∧ x < 8 ∧ 0 ≤ y ∧ y < 8
theorem outs_small {n : Nat} (hn : n ≤ 8) {c : Int} (c0 : 0 ≤ c) (c8 : c < 8) : ∀ k ∈ outsL n c, small k := fun k hk => by
  unfold outsL at hk
  obtain ⟨i, hi, rfl⟩ := List.mem_map.mp hk
  rw [List.mem_range'_1] at hi
  exact ⟨_, _, rfl, by omega, by omega, c0, c8⟩
/-- behind j of the ways out -/
structure LInv (d : Nat) (kw : W) (O : LL) (a : Nat) (j : Nat) (ρ : PD.Env) (μ : Mu) : Prop where
  hρ : ∃ x5 x6 x7, ρ = [some (.loc d), some kw, some (.lst (O.map tupW)), some (.loc a), some (.loc (a + 1)), x5, x6, x7]
  df : d < a
  hd : ∃ l, μ[d]? = some (.lst (intsW l))
  hs : ∃ ins found : LL, μ[a]? = some (.lst (ins.map tupW)) ∧ μ[a + 1]? = some (.lst (found.map tupW)) ∧ ins.length + found.length = O.length ∧ found.length ≤ j ∧ (∀ k ∈ ins, small k) ∧ ∀ k ∈ found, inT 4 8 k = true
theorem links_step {d a j : Nat} {kw : W} {O : LL} {ρ : PD.Env} (hO : O.length ≤ 8) (h : LInv d kw O a j ρ μ) {k : List Int} (hk : small k) (hj : j < O.length) : ∃ ρ' μ', s_law_links_0 A (ρ.set 5 (some (tupW k))) μ = .nx ρ' μ' ∧ LInv d kw O a (j + 1) ρ' μ' := by
  have sl := sizeLine_val
  obtain ⟨⟨x5, x6, x7, rfl⟩, df, ⟨l, hd⟩, ins, found, h1, h2, h3, h4, h5, h6⟩ := h
  obtain ⟨z, l1, μ1, e1, _, _, _, hd1, k1⟩ := take_ok2 (A := A) hd (show (0 : Int) < 6 by decide)
  have h1' : μ1[a]? = some (.lst (ins.map tupW)) := by rw [k1 a (by omega)]; exact h1
  have h2' : μ1[a + 1]? = some (.lst (found.map tupW)) := by rw [k1 (a + 1) (by omega)]; exact h2
  show ∃ ρ' μ', s_law_links_0 A [some (.loc d), some kw, some (.lst (O.map tupW)), some (.loc a), some (.loc (a + 1)), some (tupW k), x6, x7] μ = .nx ρ' μ' ∧ _
  by_cases hz : 0 < z
  · have hlen : 0 < ins.length := by omega
    obtain ⟨y, l2, μ2, e2, y0, y1, _, hd2, k2⟩ := take_ok2 (A := A) hd1 (show (0 : Int) < (ins.length : Int) by omega)
    have h1'' : μ2[a]? = some (.lst (ins.map tupW)) := by rw [k2 a (by omega)]; exact h1'
    have h2'' : μ2[a + 1]? = some (.lst (found.map tupW)) := by rw [k2 (a + 1) (by omega)]; exact h2'
    have hy : y.toNat < ins.length := by omega
    obtain ⟨o, ho⟩ : ∃ o, ins[y.toNat]? = some o := ⟨_, List.getElem?_eq_getElem hy⟩
    have hsq : seqIndex? y (ins.map tupW).length = some y.toNat := by
      have h0 : ¬ (y < 0) := by omega
      simp only [seqIndex?, if_neg h0]
      rw [List.length_map]
      have : y < (ins.length : Int) := y1
      simp [eVar, eC, eBin, eTest, eTru, eAnd, eOr, eNot, eNeg, eIf, eTup, eLst, eNew, eCall, eFn, eMe, eMk, eFld, eMeL, eMeL0, aNil, aCons, bAnd, bOr, bNot, bYes, sSeq, sNx, sEx, sRet, sRetN, sIf, sAsg, gSet, sPar, sFldM, sFldAdd, sRaise, Out.bind, Out.st, SO.seq, fin, runB, startW, this, y0, hy]
    have hpop : mPopAt (.loc a) [.int y] μ2 = .ok (tupW o) (μ2.set a (.lst ((ins.eraseIdx y.toNat).map tupW))) := by
      have b1 : -(2 ^ 63) ≤ y ∧ y < 2 ^ 63 := by omega
      have me : (ins.map tupW).eraseIdx y.toNat = (ins.eraseIdx y.toNat).map tupW := map_erase _ _ _
      simp only [mPopAt, h1'', hsq, if_pos b1, List.getElem?_map, ho, Option.map_some, me]
    have hL : isL μ1 (.loc a) = true := by simp only [isL, asL, h1']; rfl
    have hc : cLen [.loc a] μ1 = .ok (.int ins.length) μ1 := by rw [cLen_loc h1', List.length_map]
    generalize hμ3 : μ2.set a (.lst ((ins.eraseIdx y.toNat).map tupW)) = μ3 at hpop
    have hd3 : μ3[d]? = some (.lst (intsW l2)) := by rw [← hμ3, at_set h1'', if_neg (by omega)]; exact hd2
    have ha3 : μ3[a]? = some (.lst ((ins.eraseIdx y.toNat).map tupW)) := by rw [← hμ3, at_set h1'', if_pos rfl]
    have hf3 : μ3[a + 1]? = some (.lst (found.map tupW)) := by rw [← hμ3, at_set h1'', if_neg (by omega)]; exact h2''
    have hadd : gAdd (tupW k) (tupW o) μ3 = .ok (tupW (k ++ o)) μ3 := by
      have so : small o := h5 o (List.mem_of_getElem? ho)
      obtain ⟨p, q, rfl, _⟩ := hk
      obtain ⟨p', q', rfl, _⟩ := so
      have z4 : 2 + 2 ≤ sizeLine := by omega
      simp [eVar, eC, eBin, eTest, eTru, eAnd, eOr, eNot, eNeg, eIf, eTup, eLst, eNew, eCall, eFn, eMe, eMk, eFld, eMeL, eMeL0, aNil, aCons, bAnd, bOr, bNot, bYes, sSeq, sNx, sEx, sRet, sRetN, sIf, sAsg, gSet, sPar, sFldM, sFldAdd, sRaise, Out.bind, Out.st, SO.seq, fin, runB, startW, gAdd, orG, gAddI, gI, Out.els, gCat, asL, gCatT, tupW, z4]
    have hL3 : isL μ3 (.loc (a + 1)) = true := by simp only [isL, asL, hf3]; rfl
    have happ : mAppend (.loc (a + 1)) [tupW (k ++ o)] μ3 = .ok .non (μ3.set (a + 1) (.lst (found.map tupW ++ [tupW (k ++ o)]))) := by
      have : (found.map tupW).length < sizeLine := by rw [List.length_map]; omega
      simp only [mAppend, hf3, this, if_true]
    refine ⟨[some (.loc d), some kw, some (.lst (O.map tupW)), some (.loc a), some (.loc (a + 1)), some (tupW k), some (tupW o), x7], μ3.set (a + 1) (.lst (found.map tupW ++ [tupW (k ++ o)])), ?_, ⟨_, _, _, rfl⟩, df, ⟨l2, ?_⟩, ins.eraseIdx y.toNat, found ++ [k ++ o], ?_, ?_, ?_, ?_, ?_, ?_⟩
    · simp [eVar, eC, eBin, eTest, eTru, eAnd, eOr, eNot, eNeg, eIf, eTup, eLst, eNew, eCall, eFn, eMe, eMk, eFld, eMeL, eMeL0, aNil, aCons, bAnd, bOr, bNot, bYes, sSeq, sNx, sEx, sRet, sRetN, sIf, sAsg, gSet, sPar, sFldM, sFldAdd, sRaise, Out.bind, Out.st, SO.seq, fin, runB, startW, s_law_links_0, e1, gGt, gI, hz, hL, hc, e2, hpop, hL3, hadd, happ]
    · rw [at_set hf3, if_neg (by omega)]; exact hd3
    · rw [at_set hf3, if_neg (by omega)]; exact ha3
    · rw [at_set hf3, if_pos rfl, List.map_append]; rfl
    · rw [List.length_eraseIdx_of_lt hy, List.length_append, List.length_singleton]; omega
    · rw [List.length_append, List.length_singleton]; omega
    · exact fun x hx => h5 x (List.mem_of_mem_eraseIdx hx)
    · intro x hx
      rcases List.mem_append.mp hx with hx | hx
      · exact h6 x hx
      · rw [List.mem_singleton] at hx
        subst hx
        have so : small o := h5 o (List.mem_of_getElem? ho)
        obtain ⟨p, q, rfl, p0, p8, q0, q8⟩ := hk
        obtain ⟨p', q', rfl, p0', p8', q0', q8'⟩ := so
        simp [eVar, eC, eBin, eTest, eTru, eAnd, eOr, eNot, eNeg, eIf, eTup, eLst, eNew, eCall, eFn, eMe, eMk, eFld, eMeL, eMeL0, aNil, aCons, bAnd, bOr, bNot, bYes, sSeq, sNx, sEx, sRet, sRetN, sIf, sAsg, gSet, sPar, sFldM, sFldAdd, sRaise, Out.bind, Out.st, SO.seq, fin, runB, startW, inT, p0, p8, q0, q8, p0', p8', q0', q8']
  · refine ⟨[some (.loc d), some kw, some (.lst (O.map tupW)), some (.loc a), some (.loc (a + 1)), some (tupW k), x6, x7], μ1, by simp [eVar, eC, eBin, eTest, eTru, eAnd, eOr, eNot, eNeg, eIf, eTup, eLst, eNew, eCall, eFn, eMe, eMk, eFld, eMeL, eMeL0, aNil, aCons, bAnd, bOr, bNot, bYes, sSeq, sNx, sEx, sRet, sRetN, sIf, sAsg, gSet, sPar, sFldM, sFldAdd, sRaise, Out.bind, Out.st, SO.seq, fin, runB, startW, s_law_links_0, e1, gGt, gI, hz], ⟨_, _, _, rfl⟩, df, ⟨l1, hd1⟩, ins, found, h1', h2', h3, by omega, h5, h6⟩
theorem links_ok {d : Nat} {l : List Int} (h : μ[d]? = some (.lst (intsW l))) {a b : Int} (b1 : 1 ≤ b) (b3 : b ≤ 3) : ∃ (L : LL) (μ' : Mu) (l' : List Int), f_law_links A [.loc d, kW a b] μ = .ok (.tup (L.map tupW)) μ' ∧ L.length ≤ 8 ∧ μ'[d]? = some (.lst (intsW l')) := by
  have sl := sizeLine_val
  obtain ⟨n, hn⟩ : ∃ n : Nat, b + 1 = n := ⟨(b + 1).toNat, by omega⟩
  have n4 : n ≤ 4 := by omega
  have hd := (List.getElem?_eq_some_iff.mp h).1
  have c1 := outs_comp (μ := μ) (c := 1) hn (by omega) (ρ := [some (.loc d), some (kW a b), none, none, none, none, none, none]) (a := a) rfl rfl
  have c2 := outs_comp (μ := μ) (c := 2) hn (by omega) (ρ := [some (.loc d), some (kW a b), none, none, none, none, none, none]) (a := a) rfl rfl
  have ol : ∀ c, (outsL n c).length = n := fun c => by simp [eVar, eC, eBin, eTest, eTru, eAnd, eOr, eNot, eNeg, eIf, eTup, eLst, eNew, eCall, eFn, eMe, eMk, eFld, eMeL, eMeL0, aNil, aCons, bAnd, bOr, bNot, bYes, sSeq, sNx, sEx, sRet, sRetN, sIf, sAsg, gSet, sPar, sFldM, sFldAdd, sRaise, Out.bind, Out.st, SO.seq, fin, runB, startW, outsL]
  generalize hO : outsL n 1 ++ outsL n 2 = O
  have hOl : O.length = n + n := by rw [← hO, List.length_append, ol, ol]
  have hadd : gAdd (.lst ((outsL n 1).map tupW)) (.lst ((outsL n 2).map tupW)) μ = .ok (.lst (O.map tupW)) μ := by
    have : n + n ≤ sizeLine := by omega
    simp [eVar, eC, eBin, eTest, eTru, eAnd, eOr, eNot, eNeg, eIf, eTup, eLst, eNew, eCall, eFn, eMe, eMk, eFld, eMeL, eMeL0, aNil, aCons, bAnd, bOr, bNot, bYes, sSeq, sNx, sEx, sRet, sRetN, sIf, sAsg, gSet, sPar, sFldM, sFldAdd, sRaise, Out.bind, Out.st, SO.seq, fin, runB, startW, gAdd, orG, gAddI, gI, Out.els, gCat, asL, ol, this, ← hO]
  have hsm : ∀ k ∈ O, small k := fun k hk => by
    rw [← hO] at hk
    rcases List.mem_append.mp hk with hk | hk
    · exact outs_small (by omega) (by decide) (by decide) k hk
    · exact outs_small (by omega) (by decide) (by decide) k hk
  have zO : O.length ≤ sizeLine := by omega
  have z0 : 0 ≤ sizeLine := Nat.zero_le _
  have I0 : LInv d (kW a b) O μ.length 0 [some (.loc d), some (kW a b), some (.lst (O.map tupW)), some (.loc μ.length), some (.loc (μ.length + 1)), none, none, none] (μ ++ [.lst (O.map tupW), .lst []]) := by
    refine ⟨⟨_, _, _, rfl⟩, hd, ⟨l, ?_⟩, O, [], ?_, ?_, by simp, Nat.le_refl _, hsm, by simp⟩
    · rw [List.getElem?_append_left hd]; exact h
    · simp [eVar, eC, eBin, eTest, eTru, eAnd, eOr, eNot, eNeg, eIf, eTup, eLst, eNew, eCall, eFn, eMe, eMk, eFld, eMeL, eMeL0, aNil, aCons, bAnd, bOr, bNot, bYes, sSeq, sNx, sEx, sRet, sRetN, sIf, sAsg, gSet, sPar, sFldM, sFldAdd, sRaise, Out.bind, Out.st, SO.seq, fin, runB, startW]
    · rw [List.getElem?_append_right (by omega)]; simp [eVar, eC, eBin, eTest, eTru, eAnd, eOr, eNot, eNeg, eIf, eTup, eLst, eNew, eCall, eFn, eMe, eMk, eFld, eMeL, eMeL0, aNil, aCons, bAnd, bOr, bNot, bYes, sSeq, sNx, sEx, sRet, sRetN, sIf, sAsg, gSet, sPar, sFldM, sFldAdd, sRaise, Out.bind, Out.st, SO.seq, fin, runB, startW]
  obtain ⟨ρ', μ', e, I⟩ := forS_inv (g := gSet 5) (body := s_law_links_0 A) (LInv d (kW a b) O μ.length) (O.map tupW) 0 _ _ I0 fun j w ρ μ1 _ hx hI => by
    rw [Nat.sub_zero, List.getElem?_map] at hx
    obtain ⟨k, hk, rfl⟩ := Option.map_eq_some_iff.mp hx
    obtain ⟨ρ', μ', e, I'⟩ := links_step (A := A) (by omega) hI (hsm k (List.mem_of_getElem? hk)) (List.getElem?_eq_some_iff.mp hk).1
    exact ⟨_, _, _, _, rfl, e, I'⟩
  obtain ⟨⟨x5, x6, x7, rfl⟩, df, ⟨l', hd'⟩, ins, found, h1, h2, h3, h4, h5, h6⟩ := I
  refine ⟨sortT 8 found, μ', l', ?_, ?_, hd'⟩
  · have hsort : cSortT 4 8 [.loc (μ.length + 1)] μ' = .ok (.lst ((sortT 8 found).map tupW)) μ' := by
      have : found.length < 64 ∧ found.all (inT 4 8) = true := ⟨by omega, List.all_eq_true.mpr h6⟩
      simp only [cSortT, asL, h2, tupsOf_map, if_pos this]
    have f1 : sFor (iSeq (eVar 2)) (gSet 5) (s_law_links_0 A) [some (.loc d), some (kW a b), some (.lst (O.map tupW)), some (.loc μ.length), some (.loc (μ.length + 1)), none, none, none] (μ ++ [.lst (O.map tupW), .lst []]) = .nx [some (.loc d), some (kW a b), some (.lst (O.map tupW)), some (.loc μ.length), some (.loc (μ.length + 1)), x5, x6, x7] μ' := by
      rw [← e]
      simp [eVar, eC, eBin, eTest, eTru, eAnd, eOr, eNot, eNeg, eIf, eTup, eLst, eNew, eCall, eFn, eMe, eMk, eFld, eMeL, eMeL0, aNil, aCons, bAnd, bOr, bNot, bYes, sSeq, sNx, sEx, sRet, sRetN, sIf, sAsg, gSet, sPar, sFldM, sFldAdd, sRaise, Out.bind, Out.st, SO.seq, fin, runB, startW, sFor, iSeq, itOf, asQ, asL]
    have key : s_law_links A [some (.loc d), some (kW a b), none, none, none, none, none, none] μ = .rt (.tup ((sortT 8 found).map tupW)) μ' := by
      refine (seq_nx (ρ1 := [some (.loc d), some (kW a b), some (.lst (O.map tupW)), none, none, none, none, none]) (μ1 := μ) ?_).trans ?_
      · refine asg_set ?_
        simp only [eBin, c1, c2, Out.bind, hadd]
      · refine (seq_nx (ρ1 := [some (.loc d), some (kW a b), some (.lst (O.map tupW)), some (.loc μ.length), some (.loc (μ.length + 1)), none, none, none]) (μ1 := μ ++ [.lst (O.map tupW), .lst []]) (by simp [eVar, eC, eBin, eTest, eTru, eAnd, eOr, eNot, eNeg, eIf, eTup, eLst, eNew, eCall, eFn, eMe, eMk, eFld, eMeL, eMeL0, aNil, aCons, bAnd, bOr, bNot, bYes, sSeq, sNx, sEx, sRet, sRetN, sIf, sAsg, gSet, sPar, sFldM, sFldAdd, sRaise, Out.bind, Out.st, SO.seq, fin, runB, startW, cListM, asQ, asL, z0])).trans ?_
        refine (seq_nx f1).trans ?_
        simp [eVar, eC, eBin, eTest, eTru, eAnd, eOr, eNot, eNeg, eIf, eTup, eLst, eNew, eCall, eFn, eMe, eMk, eFld, eMeL, eMeL0, aNil, aCons, bAnd, bOr, bNot, bYes, sSeq, sNx, sEx, sRet, sRetN, sIf, sAsg, gSet, sPar, sFldM, sFldAdd, sRaise, Out.bind, Out.st, SO.seq, fin, runB, startW, hsort, cTuple, asQ, asL]
    simp [eVar, eC, eBin, eTest, eTru, eAnd, eOr, eNot, eNeg, eIf, eTup, eLst, eNew, eCall, eFn, eMe, eMk, eFld, eMeL, eMeL0, aNil, aCons, bAnd, bOr, bNot, bYes, sSeq, sNx, sEx, sRet, sRetN, sIf, sAsg, gSet, sPar, sFldM, sFldAdd, sRaise, Out.bind, Out.st, SO.seq, fin, runB, startW, f_law_links, N_law_links, key]
  · rw [(sortT_perm (B := 8) (ks := found)).length_eq]
    omega
end
end K44
namespace K44
open PySem PySem.Spec PyProof.Rows L2 PD
section
variable {A : Adr} {μ : Mu}
/-! the packets -/
def more (k : List Int) (n : Nat) : LL := (List.range' 0 n).map fun i => k ++ [((i : Nat) : Int)]
theorem more_comp {n : Nat} {m : Int} (hm : m + 1 = (n : Nat)) (hn : n ≤ 4) {ρ : PD.Env} {k : List Int} (hk : k.length ≤ 3) (h3 : ρ[3]? = some (some (.int m))) (h5 : ρ[5]? = some (some (tupW k))) (h7 : ρ.length = 7) :
    eCmp (iRngA (aCons (eBin gAdd (eVar 3) (eC (.int 1))) aNil)) [6] (gSet 6) bYes (eBin gAdd (eVar 5) (eTup (aCons (eVar 6) aNil))) ρ μ = .ok (.lst ((more k n).map tupW)) μ := by
  have sl := sizeLine_val
  have z1 : 1 ≤ sizeLine := by omega
  have r : iRngA (aCons (eBin gAdd (eVar 3) (eC (.int 1))) aNil) ρ μ = .ok (.seq (irange 0 n)) μ := by
    refine rangeA (by omega) ?_
    simp [eVar, eC, eBin, eTest, eTru, eAnd, eOr, eNot, eNeg, eIf, eTup, eLst, eNew, eCall, eFn, eMe, eMk, eFld, eMeL, eMeL0, aNil, aCons, bAnd, bOr, bNot, bYes, sSeq, sNx, sEx, sRet, sRetN, sIf, sAsg, gSet, sPar, sFldM, sFldAdd, sRaise, Out.bind, Out.st, SO.seq, fin, runB, startW, h3, gAdd_int, hm]
  have h := cmpS_ix (μ := μ) (g := gSet 6) (tt := bYes) (me := eBin gAdd (eVar 5) (eTup (aCons (eVar 6) aNil))) (ρ := wipeW ρ [6]) (f := fun i => some (tupW (k ++ [((i : Nat) : Int)]))) (irange 0 n) 0 [] (fun i x hx => by
    obtain ⟨hi, rfl⟩ := irange_get hx
    refine ⟨_, rfl, .inr ⟨_, rfl, rfl, ?_⟩⟩
    have h6' : ((wipeW ρ [6]).set 6 (some (W.int (0 + (i : Nat)))))[6]? = some (some (.int (0 + (i : Nat)))) := by
      rw [List.getElem?_set_self]
      simp [eVar, eC, eBin, eTest, eTru, eAnd, eOr, eNot, eNeg, eIf, eTup, eLst, eNew, eCall, eFn, eMe, eMk, eFld, eMeL, eMeL0, aNil, aCons, bAnd, bOr, bNot, bYes, sSeq, sNx, sEx, sRet, sRetN, sIf, sAsg, gSet, sPar, sFldM, sFldAdd, sRaise, Out.bind, Out.st, SO.seq, fin, runB, startW, wipeW, h7]
    have h5' : ((wipeW ρ [6]).set 6 (some (W.int (0 + (i : Nat)))))[5]? = some (some (tupW k)) := by
      rw [List.getElem?_set_ne (by decide)]
      simp only [wipeW]
      rw [List.getElem?_set_ne (by decide)]
      exact h5
    rw [Int.zero_add] at h5' h6' ⊢
    have hz : k.length + 1 ≤ sizeLine := by omega
    have ga : gAdd (tupW k) (.tup [.int ((i : Nat) : Int)]) μ = .ok (tupW (k ++ [((i : Nat) : Int)])) μ := by
      simp [eVar, eC, eBin, eTest, eTru, eAnd, eOr, eNot, eNeg, eIf, eTup, eLst, eNew, eCall, eFn, eMe, eMk, eFld, eMeL, eMeL0, aNil, aCons, bAnd, bOr, bNot, bYes, sSeq, sNx, sEx, sRet, sRetN, sIf, sAsg, gSet, sPar, sFldM, sFldAdd, sRaise, Out.bind, Out.st, SO.seq, fin, runB, startW, gAdd, orG, gAddI, gI, Out.els, gCat, asL, gCatT, tupW, hz]
    simp only [eTup, aCons, aNil, eVar, eC, eBin, Out.bind, h5', h6', List.length_cons, List.length_nil, z1, if_true, Nat.zero_add, ga]) (by rw [irange_len, List.length_nil]; omega)
  have e : eCmp (iRngA (aCons (eBin gAdd (eVar 3) (eC (.int 1))) aNil)) [6] (gSet 6) bYes (eBin gAdd (eVar 5) (eTup (aCons (eVar 6) aNil))) ρ μ = cmpS (gSet 6) bYes (eBin gAdd (eVar 5) (eTup (aCons (eVar 6) aNil))) (wipeW ρ [6]) (irange 0 n) [] μ := by
    unfold eCmp
    rw [r]
    rfl
  rw [e, h, irange_len, List.nil_append]
  congr 2
  unfold more
  rw [List.map_map, ← List.filterMap_eq_map]
  rfl
theorem more_len {k : List Int} {n : Nat} : (more k n).length = n := by simp [eVar, eC, eBin, eTest, eTru, eAnd, eOr, eNot, eNeg, eIf, eTup, eLst, eNew, eCall, eFn, eMe, eMk, eFld, eMeL, eMeL0, aNil, aCons, bAnd, bOr, bNot, bYes, sSeq, sNx, sEx, sRet, sRetN, sIf, sAsg, gSet, sPar, sFldM, sFldAdd, sRaise, Out.bind, Out.st, SO.seq, fin, runB, startW, more]
theorem more_all {k : List Int} {n : Nat} : ∀ x ∈ more k n, x.length = k.length + 1 := fun x hx => by
  unfold more at hx
  obtain ⟨i, _, rfl⟩ := List.mem_map.mp hx
  simp [eVar, eC, eBin, eTest, eTru, eAnd, eOr, eNot, eNeg, eIf, eTup, eLst, eNew, eCall, eFn, eMe, eMk, eFld, eMeL, eMeL0, aNil, aCons, bAnd, bOr, bNot, bYes, sSeq, sNx, sEx, sRet, sRetN, sIf, sAsg, gSet, sPar, sFldM, sFldAdd, sRaise, Out.bind, Out.st, SO.seq, fin, runB, startW]
/-- one more field -/
theorem field_step {i n : Nat} {m : Int} (hm : m + 1 = (n : Nat)) (hn : n ≤ 4) (hi : i ≤ 2) {kw nm : W} {P : LL} (hP : ∀ k ∈ P, k.length = i) (hl : P.length ≤ 4 ^ i) (x4 x5 x6 : Option W) :
    ∃ (P' : LL) (y4 y5 : Option W), s_law_packets_1 A [some kw, some (.lst (P.map tupW)), some nm, some (.int m), x4, x5, x6] μ = .nx [some kw, some (.lst (P'.map tupW)), some nm, some (.int m), y4, y5, x6] μ ∧ (∀ k ∈ P', k.length = i + 1) ∧ P'.length ≤ 4 ^ (i + 1) := by
  have sl := sizeLine_val
  have z0 : 0 ≤ sizeLine := Nat.zero_le _
  have h16 : 4 ^ i ≤ 16 := by
    have : i = 0 ∨ i = 1 ∨ i = 2 := by omega
    rcases this with rfl | rfl | rfl <;> decide
  obtain ⟨ρ', μ', e, Lt, y5, rfl, rfl, hL1, hL2⟩ := forS_inv (g := gSet 5) (body := s_law_packets_0 A) (fun j ρ μ1 => ∃ (Lt : LL) (y5 : Option W), ρ = [some kw, some (.lst (P.map tupW)), some nm, some (.int m), some (.lst (Lt.map tupW)), y5, x6] ∧ μ1 = μ ∧ (∀ k ∈ Lt, k.length = i + 1) ∧ Lt.length ≤ 4 * j) (P.map tupW) 0
    [some kw, some (.lst (P.map tupW)), some nm, some (.int m), some (.lst []), x5, x6] μ ⟨[], x5, rfl, rfl, by simp, Nat.le_refl _⟩ fun j w ρ μ1 _ hx hI => by
      obtain ⟨Lt, y5, rfl, rfl, h1, h2⟩ := hI
      rw [Nat.sub_zero, List.getElem?_map] at hx
      obtain ⟨k, hk, rfl⟩ := Option.map_eq_some_iff.mp hx
      have hj : j < P.length := (List.getElem?_eq_some_iff.mp hk).1
      have hkl := hP k (List.mem_of_getElem? hk)
      have c := more_comp (μ := μ1) hm hn (ρ := [some kw, some (.lst (P.map tupW)), some nm, some (.int m), some (.lst (Lt.map tupW)), some (tupW k), x6]) (k := k) (by omega) rfl rfl rfl
      have ga : gAdd (.lst (Lt.map tupW)) (.lst ((more k n).map tupW)) μ1 = .ok (.lst ((Lt ++ more k n).map tupW)) μ1 := by
        have : Lt.length + n ≤ sizeLine := by omega
        simp [eVar, eC, eBin, eTest, eTru, eAnd, eOr, eNot, eNeg, eIf, eTup, eLst, eNew, eCall, eFn, eMe, eMk, eFld, eMeL, eMeL0, aNil, aCons, bAnd, bOr, bNot, bYes, sSeq, sNx, sEx, sRet, sRetN, sIf, sAsg, gSet, sPar, sFldM, sFldAdd, sRaise, Out.bind, Out.st, SO.seq, fin, runB, startW, gAdd, orG, gAddI, gI, Out.els, gCat, asL, more_len, this]
      refine ⟨_, _, [some kw, some (.lst (P.map tupW)), some nm, some (.int m), some (.lst ((Lt ++ more k n).map tupW)), some (tupW k), x6], μ1, rfl, ?_, Lt ++ more k n, _, rfl, rfl, fun x hx => ?_, ?_⟩
      · unfold s_law_packets_0
        refine (asg_set (w := .lst ((Lt ++ more k n).map tupW)) (μ1 := μ1) ?_).trans rfl
        show eBin gAdd (eVar 4) _ [some kw, some (.lst (P.map tupW)), some nm, some (.int m), some (.lst (Lt.map tupW)), some (tupW k), x6] μ1 = _
        simp only [eBin, eVar, Out.bind, List.getElem?_cons_succ, List.getElem?_cons_zero] at c ⊢
        rw [c]
        exact ga
      · rcases List.mem_append.mp hx with hx | hx
        · exact h1 x hx
        · rw [more_all x hx, hkl]
      · rw [List.length_append, more_len]; omega
  refine ⟨Lt, some (.lst (Lt.map tupW)), y5, ?_, hL1, ?_⟩
  · unfold s_law_packets_1
    refine (seq_nx (ρ1 := [some kw, some (.lst (P.map tupW)), some nm, some (.int m), some (.lst []), x5, x6]) (μ1 := μ') (by simp [eVar, eC, eBin, eTest, eTru, eAnd, eOr, eNot, eNeg, eIf, eTup, eLst, eNew, eCall, eFn, eMe, eMk, eFld, eMeL, eMeL0, aNil, aCons, bAnd, bOr, bNot, bYes, sSeq, sNx, sEx, sRet, sRetN, sIf, sAsg, gSet, sPar, sFldM, sFldAdd, sRaise, Out.bind, Out.st, SO.seq, fin, runB, startW, z0])).trans ?_
    have f1 : sFor (iSeq (eVar 1)) (gSet 5) (s_law_packets_0 A) [some kw, some (.lst (P.map tupW)), some nm, some (.int m), some (.lst []), x5, x6] μ' = .nx [some kw, some (.lst (P.map tupW)), some nm, some (.int m), some (.lst (Lt.map tupW)), y5, x6] μ' := by
      rw [← e]
      simp [eVar, eC, eBin, eTest, eTru, eAnd, eOr, eNot, eNeg, eIf, eTup, eLst, eNew, eCall, eFn, eMe, eMk, eFld, eMeL, eMeL0, aNil, aCons, bAnd, bOr, bNot, bYes, sSeq, sNx, sEx, sRet, sRetN, sIf, sAsg, gSet, sPar, sFldM, sFldAdd, sRaise, Out.bind, Out.st, SO.seq, fin, runB, startW, sFor, iSeq, itOf, asQ, asL]
    refine (seq_nx f1).trans ?_
    simp [eVar, eC, eBin, eTest, eTru, eAnd, eOr, eNot, eNeg, eIf, eTup, eLst, eNew, eCall, eFn, eMe, eMk, eFld, eMeL, eMeL0, aNil, aCons, bAnd, bOr, bNot, bYes, sSeq, sNx, sEx, sRet, sRetN, sIf, sAsg, gSet, sPar, sFldM, sFldAdd, sRaise, Out.bind, Out.st, SO.seq, fin, runB, startW]
  · rw [List.length_map, Nat.zero_add] at hL2
    rw [Nat.pow_succ]
    omega
theorem packets_ok {a b : Int} (a1 : 1 ≤ a) (a2 : a ≤ 2) (b1 : 1 ≤ b) (b3 : b ≤ 3) : ∃ P : LL, f_law_packets A [kW a b] μ = .ok (.lst (P.map tupW)) μ ∧ ∀ k ∈ P, k.length = 3 := by
  have sl := sizeLine_val
  have z0 : 0 ≤ sizeLine := Nat.zero_le _
  have z1 : 1 ≤ sizeLine := by omega
  obtain ⟨P1, u4, u5, e1, h1, l1⟩ := field_step (A := A) (μ := μ) (i := 0) (n := (a + 1).toNat) (m := a) (by omega) (by omega) (by omega) (kw := kW a b) (nm := .str "dst") (P := [[]]) (by simp [eVar, eC, eBin, eTest, eTru, eAnd, eOr, eNot, eNeg, eIf, eTup, eLst, eNew, eCall, eFn, eMe, eMk, eFld, eMeL, eMeL0, aNil, aCons, bAnd, bOr, bNot, bYes, sSeq, sNx, sEx, sRet, sRetN, sIf, sAsg, gSet, sPar, sFldM, sFldAdd, sRaise, Out.bind, Out.st, SO.seq, fin, runB, startW]) (by simp [eVar, eC, eBin, eTest, eTru, eAnd, eOr, eNot, eNeg, eIf, eTup, eLst, eNew, eCall, eFn, eMe, eMk, eFld, eMeL, eMeL0, aNil, aCons, bAnd, bOr, bNot, bYes, sSeq, sNx, sEx, sRet, sRetN, sIf, sAsg, gSet, sPar, sFldM, sFldAdd, sRaise, Out.bind, Out.st, SO.seq, fin, runB, startW]) none none none
  obtain ⟨P2, v4, v5, e2, h2, l2⟩ := field_step (A := A) (μ := μ) (i := 1) (n := 3) (m := 2) (by omega) (by omega) (by omega) (kw := kW a b) (nm := .str "pt") (P := P1) h1 l1 u4 u5 none
  obtain ⟨P3, w4, w5, e3, h3, l3⟩ := field_step (A := A) (μ := μ) (i := 2) (n := (b + 1).toNat) (m := b) (by omega) (by omega) (by omega) (kw := kW a b) (nm := .str "sw") (P := P2) h2 l2 v4 v5 none
  refine ⟨P3, ?_, h3⟩
  have e0 : ([([] : List Int)]).map tupW = [.tup []] := rfl
  rw [e0] at e1
  have g1 : sFor (iSeq (eVar 0)) (gTupM 2 (gsCons (gSet 2) (gsCons (gSet 3) gsNil))) (s_law_packets_1 A) [some (kW a b), some (.lst [.tup []]), none, none, none, none, none] μ = .nx [some (kW a b), some (.lst (P3.map tupW)), some (.str "sw"), some (.int b), w4, w5, none] μ := by
    have hi : iSeq (eVar 0) [some (kW a b), some (.lst [.tup []]), none, none, none, none, none] μ = .ok (.seq [.tup [.str "dst", .int a], .tup [.str "pt", .int 2], .tup [.str "sw", .int b]]) μ := rfl
    unfold sFor
    rw [hi]
    simp [eVar, eC, eBin, eTest, eTru, eAnd, eOr, eNot, eNeg, eIf, eTup, eLst, eNew, eCall, eFn, eMe, eMk, eFld, eMeL, eMeL0, aNil, aCons, bAnd, bOr, bNot, bYes, sSeq, sNx, sEx, sRet, sRetN, sIf, sAsg, gSet, sPar, sFldM, sFldAdd, sRaise, Out.bind, Out.st, SO.seq, fin, runB, startW, forS, gTupM, gsCons, gsNil, e1, e2, e3]
  have key : s_law_packets A [some (kW a b), none, none, none, none, none, none] μ = .rt (.lst (P3.map tupW)) μ := by
    unfold s_law_packets
    refine (seq_nx (ρ1 := [some (kW a b), some (.lst [.tup []]), none, none, none, none, none]) (μ1 := μ) (by simp [eVar, eC, eBin, eTest, eTru, eAnd, eOr, eNot, eNeg, eIf, eTup, eLst, eNew, eCall, eFn, eMe, eMk, eFld, eMeL, eMeL0, aNil, aCons, bAnd, bOr, bNot, bYes, sSeq, sNx, sEx, sRet, sRetN, sIf, sAsg, gSet, sPar, sFldM, sFldAdd, sRaise, Out.bind, Out.st, SO.seq, fin, runB, startW, z0, z1])).trans ?_
    refine (seq_nx g1).trans ?_
    simp [eVar, eC, eBin, eTest, eTru, eAnd, eOr, eNot, eNeg, eIf, eTup, eLst, eNew, eCall, eFn, eMe, eMk, eFld, eMeL, eMeL0, aNil, aCons, bAnd, bOr, bNot, bYes, sSeq, sNx, sEx, sRet, sRetN, sIf, sAsg, gSet, sPar, sFldM, sFldAdd, sRaise, Out.bind, Out.st, SO.seq, fin, runB, startW]
  simp [eVar, eC, eBin, eTest, eTru, eAnd, eOr, eNot, eNeg, eIf, eTup, eLst, eNew, eCall, eFn, eMe, eMk, eFld, eMeL, eMeL0, aNil, aCons, bAnd, bOr, bNot, bYes, sSeq, sNx, sEx, sRet, sRetN, sIf, sAsg, gSet, sPar, sFldM, sFldAdd, sRaise, Out.bind, Out.st, SO.seq, fin, runB, startW, f_law_packets, N_law_packets, key]
end
end K44
namespace K44
open PySem PySem.Spec PyProof.Rows L2 PD
section
variable {A : Adr} {μ : Mu}
def rowW (l : List Int) : W := .lst (intsW l)
/-- the store while the wires are tried: n wires behind w, the rows at R -/
structure Cl (A : Adr) (w d R n : Nat) (kw : W) (lk : List W) (r : W) (dl : List Int) (rows : LL) (gs : List Int) (μ : Mu) : Prop where
  dw : d < w
  hR : R = w + 1 + 2 * n
  hlk : lk.length = n
  hn : rows.length = n
  hg : gs.length = n
  hd : μ[d]? = some (.lst (intsW dl))
  hw : μ[w]? = some (.ins A.Wires (wf kw (.tup lk) (locs (w + 1) n)))
  hr : μ[R]? = some (.lst (rows.map rowW))
  hq : ∀ i g, gs[i]? = some g → μ[w + 1 + 2 * i]? = some (.ins A.Queue (qf (.str fst) r (w + 1 + 2 * i + 1) g))
  ht : ∀ i l, rows[i]? = some l → μ[w + 1 + 2 * i + 1]? = some (.lst (intsW l))
section
variable {w d R n : Nat} {kw : W} {lk : List W} {r : W} {dl : List Int} {rows : LL} {gs : List Int}
theorem Cl.app (C : Cl A w d R n kw lk r dl rows gs μ) (ν : Mu) : Cl A w d R n kw lk r dl rows gs (μ ++ ν) := by
  have up : ∀ {i : Nat} {c : Cell}, μ[i]? = some c → (μ ++ ν)[i]? = some c := fun {i c} h => by
    rw [List.getElem?_append_left (List.getElem?_eq_some_iff.mp h).1]; exact h
  exact ⟨C.dw, C.hR, C.hlk, C.hn, C.hg, up C.hd, up C.hw, up C.hr, fun i g h => up (C.hq i g h), fun i l h => up (C.ht i l h)⟩
theorem Cl.take (C : Cl A w d R n kw lk r dl rows gs μ) {b : Int} (hb : 0 < b) : ∃ z dl' μ', f_law_take A [.loc d, .int b] μ = .ok (.int z) μ' ∧ 0 ≤ z ∧ z < b ∧ Cl A w d R n kw lk r dl' rows gs μ' := by
  obtain ⟨z, l', μ', e, h1, h2, _, h3, k⟩ := take_ok2 (A := A) C.hd hb
  have dw := C.dw
  have hR := C.hR
  exact ⟨z, l', μ', e, h1, h2, dw, hR, C.hlk, C.hn, C.hg, h3, by rw [k w (by omega)]; exact C.hw, by rw [k R (by omega)]; exact C.hr, fun i g h => by rw [k _ (by omega)]; exact C.hq i g h, fun i l h => by rw [k _ (by omega)]; exact C.ht i l h⟩
/-- row k, here and there -/
theorem Cl.setT (C : Cl A w d R n kw lk r dl rows gs μ) {k : Nat} (hk : k < n) (l : List Int) : Cl A w d R n kw lk r dl (rows.set k l) gs ((μ.set (w + 1 + 2 * k + 1) (.lst (intsW l))).set R (.lst ((rows.set k l).map rowW))) := by
  have dw := C.dw
  have hR := C.hR
  obtain ⟨l0, hl0⟩ : ∃ l0, rows[k]? = some l0 := ⟨_, List.getElem?_eq_getElem (by rw [C.hn]; exact hk)⟩
  have h0 := C.ht k l0 hl0
  have hr' : (μ.set (w + 1 + 2 * k + 1) (.lst (intsW l)))[R]? = some (.lst (rows.map rowW)) := by rw [at_set h0, if_neg (by omega)]; exact C.hr
  have get : ∀ j, j ≠ R → j ≠ w + 1 + 2 * k + 1 → ((μ.set (w + 1 + 2 * k + 1) (.lst (intsW l))).set R (.lst ((rows.set k l).map rowW)))[j]? = μ[j]? := fun j h1 h2 => by
    rw [at_set hr', if_neg (Ne.symm h1), at_set h0, if_neg (Ne.symm h2)]
  refine ⟨dw, hR, C.hlk, by rw [List.length_set]; exact C.hn, C.hg, by rw [get _ (by omega) (by omega)]; exact C.hd, by rw [get _ (by omega) (by omega)]; exact C.hw, by rw [at_set hr', if_pos rfl], fun i g h => ?_, fun i l1 h => ?_⟩
  · have hi : i < n := by rw [← C.hg]; exact (List.getElem?_eq_some_iff.mp h).1
    rw [get _ (by omega) (by omega)]; exact C.hq i g h
  · have hi : i < n := by rw [← C.hn, ← List.length_set (i := k) (a := l)]; exact (List.getElem?_eq_some_iff.mp h).1
    by_cases e : i = k
    · subst e
      rw [List.getElem?_set_self (by rw [C.hn]; exact hi)] at h
      cases h
      rw [at_set hr', if_neg (by omega), at_set h0, if_pos rfl]
    · rw [List.getElem?_set_ne (Ne.symm e)] at h
      rw [get _ (by omega) (by omega)]
      exact C.ht i l1 h
/-- one lost at k; the rows are laid again -/
theorem Cl.setG (C : Cl A w d R n kw lk r dl rows gs μ) {k : Nat} (hk : k < n) (g : Int) {rows' : LL} (hrw : rows' = rows) : Cl A w d R n kw lk r dl rows' (gs.set k g) ((μ.set (w + 1 + 2 * k) (.ins A.Queue (qf (.str fst) r (w + 1 + 2 * k + 1) g))).set R (.lst (rows'.map rowW))) := by
  subst hrw
  have dw := C.dw
  have hR := C.hR
  obtain ⟨g0, hg0⟩ : ∃ g0, gs[k]? = some g0 := ⟨_, List.getElem?_eq_getElem (by rw [C.hg]; exact hk)⟩
  have h0 := C.hq k g0 hg0
  have hr' : (μ.set (w + 1 + 2 * k) (.ins A.Queue (qf (.str fst) r (w + 1 + 2 * k + 1) g)))[R]? = some (.lst (rows'.map rowW)) := by rw [at_set h0, if_neg (by omega)]; exact C.hr
  have get : ∀ j, j ≠ R → j ≠ w + 1 + 2 * k → ((μ.set (w + 1 + 2 * k) (.ins A.Queue (qf (.str fst) r (w + 1 + 2 * k + 1) g))).set R (.lst (rows'.map rowW)))[j]? = μ[j]? := fun j h1 h2 => by
    rw [at_set hr', if_neg (Ne.symm h1), at_set h0, if_neg (Ne.symm h2)]
  refine ⟨dw, hR, C.hlk, C.hn, by rw [List.length_set]; exact C.hg, by rw [get _ (by omega) (by omega)]; exact C.hd, by rw [get _ (by omega) (by omega)]; exact C.hw, by rw [at_set hr', if_pos rfl], fun i g1 h => ?_, fun i l1 h => ?_⟩
  · have hi : i < n := by rw [← C.hg, ← List.length_set (i := k) (a := g)]; exact (List.getElem?_eq_some_iff.mp h).1
    by_cases e : i = k
    · subst e
      rw [List.getElem?_set_self (by rw [C.hg]; exact hi)] at h
      cases h
      rw [at_set hr', if_neg (by omega), at_set h0, if_pos rfl]
    · rw [List.getElem?_set_ne (Ne.symm e)] at h
      rw [get _ (by omega) (by omega)]
      exact C.hq i g1 h
  · have hi : i < n := by rw [← C.hn]; exact (List.getElem?_eq_some_iff.mp h).1
    rw [get _ (by omega) (by omega)]; exact C.ht i l1 h
theorem Cl.loc_at (C : Cl A w d R n kw lk r dl rows gs μ) {i : Nat} {x : W} (h : ((locs (w + 1) n).map W.loc)[i]? = some x) : i < n ∧ x = .loc (w + 1 + 2 * i) ∧ ∃ g l, gs[i]? = some g ∧ rows[i]? = some l := by
  rw [List.getElem?_map] at h
  obtain ⟨q, hq, rfl⟩ := Option.map_eq_some_iff.mp h
  have hi : i < n := by
    have := (List.getElem?_eq_some_iff.mp hq).1
    rwa [locs_len] at this
  rw [locs_get hi] at hq
  cases hq
  exact ⟨hi, rfl, _, _, List.getElem?_eq_getElem (by rw [C.hg]; exact hi), List.getElem?_eq_getElem (by rw [C.hn]; exact hi)⟩
/-- a wire in which something is -/
def busy (rows : LL) (i : Nat) : Option W := if rows.getD i [] = [] then none else some (.int (i : Nat))
theorem lst_nil_iff {l : List Int} : (0 < (l.length : Int)) = ¬ (l = []) := by
  cases l <;> simp [eVar, eC, eBin, eTest, eTru, eAnd, eOr, eNot, eNeg, eIf, eTup, eLst, eNew, eCall, eFn, eMe, eMk, eFld, eMeL, eMeL0, aNil, aCons, bAnd, bOr, bNot, bYes, sSeq, sNx, sEx, sRet, sRetN, sIf, sAsg, gSet, sPar, sFldM, sFldAdd, sRaise, Out.bind, Out.st, SO.seq, fin, runB, startW] <;> omega
theorem ready_ok (C : Cl A w d R n kw lk r dl rows gs μ) (hn8 : n ≤ 8) : f_Wires_ready A [.loc w] μ = .ok (.tup ((List.range' 0 n).filterMap (busy rows))) μ := by
  have sl := sizeLine_val
  have hl : (enumW ((locs (w + 1) n).map W.loc)).length = n := by rw [enumW_length, List.length_map, locs_len]
  have h := cmpS_ix (μ := μ) (g := gTupM 2 (gsCons (gSet 2) (gsCons (gSet 1) gsNil))) (tt := eTest (eBin gGt (eMe A.Queue "many" 1 (f_Queue_many A) (eVar 1) aNil) (eC (.int 0)))) (me := eVar 2) (ρ := [some (.loc w), none, none]) (f := busy rows) (enumW ((locs (w + 1) n).map W.loc)) 0 [] (fun i x hx => by
    obtain ⟨y, hy, rfl⟩ := enum_get hx
    obtain ⟨hi, rfl, g, l, hg, hl⟩ := C.loc_at hy
    have hq := C.hq i g hg
    have ht := C.ht i l hl
    refine ⟨[some (.loc w), some (.loc (w + 1 + 2 * i)), some (.int (i : Nat))], by simp [eVar, eC, eBin, eTest, eTru, eAnd, eOr, eNot, eNeg, eIf, eTup, eLst, eNew, eCall, eFn, eMe, eMk, eFld, eMeL, eMeL0, aNil, aCons, bAnd, bOr, bNot, bYes, sSeq, sNx, sEx, sRet, sRetN, sIf, sAsg, gSet, sPar, sFldM, sFldAdd, sRaise, Out.bind, Out.st, SO.seq, fin, runB, startW, gTupM, gsCons, gsNil], ?_⟩
    have hm : f_Queue_many A [.loc (w + 1 + 2 * i)] μ = .ok (.int l.length) μ := by rw [many_ok hq ht, intsW_length]
    have hi : insOf A.Queue "many" μ (.loc (w + 1 + 2 * i)) = true := by simp [eVar, eC, eBin, eTest, eTru, eAnd, eOr, eNot, eNeg, eIf, eTup, eLst, eNew, eCall, eFn, eMe, eMk, eFld, eMeL, eMeL0, aNil, aCons, bAnd, bOr, bNot, bYes, sSeq, sNx, sEx, sRet, sRetN, sIf, sAsg, gSet, sPar, sFldM, sFldAdd, sRaise, Out.bind, Out.st, SO.seq, fin, runB, startW, insOf, hq, qf_no]
    rw [Nat.zero_add]
    unfold busy
    rw [getD_of hl]
    by_cases e : l = []
    · subst e
      exact .inl ⟨if_pos rfl, by simp [eVar, eC, eBin, eTest, eTru, eAnd, eOr, eNot, eNeg, eIf, eTup, eLst, eNew, eCall, eFn, eMe, eMk, eFld, eMeL, eMeL0, aNil, aCons, bAnd, bOr, bNot, bYes, sSeq, sNx, sEx, sRet, sRetN, sIf, sAsg, gSet, sPar, sFldM, sFldAdd, sRaise, Out.bind, Out.st, SO.seq, fin, runB, startW, hi, hm, gGt, gI]⟩
    · have hp : 0 < l.length := List.length_pos_iff.mpr e
      exact .inr ⟨_, if_neg e, by simp [eVar, eC, eBin, eTest, eTru, eAnd, eOr, eNot, eNeg, eIf, eTup, eLst, eNew, eCall, eFn, eMe, eMk, eFld, eMeL, eMeL0, aNil, aCons, bAnd, bOr, bNot, bYes, sSeq, sNx, sEx, sRet, sRetN, sIf, sAsg, gSet, sPar, sFldM, sFldAdd, sRaise, Out.bind, Out.st, SO.seq, fin, runB, startW, hi, hm, gGt, gI, hp], rfl⟩) (by rw [hl, List.length_nil]; omega)
  rw [hl, List.nil_append] at h
  have e : eCmp (iEnumM (aCons (eFld A.Wires "queues" (eVar 0)) aNil)) [2, 1] (gTupM 2 (gsCons (gSet 2) (gsCons (gSet 1) gsNil))) (eTest (eBin gGt (eMe A.Queue "many" 1 (f_Queue_many A) (eVar 1) aNil) (eC (.int 0)))) (eVar 2) [some (.loc w), none, none] μ = .ok (.lst ((List.range' 0 n).filterMap (busy rows))) μ := by
    rw [← h]
    have hi : iEnumM (aCons (eFld A.Wires "queues" (eVar 0)) aNil) [some (.loc w), none, none] μ = .ok (.seq (enumW ((locs (w + 1) n).map W.loc))) μ := by
      simp [eVar, eC, eBin, eTest, eTru, eAnd, eOr, eNot, eNeg, eIf, eTup, eLst, eNew, eCall, eFn, eMe, eMk, eFld, eMeL, eMeL0, aNil, aCons, bAnd, bOr, bNot, bYes, sSeq, sNx, sEx, sRet, sRetN, sIf, sAsg, gSet, sPar, sFldM, sFldAdd, sRaise, Out.bind, Out.st, SO.seq, fin, runB, startW, iEnumM, Wf_queues C.hw]
    unfold eCmp
    rw [hi]
    rfl
  have key : s_Wires_ready A [some (.loc w), none, none] μ = .rt (.tup ((List.range' 0 n).filterMap (busy rows))) μ := by
    unfold s_Wires_ready
    exact ret_of ((call1 e).trans rfl)
  simp [eVar, eC, eBin, eTest, eTru, eAnd, eOr, eNot, eNeg, eIf, eTup, eLst, eNew, eCall, eFn, eMe, eMk, eFld, eMeL, eMeL0, aNil, aCons, bAnd, bOr, bNot, bYes, sSeq, sNx, sEx, sRet, sRetN, sIf, sAsg, gSet, sPar, sFldM, sFldAdd, sRaise, Out.bind, Out.st, SO.seq, fin, runB, startW, f_Wires_ready, N_Wires_ready, key]
theorem range_all {α : Type} {l : List α} {f : Nat → Option W} {c : α → W} (h : ∀ i x, l[i]? = some x → f i = some (c x)) : (List.range' 0 l.length).filterMap f = l.map c := by
  have gen : ∀ (l : List α) (k : Nat), (∀ i x, l[i]? = some x → f (k + i) = some (c x)) → (List.range' k l.length).filterMap f = l.map c := by
    intro l
    induction l with
    | nil => intro k _; rfl
    | cons x l ih =>
      intro k h
      rw [List.length_cons, List.range'_succ, List.filterMap_cons_some (by have := h 0 x rfl; rwa [Nat.add_zero] at this), List.map_cons, ih (k + 1) fun i y hy => by
        rw [show k + 1 + i = k + (i + 1) by omega]
        exact h (i + 1) y (by rw [List.getElem?_cons_succ]; exact hy)]
  exact gen l 0 fun i x hx => by rw [Nat.zero_add]; exact h i x hx
theorem lostW_ok (C : Cl A w d R n kw lk r dl rows gs μ) (hn8 : n ≤ 8) : f_Wires_lost A [.loc w] μ = .ok (.int gs.sum) μ := by
  have sl := sizeLine_val
  have hl : ((locs (w + 1) n).map W.loc).length = n := by rw [List.length_map, locs_len]
  have h := cmpS_ix (μ := μ) (g := gSet 1) (tt := bYes) (me := eMe A.Queue "lost" 1 (f_Queue_lost A) (eVar 1) aNil) (ρ := [some (.loc w), none]) (f := fun i => some (.int (gs.getD i 0))) ((locs (w + 1) n).map W.loc) 0 [] (fun i x hx => by
    obtain ⟨hi, rfl, g, l, hg, hl⟩ := C.loc_at hx
    have hq := C.hq i g hg
    have hi : insOf A.Queue "lost" μ (.loc (w + 1 + 2 * i)) = true := by simp [eVar, eC, eBin, eTest, eTru, eAnd, eOr, eNot, eNeg, eIf, eTup, eLst, eNew, eCall, eFn, eMe, eMk, eFld, eMeL, eMeL0, aNil, aCons, bAnd, bOr, bNot, bYes, sSeq, sNx, sEx, sRet, sRetN, sIf, sAsg, gSet, sPar, sFldM, sFldAdd, sRaise, Out.bind, Out.st, SO.seq, fin, runB, startW, insOf, hq, qf_no]
    refine ⟨[some (.loc w), some (.loc (w + 1 + 2 * i))], rfl, .inr ⟨_, rfl, rfl, ?_⟩⟩
    rw [Nat.zero_add, getD_of hg]
    simp [eVar, eC, eBin, eTest, eTru, eAnd, eOr, eNot, eNeg, eIf, eTup, eLst, eNew, eCall, eFn, eMe, eMk, eFld, eMeL, eMeL0, aNil, aCons, bAnd, bOr, bNot, bYes, sSeq, sNx, sEx, sRet, sRetN, sIf, sAsg, gSet, sPar, sFldM, sFldAdd, sRaise, Out.bind, Out.st, SO.seq, fin, runB, startW, hi, lost_ok hq]) (by rw [hl, List.length_nil]; omega)
  have h2 : (List.range' 0 n).filterMap (fun i => some (W.int (gs.getD i 0))) = gs.map W.int := by
    rw [← C.hg]
    exact range_all fun i x hx => by rw [getD_of hx]
  rw [hl, List.nil_append, h2] at h
  have e : eCmp (iSeq (eFld A.Wires "queues" (eVar 0))) [1] (gSet 1) bYes (eMe A.Queue "lost" 1 (f_Queue_lost A) (eVar 1) aNil) [some (.loc w), none] μ = .ok (.lst (gs.map W.int)) μ := by
    rw [← h]
    have hi : iSeq (eFld A.Wires "queues" (eVar 0)) [some (.loc w), none] μ = .ok (.seq ((locs (w + 1) n).map W.loc)) μ := by
      simp [eVar, eC, eBin, eTest, eTru, eAnd, eOr, eNot, eNeg, eIf, eTup, eLst, eNew, eCall, eFn, eMe, eMk, eFld, eMeL, eMeL0, aNil, aCons, bAnd, bOr, bNot, bYes, sSeq, sNx, sEx, sRet, sRetN, sIf, sAsg, gSet, sPar, sFldM, sFldAdd, sRaise, Out.bind, Out.st, SO.seq, fin, runB, startW, iSeq, Wf_queues C.hw, itOf, asQ, asL]
    unfold eCmp
    rw [hi]
    rfl
  have key : s_Wires_lost A [some (.loc w), none] μ = .rt (.int gs.sum) μ := by
    unfold s_Wires_lost
    refine ret_of ((call1 e).trans ?_)
    simp only [cSum, asL, intsOf_map]
  simp [eVar, eC, eBin, eTest, eTru, eAnd, eOr, eNot, eNeg, eIf, eTup, eLst, eNew, eCall, eFn, eMe, eMk, eFld, eMeL, eMeL0, aNil, aCons, bAnd, bOr, bNot, bYes, sSeq, sNx, sEx, sRet, sRetN, sIf, sAsg, gSet, sPar, sFldM, sFldAdd, sRaise, Out.bind, Out.st, SO.seq, fin, runB, startW, f_Wires_lost, N_Wires_lost, key]
theorem intsW_app (a b : List Int) : intsW a ++ intsW b = intsW (a ++ b) := by simp [eVar, eC, eBin, eTest, eTru, eAnd, eOr, eNot, eNeg, eIf, eTup, eLst, eNew, eCall, eFn, eMe, eMk, eFld, eMeL, eMeL0, aNil, aCons, bAnd, bOr, bNot, bYes, sSeq, sNx, sEx, sRet, sRetN, sIf, sAsg, gSet, sPar, sFldM, sFldAdd, sRaise, Out.bind, Out.st, SO.seq, fin, runB, startW, intsW]
theorem flat_take {rows : LL} {i : Nat} {l : List Int} (h : rows[i]? = some l) : (rows.take (i + 1)).flatten = (rows.take i).flatten ++ l := by
  have e : rows.take (i + 1) = rows.take i ++ [l] := by
    rw [List.take_succ, h]; rfl
  rw [e]
  simp [eVar, eC, eBin, eTest, eTru, eAnd, eOr, eNot, eNeg, eIf, eTup, eLst, eNew, eCall, eFn, eMe, eMk, eFld, eMeL, eMeL0, aNil, aCons, bAnd, bOr, bNot, bYes, sSeq, sNx, sEx, sRet, sRetN, sIf, sAsg, gSet, sPar, sFldM, sFldAdd, sRaise, Out.bind, Out.st, SO.seq, fin, runB, startW]
theorem flat_len {rows : LL} {m : Nat} (h : ∀ l ∈ rows, l.length ≤ m) : rows.flatten.length ≤ rows.length * m := by
  induction rows with
  | nil => simp [eVar, eC, eBin, eTest, eTru, eAnd, eOr, eNot, eNeg, eIf, eTup, eLst, eNew, eCall, eFn, eMe, eMk, eFld, eMeL, eMeL0, aNil, aCons, bAnd, bOr, bNot, bYes, sSeq, sNx, sEx, sRet, sRetN, sIf, sAsg, gSet, sPar, sFldM, sFldAdd, sRaise, Out.bind, Out.st, SO.seq, fin, runB, startW]
  | cons l rows ih =>
    rw [List.flatten_cons, List.length_append, List.length_cons]
    have h1 := h l List.mem_cons_self
    have h2 := ih fun x hx => h x (List.mem_cons_of_mem _ hx)
    rw [Nat.succ_mul]
    omega
theorem things_ok (C : Cl A w d R n kw lk r dl rows gs μ) (hn8 : n ≤ 8) {m : Nat} (hm : m ≤ 1000) (hrows : ∀ l ∈ rows, l.length ≤ m) : f_Wires_things A [.loc w] μ = .ok (.loc μ.length) (μ ++ [.lst (intsW rows.flatten)]) := by
  have sl := sizeLine_val
  have z0 : 0 ≤ sizeLine := Nat.zero_le _
  obtain ⟨ρ', μ', e, ⟨y, rfl⟩, rfl⟩ := forS_inv (g := gSet 2) (body := s_Wires_things_0 A) (fun i ρ μ1 => (∃ y, ρ = [some (.loc w), some (.loc μ.length), y]) ∧ μ1 = μ ++ [.lst (intsW (rows.take i).flatten)]) ((locs (w + 1) n).map W.loc) 0
    [some (.loc w), some (.loc μ.length), none] (μ ++ [.lst (intsW [])]) ⟨⟨none, rfl⟩, by simp⟩ fun i x ρ μ1 _ hx hI => by
      obtain ⟨⟨y, rfl⟩, rfl⟩ := hI
      rw [Nat.sub_zero] at hx
      obtain ⟨hi, rfl, g, l, hg, hl⟩ := C.loc_at hx
      have C1 := C.app [.lst (intsW (rows.take i).flatten)]
      have hq := C1.hq i g hg
      have ht := C1.ht i l hl
      have hi' : insOf A.Queue "waiting" (μ ++ [.lst (intsW (rows.take i).flatten)]) (.loc (w + 1 + 2 * i)) = true := by simp [eVar, eC, eBin, eTest, eTru, eAnd, eOr, eNot, eNeg, eIf, eTup, eLst, eNew, eCall, eFn, eMe, eMk, eFld, eMeL, eMeL0, aNil, aCons, bAnd, bOr, bNot, bYes, sSeq, sNx, sEx, sRet, sRetN, sIf, sAsg, gSet, sPar, sFldM, sFldAdd, sRaise, Out.bind, Out.st, SO.seq, fin, runB, startW, insOf, hq, qf_no]
      have hwt := waiting_ok hq ht
      have hlen : (intsW (rows.take i).flatten).length + (intsW l).length ≤ sizeLine := by
        rw [intsW_length, intsW_length]
        have h1 := flat_len (rows := rows.take i) (m := m) fun x hx => hrows x (List.mem_of_mem_take hx)
        have h2 := hrows l (List.mem_of_getElem? hl)
        rw [List.length_take] at h1
        have h3 : min i rows.length ≤ 8 := by omega
        have h4 := Nat.mul_le_mul h3 hm
        have h5 : min i rows.length * m ≤ 8 * 1000 := h4
        omega
      refine ⟨_, _, [some (.loc w), some (.loc μ.length), some (.loc (w + 1 + 2 * i))], _, rfl, ?_, ⟨_, rfl⟩, rfl⟩
      rw [flat_take hl, ← intsW_app]
      simp [eVar, eC, eBin, eTest, eTru, eAnd, eOr, eNot, eNeg, eIf, eTup, eLst, eNew, eCall, eFn, eMe, eMk, eFld, eMeL, eMeL0, aNil, aCons, bAnd, bOr, bNot, bYes, sSeq, sNx, sEx, sRet, sRetN, sIf, sAsg, gSet, sPar, sFldM, sFldAdd, sRaise, Out.bind, Out.st, SO.seq, fin, runB, startW, s_Wires_things_0, sExt, hi', hwt, hlen]
  have et : rows.take n = rows := by rw [← C.hn, List.take_length]
  rw [List.length_map, locs_len, Nat.zero_add, et] at e
  have f1 : sFor (iSeq (eFld A.Wires "queues" (eVar 0))) (gSet 2) (s_Wires_things_0 A) [some (.loc w), some (.loc μ.length), none] (μ ++ [.lst []]) = .nx [some (.loc w), some (.loc μ.length), y] (μ ++ [.lst (intsW rows.flatten)]) := by
    rw [← e]
    have hw' : (μ ++ [.lst []])[w]? = some (.ins A.Wires (wf kw (.tup lk) (locs (w + 1) n))) := (C.app [.lst []]).hw
    have hi : iSeq (eFld A.Wires "queues" (eVar 0)) [some (.loc w), some (.loc μ.length), none] (μ ++ [.lst []]) = .ok (.seq ((locs (w + 1) n).map W.loc)) (μ ++ [.lst []]) := by
      simp [eVar, eC, eBin, eTest, eTru, eAnd, eOr, eNot, eNeg, eIf, eTup, eLst, eNew, eCall, eFn, eMe, eMk, eFld, eMeL, eMeL0, aNil, aCons, bAnd, bOr, bNot, bYes, sSeq, sNx, sEx, sRet, sRetN, sIf, sAsg, gSet, sPar, sFldM, sFldAdd, sRaise, Out.bind, Out.st, SO.seq, fin, runB, startW, iSeq, Wf_queues hw', itOf, asQ, asL]
    unfold sFor
    rw [hi]
    rfl
  have key : s_Wires_things A [some (.loc w), none, none] μ = .rt (.loc μ.length) (μ ++ [.lst (intsW rows.flatten)]) := by
    unfold s_Wires_things
    refine (seq_nx (ρ1 := [some (.loc w), some (.loc μ.length), none]) (μ1 := μ ++ [.lst []]) (by simp [eVar, eC, eBin, eTest, eTru, eAnd, eOr, eNot, eNeg, eIf, eTup, eLst, eNew, eCall, eFn, eMe, eMk, eFld, eMeL, eMeL0, aNil, aCons, bAnd, bOr, bNot, bYes, sSeq, sNx, sEx, sRet, sRetN, sIf, sAsg, gSet, sPar, sFldM, sFldAdd, sRaise, Out.bind, Out.st, SO.seq, fin, runB, startW, z0])).trans ?_
    refine (seq_nx f1).trans ?_
    simp [eVar, eC, eBin, eTest, eTru, eAnd, eOr, eNot, eNeg, eIf, eTup, eLst, eNew, eCall, eFn, eMe, eMk, eFld, eMeL, eMeL0, aNil, aCons, bAnd, bOr, bNot, bYes, sSeq, sNx, sEx, sRet, sRetN, sIf, sAsg, gSet, sPar, sFldM, sFldAdd, sRaise, Out.bind, Out.st, SO.seq, fin, runB, startW]
  simp [eVar, eC, eBin, eTest, eTru, eAnd, eOr, eNot, eNeg, eIf, eTup, eLst, eNew, eCall, eFn, eMe, eMk, eFld, eMeL, eMeL0, aNil, aCons, bAnd, bOr, bNot, bYes, sSeq, sNx, sEx, sRet, sRetN, sIf, sAsg, gSet, sPar, sFldM, sFldAdd, sRaise, Out.bind, Out.st, SO.seq, fin, runB, startW, f_Wires_things, N_Wires_things, key]
end
end
end K44
namespace K44
open PySem PySem.Spec PyProof.Rows L2 PD
section
variable {A : Adr} {μ : Mu}
theorem ints_of_fm {f : Nat → Option W} (h : ∀ i y, f i = some y → ∃ z, y = .int z) : ∀ (l : List Nat), ∃ ds : List Int, l.filterMap f = ds.map W.int
  | [] => ⟨[], rfl⟩
  | i :: l => by
    obtain ⟨ds, e⟩ := ints_of_fm h l
    cases hi : f i with
    | none => exact ⟨ds, by rw [List.filterMap_cons_none hi, e]⟩
    | some y =>
      obtain ⟨z, rfl⟩ := h i y hi
      exact ⟨z :: ds, by rw [List.filterMap_cons_some hi, e]; rfl⟩
theorem begins_int {L : LL} {s p : Int} (i : Nat) (y : W) (h : begins L s p i = some y) : ∃ z, y = .int z := by
  unfold begins at h
  split at h
  · exact ⟨_, (Option.some.inj h).symm⟩
  · cases h
theorem busy_int {rows : LL} (i : Nat) (y : W) (h : busy rows i = some y) : ∃ z, y = .int z := by
  unfold busy at h
  split at h
  · cases h
  · exact ⟨_, (Option.some.inj h).symm⟩
theorem findSome_head {f : Nat → Option W} : ∀ (l : List Nat), l.findSome? f = (l.filterMap f).head?
  | [] => rfl
  | i :: l => by
    cases hi : f i with
    | none => rw [List.findSome?_cons, hi, List.filterMap_cons_none hi]; exact findSome_head l
    | some y => rw [List.findSome?_cons, hi, List.filterMap_cons_some hi]; rfl
/-- the slots -/
def env (w0 : W) (d : Nat) (kw : W) (lk : List W) (r : W) (w R : Nat) (lost : Int) (x8 x9 x10 x11 x12 x13 x14 x15 : Option W) : PD.Env :=
  [some w0, some (.loc d), some kw, some (.tup lk), some r, some (.loc w), some (.loc R), some (.int lost), x8, x9, x10, x11, x12, x13, x14, x15, none, none, none]
section
variable {w d R n : Nat} {w0 kw : W} {lk : List W} {r : W} {dl : List Int} {rows : LL} {gs : List Int} {lost : Int}
/-- a packet is asked -/
theorem packet_ok {a b : Int} {L : LL} (C : Cl A w d R L.length (kW a b) (L.map tupW) r dl rows gs μ) (hL : L.length ≤ 8) {k : List Int} (hk : k.length = 3) (x9 x10 x11 x12 x13 x14 x15 : Option W) :
    ∃ x9', s_law_2 A (env w0 d (kW a b) (L.map tupW) r w R lost (some (tupW k)) x9 x10 x11 x12 x13 x14 x15) μ = .nx (env w0 d (kW a b) (L.map tupW) r w R lost (some (tupW k)) x9' x10 x11 x12 x13 x14 x15) μ := by
  have sl := sizeLine_val
  have z0 : 0 ≤ sizeLine := Nat.zero_le _
  have z2 : 2 ≤ sizeLine := by omega
  obtain ⟨e, p, s, rfl⟩ : ∃ e p s, k = [e, p, s] := by
    match k, hk with
    | [e, p, s], _ => exact ⟨e, p, s, rfl⟩
  obtain ⟨ds, hds⟩ := ints_of_fm (begins_int (L := L) (s := s) (p := p)) (List.range' 0 L.length)
  have i2 : gIx (tupW [e, p, s]) (.int 2) μ = .ok (.int s) μ := rfl
  have i1 : gIx (tupW [e, p, s]) (.int 1) μ = .ok (.int p) μ := rfl
  have comp : eCmp (iRngA (aCons (eCall cLen (aCons (eVar 3) aNil)) aNil)) [11] (gSet 11) (eTest (eBin gEq (eCut (eBin gIx (eVar 3) (eVar 11)) oNone (oSome (eC (.int 2)))) (eTup (aCons (eBin gIx (eVar 8) (eC (.int 2))) (aCons (eBin gIx (eVar 8) (eC (.int 1))) aNil))))) (eVar 11)
      (env w0 d (kW a b) (L.map tupW) r w R lost (some (tupW [e, p, s])) x9 x10 x11 x12 x13 x14 x15) μ = .ok (.lst (ds.map .int)) μ := by
    have h := cmpS_ix (μ := μ) (g := gSet 11) (tt := eTest (eBin gEq (eCut (eBin gIx (eVar 3) (eVar 11)) oNone (oSome (eC (.int 2)))) (eTup (aCons (eBin gIx (eVar 8) (eC (.int 2))) (aCons (eBin gIx (eVar 8) (eC (.int 1))) aNil))))) (me := eVar 11) (ρ := env w0 d (kW a b) (L.map tupW) r w R lost (some (tupW [e, p, s])) x9 x10 none x12 x13 x14 x15) (f := begins L s p) (irange 0 L.length) 0 [] (fun i x hx => by
      obtain ⟨hi, rfl⟩ := irange_get hx
      obtain ⟨l, hl⟩ : ∃ l, L[i]? = some l := ⟨_, List.getElem?_eq_getElem hi⟩
      rw [Int.zero_add, Nat.zero_add]
      refine ⟨env w0 d (kW a b) (L.map tupW) r w R lost (some (tupW [e, p, s])) x9 x10 (some (.int (i : Nat))) x12 x13 x14 x15, rfl, ?_⟩
      have ha : atI (L.map tupW) ((i : Nat) : Int) = some (tupW l) := L2.atI_nat (by rw [List.getElem?_map, hl]; rfl)
      have g1 : gIx (.tup (L.map tupW)) (.int ((i : Nat) : Int)) μ = .ok (tupW l) μ := by simp only [gIx, orG, gIxQ, asQ, ha, Out.els]
      have c : gCut (tupW l) none (some 2) μ = .ok (tupW (l.take 2)) μ := by simp only [gCut, tupW, cut2]
      have t2 : W.tup [.int s, .int p] = tupW [s, p] := rfl
      have g2 := gEq_tupW (μ := μ) (a := l.take 2) (b := [s, p])
      unfold begins
      rw [getD_of hl]
      by_cases h : l.take 2 = [s, p]
      · exact .inr ⟨.int (i : Nat), by rw [if_pos h], by simp [eVar, eC, eBin, eTest, eTru, eAnd, eOr, eNot, eNeg, eIf, eTup, eLst, eNew, eCall, eFn, eMe, eMk, eFld, eMeL, eMeL0, aNil, aCons, bAnd, bOr, bNot, bYes, sSeq, sNx, sEx, sRet, sRetN, sIf, sAsg, gSet, sPar, sFldM, sFldAdd, sRaise, Out.bind, Out.st, SO.seq, fin, runB, startW, env, eCut, oNone, oSome, g1, c, i1, i2, z2, t2, gEq_tupW, h], by simp [eVar, eC, eBin, eTest, eTru, eAnd, eOr, eNot, eNeg, eIf, eTup, eLst, eNew, eCall, eFn, eMe, eMk, eFld, eMeL, eMeL0, aNil, aCons, bAnd, bOr, bNot, bYes, sSeq, sNx, sEx, sRet, sRetN, sIf, sAsg, gSet, sPar, sFldM, sFldAdd, sRaise, Out.bind, Out.st, SO.seq, fin, runB, startW, env]⟩
      · exact .inl ⟨by rw [if_neg h], by simp [eVar, eC, eBin, eTest, eTru, eAnd, eOr, eNot, eNeg, eIf, eTup, eLst, eNew, eCall, eFn, eMe, eMk, eFld, eMeL, eMeL0, aNil, aCons, bAnd, bOr, bNot, bYes, sSeq, sNx, sEx, sRet, sRetN, sIf, sAsg, gSet, sPar, sFldM, sFldAdd, sRaise, Out.bind, Out.st, SO.seq, fin, runB, startW, env, eCut, oNone, oSome, g1, c, i1, i2, z2, t2, gEq_tupW, h]⟩) (by rw [irange_len, List.length_nil]; omega)
    rw [irange_len, List.nil_append, hds] at h
    rw [← h]
    have hr : iRngA (aCons (eCall cLen (aCons (eVar 3) aNil)) aNil) (env w0 d (kW a b) (L.map tupW) r w R lost (some (tupW [e, p, s])) x9 x10 x11 x12 x13 x14 x15) μ = .ok (.seq (irange 0 L.length)) μ := by
      refine rangeA (by omega) ?_
      simp [eVar, eC, eBin, eTest, eTru, eAnd, eOr, eNot, eNeg, eIf, eTup, eLst, eNew, eCall, eFn, eMe, eMk, eFld, eMeL, eMeL0, aNil, aCons, bAnd, bOr, bNot, bYes, sSeq, sNx, sEx, sRet, sRetN, sIf, sAsg, gSet, sPar, sFldM, sFldAdd, sRaise, Out.bind, Out.st, SO.seq, fin, runB, startW, env, cLen_tup]
    unfold eCmp
    rw [hr]
    rfl
  have hw := wire_from_ok (A := A) (d := e) (p := p) (s := s) C.hw
  have hi : insOf A.Wires "wire_from" μ (.loc w) = true := by simp [eVar, eC, eBin, eTest, eTru, eAnd, eOr, eNot, eNeg, eIf, eTup, eLst, eNew, eCall, eFn, eMe, eMk, eFld, eMeL, eMeL0, aNil, aCons, bAnd, bOr, bNot, bYes, sSeq, sNx, sEx, sRet, sRetN, sIf, sAsg, gSet, sPar, sFldM, sFldAdd, sRaise, Out.bind, Out.st, SO.seq, fin, runB, startW, insOf, C.hw, wf_no]
  refine ⟨some (.lst (ds.map .int)), ?_⟩
  unfold s_law_2
  refine (seq_nx (ρ1 := env w0 d (kW a b) (L.map tupW) r w R lost (some (tupW [e, p, s])) (some (.lst (ds.map .int))) x10 x11 x12 x13 x14 x15) (μ1 := μ) ((asg_set comp).trans rfl)).trans ?_
  rw [findSome_head, hds] at hw
  cases ds with
  | nil =>
    have al : f_law_alike A [.non, .non] μ = .ok (.bl true) μ := alike_non 5
    have gn : gNe (.lst []) (.lst []) μ = .ok (.bl false) μ := rfl
    replace hw : f_Wires_wire_from A [.loc w, tupW [e, p, s]] μ = .ok .non μ := hw
    simp [eVar, eC, eBin, eTest, eTru, eAnd, eOr, eNot, eNeg, eIf, eTup, eLst, eNew, eCall, eFn, eMe, eMk, eFld, eMeL, eMeL0, aNil, aCons, bAnd, bOr, bNot, bYes, sSeq, sNx, sEx, sRet, sRetN, sIf, sAsg, gSet, sPar, sFldM, sFldAdd, sRaise, Out.bind, Out.st, SO.seq, fin, runB, startW, env, hi, hw, z0, gn, al, truW]
  | cons x ds =>
    have al : f_law_alike A [.int x, .int x] μ = .ok (.bl true) μ := alike_int 5 x
    have gn : gNe (.lst (W.int x :: ds.map .int)) (.lst []) μ = .ok (.bl true) μ := by
      have := gNe_intsL (μ := μ) (a := x :: ds) (b := [])
      simpa using this
    have g0 : gIx (.lst (W.int x :: ds.map .int)) (.int 0) μ = .ok (.int x) μ := by
      have ha : atI (W.int x :: ds.map .int) ((0 : Nat) : Int) = some (.int x) := L2.atI_nat rfl
      have ha' : atI (W.int x :: ds.map .int) 0 = some (.int x) := ha
      simp only [gIx, orG, gIxQ, asQ, asL, ha', Out.els]
    replace hw : f_Wires_wire_from A [.loc w, tupW [e, p, s]] μ = .ok (.int x) μ := hw
    simp [eVar, eC, eBin, eTest, eTru, eAnd, eOr, eNot, eNeg, eIf, eTup, eLst, eNew, eCall, eFn, eMe, eMk, eFld, eMeL, eMeL0, aNil, aCons, bAnd, bOr, bNot, bYes, sSeq, sNx, sEx, sRet, sRetN, sIf, sAsg, gSet, sPar, sFldM, sFldAdd, sRaise, Out.bind, Out.st, SO.seq, fin, runB, startW, env, hi, hw, z0, gn, g0, al, truW]
/-! a step -/
theorem sum_set : ∀ {gs : List Int} {k : Nat} {g : Int}, gs[k]? = some g → (gs.set k (g + 1)).sum = gs.sum + 1
  | [], _, _, h => by simp at h
  | x :: gs, 0, g, h => by
    simp at h
    subst h
    simp [eVar, eC, eBin, eTest, eTru, eAnd, eOr, eNot, eNeg, eIf, eTup, eLst, eNew, eCall, eFn, eMe, eMk, eFld, eMeL, eMeL0, aNil, aCons, bAnd, bOr, bNot, bYes, sSeq, sNx, sEx, sRet, sRetN, sIf, sAsg, gSet, sPar, sFldM, sFldAdd, sRaise, Out.bind, Out.st, SO.seq, fin, runB, startW]
    omega
  | x :: gs, k + 1, g, h => by
    rw [List.getElem?_cons_succ] at h
    rw [List.set_cons_succ, List.sum_cons, List.sum_cons, sum_set h]
    omega
theorem row_at (C : Cl A w d R n kw lk r dl rows gs μ) {k : Nat} {l : List Int} (hl : rows[k]? = some l) {μ1 : Mu} (h : μ1[R]? = some (.lst (rows.map rowW))) : gIx (.loc R) (.int (k : Nat)) μ1 = .ok (rowW l) μ1 := by
  have ha : atI (rows.map rowW) ((k : Nat) : Int) = some (rowW l) := L2.atI_nat (by rw [List.getElem?_map, hl]; rfl)
  simp only [gIx, orG, gIxQ, asQ, asL, h, ha, Out.els]
theorem row_set (C : Cl A w d R n kw lk r dl rows gs μ) {k : Nat} (hk : k < n) (l : List Int) {μ1 : Mu} (h : μ1[R]? = some (.lst (rows.map rowW))) {x8 x9 x10 x12 x13 x14 x15 : Option W} :
    gSubM (eVar 6) (eVar 11) (rowW l) (env w0 d kw lk r w R lost x8 x9 x10 (some (.int (k : Nat))) x12 x13 x14 x15) μ1 = .ok (env w0 d kw lk r w R lost x8 x9 x10 (some (.int (k : Nat))) x12 x13 x14 x15) (μ1.set R (.lst ((rows.set k l).map rowW))) := by
  have hi : ixN (rows.map rowW).length ((k : Nat) : Int) = some k := by
    have h0 : ¬ (((k : Nat) : Int) < 0) := by omega
    have : k < rows.length := by rw [C.hn]; exact hk
    simp [eVar, eC, eBin, eTest, eTru, eAnd, eOr, eNot, eNeg, eIf, eTup, eLst, eNew, eCall, eFn, eMe, eMk, eFld, eMeL, eMeL0, aNil, aCons, bAnd, bOr, bNot, bYes, sSeq, sNx, sEx, sRet, sRetN, sIf, sAsg, gSet, sPar, sFldM, sFldAdd, sRaise, Out.bind, Out.st, SO.seq, fin, runB, startW, ixN, h0, this]
  have e : gSubM (eVar 6) (eVar 11) (rowW l) (env w0 d kw lk r w R lost x8 x9 x10 (some (.int (k : Nat))) x12 x13 x14 x15) μ1 = match μ1[R]? with
    | some (.lst l0) => match ixN l0.length ((k : Nat) : Int) with
      | some j => .ok (env w0 d kw lk r w R lost x8 x9 x10 (some (.int (k : Nat))) x12 x13 x14 x15) (μ1.set R (.lst (l0.set j (rowW l))))
      | none => .no
    | _ => .no := rfl
  rw [e, h]
  dsimp only
  rw [hi]
  dsimp only
  rw [List.map_set]
end
end
end K44
namespace K44
open PySem PySem.Spec PyProof.Rows L2 PD
section
variable {A : Adr} {μ : Mu}
section
variable {w d R n : Nat} {w0 kw : W} {lk : List W} {r : W} {dl : List Int} {rows : LL} {gs : List Int} {lost : Int}
theorem rows_set_le {rows : LL} {k j : Nat} {l : List Int} (h : ∀ x ∈ rows, x.length ≤ j) (hl : l.length ≤ j + 1) : ∀ x ∈ rows.set k l, x.length ≤ j + 1 := fun x hx => by
  rcases List.mem_or_eq_of_mem_set hx with hx | rfl
  · have := h x hx; omega
  · exact hl
theorem set_id {rows : LL} {k : Nat} {l : List Int} (h : rows[k]? = some l) : rows.set k l = rows := by
  refine List.ext_getElem? fun i => ?_
  by_cases e : k = i
  · subst e
    rw [List.getElem?_set_self (List.getElem?_eq_some_iff.mp h).1, h]
  · rw [List.getElem?_set_ne e]
theorem put_branch (C : Cl A w d R n kw lk r dl rows gs μ) (hr : isRoom r) {k j : Nat} (hk : k < n) (hj : j < 100) (hrows : ∀ l ∈ rows, l.length ≤ j) {z : Int} (x8 x9 x12 x13 x14 x15 : Option W) :
    ∃ (rows' : LL) (gs' : List Int) (μ' : Mu) (x12' : Option W), (sSeq (sAsg (eOr (eBin gIsN (eVar 4) (eC .non)) (eBin gLt (eCall cLen (aCons (eBin gIx (eVar 6) (eVar 11)) aNil)) (eVar 4))) (gSet 12))
 (sSeq (sIf (bNot (eTru (eFn 2 (f_law_says A) (aCons (eMe A.Wires "put" 3 (f_Wires_put A) (eVar 5) (aCons (eVar 11) (aCons (eVar 10) aNil))) (aCons (eVar 12) aNil))))) (sRet (eC (.bl false))) sNx)
 (sAsg (eTup (aCons (eBin gAdd (eBin gIx (eVar 6) (eVar 11)) (eBin gMul (eLst (aCons (eVar 10) aNil)) (eCall cInt (aCons (eVar 12) aNil)))) (aCons (eBin gAdd (eVar 7) (eCall cInt (aCons (eNot (eVar 12)) aNil))) aNil))) (gTupM 2 (gsCons (gSubM (eVar 6) (eVar 11)) (gsCons (gSet 7) gsNil))))))
      (env w0 d kw lk r w R gs.sum x8 x9 (some (.int z)) (some (.int (k : Nat))) x12 x13 x14 x15) μ = .nx (env w0 d kw lk r w R gs'.sum x8 x9 (some (.int z)) (some (.int (k : Nat))) x12' x13 x14 x15) μ' ∧
      Cl A w d R n kw lk r dl rows' gs' μ' ∧ ∀ l ∈ rows', l.length ≤ j + 1 := by
  have sl := sizeLine_val
  have z1 : 1 ≤ sizeLine := by omega
  have z2 : 2 ≤ sizeLine := by omega
  obtain ⟨l, hl⟩ : ∃ l, rows[k]? = some l := ⟨_, List.getElem?_eq_getElem (by rw [C.hn]; exact hk)⟩
  obtain ⟨g, hg⟩ : ∃ g, gs[k]? = some g := ⟨_, List.getElem?_eq_getElem (by rw [C.hg]; exact hk)⟩
  have hll := hrows l (List.mem_of_getElem? hl)
  have hq := C.hq k g hg
  have ht := C.ht k l hl
  have hR := C.hR
  have hloc : (locs (w + 1) n)[k]? = some (w + 1 + 2 * k) := locs_get hk
  have hp := putW_ok (A := A) C.hw (by rw [locs_len, C.hlk]) hloc (v := .int z) hr hq ht (by rw [intsW_length]; omega)
  rw [intsW_length] at hp
  have hi : insOf A.Wires "put" μ (.loc w) = true := by simp [eVar, eC, eBin, eTest, eTru, eAnd, eOr, eNot, eNeg, eIf, eTup, eLst, eNew, eCall, eFn, eMe, eMk, eFld, eMeL, eMeL0, aNil, aCons, bAnd, bOr, bNot, bYes, sSeq, sNx, sEx, sRet, sRetN, sIf, sAsg, gSet, sPar, sFldM, sFldAdd, sRaise, Out.bind, Out.st, SO.seq, fin, runB, startW, insOf, C.hw, wf_no]
  have fits : (eOr (eBin gIsN (eVar 4) (eC .non)) (eBin gLt (eCall cLen (aCons (eBin gIx (eVar 6) (eVar 11)) aNil)) (eVar 4))) (env w0 d kw lk r w R gs.sum x8 x9 (some (.int z)) (some (.int (k : Nat))) x12 x13 x14 x15) μ = .ok (.bl (fitsR r l.length)) μ := by
    have ga := row_at C hl C.hr
    rcases hr with rfl | ⟨m, rfl, h1, h2⟩
    · simp [eVar, eC, eBin, eTest, eTru, eAnd, eOr, eNot, eNeg, eIf, eTup, eLst, eNew, eCall, eFn, eMe, eMk, eFld, eMeL, eMeL0, aNil, aCons, bAnd, bOr, bNot, bYes, sSeq, sNx, sEx, sRet, sRetN, sIf, sAsg, gSet, sPar, sFldM, sFldAdd, sRaise, Out.bind, Out.st, SO.seq, fin, runB, startW, env, gIsN, PD.isNon, fitsR]
    · simp [eVar, eC, eBin, eTest, eTru, eAnd, eOr, eNot, eNeg, eIf, eTup, eLst, eNew, eCall, eFn, eMe, eMk, eFld, eMeL, eMeL0, aNil, aCons, bAnd, bOr, bNot, bYes, sSeq, sNx, sEx, sRet, sRetN, sIf, sAsg, gSet, sPar, sFldM, sFldAdd, sRaise, Out.bind, Out.st, SO.seq, fin, runB, startW, env, gIsN, PD.isNon, fitsR, ga, rowW, cLen_lst, intsW_length, gLt, gI]
  by_cases hf : fitsR r l.length = true
  · rw [if_pos hf] at hp
    rw [hf] at fits
    have hR1 : (μ.set (w + 1 + 2 * k + 1) (.lst (intsW l ++ [.int z])))[R]? = some (.lst (rows.map rowW)) := by rw [at_set ht, if_neg (by omega)]; exact C.hr
    have ga := row_at C hl hR1
    have rs := row_set (w0 := w0) (lost := gs.sum) C hk (l ++ [z]) hR1 (x8 := x8) (x9 := x9) (x10 := some (.int z)) (x12 := some (.bl true)) (x13 := x13) (x14 := x14) (x15 := x15)
    have C' := C.setT hk (l ++ [z])
    rw [← intsW_snoc] at C'
    have add : gAdd (rowW l) (.lst [.int z]) (μ.set (w + 1 + 2 * k + 1) (.lst (intsW l ++ [.int z]))) = .ok (rowW (l ++ [z])) (μ.set (w + 1 + 2 * k + 1) (.lst (intsW l ++ [.int z]))) := by
      have : l.length + 1 ≤ sizeLine := by omega
      simp [eVar, eC, eBin, eTest, eTru, eAnd, eOr, eNot, eNeg, eIf, eTup, eLst, eNew, eCall, eFn, eMe, eMk, eFld, eMeL, eMeL0, aNil, aCons, bAnd, bOr, bNot, bYes, sSeq, sNx, sEx, sRet, sRetN, sIf, sAsg, gSet, sPar, sFldM, sFldAdd, sRaise, Out.bind, Out.st, SO.seq, fin, runB, startW, gAdd, orG, gAddI, gI, Out.els, gCat, asL, rowW, intsW_length, this, intsW]
    have mul : gMul (.lst [.int z]) (.int 1) (μ.set (w + 1 + 2 * k + 1) (.lst (intsW l ++ [.int z]))) = .ok (.lst [.int z]) (μ.set (w + 1 + 2 * k + 1) (.lst (intsW l ++ [.int z]))) := by
      simp [eVar, eC, eBin, eTest, eTru, eAnd, eOr, eNot, eNeg, eIf, eTup, eLst, eNew, eCall, eFn, eMe, eMk, eFld, eMeL, eMeL0, aNil, aCons, bAnd, bOr, bNot, bYes, sSeq, sNx, sEx, sRet, sRetN, sIf, sAsg, gSet, sPar, sFldM, sFldAdd, sRaise, Out.bind, Out.st, SO.seq, fin, runB, startW, gMul, orG, gMulI, gIC, Out.els, gRep, asL, z1]
    have ci : cInt [.bl true] (μ.set (w + 1 + 2 * k + 1) (.lst (intsW l ++ [.int z]))) = .ok (.int 1) (μ.set (w + 1 + 2 * k + 1) (.lst (intsW l ++ [.int z]))) := rfl
    have ci0 : cInt [.bl false] (μ.set (w + 1 + 2 * k + 1) (.lst (intsW l ++ [.int z]))) = .ok (.int 0) (μ.set (w + 1 + 2 * k + 1) (.lst (intsW l ++ [.int z]))) := rfl
    refine ⟨rows.set k (l ++ [z]), gs, _, some (.bl true), ?_, C', rows_set_le hrows (by simp [eVar, eC, eBin, eTest, eTru, eAnd, eOr, eNot, eNeg, eIf, eTup, eLst, eNew, eCall, eFn, eMe, eMk, eFld, eMeL, eMeL0, aNil, aCons, bAnd, bOr, bNot, bYes, sSeq, sNx, sEx, sRet, sRetN, sIf, sAsg, gSet, sPar, sFldM, sFldAdd, sRaise, Out.bind, Out.st, SO.seq, fin, runB, startW]; omega)⟩
    generalize μ.set (w + 1 + 2 * k + 1) (.lst (intsW l ++ [.int z])) = μ1 at hp hR1 ga rs add mul ci ci0
    refine (seq_nx (ρ1 := env w0 d kw lk r w R gs.sum x8 x9 (some (.int z)) (some (.int (k : Nat))) (some (.bl true)) x13 x14 x15) (μ1 := μ) ((asg_set fits).trans rfl)).trans ?_
    refine (seq_nx (ρ1 := env w0 d kw lk r w R gs.sum x8 x9 (some (.int z)) (some (.int (k : Nat))) (some (.bl true)) x13 x14 x15) (μ1 := μ1) (by simp [eVar, eC, eBin, eTest, eTru, eAnd, eOr, eNot, eNeg, eIf, eTup, eLst, eNew, eCall, eFn, eMe, eMk, eFld, eMeL, eMeL0, aNil, aCons, bAnd, bOr, bNot, bYes, sSeq, sNx, sEx, sRet, sRetN, sIf, sAsg, gSet, sPar, sFldM, sFldAdd, sRaise, Out.bind, Out.st, SO.seq, fin, runB, startW, env, hi, hp, says_bl, truW])).trans ?_
    have ev : (eTup (aCons (eBin gAdd (eBin gIx (eVar 6) (eVar 11)) (eBin gMul (eLst (aCons (eVar 10) aNil)) (eCall cInt (aCons (eVar 12) aNil)))) (aCons (eBin gAdd (eVar 7) (eCall cInt (aCons (eNot (eVar 12)) aNil))) aNil))) (env w0 d kw lk r w R gs.sum x8 x9 (some (.int z)) (some (.int (k : Nat))) (some (.bl true)) x13 x14 x15) μ1 = .ok (.tup [rowW (l ++ [z]), .int gs.sum]) μ1 := by
      simp [eVar, eC, eBin, eTest, eTru, eAnd, eOr, eNot, eNeg, eIf, eTup, eLst, eNew, eCall, eFn, eMe, eMk, eFld, eMeL, eMeL0, aNil, aCons, bAnd, bOr, bNot, bYes, sSeq, sNx, sEx, sRet, sRetN, sIf, sAsg, gSet, sPar, sFldM, sFldAdd, sRaise, Out.bind, Out.st, SO.seq, fin, runB, startW, env, ga, z1, z2, ci, ci0, mul, add, gAdd_int]
    unfold sAsg
    rw [ev]
    show ((gTupM 2 (gsCons (gSubM (eVar 6) (eVar 11)) (gsCons (gSet 7) gsNil)) (.tup [rowW (l ++ [z]), .int gs.sum]) _ μ1).st _ _) = _
    have gt : gTupM 2 (gsCons (gSubM (eVar 6) (eVar 11)) (gsCons (gSet 7) gsNil)) (.tup [rowW (l ++ [z]), .int gs.sum]) (env w0 d kw lk r w R gs.sum x8 x9 (some (.int z)) (some (.int (k : Nat))) (some (.bl true)) x13 x14 x15) μ1 = .ok (env w0 d kw lk r w R gs.sum x8 x9 (some (.int z)) (some (.int (k : Nat))) (some (.bl true)) x13 x14 x15) (μ1.set R (.lst ((rows.set k (l ++ [z])).map rowW))) := by
      unfold gTupM gsCons
      dsimp only [List.length_cons, List.length_nil]
      rw [if_pos rfl, rs]
      rfl
    rw [gt]
    rfl
  · rw [if_neg hf] at hp
    have hf' : fitsR r l.length = false := by simpa using hf
    rw [hf'] at fits
    have hR1 : (μ.set (w + 1 + 2 * k) (.ins A.Queue (qf (.str fst) r (w + 1 + 2 * k + 1) (g + 1))))[R]? = some (.lst (rows.map rowW)) := by rw [at_set hq, if_neg (by omega)]; exact C.hr
    have ga := row_at C hl hR1
    have rs := row_set (w0 := w0) (lost := gs.sum) C hk l hR1 (x8 := x8) (x9 := x9) (x10 := some (.int z)) (x12 := some (.bl false)) (x13 := x13) (x14 := x14) (x15 := x15)
    have C' := C.setG hk (g + 1) (set_id hl)
    have hs := sum_set hg
    generalize μ.set (w + 1 + 2 * k) (.ins A.Queue (qf (.str fst) r (w + 1 + 2 * k + 1) (g + 1))) = μ1 at hp hR1 ga rs C'
    have add : gAdd (rowW l) (.lst []) μ1 = .ok (rowW l) μ1 := by
      have : l.length ≤ sizeLine := by omega
      simp [eVar, eC, eBin, eTest, eTru, eAnd, eOr, eNot, eNeg, eIf, eTup, eLst, eNew, eCall, eFn, eMe, eMk, eFld, eMeL, eMeL0, aNil, aCons, bAnd, bOr, bNot, bYes, sSeq, sNx, sEx, sRet, sRetN, sIf, sAsg, gSet, sPar, sFldM, sFldAdd, sRaise, Out.bind, Out.st, SO.seq, fin, runB, startW, gAdd, orG, gAddI, gI, Out.els, gCat, asL, rowW, intsW_length, this]
    have mul : gMul (.lst [.int z]) (.int 0) μ1 = .ok (.lst []) μ1 := by
      simp [eVar, eC, eBin, eTest, eTru, eAnd, eOr, eNot, eNeg, eIf, eTup, eLst, eNew, eCall, eFn, eMe, eMk, eFld, eMeL, eMeL0, aNil, aCons, bAnd, bOr, bNot, bYes, sSeq, sNx, sEx, sRet, sRetN, sIf, sAsg, gSet, sPar, sFldM, sFldAdd, sRaise, Out.bind, Out.st, SO.seq, fin, runB, startW, gMul, orG, gMulI, gIC, Out.els, gRep, asL]
    have ci : cInt [.bl true] μ1 = .ok (.int 1) μ1 := rfl
    have ci0 : cInt [.bl false] μ1 = .ok (.int 0) μ1 := rfl
    refine ⟨rows.set k l, gs.set k (g + 1), _, some (.bl false), ?_, C', rows_set_le hrows (by omega)⟩
    refine (seq_nx (ρ1 := env w0 d kw lk r w R gs.sum x8 x9 (some (.int z)) (some (.int (k : Nat))) (some (.bl false)) x13 x14 x15) (μ1 := μ) ((asg_set fits).trans rfl)).trans ?_
    refine (seq_nx (ρ1 := env w0 d kw lk r w R gs.sum x8 x9 (some (.int z)) (some (.int (k : Nat))) (some (.bl false)) x13 x14 x15) (μ1 := μ1) (by simp [eVar, eC, eBin, eTest, eTru, eAnd, eOr, eNot, eNeg, eIf, eTup, eLst, eNew, eCall, eFn, eMe, eMk, eFld, eMeL, eMeL0, aNil, aCons, bAnd, bOr, bNot, bYes, sSeq, sNx, sEx, sRet, sRetN, sIf, sAsg, gSet, sPar, sFldM, sFldAdd, sRaise, Out.bind, Out.st, SO.seq, fin, runB, startW, env, hi, hp, says_bl, truW])).trans ?_
    have ev : (eTup (aCons (eBin gAdd (eBin gIx (eVar 6) (eVar 11)) (eBin gMul (eLst (aCons (eVar 10) aNil)) (eCall cInt (aCons (eVar 12) aNil)))) (aCons (eBin gAdd (eVar 7) (eCall cInt (aCons (eNot (eVar 12)) aNil))) aNil))) (env w0 d kw lk r w R gs.sum x8 x9 (some (.int z)) (some (.int (k : Nat))) (some (.bl false)) x13 x14 x15) μ1 = .ok (.tup [rowW l, .int (gs.sum + 1)]) μ1 := by
      simp [eVar, eC, eBin, eTest, eTru, eAnd, eOr, eNot, eNeg, eIf, eTup, eLst, eNew, eCall, eFn, eMe, eMk, eFld, eMeL, eMeL0, aNil, aCons, bAnd, bOr, bNot, bYes, sSeq, sNx, sEx, sRet, sRetN, sIf, sAsg, gSet, sPar, sFldM, sFldAdd, sRaise, Out.bind, Out.st, SO.seq, fin, runB, startW, env, ga, z1, z2, ci, ci0, mul, add, gAdd_int]
    unfold sAsg
    rw [ev]
    have gt : gTupM 2 (gsCons (gSubM (eVar 6) (eVar 11)) (gsCons (gSet 7) gsNil)) (.tup [rowW l, .int (gs.sum + 1)]) (env w0 d kw lk r w R gs.sum x8 x9 (some (.int z)) (some (.int (k : Nat))) (some (.bl false)) x13 x14 x15) μ1 = .ok (env w0 d kw lk r w R (gs.sum + 1) x8 x9 (some (.int z)) (some (.int (k : Nat))) (some (.bl false)) x13 x14 x15) (μ1.set R (.lst ((rows.set k l).map rowW))) := by
      unfold gTupM gsCons
      dsimp only [List.length_cons, List.length_nil]
      rw [if_pos rfl, rs]
      rfl
    show ((gTupM 2 (gsCons (gSubM (eVar 6) (eVar 11)) (gsCons (gSet 7) gsNil)) (.tup [rowW l, .int (gs.sum + 1)]) _ μ1).st _ _) = _
    rw [gt, hs]
    rfl
theorem str_ne : (sNx : SM) = sNx := rfl
theorem c_none : PyData.canLay0 (.str "none") = true := by decide +kernel
theorem take_branch {K : PySem.W.Frag} {mg : Str → Option Value} (T : Txt K mg A) (C : Cl A w d R n kw lk r dl rows gs μ) {k j : Nat} (hk : k < n) (hj : j < 100) (hrows : ∀ l ∈ rows, l.length ≤ j) (x8 x9 x10 x12 x13 x14 x15 : Option W) :
    ∃ (rows' : LL) (μ' : Mu) (x13' : Option W), (sSeq (sAsg (eFn 3 (f_law_told A) (aCons (eVar 5) (aCons (eC (.int 0)) (aCons (eVar 11) aNil)))) (gSet 13))
 (sSeq (sIf (bNot (eTru (eFn 2 (f_law_alike A) (aCons (eVar 13) (aCons (eIf (eTest (eBin gNe (eBin gIx (eVar 6) (eVar 11)) (eLst aNil))) (eBin gIx (eBin gIx (eVar 6) (eVar 11)) (eC (.int 0))) (eC (.str "none"))) aNil))))) (sRet (eC (.bl false))) sNx)
 (sAsg (eCut (eBin gIx (eVar 6) (eVar 11)) (oSome (eC (.int 1))) oNone) (gSubM (eVar 6) (eVar 11)))))
      (env w0 d kw lk r w R lost x8 x9 x10 (some (.int (k : Nat))) x12 x13 x14 x15) μ = .nx (env w0 d kw lk r w R lost x8 x9 x10 (some (.int (k : Nat))) x12 x13' x14 x15) μ' ∧
      Cl A w d R n kw lk r dl rows' gs μ' ∧ ∀ l ∈ rows', l.length ≤ j + 1 := by
  have z0 : 0 ≤ sizeLine := Nat.zero_le _
  obtain ⟨l, hl⟩ : ∃ l, rows[k]? = some l := ⟨_, List.getElem?_eq_getElem (by rw [C.hn]; exact hk)⟩
  obtain ⟨g, hg⟩ : ∃ g, gs[k]? = some g := ⟨_, List.getElem?_eq_getElem (by rw [C.hg]; exact hk)⟩
  have hll := hrows l (List.mem_of_getElem? hl)
  have hq := C.hq k g hg
  have ht := C.ht k l hl
  have hR := C.hR
  have hloc : (locs (w + 1) n)[k]? = some (w + 1 + 2 * k) := locs_get hk
  have cut : ∀ μ, gCut (rowW l) (some 1) none μ = .ok (rowW (l.drop 1)) μ := fun μ => by
    have : cutW (intsW l) (some 1) none = intsW (l.drop 1) := by
      rw [show (1 : Int) = ((1 : Nat) : Int) from rfl, cutTail, intsW, intsW, List.map_drop]
    simp only [gCut, rowW, asL, this]
  have last : ∀ (μ1 : Mu) (x13 : Option W), μ1[R]? = some (.lst (rows.map rowW)) → (sAsg (eCut (eBin gIx (eVar 6) (eVar 11)) (oSome (eC (.int 1))) oNone) (gSubM (eVar 6) (eVar 11))) (env w0 d kw lk r w R lost x8 x9 x10 (some (.int (k : Nat))) x12 x13 x14 x15) μ1 = .nx (env w0 d kw lk r w R lost x8 x9 x10 (some (.int (k : Nat))) x12 x13 x14 x15) (μ1.set R (.lst ((rows.set k (l.drop 1)).map rowW))) := fun μ1 x13 h => by
    have ga := row_at C hl h
    have rs := row_set (w0 := w0) (lost := lost) C hk (l.drop 1) h (x8 := x8) (x9 := x9) (x10 := x10) (x12 := x12) (x13 := x13) (x14 := x14) (x15 := x15)
    have ev : (eCut (eBin gIx (eVar 6) (eVar 11)) (oSome (eC (.int 1))) oNone) (env w0 d kw lk r w R lost x8 x9 x10 (some (.int (k : Nat))) x12 x13 x14 x15) μ1 = .ok (rowW (l.drop 1)) μ1 := by
      simp [eVar, eC, eBin, eTest, eTru, eAnd, eOr, eNot, eNeg, eIf, eTup, eLst, eNew, eCall, eFn, eMe, eMk, eFld, eMeL, eMeL0, aNil, aCons, bAnd, bOr, bNot, bYes, sSeq, sNx, sEx, sRet, sRetN, sIf, sAsg, gSet, sPar, sFldM, sFldAdd, sRaise, Out.bind, Out.st, SO.seq, fin, runB, startW, env, eCut, oSome, oNone, ga, cut]
    unfold sAsg
    rw [ev]
    show ((gSubM (eVar 6) (eVar 11) (rowW (l.drop 1)) _ μ1).st _ _) = _
    rw [rs]
    rfl
  cases l with
  | nil =>
    have ho := told_none (A := A) T C.hw (by rw [locs_len, C.hlk]) hloc hq ht
    have al : f_law_alike A [.str "none", .str "none"] μ = .ok (.bl true) μ := alike_str 5 c_none
    have ga := row_at C hl C.hr
    have gn : gNe (rowW []) (.lst []) μ = .ok (.bl false) μ := rfl
    have C' := C.setT hk []
    rw [set_same ht] at C'
    refine ⟨rows.set k [], _, some (.str "none"), ?_, C', rows_set_le hrows (by simp [eVar, eC, eBin, eTest, eTru, eAnd, eOr, eNot, eNeg, eIf, eTup, eLst, eNew, eCall, eFn, eMe, eMk, eFld, eMeL, eMeL0, aNil, aCons, bAnd, bOr, bNot, bYes, sSeq, sNx, sEx, sRet, sRetN, sIf, sAsg, gSet, sPar, sFldM, sFldAdd, sRaise, Out.bind, Out.st, SO.seq, fin, runB, startW])⟩
    refine (seq_nx (ρ1 := env w0 d kw lk r w R lost x8 x9 x10 (some (.int (k : Nat))) x12 (some (.str "none")) x14 x15) (μ1 := μ) (by simp [eVar, eC, eBin, eTest, eTru, eAnd, eOr, eNot, eNeg, eIf, eTup, eLst, eNew, eCall, eFn, eMe, eMk, eFld, eMeL, eMeL0, aNil, aCons, bAnd, bOr, bNot, bYes, sSeq, sNx, sEx, sRet, sRetN, sIf, sAsg, gSet, sPar, sFldM, sFldAdd, sRaise, Out.bind, Out.st, SO.seq, fin, runB, startW, env, ho])).trans ?_
    refine (seq_nx (ρ1 := env w0 d kw lk r w R lost x8 x9 x10 (some (.int (k : Nat))) x12 (some (.str "none")) x14 x15) (μ1 := μ) (by simp [eVar, eC, eBin, eTest, eTru, eAnd, eOr, eNot, eNeg, eIf, eTup, eLst, eNew, eCall, eFn, eMe, eMk, eFld, eMeL, eMeL0, aNil, aCons, bAnd, bOr, bNot, bYes, sSeq, sNx, sEx, sRet, sRetN, sIf, sAsg, gSet, sPar, sFldM, sFldAdd, sRaise, Out.bind, Out.st, SO.seq, fin, runB, startW, env, ga, gn, z0, al, truW])).trans ?_
    exact last μ _ C.hr
  | cons x l =>
    have ho := told_take (A := A) C.hw (by rw [locs_len, C.hlk]) hloc hq ht
    have C' := C.setT hk l
    have hR1 : (μ.set (w + 1 + 2 * k + 1) (.lst (intsW l)))[R]? = some (.lst (rows.map rowW)) := by rw [at_set ht, if_neg (by omega)]; exact C.hr
    replace ho : f_law_told A [.loc w, .int 0, .int (k : Nat)] μ = .ok (.int x) (μ.set (w + 1 + 2 * k + 1) (.lst (intsW l))) := ho
    generalize μ.set (w + 1 + 2 * k + 1) (.lst (intsW l)) = μ1 at ho hR1 C'
    have al : f_law_alike A [.int x, .int x] μ1 = .ok (.bl true) μ1 := alike_int 5 x
    have ga := row_at C hl hR1
    have gn : gNe (rowW (x :: l)) (.lst []) μ1 = .ok (.bl true) μ1 := by
      have e := gNe_intsL (μ := μ1) (a := x :: l) (b := [])
      rw [decide_eq_false (by simp [eVar, eC, eBin, eTest, eTru, eAnd, eOr, eNot, eNeg, eIf, eTup, eLst, eNew, eCall, eFn, eMe, eMk, eFld, eMeL, eMeL0, aNil, aCons, bAnd, bOr, bNot, bYes, sSeq, sNx, sEx, sRet, sRetN, sIf, sAsg, gSet, sPar, sFldM, sFldAdd, sRaise, Out.bind, Out.st, SO.seq, fin, runB, startW])] at e
      exact e
    have g0 : gIx (rowW (x :: l)) (.int 0) μ1 = .ok (.int x) μ1 := by
      have ha : atI (intsW (x :: l)) ((0 : Nat) : Int) = some (.int x) := L2.atI_nat rfl
      have ha' : atI (intsW (x :: l)) 0 = some (.int x) := ha
      simp only [gIx, orG, gIxQ, asQ, asL, rowW, ha', Out.els]
    refine ⟨rows.set k l, _, some (.int x), ?_, C', rows_set_le hrows (by simp at hll; omega)⟩
    refine (seq_nx (ρ1 := env w0 d kw lk r w R lost x8 x9 x10 (some (.int (k : Nat))) x12 (some (.int x)) x14 x15) (μ1 := μ1) (by simp [eVar, eC, eBin, eTest, eTru, eAnd, eOr, eNot, eNeg, eIf, eTup, eLst, eNew, eCall, eFn, eMe, eMk, eFld, eMeL, eMeL0, aNil, aCons, bAnd, bOr, bNot, bYes, sSeq, sNx, sEx, sRet, sRetN, sIf, sAsg, gSet, sPar, sFldM, sFldAdd, sRaise, Out.bind, Out.st, SO.seq, fin, runB, startW, env, ho])).trans ?_
    refine (seq_nx (ρ1 := env w0 d kw lk r w R lost x8 x9 x10 (some (.int (k : Nat))) x12 (some (.int x)) x14 x15) (μ1 := μ1) (by simp [eVar, eC, eBin, eTest, eTru, eAnd, eOr, eNot, eNeg, eIf, eTup, eLst, eNew, eCall, eFn, eMe, eMk, eFld, eMeL, eMeL0, aNil, aCons, bAnd, bOr, bNot, bYes, sSeq, sNx, sEx, sRet, sRetN, sIf, sAsg, gSet, sPar, sFldM, sFldAdd, sRaise, Out.bind, Out.st, SO.seq, fin, runB, startW, env, ga, gn, g0, z0, al, truW])).trans ?_
    exact last μ1 _ hR1
end
end
end K44
namespace K44
open PySem PySem.Spec PyProof.Rows L2 PD
section
variable {A : Adr} {μ : Mu}
section
variable {w d R n : Nat} {w0 kw : W} {lk : List W} {r : W} {dl : List Int} {rows : LL} {gs : List Int} {lost : Int}
/-- the rows in which something is, by the law -/
theorem busy_comp (C : Cl A w d R n kw lk r dl rows gs μ) (hn8 : n ≤ 8) {x8 x9 x10 x11 x12 x13 x14 x15 : Option W} :
    eCmp (iRngA (aCons (eCall cLen (aCons (eVar 6) aNil)) aNil)) [11] (gSet 11) (eTest (eBin gNe (eBin gIx (eVar 6) (eVar 11)) (eLst aNil))) (eVar 11) (env w0 d kw lk r w R lost x8 x9 x10 x11 x12 x13 x14 x15) μ = .ok (.lst ((List.range' 0 n).filterMap (busy rows))) μ := by
  have sl := sizeLine_val
  have z0 : 0 ≤ sizeLine := Nat.zero_le _
  have h := cmpS_ix (μ := μ) (g := gSet 11) (tt := eTest (eBin gNe (eBin gIx (eVar 6) (eVar 11)) (eLst aNil))) (me := eVar 11) (ρ := env w0 d kw lk r w R lost x8 x9 x10 none x12 x13 x14 x15) (f := busy rows) (irange 0 n) 0 [] (fun i x hx => by
    obtain ⟨hi, rfl⟩ := irange_get hx
    obtain ⟨l, hl⟩ : ∃ l, rows[i]? = some l := ⟨_, List.getElem?_eq_getElem (by rw [C.hn]; exact hi)⟩
    rw [Int.zero_add, Nat.zero_add]
    refine ⟨env w0 d kw lk r w R lost x8 x9 x10 (some (.int (i : Nat))) x12 x13 x14 x15, rfl, ?_⟩
    have ga := row_at C hl C.hr
    have gn : gNe (rowW l) (.lst []) μ = .ok (.bl (!decide (l = []))) μ := gNe_intsL (a := l) (b := [])
    unfold busy
    rw [getD_of hl]
    by_cases e : l = []
    · subst e
      have g0 : gNe (rowW []) (.lst []) μ = .ok (.bl false) μ := rfl
      exact .inl ⟨if_pos rfl, by simp [eVar, eC, eBin, eTest, eTru, eAnd, eOr, eNot, eNeg, eIf, eTup, eLst, eNew, eCall, eFn, eMe, eMk, eFld, eMeL, eMeL0, aNil, aCons, bAnd, bOr, bNot, bYes, sSeq, sNx, sEx, sRet, sRetN, sIf, sAsg, gSet, sPar, sFldM, sFldAdd, sRaise, Out.bind, Out.st, SO.seq, fin, runB, startW, env, ga, z0, g0]⟩
    · exact .inr ⟨_, if_neg e, by simp [eVar, eC, eBin, eTest, eTru, eAnd, eOr, eNot, eNeg, eIf, eTup, eLst, eNew, eCall, eFn, eMe, eMk, eFld, eMeL, eMeL0, aNil, aCons, bAnd, bOr, bNot, bYes, sSeq, sNx, sEx, sRet, sRetN, sIf, sAsg, gSet, sPar, sFldM, sFldAdd, sRaise, Out.bind, Out.st, SO.seq, fin, runB, startW, env, ga, z0, gn, e], by simp [eVar, eC, eBin, eTest, eTru, eAnd, eOr, eNot, eNeg, eIf, eTup, eLst, eNew, eCall, eFn, eMe, eMk, eFld, eMeL, eMeL0, aNil, aCons, bAnd, bOr, bNot, bYes, sSeq, sNx, sEx, sRet, sRetN, sIf, sAsg, gSet, sPar, sFldM, sFldAdd, sRaise, Out.bind, Out.st, SO.seq, fin, runB, startW, env]⟩) (by rw [irange_len, List.length_nil]; omega)
  rw [irange_len, List.nil_append] at h
  rw [← h]
  have hr : iRngA (aCons (eCall cLen (aCons (eVar 6) aNil)) aNil) (env w0 d kw lk r w R lost x8 x9 x10 x11 x12 x13 x14 x15) μ = .ok (.seq (irange 0 n)) μ := by
    refine rangeA (by omega) ?_
    simp [eVar, eC, eBin, eTest, eTru, eAnd, eOr, eNot, eNeg, eIf, eTup, eLst, eNew, eCall, eFn, eMe, eMk, eFld, eMeL, eMeL0, aNil, aCons, bAnd, bOr, bNot, bYes, sSeq, sNx, sEx, sRet, sRetN, sIf, sAsg, gSet, sPar, sFldM, sFldAdd, sRaise, Out.bind, Out.st, SO.seq, fin, runB, startW, env, cLen_loc C.hr, C.hn]
  unfold eCmp
  rw [hr]
  rfl
theorem end_check (C : Cl A w d R n kw lk r dl rows gs μ) (hn8 : n ≤ 8) {m : Nat} (hm : m ≤ 1000) (hrows : ∀ l ∈ rows, l.length ≤ m) (x8 x9 x10 x11 x12 x13 x14 x15 : Option W) :
    ∃ x14' x15', (sSeq (sAsg (eLst aNil) (gSet 14))
 (sSeq (sFor (iSeq (eVar 6)) (gSet 15) (s_law_0 A))
 (sIf (bNot (eTru (eFn 2 (f_law_alike A) (aCons (eLst (aCons (eMe A.Wires "ready" 1 (f_Wires_ready A) (eVar 5) aNil) (aCons (eMe A.Wires "things" 1 (f_Wires_things A) (eVar 5) aNil) (aCons (eMe A.Wires "lost" 1 (f_Wires_lost A) (eVar 5) aNil) aNil)))) (aCons (eLst (aCons (eCall cTuple (aCons (eCmp (iRngA (aCons (eCall cLen (aCons (eVar 6) aNil)) aNil)) [11] (gSet 11) (eTest (eBin gNe (eBin gIx (eVar 6) (eVar 11)) (eLst aNil))) (eVar 11)) aNil)) (aCons (eVar 14) (aCons (eVar 7) aNil)))) aNil))))) (sRet (eC (.bl false))) sNx)))
      (env w0 d kw lk r w R gs.sum x8 x9 x10 x11 x12 x13 x14 x15) μ = .nx (env w0 d kw lk r w R gs.sum x8 x9 x10 x11 x12 x13 x14' x15') (μ ++ [.lst (intsW rows.flatten)]) := by
  have sl := sizeLine_val
  have z0 : 0 ≤ sizeLine := Nat.zero_le _
  have z3 : 3 ≤ sizeLine := by omega
  have fl : rows.flatten.length ≤ 8000 := by
    have h1 := flat_len hrows
    have h3 : rows.length ≤ 8 := by rw [C.hn]; exact hn8
    have h4 : rows.length * m ≤ 8 * 1000 := Nat.mul_le_mul h3 hm
    omega
  obtain ⟨ρ', μ', e, rfl, y, rfl⟩ := forL_inv (it := .cell R) (l0 := rows.map rowW) (g := gSet 15) (body := s_law_0 A) (fun i ρ μ1 => μ1 = μ ∧ ∃ y, ρ = env w0 d kw lk r w R gs.sum x8 x9 x10 x11 x12 x13 (some (.lst (intsW (rows.take i).flatten))) y)
    (fun i ρ μ1 h => by rw [h.1]; simp only [Iter.items, C.hr]) (rows.map rowW) 0 (env w0 d kw lk r w R gs.sum x8 x9 x10 x11 x12 x13 (some (.lst [])) x15) μ ⟨rfl, x15, rfl⟩ fun i x ρ μ1 _ hx hI => by
      obtain ⟨rfl, y, rfl⟩ := hI
      rw [Nat.sub_zero, List.getElem?_map] at hx
      obtain ⟨l, hl, rfl⟩ := Option.map_eq_some_iff.mp hx
      have add : gAdd (.lst (intsW (rows.take i).flatten)) (rowW l) μ1 = .ok (.lst (intsW (rows.take (i + 1)).flatten)) μ1 := by
        rw [flat_take hl, ← intsW_app]
        have h1 := flat_len (rows := rows.take i) (m := m) fun x hx => hrows x (List.mem_of_mem_take hx)
        have h2 := hrows l (List.mem_of_getElem? hl)
        have h3 : (rows.take i).length ≤ 8 := by rw [List.length_take, C.hn]; omega
        have h4 : (rows.take i).length * m ≤ 8 * 1000 := Nat.mul_le_mul h3 hm
        have : (intsW (rows.take i).flatten).length + (intsW l).length ≤ sizeLine := by rw [intsW_length, intsW_length]; omega
        simp only [gAdd, orG, gAddI, gI, Out.els, gCat, asL, rowW, this, if_true]
      exact ⟨_, _, env w0 d kw lk r w R gs.sum x8 x9 x10 x11 x12 x13 (some (.lst (intsW (rows.take (i + 1)).flatten))) (some (rowW l)), μ1, rfl, by
        unfold s_law_0
        exact (asg_set (w := .lst (intsW (rows.take (i + 1)).flatten)) (μ1 := μ1) (by simp [eVar, eC, eBin, eTest, eTru, eAnd, eOr, eNot, eNeg, eIf, eTup, eLst, eNew, eCall, eFn, eMe, eMk, eFld, eMeL, eMeL0, aNil, aCons, bAnd, bOr, bNot, bYes, sSeq, sNx, sEx, sRet, sRetN, sIf, sAsg, gSet, sPar, sFldM, sFldAdd, sRaise, Out.bind, Out.st, SO.seq, fin, runB, startW, env, add])).trans rfl, rfl, _, rfl⟩
  have et : rows.take n = rows := by rw [← C.hn, List.take_length]
  rw [List.length_map, Nat.zero_add, C.hn, et] at e
  refine ⟨some (.lst (intsW rows.flatten)), y, ?_⟩
  have C2 := C.app [.lst (intsW rows.flatten)]
  have i1 : insOf A.Wires "ready" μ' (.loc w) = true := by simp [eVar, eC, eBin, eTest, eTru, eAnd, eOr, eNot, eNeg, eIf, eTup, eLst, eNew, eCall, eFn, eMe, eMk, eFld, eMeL, eMeL0, aNil, aCons, bAnd, bOr, bNot, bYes, sSeq, sNx, sEx, sRet, sRetN, sIf, sAsg, gSet, sPar, sFldM, sFldAdd, sRaise, Out.bind, Out.st, SO.seq, fin, runB, startW, insOf, C.hw, wf_no]
  have i2 : insOf A.Wires "things" μ' (.loc w) = true := by simp [eVar, eC, eBin, eTest, eTru, eAnd, eOr, eNot, eNeg, eIf, eTup, eLst, eNew, eCall, eFn, eMe, eMk, eFld, eMeL, eMeL0, aNil, aCons, bAnd, bOr, bNot, bYes, sSeq, sNx, sEx, sRet, sRetN, sIf, sAsg, gSet, sPar, sFldM, sFldAdd, sRaise, Out.bind, Out.st, SO.seq, fin, runB, startW, insOf, C.hw, wf_no]
  have i3 : insOf A.Wires "lost" (μ' ++ [.lst (intsW rows.flatten)]) (.loc w) = true := by simp [eVar, eC, eBin, eTest, eTru, eAnd, eOr, eNot, eNeg, eIf, eTup, eLst, eNew, eCall, eFn, eMe, eMk, eFld, eMeL, eMeL0, aNil, aCons, bAnd, bOr, bNot, bYes, sSeq, sNx, sEx, sRet, sRetN, sIf, sAsg, gSet, sPar, sFldM, sFldAdd, sRaise, Out.bind, Out.st, SO.seq, fin, runB, startW, insOf, C2.hw, wf_no]
  have r1 := ready_ok C hn8
  have r2 := things_ok C hn8 hm hrows
  have r3 := lostW_ok C2 hn8
  have bc := busy_comp (w0 := w0) (lost := gs.sum) C2 hn8 (x8 := x8) (x9 := x9) (x10 := x10) (x11 := x11) (x12 := x12) (x13 := x13) (x14 := some (.lst (intsW rows.flatten))) (x15 := y)
  obtain ⟨bs, hbs⟩ := ints_of_fm (busy_int (rows := rows)) (List.range' 0 n)
  have bl : bs.length ≤ 8 := by
    have h1 : (List.filterMap (busy rows) (List.range' 0 n)).length ≤ n := by
      have := List.length_filterMap_le (busy rows) (List.range' 0 n)
      rwa [List.length_range'] at this
    rw [hbs, List.length_map] at h1
    omega
  rw [hbs] at r1 bc
  have hloc : (μ' ++ [.lst (intsW rows.flatten)])[μ'.length]? = some (.lst (intsW rows.flatten)) := cat_at
  generalize μ' ++ [.lst (intsW rows.flatten)] = μ2 at *
  have al : f_law_alike A [.lst [.tup (bs.map .int), .loc μ'.length, .int gs.sum], .lst [.tup (bs.map .int), .lst (intsW rows.flatten), .int gs.sum]] μ2 = .ok (.bl true) μ2 := by
    refine alike_lst2 (n := 5) rfl (fun i x y hx hy => ?_) z3
    match i, hx, hy with
    | 0, hx, hy =>
      cases hx; cases hy
      refine alike_tup (n := 4) (fun z hz => ?_) (by rw [List.length_map]; omega)
      obtain ⟨b, _, rfl⟩ := List.mem_map.mp hz
      exact alike_int 3 b
    | 1, hx, hy =>
      cases hx; cases hy
      refine alike_loc (n := 4) hloc (fun z hz => ?_) (by rw [intsW_length]; omega)
      obtain ⟨b, _, rfl⟩ := List.mem_map.mp hz
      exact alike_int 3 b
    | 2, hx, hy =>
      cases hx; cases hy
      exact alike_int 4 _
    | i + 3, hx, hy => simp at hx
  refine (seq_nx (ρ1 := env w0 d kw lk r w R gs.sum x8 x9 x10 x11 x12 x13 (some (.lst [])) x15) (μ1 := μ') (by simp [eVar, eC, eBin, eTest, eTru, eAnd, eOr, eNot, eNeg, eIf, eTup, eLst, eNew, eCall, eFn, eMe, eMk, eFld, eMeL, eMeL0, aNil, aCons, bAnd, bOr, bNot, bYes, sSeq, sNx, sEx, sRet, sRetN, sIf, sAsg, gSet, sPar, sFldM, sFldAdd, sRaise, Out.bind, Out.st, SO.seq, fin, runB, startW, env, z0])).trans ?_
  have f1 : sFor (iSeq (eVar 6)) (gSet 15) (s_law_0 A) (env w0 d kw lk r w R gs.sum x8 x9 x10 x11 x12 x13 (some (.lst [])) x15) μ' = .nx (env w0 d kw lk r w R gs.sum x8 x9 x10 x11 x12 x13 (some (.lst (intsW rows.flatten))) y) μ' := by
    rw [← e]
    have hi : iSeq (eVar 6) (env w0 d kw lk r w R gs.sum x8 x9 x10 x11 x12 x13 (some (.lst [])) x15) μ' = .ok (.cell R) μ' := by
      simp [eVar, eC, eBin, eTest, eTru, eAnd, eOr, eNot, eNeg, eIf, eTup, eLst, eNew, eCall, eFn, eMe, eMk, eFld, eMeL, eMeL0, aNil, aCons, bAnd, bOr, bNot, bYes, sSeq, sNx, sEx, sRet, sRetN, sIf, sAsg, gSet, sPar, sFldM, sFldAdd, sRaise, Out.bind, Out.st, SO.seq, fin, runB, startW, iSeq, env, itOf, asL, C.hr]
    have hit : (Iter.cell R).items μ' = some (rows.map rowW) := by simp only [Iter.items, C.hr]
    unfold sFor
    rw [hi]
    simp only [Out.st, hit]
  refine (seq_nx f1).trans ?_
  have l1 : (eLst (aCons (eMe A.Wires "ready" 1 (f_Wires_ready A) (eVar 5) aNil) (aCons (eMe A.Wires "things" 1 (f_Wires_things A) (eVar 5) aNil) (aCons (eMe A.Wires "lost" 1 (f_Wires_lost A) (eVar 5) aNil) aNil)))) (env w0 d kw lk r w R gs.sum x8 x9 x10 x11 x12 x13 (some (.lst (intsW rows.flatten))) y) μ' = .ok (.lst [.tup (bs.map .int), .loc μ'.length, .int gs.sum]) μ2 := by
    simp [eVar, eC, eBin, eTest, eTru, eAnd, eOr, eNot, eNeg, eIf, eTup, eLst, eNew, eCall, eFn, eMe, eMk, eFld, eMeL, eMeL0, aNil, aCons, bAnd, bOr, bNot, bYes, sSeq, sNx, sEx, sRet, sRetN, sIf, sAsg, gSet, sPar, sFldM, sFldAdd, sRaise, Out.bind, Out.st, SO.seq, fin, runB, startW, env, i1, i2, i3, r1, r2, r3, z3]
  have ct : (eCall cTuple (aCons (eCmp (iRngA (aCons (eCall cLen (aCons (eVar 6) aNil)) aNil)) [11] (gSet 11) (eTest (eBin gNe (eBin gIx (eVar 6) (eVar 11)) (eLst aNil))) (eVar 11)) aNil)) (env w0 d kw lk r w R gs.sum x8 x9 x10 x11 x12 x13 (some (.lst (intsW rows.flatten))) y) μ2 = .ok (.tup (bs.map .int)) μ2 := (call1 bc).trans rfl
  have l2 : (eLst (aCons (eCall cTuple (aCons (eCmp (iRngA (aCons (eCall cLen (aCons (eVar 6) aNil)) aNil)) [11] (gSet 11) (eTest (eBin gNe (eBin gIx (eVar 6) (eVar 11)) (eLst aNil))) (eVar 11)) aNil)) (aCons (eVar 14) (aCons (eVar 7) aNil)))) (env w0 d kw lk r w R gs.sum x8 x9 x10 x11 x12 x13 (some (.lst (intsW rows.flatten))) y) μ2 = .ok (.lst [.tup (bs.map .int), .lst (intsW rows.flatten), .int gs.sum]) μ2 := by
    have three : ∀ (a b c : EM) (u v t : W) (ρ : PD.Env) (μ : Mu), a ρ μ = .ok u μ → b ρ μ = .ok v μ → c ρ μ = .ok t μ → (eLst (aCons a (aCons b (aCons c aNil)))) ρ μ = .ok (.lst [u, v, t]) μ := fun a b c u v t ρ μ h1 h2 h3 => by
      simp [eVar, eC, eBin, eTest, eTru, eAnd, eOr, eNot, eNeg, eIf, eTup, eLst, eNew, eCall, eFn, eMe, eMk, eFld, eMeL, eMeL0, aNil, aCons, bAnd, bOr, bNot, bYes, sSeq, sNx, sEx, sRet, sRetN, sIf, sAsg, gSet, sPar, sFldM, sFldAdd, sRaise, Out.bind, Out.st, SO.seq, fin, runB, startW, h1, h2, h3, z3]
    exact three _ _ _ _ _ _ _ _ ct rfl rfl
  have tt : (bNot (eTru (eFn 2 (f_law_alike A) (aCons (eLst (aCons (eMe A.Wires "ready" 1 (f_Wires_ready A) (eVar 5) aNil) (aCons (eMe A.Wires "things" 1 (f_Wires_things A) (eVar 5) aNil) (aCons (eMe A.Wires "lost" 1 (f_Wires_lost A) (eVar 5) aNil) aNil)))) (aCons (eLst (aCons (eCall cTuple (aCons (eCmp (iRngA (aCons (eCall cLen (aCons (eVar 6) aNil)) aNil)) [11] (gSet 11) (eTest (eBin gNe (eBin gIx (eVar 6) (eVar 11)) (eLst aNil))) (eVar 11)) aNil)) (aCons (eVar 14) (aCons (eVar 7) aNil)))) aNil))))) (env w0 d kw lk r w R gs.sum x8 x9 x10 x11 x12 x13 (some (.lst (intsW rows.flatten))) y) μ' = .ok false μ2 := by
    have two : ∀ (a b : EM) (u v : W) (ρ : PD.Env) (μa μb μc : Mu), a ρ μa = .ok u μb → b ρ μb = .ok v μc → f_law_alike A [u, v] μc = .ok (.bl true) μc → (bNot (eTru (eFn 2 (f_law_alike A) (aCons a (aCons b aNil))))) ρ μa = .ok false μc := fun a b u v ρ μa μb μc h1 h2 h3 => by
      simp [eVar, eC, eBin, eTest, eTru, eAnd, eOr, eNot, eNeg, eIf, eTup, eLst, eNew, eCall, eFn, eMe, eMk, eFld, eMeL, eMeL0, aNil, aCons, bAnd, bOr, bNot, bYes, sSeq, sNx, sEx, sRet, sRetN, sIf, sAsg, gSet, sPar, sFldM, sFldAdd, sRaise, Out.bind, Out.st, SO.seq, fin, runB, startW, h1, h2, h3, truW]
    exact two _ _ _ _ _ _ _ _ l1 l2 al
  refine (if_not μ2 tt).trans rfl
/-- what holds ahead of a step -/
def SInv (A : Adr) (w0 : W) (d : Nat) (kw : W) (lk : List W) (r : W) (w R n : Nat) (j : Nat) (ρ : PD.Env) (μ : Mu) : Prop := ∃ (dl : List Int) (rows : LL) (gs : List Int) (x8 x9 x10 x11 x12 x13 x14 x15 : Option W),
  ρ = env w0 d kw lk r w R gs.sum x8 x9 x10 x11 x12 x13 x14 x15 ∧ Cl A w d R n kw lk r dl rows gs μ ∧ ∀ l ∈ rows, l.length ≤ j
theorem first_part {K : PySem.W.Frag} {mg : Str → Option Value} (T : Txt K mg A) {L : LL} (C : Cl A w d R L.length kw (L.map tupW) r dl rows gs μ) (hL8 : L.length ≤ 8) (hr : isRoom r) {j : Nat} (hj : j < 100) (hrows : ∀ l ∈ rows, l.length ≤ j) {z : Int} (x8 x9 x11 x12 x13 x14 x15 : Option W) :
    ∃ (dl' : List Int) (rows' : LL) (gs' : List Int) (μ' : Mu) (x11' x12' x13' : Option W), (sIf (eTest (eBin gNe (eVar 3) (eTup aNil))) (sSeq (sAsg (eFn 2 (f_law_take A) (aCons (eVar 1) (aCons (eCall cLen (aCons (eVar 3) aNil)) aNil))) (gSet 11))
 (sIf (eTest (eBin gEq (eFn 2 (f_law_take A) (aCons (eVar 1) (aCons (eC (.int 2)) aNil))) (eC (.int 0)))) (sSeq (sAsg (eOr (eBin gIsN (eVar 4) (eC .non)) (eBin gLt (eCall cLen (aCons (eBin gIx (eVar 6) (eVar 11)) aNil)) (eVar 4))) (gSet 12))
 (sSeq (sIf (bNot (eTru (eFn 2 (f_law_says A) (aCons (eMe A.Wires "put" 3 (f_Wires_put A) (eVar 5) (aCons (eVar 11) (aCons (eVar 10) aNil))) (aCons (eVar 12) aNil))))) (sRet (eC (.bl false))) sNx)
 (sAsg (eTup (aCons (eBin gAdd (eBin gIx (eVar 6) (eVar 11)) (eBin gMul (eLst (aCons (eVar 10) aNil)) (eCall cInt (aCons (eVar 12) aNil)))) (aCons (eBin gAdd (eVar 7) (eCall cInt (aCons (eNot (eVar 12)) aNil))) aNil))) (gTupM 2 (gsCons (gSubM (eVar 6) (eVar 11)) (gsCons (gSet 7) gsNil)))))) (sSeq (sAsg (eFn 3 (f_law_told A) (aCons (eVar 5) (aCons (eC (.int 0)) (aCons (eVar 11) aNil)))) (gSet 13))
 (sSeq (sIf (bNot (eTru (eFn 2 (f_law_alike A) (aCons (eVar 13) (aCons (eIf (eTest (eBin gNe (eBin gIx (eVar 6) (eVar 11)) (eLst aNil))) (eBin gIx (eBin gIx (eVar 6) (eVar 11)) (eC (.int 0))) (eC (.str "none"))) aNil))))) (sRet (eC (.bl false))) sNx)
 (sAsg (eCut (eBin gIx (eVar 6) (eVar 11)) (oSome (eC (.int 1))) oNone) (gSubM (eVar 6) (eVar 11))))))) sNx)
      (env w0 d kw (L.map tupW) r w R gs.sum x8 x9 (some (.int z)) x11 x12 x13 x14 x15) μ = .nx (env w0 d kw (L.map tupW) r w R gs'.sum x8 x9 (some (.int z)) x11' x12' x13' x14 x15) μ' ∧
      Cl A w d R L.length kw (L.map tupW) r dl' rows' gs' μ' ∧ ∀ l ∈ rows', l.length ≤ j + 1 := by
  have z0 : 0 ≤ sizeLine := Nat.zero_le _
  have gn : gNe (.tup (L.map tupW)) (.tup []) μ = .ok (.bl (!L.isEmpty)) μ := gNe_tups_nil
  by_cases hL : L = []
  · subst hL
    exact ⟨dl, rows, gs, μ, x11, x12, x13, (if_not μ (by simp [eVar, eC, eBin, eTest, eTru, eAnd, eOr, eNot, eNeg, eIf, eTup, eLst, eNew, eCall, eFn, eMe, eMk, eFld, eMeL, eMeL0, aNil, aCons, bAnd, bOr, bNot, bYes, sSeq, sNx, sEx, sRet, sRetN, sIf, sAsg, gSet, sPar, sFldM, sFldAdd, sRaise, Out.bind, Out.st, SO.seq, fin, runB, startW, env, z0] at gn ⊢; rw [gn])).trans rfl, C, fun l hl => by have := hrows l hl; omega⟩
  · have hpos : 0 < L.length := List.length_pos_iff.mpr hL
    have hne : L.isEmpty = false := by cases L with
      | nil => exact absurd rfl hL
      | cons _ _ => rfl
    rw [hne] at gn
    obtain ⟨k0, dl1, μ1, e1, k1, k2, C1⟩ := C.take (b := (L.length : Int)) (by omega)
    obtain ⟨k, rfl⟩ : ∃ k : Nat, k0 = k := ⟨k0.toNat, by omega⟩
    have hk : k < L.length := by omega
    obtain ⟨y, dl2, μ2, e2, y1, y2, C2⟩ := C1.take (b := 2) (by decide)
    have yes : (eTest (eBin gNe (eVar 3) (eTup aNil))) (env w0 d kw (L.map tupW) r w R gs.sum x8 x9 (some (.int z)) x11 x12 x13 x14 x15) μ = .ok true μ := by
      simp [eVar, eC, eBin, eTest, eTru, eAnd, eOr, eNot, eNeg, eIf, eTup, eLst, eNew, eCall, eFn, eMe, eMk, eFld, eMeL, eMeL0, aNil, aCons, bAnd, bOr, bNot, bYes, sSeq, sNx, sEx, sRet, sRetN, sIf, sAsg, gSet, sPar, sFldM, sFldAdd, sRaise, Out.bind, Out.st, SO.seq, fin, runB, startW, env, z0, gn]
    have s1 : sAsg (eFn 2 (f_law_take A) (aCons (eVar 1) (aCons (eCall cLen (aCons (eVar 3) aNil)) aNil))) (gSet 11) (env w0 d kw (L.map tupW) r w R gs.sum x8 x9 (some (.int z)) x11 x12 x13 x14 x15) μ = .nx (env w0 d kw (L.map tupW) r w R gs.sum x8 x9 (some (.int z)) (some (.int (k : Nat))) x12 x13 x14 x15) μ1 := by
      refine (asg_set (w := .int (k : Nat)) (μ1 := μ1) ?_).trans rfl
      simp [eVar, eC, eBin, eTest, eTru, eAnd, eOr, eNot, eNeg, eIf, eTup, eLst, eNew, eCall, eFn, eMe, eMk, eFld, eMeL, eMeL0, aNil, aCons, bAnd, bOr, bNot, bYes, sSeq, sNx, sEx, sRet, sRetN, sIf, sAsg, gSet, sPar, sFldM, sFldAdd, sRaise, Out.bind, Out.st, SO.seq, fin, runB, startW, env, cLen_tup, e1]
    by_cases hy : y = 0
    · obtain ⟨rows', gs', μ', x12', e3, C3, h3⟩ := put_branch (w0 := w0) C2 hr hk hj hrows (z := z) x8 x9 x12 x13 x14 x15
      have t2 : (eTest (eBin gEq (eFn 2 (f_law_take A) (aCons (eVar 1) (aCons (eC (.int 2)) aNil))) (eC (.int 0)))) (env w0 d kw (L.map tupW) r w R gs.sum x8 x9 (some (.int z)) (some (.int (k : Nat))) x12 x13 x14 x15) μ1 = .ok true μ2 := by
        simp [eVar, eC, eBin, eTest, eTru, eAnd, eOr, eNot, eNeg, eIf, eTup, eLst, eNew, eCall, eFn, eMe, eMk, eFld, eMeL, eMeL0, aNil, aCons, bAnd, bOr, bNot, bYes, sSeq, sNx, sEx, sRet, sRetN, sIf, sAsg, gSet, sPar, sFldM, sFldAdd, sRaise, Out.bind, Out.st, SO.seq, fin, runB, startW, env, e2, gEq_int, hy]
      exact ⟨dl2, rows', gs', μ', _, x12', x13, (if_yes μ yes).trans ((seq_nx s1).trans ((if_yes μ2 t2).trans e3)), C3, h3⟩
    · obtain ⟨rows', μ', x13', e3, C3, h3⟩ := take_branch (w0 := w0) (lost := gs.sum) T C2 hk hj hrows x8 x9 (some (.int z)) x12 x13 x14 x15
      have t2 : (eTest (eBin gEq (eFn 2 (f_law_take A) (aCons (eVar 1) (aCons (eC (.int 2)) aNil))) (eC (.int 0)))) (env w0 d kw (L.map tupW) r w R gs.sum x8 x9 (some (.int z)) (some (.int (k : Nat))) x12 x13 x14 x15) μ1 = .ok false μ2 := by
        simp [eVar, eC, eBin, eTest, eTru, eAnd, eOr, eNot, eNeg, eIf, eTup, eLst, eNew, eCall, eFn, eMe, eMk, eFld, eMeL, eMeL0, aNil, aCons, bAnd, bOr, bNot, bYes, sSeq, sNx, sEx, sRet, sRetN, sIf, sAsg, gSet, sPar, sFldM, sFldAdd, sRaise, Out.bind, Out.st, SO.seq, fin, runB, startW, env, e2, gEq_int, hy]
      exact ⟨dl2, rows', gs, μ', _, x12, x13', (if_yes μ yes).trans ((seq_nx s1).trans ((if_not μ2 t2).trans e3)), C3, h3⟩
theorem step_ok {K : PySem.W.Frag} {mg : Str → Option Value} (T : Txt K mg A) {L : LL} (hL8 : L.length ≤ 8) (hr : isRoom r) {j : Nat} (hj : j < 100) (z : Int) {ρ : PD.Env} (h : SInv A w0 d kw (L.map tupW) r w R L.length j ρ μ) :
    ∃ ρ' μ', s_law_1 A (ρ.set 10 (some (.int z))) μ = .nx ρ' μ' ∧ SInv A w0 d kw (L.map tupW) r w R L.length (j + 1) ρ' μ' := by
  obtain ⟨dl, rows, gs, x8, x9, x10, x11, x12, x13, x14, x15, rfl, C, hrows⟩ := h
  obtain ⟨dl', rows', gs', μ', x11', x12', x13', e, C', h'⟩ := first_part (w0 := w0) T C hL8 hr hj hrows (z := z) x8 x9 x11 x12 x13 x14 x15
  obtain ⟨x14', x15', e2⟩ := end_check (w0 := w0) C' hL8 (m := j + 1) (by omega) h' x8 x9 (some (.int z)) x11' x12' x13' x14 x15
  refine ⟨_, _, ?_, dl', rows', gs', x8, x9, some (.int z), x11', x12', x13', x14', x15', rfl, C'.app [.lst (intsW rows'.flatten)], h'⟩
  unfold s_law_1
  exact (seq_nx e).trans e2
end
end
end K44
namespace K44
open PySem PySem.Spec PyProof.Rows L2 PD
section
variable {A : Adr} {μ : Mu}
theorem room_of {z : Int} (h0 : 0 ≤ z) (h3 : z < 3) : ∃ r, gIx (.lst [.non, .int 2, .int 0]) (.int z) μ = .ok r μ ∧ isRoom r := by
  have : z = 0 ∨ z = 1 ∨ z = 2 := by omega
  rcases this with rfl | rfl | rfl
  · exact ⟨.non, rfl, .inl rfl⟩
  · exact ⟨.int 2, rfl, .inr ⟨2, rfl, by decide, by decide⟩⟩
  · exact ⟨.int 0, rfl, .inr ⟨0, rfl, by decide, by decide⟩⟩
/-- the store with the wires and the rows -/
def born (A : Adr) (kw : W) (lk : List W) (r : W) (μ : Mu) : Mu := (μ ++ .ins A.Wires (wf kw (.tup lk) (locs (μ.length + 1) lk.length)) :: qcells A r (μ.length + 1) lk.length) ++ [.lst ((List.replicate lk.length []).map rowW)]
theorem zeros (n : Nat) : (List.replicate n (0 : Int)).sum = 0 := by
  induction n with
  | zero => rfl
  | succ n ih => rw [List.replicate_succ, List.sum_cons, ih]; rfl
theorem born_cl {d : Nat} {dl : List Int} {kw r : W} {lk : List W} (h : μ[d]? = some (.lst (intsW dl))) : Cl A μ.length d (μ.length + 1 + 2 * lk.length) lk.length kw lk r dl (List.replicate lk.length []) (List.replicate lk.length 0) (born A kw lk r μ) := by
  have hd := (List.getElem?_eq_some_iff.mp h).1
  have ql := qcells_len (A := A) (r := r) (n := lk.length) (b := μ.length + 1)
  have mid : ∀ (i : Nat) (c : Cell), (qcells A r (μ.length + 1) lk.length)[i]? = some c → (born A kw lk r μ)[μ.length + 1 + i]? = some c := fun i c hc => by
    have hi := (List.getElem?_eq_some_iff.mp hc).1
    unfold born
    rw [List.getElem?_append_left (by rw [List.length_append, List.length_cons]; omega), List.getElem?_append_right (by omega), show μ.length + 1 + i - μ.length = i + 1 by omega, List.getElem?_cons_succ]
    exact hc
  refine ⟨hd, rfl, rfl, by simp, by simp, ?_, ?_, ?_, fun i g hg => ?_, fun i l hl => ?_⟩
  · unfold born
    rw [List.append_assoc, List.getElem?_append_left hd]; exact h
  · unfold born
    rw [List.getElem?_append_left (by rw [List.length_append, List.length_cons]; omega), List.getElem?_append_right (Nat.le_refl _), Nat.sub_self]
    rfl
  · unfold born
    rw [List.getElem?_append_right (by rw [List.length_append, List.length_cons, ql]; omega), List.length_append, List.length_cons, ql, show μ.length + 1 + 2 * lk.length - (μ.length + (2 * lk.length + 1)) = 0 by omega]
    rfl
  · have hi : i < lk.length := by
      have := (List.getElem?_eq_some_iff.mp hg).1
      rwa [List.length_replicate] at this
    rw [List.getElem?_replicate, if_pos hi] at hg
    cases hg
    exact mid _ _ (qcells_q hi)
  · have hi : i < lk.length := by
      have := (List.getElem?_eq_some_iff.mp hl).1
      rwa [List.length_replicate] at this
    rw [List.getElem?_replicate, if_pos hi] at hl
    cases hl
    exact mid _ _ (qcells_t hi)
theorem born_eval {w0 kw r : W} {d : Nat} {lk : List W} (hr : isRoom r) (hl : lk.length ≤ 8) {x5 x6 x7 x8 x9 x10 x11 x12 x13 x14 x15 : Option W} :
    (sAsg (eTup (aCons (eMk A.Wires 4 (f_Wires_init A) (aCons (eVar 2) (aCons (eVar 3) (aCons (eVar 4) aNil)))) (aCons (eCmpM (iSeq (eVar 3)) [16] (gSet 16) bYes (eLst aNil)) (aCons (eC (.int 0)) aNil)))) (gTupM 3 (gsCons (gSet 5) (gsCons (gSet 6) (gsCons (gSet 7) gsNil)))))
      [some w0, some (.loc d), some kw, some (.tup lk), some r, x5, x6, x7, x8, x9, x10, x11, x12, x13, x14, x15, none, none, none] μ = .nx (env w0 d kw lk r μ.length (μ.length + 1 + 2 * lk.length) 0 x8 x9 x10 x11 x12 x13 x14 x15) (born A kw lk r μ) := by
  have sl := sizeLine_val
  have z0 : 0 ≤ sizeLine := Nat.zero_le _
  have z3 : 3 ≤ sizeLine := by omega
  have ini := initW_ok (A := A) (μ := μ) (k := kw) (lk := lk) hr (by omega)
  have mk : (eMk A.Wires 4 (f_Wires_init A) (aCons (eVar 2) (aCons (eVar 3) (aCons (eVar 4) aNil)))) [some w0, some (.loc d), some kw, some (.tup lk), some r, x5, x6, x7, x8, x9, x10, x11, x12, x13, x14, x15, none, none, none] μ = .ok (.loc μ.length) (μ ++ .ins A.Wires (wf kw (.tup lk) (locs (μ.length + 1) lk.length)) :: qcells A r (μ.length + 1) lk.length) := by
    simp [eVar, eC, eBin, eTest, eTru, eAnd, eOr, eNot, eNeg, eIf, eTup, eLst, eNew, eCall, eFn, eMe, eMk, eFld, eMeL, eMeL0, aNil, aCons, bAnd, bOr, bNot, bYes, sSeq, sNx, sEx, sRet, sRetN, sIf, sAsg, gSet, sPar, sFldM, sFldAdd, sRaise, Out.bind, Out.st, SO.seq, fin, runB, startW, ini]
  have ql := qcells_len (A := A) (r := r) (n := lk.length) (b := μ.length + 1)
  have hR : (μ ++ .ins A.Wires (wf kw (.tup lk) (locs (μ.length + 1) lk.length)) :: qcells A r (μ.length + 1) lk.length).length = μ.length + 1 + 2 * lk.length := by
    rw [List.length_append, List.length_cons, ql]; omega
  unfold born
  generalize hμ1 : (μ ++ .ins A.Wires (wf kw (.tup lk) (locs (μ.length + 1) lk.length)) :: qcells A r (μ.length + 1) lk.length) = μ1 at *
  have cm : (eCmpM (iSeq (eVar 3)) [16] (gSet 16) bYes (eLst aNil)) [some w0, some (.loc d), some kw, some (.tup lk), some r, x5, x6, x7, x8, x9, x10, x11, x12, x13, x14, x15, none, none, none] μ1 = .ok (.loc (μ.length + 1 + 2 * lk.length)) (μ1 ++ [.lst ((List.replicate lk.length []).map rowW)]) := by
    have h := cmpS_ix (μ := μ1) (g := gSet 16) (tt := bYes) (me := eLst aNil) (ρ := [some w0, some (.loc d), some kw, some (.tup lk), some r, x5, x6, x7, x8, x9, x10, x11, x12, x13, x14, x15, none, none, none]) (f := fun _ => some (.lst [])) lk 0 [] (fun i x hx => ⟨_, rfl, .inr ⟨_, rfl, rfl, by simp [eVar, eC, eBin, eTest, eTru, eAnd, eOr, eNot, eNeg, eIf, eTup, eLst, eNew, eCall, eFn, eMe, eMk, eFld, eMeL, eMeL0, aNil, aCons, bAnd, bOr, bNot, bYes, sSeq, sNx, sEx, sRet, sRetN, sIf, sAsg, gSet, sPar, sFldM, sFldAdd, sRaise, Out.bind, Out.st, SO.seq, fin, runB, startW, z0]⟩⟩) (by rw [List.length_nil]; omega)
    have h2 : (List.range' 0 lk.length).filterMap (fun _ => some (W.lst [])) = (List.replicate lk.length []).map rowW := by
      have := range_all (l := List.replicate lk.length ([] : List Int)) (f := fun _ => some (W.lst [])) (c := rowW) fun i x hx => by
        rw [List.getElem?_replicate] at hx
        split at hx
        · cases hx; rfl
        · cases hx
      rwa [List.length_replicate] at this
    rw [List.nil_append, h2] at h
    have e : eCmp (iSeq (eVar 3)) [16] (gSet 16) bYes (eLst aNil) [some w0, some (.loc d), some kw, some (.tup lk), some r, x5, x6, x7, x8, x9, x10, x11, x12, x13, x14, x15, none, none, none] μ1 = .ok (.lst ((List.replicate lk.length []).map rowW)) μ1 := h
    unfold eCmpM
    rw [e]
    show Out.ok (W.loc μ1.length) (μ1 ++ [.lst ((List.replicate lk.length []).map rowW)]) = _
    rw [hR]
  have three : ∀ (a b : EM) (u v : W) (ρ : PD.Env) (μa μb μc : Mu), a ρ μa = .ok u μb → b ρ μb = .ok v μc → (eTup (aCons a (aCons b (aCons (eC (.int 0)) aNil)))) ρ μa = .ok (.tup [u, v, .int 0]) μc := fun a b u v ρ μa μb μc h1 h2 => by
    simp [eVar, eC, eBin, eTest, eTru, eAnd, eOr, eNot, eNeg, eIf, eTup, eLst, eNew, eCall, eFn, eMe, eMk, eFld, eMeL, eMeL0, aNil, aCons, bAnd, bOr, bNot, bYes, sSeq, sNx, sEx, sRet, sRetN, sIf, sAsg, gSet, sPar, sFldM, sFldAdd, sRaise, Out.bind, Out.st, SO.seq, fin, runB, startW, h1, h2, z3]
  unfold sAsg
  rw [three _ _ _ _ _ _ _ _ mk cm]
  rfl
/-- numbers that are none, told -/
theorem bad_comp {K : PySem.W.Frag} {mg : Str → Option Value} (T : Txt K mg A) {w d R : Nat} {w0 kw r : W} {lk : List W} {dl : List Int} {rows : LL} {gs : List Int} {lost : Int} (C : Cl A w d R lk.length kw lk r dl rows gs μ) {x8 x9 x10 x11 x12 x13 x14 x15 : Option W} :
    (eCmp (iSeq (eLst (aCons (eNeg (eC (.int 1))) (aCons (eCall cLen (aCons (eVar 3) aNil)) (aCons (eC .non) (aCons (eC (.bl true)) (aCons (eC (.str "0")) aNil))))))) [17] (gSet 17) (eTest (eBin gNe (eCmp (iRngA (aCons (eC (.int 2)) aNil)) [18] (gSet 18) bYes (eFn 3 (f_law_told A) (aCons (eVar 5) (aCons (eVar 18) (aCons (eVar 17) aNil))))) (eBin gMul (eLst (aCons (eC (.str "none")) aNil)) (eC (.int 2))))) (eVar 17))
      (env w0 d kw lk r w R lost x8 x9 x10 x11 x12 x13 x14 x15) μ = .ok (.lst []) μ := by
  have sl := sizeLine_val
  have z1 : 1 ≤ sizeLine := by omega
  have z2 : 2 ≤ sizeLine := by omega
  have z5 : 5 ≤ sizeLine := by omega
  have hi : iSeq (eLst (aCons (eNeg (eC (.int 1))) (aCons (eCall cLen (aCons (eVar 3) aNil)) (aCons (eC .non) (aCons (eC (.bl true)) (aCons (eC (.str "0")) aNil)))))) (env w0 d kw lk r w R lost x8 x9 x10 x11 x12 x13 x14 x15) μ = .ok (.seq [.int (-1), .int (lk.length : Nat), .non, .bl true, .str "0"]) μ := by
    simp [eVar, eC, eBin, eTest, eTru, eAnd, eOr, eNot, eNeg, eIf, eTup, eLst, eNew, eCall, eFn, eMe, eMk, eFld, eMeL, eMeL0, aNil, aCons, bAnd, bOr, bNot, bYes, sSeq, sNx, sEx, sRet, sRetN, sIf, sAsg, gSet, sPar, sFldM, sFldAdd, sRaise, Out.bind, Out.st, SO.seq, fin, runB, startW, iSeq, env, cLen_tup, z5, itOf, asQ, asL]
  unfold eCmp
  rw [hi]
  refine cmpS_none fun x hx => ?_
  have hb : badN (A := A) lk.length x := by
    simp only [List.mem_cons, List.not_mem_nil, or_false] at hx
    rcases hx with rfl | rfl | rfl | rfl | rfl
    · exact bad_neg
    · exact bad_n
    · exact bad_non
    · exact bad_bl
    · exact bad_str
  refine ⟨[some w0, some (.loc d), some kw, some (.tup lk), some r, some (.loc w), some (.loc R), some (.int lost), x8, x9, x10, x11, x12, x13, x14, x15, none, some x, none], rfl, ?_⟩
  have hr : iRngA (aCons (eC (.int 2)) aNil) [some w0, some (.loc d), some kw, some (.tup lk), some r, some (.loc w), some (.loc R), some (.int lost), x8, x9, x10, x11, x12, x13, x14, x15, none, some x, none] μ = .ok (.seq (irange 0 2)) μ := rangeA (n := 2) (by decide) rfl
  have inner : eCmp (iRngA (aCons (eC (.int 2)) aNil)) [18] (gSet 18) bYes (eFn 3 (f_law_told A) (aCons (eVar 5) (aCons (eVar 18) (aCons (eVar 17) aNil)))) [some w0, some (.loc d), some kw, some (.tup lk), some r, some (.loc w), some (.loc R), some (.int lost), x8, x9, x10, x11, x12, x13, x14, x15, none, some x, none] μ = .ok (.lst [.str "none", .str "none"]) μ := by
    have h := cmpS_ix (μ := μ) (g := gSet 18) (tt := bYes) (me := eFn 3 (f_law_told A) (aCons (eVar 5) (aCons (eVar 18) (aCons (eVar 17) aNil)))) (ρ := [some w0, some (.loc d), some kw, some (.tup lk), some r, some (.loc w), some (.loc R), some (.int lost), x8, x9, x10, x11, x12, x13, x14, x15, none, some x, none]) (f := fun _ => some (.str "none")) (irange 0 2) 0 [] (fun i y hy => by
      obtain ⟨hi, rfl⟩ := irange_get hy
      rw [Int.zero_add]
      refine ⟨_, rfl, .inr ⟨_, rfl, rfl, ?_⟩⟩
      have h01 : ((i : Nat) : Int) = 0 ∨ ((i : Nat) : Int) = 1 := by omega
      simp [eVar, eC, eBin, eTest, eTru, eAnd, eOr, eNot, eNeg, eIf, eTup, eLst, eNew, eCall, eFn, eMe, eMk, eFld, eMeL, eMeL0, aNil, aCons, bAnd, bOr, bNot, bYes, sSeq, sNx, sEx, sRet, sRetN, sIf, sAsg, gSet, sPar, sFldM, sFldAdd, sRaise, Out.bind, Out.st, SO.seq, fin, runB, startW, told_bad T C.hw hb h01]) (by rw [irange_len, List.length_nil]; omega)
    unfold eCmp
    rw [hr]
    exact h
  have mul : gMul (.lst [.str "none"]) (.int 2) μ = .ok (.lst [.str "none", .str "none"]) μ := by
    simp [eVar, eC, eBin, eTest, eTru, eAnd, eOr, eNot, eNeg, eIf, eTup, eLst, eNew, eCall, eFn, eMe, eMk, eFld, eMeL, eMeL0, aNil, aCons, bAnd, bOr, bNot, bYes, sSeq, sNx, sEx, sRet, sRetN, sIf, sAsg, gSet, sPar, sFldM, sFldAdd, sRaise, Out.bind, Out.st, SO.seq, fin, runB, startW, gMul, orG, gMulI, gIC, Out.els, gRep, asL, z2, List.replicate]
  have ne : gNe (.lst [.str "none", .str "none"]) (.lst [.str "none", .str "none"]) μ = .ok (.bl false) μ := gNe_same (.lst (.cons (.str c_none) (.cons (.str c_none) (.nil (n := 0)))))
  have two : ∀ (a b : EM) (u v : W) (ρ : PD.Env), a ρ μ = .ok u μ → b ρ μ = .ok v μ → gNe u v μ = .ok (.bl false) μ → (eTest (eBin gNe a b)) ρ μ = .ok false μ := fun a b u v ρ h1 h2 h3 => by
    simp [eVar, eC, eBin, eTest, eTru, eAnd, eOr, eNot, eNeg, eIf, eTup, eLst, eNew, eCall, eFn, eMe, eMk, eFld, eMeL, eMeL0, aNil, aCons, bAnd, bOr, bNot, bYes, sSeq, sNx, sEx, sRet, sRetN, sIf, sAsg, gSet, sPar, sFldM, sFldAdd, sRaise, Out.bind, Out.st, SO.seq, fin, runB, startW, h1, h2, h3]
  exact two _ _ _ _ _ inner (by simp [eVar, eC, eBin, eTest, eTru, eAnd, eOr, eNot, eNeg, eIf, eTup, eLst, eNew, eCall, eFn, eMe, eMk, eFld, eMeL, eMeL0, aNil, aCons, bAnd, bOr, bNot, bYes, sSeq, sNx, sEx, sRet, sRetN, sIf, sAsg, gSet, sPar, sFldM, sFldAdd, sRaise, Out.bind, Out.st, SO.seq, fin, runB, startW, z1, mul]) ne
theorem law_true {K : PySem.W.Frag} {mg : Str → Option Value} (T : Txt K mg A) (ns : List Int) (hn : ns.length ≤ 63) : ∃ μ, f_law A [.scr (ns.map .int)] [] = .ok (.bl true) μ := by
  have sl := sizeLine_val
  have z3 : 3 ≤ sizeLine := by omega
  have z0 : 0 ≤ sizeLine := Nat.zero_le _
  obtain ⟨μ0, d, l0, e0, hd0⟩ := draws_ok (A := A) ns hn
  obtain ⟨a, b, μ1, l1, e1, a1, a2, b1, b3, hd1⟩ := kind_ok (A := A) hd0
  obtain ⟨L, μ2, l2, e2, hL, hd2⟩ := links_ok (A := A) hd1 (a := a) b1 b3
  obtain ⟨z, l3, μ3, e3, h0, h3, _, hd3, _⟩ := take_ok2 (A := A) hd2 (show (0 : Int) < 3 by decide)
  obtain ⟨r, e4, hr⟩ := room_of (μ := μ3) h0 h3
  have hLm : (L.map tupW).length = L.length := List.length_map ..
  have C := born_cl (A := A) (kw := kW a b) (r := r) (lk := L.map tupW) hd3
  have be := born_eval (A := A) (μ := μ3) (w0 := .scr (ns.map .int)) (kw := kW a b) (d := d) (lk := L.map tupW) hr (by rw [hLm]; exact hL) (x5 := none) (x6 := none) (x7 := none) (x8 := none) (x9 := none) (x10 := none) (x11 := none) (x12 := none) (x13 := none) (x14 := none) (x15 := none)
  rw [hLm] at C be
  generalize born A (kW a b) (L.map tupW) r μ3 = μ4 at C be
  generalize hw : μ3.length = w at C be
  generalize hR : w + 1 + 2 * L.length = R at C be
  obtain ⟨P, e5, hP⟩ := packets_ok (A := A) (μ := μ4) a1 a2 b1 b3
  -- the packets
  obtain ⟨ρ5, μ5, e6, rfl, y8, y9, rfl⟩ := forS_inv (g := gSet 8) (body := s_law_2 A) (fun _ ρ μ => μ = μ4 ∧ ∃ x8 x9, ρ = env (.scr (ns.map .int)) d (kW a b) (L.map tupW) r w R 0 x8 x9 none none none none none none) (P.map tupW) 0 _ μ4 ⟨rfl, none, none, rfl⟩ fun j x ρ μ _ hx hI => by
    obtain ⟨rfl, x8, x9, rfl⟩ := hI
    rw [Nat.sub_zero, List.getElem?_map] at hx
    obtain ⟨k, hk, rfl⟩ := Option.map_eq_some_iff.mp hx
    obtain ⟨x9', e⟩ := packet_ok (A := A) (w0 := .scr (ns.map .int)) (lost := 0) C hL (hP k (List.mem_of_getElem? hk)) x9 none none none none none none
    exact ⟨_, _, _, _, rfl, e, rfl, _, _, rfl⟩
  have f5 : sFor (iSeq (eFn 1 (f_law_packets A) (aCons (eVar 2) aNil))) (gSet 8) (s_law_2 A) (env (.scr (ns.map .int)) d (kW a b) (L.map tupW) r w R 0 none none none none none none none none) μ5 = .nx (env (.scr (ns.map .int)) d (kW a b) (L.map tupW) r w R 0 y8 y9 none none none none none none) μ5 := by
    rw [← e6]
    have hi : iSeq (eFn 1 (f_law_packets A) (aCons (eVar 2) aNil)) (env (.scr (ns.map .int)) d (kW a b) (L.map tupW) r w R 0 none none none none none none none none) μ5 = .ok (.seq (P.map tupW)) μ5 := by
      simp [eVar, eC, eBin, eTest, eTru, eAnd, eOr, eNot, eNeg, eIf, eTup, eLst, eNew, eCall, eFn, eMe, eMk, eFld, eMeL, eMeL0, aNil, aCons, bAnd, bOr, bNot, bYes, sSeq, sNx, sEx, sRet, sRetN, sIf, sAsg, gSet, sPar, sFldM, sFldAdd, sRaise, Out.bind, Out.st, SO.seq, fin, runB, startW, iSeq, env, e5, itOf, asQ, asL]
    unfold sFor
    rw [hi]
    rfl
  -- the steps
  have S0 : SInv A (.scr (ns.map .int)) d (kW a b) (L.map tupW) r w R L.length 0 (env (.scr (ns.map .int)) d (kW a b) (L.map tupW) r w R 0 y8 y9 none none none none none none) μ5 := by
    refine ⟨l3, _, _, y8, y9, none, none, none, none, none, none, ?_, C, fun l hl => ?_⟩
    · rw [zeros]
    · rw [(List.mem_replicate.mp hl).2]; exact Nat.le_refl _
  obtain ⟨ρ6, μ6, e7, dl, rows, gs, u8, u9, u10, u11, u12, u13, u14, u15, rfl, C6, _⟩ := forS_inv (g := gSet 10) (body := s_law_1 A) (SInv A (.scr (ns.map .int)) d (kW a b) (L.map tupW) r w R L.length) (irange 0 30) 0 _ μ5 S0 fun j x ρ μ _ hx hI => by
    rw [Nat.sub_zero] at hx
    obtain ⟨hj, rfl⟩ := irange_get hx
    obtain ⟨ρ', μ', e, hI'⟩ := step_ok (A := A) T hL hr (by omega) (0 + (j : Nat)) hI
    exact ⟨_, _, _, _, rfl, e, hI'⟩
  have f6 : sFor (iRngA (aCons (eC (.int 30)) aNil)) (gSet 10) (s_law_1 A) (env (.scr (ns.map .int)) d (kW a b) (L.map tupW) r w R 0 y8 y9 none none none none none none) μ5 = .nx (env (.scr (ns.map .int)) d (kW a b) (L.map tupW) r w R gs.sum u8 u9 u10 u11 u12 u13 u14 u15) μ6 := by
    rw [← e7]
    have hi : iRngA (aCons (eC (.int 30)) aNil) (env (.scr (ns.map .int)) d (kW a b) (L.map tupW) r w R 0 y8 y9 none none none none none none) μ5 = .ok (.seq (irange 0 30)) μ5 := rangeA (n := 30) (by decide) rfl
    unfold sFor
    rw [hi]
    rfl
  have bc := bad_comp (A := A) (w0 := .scr (ns.map .int)) (lost := gs.sum) T (lk := L.map tupW) (by rw [hLm]; exact C6) (x8 := u8) (x9 := u9) (x10 := u10) (x11 := u11) (x12 := u12) (x13 := u13) (x14 := u14) (x15 := u15)
  have key : s_law A [some (.scr (ns.map .int)), none, none, none, none, none, none, none, none, none, none, none, none, none, none, none, none, none, none] [] = .rt (.bl true) μ6 := by
    unfold s_law
    refine (seq_nx (ρ1 := [some (.scr (ns.map .int)), some (.loc d), none, none, none, none, none, none, none, none, none, none, none, none, none, none, none, none, none]) (μ1 := μ0) (by simp [eVar, eC, eBin, eTest, eTru, eAnd, eOr, eNot, eNeg, eIf, eTup, eLst, eNew, eCall, eFn, eMe, eMk, eFld, eMeL, eMeL0, aNil, aCons, bAnd, bOr, bNot, bYes, sSeq, sNx, sEx, sRet, sRetN, sIf, sAsg, gSet, sPar, sFldM, sFldAdd, sRaise, Out.bind, Out.st, SO.seq, fin, runB, startW, e0])).trans ?_
    refine (seq_nx (ρ1 := [some (.scr (ns.map .int)), some (.loc d), some (kW a b), none, none, none, none, none, none, none, none, none, none, none, none, none, none, none, none]) (μ1 := μ1) (by simp [eVar, eC, eBin, eTest, eTru, eAnd, eOr, eNot, eNeg, eIf, eTup, eLst, eNew, eCall, eFn, eMe, eMk, eFld, eMeL, eMeL0, aNil, aCons, bAnd, bOr, bNot, bYes, sSeq, sNx, sEx, sRet, sRetN, sIf, sAsg, gSet, sPar, sFldM, sFldAdd, sRaise, Out.bind, Out.st, SO.seq, fin, runB, startW, e1])).trans ?_
    refine (seq_nx (ρ1 := [some (.scr (ns.map .int)), some (.loc d), some (kW a b), some (.tup (L.map tupW)), none, none, none, none, none, none, none, none, none, none, none, none, none, none, none]) (μ1 := μ2) (by simp [eVar, eC, eBin, eTest, eTru, eAnd, eOr, eNot, eNeg, eIf, eTup, eLst, eNew, eCall, eFn, eMe, eMk, eFld, eMeL, eMeL0, aNil, aCons, bAnd, bOr, bNot, bYes, sSeq, sNx, sEx, sRet, sRetN, sIf, sAsg, gSet, sPar, sFldM, sFldAdd, sRaise, Out.bind, Out.st, SO.seq, fin, runB, startW, e2])).trans ?_
    refine (seq_nx (ρ1 := [some (.scr (ns.map .int)), some (.loc d), some (kW a b), some (.tup (L.map tupW)), some r, none, none, none, none, none, none, none, none, none, none, none, none, none, none]) (μ1 := μ3) (by simp [eVar, eC, eBin, eTest, eTru, eAnd, eOr, eNot, eNeg, eIf, eTup, eLst, eNew, eCall, eFn, eMe, eMk, eFld, eMeL, eMeL0, aNil, aCons, bAnd, bOr, bNot, bYes, sSeq, sNx, sEx, sRet, sRetN, sIf, sAsg, gSet, sPar, sFldM, sFldAdd, sRaise, Out.bind, Out.st, SO.seq, fin, runB, startW, z3, e3, e4])).trans ?_
    refine (seq_nx be).trans ?_
    refine (seq_nx f5).trans ?_
    refine (seq_nx f6).trans ?_
    refine ret_of ?_
    have fin : ∀ (c : EM) (ρ : PD.Env), c ρ μ6 = .ok (.lst []) μ6 → (eBin gEq c (eLst aNil)) ρ μ6 = .ok (.bl true) μ6 := fun c ρ h => by
      simp [eVar, eC, eBin, eTest, eTru, eAnd, eOr, eNot, eNeg, eIf, eTup, eLst, eNew, eCall, eFn, eMe, eMk, eFld, eMeL, eMeL0, aNil, aCons, bAnd, bOr, bNot, bYes, sSeq, sNx, sEx, sRet, sRetN, sIf, sAsg, gSet, sPar, sFldM, sFldAdd, sRaise, Out.bind, Out.st, SO.seq, fin, runB, startW, h, z0, gEq_nil]
    exact fin _ _ bc
  refine ⟨μ6, ?_⟩
  show fin (s_law A [some (.scr (ns.map .int)), none, none, none, none, none, none, none, none, none, none, none, none, none, none, none, none, none, none] []) = _
  rw [key]
  rfl
end
end K44
namespace K44
open PySem PySem.Spec PyProof.Rows L2 PD

def spLaw (K : PySem.W.Frag) : Sp := fun vs H Q _ => ∃ (a : Addr) (ns : List Int), vs = [.ref a] ∧ ns.length ≤ 63 ∧ SqL K H a (ns.map V.int) ∧ ∀ H', Q (.bl true) H'
theorem law_ok {P : Program} {w : World} {K : PySem.W.Frag} {mg : Str → Option Value} {base : Heap} {A : Adr} {a : Addr} {fd : FuncData} (T : Txt K mg A) (F : FnD P w K mg base 8 a fd ["script"] (f_law A)) : FnOk P w K mg base (L2N.CX P w) 8 a fd ["script"] (spLaw K) :=
  ⟨fun vs H Q E h => by
    obtain ⟨_, _, rfl, _⟩ := h
    rfl, fun A' outer s H args us vs Q E hr e0 hb rv h => by
    refine F.run A' outer s H args us vs Q E hr e0 hb rv ?_
    obtain ⟨p, ns, rfl, hn, hs, k⟩ := h
    obtain ⟨μ, e⟩ := law_true T ns hn
    refine ⟨rfl, [], H, [.scr (ns.map .int)], [], ⟨fun _ _ h => h, rfl, .nil, fun n a c h _ => by simp at h⟩, .cons (.scr hs (RepAll.map_int ns)) .nil, ?_⟩
    rw [e]
    intro θ' F' H' v x S r
    cases r
    exact k _⟩
theorem all_mk {P : Program} {w : World} {K : PySem.W.Frag} {h : Heap} {mg : Str → Option Value} {fa c_PathError c_OutOfRange c_Malformed c_NotThere c_Refused c_TooMuch c_Queue c_Wires p_ORDERS h_is_number h_place_of h_value_in h_end_of h_Queue_init h_Queue_put h_Queue_place h_Queue_take h_Queue_many h_Queue_waiting h_Queue_lost h_Wires_init h_Wires_wire_from h_Wires_queue h_Wires_put h_Wires_take h_Wires_ready h_Wires_things h_Wires_lost h_law_draws h_law_take h_law_alike h_law_says h_law_word h_law_kind h_law_links h_law_packets h_law_told h_law : Addr} {oc_is_number kV_is_number dc_is_number pm_is_number cd_is_number ct_is_number oc_place_of kV_place_of dc_place_of pm_place_of cd_place_of ct_place_of oc_value_in kV_value_in dc_value_in pm_value_in cd_value_in ct_value_in oc_end_of kV_end_of dc_end_of pm_end_of cd_end_of ct_end_of oc_Queue_init kV_Queue_init dc_Queue_init pm_Queue_init cd_Queue_init ct_Queue_init oc_Queue_put kV_Queue_put dc_Queue_put pm_Queue_put cd_Queue_put ct_Queue_put oc_Queue_place kV_Queue_place dc_Queue_place pm_Queue_place cd_Queue_place ct_Queue_place oc_Queue_take kV_Queue_take dc_Queue_take pm_Queue_take cd_Queue_take ct_Queue_take oc_Queue_many kV_Queue_many dc_Queue_many pm_Queue_many cd_Queue_many ct_Queue_many oc_Queue_waiting kV_Queue_waiting dc_Queue_waiting pm_Queue_waiting cd_Queue_waiting ct_Queue_waiting oc_Queue_lost kV_Queue_lost dc_Queue_lost pm_Queue_lost cd_Queue_lost ct_Queue_lost oc_Wires_init kV_Wires_init dc_Wires_init pm_Wires_init cd_Wires_init ct_Wires_init oc_Wires_wire_from kV_Wires_wire_from dc_Wires_wire_from pm_Wires_wire_from cd_Wires_wire_from ct_Wires_wire_from oc_Wires_queue kV_Wires_queue dc_Wires_queue pm_Wires_queue cd_Wires_queue ct_Wires_queue oc_Wires_put kV_Wires_put dc_Wires_put pm_Wires_put cd_Wires_put ct_Wires_put oc_Wires_take kV_Wires_take dc_Wires_take pm_Wires_take cd_Wires_take ct_Wires_take oc_Wires_ready kV_Wires_ready dc_Wires_ready pm_Wires_ready cd_Wires_ready ct_Wires_ready oc_Wires_things kV_Wires_things dc_Wires_things pm_Wires_things cd_Wires_things ct_Wires_things oc_Wires_lost kV_Wires_lost dc_Wires_lost pm_Wires_lost cd_Wires_lost ct_Wires_lost oc_law_draws kV_law_draws dc_law_draws pm_law_draws cd_law_draws ct_law_draws oc_law_take kV_law_take dc_law_take pm_law_take cd_law_take ct_law_take oc_law_alike kV_law_alike dc_law_alike pm_law_alike cd_law_alike ct_law_alike oc_law_says kV_law_says dc_law_says pm_law_says cd_law_says ct_law_says oc_law_word kV_law_word dc_law_word pm_law_word cd_law_word ct_law_word oc_law_kind kV_law_kind dc_law_kind pm_law_kind cd_law_kind ct_law_kind oc_law_links kV_law_links dc_law_links pm_law_links cd_law_links ct_law_links oc_law_packets kV_law_packets dc_law_packets pm_law_packets cd_law_packets ct_law_packets oc_law_told kV_law_told dc_law_told pm_law_told cd_law_told ct_law_told oc_law kV_law dc_law pm_law cd_law ct_law : Value} {od_ORDERS od_is_number an_is_number od_place_of an_place_of od_value_in an_value_in od_end_of an_end_of od_Queue_init an_Queue_init od_Queue_put an_Queue_put od_Queue_place an_Queue_place od_Queue_take an_Queue_take od_Queue_many an_Queue_many od_Queue_waiting an_Queue_waiting od_Queue_lost an_Queue_lost od_Wires_init an_Wires_init od_Wires_wire_from an_Wires_wire_from od_Wires_queue an_Wires_queue od_Wires_put an_Wires_put od_Wires_take an_Wires_take od_Wires_ready an_Wires_ready od_Wires_things an_Wires_things od_Wires_lost an_Wires_lost od_law_draws an_law_draws od_law_take an_law_take od_law_alike an_law_alike od_law_says an_law_says od_law_word an_law_word od_law_kind an_law_kind od_law_links an_law_links od_law_packets an_law_packets od_law_told an_law_told od_law an_law : Option Addr} {sl_ORDERS sl_is_number sl_place_of sl_value_in sl_end_of sl_Queue_init sl_Queue_put sl_Queue_place sl_Queue_take sl_Queue_many sl_Queue_waiting sl_Queue_lost sl_Wires_init sl_Wires_wire_from sl_Wires_queue sl_Wires_put sl_Wires_take sl_Wires_ready sl_Wires_things sl_Wires_lost sl_law_draws sl_law_take sl_law_alike sl_law_says sl_law_word sl_law_kind sl_law_links sl_law_packets sl_law_told sl_law : Array (Option Value)} {tk_SWITCH tk_PORT tk_MOST_ROOM tk_ORDERS0 tk_ORDERS1 tk_ORDERS2 tk_FIRST : Tok} {n_ORDERS : Nat} (X : K.In h) (G : h.Ns mainGlobals mg) (hfa : mg "law" = some (.ref fa))
    (a_PathError : PySem.W.nsIn K mainGlobals "PathError" = some (some (.ref c_PathError)))
    (a_OutOfRange : PySem.W.nsIn K mainGlobals "OutOfRange" = some (some (.ref c_OutOfRange)))
    (a_Malformed : PySem.W.nsIn K mainGlobals "Malformed" = some (some (.ref c_Malformed)))
    (a_NotThere : PySem.W.nsIn K mainGlobals "NotThere" = some (some (.ref c_NotThere)))
    (a_Refused : PySem.W.nsIn K mainGlobals "Refused" = some (some (.ref c_Refused)))
    (a_TooMuch : PySem.W.nsIn K mainGlobals "TooMuch" = some (some (.ref c_TooMuch)))
    (a_Queue : PySem.W.nsIn K mainGlobals "Queue" = some (some (.ref c_Queue)))
    (a_Wires : PySem.W.nsIn K mainGlobals "Wires" = some (some (.ref c_Wires)))
    (b_bool : PySem.W.nsIn K mainGlobals "bool" = some none)
    (b_isinstance : PySem.W.nsIn K mainGlobals "isinstance" = some none)
    (b_int : PySem.W.nsIn K mainGlobals "int" = some none)
    (b_enumerate : PySem.W.nsIn K mainGlobals "enumerate" = some none)
    (b_len : PySem.W.nsIn K mainGlobals "len" = some none)
    (b_min : PySem.W.nsIn K mainGlobals "min" = some none)
    (b_tuple : PySem.W.nsIn K mainGlobals "tuple" = some none)
    (b_sum : PySem.W.nsIn K mainGlobals "sum" = some none)
    (b_list : PySem.W.nsIn K mainGlobals "list" = some none)
    (b_reversed : PySem.W.nsIn K mainGlobals "reversed" = some none)
    (b_range : PySem.W.nsIn K mainGlobals "range" = some none)
    (b_abs : PySem.W.nsIn K mainGlobals "abs" = some none)
    (b_str : PySem.W.nsIn K mainGlobals "str" = some none)
    (b_sorted : PySem.W.nsIn K mainGlobals "sorted" = some none)
    (k_SWITCH : PySem.W.nsIn K mainGlobals "SWITCH" = some (some (.str "sw" tk_SWITCH)))
    (k_PORT : PySem.W.nsIn K mainGlobals "PORT" = some (some (.str "pt" tk_PORT)))
    (k_MOST_ROOM : PySem.W.nsIn K mainGlobals "MOST_ROOM" = some (some (.int 1000 tk_MOST_ROOM)))
    (k_ORDERS : PySem.W.nsIn K mainGlobals "ORDERS" = some (some (.ref p_ORDERS)))
    (l_ORDERS : K.lookup p_ORDERS = some ⟨.type "tuple", od_ORDERS, .seq #[.str "first" tk_ORDERS0, .str "last" tk_ORDERS1, .str "least" tk_ORDERS2] n_ORDERS, sl_ORDERS⟩)
    (k_FIRST : PySem.W.nsIn K mainGlobals "FIRST" = some (some (.str "first" tk_FIRST)))
    (gs1 : PySem.W.specialIn K (.builtin "object.__class__") "__get__" = some (some (.builtin "getset_descriptor.__get__")))
    (gs2 : PySem.W.takesIn K (.builtin "object.__class__") = some true)
    (x1_PathError : PySem.W.excIn K c_PathError [.type "ValueError", .type "Exception", .type "BaseException", .type "object"] "ValueError.__new__" = true)
    (x2_PathError : PySem.W.keepIn K (.ref c_PathError) = true)
    (x3_PathError : PySem.W.subIn K (.ref c_PathError) (.type "BaseException") = some true)
    (x4_PathError : PySem.W.typeIn K (.ref c_PathError) = some (.type "type"))
    (x5_PathError : PySem.W.isClsIn K c_PathError = true)
    (x1_OutOfRange : PySem.W.excIn K c_OutOfRange [.type "ValueError", .type "Exception", .type "BaseException", .type "object"] "ValueError.__new__" = true)
    (x2_OutOfRange : PySem.W.keepIn K (.ref c_OutOfRange) = true)
    (x3_OutOfRange : PySem.W.subIn K (.ref c_OutOfRange) (.type "BaseException") = some true)
    (x4_OutOfRange : PySem.W.typeIn K (.ref c_OutOfRange) = some (.type "type"))
    (x5_OutOfRange : PySem.W.isClsIn K c_OutOfRange = true)
    (x1_Malformed : PySem.W.excIn K c_Malformed [.type "ValueError", .type "Exception", .type "BaseException", .type "object"] "ValueError.__new__" = true)
    (x2_Malformed : PySem.W.keepIn K (.ref c_Malformed) = true)
    (x3_Malformed : PySem.W.subIn K (.ref c_Malformed) (.type "BaseException") = some true)
    (x4_Malformed : PySem.W.typeIn K (.ref c_Malformed) = some (.type "type"))
    (x5_Malformed : PySem.W.isClsIn K c_Malformed = true)
    (x1_NotThere : PySem.W.excIn K c_NotThere [.type "ValueError", .type "Exception", .type "BaseException", .type "object"] "ValueError.__new__" = true)
    (x2_NotThere : PySem.W.keepIn K (.ref c_NotThere) = true)
    (x3_NotThere : PySem.W.subIn K (.ref c_NotThere) (.type "BaseException") = some true)
    (x4_NotThere : PySem.W.typeIn K (.ref c_NotThere) = some (.type "type"))
    (x5_NotThere : PySem.W.isClsIn K c_NotThere = true)
    (x1_Refused : PySem.W.excIn K c_Refused [.type "ValueError", .type "Exception", .type "BaseException", .type "object"] "ValueError.__new__" = true)
    (x2_Refused : PySem.W.keepIn K (.ref c_Refused) = true)
    (x3_Refused : PySem.W.subIn K (.ref c_Refused) (.type "BaseException") = some true)
    (x4_Refused : PySem.W.typeIn K (.ref c_Refused) = some (.type "type"))
    (x5_Refused : PySem.W.isClsIn K c_Refused = true)
    (x1_TooMuch : PySem.W.excIn K c_TooMuch [.type "ValueError", .type "Exception", .type "BaseException", .type "object"] "ValueError.__new__" = true)
    (x2_TooMuch : PySem.W.keepIn K (.ref c_TooMuch) = true)
    (x3_TooMuch : PySem.W.subIn K (.ref c_TooMuch) (.type "BaseException") = some true)
    (x4_TooMuch : PySem.W.typeIn K (.ref c_TooMuch) = some (.type "type"))
    (x5_TooMuch : PySem.W.isClsIn K c_TooMuch = true)
    (y1_Queue : PySem.W.plainGet K c_Queue Str.empty = true)
    (y2_Queue : PySem.W.hasDictIn K c_Queue = true)
    (y3_Queue : PySem.W.plainOver K c_Queue = true)
    (y4_Queue : PySem.W.findIn K (.ref c_Queue) "__setattr__" = some (some (.builtin "object.__setattr__")))
    (y5_Queue : PySem.W.makesIn K c_Queue = true)
    (y6_Queue : PySem.W.keepIn K (.ref c_Queue) = true)
    (z_no_Queue_gone : PySem.W.findIn K (.ref c_Queue) "gone" = some none)
    (z_no_Queue_order : PySem.W.findIn K (.ref c_Queue) "order" = some none)
    (z_no_Queue_room : PySem.W.findIn K (.ref c_Queue) "room" = some none)
    (z_no_Queue_things : PySem.W.findIn K (.ref c_Queue) "things" = some none)
    (y1_Wires : PySem.W.plainGet K c_Wires Str.empty = true)
    (y2_Wires : PySem.W.hasDictIn K c_Wires = true)
    (y3_Wires : PySem.W.plainOver K c_Wires = true)
    (y4_Wires : PySem.W.findIn K (.ref c_Wires) "__setattr__" = some (some (.builtin "object.__setattr__")))
    (y5_Wires : PySem.W.makesIn K c_Wires = true)
    (y6_Wires : PySem.W.keepIn K (.ref c_Wires) = true)
    (z_no_Wires_kind : PySem.W.findIn K (.ref c_Wires) "kind" = some none)
    (z_no_Wires_links : PySem.W.findIn K (.ref c_Wires) "links" = some none)
    (z_no_Wires_queues : PySem.W.findIn K (.ref c_Wires) "queues" = some none)
    (e1_OutOfRange : PySem.W.findIn K (.ref c_OutOfRange) "__getattribute__" = some (some (.builtin "BaseException.__getattribute__")))
    (e2_OutOfRange : PySem.W.findIn K (.ref c_OutOfRange) "__getattr__" = some none)
    (e3_OutOfRange : PySem.W.hasDictIn K c_OutOfRange = true)
    (e4_OutOfRange : PySem.W.findIn K (.ref c_OutOfRange) "__class__" = some (some (.builtin "object.__class__")))
    (e5_OutOfRange : PySem.W.mroIn K c_OutOfRange (.type "object") = some true)
    (sp_OutOfRange : PySem.W.subIn K (.ref c_OutOfRange) (.ref c_PathError) = some true)
    (s_OutOfRange_OutOfRange : PySem.W.subIn K (.ref c_OutOfRange) (.ref c_OutOfRange) = some true)
    (s_OutOfRange_Malformed : PySem.W.subIn K (.ref c_OutOfRange) (.ref c_Malformed) = some false)
    (s_OutOfRange_NotThere : PySem.W.subIn K (.ref c_OutOfRange) (.ref c_NotThere) = some false)
    (s_OutOfRange_Refused : PySem.W.subIn K (.ref c_OutOfRange) (.ref c_Refused) = some false)
    (s_OutOfRange_TooMuch : PySem.W.subIn K (.ref c_OutOfRange) (.ref c_TooMuch) = some false)
    (e1_Malformed : PySem.W.findIn K (.ref c_Malformed) "__getattribute__" = some (some (.builtin "BaseException.__getattribute__")))
    (e2_Malformed : PySem.W.findIn K (.ref c_Malformed) "__getattr__" = some none)
    (e3_Malformed : PySem.W.hasDictIn K c_Malformed = true)
    (e4_Malformed : PySem.W.findIn K (.ref c_Malformed) "__class__" = some (some (.builtin "object.__class__")))
    (e5_Malformed : PySem.W.mroIn K c_Malformed (.type "object") = some true)
    (sp_Malformed : PySem.W.subIn K (.ref c_Malformed) (.ref c_PathError) = some true)
    (s_Malformed_OutOfRange : PySem.W.subIn K (.ref c_Malformed) (.ref c_OutOfRange) = some false)
    (s_Malformed_Malformed : PySem.W.subIn K (.ref c_Malformed) (.ref c_Malformed) = some true)
    (s_Malformed_NotThere : PySem.W.subIn K (.ref c_Malformed) (.ref c_NotThere) = some false)
    (s_Malformed_Refused : PySem.W.subIn K (.ref c_Malformed) (.ref c_Refused) = some false)
    (s_Malformed_TooMuch : PySem.W.subIn K (.ref c_Malformed) (.ref c_TooMuch) = some false)
    (e1_NotThere : PySem.W.findIn K (.ref c_NotThere) "__getattribute__" = some (some (.builtin "BaseException.__getattribute__")))
    (e2_NotThere : PySem.W.findIn K (.ref c_NotThere) "__getattr__" = some none)
    (e3_NotThere : PySem.W.hasDictIn K c_NotThere = true)
    (e4_NotThere : PySem.W.findIn K (.ref c_NotThere) "__class__" = some (some (.builtin "object.__class__")))
    (e5_NotThere : PySem.W.mroIn K c_NotThere (.type "object") = some true)
    (sp_NotThere : PySem.W.subIn K (.ref c_NotThere) (.ref c_PathError) = some true)
    (s_NotThere_OutOfRange : PySem.W.subIn K (.ref c_NotThere) (.ref c_OutOfRange) = some false)
    (s_NotThere_Malformed : PySem.W.subIn K (.ref c_NotThere) (.ref c_Malformed) = some false)
    (s_NotThere_NotThere : PySem.W.subIn K (.ref c_NotThere) (.ref c_NotThere) = some true)
    (s_NotThere_Refused : PySem.W.subIn K (.ref c_NotThere) (.ref c_Refused) = some false)
    (s_NotThere_TooMuch : PySem.W.subIn K (.ref c_NotThere) (.ref c_TooMuch) = some false)
    (e1_Refused : PySem.W.findIn K (.ref c_Refused) "__getattribute__" = some (some (.builtin "BaseException.__getattribute__")))
    (e2_Refused : PySem.W.findIn K (.ref c_Refused) "__getattr__" = some none)
    (e3_Refused : PySem.W.hasDictIn K c_Refused = true)
    (e4_Refused : PySem.W.findIn K (.ref c_Refused) "__class__" = some (some (.builtin "object.__class__")))
    (e5_Refused : PySem.W.mroIn K c_Refused (.type "object") = some true)
    (sp_Refused : PySem.W.subIn K (.ref c_Refused) (.ref c_PathError) = some true)
    (s_Refused_OutOfRange : PySem.W.subIn K (.ref c_Refused) (.ref c_OutOfRange) = some false)
    (s_Refused_Malformed : PySem.W.subIn K (.ref c_Refused) (.ref c_Malformed) = some false)
    (s_Refused_NotThere : PySem.W.subIn K (.ref c_Refused) (.ref c_NotThere) = some false)
    (s_Refused_Refused : PySem.W.subIn K (.ref c_Refused) (.ref c_Refused) = some true)
    (s_Refused_TooMuch : PySem.W.subIn K (.ref c_Refused) (.ref c_TooMuch) = some false)
    (e1_TooMuch : PySem.W.findIn K (.ref c_TooMuch) "__getattribute__" = some (some (.builtin "BaseException.__getattribute__")))
    (e2_TooMuch : PySem.W.findIn K (.ref c_TooMuch) "__getattr__" = some none)
    (e3_TooMuch : PySem.W.hasDictIn K c_TooMuch = true)
    (e4_TooMuch : PySem.W.findIn K (.ref c_TooMuch) "__class__" = some (some (.builtin "object.__class__")))
    (e5_TooMuch : PySem.W.mroIn K c_TooMuch (.type "object") = some true)
    (sp_TooMuch : PySem.W.subIn K (.ref c_TooMuch) (.ref c_PathError) = some true)
    (s_TooMuch_OutOfRange : PySem.W.subIn K (.ref c_TooMuch) (.ref c_OutOfRange) = some false)
    (s_TooMuch_Malformed : PySem.W.subIn K (.ref c_TooMuch) (.ref c_Malformed) = some false)
    (s_TooMuch_NotThere : PySem.W.subIn K (.ref c_TooMuch) (.ref c_NotThere) = some false)
    (s_TooMuch_Refused : PySem.W.subIn K (.ref c_TooMuch) (.ref c_Refused) = some false)
    (s_TooMuch_TooMuch : PySem.W.subIn K (.ref c_TooMuch) (.ref c_TooMuch) = some true)
    (m_is_number : PySem.W.nsIn K mainGlobals "is_number" = some (some (.ref h_is_number)))
    (l_is_number : K.lookup h_is_number = some ⟨oc_is_number, od_is_number, .func (PySem.W.fnOf "is_number" "is_number" (defArgs t_is_number) (defBody t_is_number) (defScope t_is_number) .none kV_is_number dc_is_number pm_is_number an_is_number cd_is_number ct_is_number), sl_is_number⟩)
    (cc_is_number : PySem.W.codeIn K cd_is_number "is_number" = true)
    (kk_is_number : PySem.W.keepIn K (.ref h_is_number) = true)
    (m_place_of : PySem.W.nsIn K mainGlobals "place_of" = some (some (.ref h_place_of)))
    (l_place_of : K.lookup h_place_of = some ⟨oc_place_of, od_place_of, .func (PySem.W.fnOf "place_of" "place_of" (defArgs t_place_of) (defBody t_place_of) (defScope t_place_of) .none kV_place_of dc_place_of pm_place_of an_place_of cd_place_of ct_place_of), sl_place_of⟩)
    (cc_place_of : PySem.W.codeIn K cd_place_of "place_of" = true)
    (kk_place_of : PySem.W.keepIn K (.ref h_place_of) = true)
    (m_value_in : PySem.W.nsIn K mainGlobals "value_in" = some (some (.ref h_value_in)))
    (l_value_in : K.lookup h_value_in = some ⟨oc_value_in, od_value_in, .func (PySem.W.fnOf "value_in" "value_in" (defArgs t_value_in) (defBody t_value_in) (defScope t_value_in) .none kV_value_in dc_value_in pm_value_in an_value_in cd_value_in ct_value_in), sl_value_in⟩)
    (cc_value_in : PySem.W.codeIn K cd_value_in "value_in" = true)
    (kk_value_in : PySem.W.keepIn K (.ref h_value_in) = true)
    (m_end_of : PySem.W.nsIn K mainGlobals "end_of" = some (some (.ref h_end_of)))
    (l_end_of : K.lookup h_end_of = some ⟨oc_end_of, od_end_of, .func (PySem.W.fnOf "end_of" "end_of" (defArgs t_end_of) (defBody t_end_of) (defScope t_end_of) .none kV_end_of dc_end_of pm_end_of an_end_of cd_end_of ct_end_of), sl_end_of⟩)
    (cc_end_of : PySem.W.codeIn K cd_end_of "end_of" = true)
    (kk_end_of : PySem.W.keepIn K (.ref h_end_of) = true)
    (m_Queue_init : PySem.W.findIn K (.ref c_Queue) "__init__" = some (some (.ref h_Queue_init)))
    (i_Queue_init : PySem.W.isFn K (.ref h_Queue_init) = true)
    (l_Queue_init : K.lookup h_Queue_init = some ⟨oc_Queue_init, od_Queue_init, .func (PySem.W.fnOf "__init__" "Queue.__init__" (defArgs t_Queue_init) (defBody t_Queue_init) (defScope t_Queue_init) .none kV_Queue_init dc_Queue_init pm_Queue_init an_Queue_init cd_Queue_init ct_Queue_init), sl_Queue_init⟩)
    (cc_Queue_init : PySem.W.codeIn K cd_Queue_init "Queue.__init__" = true)
    (kk_Queue_init : PySem.W.keepIn K (.ref h_Queue_init) = true)
    (m_Queue_put : PySem.W.findIn K (.ref c_Queue) "put" = some (some (.ref h_Queue_put)))
    (i_Queue_put : PySem.W.isFn K (.ref h_Queue_put) = true)
    (l_Queue_put : K.lookup h_Queue_put = some ⟨oc_Queue_put, od_Queue_put, .func (PySem.W.fnOf "put" "Queue.put" (defArgs t_Queue_put) (defBody t_Queue_put) (defScope t_Queue_put) .none kV_Queue_put dc_Queue_put pm_Queue_put an_Queue_put cd_Queue_put ct_Queue_put), sl_Queue_put⟩)
    (cc_Queue_put : PySem.W.codeIn K cd_Queue_put "Queue.put" = true)
    (kk_Queue_put : PySem.W.keepIn K (.ref h_Queue_put) = true)
    (m_Queue_place : PySem.W.findIn K (.ref c_Queue) "place" = some (some (.ref h_Queue_place)))
    (i_Queue_place : PySem.W.isFn K (.ref h_Queue_place) = true)
    (l_Queue_place : K.lookup h_Queue_place = some ⟨oc_Queue_place, od_Queue_place, .func (PySem.W.fnOf "place" "Queue.place" (defArgs t_Queue_place) (defBody t_Queue_place) (defScope t_Queue_place) .none kV_Queue_place dc_Queue_place pm_Queue_place an_Queue_place cd_Queue_place ct_Queue_place), sl_Queue_place⟩)
    (cc_Queue_place : PySem.W.codeIn K cd_Queue_place "Queue.place" = true)
    (kk_Queue_place : PySem.W.keepIn K (.ref h_Queue_place) = true)
    (m_Queue_take : PySem.W.findIn K (.ref c_Queue) "take" = some (some (.ref h_Queue_take)))
    (i_Queue_take : PySem.W.isFn K (.ref h_Queue_take) = true)
    (l_Queue_take : K.lookup h_Queue_take = some ⟨oc_Queue_take, od_Queue_take, .func (PySem.W.fnOf "take" "Queue.take" (defArgs t_Queue_take) (defBody t_Queue_take) (defScope t_Queue_take) .none kV_Queue_take dc_Queue_take pm_Queue_take an_Queue_take cd_Queue_take ct_Queue_take), sl_Queue_take⟩)
    (cc_Queue_take : PySem.W.codeIn K cd_Queue_take "Queue.take" = true)
    (kk_Queue_take : PySem.W.keepIn K (.ref h_Queue_take) = true)
    (m_Queue_many : PySem.W.findIn K (.ref c_Queue) "many" = some (some (.ref h_Queue_many)))
    (i_Queue_many : PySem.W.isFn K (.ref h_Queue_many) = true)
    (l_Queue_many : K.lookup h_Queue_many = some ⟨oc_Queue_many, od_Queue_many, .func (PySem.W.fnOf "many" "Queue.many" (defArgs t_Queue_many) (defBody t_Queue_many) (defScope t_Queue_many) .none kV_Queue_many dc_Queue_many pm_Queue_many an_Queue_many cd_Queue_many ct_Queue_many), sl_Queue_many⟩)
    (cc_Queue_many : PySem.W.codeIn K cd_Queue_many "Queue.many" = true)
    (kk_Queue_many : PySem.W.keepIn K (.ref h_Queue_many) = true)
    (m_Queue_waiting : PySem.W.findIn K (.ref c_Queue) "waiting" = some (some (.ref h_Queue_waiting)))
    (i_Queue_waiting : PySem.W.isFn K (.ref h_Queue_waiting) = true)
    (l_Queue_waiting : K.lookup h_Queue_waiting = some ⟨oc_Queue_waiting, od_Queue_waiting, .func (PySem.W.fnOf "waiting" "Queue.waiting" (defArgs t_Queue_waiting) (defBody t_Queue_waiting) (defScope t_Queue_waiting) .none kV_Queue_waiting dc_Queue_waiting pm_Queue_waiting an_Queue_waiting cd_Queue_waiting ct_Queue_waiting), sl_Queue_waiting⟩)
    (cc_Queue_waiting : PySem.W.codeIn K cd_Queue_waiting "Queue.waiting" = true)
    (kk_Queue_waiting : PySem.W.keepIn K (.ref h_Queue_waiting) = true)
    (m_Queue_lost : PySem.W.findIn K (.ref c_Queue) "lost" = some (some (.ref h_Queue_lost)))
    (i_Queue_lost : PySem.W.isFn K (.ref h_Queue_lost) = true)
    (l_Queue_lost : K.lookup h_Queue_lost = some ⟨oc_Queue_lost, od_Queue_lost, .func (PySem.W.fnOf "lost" "Queue.lost" (defArgs t_Queue_lost) (defBody t_Queue_lost) (defScope t_Queue_lost) .none kV_Queue_lost dc_Queue_lost pm_Queue_lost an_Queue_lost cd_Queue_lost ct_Queue_lost), sl_Queue_lost⟩)
    (cc_Queue_lost : PySem.W.codeIn K cd_Queue_lost "Queue.lost" = true)
    (kk_Queue_lost : PySem.W.keepIn K (.ref h_Queue_lost) = true)
    (m_Wires_init : PySem.W.findIn K (.ref c_Wires) "__init__" = some (some (.ref h_Wires_init)))
    (i_Wires_init : PySem.W.isFn K (.ref h_Wires_init) = true)
    (l_Wires_init : K.lookup h_Wires_init = some ⟨oc_Wires_init, od_Wires_init, .func (PySem.W.fnOf "__init__" "Wires.__init__" (defArgs t_Wires_init) (defBody t_Wires_init) (defScope t_Wires_init) .none kV_Wires_init dc_Wires_init pm_Wires_init an_Wires_init cd_Wires_init ct_Wires_init), sl_Wires_init⟩)
    (cc_Wires_init : PySem.W.codeIn K cd_Wires_init "Wires.__init__" = true)
    (kk_Wires_init : PySem.W.keepIn K (.ref h_Wires_init) = true)
    (m_Wires_wire_from : PySem.W.findIn K (.ref c_Wires) "wire_from" = some (some (.ref h_Wires_wire_from)))
    (i_Wires_wire_from : PySem.W.isFn K (.ref h_Wires_wire_from) = true)
    (l_Wires_wire_from : K.lookup h_Wires_wire_from = some ⟨oc_Wires_wire_from, od_Wires_wire_from, .func (PySem.W.fnOf "wire_from" "Wires.wire_from" (defArgs t_Wires_wire_from) (defBody t_Wires_wire_from) (defScope t_Wires_wire_from) .none kV_Wires_wire_from dc_Wires_wire_from pm_Wires_wire_from an_Wires_wire_from cd_Wires_wire_from ct_Wires_wire_from), sl_Wires_wire_from⟩)
    (cc_Wires_wire_from : PySem.W.codeIn K cd_Wires_wire_from "Wires.wire_from" = true)
    (kk_Wires_wire_from : PySem.W.keepIn K (.ref h_Wires_wire_from) = true)
    (m_Wires_queue : PySem.W.findIn K (.ref c_Wires) "queue" = some (some (.ref h_Wires_queue)))
    (i_Wires_queue : PySem.W.isFn K (.ref h_Wires_queue) = true)
    (l_Wires_queue : K.lookup h_Wires_queue = some ⟨oc_Wires_queue, od_Wires_queue, .func (PySem.W.fnOf "queue" "Wires.queue" (defArgs t_Wires_queue) (defBody t_Wires_queue) (defScope t_Wires_queue) .none kV_Wires_queue dc_Wires_queue pm_Wires_queue an_Wires_queue cd_Wires_queue ct_Wires_queue), sl_Wires_queue⟩)
    (cc_Wires_queue : PySem.W.codeIn K cd_Wires_queue "Wires.queue" = true)
    (kk_Wires_queue : PySem.W.keepIn K (.ref h_Wires_queue) = true)
    (m_Wires_put : PySem.W.findIn K (.ref c_Wires) "put" = some (some (.ref h_Wires_put)))
    (i_Wires_put : PySem.W.isFn K (.ref h_Wires_put) = true)
    (l_Wires_put : K.lookup h_Wires_put = some ⟨oc_Wires_put, od_Wires_put, .func (PySem.W.fnOf "put" "Wires.put" (defArgs t_Wires_put) (defBody t_Wires_put) (defScope t_Wires_put) .none kV_Wires_put dc_Wires_put pm_Wires_put an_Wires_put cd_Wires_put ct_Wires_put), sl_Wires_put⟩)
    (cc_Wires_put : PySem.W.codeIn K cd_Wires_put "Wires.put" = true)
    (kk_Wires_put : PySem.W.keepIn K (.ref h_Wires_put) = true)
    (m_Wires_take : PySem.W.findIn K (.ref c_Wires) "take" = some (some (.ref h_Wires_take)))
    (i_Wires_take : PySem.W.isFn K (.ref h_Wires_take) = true)
    (l_Wires_take : K.lookup h_Wires_take = some ⟨oc_Wires_take, od_Wires_take, .func (PySem.W.fnOf "take" "Wires.take" (defArgs t_Wires_take) (defBody t_Wires_take) (defScope t_Wires_take) .none kV_Wires_take dc_Wires_take pm_Wires_take an_Wires_take cd_Wires_take ct_Wires_take), sl_Wires_take⟩)
    (cc_Wires_take : PySem.W.codeIn K cd_Wires_take "Wires.take" = true)
    (kk_Wires_take : PySem.W.keepIn K (.ref h_Wires_take) = true)
    (m_Wires_ready : PySem.W.findIn K (.ref c_Wires) "ready" = some (some (.ref h_Wires_ready)))
    (i_Wires_ready : PySem.W.isFn K (.ref h_Wires_ready) = true)
    (l_Wires_ready : K.lookup h_Wires_ready = some ⟨oc_Wires_ready, od_Wires_ready, .func (PySem.W.fnOf "ready" "Wires.ready" (defArgs t_Wires_ready) (defBody t_Wires_ready) (defScope t_Wires_ready) .none kV_Wires_ready dc_Wires_ready pm_Wires_ready an_Wires_ready cd_Wires_ready ct_Wires_ready), sl_Wires_ready⟩)
    (cc_Wires_ready : PySem.W.codeIn K cd_Wires_ready "Wires.ready" = true)
    (kk_Wires_ready : PySem.W.keepIn K (.ref h_Wires_ready) = true)
    (m_Wires_things : PySem.W.findIn K (.ref c_Wires) "things" = some (some (.ref h_Wires_things)))
    (i_Wires_things : PySem.W.isFn K (.ref h_Wires_things) = true)
    (l_Wires_things : K.lookup h_Wires_things = some ⟨oc_Wires_things, od_Wires_things, .func (PySem.W.fnOf "things" "Wires.things" (defArgs t_Wires_things) (defBody t_Wires_things) (defScope t_Wires_things) .none kV_Wires_things dc_Wires_things pm_Wires_things an_Wires_things cd_Wires_things ct_Wires_things), sl_Wires_things⟩)
    (cc_Wires_things : PySem.W.codeIn K cd_Wires_things "Wires.things" = true)
    (kk_Wires_things : PySem.W.keepIn K (.ref h_Wires_things) = true)
    (m_Wires_lost : PySem.W.findIn K (.ref c_Wires) "lost" = some (some (.ref h_Wires_lost)))
    (i_Wires_lost : PySem.W.isFn K (.ref h_Wires_lost) = true)
    (l_Wires_lost : K.lookup h_Wires_lost = some ⟨oc_Wires_lost, od_Wires_lost, .func (PySem.W.fnOf "lost" "Wires.lost" (defArgs t_Wires_lost) (defBody t_Wires_lost) (defScope t_Wires_lost) .none kV_Wires_lost dc_Wires_lost pm_Wires_lost an_Wires_lost cd_Wires_lost ct_Wires_lost), sl_Wires_lost⟩)
    (cc_Wires_lost : PySem.W.codeIn K cd_Wires_lost "Wires.lost" = true)
    (kk_Wires_lost : PySem.W.keepIn K (.ref h_Wires_lost) = true)
    (m_law_draws : PySem.W.nsIn K mainGlobals "_law_draws" = some (some (.ref h_law_draws)))
    (l_law_draws : K.lookup h_law_draws = some ⟨oc_law_draws, od_law_draws, .func (PySem.W.fnOf "_law_draws" "_law_draws" (defArgs t_law_draws) (defBody t_law_draws) (defScope t_law_draws) .none kV_law_draws dc_law_draws pm_law_draws an_law_draws cd_law_draws ct_law_draws), sl_law_draws⟩)
    (cc_law_draws : PySem.W.codeIn K cd_law_draws "_law_draws" = true)
    (kk_law_draws : PySem.W.keepIn K (.ref h_law_draws) = true)
    (m_law_take : PySem.W.nsIn K mainGlobals "_law_take" = some (some (.ref h_law_take)))
    (l_law_take : K.lookup h_law_take = some ⟨oc_law_take, od_law_take, .func (PySem.W.fnOf "_law_take" "_law_take" (defArgs t_law_take) (defBody t_law_take) (defScope t_law_take) .none kV_law_take dc_law_take pm_law_take an_law_take cd_law_take ct_law_take), sl_law_take⟩)
    (cc_law_take : PySem.W.codeIn K cd_law_take "_law_take" = true)
    (kk_law_take : PySem.W.keepIn K (.ref h_law_take) = true)
    (m_law_alike : PySem.W.nsIn K mainGlobals "_law_alike" = some (some (.ref h_law_alike)))
    (l_law_alike : K.lookup h_law_alike = some ⟨oc_law_alike, od_law_alike, .func (PySem.W.fnOf "_law_alike" "_law_alike" (defArgs t_law_alike) (defBody t_law_alike) (defScope t_law_alike) .none kV_law_alike dc_law_alike pm_law_alike an_law_alike cd_law_alike ct_law_alike), sl_law_alike⟩)
    (cc_law_alike : PySem.W.codeIn K cd_law_alike "_law_alike" = true)
    (kk_law_alike : PySem.W.keepIn K (.ref h_law_alike) = true)
    (m_law_says : PySem.W.nsIn K mainGlobals "_law_says" = some (some (.ref h_law_says)))
    (l_law_says : K.lookup h_law_says = some ⟨oc_law_says, od_law_says, .func (PySem.W.fnOf "_law_says" "_law_says" (defArgs t_law_says) (defBody t_law_says) (defScope t_law_says) .none kV_law_says dc_law_says pm_law_says an_law_says cd_law_says ct_law_says), sl_law_says⟩)
    (cc_law_says : PySem.W.codeIn K cd_law_says "_law_says" = true)
    (kk_law_says : PySem.W.keepIn K (.ref h_law_says) = true)
    (m_law_word : PySem.W.nsIn K mainGlobals "_law_word" = some (some (.ref h_law_word)))
    (l_law_word : K.lookup h_law_word = some ⟨oc_law_word, od_law_word, .func (PySem.W.fnOf "_law_word" "_law_word" (defArgs t_law_word) (defBody t_law_word) (defScope t_law_word) .none kV_law_word dc_law_word pm_law_word an_law_word cd_law_word ct_law_word), sl_law_word⟩)
    (cc_law_word : PySem.W.codeIn K cd_law_word "_law_word" = true)
    (kk_law_word : PySem.W.keepIn K (.ref h_law_word) = true)
    (m_law_kind : PySem.W.nsIn K mainGlobals "_law_kind" = some (some (.ref h_law_kind)))
    (l_law_kind : K.lookup h_law_kind = some ⟨oc_law_kind, od_law_kind, .func (PySem.W.fnOf "_law_kind" "_law_kind" (defArgs t_law_kind) (defBody t_law_kind) (defScope t_law_kind) .none kV_law_kind dc_law_kind pm_law_kind an_law_kind cd_law_kind ct_law_kind), sl_law_kind⟩)
    (cc_law_kind : PySem.W.codeIn K cd_law_kind "_law_kind" = true)
    (kk_law_kind : PySem.W.keepIn K (.ref h_law_kind) = true)
    (m_law_links : PySem.W.nsIn K mainGlobals "_law_links" = some (some (.ref h_law_links)))
    (l_law_links : K.lookup h_law_links = some ⟨oc_law_links, od_law_links, .func (PySem.W.fnOf "_law_links" "_law_links" (defArgs t_law_links) (defBody t_law_links) (defScope t_law_links) .none kV_law_links dc_law_links pm_law_links an_law_links cd_law_links ct_law_links), sl_law_links⟩)
    (cc_law_links : PySem.W.codeIn K cd_law_links "_law_links" = true)
    (kk_law_links : PySem.W.keepIn K (.ref h_law_links) = true)
    (m_law_packets : PySem.W.nsIn K mainGlobals "_law_packets" = some (some (.ref h_law_packets)))
    (l_law_packets : K.lookup h_law_packets = some ⟨oc_law_packets, od_law_packets, .func (PySem.W.fnOf "_law_packets" "_law_packets" (defArgs t_law_packets) (defBody t_law_packets) (defScope t_law_packets) .none kV_law_packets dc_law_packets pm_law_packets an_law_packets cd_law_packets ct_law_packets), sl_law_packets⟩)
    (cc_law_packets : PySem.W.codeIn K cd_law_packets "_law_packets" = true)
    (kk_law_packets : PySem.W.keepIn K (.ref h_law_packets) = true)
    (m_law_told : PySem.W.nsIn K mainGlobals "_law_told" = some (some (.ref h_law_told)))
    (l_law_told : K.lookup h_law_told = some ⟨oc_law_told, od_law_told, .func (PySem.W.fnOf "_law_told" "_law_told" (defArgs t_law_told) (defBody t_law_told) (defScope t_law_told) .none kV_law_told dc_law_told pm_law_told an_law_told cd_law_told ct_law_told), sl_law_told⟩)
    (cc_law_told : PySem.W.codeIn K cd_law_told "_law_told" = true)
    (kk_law_told : PySem.W.keepIn K (.ref h_law_told) = true)
    (m_law : PySem.W.nsIn K mainGlobals "law" = some (some (.ref h_law)))
    (l_law : K.lookup h_law = some ⟨oc_law, od_law, .func (PySem.W.fnOf "law" "law" (defArgs t_law) (defBody t_law) (defScope t_law) .none kV_law dc_law pm_law an_law cd_law ct_law), sl_law⟩)
    (cc_law : PySem.W.codeIn K cd_law "law" = true)
    (kk_law : PySem.W.keepIn K (.ref h_law) = true) :
    ∃ fd : FuncData, (∀ (s : Shared) (v : Value), BindsTo s fd ⟨[v], []⟩ [("script", v)]) ∧ ∀ base : Heap, K.In base → base.Ns mainGlobals mg → FnOk P w K mg base (L2N.CX P w) 8 fa fd ["script"] (spLaw K) := by
  have e := hfa.symm.trans (PySem.W.mg_of X G m_law)
  cases e
  have T : Txt K mg ⟨c_PathError, c_OutOfRange, c_Malformed, c_NotThere, c_Refused, c_TooMuch, c_Queue, c_Wires⟩ := { n_bool := PySem.W.mg_none_of X G b_bool, n_isinstance := PySem.W.mg_none_of X G b_isinstance, n_int := PySem.W.mg_none_of X G b_int, n_enumerate := PySem.W.mg_none_of X G b_enumerate, n_len := PySem.W.mg_none_of X G b_len, n_min := PySem.W.mg_none_of X G b_min, n_tuple := PySem.W.mg_none_of X G b_tuple, n_sum := PySem.W.mg_none_of X G b_sum, n_list := PySem.W.mg_none_of X G b_list, n_reversed := PySem.W.mg_none_of X G b_reversed, n_range := PySem.W.mg_none_of X G b_range, n_abs := PySem.W.mg_none_of X G b_abs, n_str := PySem.W.mg_none_of X G b_str, n_sorted := PySem.W.mg_none_of X G b_sorted, c_SWITCH := ⟨_, PySem.W.mg_of X G k_SWITCH⟩, c_PORT := ⟨_, PySem.W.mg_of X G k_PORT⟩, c_MOST_ROOM := ⟨_, PySem.W.mg_of X G k_MOST_ROOM⟩, c_FIRST := ⟨_, PySem.W.mg_of X G k_FIRST⟩, e_PathError := ⟨x1_PathError, PySem.W.mg_of X G a_PathError, x2_PathError, x3_PathError, x4_PathError, x5_PathError⟩, e_OutOfRange := ⟨x1_OutOfRange, PySem.W.mg_of X G a_OutOfRange, x2_OutOfRange, x3_OutOfRange, x4_OutOfRange, x5_OutOfRange⟩, e_Malformed := ⟨x1_Malformed, PySem.W.mg_of X G a_Malformed, x2_Malformed, x3_Malformed, x4_Malformed, x5_Malformed⟩, e_NotThere := ⟨x1_NotThere, PySem.W.mg_of X G a_NotThere, x2_NotThere, x3_NotThere, x4_NotThere, x5_NotThere⟩, e_Refused := ⟨x1_Refused, PySem.W.mg_of X G a_Refused, x2_Refused, x3_Refused, x4_Refused, x5_Refused⟩, e_TooMuch := ⟨x1_TooMuch, PySem.W.mg_of X G a_TooMuch, x2_TooMuch, x3_TooMuch, x4_TooMuch, x5_TooMuch⟩, cl_Queue := ⟨y1_Queue, y2_Queue, y3_Queue, y4_Queue⟩, no_Queue_gone := z_no_Queue_gone, no_Queue_order := z_no_Queue_order, no_Queue_room := z_no_Queue_room, no_Queue_things := z_no_Queue_things, cl_Wires := ⟨y1_Wires, y2_Wires, y3_Wires, y4_Wires⟩, no_Wires_kind := z_no_Wires_kind, no_Wires_links := z_no_Wires_links, no_Wires_queues := z_no_Wires_queues, c_ORDERS := ⟨_, PySem.W.mg_of X G k_ORDERS, fun F => .inr ⟨_, _, _, l_ORDERS, rfl, rfl, by show 3 ≤ sizeLine; decide, (.cons ⟨_, rfl⟩ (.cons ⟨_, rfl⟩ (.cons ⟨_, rfl⟩ .nil)))⟩⟩, ec_OutOfRange := ⟨e1_OutOfRange, e2_OutOfRange, x3_OutOfRange, e3_OutOfRange, e4_OutOfRange, gs1, gs2, e5_OutOfRange⟩, sp_OutOfRange := sp_OutOfRange, sub_OutOfRange_OutOfRange := s_OutOfRange_OutOfRange, sub_OutOfRange_Malformed := s_OutOfRange_Malformed, sub_OutOfRange_NotThere := s_OutOfRange_NotThere, sub_OutOfRange_Refused := s_OutOfRange_Refused, sub_OutOfRange_TooMuch := s_OutOfRange_TooMuch, ec_Malformed := ⟨e1_Malformed, e2_Malformed, x3_Malformed, e3_Malformed, e4_Malformed, gs1, gs2, e5_Malformed⟩, sp_Malformed := sp_Malformed, sub_Malformed_OutOfRange := s_Malformed_OutOfRange, sub_Malformed_Malformed := s_Malformed_Malformed, sub_Malformed_NotThere := s_Malformed_NotThere, sub_Malformed_Refused := s_Malformed_Refused, sub_Malformed_TooMuch := s_Malformed_TooMuch, ec_NotThere := ⟨e1_NotThere, e2_NotThere, x3_NotThere, e3_NotThere, e4_NotThere, gs1, gs2, e5_NotThere⟩, sp_NotThere := sp_NotThere, sub_NotThere_OutOfRange := s_NotThere_OutOfRange, sub_NotThere_Malformed := s_NotThere_Malformed, sub_NotThere_NotThere := s_NotThere_NotThere, sub_NotThere_Refused := s_NotThere_Refused, sub_NotThere_TooMuch := s_NotThere_TooMuch, ec_Refused := ⟨e1_Refused, e2_Refused, x3_Refused, e3_Refused, e4_Refused, gs1, gs2, e5_Refused⟩, sp_Refused := sp_Refused, sub_Refused_OutOfRange := s_Refused_OutOfRange, sub_Refused_Malformed := s_Refused_Malformed, sub_Refused_NotThere := s_Refused_NotThere, sub_Refused_Refused := s_Refused_Refused, sub_Refused_TooMuch := s_Refused_TooMuch, ec_TooMuch := ⟨e1_TooMuch, e2_TooMuch, x3_TooMuch, e3_TooMuch, e4_TooMuch, gs1, gs2, e5_TooMuch⟩, sp_TooMuch := sp_TooMuch, sub_TooMuch_OutOfRange := s_TooMuch_OutOfRange, sub_TooMuch_Malformed := s_TooMuch_Malformed, sub_TooMuch_NotThere := s_TooMuch_NotThere, sub_TooMuch_Refused := s_TooMuch_Refused, sub_TooMuch_TooMuch := s_TooMuch_TooMuch }
  have F_is_number := fun_mk (st := t_is_number) l_is_number cc_is_number kk_is_number
  have B_is_number := F_is_number.binds (ps := ["value", "least", "most"]) fun _ _ _ _ _ _ us hl => match us, hl with | [_, _, _], _ => rfl
  have D_is_number : ∀ base : Heap, DOk P w K mg base "is_number" 1 _ _ ["value", "least", "most"] (f_is_number ⟨c_PathError, c_OutOfRange, c_Malformed, c_NotThere, c_Refused, c_TooMuch, c_Queue, c_Wires⟩) := fun base => ⟨ok_is_number (A := ⟨c_PathError, c_OutOfRange, c_Malformed, c_NotThere, c_Refused, c_TooMuch, c_Queue, c_Wires⟩) T F_is_number , PySem.W.mg_of X G m_is_number, kk_is_number, B_is_number⟩
  have F_place_of := fun_mk (st := t_place_of) l_place_of cc_place_of kk_place_of
  have B_place_of := F_place_of.binds (ps := ["kind", "field"]) fun _ _ _ _ _ _ us hl => match us, hl with | [_, _], _ => rfl
  have D_place_of : ∀ base : Heap, DOk P w K mg base "place_of" 1 _ _ ["kind", "field"] (f_place_of ⟨c_PathError, c_OutOfRange, c_Malformed, c_NotThere, c_Refused, c_TooMuch, c_Queue, c_Wires⟩) := fun base => ⟨ok_place_of (A := ⟨c_PathError, c_OutOfRange, c_Malformed, c_NotThere, c_Refused, c_TooMuch, c_Queue, c_Wires⟩) T F_place_of , PySem.W.mg_of X G m_place_of, kk_place_of, B_place_of⟩
  have F_value_in := fun_mk (st := t_value_in) l_value_in cc_value_in kk_value_in
  have B_value_in := F_value_in.binds (ps := ["kind", "packet", "field"]) fun _ _ _ _ _ _ us hl => match us, hl with | [_, _, _], _ => rfl
  have D_value_in : ∀ base : Heap, DOk P w K mg base "value_in" 2 _ _ ["kind", "packet", "field"] (f_value_in ⟨c_PathError, c_OutOfRange, c_Malformed, c_NotThere, c_Refused, c_TooMuch, c_Queue, c_Wires⟩) := fun base => ⟨ok_value_in (A := ⟨c_PathError, c_OutOfRange, c_Malformed, c_NotThere, c_Refused, c_TooMuch, c_Queue, c_Wires⟩) T F_value_in (D_place_of base), PySem.W.mg_of X G m_value_in, kk_value_in, B_value_in⟩
  have F_end_of := fun_mk (st := t_end_of) l_end_of cc_end_of kk_end_of
  have B_end_of := F_end_of.binds (ps := ["kind", "packet"]) fun _ _ _ _ _ _ us hl => match us, hl with | [_, _], _ => rfl
  have D_end_of : ∀ base : Heap, DOk P w K mg base "end_of" 3 _ _ ["kind", "packet"] (f_end_of ⟨c_PathError, c_OutOfRange, c_Malformed, c_NotThere, c_Refused, c_TooMuch, c_Queue, c_Wires⟩) := fun base => ⟨ok_end_of (A := ⟨c_PathError, c_OutOfRange, c_Malformed, c_NotThere, c_Refused, c_TooMuch, c_Queue, c_Wires⟩) T F_end_of (D_value_in base), PySem.W.mg_of X G m_end_of, kk_end_of, B_end_of⟩
  have F_Queue_init := fun_mk (st := t_Queue_init) l_Queue_init cc_Queue_init kk_Queue_init
  have B_Queue_init := F_Queue_init.binds (ps := ["self", "order", "room"]) fun _ _ _ _ _ _ us hl => match us, hl with | [_, _, _], _ => rfl
  have D_Queue_init : ∀ base : Heap, IOk P w K mg base c_Queue "Queue" 2 _ _ ["self", "order", "room"] (f_Queue_init ⟨c_PathError, c_OutOfRange, c_Malformed, c_NotThere, c_Refused, c_TooMuch, c_Queue, c_Wires⟩) := fun base => ⟨ok_Queue_init (A := ⟨c_PathError, c_OutOfRange, c_Malformed, c_NotThere, c_Refused, c_TooMuch, c_Queue, c_Wires⟩) T F_Queue_init (D_is_number base), ⟨y5_Queue, m_Queue_init, i_Queue_init, y6_Queue⟩, PySem.W.mg_of X G a_Queue, B_Queue_init⟩
  have F_Queue_put := fun_mk (st := t_Queue_put) l_Queue_put cc_Queue_put kk_Queue_put
  have B_Queue_put := F_Queue_put.binds (ps := ["self", "thing"]) fun _ _ _ _ _ _ us hl => match us, hl with | [_, _], _ => rfl
  have D_Queue_put : ∀ base : Heap, MOk P w K mg base c_Queue "put" 1 _ _ ["self", "thing"] (f_Queue_put ⟨c_PathError, c_OutOfRange, c_Malformed, c_NotThere, c_Refused, c_TooMuch, c_Queue, c_Wires⟩) := fun base => ⟨ok_Queue_put (A := ⟨c_PathError, c_OutOfRange, c_Malformed, c_NotThere, c_Refused, c_TooMuch, c_Queue, c_Wires⟩) T F_Queue_put , ⟨m_Queue_put, i_Queue_put, kk_Queue_put⟩, B_Queue_put⟩
  have F_Queue_place := fun_mk (st := t_Queue_place) l_Queue_place cc_Queue_place kk_Queue_place
  have B_Queue_place := F_Queue_place.binds (ps := ["self"]) fun _ _ _ _ _ _ us hl => match us, hl with | [_], _ => rfl
  have D_Queue_place : ∀ base : Heap, MOk P w K mg base c_Queue "place" 1 _ _ ["self"] (f_Queue_place ⟨c_PathError, c_OutOfRange, c_Malformed, c_NotThere, c_Refused, c_TooMuch, c_Queue, c_Wires⟩) := fun base => ⟨ok_Queue_place (A := ⟨c_PathError, c_OutOfRange, c_Malformed, c_NotThere, c_Refused, c_TooMuch, c_Queue, c_Wires⟩) T F_Queue_place , ⟨m_Queue_place, i_Queue_place, kk_Queue_place⟩, B_Queue_place⟩
  have F_Queue_take := fun_mk (st := t_Queue_take) l_Queue_take cc_Queue_take kk_Queue_take
  have B_Queue_take := F_Queue_take.binds (ps := ["self"]) fun _ _ _ _ _ _ us hl => match us, hl with | [_], _ => rfl
  have D_Queue_take : ∀ base : Heap, MOk P w K mg base c_Queue "take" 2 _ _ ["self"] (f_Queue_take ⟨c_PathError, c_OutOfRange, c_Malformed, c_NotThere, c_Refused, c_TooMuch, c_Queue, c_Wires⟩) := fun base => ⟨ok_Queue_take (A := ⟨c_PathError, c_OutOfRange, c_Malformed, c_NotThere, c_Refused, c_TooMuch, c_Queue, c_Wires⟩) T F_Queue_take (D_Queue_place base), ⟨m_Queue_take, i_Queue_take, kk_Queue_take⟩, B_Queue_take⟩
  have F_Queue_many := fun_mk (st := t_Queue_many) l_Queue_many cc_Queue_many kk_Queue_many
  have B_Queue_many := F_Queue_many.binds (ps := ["self"]) fun _ _ _ _ _ _ us hl => match us, hl with | [_], _ => rfl
  have D_Queue_many : ∀ base : Heap, MOk P w K mg base c_Queue "many" 1 _ _ ["self"] (f_Queue_many ⟨c_PathError, c_OutOfRange, c_Malformed, c_NotThere, c_Refused, c_TooMuch, c_Queue, c_Wires⟩) := fun base => ⟨ok_Queue_many (A := ⟨c_PathError, c_OutOfRange, c_Malformed, c_NotThere, c_Refused, c_TooMuch, c_Queue, c_Wires⟩) T F_Queue_many , ⟨m_Queue_many, i_Queue_many, kk_Queue_many⟩, B_Queue_many⟩
  have F_Queue_waiting := fun_mk (st := t_Queue_waiting) l_Queue_waiting cc_Queue_waiting kk_Queue_waiting
  have B_Queue_waiting := F_Queue_waiting.binds (ps := ["self"]) fun _ _ _ _ _ _ us hl => match us, hl with | [_], _ => rfl
  have D_Queue_waiting : ∀ base : Heap, MOk P w K mg base c_Queue "waiting" 1 _ _ ["self"] (f_Queue_waiting ⟨c_PathError, c_OutOfRange, c_Malformed, c_NotThere, c_Refused, c_TooMuch, c_Queue, c_Wires⟩) := fun base => ⟨ok_Queue_waiting (A := ⟨c_PathError, c_OutOfRange, c_Malformed, c_NotThere, c_Refused, c_TooMuch, c_Queue, c_Wires⟩) T F_Queue_waiting , ⟨m_Queue_waiting, i_Queue_waiting, kk_Queue_waiting⟩, B_Queue_waiting⟩
  have F_Queue_lost := fun_mk (st := t_Queue_lost) l_Queue_lost cc_Queue_lost kk_Queue_lost
  have B_Queue_lost := F_Queue_lost.binds (ps := ["self"]) fun _ _ _ _ _ _ us hl => match us, hl with | [_], _ => rfl
  have D_Queue_lost : ∀ base : Heap, MOk P w K mg base c_Queue "lost" 1 _ _ ["self"] (f_Queue_lost ⟨c_PathError, c_OutOfRange, c_Malformed, c_NotThere, c_Refused, c_TooMuch, c_Queue, c_Wires⟩) := fun base => ⟨ok_Queue_lost (A := ⟨c_PathError, c_OutOfRange, c_Malformed, c_NotThere, c_Refused, c_TooMuch, c_Queue, c_Wires⟩) T F_Queue_lost , ⟨m_Queue_lost, i_Queue_lost, kk_Queue_lost⟩, B_Queue_lost⟩
  have F_Wires_init := fun_mk (st := t_Wires_init) l_Wires_init cc_Wires_init kk_Wires_init
  have B_Wires_init := F_Wires_init.binds (ps := ["self", "kind", "links", "room"]) fun _ _ _ _ _ _ us hl => match us, hl with | [_, _, _, _], _ => rfl
  have D_Wires_init : ∀ base : Heap, IOk P w K mg base c_Wires "Wires" 4 _ _ ["self", "kind", "links", "room"] (f_Wires_init ⟨c_PathError, c_OutOfRange, c_Malformed, c_NotThere, c_Refused, c_TooMuch, c_Queue, c_Wires⟩) := fun base => ⟨ok_Wires_init (A := ⟨c_PathError, c_OutOfRange, c_Malformed, c_NotThere, c_Refused, c_TooMuch, c_Queue, c_Wires⟩) T F_Wires_init (D_Queue_init base), ⟨y5_Wires, m_Wires_init, i_Wires_init, y6_Wires⟩, PySem.W.mg_of X G a_Wires, B_Wires_init⟩
  have F_Wires_wire_from := fun_mk (st := t_Wires_wire_from) l_Wires_wire_from cc_Wires_wire_from kk_Wires_wire_from
  have B_Wires_wire_from := F_Wires_wire_from.binds (ps := ["self", "packet"]) fun _ _ _ _ _ _ us hl => match us, hl with | [_, _], _ => rfl
  have D_Wires_wire_from : ∀ base : Heap, MOk P w K mg base c_Wires "wire_from" 4 _ _ ["self", "packet"] (f_Wires_wire_from ⟨c_PathError, c_OutOfRange, c_Malformed, c_NotThere, c_Refused, c_TooMuch, c_Queue, c_Wires⟩) := fun base => ⟨ok_Wires_wire_from (A := ⟨c_PathError, c_OutOfRange, c_Malformed, c_NotThere, c_Refused, c_TooMuch, c_Queue, c_Wires⟩) T F_Wires_wire_from (D_end_of base), ⟨m_Wires_wire_from, i_Wires_wire_from, kk_Wires_wire_from⟩, B_Wires_wire_from⟩
  have F_Wires_queue := fun_mk (st := t_Wires_queue) l_Wires_queue cc_Wires_queue kk_Wires_queue
  have B_Wires_queue := F_Wires_queue.binds (ps := ["self", "number"]) fun _ _ _ _ _ _ us hl => match us, hl with | [_, _], _ => rfl
  have D_Wires_queue : ∀ base : Heap, MOk P w K mg base c_Wires "queue" 2 _ _ ["self", "number"] (f_Wires_queue ⟨c_PathError, c_OutOfRange, c_Malformed, c_NotThere, c_Refused, c_TooMuch, c_Queue, c_Wires⟩) := fun base => ⟨ok_Wires_queue (A := ⟨c_PathError, c_OutOfRange, c_Malformed, c_NotThere, c_Refused, c_TooMuch, c_Queue, c_Wires⟩) T F_Wires_queue (D_is_number base), ⟨m_Wires_queue, i_Wires_queue, kk_Wires_queue⟩, B_Wires_queue⟩
  have F_Wires_put := fun_mk (st := t_Wires_put) l_Wires_put cc_Wires_put kk_Wires_put
  have B_Wires_put := F_Wires_put.binds (ps := ["self", "number", "thing"]) fun _ _ _ _ _ _ us hl => match us, hl with | [_, _, _], _ => rfl
  have D_Wires_put : ∀ base : Heap, MOk P w K mg base c_Wires "put" 3 _ _ ["self", "number", "thing"] (f_Wires_put ⟨c_PathError, c_OutOfRange, c_Malformed, c_NotThere, c_Refused, c_TooMuch, c_Queue, c_Wires⟩) := fun base => ⟨ok_Wires_put (A := ⟨c_PathError, c_OutOfRange, c_Malformed, c_NotThere, c_Refused, c_TooMuch, c_Queue, c_Wires⟩) T F_Wires_put (D_Wires_queue base) (D_Queue_put base), ⟨m_Wires_put, i_Wires_put, kk_Wires_put⟩, B_Wires_put⟩
  have F_Wires_take := fun_mk (st := t_Wires_take) l_Wires_take cc_Wires_take kk_Wires_take
  have B_Wires_take := F_Wires_take.binds (ps := ["self", "number"]) fun _ _ _ _ _ _ us hl => match us, hl with | [_, _], _ => rfl
  have D_Wires_take : ∀ base : Heap, MOk P w K mg base c_Wires "take" 3 _ _ ["self", "number"] (f_Wires_take ⟨c_PathError, c_OutOfRange, c_Malformed, c_NotThere, c_Refused, c_TooMuch, c_Queue, c_Wires⟩) := fun base => ⟨ok_Wires_take (A := ⟨c_PathError, c_OutOfRange, c_Malformed, c_NotThere, c_Refused, c_TooMuch, c_Queue, c_Wires⟩) T F_Wires_take (D_Wires_queue base) (D_Queue_take base), ⟨m_Wires_take, i_Wires_take, kk_Wires_take⟩, B_Wires_take⟩
  have F_Wires_ready := fun_mk (st := t_Wires_ready) l_Wires_ready cc_Wires_ready kk_Wires_ready
  have B_Wires_ready := F_Wires_ready.binds (ps := ["self"]) fun _ _ _ _ _ _ us hl => match us, hl with | [_], _ => rfl
  have D_Wires_ready : ∀ base : Heap, MOk P w K mg base c_Wires "ready" 2 _ _ ["self"] (f_Wires_ready ⟨c_PathError, c_OutOfRange, c_Malformed, c_NotThere, c_Refused, c_TooMuch, c_Queue, c_Wires⟩) := fun base => ⟨ok_Wires_ready (A := ⟨c_PathError, c_OutOfRange, c_Malformed, c_NotThere, c_Refused, c_TooMuch, c_Queue, c_Wires⟩) T F_Wires_ready (D_Queue_many base), ⟨m_Wires_ready, i_Wires_ready, kk_Wires_ready⟩, B_Wires_ready⟩
  have F_Wires_things := fun_mk (st := t_Wires_things) l_Wires_things cc_Wires_things kk_Wires_things
  have B_Wires_things := F_Wires_things.binds (ps := ["self"]) fun _ _ _ _ _ _ us hl => match us, hl with | [_], _ => rfl
  have D_Wires_things : ∀ base : Heap, MOk P w K mg base c_Wires "things" 2 _ _ ["self"] (f_Wires_things ⟨c_PathError, c_OutOfRange, c_Malformed, c_NotThere, c_Refused, c_TooMuch, c_Queue, c_Wires⟩) := fun base => ⟨ok_Wires_things (A := ⟨c_PathError, c_OutOfRange, c_Malformed, c_NotThere, c_Refused, c_TooMuch, c_Queue, c_Wires⟩) T F_Wires_things (D_Queue_waiting base), ⟨m_Wires_things, i_Wires_things, kk_Wires_things⟩, B_Wires_things⟩
  have F_Wires_lost := fun_mk (st := t_Wires_lost) l_Wires_lost cc_Wires_lost kk_Wires_lost
  have B_Wires_lost := F_Wires_lost.binds (ps := ["self"]) fun _ _ _ _ _ _ us hl => match us, hl with | [_], _ => rfl
  have D_Wires_lost : ∀ base : Heap, MOk P w K mg base c_Wires "lost" 2 _ _ ["self"] (f_Wires_lost ⟨c_PathError, c_OutOfRange, c_Malformed, c_NotThere, c_Refused, c_TooMuch, c_Queue, c_Wires⟩) := fun base => ⟨ok_Wires_lost (A := ⟨c_PathError, c_OutOfRange, c_Malformed, c_NotThere, c_Refused, c_TooMuch, c_Queue, c_Wires⟩) T F_Wires_lost (D_Queue_lost base), ⟨m_Wires_lost, i_Wires_lost, kk_Wires_lost⟩, B_Wires_lost⟩
  have F_law_draws := fun_mk (st := t_law_draws) l_law_draws cc_law_draws kk_law_draws
  have B_law_draws := F_law_draws.binds (ps := ["script"]) fun _ _ _ _ _ _ us hl => match us, hl with | [_], _ => rfl
  have D_law_draws : ∀ base : Heap, DOk P w K mg base "_law_draws" 1 _ _ ["script"] (f_law_draws ⟨c_PathError, c_OutOfRange, c_Malformed, c_NotThere, c_Refused, c_TooMuch, c_Queue, c_Wires⟩) := fun base => ⟨ok_law_draws (A := ⟨c_PathError, c_OutOfRange, c_Malformed, c_NotThere, c_Refused, c_TooMuch, c_Queue, c_Wires⟩) T F_law_draws , PySem.W.mg_of X G m_law_draws, kk_law_draws, B_law_draws⟩
  have F_law_take := fun_mk (st := t_law_take) l_law_take cc_law_take kk_law_take
  have B_law_take := F_law_take.binds (ps := ["draws", "bound"]) fun _ _ _ _ _ _ us hl => match us, hl with | [_, _], _ => rfl
  have D_law_take : ∀ base : Heap, DOk P w K mg base "_law_take" 1 _ _ ["draws", "bound"] (f_law_take ⟨c_PathError, c_OutOfRange, c_Malformed, c_NotThere, c_Refused, c_TooMuch, c_Queue, c_Wires⟩) := fun base => ⟨ok_law_take (A := ⟨c_PathError, c_OutOfRange, c_Malformed, c_NotThere, c_Refused, c_TooMuch, c_Queue, c_Wires⟩) T F_law_take , PySem.W.mg_of X G m_law_take, kk_law_take, B_law_take⟩
  have F_law_alike := fun_mk (st := t_law_alike) l_law_alike cc_law_alike kk_law_alike
  have B_law_alike := F_law_alike.binds (ps := ["found", "due"]) fun _ _ _ _ _ _ us hl => match us, hl with | [_, _], _ => rfl
  have D_law_alike : ∀ base : Heap, DOk P w K mg base "_law_alike" 7 _ _ ["found", "due"] (f_law_alike ⟨c_PathError, c_OutOfRange, c_Malformed, c_NotThere, c_Refused, c_TooMuch, c_Queue, c_Wires⟩) := fun base => ⟨ok_law_alike (A := ⟨c_PathError, c_OutOfRange, c_Malformed, c_NotThere, c_Refused, c_TooMuch, c_Queue, c_Wires⟩) T F_law_alike  (PySem.W.mg_of X G m_law_alike) kk_law_alike B_law_alike 6, PySem.W.mg_of X G m_law_alike, kk_law_alike, B_law_alike⟩
  have F_law_says := fun_mk (st := t_law_says) l_law_says cc_law_says kk_law_says
  have B_law_says := F_law_says.binds (ps := ["heard", "due"]) fun _ _ _ _ _ _ us hl => match us, hl with | [_, _], _ => rfl
  have D_law_says : ∀ base : Heap, DOk P w K mg base "_law_says" 1 _ _ ["heard", "due"] (f_law_says ⟨c_PathError, c_OutOfRange, c_Malformed, c_NotThere, c_Refused, c_TooMuch, c_Queue, c_Wires⟩) := fun base => ⟨ok_law_says (A := ⟨c_PathError, c_OutOfRange, c_Malformed, c_NotThere, c_Refused, c_TooMuch, c_Queue, c_Wires⟩) T F_law_says , PySem.W.mg_of X G m_law_says, kk_law_says, B_law_says⟩
  have F_law_word := fun_mk (st := t_law_word) l_law_word cc_law_word kk_law_word
  have B_law_word := F_law_word.binds (ps := ["e"]) fun _ _ _ _ _ _ us hl => match us, hl with | [_], _ => rfl
  have D_law_word : ∀ base : Heap, PDM.FnP P w K mg base (L2N.CX P w) 1 _ _ ["e"] (spW K (wd ⟨c_PathError, c_OutOfRange, c_Malformed, c_NotThere, c_Refused, c_TooMuch, c_Queue, c_Wires⟩)) := fun base => ok_law_word T F_law_word (word_true T)
  have F_law_kind := fun_mk (st := t_law_kind) l_law_kind cc_law_kind kk_law_kind
  have B_law_kind := F_law_kind.binds (ps := ["draws"]) fun _ _ _ _ _ _ us hl => match us, hl with | [_], _ => rfl
  have D_law_kind : ∀ base : Heap, DOk P w K mg base "_law_kind" 2 _ _ ["draws"] (f_law_kind ⟨c_PathError, c_OutOfRange, c_Malformed, c_NotThere, c_Refused, c_TooMuch, c_Queue, c_Wires⟩) := fun base => ⟨ok_law_kind (A := ⟨c_PathError, c_OutOfRange, c_Malformed, c_NotThere, c_Refused, c_TooMuch, c_Queue, c_Wires⟩) T F_law_kind (D_law_take base), PySem.W.mg_of X G m_law_kind, kk_law_kind, B_law_kind⟩
  have F_law_links := fun_mk (st := t_law_links) l_law_links cc_law_links kk_law_links
  have B_law_links := F_law_links.binds (ps := ["draws", "kind"]) fun _ _ _ _ _ _ us hl => match us, hl with | [_, _], _ => rfl
  have D_law_links : ∀ base : Heap, DOk P w K mg base "_law_links" 2 _ _ ["draws", "kind"] (f_law_links ⟨c_PathError, c_OutOfRange, c_Malformed, c_NotThere, c_Refused, c_TooMuch, c_Queue, c_Wires⟩) := fun base => ⟨ok_law_links (A := ⟨c_PathError, c_OutOfRange, c_Malformed, c_NotThere, c_Refused, c_TooMuch, c_Queue, c_Wires⟩) T F_law_links (D_law_take base), PySem.W.mg_of X G m_law_links, kk_law_links, B_law_links⟩
  have F_law_packets := fun_mk (st := t_law_packets) l_law_packets cc_law_packets kk_law_packets
  have B_law_packets := F_law_packets.binds (ps := ["kind"]) fun _ _ _ _ _ _ us hl => match us, hl with | [_], _ => rfl
  have D_law_packets : ∀ base : Heap, DOk P w K mg base "_law_packets" 1 _ _ ["kind"] (f_law_packets ⟨c_PathError, c_OutOfRange, c_Malformed, c_NotThere, c_Refused, c_TooMuch, c_Queue, c_Wires⟩) := fun base => ⟨ok_law_packets (A := ⟨c_PathError, c_OutOfRange, c_Malformed, c_NotThere, c_Refused, c_TooMuch, c_Queue, c_Wires⟩) T F_law_packets , PySem.W.mg_of X G m_law_packets, kk_law_packets, B_law_packets⟩
  have F_law_told := fun_mk (st := t_law_told) l_law_told cc_law_told kk_law_told
  have B_law_told := F_law_told.binds (ps := ["wires", "what", "number"]) fun _ _ _ _ _ _ us hl => match us, hl with | [_, _, _], _ => rfl
  have D_law_told : ∀ base : Heap, DOk P w K mg base "_law_told" 4 _ _ ["wires", "what", "number"] (f_law_told ⟨c_PathError, c_OutOfRange, c_Malformed, c_NotThere, c_Refused, c_TooMuch, c_Queue, c_Wires⟩) := fun base => ⟨ok_law_told (A := ⟨c_PathError, c_OutOfRange, c_Malformed, c_NotThere, c_Refused, c_TooMuch, c_Queue, c_Wires⟩) T F_law_told (D_Wires_take base) (D_Wires_put base) (D_law_word base) (PySem.W.mg_of X G m_law_word) kk_law_word B_law_word, PySem.W.mg_of X G m_law_told, kk_law_told, B_law_told⟩
  have F_law := fun_mk (st := t_law) l_law cc_law kk_law
  have B_law := F_law.binds (ps := ["script"]) fun _ _ _ _ _ _ us hl => match us, hl with | [_], _ => rfl
  exact ⟨_, fun s v => .of_eq rfl, fun base _ _ => law_ok (A := ⟨c_PathError, c_OutOfRange, c_Malformed, c_NotThere, c_Refused, c_TooMuch, c_Queue, c_Wires⟩) T (ok_law (A := ⟨c_PathError, c_OutOfRange, c_Malformed, c_NotThere, c_Refused, c_TooMuch, c_Queue, c_Wires⟩) T F_law (D_law_told base) (D_law_alike base) (D_Wires_lost base) (D_Wires_things base) (D_Wires_ready base) (D_law_take base) (D_law_says base) (D_Wires_put base) (D_law_packets base) (D_Wires_wire_from base) (D_Wires_init base) (D_law_links base) (D_law_kind base) (D_law_draws base))⟩
theorem walk {l : PySem.W.OpenLaw} {q : Program} {loose : List Str} {XP : (Str → Option Value) → Heap → Prop} {YP : World → Heap → Prop} {d : DefRec} {K : Params → PySem.W.Frag} (hn : l.most = some 63) (hdf : d.params.defaults = [])
    (hY : ∀ (w : World) (h : Heap), YP w h → (K w.params).In h)
    (F : ∀ (w : World) (mg : Str → Option Value) (fa : Addr) (h : Heap), (K w.params).In h → h.Ns mainGlobals mg → mg d.name = some (.ref fa) →
      ∃ fd : FuncData, (∀ (s : Shared) (u : Value), BindsTo s fd ⟨[u], []⟩ [("script", u)]) ∧ ∀ base : Heap, (K w.params).In base → base.Ns mainGlobals mg → FnOk l.prog w (K w.params) mg base (L2N.CX l.prog w) 8 fa fd ["script"] (spLaw (K w.params))) :
    PySem.W.WalkO q loose XP YP l.row.toRowW d [] (fun f vs => PySem.call f vs) :=
  L2.walk_of (n := 63) (k := 8) (x := "script") (CX := fun w => L2N.CX l.prog w) (sp := fun w => spLaw (K w.params)) hn (by decide) hdf ⟨by decide, by decide, by decide⟩ hY F (fun _ _ a ns hl _ hS => ⟨a, ns, rfl, hl, hS, fun _ => rfl⟩) fun _ _ _ _ _ ⟨_, _, _, _, _, _, _, _, _, _, _, _, z⟩ => z
end K44
open PySem PySem.W PyProof.Rows
set_option maxRecDepth 100000 in
set_option maxHeartbeats 0 in
theorem PySem.Challenge.cw_pathsallowed_k44_whole_wires_of_links_holds : PySem.Challenge.rw_pathsallowed_k44_whole_wires_of_links.Holds := by
  w_on; o_law; k_head; (case hw => w_witness2)
  k_fill
  refine K44.walk (l := PySem.Challenge.rw_pathsallowed_k44_whole_wires_of_links) rfl rfl (fun w h Y => PySem.W.kIn_of Y) ?F
  case F =>
    intro w mg fa h KX G hmg
    refine' K44.all_mk KX G hmg ?a_PathError ?a_OutOfRange ?a_Malformed ?a_NotThere ?a_Refused ?a_TooMuch ?a_Queue ?a_Wires ?b_bool ?b_isinstance ?b_int ?b_enumerate ?b_len ?b_min ?b_tuple ?b_sum ?b_list ?b_reversed ?b_range ?b_abs ?b_str ?b_sorted ?k_SWITCH ?k_PORT ?k_MOST_ROOM ?k_ORDERS ?l_ORDERS ?k_FIRST ?gs1 ?gs2 ?x1_PathError ?x2_PathError ?x3_PathError ?x4_PathError ?x5_PathError ?x1_OutOfRange ?x2_OutOfRange ?x3_OutOfRange ?x4_OutOfRange ?x5_OutOfRange ?x1_Malformed ?x2_Malformed ?x3_Malformed ?x4_Malformed ?x5_Malformed ?x1_NotThere ?x2_NotThere ?x3_NotThere ?x4_NotThere ?x5_NotThere ?x1_Refused ?x2_Refused ?x3_Refused ?x4_Refused ?x5_Refused ?x1_TooMuch ?x2_TooMuch ?x3_TooMuch ?x4_TooMuch ?x5_TooMuch ?y1_Queue ?y2_Queue ?y3_Queue ?y4_Queue ?y5_Queue ?y6_Queue ?z_no_Queue_gone ?z_no_Queue_order ?z_no_Queue_room ?z_no_Queue_things ?y1_Wires ?y2_Wires ?y3_Wires ?y4_Wires ?y5_Wires ?y6_Wires ?z_no_Wires_kind ?z_no_Wires_links ?z_no_Wires_queues ?e1_OutOfRange ?e2_OutOfRange ?e3_OutOfRange ?e4_OutOfRange ?e5_OutOfRange ?sp_OutOfRange ?s_OutOfRange_OutOfRange ?s_OutOfRange_Malformed ?s_OutOfRange_NotThere ?s_OutOfRange_Refused ?s_OutOfRange_TooMuch ?e1_Malformed ?e2_Malformed ?e3_Malformed ?e4_Malformed ?e5_Malformed ?sp_Malformed ?s_Malformed_OutOfRange ?s_Malformed_Malformed ?s_Malformed_NotThere ?s_Malformed_Refused ?s_Malformed_TooMuch ?e1_NotThere ?e2_NotThere ?e3_NotThere ?e4_NotThere ?e5_NotThere ?sp_NotThere ?s_NotThere_OutOfRange ?s_NotThere_Malformed ?s_NotThere_NotThere ?s_NotThere_Refused ?s_NotThere_TooMuch ?e1_Refused ?e2_Refused ?e3_Refused ?e4_Refused ?e5_Refused ?sp_Refused ?s_Refused_OutOfRange ?s_Refused_Malformed ?s_Refused_NotThere ?s_Refused_Refused ?s_Refused_TooMuch ?e1_TooMuch ?e2_TooMuch ?e3_TooMuch ?e4_TooMuch ?e5_TooMuch ?sp_TooMuch ?s_TooMuch_OutOfRange ?s_TooMuch_Malformed ?s_TooMuch_NotThere ?s_TooMuch_Refused ?s_TooMuch_TooMuch ?m_is_number ?l_is_number ?cc_is_number ?kk_is_number ?m_place_of ?l_place_of ?cc_place_of ?kk_place_of ?m_value_in ?l_value_in ?cc_value_in ?kk_value_in ?m_end_of ?l_end_of ?cc_end_of ?kk_end_of ?m_Queue_init ?i_Queue_init ?l_Queue_init ?cc_Queue_init ?kk_Queue_init ?m_Queue_put ?i_Queue_put ?l_Queue_put ?cc_Queue_put ?kk_Queue_put ?m_Queue_place ?i_Queue_place ?l_Queue_place ?cc_Queue_place ?kk_Queue_place ?m_Queue_take ?i_Queue_take ?l_Queue_take ?cc_Queue_take ?kk_Queue_take ?m_Queue_many ?i_Queue_many ?l_Queue_many ?cc_Queue_many ?kk_Queue_many ?m_Queue_waiting ?i_Queue_waiting ?l_Queue_waiting ?cc_Queue_waiting ?kk_Queue_waiting ?m_Queue_lost ?i_Queue_lost ?l_Queue_lost ?cc_Queue_lost ?kk_Queue_lost ?m_Wires_init ?i_Wires_init ?l_Wires_init ?cc_Wires_init ?kk_Wires_init ?m_Wires_wire_from ?i_Wires_wire_from ?l_Wires_wire_from ?cc_Wires_wire_from ?kk_Wires_wire_from ?m_Wires_queue ?i_Wires_queue ?l_Wires_queue ?cc_Wires_queue ?kk_Wires_queue ?m_Wires_put ?i_Wires_put ?l_Wires_put ?cc_Wires_put ?kk_Wires_put ?m_Wires_take ?i_Wires_take ?l_Wires_take ?cc_Wires_take ?kk_Wires_take ?m_Wires_ready ?i_Wires_ready ?l_Wires_ready ?cc_Wires_ready ?kk_Wires_ready ?m_Wires_things ?i_Wires_things ?l_Wires_things ?cc_Wires_things ?kk_Wires_things ?m_Wires_lost ?i_Wires_lost ?l_Wires_lost ?cc_Wires_lost ?kk_Wires_lost ?m_law_draws ?l_law_draws ?cc_law_draws ?kk_law_draws ?m_law_take ?l_law_take ?cc_law_take ?kk_law_take ?m_law_alike ?l_law_alike ?cc_law_alike ?kk_law_alike ?m_law_says ?l_law_says ?cc_law_says ?kk_law_says ?m_law_word ?l_law_word ?cc_law_word ?kk_law_word ?m_law_kind ?l_law_kind ?cc_law_kind ?kk_law_kind ?m_law_links ?l_law_links ?cc_law_links ?kk_law_links ?m_law_packets ?l_law_packets ?cc_law_packets ?kk_law_packets ?m_law_told ?l_law_told ?cc_law_told ?kk_law_told ?m_law ?l_law ?cc_law ?kk_law
    (case a_PathError => k_is)
    (case a_OutOfRange => k_is)
    (case a_Malformed => k_is)
    (case a_NotThere => k_is)
    (case a_Refused => k_is)
    (case a_TooMuch => k_is)
    (case a_Queue => k_is)
    (case a_Wires => k_is)
    (case b_bool => k_is)
    (case b_isinstance => k_is)
    (case b_int => k_is)
    (case b_enumerate => k_is)
    (case b_len => k_is)
    (case b_min => k_is)
    (case b_tuple => k_is)
    (case b_sum => k_is)
    (case b_list => k_is)
    (case b_reversed => k_is)
    (case b_range => k_is)
    (case b_abs => k_is)
    (case b_str => k_is)
    (case b_sorted => k_is)
    (case k_SWITCH => k_is)
    (case k_PORT => k_is)
    (case k_MOST_ROOM => k_is)
    (case k_ORDERS => k_is)
    (case l_ORDERS => k_is)
    (case k_FIRST => k_is)
    (case gs1 => k_is)
    (case gs2 => k_is)
    (case x1_PathError => k_exc)
    (case x2_PathError => k_is)
    (case x3_PathError => k_is)
    (case x4_PathError => k_is)
    (case x5_PathError => k_is)
    (case x1_OutOfRange => k_exc)
    (case x2_OutOfRange => k_is)
    (case x3_OutOfRange => k_is)
    (case x4_OutOfRange => k_is)
    (case x5_OutOfRange => k_is)
    (case x1_Malformed => k_exc)
    (case x2_Malformed => k_is)
    (case x3_Malformed => k_is)
    (case x4_Malformed => k_is)
    (case x5_Malformed => k_is)
    (case x1_NotThere => k_exc)
    (case x2_NotThere => k_is)
    (case x3_NotThere => k_is)
    (case x4_NotThere => k_is)
    (case x5_NotThere => k_is)
    (case x1_Refused => k_exc)
    (case x2_Refused => k_is)
    (case x3_Refused => k_is)
    (case x4_Refused => k_is)
    (case x5_Refused => k_is)
    (case x1_TooMuch => k_exc)
    (case x2_TooMuch => k_is)
    (case x3_TooMuch => k_is)
    (case x4_TooMuch => k_is)
    (case x5_TooMuch => k_is)
    (case y1_Queue => k_is)
    (case y2_Queue => k_is)
    (case y3_Queue => k_is)
    (case y4_Queue => k_is)
    (case y5_Queue => k_is)
    (case y6_Queue => k_is)
    (case z_no_Queue_gone => k_is)
    (case z_no_Queue_order => k_is)
    (case z_no_Queue_room => k_is)
    (case z_no_Queue_things => k_is)
    (case y1_Wires => k_is)
    (case y2_Wires => k_is)
    (case y3_Wires => k_is)
    (case y4_Wires => k_is)
    (case y5_Wires => k_is)
    (case y6_Wires => k_is)
    (case z_no_Wires_kind => k_is)
    (case z_no_Wires_links => k_is)
    (case z_no_Wires_queues => k_is)
    (case e1_OutOfRange => k_is)
    (case e2_OutOfRange => k_is)
    (case e3_OutOfRange => k_is)
    (case e4_OutOfRange => k_is)
    (case e5_OutOfRange => k_is)
    (case sp_OutOfRange => k_is)
    (case s_OutOfRange_OutOfRange => first | rfl | k_is)
    (case s_OutOfRange_Malformed => first | rfl | k_is)
    (case s_OutOfRange_NotThere => first | rfl | k_is)
    (case s_OutOfRange_Refused => first | rfl | k_is)
    (case s_OutOfRange_TooMuch => first | rfl | k_is)
    (case e1_Malformed => k_is)
    (case e2_Malformed => k_is)
    (case e3_Malformed => k_is)
    (case e4_Malformed => k_is)
    (case e5_Malformed => k_is)
    (case sp_Malformed => k_is)
    (case s_Malformed_OutOfRange => first | rfl | k_is)
    (case s_Malformed_Malformed => first | rfl | k_is)
    (case s_Malformed_NotThere => first | rfl | k_is)
    (case s_Malformed_Refused => first | rfl | k_is)
    (case s_Malformed_TooMuch => first | rfl | k_is)
    (case e1_NotThere => k_is)
    (case e2_NotThere => k_is)
    (case e3_NotThere => k_is)
    (case e4_NotThere => k_is)
    (case e5_NotThere => k_is)
    (case sp_NotThere => k_is)
    (case s_NotThere_OutOfRange => first | rfl | k_is)
    (case s_NotThere_Malformed => first | rfl | k_is)
    (case s_NotThere_NotThere => first | rfl | k_is)
    (case s_NotThere_Refused => first | rfl | k_is)
    (case s_NotThere_TooMuch => first | rfl | k_is)
    (case e1_Refused => k_is)
    (case e2_Refused => k_is)
    (case e3_Refused => k_is)
    (case e4_Refused => k_is)
    (case e5_Refused => k_is)
    (case sp_Refused => k_is)
    (case s_Refused_OutOfRange => first | rfl | k_is)
    (case s_Refused_Malformed => first | rfl | k_is)
    (case s_Refused_NotThere => first | rfl | k_is)
    (case s_Refused_Refused => first | rfl | k_is)
    (case s_Refused_TooMuch => first | rfl | k_is)
    (case e1_TooMuch => k_is)
    (case e2_TooMuch => k_is)
    (case e3_TooMuch => k_is)
    (case e4_TooMuch => k_is)
    (case e5_TooMuch => k_is)
    (case sp_TooMuch => k_is)
    (case s_TooMuch_OutOfRange => first | rfl | k_is)
    (case s_TooMuch_Malformed => first | rfl | k_is)
    (case s_TooMuch_NotThere => first | rfl | k_is)
    (case s_TooMuch_Refused => first | rfl | k_is)
    (case s_TooMuch_TooMuch => first | rfl | k_is)
    (case m_is_number => k_is)
    (case l_is_number => k_is)
    (case cc_is_number => k_is)
    (case kk_is_number => k_is)
    (case m_place_of => k_is)
    (case l_place_of => k_is)
    (case cc_place_of => k_is)
    (case kk_place_of => k_is)
    (case m_value_in => k_is)
    (case l_value_in => k_is)
    (case cc_value_in => k_is)
    (case kk_value_in => k_is)
    (case m_end_of => k_is)
    (case l_end_of => k_is)
    (case cc_end_of => k_is)
    (case kk_end_of => k_is)
    (case m_Queue_init => k_is)
    (case i_Queue_init => k_is)
    (case l_Queue_init => k_is)
    (case cc_Queue_init => k_is)
    (case kk_Queue_init => k_is)
    (case m_Queue_put => k_is)
    (case i_Queue_put => k_is)
    (case l_Queue_put => k_is)
    (case cc_Queue_put => k_is)
    (case kk_Queue_put => k_is)
    (case m_Queue_place => k_is)
    (case i_Queue_place => k_is)
    (case l_Queue_place => k_is)
    (case cc_Queue_place => k_is)
    (case kk_Queue_place => k_is)
    (case m_Queue_take => k_is)
    (case i_Queue_take => k_is)
    (case l_Queue_take => k_is)
    (case cc_Queue_take => k_is)
    (case kk_Queue_take => k_is)
    (case m_Queue_many => k_is)
    (case i_Queue_many => k_is)
    (case l_Queue_many => k_is)
    (case cc_Queue_many => k_is)
    (case kk_Queue_many => k_is)
    (case m_Queue_waiting => k_is)
    (case i_Queue_waiting => k_is)
    (case l_Queue_waiting => k_is)
    (case cc_Queue_waiting => k_is)
    (case kk_Queue_waiting => k_is)
    (case m_Queue_lost => k_is)
    (case i_Queue_lost => k_is)
    (case l_Queue_lost => k_is)
    (case cc_Queue_lost => k_is)
    (case kk_Queue_lost => k_is)
    (case m_Wires_init => k_is)
    (case i_Wires_init => k_is)
    (case l_Wires_init => k_is)
    (case cc_Wires_init => k_is)
    (case kk_Wires_init => k_is)
    (case m_Wires_wire_from => k_is)
    (case i_Wires_wire_from => k_is)
    (case l_Wires_wire_from => k_is)
    (case cc_Wires_wire_from => k_is)
    (case kk_Wires_wire_from => k_is)
    (case m_Wires_queue => k_is)
    (case i_Wires_queue => k_is)
    (case l_Wires_queue => k_is)
    (case cc_Wires_queue => k_is)
    (case kk_Wires_queue => k_is)
    (case m_Wires_put => k_is)
    (case i_Wires_put => k_is)
    (case l_Wires_put => k_is)
    (case cc_Wires_put => k_is)
    (case kk_Wires_put => k_is)
    (case m_Wires_take => k_is)
    (case i_Wires_take => k_is)
    (case l_Wires_take => k_is)
    (case cc_Wires_take => k_is)
    (case kk_Wires_take => k_is)
    (case m_Wires_ready => k_is)
    (case i_Wires_ready => k_is)
    (case l_Wires_ready => k_is)
    (case cc_Wires_ready => k_is)
    (case kk_Wires_ready => k_is)
    (case m_Wires_things => k_is)
    (case i_Wires_things => k_is)
    (case l_Wires_things => k_is)
    (case cc_Wires_things => k_is)
    (case kk_Wires_things => k_is)
    (case m_Wires_lost => k_is)
    (case i_Wires_lost => k_is)
    (case l_Wires_lost => k_is)
    (case cc_Wires_lost => k_is)
    (case kk_Wires_lost => k_is)
    (case m_law_draws => k_is)
    (case l_law_draws => k_is)
    (case cc_law_draws => k_is)
    (case kk_law_draws => k_is)
    (case m_law_take => k_is)
    (case l_law_take => k_is)
    (case cc_law_take => k_is)
    (case kk_law_take => k_is)
    (case m_law_alike => k_is)
    (case l_law_alike => k_is)
    (case cc_law_alike => k_is)
    (case kk_law_alike => k_is)
    (case m_law_says => k_is)
    (case l_law_says => k_is)
    (case cc_law_says => k_is)
    (case kk_law_says => k_is)
    (case m_law_word => k_is)
    (case l_law_word => k_is)
    (case cc_law_word => k_is)
    (case kk_law_word => k_is)
    (case m_law_kind => k_is)
    (case l_law_kind => k_is)
    (case cc_law_kind => k_is)
    (case kk_law_kind => k_is)
    (case m_law_links => k_is)
    (case l_law_links => k_is)
    (case cc_law_links => k_is)
    (case kk_law_links => k_is)
    (case m_law_packets => k_is)
    (case l_law_packets => k_is)
    (case cc_law_packets => k_is)
    (case kk_law_packets => k_is)
    (case m_law_told => k_is)
    (case l_law_told => k_is)
    (case cc_law_told => k_is)
    (case kk_law_told => k_is)
    (case m_law => k_is)
    (case l_law => k_is)
    (case cc_law => k_is)
    (case kk_law => k_is)
#print axioms PySem.Challenge.cw_pathsallowed_k44_whole_wires_of_links_holds
