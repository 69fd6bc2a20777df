import PyProof.Rows.All
import Wide.All
import OpenK.AllK
import Wide.FinOn
import PyProof.ListRange
import PyProof.DelItemList
import PyProof.RulesDelMore
import HandS.ForMost
import HandS.ForExc
import HandS.Flow
import HandS.Style
import HandS.Rev
import HandS.TupMul
import HandS.TupAny
import HandS.Wide
import HandS.Evl
import HandS.IsInst
import HandS.SetFor
import PySem.Challenge.RW_retiredastold_k03_whole_caches_by_rows_o
set_option Elab.async false
set_option linter.all false
set_option maxRecDepth 100000
set_option maxHeartbeats 4000000
namespace L2
open PySem PySem.Spec PyProof.Rows
section
variable {X : Cx}
/-- o.f as one of several targets -/
def gFld (K : PySem.W.Frag) (ta : TE) (f : Str) : TG := fun v σ H Q => ta σ H fun x H1 => ∃ a C dx fs, x = .ref a ∧ H1 a = some (.ins C dx fs) ∧ Cls K C ∧ NoAttr K C f ∧ fs.length < 1000 ∧ Q σ (upd H1 a (.ins C dx (putF f v fs)))
theorem pg_fld {o : Expr} {f : Str} {ta : TE} {pos : Pos} (ha : PE X o ta) (hb : True ∨ True := .inl trivial) : PG X (.Attribute o f pos) (gFld X.K ta f) := by
  refine ⟨fun pins s σ H v u Q I r h => ?_⟩
  rw [assign_Attribute]
  refine wpAny_bind (wpAny_holding (thn (ha.run pins s σ H _ I h) fun ov s2 ⟨x, H2, I2, rx, a, C, dx, fs, ex, ea, c, n, l, q2⟩ => ?_))
  subst ex
  obtain rfl : ov = Value.ref a := rx
  refine wpAny_bind (wpAny_standAt (wpAny_bind (wpAny_holding ?_)))
  exact setattr_ok I2 ea c n l r fun s3 I3 => wpAny_release ⟨σ, _, I3, q2⟩
end
end L2
namespace L2
open PySem PySem.Spec PyProof.Rows
theorem fm_drop {α : Type} (f : Nat → Bool) (c : Nat) (hf : ∀ k, f k = decide (k < c)) : ∀ (its : List α) (j : Nat), ((its.zipIdx j).filterMap fun p => if f p.2 = true then none else some p.1) = its.drop (c - j)
  | [], j => by simp
  | a :: r, j => by
    rw [List.zipIdx_cons, List.filterMap_cons]
    have ih := fm_drop f c hf r (j + 1)
    by_cases h : j < c
    · have e : f j = true := by rw [hf]; exact decide_eq_true h
      simp only [e, if_true]
      rw [ih]
      have e2 : c - j = (c - (j + 1)) + 1 := by omega
      rw [e2, List.drop_succ_cons]
    · have e : f j = false := by rw [hf]; exact decide_eq_false h
      simp only [e, Bool.false_eq_true, if_false]
      rw [ih]
      have e2 : c - j = 0 := by omega
      have e3 : c - (j + 1) = 0 := by omega
      rw [e2, e3]
      simp
theorem bounds_to {c n : Nat} (hc : c ≤ n) : sliceBounds none (some (c : Int)) none n = (0, (c : Int), 1) := by
  simp only [sliceBounds, Option.getD_none]
  have h2 : ¬ ((c : Int) < 0) := by omega
  simp only [h2, if_false, show (1 : Int) > 0 by decide, if_true]
  congr 2
  omega
section
variable {prog : Program} {w : World} {A : Around} {E : Value → Shared → Prop} {s : Shared}
theorem delItem_to {l sl : Addr} {its : List Value} {n : Nat} {vu : Value} {c : Nat} {Q : Unit → Shared → Prop}
    (e : s.heap.get? l = some { cls := .type "list", data := .seq its.toArray n }) (hs : s.heap.IsSliceOf sl .none vu .none) (pu : IsPart vu (some (c : Int))) (hc : c ≤ its.length) (hsz : its.length ≤ sizeLine)
    (h : ∀ f : Array Value → Array Value, f its.toArray = (its.drop c).toArray → Q () { s with heap := s.heap.update l (Obj.mapSeq f) }) :
    wpAny (model prog w) A (delItem (.ref l) (.ref sl)) Q E s := by
  have hl : s.heap.IsList l its.toArray := PySem.IsL.isList e
  obtain ⟨os, hos, hcs, hds⟩ := id hs
  have hTs : s.TypeIs (.ref sl) "slice" := ⟨os, hos, hcs⟩
  have hstep : ¬ ((rawPart none == rawInt 0) = true) := Bool.false_ne_true
  unfold delItem
  try with_reducible refine wpAny_holding ?_
  first | refine wpAny_bind (wpAny_pure ?_) | skip
  refine wpAny_bind (wpAny_sequenceKey hl.typeIs (by decide) ?_)
  refine wpAny_bind (wpAny_callSpecial?_slot (name := Str.ofString "__delitem__") hl.typeIs F.slot_list_delitem
    (wpAny_call_entry F.slot_list_delitem hl.typeIs F.entry_list_delitem ?_ (F.args_list_delitem_2 _ _)))
  show wpAny _ _ (Builtin.List.listSubscript? (.ref sl) >>= _) _ _ s
  refine wpAny_bind ?_
  unfold Builtin.List.listSubscript?
  refine wpAny_bind (wpAny_specialOf hTs slice_no_index ?_)
  simp only [Option.isNone_none, if_true]
  refine wpAny_pure ?_
  show wpAny _ _ (typeOf (.ref sl) >>= _) _ _ s
  refine wpAny_bind (wpAny_typeOf hTs ?_)
  first
    | rw [if_neg (by decide)]
    | refine PySem.W.KFB.if_not (by decide) ?_
  rw [listSliceParts_eq]
  refine wpAny_bind (wpAny_bind (wpAny_field hos hds (x := .none) rfl (wpAny_bind (wpAny_listPart .none ?_))))
  rw [if_neg hstep]
  refine wpAny_bind (wpAny_field hos hds (x := .none) rfl (wpAny_bind (wpAny_listPart .none ?_)))
  refine wpAny_bind (wpAny_field hos hds (x := vu) rfl (wpAny_bind (wpAny_listPart pu (wpAny_pure ?_))))
  unfold Builtin.List.listItems
  refine wpAny_bind (wpAny_bind (wpAny_seqItems e rfl (wpAny_pure ?_)))
  refine wpAny_bind (wpAny_of_eq ((sliceIndices_raw none (some (c : Int)) none its.toArray.size (by simp)).trans (congrArg (pure : Int × Int × Int → Sem (Int × Int × Int)) (bounds_to (by rw [List.size_toArray]; exact hc)))) ?_)
  dsimp only
  refine wpAny_bind (wpAny_rule ?_)
  show wpAny _ _ (updateSeq l (fun xs => (xs.toList.zipIdx.filterMap fun p => if _ = true then none else some p.1).toArray) >>= _) _ _ s
  have key : ∀ g : Nat → Bool, (∀ k, g k = decide (k < c)) → (fun xs : Array Value => (xs.toList.zipIdx.filterMap fun p => if g p.2 = true then none else some p.1).toArray) its.toArray = (its.drop c).toArray := fun g hg => by
    show ((its.zipIdx 0).filterMap _).toArray = _
    rw [fm_drop g c hg its 0, Nat.sub_zero]
  refine wpAny_bind (wpAny_updateSeq (hz := by rw [List.size_toArray]; exact hsz) (_hz' := ?z) e rfl (wpAny_bind (wpAny_letGo (wpAny_pure ⟨.none, rfl, wpAny_pure (h _ (key _ fun k => ?k))⟩))))
  case k =>
    show (if (1 : Int) > 0 then decide ((0 : Int) ≤ (k : Int)) && decide ((k : Int) < (c : Int)) && (((k : Int) - 0) % 1 == 0) else _) = decide (k < c)
    rw [if_pos (by decide), Int.emod_one]
    by_cases h : k < c
    · rw [decide_eq_true h, decide_eq_true (show (0 : Int) ≤ (k : Int) by omega), decide_eq_true (show (k : Int) < (c : Int) by omega)]
      rfl
    · rw [decide_eq_false h, decide_eq_false (show ¬ (k : Int) < (c : Int) by omega)]
      simp
  case z =>
    show ((its.zipIdx 0).filterMap _).toArray.size ≤ _
    rw [List.size_toArray]
    refine Nat.le_trans (List.length_filterMap_le _ _) ?_
    rw [List.length_zipIdx]
    omega
end
section
variable {X : Cx}
set_option maxHeartbeats 8000000
/-- del xs[:e] of a list, 0 ≤ e ≤ its length -/
def tDelS (to ti : TE) : TS := fun D σ H => to σ H fun x H1 => ti σ H1 fun y H2 => ∃ (l : Addr) (xs : List V) (c : Nat), x = .ref l ∧ y = .int (c : Int) ∧ H2 l = some (.lst xs) ∧ c ≤ xs.length ∧ D.nx σ (upd H2 l (.lst (xs.drop c)))
theorem ps_delS {o i : Expr} {to ti : TE} {tpos p2 pos : Pos} (ho : PE X o to) (hi : PE X i ti) : PS X (.Delete [.Subscript o (.Slice none (some i) none p2) tpos] pos) (tDelS to ti) := by
  refine ⟨fun pins s σ H D I h => ?_⟩
  refine wpAny_Delete (wpAny_deleteEach_cons (wpAny_delete_Subscript (thn (ho.run pins s σ H _ I h) fun u s1 ⟨x, H1, I1, rx, q1⟩ => ?_)))
  refine wpAny_Slice ?_
  rw [evalPart_none]
  refine wpAny_pure ?_
  refine thn (hi.run pins s1 σ H1 _ I1 q1) fun iv s2 ⟨y, H2, I2, ry, l, xs, c, ex, ey, hH, hc, q2⟩ => ?_
  refine wpAny_pure ?_
  subst ex
  subst ey
  cases (show u = Value.ref l from rx)
  obtain ⟨t, rfl⟩ := (show ∃ t, iv = Value.int (c : Int) t from ry)
  have I3 : Inv X pins σ H2 { s2 with heap := s2.heap.push { cls := .type "slice", data := .fields #[.none, .int (c : Int) t, .none] } } := I2.kept (t' := s2.toks) fun b ob q => Heap.get?_push_of_some _ q
  obtain ⟨z, its, n, r, hl, e⟩ := I3.lstM hH
  refine delItem_to e (Heap.IsSliceOf.new ..) (.int _ _) (by omega) (by omega) fun f hf => wpAny_deleteEach_nil ⟨σ, _, I3.lset (t' := s2.toks) hH e hf (r.drop c) ?_, q2⟩
  rw [List.length_drop]
  omega
end
end L2
namespace RT
open PySem PySem.Spec PyProof.Rows L2
section
variable {prog : Program} {w : World} {A : Around} {E : Value → Shared → Prop} {s : Shared}
theorem extend_rev {R : Result → Shared → Prop} {it l S : Addr} {items : Array Value} (hh : A.handled = none) (hit : s.heap.IsRevIter it l ((items.size : Int) - 1)) (hl : s.heap.IsList l items) (hSi : S ≠ it) (hSl : S ≠ l) (hn : items.size ≤ sizeLine) (c₀ : Nat)
    (hS : s.heap.get? S = some { cls := .type "list", data := .seq #[] c₀ }) (res : Value)
    (hR : ∀ h' tk acc c', (∀ b o, b ≠ S → b ≠ it → s.heap.get? b = some o → h'.get? b = some o) → h'.get? S = some { cls := .type "list", dict := none, data := .seq acc c', slots := #[] } →
      ItemsOf (fun i v => items[items.size - 1 - i]? = some v) acc items.size → R (.ok (.ret res)) { s with heap := h', toks := tk }) (hne : l ≠ it) :
    wpAny (model prog w) A.in1 (Builtin.List.listExtendWith (.ref S) (.ref it) res)
      (fun fin s' => match fin with | .done f => R (.ok f) s' | .again c' => c'.quiet = true ∧ codeAny (model prog w) A c' R s') (fun e s' => R (.error e) s') s := by
  have W := (Walks.listRev (prog := prog) (w := w) (A := A.in1) hh it l hne items).toS
  have hSf : S ∉ [it, l] := by simp only [List.mem_cons, List.not_mem_nil, or_false, not_or]; exact ⟨hSi, hSl⟩
  have hT : s.TypeIs (.ref it) "list_reverseiterator" := Heap.IsRevIter.typeIs hit
  have h1 : Builtin.List.listSameRef (.ref S) (.ref it) = false := by simp [Builtin.List.listSameRef, hSi]
  unfold Builtin.List.listExtendWith
  refine wpAny_bind (wpAny_typeOf hT ?_)
  rw [if_neg (by rw [h1]; decide)]
  refine wpAny_bind (wpAny_pyIter_revIter hit ?_)
  refine wpAny_bind (wpAny_holding ?_)
  unfold Builtin.List.listLengthHint
  refine wpAny_bind (wpAny_specialOf hT nolen_lri ?_)
  show wpAny _ A.in1 (specialOf (Value.ref it) (Str.ofString "__length_hint__") >>= _) _ _ _
  refine wpAny_bind (wpAny_specialOf hT hint_lri ?_)
  generalize hid : ("list_reverseiterator.__length_hint__" : String) = id0
  wp_delta
  rw [show splitId id0 = some ("list_reverseiterator", "__length_hint__") from by subst hid; decide +kernel]
  subst hid
  refine wpAny_bind (wpAny_isInstance (b := true) hT (by rw [isSubtype_type]; kernel_rfl) ?_)
  refine wpAny_pure ?_
  rw [if_neg (by decide)]
  have e0 : ((items.size : Nat) : Int) - 1 - ((0 : Nat) : Int) = (items.size : Int) - 1 := by omega
  refine wpAny_pure ⟨plainId_quiet F.plain_extend_loop _, codeAny_extend_loopS W hn _ hSf _ items.size 0 _ _ _ rfl (Nat.zero_le _) ⟨Nat.zero_le _, by rw [e0]; exact hit, hl⟩ hS (ItemsOf.nil _) fun s' acc' c' hm hS' hacc => ?_⟩
  rw [Moved.eq_with hm]
  refine hR s'.heap s'.toks acc' c' (fun b o hb hb2 e => hm.heap b o (fun hmem => ?_) e) hS' hacc
  rcases List.mem_cons.mp hmem with e' | hmem
  · exact hb e'
  · exact hb2 (List.mem_singleton.mp hmem)
theorem init_rev {R : Result → Shared → Prop} {it l S : Addr} {items : Array Value} (hh : A.handled = none) (hit : s.heap.IsRevIter it l ((items.size : Int) - 1)) (hl : s.heap.IsList l items) (hSi : S ≠ it) (hSl : S ≠ l) (hn : items.size ≤ sizeLine)
    (hS : s.heap.get? S = some { cls := .type "list", data := .seq #[] })
    (hR : ∀ h' tk acc c', (∀ b o, b ≠ S → b ≠ it → s.heap.get? b = some o → h'.get? b = some o) → h'.get? S = some { cls := .type "list", dict := none, data := .seq acc c', slots := #[] } →
      ItemsOf (fun i v => items[items.size - 1 - i]? = some v) acc items.size → R (.ok (.ret .none)) { s with heap := h', toks := tk }) (hne : l ≠ it) :
    wpAny (model prog w) A.in1 (Builtin.«list.__init__» ⟨[.ref S, .ref it], []⟩)
      (fun fin s' => match fin with | .done f => R (.ok f) s' | .again c' => c'.quiet = true ∧ codeAny (model prog w) A c' R s') (fun e s' => R (.error e) s') s := by
  show wpAny _ _ (do let old ← Builtin.List.listItems (.ref S); Builtin.List.listUpdate (.ref S) (fun _ => #[]); letGo old.toList.reverse; Builtin.List.listExtendWith (.ref S) (.ref it) .none) _ _ s
  refine wpAny_bind ?_
  unfold Builtin.List.listItems
  refine wpAny_bind (wpAny_seqItems hS rfl (wpAny_pure ?_))
  show wpAny _ _ (updateSeq S (fun _ => #[]) >>= fun _ => letGo (#[] : Array Value).toList.reverse >>= fun _ => Builtin.List.listExtendWith (.ref S) (.ref it) .none) _ _ s
  refine wpAny_bind (wpAny_updateSeq hS rfl ?_)
  have hS₂ := Heap.get?_update_self (Obj.mapSeq (fun _ => (#[] : Array Value))) hS rfl
  have oth : ∀ b o, b ≠ S → s.heap.get? b = some o → (s.heap.update S (Obj.mapSeq (fun _ => (#[] : Array Value)))).get? b = some o :=
    fun b o hb e => (Heap.get?_update_other _ _ (Ne.symm hb)).trans e
  refine wpAny_bind (wpAny_letGo ?_)
  have hl2 : (s.heap.update S (Obj.mapSeq (fun _ => (#[] : Array Value)))).IsList l items := let ⟨o, e, r⟩ := hl; ⟨o, oth l o (Ne.symm hSl) e, r⟩
  refine extend_rev hh (hit.at fun o e => oth it o (Ne.symm hSi) e) hl2 hSi hSl hn _ hS₂ .none (fun h' tk acc c' hk hS' hacc => ?_) hne
  exact hR h' tk acc c' (fun b o hb hb2 e => hk b o hb hb2 (oth b o hb e)) hS' hacc
theorem call_list_rev {it l : Addr} {items : Array Value} {Q : Value → Shared → Prop} (hh : A.handled = none) (hit : s.heap.IsRevIter it l ((items.size : Int) - 1)) (hl : s.heap.IsList l items) (hne : l ≠ it) (hn : items.size ≤ sizeLine)
    (hQ : ∀ h' tk acc c', (∀ b o, b ≠ it → s.heap.get? b = some o → h'.get? b = some o) →
      h'.get? s.heap.objs.size = some { cls := .type "list", dict := none, data := .seq acc c', slots := #[] } → ItemsOf (fun i v => items[items.size - 1 - i]? = some v) acc items.size → Q (.ref s.heap.objs.size) { s with heap := h', toks := tk }) :
    wpAny (model prog w) A (call (.type "list") [.ref it]) Q E s := by
  obtain ⟨oi, hoi, _⟩ := id hit
  obtain ⟨ol, hol, _⟩ := id hl
  have hSi : s.heap.objs.size ≠ it := Nat.ne_of_gt (Heap.lt_size hoi)
  have hSl : s.heap.objs.size ≠ l := Nat.ne_of_gt (Heap.lt_size hol)
  refine callType_codes (Q₁ := fun obj s₁ => obj = .ref s.heap.objs.size ∧ s₁ = { s with heap := s.heap.push { cls := .type "list", data := .seq #[] } }) F.called_list (F.typeCall_list_1 _) F.entry_list_init
    (code_list_new _ ⟨rfl, rfl⟩) fun obj s₁ h₁ => ?_
  obtain ⟨rfl, rfl⟩ := h₁
  have hS : (s.heap.push { cls := .type "list", data := .seq #[] }).get? s.heap.objs.size = some { cls := .type "list", data := .seq #[] } := Heap.get?_push_size _ rfl
  refine ⟨⟨_, hS, rfl⟩, F.args_list_init_2 _ _, init_rev (A := A.in1) (s := { s with heap := s.heap.push { cls := .type "list", data := .seq #[] } }) hh (hit.at fun o e => Heap.get?_push_of_some _ e) (hl.push _) hSi hSl hn hS (fun h' tk acc c' hk hS' hacc => ?_) hne⟩
  exact ⟨rfl, hQ h' tk acc c' (fun b o hb e => hk b o (Nat.ne_of_lt (Heap.lt_size e)) hb (Heap.get?_push_of_some _ e)) hS' hacc⟩
end
/-- list(reversed(x)), x a list: a new list -/
def tListRev (K : PySem.W.Frag) (te : TE) : TE := fun σ H Q => te σ H fun v H1 => ∃ (a : Addr) (xs : List V), v = .ref a ∧ SqL K H1 a xs ∧ ∀ q, H1 q = none → Q (.ref q) (upd H1 q (.lst xs.reverse))
section
variable {X : Cx}
theorem pe_listRev {e : Expr} {te : TE} {p p2 pos pos2 : Pos} (hc : X.calm = true) (hg : Gl X "list") (hm : X.mg "list" = none) (hg2 : Gl X "reversed") (hm2 : X.mg "reversed" = none) (he : PE X e te)
    (hs : starEach [e] X.env = (false, eval e X.env) :: starEach [] X.env := by rfl)
    (hs2 : starEach [.Call (.Name "reversed" p2) [e] [] pos2] X.env = (false, eval (.Call (.Name "reversed" p2) [e] [] pos2) X.env) :: starEach [] X.env := by rfl) :
    PE X (.Call (.Name "list" p) [.Call (.Name "reversed" p2) [e] [] pos2] [] pos) (tListRev X.K te) := by
  refine ⟨fun pins s σ H Q I h => ?_⟩
  refine Call_ (ld_blt I hg hm boot_list (PyProof.Rows.callWith_type1 (args_cons (Call_ (ld_blt I hg2 hm2 PyProof.Rows.boot_reversed (PyProof.Rows.callWith_type1 (args_cons (thn (he.run pins s σ H _ I h) fun u s1 ⟨v, H1, I1, r1, q1⟩ => args_nil ?_) hs) hs rfl))) hs2) hs2 rfl))
  obtain ⟨a, xs, ev, hq, q⟩ := q1
  subst ev
  obtain rfl : u = Value.ref a := r1
  obtain ⟨its, rv, p', hz⟩ := I1.list hq
  refine call_reversed_list p'.isList (args_nil ?_)
  have k0 : ∀ b o, s1.heap.get? b = some o → (s1.heap.push (revObj a ((its.toArray.size : Int) - 1))).get? b = some o := fun b o e => Heap.get?_push_of_some _ e
  have I2 : Inv X pins σ H1 { s1 with heap := s1.heap.push (revObj a ((its.toArray.size : Int) - 1)) } := I1.kept (t' := s1.toks) k0
  obtain ⟨f0, f1, f2, f3, f4, f5⟩ := I1.fpOk (H' := H1) (b := s1.heap.objs.size) (Nat.le_refl _) (I1.hok.fresh (Nat.le_refl _))
  have hl := p'.isList
  obtain ⟨ol, hol, _⟩ := id hl
  have hne : a ≠ s1.heap.objs.size := Nat.ne_of_lt (Heap.lt_size hol)
  have hn : its.toArray.size ≤ sizeLine := by rw [List.size_toArray, ← rv.length]; exact hz
  refine call_list_rev (s := { s1 with heap := s1.heap.push (revObj a ((its.toArray.size : Int) - 1)) }) (I1.ok.hd hc) ⟨_, Heap.get?_push_size _ rfl, rfl, rfl⟩ (hl.push _) hne hn fun h' tk acc c' hk hS hi => ?_
  have I3 : Inv X pins σ H1 { s1 with heap := h', toks := tk } := I2.turned (t' := tk) (fun b o hb e => hk b o hb e) f0 f1 f3 f4 f5
  have fr : H1 (s1.heap.push (revObj a ((its.toArray.size : Int) - 1))).objs.size = none := I2.hok.fresh (Nat.le_refl _)
  refine ⟨.ref _, upd H1 _ (.lst xs.reverse), ?_, rfl, q _ fr⟩
  generalize hSdef : (s1.heap.push (revObj a ((its.toArray.size : Int) - 1))).objs.size = S at *
  have neS : ∀ b u, H1 b = some u → b ≠ S := fun b u e z => by rw [z, fr] at e; cases e
  have ltS : ∀ b o, (s1.heap.push (revObj a ((its.toArray.size : Int) - 1))).get? b = some o → b ≠ S := fun b o e => by rw [← hSdef]; exact Nat.ne_of_lt (Heap.lt_size e)
  obtain ⟨m0, ⟨o0, es0, ep0, ho0, _⟩, _⟩ := id I2.loc
  have hz2 : xs.reverse.length ≤ sizeLine := by rw [List.length_reverse]; exact hz
  have vr := vals_rev rv hi
  refine I2.step (g' := s1.gens) (d' := s1.drawn) (ch := [s1.heap.objs.size]) (fun b hb => ?_) (fun b o _ _ hc e _ => hk b o (fun z => hc (by simp [z])) e) (fun b o _ _ hc e _ => ⟨o.slots, hk b o (fun z => hc (by simp [z])) e⟩)
    (fun b o hc e n => by rw [upd_ne (ltS b o e)]; exact n) (fun b o hc e => ⟨o, hk b o (fun z => hc (by simp [z])) e⟩)
    (fun b xs e => by rw [upd_ne (neS b _ e)]; exact e) (fun b o u e => by rw [upd_ne (neS b _ e)]; exact e) (fun b ps e => ⟨#[], by rw [upd_ne (neS b _ e), e]; simp⟩) (fun m hm => ?_) (fun b u e => ?_) I2.bare
  · have e : b = s1.heap.objs.size := by simpa using hb
    subst e
    exact ⟨f3, f1, f4, f5⟩
  · obtain ⟨o, es, ep, ho, r⟩ := hm
    exact ⟨o, es, ep, hk _ o (Ne.symm f1) ho, r⟩
  · by_cases hb : b = S
    · subst hb
      rw [upd_same] at e
      cases e
      exact ⟨hz2, acc.toList, c', vr, by rw [Array.toArray_toList]; exact hS⟩
    · rw [upd_ne hb] at e
      exact (I3.hok b u e).stay (fun _ _ _ z => z) (fun c z => by rw [upd_ne (neS c _ z)]; exact z) fun c ys z => by rw [upd_ne (neS c _ z)]; exact z
end
end RT
namespace L2
open PySem PySem.Spec PyProof.Rows
theorem tuple_mul1 (l : Addr) (items : Array Value) (n : Nat) (dd : Option Addr) (sl : Array (Option Value)) (u : Tok) :
    Meets (Builtin.«tuple.__mul__» ⟨[.ref l, .int 1 u], []⟩) (fun _ R s => s.heap.get? l = some { cls := .type "tuple", dict := dd, data := .seq items n, slots := sl } ∧
      R (.ok (.ret (Value.ref l))) s) :=
  .of_wp fun prog w A R s h => by
    obtain ⟨hp, g, d, tk, os⟩ := s
    obtain ⟨hl, h⟩ := h
    have f1 := AutoSeq1.idx_int
    wp_walk using wpAny_loadPart' hl
    exact ⟨_, rfl, h⟩
/-- a tuple, not empty, times an int from 1 to 1000; times 1 it is the tuple itself -/
def rRepA (K : PySem.W.Frag) : R2 := fun x y H Q => ∃ l k xs, x = .ref l ∧ y = .int k ∧ SqT K H l xs ∧ xs ≠ [] ∧ 1 ≤ k ∧ k ≤ 1000 ∧ xs.length ≤ 1000 ∧ (k = 1 → Q (.ref l) H) ∧ (2 ≤ k → ∀ p, H p = none → Q (.ref p) (upd H p (.tup (List.replicate k.toNat xs).flatten)))
theorem op_repA {X : Cx} : OpR X (binaryOp .Mult) (rRepA X.K) := by
  intro pins s σ H x y v u Q I rx ry h
  obtain ⟨l, k, xs, rfl, rfl, hT, hne, h1, h2, hz, q1, q2⟩ := h
  by_cases hk : k = 1
  · subst hk
    cases rx
    obtain ⟨t, rfl⟩ := ry
    obtain ⟨its, r, ⟨⟨cls, dd, data, sl⟩, ho, hc, n, hd⟩, hs⟩ := I.tuple hT
    simp only at hc hd
    subst hc hd
    exact wpAny_binaryOp_repeat_ref (T := "tuple") (U := "int") (by decide) ⟨_, ho, rfl⟩ (fun s' => typeIs_int s' 1 t) noFill_tuple_mul F.fills_int_mul F.slot_int_rmul repeat_tuple F.slot_int_index.lookup
      (call_meets F.slot_int_rmul (typeIs_int s 1 t) F.entry_int_rmul (F.args_int_rmul_2 _ _) (int_rmul_tuple 1 t l its.toArray n dd sl)
        ⟨ho, rfl, ⟨_, ho, rfl⟩, call_meets F.slot_tuple_mul ⟨_, ho, rfl⟩ F.entry_tuple_mul (F.args_tuple_mul_2 _ _) (tuple_mul1 l its.toArray n dd sl t) ⟨ho, ⟨.ref l, H, I, rfl, q1 rfl⟩⟩⟩)
  · exact op_repT pins s σ H _ _ v u Q I rx ry ⟨l, k, xs, rfl, rfl, hT, hne, by omega, h2, hz, q2 (by omega)⟩
end L2
/-! ### heaps that change at known places alone -/
namespace RX
open PySem PySem.Spec PyProof.Rows L2
/-- what stood stands, but at the places B; tuples stand everywhere; nothing goes -/
structure ExB (B : List Addr) (H H' : Hp) : Prop where
  keep : ∀ a o, a ∉ B → H a = some o → H' a = some o
  tups : ∀ a xs, H a = some (.tup xs) → H' a = some (.tup xs)
  back : ∀ a, H' a = none → H a = none
theorem ExB.refl (B : List Addr) (H : Hp) : ExB B H H := ⟨fun _ _ _ h => h, fun _ _ h => h, fun _ h => h⟩
theorem ExB.trans {B : List Addr} {H H1 H2 : Hp} (a : ExB B H H1) (b : ExB B H1 H2) : ExB B H H2 :=
  ⟨fun x o n h => b.keep x o n (a.keep x o n h), fun x xs h => b.tups x xs (a.tups x xs h), fun x h => a.back x (b.back x h)⟩
theorem ExB.sub {B C : List Addr} {H H' : Hp} (h : ExB B H H') (s : ∀ a ∈ B, a ∈ C) : ExB C H H' := ⟨fun a o n e => h.keep a o (fun z => n (s a z)) e, h.tups, h.back⟩
theorem _root_.L2.Same.exB {B : List Addr} {H H' : Hp} (h : Same H H') : ExB B H H' := ⟨fun a o _ e => h a o e, fun a xs e => h a _ e, fun a e => Same.free h e⟩
theorem ExB.same {H H' : Hp} (h : ExB [] H H') : Same H H' := fun a o e => h.keep a o (by simp) e
theorem same_new {H : Hp} {p : Addr} {o : HO} (h : H p = none) : Same H (upd H p o) := fun b u e => by rw [upd_ne (ne_of_none e h)]; exact e
theorem exB_new {B : List Addr} {H : Hp} {p : Addr} {o : HO} (h : H p = none) : ExB B H (upd H p o) := Same.exB (same_new h)
theorem exB_put {B : List Addr} {H : Hp} {p : Addr} {o u : HO} (e : H p = some u) (ht : ∀ xs, u ≠ .tup xs) (hp : p ∈ B) : ExB B H (upd H p o) :=
  ⟨fun a v n h => by rw [upd_ne (fun z => n (by rw [z]; exact hp))]; exact h, fun a xs h => by
    rw [upd_ne (fun z => by rw [z, e] at h; exact ht xs (Option.some.inj h))]; exact h, fun a h => by
    by_cases z : a = p
    · rw [z, upd_same] at h; cases h
    · rw [upd_ne z] at h; exact h⟩
/-- a place outside of what changes -/
theorem ExB.at {B : List Addr} {H H' : Hp} (h : ExB B H H') {a : Addr} {o : HO} (n : a ∉ B) (e : H a = some o) : H' a = some o := h.keep a o n e
theorem _root_.L2.Same.at {H H' : Hp} (h : Same H H') {a : Addr} {o : HO} (e : H a = some o) : H' a = some o := h a o e
theorem sqT_exB {K : PySem.W.Frag} {B : List Addr} {H H' : Hp} {a : Addr} {xs : List V} (h : ExB B H H') (hf : ∀ o u, H a = some (.frz o u) → a ∉ B) (q : SqT K H a xs) : SqT K H' a xs := by
  rcases q with (q | ⟨o, q⟩) | q
  · exact .inl (.inl (h.tups _ _ q))
  · exact .inl (.inr ⟨o, h.keep _ _ (hf _ _ q) q⟩)
  · exact .inr q
theorem sqT_same {K : PySem.W.Frag} {H H' : Hp} {a : Addr} {xs : List V} (h : Same H H') (q : SqT K H a xs) : SqT K H' a xs := by
  rcases q with (q | ⟨o, q⟩) | q
  · exact .inl (.inl (h _ _ q))
  · exact .inl (.inr ⟨o, h _ _ q⟩)
  · exact .inr q
/-! ### data as trees -/
mutual
/-- tuples of tuples .. of what does not change: no list -/
inductive Fz (H : Hp) : V → PyData → Prop
  | non : Fz H .non .none
  | bl (b : Bool) : Fz H (.bl b) (.bool b)
  | int (i : Int) : Fz H (.int i) (.int i)
  | str (x : Str) : Fz H (.str x) (.str x)
  | tup {a : Addr} {xs : List V} {ds : List PyData} : H a = some (.tup xs) → FzAll H xs ds → Fz H (.ref a) (.tuple ds)
inductive FzAll (H : Hp) : List V → List PyData → Prop
  | nil : FzAll H [] []
  | cons {v : V} {vs : List V} {d : PyData} {ds : List PyData} : Fz H v d → FzAll H vs ds → FzAll H (v :: vs) (d :: ds)
end
section
variable {K : PySem.W.Frag} {H H' : Hp} {B : List Addr}
mutual
theorem Fz.mono (h : ∀ a xs, H a = some (.tup xs) → H' a = some (.tup xs)) : ∀ {v : V} {d : PyData}, Fz H v d → Fz H' v d
  | _, _, .non => .non
  | _, _, .bl b => .bl b
  | _, _, .int i => .int i
  | _, _, .str x => .str x
  | _, _, .tup e q => .tup (h _ _ e) (FzAll.mono h q)
theorem FzAll.mono (h : ∀ a xs, H a = some (.tup xs) → H' a = some (.tup xs)) : ∀ {v : List V} {d : List PyData}, FzAll H v d → FzAll H' v d
  | _, _, .nil => .nil
  | _, _, .cons a r => .cons (Fz.mono h a) (FzAll.mono h r)
end
mutual
theorem Fz.dp : ∀ {v : V} {d : PyData}, Fz H v d → Dp K H v d
  | _, _, .non => .non
  | _, _, .bl b => .bl b
  | _, _, .int i => .int i
  | _, _, .str x => .str x
  | _, _, .tup e q => .tup (SqT.of e) (FzAll.dp q)
theorem FzAll.dp : ∀ {v : List V} {d : List PyData}, FzAll H v d → DpAll K H v d
  | _, _, .nil => .nil
  | _, _, .cons a r => .cons (Fz.dp a) (FzAll.dp r)
end
theorem Fz.exB (h : ExB B H H') {v : V} {d : PyData} (q : Fz H v d) : Fz H' v d := q.mono h.tups
theorem Fz.same (h : Same H H') {v : V} {d : PyData} (q : Fz H v d) : Fz H' v d := q.mono fun a xs e => h a _ e
mutual
theorem dp_same (h : Same H H') : ∀ {v : V} {d : PyData}, Dp K H v d → Dp K H' v d
  | _, _, .non => .non
  | _, _, .bl b => .bl b
  | _, _, .int i => .int i
  | _, _, .str x => .str x
  | _, _, .lst e q => .lst (h.seq e) (dpAll_same h q)
  | _, _, .tup e q => .tup (sqT_same h e) (dpAll_same h q)
theorem dpAll_same (h : Same H H') : ∀ {v : List V} {d : List PyData}, DpAll K H v d → DpAll K H' v d
  | _, _, .nil => .nil
  | _, _, .cons a r => .cons (dp_same h a) (dpAll_same h r)
end
theorem DpAll.length : ∀ {vs : List V} {ds : List PyData}, DpAll K H vs ds → vs.length = ds.length
  | _, _, .nil => rfl
  | _, _, .cons _ r => congrArg (· + 1) (DpAll.length r)
theorem DpAll.get : ∀ {vs : List V} {ds : List PyData} {i : Nat} {v : V}, DpAll K H vs ds → vs[i]? = some v → ∃ d, ds[i]? = some d ∧ Dp K H v d
  | _, _, _, _, .nil, e => by simp at e
  | _, _, 0, _, .cons a _, e => by simp at e; subst e; exact ⟨_, rfl, a⟩
  | _, _, i + 1, _, .cons _ r, e => by
    obtain ⟨d, h1, h2⟩ := DpAll.get (i := i) r (by simpa using e)
    exact ⟨d, by simpa using h1, h2⟩
theorem FzAll.length : ∀ {vs : List V} {ds : List PyData}, FzAll H vs ds → vs.length = ds.length
  | _, _, .nil => rfl
  | _, _, .cons _ r => congrArg (· + 1) (FzAll.length r)
theorem FzAll.get : ∀ {vs : List V} {ds : List PyData} {i : Nat} {v : V}, FzAll H vs ds → vs[i]? = some v → ∃ d, ds[i]? = some d ∧ Fz H v d
  | _, _, _, _, .nil, e => by simp at e
  | _, _, 0, _, .cons a _, e => by simp at e; subst e; exact ⟨_, rfl, a⟩
  | _, _, i + 1, _, .cons _ r, e => by
    obtain ⟨d, h1, h2⟩ := FzAll.get (i := i) r (by simpa using e)
    exact ⟨d, by simpa using h1, h2⟩
theorem FzAll.append : ∀ {vs ws : List V} {ds es : List PyData}, FzAll H vs ds → FzAll H ws es → FzAll H (vs ++ ws) (ds ++ es)
  | _, _, _, _, .nil, q => q
  | _, _, _, _, .cons a r, q => .cons a (FzAll.append r q)
theorem FzAll.ints : ∀ ns : List Int, FzAll H (ns.map V.int) (ns.map PyData.int)
  | [] => .nil
  | n :: r => .cons (.int n) (FzAll.ints r)
theorem depthAll_get : ∀ {ds : List PyData} {i : Nat} {d : PyData}, ds[i]? = some d → d.depth ≤ PyData.depthAll ds
  | [], i, d, h => by simp at h
  | a :: r, 0, d, h => by
    simp at h
    subst h
    exact Nat.le_max_left _ _
  | a :: r, i + 1, d, h => Nat.le_trans (depthAll_get (ds := r) (i := i) (by simpa using h)) (Nat.le_max_right _ _)
end
/-! ### a value's type by its name -/
/-- v is of the built-in type T -/
def OfTy (K : PySem.W.Frag) (H : Hp) (v : V) (T : String) : Prop := TyX K H v (.type T)
section
variable {K : PySem.W.Frag} {H H' : Hp}
theorem ty_non : OfTy K H .non "NoneType" := .base .non
theorem ty_bl {b : Bool} : OfTy K H (.bl b) "bool" := .base (.bl b)
theorem ty_int {i : Int} : OfTy K H (.int i) "int" := .base (.int i)
theorem ty_str {x : Str} : OfTy K H (.str x) "str" := .base (.str x)
theorem ty_tup {a : Addr} {xs : List V} (h : SqT K H a xs) : OfTy K H (.ref a) "tuple" := by
  rcases h with (h | ⟨o, h⟩) | ⟨o, _, _, h, c, _⟩
  · exact .base (.tup h)
  · exact .fTuple h
  · exact .kTuple h c
theorem ty_lst {a : Addr} {xs : List V} (h : SqL K H a xs) : OfTy K H (.ref a) "list" := by
  rcases h with (h | ⟨o, h⟩) | ⟨o, _, _, h, c, _⟩
  · exact .base (.lst h)
  · exact .base (.frz h)
  · exact .kList h c
theorem ty_dK {a : Addr} {kvs : List (Key × V)} (h : H a = some (.dK kvs)) : OfTy K H (.ref a) "dict" := .base (.dK h)
/-- an int is what is of the type int -/
theorem OfTy.int {v : V} (h : OfTy K H v "int") : ∃ i, v = .int i := by
  generalize ht : Value.type "int" = t at h
  have h' : TyX K H v t := by rw [← ht]; exact h
  cases h' with
  | base b => cases b <;> first | exact ⟨_, rfl⟩ | (exfalso; revert ht; decide) | (exfalso; cases ht)
  | _ => first | (exfalso; revert ht; decide) | (exfalso; cases ht)
end
/-- the types that values have here -/
def tyNames : List String := ["NoneType", "bool", "int", "str", "tuple", "list", "dict"]
def isi1 (a b : String) : Bool := decide (a = b) || (decide (a = "bool") && decide (b = "int"))
theorem kit_names {K : PySem.W.Frag} {a b : String} (ha : a ∈ tyNames) (hb : b ∈ tyNames) : PySem.W.kitOne K (.type a) (.type b) = some (isi1 a b) := by
  refine kit_ty ?_
  have h : (tyNames.all fun a => tyNames.all fun b => decide (kitB a b = some (isi1 a b))) = true := by decide +kernel
  have h1 := List.all_eq_true.mp h a ha
  have h2 := List.all_eq_true.mp h1 b hb
  exact of_decide_eq_true h2
end RX
/-! ### readings, one construct a lemma -/
namespace RX
open PySem PySem.Spec PyProof.Rows L2
section
variable {K : PySem.W.Frag} {σ : L2.St} {H : Hp} {Q : VK} {ta tb tc te tv : TE} {x y v : V} {D : Ends} {t u : TS} {A B : TT} {QB : Bool → Hp → Prop}
theorem r_var {i : Nat} (h : σ[i]? = some (some v)) (k : Q v H) : tVar i σ H Q := ⟨v, h, k⟩
theorem r_c (k : Q v H) : tC v σ H Q := k
theorem r_op {r : R2} (k : ta σ H fun x H1 => tb σ H1 fun y H2 => r x y H2 Q) : tOp r ta tb σ H Q := k
theorem r_un {r : V → Hp → VK → Prop} (k : ta σ H fun x H1 => r x H1 Q) : tUn r ta σ H Q := k
theorem r_I0 {g : Int → Int → V} {i j : Int} (k : Q (g i j) H) : rI0 g (.int i) (.int j) H Q := ⟨i, j, rfl, rfl, k⟩
theorem r_I {C : Int → Int → Prop} {g : Int → Int → V} {i j : Int} (c : C i j) (k : Q (g i j) H) : rI C g (.int i) (.int j) H Q := ⟨i, j, rfl, rfl, c, k⟩
theorem r_U {g : Int → V} {i : Int} (k : Q (g i) H) : rU g (.int i) H Q := ⟨i, rfl, k⟩
theorem r_eq (h : scal x y = true) (k : Q (.bl (decide (x = y))) H) : rEq x y H Q := ⟨h, k⟩
theorem r_ne (h : scal x y = true) (k : Q (.bl (!decide (x = y))) H) : rNe x y H Q := ⟨h, k⟩
theorem r_test (k : te σ H fun x H' => ∃ k, x = .bl k ∧ QB k H') : tTest te σ H QB := k
theorem r_tB (k : te σ H fun x H' => ∃ k, x = .bl k ∧ QB k H') : tB te σ H QB := k
theorem r_bl {c : Bool} {R : Bool → Prop} (k : R c) : ∃ c', V.bl c = .bl c' ∧ R c' := ⟨c, rfl, k⟩
theorem r_not (k : A σ H fun c H1 => QB (!c) H1) : tNot A σ H QB := k
theorem r_and (k : A σ H fun c H1 => if c = true then B σ H1 QB else QB false H1) : tAnd A B σ H QB := k
theorem r_or (k : A σ H fun c H1 => if c = true then QB true H1 else B σ H1 QB) : tOr A B σ H QB := k
theorem r_andV (k : ta σ H fun x H1 => ∃ c, x = .bl c ∧ if c = true then tb σ H1 Q else Q (.bl false) H1) : tAndV ta tb σ H Q := k
theorem r_orV (k : ta σ H fun x H1 => ∃ c, x = .bl c ∧ if c = true then Q (.bl true) H1 else tb σ H1 Q) : tOrV ta tb σ H Q := k
theorem r_notV (k : ta σ H fun x H1 => ∃ c, x = .bl c ∧ Q (.bl (!c)) H1) : tNotV ta σ H Q := k
theorem r_if (k : A σ H fun c H1 => if c = true then ta σ H1 Q else tb σ H1 Q) : tIf A ta tb σ H Q := k
theorem r_ifS (k : A σ H fun b H1 => if b = true then t D σ H1 else u D σ H1) : tIfS A t u D σ H := k
theorem r_seq (k : t { D with nx := u D } σ H) : tSeq t u D σ H := k
theorem r_next (k : D.nx σ H) : tNext D σ H := k
theorem r_ret (k : te σ H D.rt) : tRet te D σ H := k
theorem r_drop (k : te σ H fun _ H1 => D.nx σ H1) : tDrop te D σ H := k
theorem r_asg {g : TG} (k : te σ H fun x H1 => g x σ H1 D.nx) : tAsg te g D σ H := k
theorem r_gName {i : Nat} {R : L2.St → Hp → Prop} (k : R (σ.set i (some v)) H) : gName i v σ H R := k
theorem r_nil {QA : List V → Hp → Prop} (k : QA [] H) : tNil σ H QA := k
theorem r_cons {tr : TA} {QA : List V → Hp → Prop} (k : ta σ H fun x H1 => tr σ H1 fun xs H2 => QA (x :: xs) H2) : tCons ta tr σ H QA := k
theorem r_CB {r : List V → Hp → VK → Prop} {tr : TA} (k : tr σ H fun vs H1 => r vs H1 Q) : tCB r tr σ H Q := k
theorem r_call {sp : Sp} {dvs : List V} {E : XK} {tr : TA} (k : tr σ H fun vs H1 => sp (vs ++ dvs) H1 Q E) : tCall sp dvs E tr σ H Q := k
theorem r_chain {r r' : R2} (k : ta σ H fun x H1 => tb σ H1 fun y H2 => r x y H2 fun z H3 => ∃ k, z = .bl k ∧ (if k = true then tc σ H3 fun w' H4 => r' y w' H4 Q else Q (.bl false) H3)) : tChain r r' ta tb tc σ H Q := k
theorem r_tup {tr : TA} (k : tr σ H fun xs H1 => xs.length ≤ sizeLine ∧ ∀ p, H1 p = none → Q (.ref p) (upd H1 p (.tup xs))) : tTup tr σ H Q := k
theorem r_lst {tr : TA} (k : tr σ H fun xs H1 => xs.length ≤ sizeLine ∧ ∀ p, H1 p = none → Q (.ref p) (upd H1 p (.lst xs))) : tLst tr σ H Q := k
/-- a new object: what stood stands -/
theorem n_new {o : HO} {R : Addr → Hp → Prop} (k : ∀ p H1, H p = none → Same H H1 → H1 p = some o → ExB [] H H1 → R p H1) : ∀ p, H p = none → R p (upd H p o) :=
  fun p hp => k p _ hp (same_new hp) upd_same (exB_new hp)
theorem n_tup {xs : List V} (hl : xs.length ≤ sizeLine) (k : ∀ p H1, H p = none → Same H H1 → H1 p = some (.tup xs) → Q (.ref p) H1) : xs.length ≤ sizeLine ∧ ∀ p, H p = none → Q (.ref p) (upd H p (.tup xs)) :=
  ⟨hl, fun p hp => k p _ hp (same_new hp) upd_same⟩
theorem n_lst {xs : List V} (hl : xs.length ≤ sizeLine) (k : ∀ p H1, H p = none → Same H H1 → H1 p = some (.lst xs) → Q (.ref p) H1) : xs.length ≤ sizeLine ∧ ∀ p, H p = none → Q (.ref p) (upd H p (.lst xs)) :=
  ⟨hl, fun p hp => k p _ hp (same_new hp) upd_same⟩
theorem r_fld {f : Str} (k : ta σ H fun x H1 => ∃ a C dx fs v, x = .ref a ∧ H1 a = some (.ins C dx fs) ∧ Cls K C ∧ NoAttr K C f ∧ fs.lookup f = some v ∧ Q v H1) : tFld K ta f σ H Q := k
theorem r_meth {C : Addr} {m : Str} {sp : Sp} {dvs : List V} {E : XK} {tr : TA} (k : ta σ H fun x H1 => ∃ a dx fs, x = .ref a ∧ H1 a = some (.ins C dx fs) ∧ fs.lookup m = none ∧ tr σ H1 fun vs H2 => sp (x :: (vs ++ dvs)) H2 Q E) : tMeth C m sp dvs E ta tr σ H Q := k
theorem r_make {C : Addr} {sp : Sp} {dvs : List V} {E : XK} {tr : TA} (k : tr σ H fun vs H1 => ∀ x dx, H1 x = none → H1 dx = none → dx ≠ x → sp (.ref x :: (vs ++ dvs)) (upd (upd H1 dx (.own x)) x (.ins C dx [])) (fun v H2 => v = .non ∧ Q (.ref x) H2) E) : tMake C sp dvs E tr σ H Q := k
theorem r_BM {T : String} {r : V → List V → Hp → VK → Prop} {tr : TA} (k : ta σ H fun x H1 => tyV K T x H1 ∧ tr σ H1 fun xs H2 => r x xs H2 Q) : tBM K T r ta tr σ H Q := k
theorem r_BM0 {T : String} {r : V → List V → Hp → VK → Prop} (k : ta σ H fun x H1 => tyV K T x H1 ∧ r x [] H1 Q) : tBM0 K T r ta σ H Q := k
theorem n_tyL {p : Addr} {xs : List V} {R : Prop} (h : SqL K H p xs) (k : R) : tyV K "list" (.ref p) H ∧ R := ⟨.inl ⟨rfl, _, h⟩, k⟩
theorem n_append {l : Addr} {xs : List V} (h : H l = some (.lst xs)) (hz : xs.length < sizeLine) (k : ∀ H1, ExB [l] H H1 → H1 l = some (.lst (xs ++ [y])) → Q .non H1) : rAppend (.ref l) [y] H Q :=
  ⟨l, xs, y, rfl, rfl, h, hz, k _ (exB_put h (by intro z e; cases e) (by simp)) upd_same⟩
theorem n_pop {l : Addr} {xs : List V} (h : H l = some (.lst xs)) (he : xs[xs.length - 1]? = some y) (k : ∀ H1, ExB [l] H H1 → H1 l = some (.lst xs.dropLast) → Q y H1) : rPop (.ref l) [] H Q :=
  ⟨l, xs, y, rfl, rfl, h, he, k _ (exB_put h (by intro z e; cases e) (by simp)) upd_same⟩
theorem r_ixL {p : Addr} {xs : List V} {i : Int} (h : SqL K H p xs) (e : atI xs i = some v) (k : Q v H) : rIxL K (.ref p) (.int i) H Q := ⟨p, xs, i, v, rfl, rfl, h, e, k⟩
theorem r_ixT {p : Addr} {xs : List V} {i : Int} (h : SqT K H p xs) (e : atI xs i = some v) (k : Q v H) : rIxT K (.ref p) (.int i) H Q := ⟨p, xs, i, v, rfl, rfl, h, e, k⟩
theorem r_inL {neg : Bool} {p : Addr} {xs : List V} (h : SqL K H p xs) (hx : flatV x = true) (ha : xs.all flatV = true) (k : Q (.bl (if neg then !inV x xs else inV x xs)) H) : rIn K neg x (.ref p) H Q := ⟨p, xs, rfl, .inl h, hx, ha, k⟩
theorem r_inT {neg : Bool} {p : Addr} {xs : List V} (h : SqT K H p xs) (hx : flatV x = true) (ha : xs.all flatV = true) (k : Q (.bl (if neg then !inV x xs else inV x xs)) H) : rIn K neg x (.ref p) H Q := ⟨p, xs, rfl, .inr h, hx, ha, k⟩
theorem inV_ints : ∀ {ns : List Int} {i : Int}, inV (.int i) (ns.map V.int) = ns.contains i
  | [], i => rfl
  | n :: r, i => by
    have ih := inV_ints (ns := r) (i := i)
    unfold inV at ih ⊢
    rw [List.map_cons, List.any_cons, ih, List.contains_cons]
    congr 1
    show (n == i) = (i == n)
    exact BEq.comm
theorem flat_ints : ∀ ns : List Int, (ns.map V.int).all flatV = true
  | [] => rfl
  | n :: r => by rw [List.map_cons, List.all_cons, flat_ints r]; rfl
theorem n_len {p : Addr} {ys : List V} {R : List V → Prop} (h : SqL K H p ys) (k : R ys) : ∃ p' ys', [V.ref p] = [.ref p'] ∧ (SqL K H p' ys' ∨ SqT K H p' ys') ∧ R ys' := ⟨p, ys, rfl, .inl h, k⟩
theorem n_lenT {p : Addr} {ys : List V} {R : List V → Prop} (h : SqT K H p ys) (k : R ys) : ∃ p' ys', [V.ref p] = [.ref p'] ∧ (SqL K H p' ys' ∨ SqT K H p' ys') ∧ R ys' := ⟨p, ys, rfl, .inr h, k⟩
theorem n_int1 {i : Int} {R : Int → Prop} {S : Prop} (k : R i) : (∃ j, [V.int i] = [.int j] ∧ R j) ∨ S := .inl ⟨i, rfl, k⟩
theorem n_1 {i : Int} {R : Int → Prop} (k : R i) : ∃ j, [V.int i] = [.int j] ∧ R j := ⟨i, rfl, k⟩
theorem n_2 {i j : Int} {R : Int → Int → Prop} (k : R i j) : ∃ i' j', [V.int i, V.int j] = [.int i', .int j'] ∧ R i' j' := ⟨i, j, rfl, k⟩
theorem r_isi {a b : String} (hT : OfTy K H v a) (ha : a ∈ tyNames) (k : Q (.bl (isi1 a b)) H) (hb : b ∈ tyNames := by decide) : rIsi K [v, .ty b] H Q := ⟨v, .ty b, .type a, .type b, _, rfl, .ty b, hT, kit_names ha hb, k⟩
theorem isi_int {T : String} (h : T ∈ tyNames) : (isi1 T "int" && !isi1 T "bool") = decide (T = "int") := by
  have q : (tyNames.all fun T => decide ((isi1 T "int" && !isi1 T "bool") = decide (T = "int"))) = true := by decide +kernel
  exact of_decide_eq_true (List.all_eq_true.mp q T h)
theorem n_rng1 {ta : TA} {R : It → Hp → Prop} (k : ta σ H fun vs H1 => ∃ j : Int, vs = [.int j] ∧ -(2 ^ 62) ≤ j ∧ j < 2 ^ 62 ∧ R (Itr 0 j.toNat) H1) : iRng1 ta σ H R := k
theorem r_for {wi : TI} {g : TG} {tb : TS} (k : wi σ H fun J H1 => ∃ W : Nat → Nat → L2.St → Hp → Prop, (∃ m, W 0 m σ H1) ∧ ∀ i m σ H, W i m σ H →
    (J.stop i H ∧ D.nx σ H) ∨ (J.go i H ∧ ∃ N : L2.St → Hp → Prop, (∀ σ' H', N σ' H' → ∃ m', m' < m ∧ W (i + 1) m' σ' H') ∧ ∀ x H', J.yld i H x H' → g x σ H' fun σ2 H2 => tb { D with nx := N, ct := N, bk := D.nx } σ2 H2)) : tFor wi g tb D σ H := k
/-- for k in range(n) -/
theorem n_for1 {g : TG} {tb : TS} {n : Int} (hn : -(2 ^ 62) ≤ n ∧ n < 2 ^ 62) (Pv : Nat → L2.St → Hp → Prop) (h0 : Pv 0 σ H)
    (hs : ∀ (i : Nat) σ H, (i : Int) < n → Pv i σ H → g (.int (i : Int)) σ H fun σ2 H2 => tb { D with nx := Pv (i + 1), ct := Pv (i + 1), bk := D.nx } σ2 H2) (hd : ∀ σ H, Pv n.toNat σ H → D.nx σ H) :
    -(2 ^ 62) ≤ n ∧ n < 2 ^ 62 ∧ ∃ W : Nat → Nat → L2.St → Hp → Prop, (∃ m, W 0 m σ H) ∧ ∀ i m σ H, W i m σ H →
      ((Itr 0 n.toNat).stop i H ∧ D.nx σ H) ∨ ((Itr 0 n.toNat).go i H ∧ ∃ N : L2.St → Hp → Prop, (∀ σ' H', N σ' H' → ∃ m', m' < m ∧ W (i + 1) m' σ' H') ∧ ∀ x H', (Itr 0 n.toNat).yld i H x H' → g x σ H' fun σ2 H2 => tb { D with nx := N, ct := N, bk := D.nx } σ2 H2) :=
  ⟨hn.1, hn.2, for_range Pv h0 (fun i σ' H' hi p => by
    have e : (0 : Int) + (i : Int) = (i : Int) := Int.zero_add _
    rw [e]
    exact hs i σ' H' (by omega) p) hd⟩
end
/-! ### promises by the number of arguments -/
abbrev Sp0 (R : Hp → VK → XK → Prop) : Sp := fun vs H Q E => vs = [] ∧ R H Q E
abbrev Sp1 (R : V → Hp → VK → XK → Prop) : Sp := fun vs H Q E => ∃ a, vs = [a] ∧ R a H Q E
abbrev Sp2 (R : V → V → Hp → VK → XK → Prop) : Sp := fun vs H Q E => ∃ a b, vs = [a, b] ∧ R a b H Q E
abbrev Sp3 (R : V → V → V → Hp → VK → XK → Prop) : Sp := fun vs H Q E => ∃ a b c, vs = [a, b, c] ∧ R a b c H Q E
abbrev Sp4 (R : V → V → V → V → Hp → VK → XK → Prop) : Sp := fun vs H Q E => ∃ a b c d, vs = [a, b, c, d] ∧ R a b c d H Q E
abbrev Sp5 (R : V → V → V → V → V → Hp → VK → XK → Prop) : Sp := fun vs H Q E => ∃ a b c d e, vs = [a, b, c, d, e] ∧ R a b c d e H Q E
abbrev Sp6 (R : V → V → V → V → V → V → Hp → VK → XK → Prop) : Sp := fun vs H Q E => ∃ a b c d e f, vs = [a, b, c, d, e, f] ∧ R a b c d e f H Q E
section
variable {H : Hp} {Q : VK} {E : XK}
theorem len0 (R : Hp → VK → XK → Prop) : ∀ vs H Q E, Sp0 R vs H Q E → vs.length = 0 := fun vs H Q E h => by rw [h.1]; rfl
theorem n_sp0 {R : Hp → VK → XK → Prop} (k : R H Q E) : Sp0 R ([] ++ []) H Q E := ⟨rfl, k⟩
theorem len1 (R : V → Hp → VK → XK → Prop) : ∀ vs H Q E, Sp1 R vs H Q E → vs.length = 1 := fun vs H Q E ⟨_, e, _⟩ => by rw [e]; rfl
theorem n_sp1 {R : V → Hp → VK → XK → Prop} {a : V} (k : R a H Q E) : Sp1 R ([a] ++ []) H Q E := ⟨a, rfl, k⟩
theorem n_sm1 {R : V → Hp → VK → XK → Prop} {a : V} (k : R a H Q E) : Sp1 R (a :: ([] ++ [])) H Q E := ⟨a, rfl, k⟩
theorem len2 (R : V → V → Hp → VK → XK → Prop) : ∀ vs H Q E, Sp2 R vs H Q E → vs.length = 2 := fun vs H Q E ⟨_, _, e, _⟩ => by rw [e]; rfl
theorem n_sp2 {R : V → V → Hp → VK → XK → Prop} {a b : V} (k : R a b H Q E) : Sp2 R ([a, b] ++ []) H Q E := ⟨a, b, rfl, k⟩
theorem n_sm2 {R : V → V → Hp → VK → XK → Prop} {a b : V} (k : R a b H Q E) : Sp2 R (a :: ([b] ++ [])) H Q E := ⟨a, b, rfl, k⟩
theorem len3 (R : V → V → V → Hp → VK → XK → Prop) : ∀ vs H Q E, Sp3 R vs H Q E → vs.length = 3 := fun vs H Q E ⟨_, _, _, e, _⟩ => by rw [e]; rfl
theorem n_sp3 {R : V → V → V → Hp → VK → XK → Prop} {a b c : V} (k : R a b c H Q E) : Sp3 R ([a, b, c] ++ []) H Q E := ⟨a, b, c, rfl, k⟩
theorem n_sm3 {R : V → V → V → Hp → VK → XK → Prop} {a b c : V} (k : R a b c H Q E) : Sp3 R (a :: ([b, c] ++ [])) H Q E := ⟨a, b, c, rfl, k⟩
theorem len4 (R : V → V → V → V → Hp → VK → XK → Prop) : ∀ vs H Q E, Sp4 R vs H Q E → vs.length = 4 := fun vs H Q E ⟨_, _, _, _, e, _⟩ => by rw [e]; rfl
theorem n_sp4 {R : V → V → V → V → Hp → VK → XK → Prop} {a b c d : V} (k : R a b c d H Q E) : Sp4 R ([a, b, c, d] ++ []) H Q E := ⟨a, b, c, d, rfl, k⟩
theorem n_sm4 {R : V → V → V → V → Hp → VK → XK → Prop} {a b c d : V} (k : R a b c d H Q E) : Sp4 R (a :: ([b, c, d] ++ [])) H Q E := ⟨a, b, c, d, rfl, k⟩
theorem len5 (R : V → V → V → V → V → Hp → VK → XK → Prop) : ∀ vs H Q E, Sp5 R vs H Q E → vs.length = 5 := fun vs H Q E ⟨_, _, _, _, _, e, _⟩ => by rw [e]; rfl
theorem n_sp5 {R : V → V → V → V → V → Hp → VK → XK → Prop} {a b c d e : V} (k : R a b c d e H Q E) : Sp5 R ([a, b, c, d, e] ++ []) H Q E := ⟨a, b, c, d, e, rfl, k⟩
theorem n_sm5 {R : V → V → V → V → V → Hp → VK → XK → Prop} {a b c d e : V} (k : R a b c d e H Q E) : Sp5 R (a :: ([b, c, d, e] ++ [])) H Q E := ⟨a, b, c, d, e, rfl, k⟩
theorem len6 (R : V → V → V → V → V → V → Hp → VK → XK → Prop) : ∀ vs H Q E, Sp6 R vs H Q E → vs.length = 6 := fun vs H Q E ⟨_, _, _, _, _, _, e, _⟩ => by rw [e]; rfl
theorem n_sp6 {R : V → V → V → V → V → V → Hp → VK → XK → Prop} {a b c d e f : V} (k : R a b c d e f H Q E) : Sp6 R ([a, b, c, d, e, f] ++ []) H Q E := ⟨a, b, c, d, e, f, rfl, k⟩
theorem n_sm6 {R : V → V → V → V → V → V → Hp → VK → XK → Prop} {a b c d e f : V} (k : R a b c d e f H Q E) : Sp6 R (a :: ([b, c, d, e, f] ++ [])) H Q E := ⟨a, b, c, d, e, f, rfl, k⟩
end
/-! ### attributes by their names -/
section
variable {k k' : Str} {v : V} {r : List (Str × V)}
theorem lk_hit : List.lookup k ((k, v) :: r) = some v := by simp [List.lookup]
theorem lk_miss (h : ¬ k = k') : List.lookup k ((k', v) :: r) = List.lookup k r := by
  have h' : (k == k') = false := by simpa using h
  simp [List.lookup, h']
theorem put_hit {u : V} : putF k u ((k, v) :: r) = (k, u) :: r := by
  show (if k = k then _ else _) = _
  rw [if_pos rfl]
theorem put_miss {u : V} (h : ¬ k' = k) : putF k u ((k', v) :: r) = (k', v) :: putF k u r := by
  show (if k' = k then _ else _) = _
  rw [if_neg h]
end
/-! ### comprehensions over heaps by what is known of them -/
section
variable {K : PySem.W.Frag} {σ : L2.St} {H : Hp} {Q : VK} {te : TE} {tt : TT} {g : TG} {vs : List Nat} {wi : TI}
theorem r_lc (k : wi σ H fun J H1 => ∀ D, H1 D = none → ∃ W : Nat → Nat → Hp → Prop, (∃ m, W 0 m (upd H1 D (.lst []))) ∧ ∀ i m H, W i m H →
    (J.stop i H ∧ Q (.ref D) H) ∨ (J.go i H ∧ ∃ Nx : Hp → Prop, (∀ H', Nx H' → ∃ m', m' < m ∧ W (i + 1) m' H') ∧ ∀ x H', J.yld i H x H' → g x (wipe σ vs) H' fun σ2 H2 => wipe σ2 vs = wipe σ vs ∧ tt σ2 H2 fun b H3 =>
      if b = true then te σ2 H3 fun y H4 => ∃ acc, H4 D = some (.lst acc) ∧ acc.length < sizeLine ∧ Nx (upd H4 D (.lst (acc ++ [y]))) else Nx H3)) : tLc wi g tt te vs σ H Q := k
theorem r_iL {tl : TE} {R : It → Hp → Prop} (k : tl σ H fun x H1 => ∃ a, x = .ref a ∧ (∃ xs, SqL K H1 a xs) ∧ R (Itl K a) H1) : iList K tl σ H R := k
theorem r_iT {tl : TE} {R : It → Hp → Prop} (k : tl σ H fun x H1 => ∃ a, x = .ref a ∧ (∃ xs, SqT K H1 a xs) ∧ R (Itt K a) H1) : iTup K tl σ H R := k
/-- at turn i the list at D holds what J says -/
def PvJ (J : Addr → Nat → List V → Hp → Prop) (D : Addr) (i : Nat) (H : Hp) : Prop := ∃ acc, H D = some (.lst acc) ∧ J D i acc H
theorem lc_put {J : Addr → Nat → List V → Hp → Prop} {D : Addr} {i : Nat} {acc : List V} {y : V} {H : Hp} (e : H D = some (.lst acc)) (z : acc.length < sizeLine) (k : ∀ H5, ExB [D] H H5 → H5 D = some (.lst (acc ++ [y])) → J D i (acc ++ [y]) H5) :
    ∃ acc, H D = some (.lst acc) ∧ acc.length < sizeLine ∧ PvJ J D i (upd H D (.lst (acc ++ [y]))) := ⟨acc, e, z, acc ++ [y], upd_same, k _ (exB_put e (by intro z e; cases e) (by simp)) upd_same⟩
theorem r_yes {R : Bool → Hp → Prop} (k : R true H) : tYes σ H R := k
theorem n_lcL {R : Addr → Hp → Prop} {a : Addr} {xs : List V} (hx : SqL K H a xs) (J : Addr → Nat → List V → Hp → Prop) (h0 : ∀ D H1, H D = none → Same H H1 → H1 D = some (.lst []) → J D 0 [] H1) (hl : ∀ D i acc H1, J D i acc H1 → SqL K H1 a xs)
    (hs : ∀ D i x acc H1, H D = none → xs[i]? = some x → H1 D = some (.lst acc) → J D i acc H1 → g x (wipe σ vs) H1 fun σ2 H2 => wipe σ2 vs = wipe σ vs ∧ tt σ2 H2 fun b H3 =>
      if b = true then te σ2 H3 fun y H4 => ∃ acc, H4 D = some (.lst acc) ∧ acc.length < sizeLine ∧ PvJ J D (i + 1) (upd H4 D (.lst (acc ++ [y]))) else PvJ J D (i + 1) H3)
    (hd : ∀ D acc H1, H D = none → H1 D = some (.lst acc) → J D xs.length acc H1 → R D H1) :
    ∃ a', V.ref a = .ref a' ∧ (∃ xs, SqL K H a' xs) ∧ ∀ D, H D = none → ∃ W : Nat → Nat → Hp → Prop, (∃ m, W 0 m (upd H D (.lst []))) ∧ ∀ i m H, W i m H →
      ((Itl K a').stop i H ∧ R D H) ∨ ((Itl K a').go i H ∧ ∃ Nx : Hp → Prop, (∀ H', Nx H' → ∃ m', m' < m ∧ W (i + 1) m' H') ∧ ∀ x H', (Itl K a').yld i H x H' → g x (wipe σ vs) H' fun σ2 H2 => wipe σ2 vs = wipe σ vs ∧ tt σ2 H2 fun b H3 =>
        if b = true then te σ2 H3 fun y H4 => ∃ acc, H4 D = some (.lst acc) ∧ acc.length < sizeLine ∧ Nx (upd H4 D (.lst (acc ++ [y]))) else Nx H3) :=
  ⟨a, rfl, ⟨xs, hx⟩, fun D nD => lc_list (K := K) (a := a) (xs := xs) (PvJ J D) ⟨[], upd_same, h0 D _ nD (same_new nD) upd_same⟩ (fun i H1 _ ⟨acc, _, j⟩ => hl D i acc H1 j) (fun i x H1 hi ⟨acc, e, j⟩ => hs D i x acc H1 nD hi e j) fun H1 ⟨acc, e, j⟩ => hd D acc H1 nD e j⟩
theorem n_lcT {R : Addr → Hp → Prop} {a : Addr} {xs : List V} (hx : SqT K H a xs) (J : Addr → Nat → List V → Hp → Prop) (h0 : ∀ D H1, H D = none → Same H H1 → H1 D = some (.lst []) → J D 0 [] H1) (hl : ∀ D i acc H1, J D i acc H1 → SqT K H1 a xs)
    (hs : ∀ D i x acc H1, H D = none → xs[i]? = some x → H1 D = some (.lst acc) → J D i acc H1 → g x (wipe σ vs) H1 fun σ2 H2 => wipe σ2 vs = wipe σ vs ∧ tt σ2 H2 fun b H3 =>
      if b = true then te σ2 H3 fun y H4 => ∃ acc, H4 D = some (.lst acc) ∧ acc.length < sizeLine ∧ PvJ J D (i + 1) (upd H4 D (.lst (acc ++ [y]))) else PvJ J D (i + 1) H3)
    (hd : ∀ D acc H1, H D = none → H1 D = some (.lst acc) → J D xs.length acc H1 → R D H1) :
    ∃ a', V.ref a = .ref a' ∧ (∃ xs, SqT K H a' xs) ∧ ∀ D, H D = none → ∃ W : Nat → Nat → Hp → Prop, (∃ m, W 0 m (upd H D (.lst []))) ∧ ∀ i m H, W i m H →
      ((Itt K a').stop i H ∧ R D H) ∨ ((Itt K a').go i H ∧ ∃ Nx : Hp → Prop, (∀ H', Nx H' → ∃ m', m' < m ∧ W (i + 1) m' H') ∧ ∀ x H', (Itt K a').yld i H x H' → g x (wipe σ vs) H' fun σ2 H2 => wipe σ2 vs = wipe σ vs ∧ tt σ2 H2 fun b H3 =>
        if b = true then te σ2 H3 fun y H4 => ∃ acc, H4 D = some (.lst acc) ∧ acc.length < sizeLine ∧ Nx (upd H4 D (.lst (acc ++ [y]))) else Nx H3) :=
  ⟨a, rfl, ⟨xs, hx⟩, fun D nD => lc_tup (K := K) (a := a) (xs := xs) (PvJ J D) ⟨[], upd_same, h0 D _ nD (same_new nD) upd_same⟩ (fun i H1 _ ⟨acc, _, j⟩ => hl D i acc H1 j) (fun i x H1 hi ⟨acc, e, j⟩ => hs D i x acc H1 nD hi e j) fun H1 ⟨acc, e, j⟩ => hd D acc H1 nD e j⟩
/-- over range(n) -/
theorem n_lcR {R : Addr → Hp → Prop} {n : Int} (hn : -(2 ^ 62) ≤ n ∧ n < 2 ^ 62) (J : Addr → Nat → List V → Hp → Prop) (h0 : ∀ D H1, H D = none → Same H H1 → H1 D = some (.lst []) → J D 0 [] H1)
    (hs : ∀ D (i : Nat) acc H1, H D = none → (i : Int) < n → H1 D = some (.lst acc) → J D i acc H1 → g (.int (i : Int)) (wipe σ vs) H1 fun σ2 H2 => wipe σ2 vs = wipe σ vs ∧ tt σ2 H2 fun b H3 =>
      if b = true then te σ2 H3 fun y H4 => ∃ acc, H4 D = some (.lst acc) ∧ acc.length < sizeLine ∧ PvJ J D (i + 1) (upd H4 D (.lst (acc ++ [y]))) else PvJ J D (i + 1) H3)
    (hd : ∀ D acc H1, H D = none → H1 D = some (.lst acc) → J D n.toNat acc H1 → R D H1) :
    -(2 ^ 62) ≤ n ∧ n < 2 ^ 62 ∧ ∀ D, H D = none → ∃ W : Nat → Nat → Hp → Prop, (∃ m, W 0 m (upd H D (.lst []))) ∧ ∀ i m H, W i m H →
      ((Itr 0 n.toNat).stop i H ∧ R D H) ∨ ((Itr 0 n.toNat).go i H ∧ ∃ Nx : Hp → Prop, (∀ H', Nx H' → ∃ m', m' < m ∧ W (i + 1) m' H') ∧ ∀ x H', (Itr 0 n.toNat).yld i H x H' → g x (wipe σ vs) H' fun σ2 H2 => wipe σ2 vs = wipe σ vs ∧ tt σ2 H2 fun b H3 =>
        if b = true then te σ2 H3 fun y H4 => ∃ acc, H4 D = some (.lst acc) ∧ acc.length < sizeLine ∧ Nx (upd H4 D (.lst (acc ++ [y]))) else Nx H3) :=
  ⟨hn.1, hn.2, fun D nD => lc_range (lo := 0) (n := n.toNat) (PvJ J D) ⟨[], upd_same, h0 D _ nD (same_new nD) upd_same⟩ (fun i H1 hi ⟨acc, e, j⟩ => by
    have e0 : (0 : Int) + (i : Int) = (i : Int) := Int.zero_add _
    rw [e0]
    exact hs D i acc H1 nD (by omega) e j) fun H1 ⟨acc, e, j⟩ => hd D acc H1 nD e j⟩
end
theorem n_upd {H : Hp} {p : Addr} {o u : HO} {R : Hp → Prop} (e : H p = some u) (ht : ∀ xs, u ≠ .tup xs) (k : ∀ H1, ExB [p] H H1 → H1 p = some o → R H1) : R (upd H p o) := k _ (exB_put e ht (by simp)) upd_same
/-- a new object, R of the heap behind it -/
theorem n_alloc {H : Hp} {o : HO} {R : Addr → Hp → Prop} (k : ∀ p H1, H p = none → Same H H1 → H1 p = some o → R p H1) : ∀ p, H p = none → R p (upd H p o) := fun p hp => k p _ hp (same_new hp) upd_same
theorem ExB.free {B : List Addr} {H H' : Hp} (h : ExB B H H') {a : Addr} (e : H' a = none) : H a = none := h.back a e
theorem ne_free {H : Hp} {a b : Addr} {o : HO} (h : H a = some o) (h' : H b = none) : a ≠ b := ne_of_none h h'
theorem idx_first {l : List Int} {m : Int} {j : Nat} (h : j < l.idxOf m) : l[j]? ≠ some m := by
  intro q
  obtain ⟨h1, h2⟩ := List.getElem?_eq_some_iff.mp q
  have h3 := List.not_of_lt_findIdx (p := (· == m)) (xs := l) h
  rw [h2] at h3
  simp at h3
theorem r_delS {σ : L2.St} {H : Hp} {to ti : TE} {D : Ends} (k : to σ H fun x H1 => ti σ H1 fun y H2 => ∃ (l : Addr) (xs : List V) (c : Nat), x = .ref l ∧ y = .int (c : Int) ∧ H2 l = some (.lst xs) ∧ c ≤ xs.length ∧ D.nx σ (upd H2 l (.lst (xs.drop c)))) : tDelS to ti D σ H := k
theorem getD_some {α : Type} {l : List α} {i : Nat} {d a : α} (h : l[i]? = some a) : l.getD i d = a := by rw [List.getD_eq_getElem?_getD, h]; rfl
theorem take_succ_of {α : Type} {l : List α} {i : Nat} {x : α} (h : l[i]? = some x) : l.take (i + 1) = l.take i ++ [x] := by
  rw [List.take_succ, h]
  rfl
/-! ### the rules with the written part told by its name (a comprehension's block is another context with the same one) -/
section
variable {X : Cx} (K : PySem.W.Frag)
def rTupleOf (K : PySem.W.Frag) : List V → Hp → VK → Prop := fun xs H Q => ∃ p ys, xs = [.ref p] ∧ ((SqL K H p ys ∧ ∀ l, H l = none → Q (.ref l) (upd H l (.tup ys))) ∨ (SqT K H p ys ∧ Q (.ref p) H))
def rListOf (K : PySem.W.Frag) : List V → Hp → VK → Prop := fun xs H Q => ∃ p ys, xs = [.ref p] ∧ (SqL K H p ys ∨ SqT K H p ys) ∧ ∀ l, H l = none → Q (.ref l) (upd H l (.lst ys))
def rLenK (K : PySem.W.Frag) : List V → Hp → VK → Prop := fun xs H Q => ∃ p ys, xs = [.ref p] ∧ (SqL K H p ys ∨ SqT K H p ys) ∧ Q (.int ys.length) H
theorem k_tupleOf (hK : X.K = K := by rfl) : CallR X (.type "tuple") (rTupleOf K) := by subst hK; exact call_tuple_of
theorem k_listOf (hK : X.K = K := by rfl) : CallR X (.type "list") (rListOf K) := by subst hK; exact call_list_of
theorem k_len (hK : X.K = K := by rfl) : CallR X (.builtin "len") (rLenK K) := by subst hK; exact call_len_seq
theorem k_isi (hK : X.K = K := by rfl) : CallR X (.builtin "isinstance") (rIsi K) := by subst hK; exact call_isi
theorem k_sum (hc : X.calm = true := by rfl) (hK : X.K = K := by rfl) : CallR X (.builtin "sum") (rSum K) := by subst hK; exact cr_sum hc
theorem k_max (hc : X.calm = true := by rfl) (hK : X.K = K := by rfl) : CallR X (.builtin "max") (rMax K) := by subst hK; exact cr_max hc
theorem k_min (hc : X.calm = true := by rfl) (hK : X.K = K := by rfl) : CallR X (.builtin "min") (rMin K) := by subst hK; exact cr_min hc
theorem k_all (hc : X.calm = true := by rfl) (hK : X.K = K := by rfl) : CallR X (.builtin "all") (rAll K) := by subst hK; exact cr_all hc
theorem k_any (hc : X.calm = true := by rfl) (hK : X.K = K := by rfl) : CallR X (.builtin "any") (rAny K) := by subst hK; exact cr_any hc
theorem k_ixL (hK : X.K = K := by rfl) : IxR X (rIxL K) := by subst hK; exact ix_list
theorem k_ixT (hK : X.K = K := by rfl) : IxR X (rIxT K) := by subst hK; exact ix_tup
theorem k_ix (hK : X.K = K := by rfl) : IxR X (rIx K) := by subst hK; exact ix_seq
theorem k_slL (hK : X.K = K := by rfl) : SlR X (rSlL K) := by subst hK; exact sl_list
theorem k_slT (hK : X.K = K := by rfl) : SlR X (rSlA K) := by subst hK; exact sl_tupA
theorem k_in (hK : X.K = K := by rfl) : OpR X (compareOp .In) (rIn K false) := by subst hK; exact op_in_seq
theorem k_notIn (hK : X.K = K := by rfl) : OpR X (compareOp .NotIn) (rIn K true) := by subst hK; exact op_notIn_seq
theorem k_eqD (hu : X.A.units + 64 < cLine) (hK : X.K = K := by rfl) : OpR X (compareOp .Eq) (rEqD K) := by subst hK; exact op_eqD hu
theorem k_neD (hu : X.A.units + 64 < cLine) (hK : X.K = K := by rfl) : OpR X (compareOp .NotEq) (rNeD K) := by subst hK; exact op_neD hu
theorem k_repT (hK : X.K = K := by rfl) : OpR X (binaryOp .Mult) (rRepA K) := by subst hK; exact op_repA
theorem k_catT (hK : X.K = K := by rfl) : OpR X (binaryOp .Add) (rCatA K) := by subst hK; exact op_catA
theorem k_fld {e : Expr} {f : Str} {pos : Pos} {ta : TE} (he : PE X e ta) (hb : attributeBase e f X.env (eval e X.env) = eval e X.env := by rfl) (hK : X.K = K := by rfl) : PE X (.Attribute e f pos) (tFld K ta f) := by subst hK; exact pe_fld he hb
theorem k_setfld {o value : Expr} {f : Str} {pos pos' : Pos} {ta tv : TE} (ha : PE X o ta) (hv : PE X value tv) (hs : swapsWith value (some (.Attribute o f pos')) pos.line X.env = pure false := by rfl) (hK : X.K = K := by rfl) : PS X (.Assign [.Attribute o f pos'] value pos) (sFld K ta tv f) := by subst hK; exact ps_fld ha hv hs
theorem k_gfld {o : Expr} {f : Str} {pos : Pos} {ta : TE} (ha : PE X o ta) (hK : X.K = K := by rfl) : PG X (.Attribute o f pos) (gFld K ta f) := by subst hK; exact pg_fld ha
theorem k_pilist {tg l : Expr} {tl : TE} (hl : PE X l tl) (hK : X.K = K := by rfl) : PI X tg l (iList K tl) := by subst hK; exact pi_list hl
theorem k_pitup {tg l : Expr} {tl : TE} (hl : PE X l tl) (hK : X.K = K := by rfl) : PI X tg l (iTup K tl) := by subst hK; exact pi_tup hl
theorem k_gtup {es : List Expr} {k : Nat} {t : TGs} {n : Nat} {pos : Pos} (hc : X.calm = true) (h : PGs X es t) (hn : (assignEach es X.env).length = n := by rfl) (hst : (assignEach es X.env).findIdx? (·.1) = none := by rfl) (hK : X.K = K := by rfl) : PG X (.Tuple es k pos) (gTup K n t) := by subst hK; exact pg_tup hc h hn hst
theorem k_glst {es : List Expr} {k : Nat} {t : TGs} {n : Nat} {pos : Pos} (hc : X.calm = true) (h : PGs X es t) (hn : (assignEach es X.env).length = n := by rfl) (hst : (assignEach es X.env).findIdx? (·.1) = none := by rfl) (hK : X.K = K := by rfl) : PG X (.Tuple es k pos) (gLst K n t) := by subst hK; exact pg_lst hc h hn hst
theorem k_bm0 {T : String} {name : Str} {id : String} {r : V → List V → Hp → VK → Prop} {o : Expr} {to : TE} {apos cpos : Pos} (pa : PlainAttrs T) (slot : Slot T name id) (hty : typeOf (.builtin id) = pure (.type "method_descriptor")) (hm : MtR X id r) (ho : PE X o to)
    (hbase : attributeBase o name X.env (eval o X.env) = eval o X.env := by rfl) (hline : (apos.endLine == cpos.line) = true := by rfl) (hK : X.K = K := by rfl) : PE X (.Call (.Attribute o name apos) [] [] cpos) (tBM0 K T r to) := by subst hK; exact pe_bm0 pa slot hty hm ho hbase hline
theorem k_bm {T : String} {name : Str} {id : String} {r : V → List V → Hp → VK → Prop} {o e : Expr} {es : List Expr} {to : TE} {t : TA} {apos cpos : Pos} (pa : PlainAttrs T) (slot : Slot T name id) (hty : typeOf (.builtin id) = pure (.type "method_descriptor")) (hm : MtR X id r) (ho : PE X o to) (ha : PA X (e :: es) t)
    (hbase : attributeBase o name X.env (eval o X.env) = eval o X.env := by rfl)
    (hfew : ((backTo cpos (starEach (e :: es) X.env)).all (fun x => !x.1) && (backToKw cpos (keywordEach [] X.env)).all (fun x => x.1.isSome)
      && decide ((e :: es).length + ([] : List Keyword).length + (if ([] : List Keyword).isEmpty then 0 else 1) < 30)) = true := by rfl)
    (hline : (apos.endLine == cpos.line) = true := by rfl) (hs : starEach (e :: es) X.env = (false, eval e X.env) :: starEach es X.env := by rfl) (hplain : (backTo cpos (starEach es X.env)).any (·.1) = false := by rfl) (hK : X.K = K := by rfl) :
    PE X (.Call (.Attribute o name apos) (e :: es) [] cpos) (tBM K T r to t) := by subst hK; exact pe_bm pa slot hty hm ho ha hbase hfew hline hs hplain
theorem k_listRev {e : Expr} {te : TE} {p p2 pos pos2 : Pos} (hc : X.calm = true) (hg : Gl X "list") (hm : X.mg "list" = none) (hg2 : Gl X "reversed") (hm2 : X.mg "reversed" = none) (he : PE X e te)
    (hs : starEach [e] X.env = (false, eval e X.env) :: starEach [] X.env := by rfl)
    (hs2 : starEach [.Call (.Name "reversed" p2) [e] [] pos2] X.env = (false, eval (.Call (.Name "reversed" p2) [e] [] pos2) X.env) :: starEach [] X.env := by rfl) (hK : X.K = K := by rfl) :
    PE X (.Call (.Name "list" p) [.Call (.Name "reversed" p2) [e] [] pos2] [] pos) (RT.tListRev K te) := by subst hK; exact RT.pe_listRev hc hg hm hg2 hm2 he hs hs2
def tTruth (K : PySem.W.Frag) (ta : TE) : TT := fun σ H Q => ta σ H fun x H' => ∃ k, TruV K x H' k ∧ Q k H'
theorem k_truth {a : Expr} {ta : TE} (ha : PE X a ta) (he : ∀ whole, isTrue a X.env whole = (do let v ← whole; standAt a.pos; holding [v] (truthy v)) := by intro _; rfl) (hK : X.K = K := by rfl) : PT X a (tTruth K ta) := by subst hK; exact pt_truth ha he
theorem k_enum {e : Expr} {ta : TA} {p pos tpos : Pos} {elts : List Expr} {kk : Nat} (hg : Gl X "enumerate") (hm : X.mg "enumerate" = none) (ha : PA X [e] ta) (hs : starEach [e] X.env = [(false, eval e X.env)] := by rfl) (hK : X.K = K := by rfl) : PI X (.Tuple elts kk tpos) (.Call (.Name "enumerate" p) [e] [] pos) (iEnum K ta) := by subst hK; exact pi_enum hg hm ha hs
end
section
variable {K : PySem.W.Frag} {H : Hp} {Q : VK} {p : Addr} {ys : List V}
theorem r_tupleL (h : SqL K H p ys) (k : ∀ l H1, H l = none → Same H H1 → H1 l = some (.tup ys) → Q (.ref l) H1) : rTupleOf K [.ref p] H Q := ⟨p, ys, rfl, .inl ⟨h, fun l hl => k l _ hl (same_new hl) upd_same⟩⟩
theorem r_tupleT (h : SqT K H p ys) (k : Q (.ref p) H) : rTupleOf K [.ref p] H Q := ⟨p, ys, rfl, .inr ⟨h, k⟩⟩
theorem r_listL (h : SqL K H p ys) (k : ∀ l H1, H l = none → Same H H1 → H1 l = some (.lst ys) → Q (.ref l) H1) : rListOf K [.ref p] H Q := ⟨p, ys, rfl, .inl h, fun l hl => k l _ hl (same_new hl) upd_same⟩
theorem r_listT (h : SqT K H p ys) (k : ∀ l H1, H l = none → Same H H1 → H1 l = some (.lst ys) → Q (.ref l) H1) : rListOf K [.ref p] H Q := ⟨p, ys, rfl, .inr h, fun l hl => k l _ hl (same_new hl) upd_same⟩
theorem r_lenL (h : SqL K H p ys) (k : Q (.int ys.length) H) : rLenK K [.ref p] H Q := ⟨p, ys, rfl, .inl h, k⟩
theorem r_lenT (h : SqT K H p ys) (k : Q (.int ys.length) H) : rLenK K [.ref p] H Q := ⟨p, ys, rfl, .inr h, k⟩
theorem r_truth {σ : L2.St} {ta : TE} {QB : Bool → Hp → Prop} (k : ta σ H fun x H' => ∃ k, TruV K x H' k ∧ QB k H') : tTruth K ta σ H QB := k
end
section
variable {K : PySem.W.Frag} {H : Hp} {σ : L2.St} {R : L2.St → Hp → Prop}
theorem g_tup {t : Addr} {xs : List V} {n : Nat} {g : TGs} (h : SqT K H t xs) (hn : xs.length = n) (k : g xs σ H R) : gTup K n g (.ref t) σ H R := ⟨t, xs, rfl, h, hn, k⟩
theorem g_cons {v : V} {r : List V} {g : TG} {u : TGs} (k : g v σ H fun σ' H' => u r σ' H' R) : gCons g u (v :: r) σ H R := ⟨v, r, rfl, k⟩
theorem g_nil (k : R σ H) : gNil [] σ H R := ⟨rfl, k⟩
theorem g_fld {ta : TE} {f : Str} {v : V} (k : ta σ H fun x H1 => ∃ a C dx fs, x = .ref a ∧ H1 a = some (.ins C dx fs) ∧ Cls K C ∧ NoAttr K C f ∧ fs.length < 1000 ∧ R σ (upd H1 a (.ins C dx (putF f v fs)))) : gFld K ta f v σ H R := k
theorem g_sub {to ti : TE} {t : TSet} {v : V} (k : to σ H fun o H1 => ti σ H1 fun i H2 => t o i v H2 fun H3 => R σ H3) : gSub to ti t v σ H R := k
end
theorem of_upd {H H1 : Hp} {p : Addr} {o : HO} (h : upd H p o = H1) (hp : H p = none) : Same H H1 ∧ H1 p = some o := by
  subst h
  exact ⟨same_new hp, upd_same⟩
theorem of_upd_at {H H1 : Hp} {p : Addr} {o u : HO} (h : upd H p o = H1) (e : H p = some u) (ht : ∀ xs, u ≠ .tup xs := by intro xs q; cases q) : ExB [p] H H1 ∧ H1 p = some o := by
  subst h
  exact ⟨exB_put e ht (by simp), upd_same⟩
theorem r_listRev {K : PySem.W.Frag} {H : Hp} {Q : VK} {p : Addr} {ys : List V} (h : SqL K H p ys) (k : ∀ l H1, H l = none → Same H H1 → H1 l = some (.lst ys.reverse) → Q (.ref l) H1) :
    ∃ (a : Addr) (xs : List V), V.ref p = .ref a ∧ SqL K H a xs ∧ ∀ q, H q = none → Q (.ref q) (upd H q (.lst xs.reverse)) := ⟨p, ys, rfl, h, fun l hl => k l _ hl (same_new hl) upd_same⟩
theorem r_tlr {K : PySem.W.Frag} {σ : L2.St} {H : Hp} {Q : VK} {te : TE} (k : te σ H fun v H1 => ∃ (a : Addr) (xs : List V), v = .ref a ∧ SqL K H1 a xs ∧ ∀ q, H1 q = none → Q (.ref q) (upd H1 q (.lst xs.reverse))) : RT.tListRev K te σ H Q := k
/-- the ways of a statement joined: Mid stands behind it -/
theorem r_cut {t u : TS} {D : Ends} {σ : L2.St} {H : Hp} (Mid : L2.St → Hp → Prop) (h : t { D with nx := Mid } σ H) (k : ∀ σ' H', Mid σ' H' → u D σ' H') : Evl.tCut t u D σ H := ⟨Mid, h, k⟩
theorem sqL_exB {K : PySem.W.Frag} {B : List Addr} {H H' : Hp} {a : Addr} {xs : List V} (h : ExB B H H') (n : a ∉ B) (q : SqL K H a xs) : SqL K H' a xs := by
  rcases q with (q | ⟨o, q⟩) | q
  · exact .inl (.inl (h.keep _ _ n q))
  · exact .inl (.inr ⟨o, h.keep _ _ n q⟩)
  · exact .inr q
theorem ne1 {a b : Addr} (h : a ≠ b) : a ∉ [b] := fun z => h (List.mem_singleton.mp z)
theorem exB_first {H H1 H' : Hp} {d : Addr} {B : List Addr} (nd : H d = none) (s : Same H H1) (x : ExB (d :: B) H1 H') : ExB B H H' :=
  ⟨fun a o n e => x.keep a o (fun z => by
    rcases List.mem_cons.mp z with z | z
    · rw [z, nd] at e; cases e
    · exact n z) (s _ _ e), fun a xs e => x.tups _ _ (s _ _ e), fun a e => Same.free s (x.back a e)⟩
theorem n_andrfl {x : V} {R : Prop} (k : R) : x = x ∧ R := ⟨rfl, k⟩
/-! ### data of bounded width -/
mutual
def small : PyData → Bool
  | .list xs => decide (xs.length ≤ 100000) && smallAll xs
  | .tuple xs => decide (xs.length ≤ 100000) && smallAll xs
  | _ => true
def smallAll : List PyData → Bool
  | [] => true
  | x :: r => small x && smallAll r
end
theorem smallAll_get : ∀ {ds : List PyData} {i : Nat} {d : PyData}, smallAll ds = true → ds[i]? = some d → small d = true
  | [], i, d, _, h => by simp at h
  | a :: r, 0, d, s, h => by
    simp at h
    subst h
    rw [smallAll, Bool.and_eq_true] at s
    exact s.1
  | a :: r, i + 1, d, s, h => by
    rw [smallAll, Bool.and_eq_true] at s
    exact smallAll_get (ds := r) (i := i) s.2 (by simpa using h)
/-- the type's name of data -/
def nmOf : PyData → String
  | .none => "NoneType"
  | .bool _ => "bool"
  | .int _ => "int"
  | .str _ => "str"
  | .list _ => "list"
  | .tuple _ => "tuple"
  | .dict _ => "dict"
theorem dp_ty {K : PySem.W.Frag} {H : Hp} {v : V} {d : PyData} (h : Dp K H v d) : OfTy K H v (nmOf d) := by
  cases h with
  | non => exact ty_non
  | bl b => exact ty_bl
  | int i => exact ty_int
  | str x => exact ty_str
  | lst e _ => exact ty_lst e
  | tup e _ => exact ty_tup e
theorem nm_mem (d : PyData) : nmOf d ∈ tyNames := by cases d <;> simp [nmOf, tyNames]
theorem rx_seqL {K : PySem.W.Frag} {H : Hp} {Q : VK} {p : Addr} {xs : List V} {i : Int} {v : V} (h : SqL K H p xs) (e : atI xs i = some v) (k : Q v H) : rIx K (.ref p) (.int i) H Q := .inl (r_ixL h e k)
theorem rx_seqT {K : PySem.W.Frag} {H : Hp} {Q : VK} {p : Addr} {xs : List V} {i : Int} {v : V} (h : SqT K H p xs) (e : atI xs i = some v) (k : Q v H) : rIx K (.ref p) (.int i) H Q := .inr (.inl (r_ixT h e k))
/-- a list or a tuple -/
def SqA (K : PySem.W.Frag) (H : Hp) (a : Addr) (xs : List V) : Prop := SqL K H a xs ∨ SqT K H a xs
theorem SqA.same {K : PySem.W.Frag} {H H' : Hp} {a : Addr} {xs : List V} (h : SqA K H a xs) (s : Same H H') : SqA K H' a xs := h.elim (fun h => .inl (s.seq h)) fun h => .inr (sqT_same s h)
theorem rx_seqA {K : PySem.W.Frag} {H : Hp} {Q : VK} {p : Addr} {xs : List V} {i : Int} {v : V} (h : SqA K H p xs) (e : atI xs i = some v) (k : Q v H) : rIx K (.ref p) (.int i) H Q := h.elim (fun h => rx_seqL h e k) fun h => rx_seqT h e k
theorem r_lenA {K : PySem.W.Frag} {H : Hp} {Q : VK} {p : Addr} {ys : List V} (h : SqA K H p ys) (k : Q (.int ys.length) H) : rLenK K [.ref p] H Q := ⟨p, ys, rfl, h, k⟩
theorem dp_nil {K : PySem.W.Frag} {H : Hp} {D : Addr} (e : H D = some (.lst [])) : Dp K H (.ref D) (.list []) := .lst (SqL.of e) .nil
theorem r_eqD {K : PySem.W.Frag} {H : Hp} {Q : VK} {x y : V} {d e : PyData} (h1 : Dp K H x d) (h2 : Dp K H y e) (s1 : SeqAt.shaped d = true) (s2 : SeqAt.shaped e = true) (k : Q (.bl (PyData.eqv d e)) H) : rEqD K x y H Q := ⟨d, e, h1, h2, s1, s2, k⟩
theorem r_neD {K : PySem.W.Frag} {H : Hp} {Q : VK} {x y : V} {d e : PyData} (h1 : Dp K H x d) (h2 : Dp K H y e) (s1 : SeqAt.shaped d = true) (s2 : SeqAt.shaped e = true) (k : Q (.bl (!PyData.eqv d e)) H) : rNeD K x y H Q := ⟨d, e, h1, h2, s1, s2, k⟩
/-- a or b, both told ahead -/
theorem r_orB {A B : TT} {σ : L2.St} {H : Hp} {QB : Bool → Hp → Prop} (a b : Bool) (h1 : ∀ R : Bool → Hp → Prop, R a H → A σ H R) (h2 : a = false → ∀ R : Bool → Hp → Prop, R b H → B σ H R) (k : QB (a || b) H) : tOr A B σ H QB := by
  refine h1 _ ?_
  cases a with
  | true => exact iteT k
  | false => exact iteF (h2 rfl _ k)
theorem r_andB {A B : TT} {σ : L2.St} {H : Hp} {QB : Bool → Hp → Prop} (a b : Bool) (h1 : ∀ R : Bool → Hp → Prop, R a H → A σ H R) (h2 : a = true → ∀ R : Bool → Hp → Prop, R b H → B σ H R) (k : QB (a && b) H) : tAnd A B σ H QB := by
  refine h1 _ ?_
  cases a with
  | true => exact iteT (h2 rfl _ k)
  | false => exact iteF k
/-- an if whose test is told -/
theorem ite_t {c : Bool} {A B : Prop} (h : c = true) (k : A) : if c = true then A else B := by rw [if_pos h]; exact k
theorem ite_f {c : Bool} {A B : Prop} (h : c = false) (k : B) : if c = true then A else B := by rw [if_neg (by rw [h]; exact Bool.false_ne_true)]; exact k
/-! ### slices -/
theorem cutV_from (xs : List V) (k : Nat) : cutV xs (some (k : Int)) none = xs.drop k := by
  unfold cutV
  rw [HT.sIx_none, HT.sIx_nat]
  rcases Nat.le_total k xs.length with h | h
  · rw [Nat.min_eq_left h, List.take_of_length_le (by rw [List.length_drop]; omega)]
  · rw [Nat.min_eq_right h, List.drop_of_length_le h, List.drop_of_length_le (Nat.le_refl _), List.take_nil]
theorem cutV_to (xs : List V) (k : Nat) : cutV xs none (some (k : Int)) = xs.take k := by
  unfold cutV
  rw [HT.sIx_none, HT.sIx_nat, List.drop_zero, Nat.sub_zero]
  rcases Nat.le_total k xs.length with h | h
  · rw [Nat.min_eq_left h]
  · rw [Nat.min_eq_right h, List.take_of_length_le (Nat.le_refl _), List.take_of_length_le h]
section
variable {K : PySem.W.Frag} {σ : L2.St} {H : Hp} {Q : VK} {te : TE} {tl th : TO} {r : V → Option Int → Option Int → Hp → VK → Prop} {QO : Option Int → Hp → Prop}
theorem r_sl (k : te σ H fun x H1 => tl σ H1 fun l H2 => th σ H2 fun u H3 => r x l u H3 Q) : tSl r te tl th σ H Q := k
theorem r_part (k : te σ H fun x H1 => ∃ i, x = .int i ∧ QO (some i) H1) : tPart te σ H QO := k
theorem r_nopart (k : QO none H) : tNoPart σ H QO := k
theorem n_part {i : Int} {R : Int → Prop} (k : R i) : ∃ j, V.int i = .int j ∧ R j := ⟨i, rfl, k⟩
theorem r_slL {p : Addr} {ys : List V} {lo hi : Option Int} (h : SqL K H p ys) (k : ∀ l H1, H l = none → Same H H1 → H1 l = some (.lst (cutV ys lo hi)) → Q (.ref l) H1) : rSlL K (.ref p) lo hi H Q := ⟨p, ys, rfl, h, fun l hl => k l _ hl (same_new hl) upd_same⟩
theorem r_cat {a b : Addr} {xs zs : List V} (h1 : H a = some (.lst xs)) (h2 : H b = some (.lst zs)) (hz : xs.length + zs.length ≤ sizeLine) (k : ∀ l H1, H l = none → Same H H1 → H1 l = some (.lst (xs ++ zs)) → Q (.ref l) H1) : rCat (.ref a) (.ref b) H Q := ⟨a, b, xs, zs, rfl, rfl, h1, h2, hz, fun l hl => k l _ hl (same_new hl) upd_same⟩
theorem r_setL {p : Addr} {xs : List V} {j : Nat} {v : V} {R : Hp → Prop} (h : H p = some (.lst xs)) (hj : j < xs.length) (k : ∀ H1, ExB [p] H H1 → H1 p = some (.lst (xs.set j v)) → R H1) : rSetL (.ref p) (.int (j : Int)) v H R :=
  ⟨p, xs, (j : Int), j, rfl, rfl, h, Evl.ixN_nat hj, k _ (exB_put h (by intro z e; cases e) (by simp)) upd_same⟩
end
theorem le_line {n : Nat} (h : n ≤ 20000) : n ≤ sizeLine := Nat.le_trans h (by decide)
theorem canLay_ints : ∀ ns : List Int, PyData.canLayAll0 (ns.map PyData.int) = true
  | [] => rfl
  | n :: r => by
    rw [List.map_cons, PyData.canLayAll0, canLay_ints r]
    rfl
theorem depth_ints : ∀ ns : List Int, PyData.depthAll (ns.map PyData.int) = 0
  | [] => rfl
  | n :: r => by
    rw [List.map_cons, PyData.depthAll, depth_ints r]
    rfl
theorem shaped_ints (ns : List Int) : SeqAt.shaped (.list (ns.map PyData.int)) = true := by
  unfold SeqAt.shaped
  rw [PyData.canLay0, canLay_ints, PyData.depth, depth_ints]
  decide
theorem shaped_intsT (ns : List Int) : SeqAt.shaped (.tuple (ns.map PyData.int)) = true := by
  unfold SeqAt.shaped
  rw [PyData.canLay0, canLay_ints, PyData.depth, depth_ints]
  decide
theorem dp_ints {K : PySem.W.Frag} {H : Hp} : ∀ ns : List Int, DpAll K H (ns.map V.int) (ns.map PyData.int)
  | [] => .nil
  | n :: r => .cons (.int n) (dp_ints r)
theorem dp_listI {K : PySem.W.Frag} {H : Hp} {a : Addr} {ns : List Int} (h : SqL K H a (ns.map V.int)) : Dp K H (.ref a) (.list (ns.map PyData.int)) := .lst h (dp_ints ns)
theorem dp_tupI {K : PySem.W.Frag} {H : Hp} {a : Addr} {ns : List Int} (h : SqT K H a (ns.map V.int)) : Dp K H (.ref a) (.tuple (ns.map PyData.int)) := .tup h (dp_ints ns)
theorem eqvAll_ints : ∀ (ns ms : List Int), PyData.eqvAll (ns.map PyData.int) (ms.map PyData.int) = decide (ns = ms)
  | [], [] => by simp [PyData.eqvAll]
  | [], _ :: _ => by simp [PyData.eqvAll]
  | _ :: _, [] => by simp [PyData.eqvAll]
  | n :: r, m :: s => by
    have ih := eqvAll_ints r s
    simp [PyData.eqvAll, PyData.eqv, ih]
    by_cases h : n = m <;> simp [h]
theorem eqv_listI (ns ms : List Int) : PyData.eqv (.list (ns.map PyData.int)) (.list (ms.map PyData.int)) = decide (ns = ms) := by rw [PyData.eqv, eqvAll_ints]
theorem eqv_tupI (ns ms : List Int) : PyData.eqv (.tuple (ns.map PyData.int)) (.tuple (ms.map PyData.int)) = decide (ns = ms) := by rw [PyData.eqv, eqvAll_ints]
section
variable {K : PySem.W.Frag} {σ : L2.St} {H : Hp} {Q : VK} {D : Ends} {ta : TA}
theorem r_par {i j : Nat} (k : ta σ H fun vs H1 => ∃ v w, vs = [v, w] ∧ D.nx ((σ.set i (some v)).set j (some w)) H1) : tPar i j ta D σ H := k
theorem r_par3 {i j l : Nat} (k : ta σ H fun vs H1 => ∃ u v w, vs = [u, v, w] ∧ D.nx (((σ.set i (some u)).set j (some v)).set l (some w)) H1) : tPar3 i j l ta D σ H := k
theorem n_par {v w : V} {R : V → V → Prop} (k : R v w) : ∃ v' w', [v, w] = [v', w'] ∧ R v' w' := ⟨v, w, rfl, k⟩
theorem n_par3 {u v w : V} {R : V → V → V → Prop} (k : R u v w) : ∃ u' v' w', [u, v, w] = [u', v', w'] ∧ R u' v' w' := ⟨u, v, w, rfl, k⟩
theorem r_repL {l : Addr} {xs : List V} {k : Int} (h : H l = some (.lst xs)) (h0 : 0 ≤ k) (h1 : k < 2 ^ 62) (hz : xs.length * k.toNat ≤ sizeLine) (q : ∀ p H1, H p = none → Same H H1 → H1 p = some (.lst (List.replicate k.toNat xs).flatten) → Q (.ref p) H1) : rRep (.ref l) (.int k) H Q :=
  ⟨l, k, xs, rfl, rfl, h, by omega, by omega, hz, fun p hp => q p _ hp (same_new hp) upd_same⟩
end
end RX
namespace K03
open PySem L2 RX
def top (i : Nat) : Stmt := PySem.Challenge.pw_retiredastold_k03_whole_caches_by_rows_o.main.body.getD i (.Pass ⟨0, 0, 0, 0⟩)
abbrev s_check : Stmt := top 5
abbrev s_is_integer : Stmt := top 6
abbrev s_is_within : Stmt := top 7
abbrev s_is_address : Stmt := top 8
abbrev s_is_cache : Stmt := top 13
abbrev s_Cache___init__ : Stmt := inClass (top 14) 0
abbrev s_Cache_row_of : Stmt := inClass (top 14) 1
abbrev s_Cache_look : Stmt := inClass (top 14) 2
abbrev s_Cache_touch : Stmt := inClass (top 14) 3
abbrev s_Cache_lines : Stmt := inClass (top 14) 5
abbrev s__law_draws : Stmt := top 16
abbrev s__law_take : Stmt := top 17
abbrev s__law_pick : Stmt := top 18
abbrev s__law_same : Stmt := top 19
abbrev s__law_looked : Stmt := top 20
abbrev s__law_shown : Stmt := top 21
abbrev s__law_address : Stmt := top 22
abbrev s__law_is_course_due : Stmt := top 23
abbrev s__law_refused : Stmt := top 24
abbrev s__law_are_refused : Stmt := top 25
abbrev s_law : Stmt := top 26
theorem sc_check : FnScope ["is_right"] ["is_right"] (defScope s_check) := ⟨rfl, rfl, rfl, by decide +kernel, rfl, by decide +kernel, by decide +kernel⟩
theorem sc_is_integer : FnScope ["value"] ["value"] (defScope s_is_integer) := ⟨rfl, rfl, rfl, by decide +kernel, rfl, by decide +kernel, by decide +kernel⟩
theorem sc_is_within : FnScope ["value", "low", "high"] ["value", "low", "high"] (defScope s_is_within) := ⟨rfl, rfl, rfl, by decide +kernel, rfl, by decide +kernel, by decide +kernel⟩
theorem sc_is_address : FnScope ["value"] ["value"] (defScope s_is_address) := ⟨rfl, rfl, rfl, by decide +kernel, rfl, by decide +kernel, by decide +kernel⟩
theorem sc_is_cache : FnScope ["sets", "ways", "line"] ["sets", "ways", "line"] (defScope s_is_cache) := ⟨rfl, rfl, rfl, by decide +kernel, rfl, by decide +kernel, by decide +kernel⟩
theorem sc_Cache___init__ : FnScope ["self", "sets", "ways", "line", "_"] ["self", "sets", "ways", "line"] (defScope s_Cache___init__) := ⟨rfl, rfl, rfl, by decide +kernel, rfl, by decide +kernel, by decide +kernel⟩
theorem sc_Cache_row_of : FnScope ["self", "number"] ["self", "number"] (defScope s_Cache_row_of) := ⟨rfl, rfl, rfl, by decide +kernel, rfl, by decide +kernel, by decide +kernel⟩
theorem sc_Cache_look : FnScope ["self", "address", "row"] ["self", "address"] (defScope s_Cache_look) := ⟨rfl, rfl, rfl, by decide +kernel, rfl, by decide +kernel, by decide +kernel⟩
theorem sc_Cache_touch : FnScope ["self", "address", "number", "row"] ["self", "address"] (defScope s_Cache_touch) := ⟨rfl, rfl, rfl, by decide +kernel, rfl, by decide +kernel, by decide +kernel⟩
theorem sc_Cache_lines : FnScope ["self", "row", "number"] ["self"] (defScope s_Cache_lines) := ⟨rfl, rfl, rfl, by decide +kernel, rfl, by decide +kernel, by decide +kernel⟩
theorem sc__law_draws : FnScope ["script", "draws", "cell", "number", "first", "k", "seed"] ["script"] (defScope s__law_draws) := ⟨rfl, rfl, rfl, by decide +kernel, rfl, by decide +kernel, by decide +kernel⟩
theorem sc__law_take : FnScope ["draws", "bound"] ["draws", "bound"] (defScope s__law_take) := ⟨rfl, rfl, rfl, by decide +kernel, rfl, by decide +kernel, by decide +kernel⟩
theorem sc__law_pick : FnScope ["draws", "some"] ["draws", "some"] (defScope s__law_pick) := ⟨rfl, rfl, rfl, by decide +kernel, rfl, by decide +kernel, by decide +kernel⟩
theorem sc__law_same : FnScope ["actual", "due", "k", "key"] ["actual", "due"] (defScope s__law_same) := ⟨rfl, rfl, rfl, by decide +kernel, rfl, by decide +kernel, by decide +kernel⟩
theorem sc__law_looked : FnScope ["sets", "ways", "line", "address", "does_come", "number", "at", "first", "was", "row", "one"] ["sets", "ways", "line", "address", "does_come"] (defScope s__law_looked) := ⟨rfl, rfl, rfl, by decide +kernel, rfl, by decide +kernel, by decide +kernel⟩
theorem sc__law_shown : FnScope ["sets", "row"] ["sets"] (defScope s__law_shown) := ⟨rfl, rfl, rfl, by decide +kernel, rfl, by decide +kernel, by decide +kernel⟩
theorem sc__law_address : FnScope ["draws", "sizes", "lately", "sets", "ways", "line", "near"] ["draws", "sizes", "lately"] (defScope s__law_address) := ⟨rfl, rfl, rfl, by decide +kernel, rfl, by decide +kernel, by decide +kernel⟩
theorem sc__law_is_course_due : FnScope ["draws", "sizes", "cache", "wide", "other", "sets", "lately", "turn", "address", "does_come", "was", "told", "more", "at"] ["draws"] (defScope s__law_is_course_due) := ⟨rfl, rfl, rfl, by decide +kernel, rfl, by decide +kernel, by decide +kernel⟩
theorem sc__law_refused : FnScope ["kind", "cache", "args"] ["kind", "cache", "args"] (defScope s__law_refused) := ⟨rfl, rfl, rfl, by decide +kernel, rfl, by decide +kernel, by decide +kernel⟩
theorem sc__law_are_refused : FnScope ["draws", "sizes", "cache", "odd", "at", "one", "told", "address"] ["draws"] (defScope s__law_are_refused) := ⟨rfl, rfl, rfl, by decide +kernel, rfl, by decide +kernel, by decide +kernel⟩
theorem sc_law : FnScope ["script", "draws", "turn"] ["script"] (defScope s_law) := ⟨rfl, rfl, rfl, by decide +kernel, rfl, by decide +kernel, by decide +kernel⟩
/-- where the top has put its things -/
structure Adr where
  f_check : Addr
  d_check : FuncData
  f_is_integer : Addr
  d_is_integer : FuncData
  f_is_within : Addr
  d_is_within : FuncData
  f_is_address : Addr
  d_is_address : FuncData
  f_is_cache : Addr
  d_is_cache : FuncData
  f_Cache___init__ : Addr
  d_Cache___init__ : FuncData
  f_Cache_row_of : Addr
  d_Cache_row_of : FuncData
  f_Cache_look : Addr
  d_Cache_look : FuncData
  f_Cache_touch : Addr
  d_Cache_touch : FuncData
  f_Cache_lines : Addr
  d_Cache_lines : FuncData
  f__law_draws : Addr
  d__law_draws : FuncData
  f__law_take : Addr
  d__law_take : FuncData
  f__law_pick : Addr
  d__law_pick : FuncData
  f__law_same : Addr
  d__law_same : FuncData
  f__law_looked : Addr
  d__law_looked : FuncData
  f__law_shown : Addr
  d__law_shown : FuncData
  f__law_address : Addr
  d__law_address : FuncData
  f__law_is_course_due : Addr
  d__law_is_course_due : FuncData
  f__law_refused : Addr
  d__law_refused : FuncData
  f__law_are_refused : Addr
  d__law_are_refused : FuncData
  f_law : Addr
  d_law : FuncData
  C_CoreError : Addr
  C_NotRight : Addr
  C_Cache : Addr
  t_ADDRESSES : Tok
  a_MOST_SETS : Addr
  t_MOST_WAYS : Tok
  a_LINES : Addr
structure Txt (K : PySem.W.Frag) (mg : Str → Option Value) (A : Adr) : Prop where
  F_check : Fun K "check" "check" s_check A.f_check A.d_check
  b_check : Binds K A.d_check ["is_right"] []
  g_check : mg "check" = some (.ref A.f_check)
  F_is_integer : Fun K "is_integer" "is_integer" s_is_integer A.f_is_integer A.d_is_integer
  b_is_integer : Binds K A.d_is_integer ["value"] []
  g_is_integer : mg "is_integer" = some (.ref A.f_is_integer)
  F_is_within : Fun K "is_within" "is_within" s_is_within A.f_is_within A.d_is_within
  b_is_within : Binds K A.d_is_within ["value", "low", "high"] []
  g_is_within : mg "is_within" = some (.ref A.f_is_within)
  F_is_address : Fun K "is_address" "is_address" s_is_address A.f_is_address A.d_is_address
  b_is_address : Binds K A.d_is_address ["value"] []
  g_is_address : mg "is_address" = some (.ref A.f_is_address)
  F_is_cache : Fun K "is_cache" "is_cache" s_is_cache A.f_is_cache A.d_is_cache
  b_is_cache : Binds K A.d_is_cache ["sets", "ways", "line"] []
  g_is_cache : mg "is_cache" = some (.ref A.f_is_cache)
  F_Cache___init__ : Fun K "__init__" "Cache.__init__" s_Cache___init__ A.f_Cache___init__ A.d_Cache___init__
  b_Cache___init__ : Binds K A.d_Cache___init__ ["self", "sets", "ways", "line"] []
  mk_Cache : Mk K A.C_Cache A.f_Cache___init__
  F_Cache_row_of : Fun K "row_of" "Cache.row_of" s_Cache_row_of A.f_Cache_row_of A.d_Cache_row_of
  b_Cache_row_of : Binds K A.d_Cache_row_of ["self", "number"] []
  m_Cache_row_of : Meth K A.C_Cache "row_of" A.f_Cache_row_of
  F_Cache_look : Fun K "look" "Cache.look" s_Cache_look A.f_Cache_look A.d_Cache_look
  b_Cache_look : Binds K A.d_Cache_look ["self", "address"] []
  m_Cache_look : Meth K A.C_Cache "look" A.f_Cache_look
  F_Cache_touch : Fun K "touch" "Cache.touch" s_Cache_touch A.f_Cache_touch A.d_Cache_touch
  b_Cache_touch : Binds K A.d_Cache_touch ["self", "address"] []
  m_Cache_touch : Meth K A.C_Cache "touch" A.f_Cache_touch
  F_Cache_lines : Fun K "lines" "Cache.lines" s_Cache_lines A.f_Cache_lines A.d_Cache_lines
  b_Cache_lines : Binds K A.d_Cache_lines ["self"] []
  m_Cache_lines : Meth K A.C_Cache "lines" A.f_Cache_lines
  F__law_draws : Fun K "_law_draws" "_law_draws" s__law_draws A.f__law_draws A.d__law_draws
  b__law_draws : Binds K A.d__law_draws ["script"] []
  g__law_draws : mg "_law_draws" = some (.ref A.f__law_draws)
  F__law_take : Fun K "_law_take" "_law_take" s__law_take A.f__law_take A.d__law_take
  b__law_take : Binds K A.d__law_take ["draws", "bound"] []
  g__law_take : mg "_law_take" = some (.ref A.f__law_take)
  F__law_pick : Fun K "_law_pick" "_law_pick" s__law_pick A.f__law_pick A.d__law_pick
  b__law_pick : Binds K A.d__law_pick ["draws", "some"] []
  g__law_pick : mg "_law_pick" = some (.ref A.f__law_pick)
  F__law_same : Fun K "_law_same" "_law_same" s__law_same A.f__law_same A.d__law_same
  b__law_same : Binds K A.d__law_same ["actual", "due"] []
  g__law_same : mg "_law_same" = some (.ref A.f__law_same)
  F__law_looked : Fun K "_law_looked" "_law_looked" s__law_looked A.f__law_looked A.d__law_looked
  b__law_looked : Binds K A.d__law_looked ["sets", "ways", "line", "address", "does_come"] []
  g__law_looked : mg "_law_looked" = some (.ref A.f__law_looked)
  F__law_shown : Fun K "_law_shown" "_law_shown" s__law_shown A.f__law_shown A.d__law_shown
  b__law_shown : Binds K A.d__law_shown ["sets"] []
  g__law_shown : mg "_law_shown" = some (.ref A.f__law_shown)
  F__law_address : Fun K "_law_address" "_law_address" s__law_address A.f__law_address A.d__law_address
  b__law_address : Binds K A.d__law_address ["draws", "sizes", "lately"] []
  g__law_address : mg "_law_address" = some (.ref A.f__law_address)
  F__law_is_course_due : Fun K "_law_is_course_due" "_law_is_course_due" s__law_is_course_due A.f__law_is_course_due A.d__law_is_course_due
  b__law_is_course_due : Binds K A.d__law_is_course_due ["draws"] []
  g__law_is_course_due : mg "_law_is_course_due" = some (.ref A.f__law_is_course_due)
  F__law_refused : Fun K "_law_refused" "_law_refused" s__law_refused A.f__law_refused A.d__law_refused
  b__law_refused : Binds K A.d__law_refused ["kind", "cache", "args"] []
  g__law_refused : mg "_law_refused" = some (.ref A.f__law_refused)
  F__law_are_refused : Fun K "_law_are_refused" "_law_are_refused" s__law_are_refused A.f__law_are_refused A.d__law_are_refused
  b__law_are_refused : Binds K A.d__law_are_refused ["draws"] []
  g__law_are_refused : mg "_law_are_refused" = some (.ref A.f__law_are_refused)
  F_law : Fun K "law" "law" s_law A.f_law A.d_law
  b_law : Binds K A.d_law ["script"] []
  g_law : mg "law" = some (.ref A.f_law)
  g_CoreError : mg "CoreError" = some (.ref A.C_CoreError)
  k_CoreError : PySem.W.keepIn K (.ref A.C_CoreError) = true
  bx_CoreError : PySem.W.subIn K (.ref A.C_CoreError) (.type "BaseException") = some true
  tx_CoreError : PySem.W.typeIn K (.ref A.C_CoreError) = some (.type "type")
  ic_CoreError : PySem.W.isClsIn K A.C_CoreError = true
  g_NotRight : mg "NotRight" = some (.ref A.C_NotRight)
  k_NotRight : PySem.W.keepIn K (.ref A.C_NotRight) = true
  bx_NotRight : PySem.W.subIn K (.ref A.C_NotRight) (.type "BaseException") = some true
  tx_NotRight : PySem.W.typeIn K (.ref A.C_NotRight) = some (.type "type")
  ic_NotRight : PySem.W.isClsIn K A.C_NotRight = true
  x_NotRight : PySem.W.excIn K A.C_NotRight [.type "Exception", .type "BaseException", .type "object"] "Exception.__new__" = true
  e_NotRight_NotRight : PySem.W.exmOne K (.ref A.C_NotRight) (.ref A.C_NotRight) = some true
  g_Cache : mg "Cache" = some (.ref A.C_Cache)
  cl_Cache : Cls K A.C_Cache
  n_Cache_rows : NoAttr K A.C_Cache "rows"
  n_Cache_ways : NoAttr K A.C_Cache "ways"
  n_Cache_line : NoAttr K A.C_Cache "line"
  g_ADDRESSES : mg "ADDRESSES" = some (.int 4096 A.t_ADDRESSES)
  g_MOST_SETS : mg "MOST_SETS" = some (.ref A.a_MOST_SETS)
  s_MOST_SETS : ∀ H : Hp, SqT K H A.a_MOST_SETS [V.int 1, V.int 2, V.int 4, V.int 8, V.int 16]
  g_MOST_WAYS : mg "MOST_WAYS" = some (.int 4 A.t_MOST_WAYS)
  g_LINES : mg "LINES" = some (.ref A.a_LINES)
  s_LINES : ∀ H : Hp, SqT K H A.a_LINES [V.int 1, V.int 2, V.int 4, V.int 8]
  z_abs : mg "abs" = none
  z_bool : mg "bool" = none
  z_dict : mg "dict" = none
  z_int : mg "int" = none
  z_isinstance : mg "isinstance" = none
  z_len : mg "len" = none
  z_list : mg "list" = none
  z_max : mg "max" = none
  z_min : mg "min" = none
  z_range : mg "range" = none
  z_reversed : mg "reversed" = none
  z_str : mg "str" = none
  z_tuple : mg "tuple" = none
theorem exm_mk {K : PySem.W.Frag} {C D : Addr} {b : Bool} (h1 : PySem.W.subIn K (.ref C) (.type "BaseException") = some true) (h0 : PySem.W.subIn K (.ref D) (.type "BaseException") = some true) (h2 : PySem.W.isClsIn K D = true) (h3 : PySem.W.typeIn K (.ref D) = some (.type "type")) (h4 : PySem.W.subIn K (.ref C) (.ref D) = some b) :
    PySem.W.exmOne K (.ref C) (.ref D) = some b := by
  have e1 : (PySem.W.subIn K (.ref D) (.type "BaseException") == some true) = true := by rw [h0] <;> rfl
  have e2 : ((PySem.W.clsIn K D).isSome && PySem.W.typeIn K (.ref D) == some (.type "type")) = true := by
    have h2' : (PySem.W.clsIn K D).isSome = true := h2
    rw [h2', h3] <;> rfl
  show (if (PySem.W.subIn K (.ref D) (.type "BaseException") == some true) = true then (if ((PySem.W.clsIn K D).isSome && PySem.W.typeIn K (.ref D) == some (.type "type")) = true then PySem.W.subIn K (.ref C) (.ref D) else none) else none) = some b
  rw [if_pos e1, if_pos e2]
  exact h4
end K03
local macro_rules | `(tactic| walk_at "rdo1") => `(tactic| first
  | with_reducible refine RX.r_seq ?_ | with_reducible refine RX.r_asg ?_ | with_reducible refine RX.r_ret ?_ | with_reducible refine RX.r_drop ?_ | with_reducible refine RX.r_ifS ?_ | with_reducible refine RX.r_next ?_
  | with_reducible refine RX.r_op ?_ | with_reducible refine RX.r_un ?_ | ((with_reducible refine RX.r_var (v := ?v) ?hv ?_); (case hv => exact rfl)) | with_reducible refine RX.r_c ?_
  | with_reducible refine RX.r_I0 ?_ | with_reducible refine RX.r_U ?_ | with_reducible refine RX.r_test ?_ | with_reducible refine RX.r_tB ?_ | with_reducible refine RX.r_bl ?_ | with_reducible refine RX.r_not ?_
  | with_reducible refine RX.r_andV ?_ | with_reducible refine RX.r_orV ?_ | with_reducible refine RX.r_notV ?_ | with_reducible refine RX.r_if ?_
  | with_reducible refine RX.r_gName ?_ | with_reducible refine RX.r_nil ?_ | with_reducible refine RX.r_cons ?_ | with_reducible refine RX.r_CB ?_ | with_reducible refine RX.r_call ?_ | with_reducible refine RX.r_chain ?_
  | with_reducible refine RX.r_tup ?_ | with_reducible refine RX.r_lst ?_ | with_reducible refine RX.r_fld ?_ | with_reducible refine RX.r_meth ?_ | with_reducible refine RX.r_make ?_ | with_reducible refine RX.r_BM ?_ | with_reducible refine RX.r_BM0 ?_
  | with_reducible refine RX.r_for ?_ | with_reducible refine RX.r_delS ?_ | with_reducible refine RX.n_int1 ?_ | with_reducible refine RX.n_1 ?_ | with_reducible refine RX.n_2 ?_ | with_reducible refine RX.n_rng1 ?_ | with_reducible refine RX.r_lc ?_ | with_reducible refine RX.r_iL ?_ | with_reducible refine RX.r_iT ?_ | with_reducible refine RX.r_yes ?_ | with_reducible refine RX.r_sl ?_ | with_reducible refine RX.r_part ?_ | with_reducible refine RX.r_nopart ?_ | with_reducible refine RX.r_par ?_ | with_reducible refine RX.r_par3 ?_ | with_reducible refine RX.n_par ?_ | with_reducible refine RX.n_par3 ?_ | with_reducible refine RX.r_truth ?_ | with_reducible refine RX.r_enum ?_ | with_reducible refine RX.n_part ?_ | with_reducible refine RX.n_andrfl ?_ | with_reducible refine RX.r_tlr ?_ | with_reducible refine RX.g_cons ?_ | with_reducible refine RX.g_nil ?_ | with_reducible refine RX.g_fld ?_ | with_reducible refine RX.g_sub ?_
  | with_reducible refine RX.n_sp0 ?_ | with_reducible refine RX.n_sp1 ?_ | with_reducible refine RX.n_sp2 ?_ | with_reducible refine RX.n_sp3 ?_ | with_reducible refine RX.n_sp4 ?_ | with_reducible refine RX.n_sp5 ?_ | with_reducible refine RX.n_sp6 ?_ | with_reducible refine RX.n_sm1 ?_ | with_reducible refine RX.n_sm2 ?_ | with_reducible refine RX.n_sm3 ?_ | with_reducible refine RX.n_sm4 ?_ | with_reducible refine RX.n_sm5 ?_ | with_reducible refine RX.n_sm6 ?_
  | with_reducible refine L2.iteT ?_ | with_reducible refine L2.iteF ?_)
local macro_rules | `(tactic| walk_at "rd1") => `(tactic| first | walk_at "rdo1" | with_reducible refine RX.r_and ?_ | with_reducible refine RX.r_or ?_)
local macro_rules | `(tactic| walk_at "rd") => `(tactic| repeat walk_at "rd1")
local macro_rules | `(tactic| walk_at "rdo") => `(tactic| repeat walk_at "rdo1")
local macro_rules | `(tactic| walk_at "lk") => `(tactic| repeat (first | with_reducible exact RX.lk_hit | (refine Eq.trans (RX.lk_miss (by decide +kernel)) ?_) | exact rfl))
local macro_rules | `(tactic| walk_at "pf") => `(tactic| repeat (first | with_reducible exact RX.put_hit | (refine Eq.trans (RX.put_miss (by decide +kernel)) (congrArg _ ?_)) | exact rfl))

namespace K03
open PySem PySem.Spec PyProof.Rows L2 RX
def within (v : V) (lo hi : Int) : Bool := match v with
  | .int i => decide (lo ≤ i) && decide (i ≤ hi)
  | _ => false
abbrev sp_check (A : Adr) : Sp := Sp1 fun v H Q E => ∃ b, v = .bl b ∧ (b = true → Q .non H) ∧ (b = false → E (.ref A.C_NotRight) none H)
abbrev sp_is_integer (K : PySem.W.Frag) : Sp := Sp1 fun v H Q _ => ∃ T, OfTy K H v T ∧ T ∈ tyNames ∧ Q (.bl (decide (T = "int"))) H
abbrev sp_is_within (K : PySem.W.Frag) : Sp := Sp3 fun v lo hi H Q _ => ∃ T l h, lo = .int l ∧ hi = .int h ∧ OfTy K H v T ∧ T ∈ tyNames ∧ Q (.bl (within v l h)) H
abbrev sp_is_address (K : PySem.W.Frag) : Sp := Sp1 fun v H Q _ => ∃ T, OfTy K H v T ∧ T ∈ tyNames ∧ Q (.bl (within v 0 4095)) H
theorem ok_check {P : Program} {w : World} {K : PySem.W.Frag} {mg : Str → Option Value} {base : Heap} {A : Adr} (T : Txt K mg A) : FnOk P w K mg base (L2.CX P w) 1 A.f_check A.d_check ["is_right"] (sp_check A) := by
  refine T.F_check.okX sc_check (len1 _) (fun cdv AA outer s H vs Q E hr h => ?_)
  refine ⟨_, (pss_one (ps_if (pt_not (pt_val (pv 0))) (pss_one (ps_raise rfl (takes_of rfl rfl rfl rfl) (pmk_own PySem.F.excBase_Exception T.x_NotRight T.g_NotRight T.k_NotRight (raises_own T.bx_NotRight T.tx_NotRight) rfl))) pss_nil)), ?_⟩
  obtain ⟨v, rfl, b, rfl, h1, h2⟩ := h
  walk_at "rd"
  walk_at "rd"
  cases b with
  | true => exact iteF (h1 rfl)
  | false => exact iteT (h2 rfl)
theorem ok_is_integer {P : Program} {w : World} {K : PySem.W.Frag} {mg : Str → Option Value} {base : Heap} {A : Adr} (T : Txt K mg A) : FnOk P w K mg base CX0 1 A.f_is_integer A.d_is_integer ["value"] (sp_is_integer K) := by
  refine T.F_is_integer.ok sc_is_integer (len1 _) (fun cdv AA outer s H vs Q E hr h => ?_)
  refine ⟨_, (pss_one (ps_ret (pe_and (pe_callB (k_isi K) (by rfl) T.z_isinstance boot_isinstance (pa_cons (pv 0) (pa_cons (pe_bltn (v := .ty "int") (by rfl) T.z_int boot_int rfl) pa_nil))) (pe_one (pe_not (pe_callB (k_isi K) (by rfl) T.z_isinstance boot_isinstance (pa_cons (pv 0) (pa_cons (pe_bltn (v := .ty "bool") (by rfl) T.z_bool boot_bool rfl) pa_nil)))))))), ?_⟩
  obtain ⟨v, rfl, T', hT, hn, k⟩ := h
  have e := isi_int hn
  walk_at "rd"
  refine r_isi hT hn ?_
  walk_at "rd"
  cases h1 : isi1 T' "int" with
  | false =>
    rw [h1, Bool.false_and] at e
    refine iteF ?_
    rw [← e] at k
    exact k
  | true =>
    rw [h1, Bool.true_and] at e
    refine iteT ?_
    walk_at "rd"
    refine r_isi hT hn ?_
    walk_at "rd"
    rw [e]
    exact k
theorem within_int {v : V} {K : PySem.W.Frag} {H : Hp} {T : String} {l h : Int} (hT : OfTy K H v T) (e : decide (T = "int") = true) : ∃ i, v = .int i ∧ within v l h = (decide (l ≤ i) && decide (i ≤ h)) := by
  have e := of_decide_eq_true e
  subst e
  obtain ⟨i, rfl⟩ := hT.int
  exact ⟨i, rfl, rfl⟩
theorem within_no {v : V} {K : PySem.W.Frag} {H : Hp} {T : String} {l h : Int} (hT : OfTy K H v T) (e : decide (T = "int") = false) : within v l h = false := by
  cases v with
  | int i =>
    exfalso
    cases hT with
    | base b => cases b; revert e; decide
  | _ => rfl
theorem ok_is_within {P : Program} {w : World} {K : PySem.W.Frag} {mg : Str → Option Value} {base : Heap} {A : Adr} (T : Txt K mg A) : FnOk P w K mg base CX0 2 A.f_is_within A.d_is_within ["value", "low", "high"] (sp_is_within K) := by
  refine T.F_is_within.ok sc_is_within (len3 _) (fun cdv AA outer s H vs Q E hr h => ?_)
  refine ⟨_, (pss_one (ps_ret (pe_and (pe_call (ok_is_integer T) (hr.mono (by decide)) rfl T.g_is_integer T.F_is_integer.kp T.b_is_integer .nil pass0 (pa_cons (pv 0) pa_nil)) (pe_one (pe_chain op_le op_le (pv 1) (pv 0) (pv 2)))))), ?_⟩
  obtain ⟨v, lo, hi, rfl, T', l, h, rfl, rfl, hT, hn, k⟩ := h
  walk_at "rd"
  refine ⟨T', hT, hn, ?_⟩
  walk_at "rd"
  cases e : decide (T' = "int") with
  | false =>
    rw [within_no hT e] at k
    exact iteF k
  | true =>
    obtain ⟨i, rfl, e2⟩ := within_int (l := l) (h := h) hT e
    rw [e2] at k
    refine iteT ?_
    walk_at "rd"
    cases h1 : decide (l ≤ i) with
    | true =>
      rw [h1, Bool.true_and] at k
      refine iteT ?_
      walk_at "rd"
      exact k
    | false =>
      rw [h1, Bool.false_and] at k
      exact iteF k
theorem ok_is_address {P : Program} {w : World} {K : PySem.W.Frag} {mg : Str → Option Value} {base : Heap} {A : Adr} (T : Txt K mg A) : FnOk P w K mg base CX0 3 A.f_is_address A.d_is_address ["value"] (sp_is_address K) := by
  refine T.F_is_address.ok sc_is_address (len1 _) (fun cdv AA outer s H vs Q E hr h => ?_)
  refine ⟨_, (pss_one (ps_ret (pe_call (ok_is_within T) (hr.mono (by decide)) rfl T.g_is_within T.F_is_within.kp T.b_is_within .nil pass0 (pa_cons (pv 0) (pa_cons (pe_int) (pa_cons (pe_op op_sub (pe_glob (v := .int (4096)) rfl T.g_ADDRESSES ⟨_, rfl⟩) (pe_int)) pa_nil)))))), ?_⟩
  obtain ⟨v, rfl, T', hT, hn, k⟩ := h
  walk_at "rd"
  exact ⟨T', 0, 4095, rfl, rfl, hT, hn, k⟩
def szs (v : V) : Bool := match v with | .int i => [1, 2, 4, 8, 16].contains i | _ => false
def lns (v : V) : Bool := match v with | .int i => [1, 2, 4, 8].contains i | _ => false
abbrev sp_is_cache (K : PySem.W.Frag) : Sp := Sp3 fun s w l H Q _ => ∃ T1 T2 T3, OfTy K H s T1 ∧ T1 ∈ tyNames ∧ OfTy K H w T2 ∧ T2 ∈ tyNames ∧ OfTy K H l T3 ∧ T3 ∈ tyNames ∧ Q (.bl (szs s && lns l && within w 1 4)) H
theorem ok_is_cache {P : Program} {w : World} {K : PySem.W.Frag} {mg : Str → Option Value} {base : Heap} {A : Adr} (T : Txt K mg A) : FnOk P w K mg base CX0 3 A.f_is_cache A.d_is_cache ["sets", "ways", "line"] (sp_is_cache K) := by
  refine T.F_is_cache.ok sc_is_cache (len3 _) (fun cdv AA outer s H vs Q E hr h => ?_)
  refine ⟨_, (pss_cons (ps_if (PW.pt (pw_or (pt_not (pt_val (pe_call (ok_is_within T) (hr.mono (by decide)) rfl T.g_is_within T.F_is_within.kp T.b_is_within .nil pass0 (pa_cons (pv 0) (pa_cons (pe_int) (pa_cons (pe_ix (k_ixT K) (pe_glob (v := .ref A.a_MOST_SETS) rfl T.g_MOST_SETS rfl) (pe_un un_neg (pe_int)) (fun _ _ => rfl)) pa_nil)))))) (pw_or1 (pt_not (pt_val (pe_call (ok_is_within T) (hr.mono (by decide)) rfl T.g_is_within T.F_is_within.kp T.b_is_within .nil pass0 (pa_cons (pv 2) (pa_cons (pe_int) (pa_cons (pe_ix (k_ixT K) (pe_glob (v := .ref A.a_LINES) rfl T.g_LINES rfl) (pe_un un_neg (pe_int)) (fun _ _ => rfl)) pa_nil))))))))) (pss_one (ps_ret (pe_bl))) pss_nil)
      (pss_one (ps_ret (pe_and (pe_cmpR (k_in K) (pv 0) (pe_glob (v := .ref A.a_MOST_SETS) rfl T.g_MOST_SETS rfl) (by rfl)) (pe_and (pe_cmpR (k_in K) (pv 2) (pe_glob (v := .ref A.a_LINES) rfl T.g_LINES rfl) (by rfl)) (pe_one (pe_call (ok_is_within T) (hr.mono (by decide)) rfl T.g_is_within T.F_is_within.kp T.b_is_within .nil pass0 (pa_cons (pv 1) (pa_cons (pe_int) (pa_cons (pe_glob (v := .int (4)) rfl T.g_MOST_WAYS ⟨_, rfl⟩) pa_nil)))))))))), ?_⟩
  obtain ⟨s1, w1, l1, rfl, T1, T2, T3, h1, m1, h2, m2, h3, m3, k⟩ := h
  walk_at "rd"
  refine r_ixT (v := .int 16) (T.s_MOST_SETS H) rfl ?_
  walk_at "rd"
  refine ⟨T1, 1, 16, rfl, rfl, h1, m1, ?_⟩
  walk_at "rd"
  have no1 : within s1 1 16 = false → szs s1 = false := fun e => by
    cases s1 with
    | int i =>
      have e' : (decide (1 ≤ i) && decide (i ≤ 16)) = false := e
      show [1, 2, 4, 8, 16].contains i = false
      rw [Bool.eq_false_iff]
      intro q
      simp at q
      rw [Bool.and_eq_false_iff] at e'
      simp at e'
      omega
    | _ => rfl
  have no2 : within l1 1 8 = false → lns l1 = false := fun e => by
    cases l1 with
    | int i =>
      have e' : (decide (1 ≤ i) && decide (i ≤ 8)) = false := e
      show [1, 2, 4, 8].contains i = false
      rw [Bool.eq_false_iff]
      intro q
      simp at q
      rw [Bool.and_eq_false_iff] at e'
      simp at e'
      omega
    | _ => rfl
  cases e1 : within s1 1 16 with
  | false =>
    rw [no1 e1] at k
    refine iteT (iteT ?_)
    walk_at "rd"
    exact k
  | true =>
    refine iteF ?_
    walk_at "rd"
    refine r_ixT (v := .int 8) (T.s_LINES H) rfl ?_
    walk_at "rd"
    refine ⟨T3, 1, 8, rfl, rfl, h3, m3, ?_⟩
    walk_at "rd"
    cases e2 : within l1 1 8 with
    | false =>
      rw [no2 e2, Bool.and_false] at k
      refine iteT ?_
      walk_at "rd"
      exact k
    | true =>
      refine iteF ?_
      walk_at "rd"
      obtain ⟨i, rfl⟩ : ∃ i, s1 = .int i := by cases s1 <;> first | exact ⟨_, rfl⟩ | exact absurd e1 Bool.false_ne_true
      obtain ⟨j, rfl⟩ : ∃ i, l1 = .int i := by cases l1 <;> first | exact ⟨_, rfl⟩ | exact absurd e2 Bool.false_ne_true
      refine r_inT (T.s_MOST_SETS H) rfl rfl ?_
      walk_at "rd"
      have c1 : (if false = true then !inV (V.int i) [V.int 1, V.int 2, V.int 4, V.int 8, V.int 16] else inV (V.int i) [V.int 1, V.int 2, V.int 4, V.int 8, V.int 16]) = szs (.int i) := inV_ints (ns := [1, 2, 4, 8, 16])
      have c2 : (if false = true then !inV (V.int j) [V.int 1, V.int 2, V.int 4, V.int 8] else inV (V.int j) [V.int 1, V.int 2, V.int 4, V.int 8]) = lns (.int j) := inV_ints (ns := [1, 2, 4, 8])
      rw [c1]
      cases f1 : szs (.int i) with
      | false =>
        rw [f1] at k
        exact iteF k
      | true =>
        rw [f1, Bool.true_and] at k
        refine iteT ?_
        walk_at "rd"
        refine r_inT (T.s_LINES H) rfl rfl ?_
        walk_at "rd"
        rw [c2]
        cases f2 : lns (.int j) with
        | false =>
          rw [f2] at k
          exact iteF k
        | true =>
          rw [f2, Bool.true_and] at k
          refine iteT ?_
          walk_at "rd"
          exact ⟨T2, 1, 4, rfl, rfl, h2, m2, k⟩
end K03
local macro_rules | `(tactic| walk_at "rdo1") => `(tactic| first
  | with_reducible refine RX.r_seq ?_ | with_reducible refine RX.r_asg ?_ | with_reducible refine RX.r_ret ?_ | with_reducible refine RX.r_drop ?_ | with_reducible refine RX.r_ifS ?_ | with_reducible refine RX.r_next ?_
  | with_reducible refine RX.r_op ?_ | with_reducible refine RX.r_un ?_ | ((with_reducible refine RX.r_var (v := ?v) ?hv ?_); (case hv => exact rfl)) | with_reducible refine RX.r_c ?_
  | with_reducible refine RX.r_I0 ?_ | with_reducible refine RX.r_U ?_ | with_reducible refine RX.r_test ?_ | with_reducible refine RX.r_tB ?_ | with_reducible refine RX.r_bl ?_ | with_reducible refine RX.r_not ?_
  | with_reducible refine RX.r_andV ?_ | with_reducible refine RX.r_orV ?_ | with_reducible refine RX.r_notV ?_ | with_reducible refine RX.r_if ?_
  | with_reducible refine RX.r_gName ?_ | with_reducible refine RX.r_nil ?_ | with_reducible refine RX.r_cons ?_ | with_reducible refine RX.r_CB ?_ | with_reducible refine RX.r_call ?_ | with_reducible refine RX.r_chain ?_
  | with_reducible refine RX.r_tup ?_ | with_reducible refine RX.r_lst ?_ | with_reducible refine RX.r_fld ?_ | with_reducible refine RX.r_meth ?_ | with_reducible refine RX.r_make ?_ | with_reducible refine RX.r_BM ?_ | with_reducible refine RX.r_BM0 ?_
  | with_reducible refine RX.r_for ?_ | with_reducible refine RX.r_delS ?_ | with_reducible refine RX.n_int1 ?_ | with_reducible refine RX.n_1 ?_ | with_reducible refine RX.n_2 ?_ | with_reducible refine RX.n_rng1 ?_ | with_reducible refine RX.r_lc ?_ | with_reducible refine RX.r_iL ?_ | with_reducible refine RX.r_iT ?_ | with_reducible refine RX.r_yes ?_ | with_reducible refine RX.r_sl ?_ | with_reducible refine RX.r_part ?_ | with_reducible refine RX.r_nopart ?_ | with_reducible refine RX.r_par ?_ | with_reducible refine RX.r_par3 ?_ | with_reducible refine RX.n_par ?_ | with_reducible refine RX.n_par3 ?_ | with_reducible refine RX.r_truth ?_ | with_reducible refine RX.r_enum ?_ | with_reducible refine RX.n_part ?_ | with_reducible refine RX.n_andrfl ?_ | with_reducible refine RX.r_tlr ?_ | with_reducible refine RX.g_cons ?_ | with_reducible refine RX.g_nil ?_ | with_reducible refine RX.g_fld ?_ | with_reducible refine RX.g_sub ?_
  | with_reducible refine RX.n_sp0 ?_ | with_reducible refine RX.n_sp1 ?_ | with_reducible refine RX.n_sp2 ?_ | with_reducible refine RX.n_sp3 ?_ | with_reducible refine RX.n_sp4 ?_ | with_reducible refine RX.n_sp5 ?_ | with_reducible refine RX.n_sp6 ?_ | with_reducible refine RX.n_sm1 ?_ | with_reducible refine RX.n_sm2 ?_ | with_reducible refine RX.n_sm3 ?_ | with_reducible refine RX.n_sm4 ?_ | with_reducible refine RX.n_sm5 ?_ | with_reducible refine RX.n_sm6 ?_
  | with_reducible refine L2.iteT ?_ | with_reducible refine L2.iteF ?_)
local macro_rules | `(tactic| walk_at "rd1") => `(tactic| first | walk_at "rdo1" | with_reducible refine RX.r_and ?_ | with_reducible refine RX.r_or ?_)
local macro_rules | `(tactic| walk_at "rd") => `(tactic| repeat walk_at "rd1")
local macro_rules | `(tactic| walk_at "rdo") => `(tactic| repeat walk_at "rdo1")
local macro_rules | `(tactic| walk_at "lk") => `(tactic| repeat (first | with_reducible exact RX.lk_hit | (refine Eq.trans (RX.lk_miss (by decide +kernel)) ?_) | exact rfl))
local macro_rules | `(tactic| walk_at "pf") => `(tactic| repeat (first | with_reducible exact RX.put_hit | (refine Eq.trans (RX.put_miss (by decide +kernel)) (congrArg _ ?_)) | exact rfl))

namespace K03
open PySem PySem.Spec PyProof.Rows L2 RX
/-- where a cache stands: the instance, its dict, its list of rows, the rows; its sizes -/
structure CO where
  c : Addr
  dx : Addr
  R : Addr
  fp : List Addr
  ways : Int
  line : Int
def cf (o : CO) : List (Str × V) := [("rows", .ref o.R), ("ways", .int o.ways), ("line", .int o.line)]
structure CacheAt (A : Adr) (H : Hp) (o : CO) (rows : List (List Int)) : Prop where
  ins : H o.c = some (.ins A.C_Cache o.dx (cf o))
  lst : H o.R = some (.lst (o.fp.map V.ref))
  nd : o.fp.Nodup
  len : o.fp.length = rows.length
  at_ : ∀ (i : Nat) (a : Addr) (r : List Int), o.fp[i]? = some a → rows[i]? = some r → H a = some (.lst (r.map V.int))
  pos : rows ≠ []
  line : 0 < o.line ∧ o.line ≤ 8
  ways : 1 ≤ o.ways ∧ o.ways ≤ 4
  small : ∀ r ∈ rows, r.length ≤ 4
theorem CacheAt.put {A : Adr} {H H' : Hp} {o : CO} {rows : List (List Int)} {i : Nat} {a : Addr} {r : List Int} (h : CacheAt A H o rows) (ha : o.fp[i]? = some a) (hi : i < rows.length) (x : ExB [a] H H') (e : H' a = some (.lst (r.map V.int))) (hr : r.length ≤ 4) : CacheAt A H' o (rows.set i r) := by
  have hai : a ∈ o.fp := List.mem_of_getElem? ha
  obtain ⟨r0, h0⟩ : ∃ r0, rows[i]? = some r0 := ⟨_, List.getElem?_eq_getElem hi⟩
  have e0 := h.at_ i a r0 ha h0
  have n1 : o.c ≠ a := ne_of h.ins e0 (by intro q; cases q)
  have n2 : o.R ≠ a := by
    intro q
    have e1 := h.lst
    rw [q, e0] at e1
    have e2 : r0.map V.int = o.fp.map V.ref := by injection (Option.some.inj e1)
    cases r0 with
    | nil =>
      have : o.fp = [] := List.map_eq_nil_iff.mp e2.symm
      rw [this] at ha
      simp at ha
    | cons z zs =>
      cases hf : o.fp with
      | nil => rw [hf] at ha; simp at ha
      | cons b bs =>
        rw [hf, List.map_cons, List.map_cons] at e2
        injection e2 with e3 _
        cases e3
  refine ⟨x.keep _ _ (by simpa using n1) h.ins, x.keep _ _ (by simpa using n2) h.lst, h.nd, by rw [List.length_set]; exact h.len, fun j b r' hb hr' => ?_, ?_, h.line, h.ways, fun r' hr' => ?_⟩
  · by_cases hj : j = i
    · subst hj
      rw [hb] at ha
      cases ha
      rw [List.getElem?_set_self hi] at hr'
      cases hr'
      exact e
    · rw [List.getElem?_set_ne (Ne.symm hj)] at hr'
      refine x.keep _ _ ?_ (h.at_ j b r' hb hr')
      intro q
      have q' : b = a := by simpa using q
      subst q'
      exact hj (nd_ix h.nd hb ha)
  · intro q
    have := congrArg List.length q
    rw [List.length_set] at this
    simp at this
    exact h.pos this
  · rcases List.mem_or_eq_of_mem_set hr' with q | q
    · exact h.small _ q
    · rw [q]
      exact hr
theorem CacheAt.mono {A : Adr} {H H' : Hp} {o : CO} {rows : List (List Int)} (h : CacheAt A H o rows) {B : List Addr} (x : ExB B H H') (n1 : o.c ∉ B) (n2 : o.R ∉ B) (n3 : ∀ a ∈ o.fp, a ∉ B) : CacheAt A H' o rows :=
  ⟨x.keep _ _ n1 h.ins, x.keep _ _ n2 h.lst, h.nd, h.len, fun i a r ha hr => x.keep _ _ (n3 a (List.mem_of_getElem? ha)) (h.at_ i a r ha hr), h.pos, h.line, h.ways, h.small⟩
theorem CacheAt.same {A : Adr} {H H' : Hp} {o : CO} {rows : List (List Int)} (h : CacheAt A H o rows) (x : Same H H') : CacheAt A H' o rows := h.mono (Same.exB (B := []) x) (by simp) (by simp) (by simp)
/-- the caches' own going -/
def rowIx (rows : List (List Int)) (n : Int) : Nat := (n % (rows.length : Int)).toNat
theorem rowIx_lt {rows : List (List Int)} {n : Int} (h : rows ≠ []) : rowIx rows n < rows.length := by
  have hl : 0 < rows.length := List.length_pos_iff.mpr h
  unfold rowIx
  have h1 := Int.emod_nonneg n (b := (rows.length : Int)) (by omega)
  have h2 := Int.emod_lt_of_pos n (b := (rows.length : Int)) (by omega)
  omega
abbrev sp_Cache_row_of (A : Adr) : Sp := Sp2 fun c n H Q _ => ∃ o rows k, c = .ref o.c ∧ n = .int k ∧ CacheAt A H o rows ∧ ∀ a, o.fp[rowIx rows k]? = some a → Q (.ref a) H
theorem ok_Cache_row_of {P : Program} {w : World} {K : PySem.W.Frag} {mg : Str → Option Value} {base : Heap} {A : Adr} (T : Txt K mg A) : FnOk P w K mg base CX0 1 A.f_Cache_row_of A.d_Cache_row_of ["self", "number"] (sp_Cache_row_of A) := by
  refine T.F_Cache_row_of.ok sc_Cache_row_of (len2 _) (fun cdv AA outer s H vs Q E hr h => ?_)
  refine ⟨_, (pss_one (ps_ret (pe_ix (k_ixL K) (k_fld K (pv 0)) (pe_op op_mod (pv 1) (pe_callB (k_len K) (by rfl) T.z_len boot_len (pa_cons (k_fld K (pv 0)) pa_nil))) (fun _ _ => rfl)))), ?_⟩
  obtain ⟨c, n, rfl, o, rows, k, rfl, rfl, hc, q⟩ := h
  have lk1 : (cf o).lookup ("rows" : Str) = some (.ref o.R) := by
    unfold cf
    walk_at "lk"
  have hl : 0 < rows.length := List.length_pos_iff.mpr hc.pos
  walk_at "rd"
  refine ⟨o.c, A.C_Cache, o.dx, cf o, .ref o.R, rfl, hc.ins, T.cl_Cache, T.n_Cache_rows, lk1, ?_⟩
  walk_at "rd"
  refine ⟨o.c, A.C_Cache, o.dx, cf o, .ref o.R, rfl, hc.ins, T.cl_Cache, T.n_Cache_rows, lk1, ?_⟩
  walk_at "rd"
  refine r_lenL (SqL.of hc.lst) ?_
  refine r_I (by rw [List.length_map, hc.len]; omega) ?_
  have hlt := rowIx_lt (n := k) hc.pos
  obtain ⟨a, ha⟩ : ∃ a, o.fp[rowIx rows k]? = some a := ⟨_, List.getElem?_eq_getElem (by rw [hc.len]; exact hlt)⟩
  refine r_ixL (v := .ref a) (SqL.of hc.lst) ?_ (q a ha)
  have e : k % (((o.fp.map V.ref).length : Nat) : Int) = ((rowIx rows k : Nat) : Int) := by
    rw [List.length_map, hc.len]
    unfold rowIx
    have h1 := Int.emod_nonneg k (b := (rows.length : Int)) (by omega)
    omega
  rw [e]
  refine atI_nat ?_
  rw [List.getElem?_map, ha]
  rfl
def rowM (rows : List (List Int)) (n : Int) : List Int := rows.getD (rowIx rows n) []
/-- touch -/
def touchM (rows : List (List Int)) (n : Int) : Bool × List (List Int) :=
  if (rowM rows n).contains n = true then (true, rows.set (rowIx rows n) ((rowM rows n).erase n ++ [n])) else (false, rows)
/-- look -/
def lookM (ways : Int) (rows : List (List Int)) (n : Int) : Bool × List (List Int) :=
  if (touchM rows n).1 = true then (true, (touchM rows n).2) else (false, rows.set (rowIx rows n) ((rowM rows n ++ [n]).drop (((rowM rows n).length : Int) + 1 - ways).toNat))
theorem CacheAt.row {A : Adr} {H : Hp} {o : CO} {rows : List (List Int)} (h : CacheAt A H o rows) (n : Int) : ∃ a, o.fp[rowIx rows n]? = some a ∧ rows[rowIx rows n]? = some (rowM rows n) ∧ H a = some (.lst ((rowM rows n).map V.int)) ∧ (rowM rows n).length ≤ 4 ∧ rowIx rows n < rows.length := by
  have hlt := rowIx_lt (n := n) h.pos
  have e1 : o.fp[rowIx rows n]? = some (o.fp[rowIx rows n]'(by rw [h.len]; exact hlt)) := List.getElem?_eq_getElem _
  have e2 : rows[rowIx rows n]? = some (rowM rows n) := by
    unfold rowM
    rw [List.getElem?_eq_getElem hlt, List.getD_eq_getElem?_getD, List.getElem?_eq_getElem hlt]
    rfl
  exact ⟨_, e1, e2, h.at_ _ _ _ e1 e2, h.small _ (List.mem_of_getElem? e2), hlt⟩
abbrev sp_Cache_touch (K : PySem.W.Frag) (A : Adr) : Sp := Sp2 fun c v H Q E => ∃ o rows T, c = .ref o.c ∧ CacheAt A H o rows ∧ OfTy K H v T ∧ T ∈ tyNames ∧ (within v 0 4095 = false → E (.ref A.C_NotRight) none H) ∧
  (∀ n, v = .int n → 0 ≤ n → n ≤ 4095 → ∀ H', ExB o.fp H H' → CacheAt A H' o (touchM rows (n / o.line)).2 → Q (.bl (touchM rows (n / o.line)).1) H')
theorem within_yes {v : V} {l h : Int} (e : within v l h = true) : ∃ i, v = .int i ∧ l ≤ i ∧ i ≤ h := by
  cases v with
  | int i =>
    have e' : (decide (l ≤ i) && decide (i ≤ h)) = true := e
    rw [Bool.and_eq_true] at e'
    exact ⟨i, rfl, of_decide_eq_true e'.1, of_decide_eq_true e'.2⟩
  | _ => cases e
theorem ok_Cache_touch {P : Program} {w : World} {K : PySem.W.Frag} {mg : Str → Option Value} {base : Heap} {A : Adr} (T : Txt K mg A) : FnOk P w K mg base (L2.CX P w) 4 A.f_Cache_touch A.d_Cache_touch ["self", "address"] (sp_Cache_touch K A) := by
  refine T.F_Cache_touch.okX sc_Cache_touch (len2 _) (fun cdv AA outer s H vs Q E hr h => ?_)
  refine ⟨_, (pss_cons (ps_expr (pe_call (ok_check T) (hr.mono (by decide)) rfl T.g_check T.F_check.kp T.b_check .nil (passes_call (takes_of rfl rfl rfl rfl) (fun _ _ _ _ h => h)) (pa_cons (pe_call (ok_is_address T) (hr.mono (by decide)) rfl T.g_is_address T.F_is_address.kp T.b_is_address .nil pass0 (pa_cons (pv 1) pa_nil)) pa_nil)))
      (pss_cons (ps_set (i := 2) sc_Cache_touch.nd rfl (Or.inl rfl) (pe_op op_fdiv (pv 1) (k_fld K (pv 0))))
      (pss_cons (ps_set (i := 3) sc_Cache_touch.nd rfl (Or.inl rfl) (pe_meth (pv 0) T.cl_Cache T.m_Cache_row_of (ok_Cache_row_of T) (hr.mono (by decide)) T.b_Cache_row_of .nil pass0 (pa_cons (pv 2) pa_nil)))
      (pss_cons (ps_if (pt_cmpR (k_notIn K) (pv 2) (pv 3) (by rfl)) (pss_one (ps_ret (pe_bl))) pss_nil)
      (pss_cons (ps_expr (k_bm K PySem.F.plainAttrs_list PySem.F.slot_list_remove PySem.F.type_list_remove mt_remove (pv 3) (pa_cons (pv 2) pa_nil)))
      (pss_cons (ps_expr (k_bm K PySem.F.plainAttrs_list PySem.F.slot_list_append PySem.F.type_list_append mt_append (pv 3) (pa_cons (pv 2) pa_nil)))
      (pss_one (ps_ret (pe_bl))))))))), ?_⟩
  obtain ⟨c, v, rfl, o, rows, T', rfl, hc, hT, hn, hE, hQ⟩ := h
  have lk1 : (cf o).lookup ("rows" : Str) = some (.ref o.R) := by
    unfold cf
    walk_at "lk"
  have lk3 : (cf o).lookup ("line" : Str) = some (.int o.line) := by
    unfold cf
    walk_at "lk"
  walk_at "rd"
  refine ⟨T', hT, hn, ?_⟩
  walk_at "rd"
  refine ⟨fun e => ?_, fun e => hE e⟩
  obtain ⟨n, rfl, n0, n1⟩ := within_yes e
  have hQ := hQ n rfl n0 n1
  walk_at "rd"
  refine ⟨o.c, A.C_Cache, o.dx, cf o, .int o.line, rfl, hc.ins, T.cl_Cache, T.n_Cache_line, lk3, ?_⟩
  refine r_I ⟨hc.line.1, by have := hc.line.2; omega⟩ ?_
  generalize hm : n / o.line = m at hQ ⊢
  walk_at "rd"
  refine ⟨o.c, o.dx, cf o, rfl, hc.ins, by unfold cf; walk_at "lk", ?_⟩
  walk_at "rd"
  refine ⟨o, rows, m, rfl, rfl, hc, fun a ha => ?_⟩
  obtain ⟨a', ha', hr, hH, hsm, hlt⟩ := hc.row m
  have eaa : a' = a := by
    rw [ha] at ha'
    exact (Option.some.inj ha').symm
  subst eaa
  walk_at "rd"
  refine r_inL (SqL.of hH) rfl (flat_ints _) ?_
  walk_at "rd"
  have hin : (if true = true then !inV (V.int m) ((rowM rows m).map V.int) else inV (V.int m) ((rowM rows m).map V.int)) = !(rowM rows m).contains m := by
    rw [if_pos rfl, inV_ints]
  rw [hin]
  cases e1 : (rowM rows m).contains m with
  | false =>
    have e2 : touchM rows m = (false, rows) := by
      unfold touchM
      rw [if_neg (by rw [e1]; exact Bool.false_ne_true)]
    rw [e2] at hQ
    refine iteT ?_
    walk_at "rd"
    exact hQ H (ExB.refl _ _) hc
  | true =>
    have e2 : touchM rows m = (true, rows.set (rowIx rows m) ((rowM rows m).erase m ++ [m])) := by
      unfold touchM
      rw [if_pos e1]
    rw [e2] at hQ
    have hmem : m ∈ rowM rows m := by simpa using e1
    refine iteF ?_
    walk_at "rd"
    refine n_tyL (SqL.of hH) ?_
    walk_at "rd"
    have hix : (rowM rows m).idxOf m < (rowM rows m).length := List.idxOf_lt_length_of_mem hmem
    refine ⟨a', rowM rows m, m, (rowM rows m).idxOf m, rfl, rfl, hH, ?_, fun j hj => ?_, ?_⟩
    · rw [List.getElem?_eq_getElem hix, List.getElem_idxOf]
    · exact idx_first hj
    · refine n_upd hH (by intro xs q; cases q) fun H1 x1 h1 => ?_
      walk_at "rd"
      refine n_tyL (SqL.of h1) ?_
      walk_at "rd"
      refine n_append h1 (by rw [List.length_map]; exact Nat.lt_of_le_of_lt (List.length_eraseIdx_le _ _) (Nat.lt_of_le_of_lt hsm (by decide))) fun H2 x2 h2 => ?_
      walk_at "rd"
      have x12 : ExB [a'] H H2 := x1.trans x2
      have e3 : ((rowM rows m).eraseIdx ((rowM rows m).idxOf m)).map V.int ++ [V.int m] = ((rowM rows m).erase m ++ [m]).map V.int := by
        rw [List.map_append, List.erase_eq_eraseIdx_of_idxOf rfl]
        rfl
      rw [e3] at h2
      refine hQ H2 (x12.sub fun b hb => by rw [List.mem_singleton.mp hb]; exact List.mem_of_getElem? ha) (hc.put ha hlt x12 h2 ?_)
      rw [List.length_append, List.length_erase_of_mem hmem, List.length_singleton]
      omega
abbrev sp_Cache_look (K : PySem.W.Frag) (A : Adr) : Sp := Sp2 fun c v H Q E => ∃ o rows T, c = .ref o.c ∧ CacheAt A H o rows ∧ OfTy K H v T ∧ T ∈ tyNames ∧ (within v 0 4095 = false → E (.ref A.C_NotRight) none H) ∧
  (∀ n, v = .int n → 0 ≤ n → n ≤ 4095 → ∀ H', ExB o.fp H H' → CacheAt A H' o (lookM o.ways rows (n / o.line)).2 → Q (.bl (lookM o.ways rows (n / o.line)).1) H')
theorem ok_Cache_look {P : Program} {w : World} {K : PySem.W.Frag} {mg : Str → Option Value} {base : Heap} {A : Adr} (T : Txt K mg A) : FnOk P w K mg base (L2.CX P w) 5 A.f_Cache_look A.d_Cache_look ["self", "address"] (sp_Cache_look K A) := by
  refine T.F_Cache_look.okX sc_Cache_look (len2 _) (fun cdv AA outer s H vs Q E hr h => ?_)
  refine ⟨_, (pss_cons (ps_expr (pe_call (ok_check T) (hr.mono (by decide)) rfl T.g_check T.F_check.kp T.b_check .nil (passes_call (takes_of rfl rfl rfl rfl) (fun _ _ _ _ h => h)) (pa_cons (pe_call (ok_is_address T) (hr.mono (by decide)) rfl T.g_is_address T.F_is_address.kp T.b_is_address .nil pass0 (pa_cons (pv 1) pa_nil)) pa_nil)))
      (pss_cons (ps_if (pt_val (pe_meth (pv 0) T.cl_Cache T.m_Cache_touch (ok_Cache_touch T) (hr.mono (by decide)) T.b_Cache_touch .nil (passes_call (takes_of rfl rfl rfl rfl) (fun _ _ _ _ h => h)) (pa_cons (pv 1) pa_nil))) (pss_one (ps_ret (pe_bl))) pss_nil)
      (pss_cons (ps_set (i := 2) sc_Cache_look.nd rfl (Or.inl rfl) (pe_meth (pv 0) T.cl_Cache T.m_Cache_row_of (ok_Cache_row_of T) (hr.mono (by decide)) T.b_Cache_row_of .nil pass0 (pa_cons (pe_op op_fdiv (pv 1) (k_fld K (pv 0))) pa_nil)))
      (pss_cons (ps_expr (k_bm K PySem.F.plainAttrs_list PySem.F.slot_list_append PySem.F.type_list_append mt_append (pv 2) (pa_cons (pe_op op_fdiv (pv 1) (k_fld K (pv 0))) pa_nil)))
      (pss_cons (ps_delS (pv 2) (pe_callB (call_max2 rfl) (by rfl) T.z_max boot_max (pa_cons (pe_int) (pa_cons (pe_op op_sub (pe_callB (k_len K) (by rfl) T.z_len boot_len (pa_cons (pv 2) pa_nil)) (k_fld K (pv 0))) pa_nil))))
      (pss_one (ps_ret (pe_bl)))))))), ?_⟩
  obtain ⟨c, v, rfl, o, rows, T', rfl, hc, hT, hn, hE, hQ⟩ := h
  have lk1 : (cf o).lookup ("rows" : Str) = some (.ref o.R) := by
    unfold cf
    walk_at "lk"
  have lk2 : (cf o).lookup ("ways" : Str) = some (.int o.ways) := by
    unfold cf
    walk_at "lk"
  have lk3 : (cf o).lookup ("line" : Str) = some (.int o.line) := by
    unfold cf
    walk_at "lk"
  walk_at "rd"
  refine ⟨T', hT, hn, ?_⟩
  walk_at "rd"
  refine ⟨fun e => ?_, fun e => hE e⟩
  obtain ⟨n, rfl, n0, n1⟩ := within_yes e
  have hQ := hQ n rfl n0 n1
  walk_at "rd"
  refine ⟨o.c, o.dx, cf o, rfl, hc.ins, by unfold cf; walk_at "lk", ?_⟩
  walk_at "rd"
  refine ⟨o, rows, T', rfl, hc, hT, hn, fun e' => ?_, fun n' en _ _ H1 x1 hc1 => ?_⟩
  · rw [e] at e'
    cases e'
  cases en
  generalize hm : n / o.line = m at hQ hc1 ⊢
  walk_at "rd"
  cases e1 : (touchM rows m).1 with
  | true =>
    have e2 : lookM o.ways rows m = (true, (touchM rows m).2) := by
      unfold lookM
      rw [if_pos e1]
    rw [e2] at hQ
    refine iteT ?_
    walk_at "rd"
    exact hQ H1 x1 hc1
  | false =>
    have e2 : lookM o.ways rows m = (false, rows.set (rowIx rows m) ((rowM rows m ++ [m]).drop (((rowM rows m).length : Int) + 1 - o.ways).toNat)) := by
      unfold lookM
      rw [if_neg (by rw [e1]; exact Bool.false_ne_true)]
    have e3 : (touchM rows m).2 = rows := by
      unfold touchM at e1 ⊢
      by_cases q : (rowM rows m).contains m = true
      · rw [if_pos q] at e1
        cases e1
      · rw [if_neg q]
    rw [e2] at hQ
    rw [e3] at hc1
    refine iteF ?_
    walk_at "rd"
    refine ⟨o.c, o.dx, cf o, rfl, hc1.ins, by unfold cf; walk_at "lk", ?_⟩
    walk_at "rd"
    refine ⟨o.c, A.C_Cache, o.dx, cf o, .int o.line, rfl, hc1.ins, T.cl_Cache, T.n_Cache_line, lk3, ?_⟩
    refine r_I ⟨hc.line.1, by have := hc.line.2; omega⟩ ?_
    rw [hm]
    walk_at "rd"
    refine ⟨o, rows, m, rfl, rfl, hc1, fun a ha => ?_⟩
    obtain ⟨a', ha', hr, hH, hsm, hlt⟩ := hc1.row m
    have eaa : a' = a := by
      rw [ha] at ha'
      exact (Option.some.inj ha').symm
    subst eaa
    walk_at "rd"
    refine n_tyL (SqL.of hH) ?_
    walk_at "rd"
    refine ⟨o.c, A.C_Cache, o.dx, cf o, .int o.line, rfl, hc1.ins, T.cl_Cache, T.n_Cache_line, lk3, ?_⟩
    refine r_I ⟨hc.line.1, by have := hc.line.2; omega⟩ ?_
    rw [hm]
    walk_at "rd"
    refine n_append hH (by rw [List.length_map]; exact Nat.lt_of_le_of_lt hsm (by decide)) fun H2 x2 h2 => ?_
    have h2' : H2 a' = some (.lst ((rowM rows m ++ [m]).map V.int)) := by
      rw [List.map_append]
      exact h2
    have nf : ∀ b ∈ [a'], b ∈ o.fp := fun b hb => by rw [List.mem_singleton.mp hb]; exact List.mem_of_getElem? ha
    have i2 : H2 o.c = some (.ins A.C_Cache o.dx (cf o)) := x2.keep _ _ (by
      intro q
      have q' := List.mem_singleton.mp q
      exact ne_of hc1.ins hH (by intro z; cases z) q') hc1.ins
    walk_at "rd"
    refine r_lenL (SqL.of h2') ?_
    walk_at "rd"
    refine ⟨o.c, A.C_Cache, o.dx, cf o, .int o.ways, rfl, i2, T.cl_Cache, T.n_Cache_ways, lk2, ?_⟩
    walk_at "rd"
    refine ⟨a', _, (((rowM rows m).length : Int) + 1 - o.ways).toNat, rfl, ?_, h2', ?_, ?_⟩
    · rw [List.length_map, List.length_append, List.length_singleton]
      congr 1
      split <;> omega
    · rw [List.length_map, List.length_append, List.length_singleton]
      have := hc.ways.1
      omega
    · refine n_upd h2' (by intro xs q; cases q) fun H3 x3 h3 => ?_
      rw [← List.map_drop] at h3
      have x13 : ExB [a'] H1 H3 := x2.trans x3
      walk_at "rd"
      refine hQ H3 (x1.trans (x13.sub nf)) (hc1.put ha hlt x13 h3 ?_)
      rw [List.length_drop, List.length_append, List.length_singleton]
      have := hc.ways
      omega
/-- what lines tells -/
def rowD (line : Int) (r : List Int) : PyData := .tuple ((r.map (· * line)).map .int)
def linesM (line : Int) (rows : List (List Int)) : PyData := .tuple (rows.map (rowD line))
abbrev sp_Cache_lines (K : PySem.W.Frag) (A : Adr) : Sp := Sp1 fun c H Q _ => ∃ o rows, c = .ref o.c ∧ CacheAt A H o rows ∧ rows.length ≤ 16 ∧ ∀ v H', Same H H' → Fz H' v (linesM o.line rows) → Q v H'
theorem ok_Cache_lines {P : Program} {w : World} {K : PySem.W.Frag} {mg : Str → Option Value} {base : Heap} {A : Adr} (T : Txt K mg A) : FnOk P w K mg base CX0 1 A.f_Cache_lines A.d_Cache_lines ["self"] (sp_Cache_lines K A) := by
  refine T.F_Cache_lines.ok sc_Cache_lines (len1 _) (fun cdv AA outer s H vs Q E hr h => ?_)
  refine ⟨_, (pss_one (ps_ret (pe_callTy (k_tupleOf K) (by rfl) T.z_tuple boot_tuple (pa_cons (pe_lc (own := [("row", 1)]) rfl sc_Cache_lines.nd (k_pilist K (k_fld K (pv 0))) (blkOk_by (own := [("row", 1)]) (by kernel_rfl)) (fun _ _ _ _ _ => (pg_name (i := 1) sc_Cache_lines.nd rfl (Or.inl rfl))) (fun _ _ _ _ _ => pts_nil) (fun _ _ _ _ _ => (pe_callTy (k_tupleOf K) (by rfl) T.z_tuple boot_tuple (pa_cons (pe_lc (own := [("number", 2)]) rfl sc_Cache_lines.nd (k_pilist K (pv 1)) (blkOk_by (own := [("number", 2)]) (by kernel_rfl)) (fun _ _ _ _ _ => (pg_name (i := 2) sc_Cache_lines.nd rfl (Or.inl rfl))) (fun _ _ _ _ _ => pts_nil) (fun _ _ _ _ _ => (pe_op op_mul (pv 2) (k_fld K (pv 0))))) pa_nil)))) pa_nil)))), ?_⟩
  obtain ⟨c, rfl, o, rows, rfl, hc, hl16, hQ⟩ := h
  have lk1 : (cf o).lookup ("rows" : Str) = some (.ref o.R) := by
    unfold cf
    walk_at "lk"
  have lk3 : (cf o).lookup ("line" : Str) = some (.int o.line) := by
    unfold cf
    walk_at "lk"
  walk_at "rd"
  refine ⟨o.c, A.C_Cache, o.dx, cf o, .ref o.R, rfl, hc.ins, T.cl_Cache, T.n_Cache_rows, lk1, ?_⟩
  refine n_lcL (SqL.of hc.lst) (fun D i acc H1 => Same H H1 ∧ FzAll H1 acc ((rows.take i).map (rowD o.line))) (fun D H1 n1 s1 e1 => ⟨s1, by simpa using FzAll.nil⟩) (fun D i acc H1 j => j.1.seq (SqL.of hc.lst)) ?_ ?_
  · intro D i x acc H1 nD hi hD ⟨s1, fz⟩
    rw [List.getElem?_map] at hi
    obtain ⟨a, ha, rfl⟩ := Option.map_eq_some_iff.mp hi
    have hlt : i < rows.length := by
      have := (List.getElem?_eq_some_iff.mp ha).1
      rw [hc.len] at this
      exact this
    have hr : rows[i]? = some rows[i] := List.getElem?_eq_getElem hlt
    have hH := s1.at (hc.at_ i a _ ha hr)
    have hsm := hc.small _ (List.mem_of_getElem? hr)
    generalize rows[i] = r at hr hH hsm
    have hacc : acc.length = i := by
      rw [FzAll.length fz, List.length_map, List.length_take]
      omega
    walk_at "rd"
    refine ⟨rfl, ?_⟩
    walk_at "rd"
    refine n_lcL (SqL.of hH) (fun D2 j acc2 H2 => Same H1 H2 ∧ acc2 = ((r.take j).map (· * o.line)).map V.int) (fun D2 H2 n2 s2 e2 => ⟨s2, by simp⟩) (fun D2 j acc2 H2 q => q.1.seq (SqL.of hH)) ?_ ?_
    · intro D2 j x acc2 H2 nD2 hj hD2 ⟨s2, eacc⟩
      rw [List.getElem?_map] at hj
      obtain ⟨n, hn, rfl⟩ := Option.map_eq_some_iff.mp hj
      walk_at "rd"
      refine ⟨rfl, ?_⟩
      walk_at "rd"
      refine ⟨o.c, A.C_Cache, o.dx, cf o, .int o.line, rfl, s2.at (s1.at hc.ins), T.cl_Cache, T.n_Cache_line, lk3, ?_⟩
      refine r_I (.inr ⟨by have := hc.line; omega, by have := hc.line; omega⟩) ?_
      refine lc_put hD2 ?_ fun H5 x5 e5 => ⟨fun b u e => x5.keep b u (fun q => ?_) (s2 b u e), ?_⟩
      · rw [eacc, List.length_map, List.length_map, List.length_take]
        exact Nat.lt_of_le_of_lt (Nat.min_le_right _ _) (Nat.lt_of_le_of_lt hsm (by decide))
      · exact ne_of_none e nD2 (List.mem_singleton.mp q)
      · rw [eacc, take_succ_of hn, List.map_append, List.map_append]
        rfl
    · intro D2 acc2 H2 nD2 hD2 ⟨s2, eacc⟩
      rw [List.length_map, List.take_length] at eacc
      walk_at "rd"
      refine r_tupleL (SqL.of hD2) fun l H3 nl s3 h3 => ?_
      have s13 : Same H1 H3 := s2.trans s3
      refine lc_put (s13.at hD) (by rw [hacc]; exact Nat.lt_of_lt_of_le hlt (Nat.le_trans hl16 (by decide))) fun H5 x5 e5 => ?_
      have s05 : Same H H5 := fun b u e => x5.keep b u (fun q => ne_of_none e nD (List.mem_singleton.mp q)) (s13.at (s1.at e))
      refine ⟨s05, ?_⟩
      rw [take_succ_of hr, List.map_append]
      refine FzAll.append (FzAll.mono (fun b xs e => x5.tups b xs (s13.at e)) fz) (.cons (.tup (x5.tups _ _ h3) ?_) .nil)
      rw [eacc]
      exact FzAll.ints _
  · intro D acc H1 nD hD ⟨s1, fz⟩
    rw [List.length_map, hc.len, List.take_length] at fz
    walk_at "rd"
    refine r_tupleL (SqL.of hD) fun l H3 nl s3 h3 => ?_
    exact hQ _ H3 (s1.trans s3) (.tup h3 (FzAll.mono (fun b xs e => s3.at e) fz))
abbrev sp_Cache___init__ (K : PySem.W.Frag) (A : Adr) : Sp := Sp4 fun p s w l H Q E => ∃ pa dx T1 T2 T3, p = .ref pa ∧ H pa = some (.ins A.C_Cache dx []) ∧ OfTy K H s T1 ∧ T1 ∈ tyNames ∧ OfTy K H w T2 ∧ T2 ∈ tyNames ∧ OfTy K H l T3 ∧ T3 ∈ tyNames ∧
  ((szs s && lns l && within w 1 4) = false → E (.ref A.C_NotRight) none H) ∧
  (∀ n wi li, s = .int n → w = .int wi → l = .int li → szs s = true → lns l = true → within w 1 4 = true → ∀ H' R fp, ExB [pa] H H' → CacheAt A H' ⟨pa, dx, R, fp, wi, li⟩ (List.replicate n.toNat []) → H R = none → (∀ a ∈ fp, H a = none) → Q .non H')
theorem szs_yes {v : V} (e : szs v = true) : ∃ i, v = .int i ∧ 1 ≤ i ∧ i ≤ 16 := by
  cases v with
  | int i =>
    have e' : [1, 2, 4, 8, 16].contains i = true := e
    simp at e'
    exact ⟨i, rfl, by omega, by omega⟩
  | _ => cases e
theorem lns_yes {v : V} (e : lns v = true) : ∃ i, v = .int i ∧ 1 ≤ i ∧ i ≤ 8 := by
  cases v with
  | int i =>
    have e' : [1, 2, 4, 8].contains i = true := e
    simp at e'
    exact ⟨i, rfl, by omega, by omega⟩
  | _ => cases e
theorem ok_Cache___init__ {P : Program} {w : World} {K : PySem.W.Frag} {mg : Str → Option Value} {base : Heap} {A : Adr} (T : Txt K mg A) : FnOk P w K mg base (L2.CX P w) 4 A.f_Cache___init__ A.d_Cache___init__ ["self", "sets", "ways", "line"] (sp_Cache___init__ K A) := by
  refine T.F_Cache___init__.okX sc_Cache___init__ (len4 _) (fun cdv AA outer s H vs Q E hr h => ?_)
  refine ⟨_, (pss_cons (ps_expr (pe_call (ok_check T) (hr.mono (by decide)) rfl T.g_check T.F_check.kp T.b_check .nil (passes_call (takes_of rfl rfl rfl rfl) (fun _ _ _ _ h => h)) (pa_cons (pe_call (ok_is_cache T) (hr.mono (by decide)) rfl T.g_is_cache T.F_is_cache.kp T.b_is_cache .nil pass0 (pa_cons (pv 1) (pa_cons (pv 2) (pa_cons (pv 3) pa_nil)))) pa_nil)))
      (pss_one (ps_asg (pe_tup (pa_cons (pe_lc (own := [("_", 4)]) rfl sc_Cache___init__.nd (pi_range1 rfl T.z_range (pa_cons (pv 1) pa_nil)) (blkOk_by (own := [("_", 4)]) (by kernel_rfl)) (fun _ _ _ _ _ => (pg_name (i := 4) sc_Cache___init__.nd rfl (Or.inl rfl))) (fun _ _ _ _ _ => pts_nil) (fun _ _ _ _ _ => (pe_lst pa_nil))) (pa_cons (pv 2) (pa_cons (pv 3) pa_nil)))) (k_gtup K rfl (pgs_cons (k_gfld K (pv 0)) (pgs_cons (k_gfld K (pv 0)) (pgs_cons (k_gfld K (pv 0)) pgs_nil))))))), ?_⟩
  obtain ⟨p, s1, w1, l1, rfl, pa, dx, T1, T2, T3, rfl, hp, h1, m1, h2, m2, h3, m3, hE, hQ⟩ := h
  walk_at "rd"
  refine ⟨T1, T2, T3, h1, m1, h2, m2, h3, m3, ?_⟩
  walk_at "rd"
  refine ⟨fun e => ?_, fun e => hE e⟩
  rw [Bool.and_eq_true, Bool.and_eq_true] at e
  obtain ⟨⟨e1, e2⟩, e3⟩ := e
  obtain ⟨n, rfl, n0, n1⟩ := szs_yes e1
  obtain ⟨li, rfl, l0, l1⟩ := lns_yes e2
  obtain ⟨wi, rfl, w0, w1⟩ := within_yes e3
  have hQ := hQ n wi li rfl rfl rfl e1 e2 e3
  walk_at "rd"
  refine n_lcR (n := n) ⟨by omega, by omega⟩ (fun D i acc H1 => ∃ fp : List Addr, acc = fp.map V.ref ∧ fp.length = i ∧ fp.Nodup ∧ Same H H1 ∧ D ∉ fp ∧ ∀ a ∈ fp, H a = none ∧ H1 a = some (.lst [])) (fun D H1 nD s1 e1 => ⟨[], rfl, rfl, List.nodup_nil, s1, by simp, by simp⟩) ?_ ?_
  · intro D i acc H1 nD hi hD ⟨fp, eacc, el, nd, s1, hDf, hf⟩
    walk_at "rd"
    refine ⟨rfl, ?_⟩
    walk_at "rd"
    refine ⟨Nat.zero_le _, fun q nq => ?_⟩
    generalize eH : upd H1 q _ = H2
    obtain ⟨s2, hq⟩ := of_upd eH nq
    have nqD : q ≠ D := fun z => by rw [z, hD] at nq; cases nq
    refine lc_put (s2 _ _ hD) (by rw [eacc, List.length_map, el]; exact Nat.lt_of_lt_of_le (show i < 100 by omega) (by decide)) fun H3 x3 h3 => ⟨fp ++ [q], by rw [eacc, List.map_append]; rfl, by rw [List.length_append, el]; rfl, ?_, ?_, ?_, ?_⟩
    · refine List.nodup_append.mpr ⟨nd, by simp, fun a ha b hb => ?_⟩
      rw [List.mem_singleton.mp hb]
      intro z
      rw [z] at ha
      rw [(hf _ ha).2] at nq
      cases nq
    · exact fun b u e => x3.keep b u (fun z => ne_of_none e nD (List.mem_singleton.mp z)) (s2 _ _ (s1 _ _ e))
    · intro z
      rcases List.mem_append.mp z with z | z
      · exact hDf z
      · exact nqD (List.mem_singleton.mp z).symm
    · intro a ha
      have naD : a ∉ [D] := fun z => by
        rw [List.mem_singleton.mp z] at ha
        rcases List.mem_append.mp ha with q | q
        · exact hDf q
        · exact nqD (List.mem_singleton.mp q).symm
      rcases List.mem_append.mp ha with z | z
      · exact ⟨(hf a z).1, x3.keep _ _ naD (s2 _ _ (hf a z).2)⟩
      · rw [List.mem_singleton.mp z] at naD ⊢
        exact ⟨Same.free s1 nq, x3.keep _ _ naD hq⟩
  · intro D acc H1 nD hD ⟨fp, eacc, el, nd, s1, hDf, hf⟩
    walk_at "rd"
    refine ⟨by show 3 ≤ sizeLine; decide, fun t nt => ?_⟩
    generalize eH : upd H1 t _ = H2
    obtain ⟨s2, ht⟩ := of_upd eH nt
    have hp2 : H2 pa = some (.ins A.C_Cache dx []) := s2 _ _ (s1 _ _ hp)
    have e1 : putF ("rows" : Str) (V.ref D) [] = ([("rows", .ref D)] : List (Str × V)) := rfl
    have e2 : putF ("ways" : Str) (V.int wi) [("rows", V.ref D)] = ([("rows", .ref D), ("ways", .int wi)] : List (Str × V)) := by
      rw [put_miss (by decide +kernel)]
      rfl
    have e3 : putF ("line" : Str) (V.int li) [("rows", V.ref D), ("ways", .int wi)] = ([("rows", .ref D), ("ways", .int wi), ("line", .int li)] : List (Str × V)) := by
      rw [put_miss (by decide +kernel), put_miss (by decide +kernel)]
      rfl
    refine g_tup (SqT.of ht) rfl ?_
    walk_at "rd"
    refine ⟨pa, A.C_Cache, dx, [], rfl, hp2, T.cl_Cache, T.n_Cache_rows, by decide, ?_⟩
    generalize eH3 : upd H2 pa _ = H3
    obtain ⟨x3, h3⟩ := of_upd_at eH3 hp2
    rw [e1] at h3
    walk_at "rd"
    refine ⟨pa, A.C_Cache, dx, _, rfl, h3, T.cl_Cache, T.n_Cache_ways, by show 1 < 1000; decide, ?_⟩
    generalize eH4 : upd H3 pa _ = H4
    obtain ⟨x4, h4⟩ := of_upd_at eH4 h3
    rw [e2] at h4
    walk_at "rd"
    refine ⟨pa, A.C_Cache, dx, _, rfl, h4, T.cl_Cache, T.n_Cache_line, by show 2 < 1000; decide, ?_⟩
    generalize eH5 : upd H4 pa _ = H5
    obtain ⟨x5, h5⟩ := of_upd_at eH5 h4
    rw [e3] at h5
    walk_at "rd"
    have x25 : ExB [pa] H2 H5 := (x3.trans x4).trans x5
    have s02 : Same H H2 := s1.trans s2
    have nDpa : D ∉ [pa] := fun z => by rw [List.mem_singleton.mp z, hp] at nD; cases nD
    refine hQ H5 D fp ((Same.exB s02).trans x25) ⟨h5, x25.keep _ _ nDpa (s2 _ _ (by rw [hD, eacc])), nd, by rw [el, List.length_replicate], fun i a r ha hr => ?_, ?_, ⟨by show 0 < li; omega, by show li ≤ 8; omega⟩, ⟨w0, w1⟩, fun r hr => ?_⟩ nD (fun a ha => (hf a ha).1)
    · have ha' := List.mem_of_getElem? ha
      have er : r = [] := List.eq_of_mem_replicate (List.mem_of_getElem? hr)
      rw [er]
      exact x25.keep _ _ (fun z => by
        rw [List.mem_singleton.mp z] at ha'
        have := (hf _ ha').1
        rw [hp] at this
        cases this) (s2 _ _ (hf a ha').2)
    · intro q
      have := congrArg List.length q
      rw [List.length_replicate] at this
      simp at this
      omega
    · rw [List.eq_of_mem_replicate hr]
      exact Nat.zero_le _
end K03
local macro_rules | `(tactic| walk_at "rdo1") => `(tactic| first
  | with_reducible refine RX.r_seq ?_ | with_reducible refine RX.r_asg ?_ | with_reducible refine RX.r_ret ?_ | with_reducible refine RX.r_drop ?_ | with_reducible refine RX.r_ifS ?_ | with_reducible refine RX.r_next ?_
  | with_reducible refine RX.r_op ?_ | with_reducible refine RX.r_un ?_ | ((with_reducible refine RX.r_var (v := ?v) ?hv ?_); (case hv => exact rfl)) | with_reducible refine RX.r_c ?_
  | with_reducible refine RX.r_I0 ?_ | with_reducible refine RX.r_U ?_ | with_reducible refine RX.r_test ?_ | with_reducible refine RX.r_tB ?_ | with_reducible refine RX.r_bl ?_ | with_reducible refine RX.r_not ?_
  | with_reducible refine RX.r_andV ?_ | with_reducible refine RX.r_orV ?_ | with_reducible refine RX.r_notV ?_ | with_reducible refine RX.r_if ?_
  | with_reducible refine RX.r_gName ?_ | with_reducible refine RX.r_nil ?_ | with_reducible refine RX.r_cons ?_ | with_reducible refine RX.r_CB ?_ | with_reducible refine RX.r_call ?_ | with_reducible refine RX.r_chain ?_
  | with_reducible refine RX.r_tup ?_ | with_reducible refine RX.r_lst ?_ | with_reducible refine RX.r_fld ?_ | with_reducible refine RX.r_meth ?_ | with_reducible refine RX.r_make ?_ | with_reducible refine RX.r_BM ?_ | with_reducible refine RX.r_BM0 ?_
  | with_reducible refine RX.r_for ?_ | with_reducible refine RX.r_delS ?_ | with_reducible refine RX.n_int1 ?_ | with_reducible refine RX.n_1 ?_ | with_reducible refine RX.n_2 ?_ | with_reducible refine RX.n_rng1 ?_ | with_reducible refine RX.r_lc ?_ | with_reducible refine RX.r_iL ?_ | with_reducible refine RX.r_iT ?_ | with_reducible refine RX.r_yes ?_ | with_reducible refine RX.r_sl ?_ | with_reducible refine RX.r_part ?_ | with_reducible refine RX.r_nopart ?_ | with_reducible refine RX.r_par ?_ | with_reducible refine RX.r_par3 ?_ | with_reducible refine RX.n_par ?_ | with_reducible refine RX.n_par3 ?_ | with_reducible refine RX.r_truth ?_ | with_reducible refine RX.r_enum ?_ | with_reducible refine RX.n_part ?_ | with_reducible refine RX.n_andrfl ?_ | with_reducible refine RX.r_tlr ?_ | with_reducible refine RX.g_cons ?_ | with_reducible refine RX.g_nil ?_ | with_reducible refine RX.g_fld ?_ | with_reducible refine RX.g_sub ?_
  | with_reducible refine RX.n_sp0 ?_ | with_reducible refine RX.n_sp1 ?_ | with_reducible refine RX.n_sp2 ?_ | with_reducible refine RX.n_sp3 ?_ | with_reducible refine RX.n_sp4 ?_ | with_reducible refine RX.n_sp5 ?_ | with_reducible refine RX.n_sp6 ?_ | with_reducible refine RX.n_sm1 ?_ | with_reducible refine RX.n_sm2 ?_ | with_reducible refine RX.n_sm3 ?_ | with_reducible refine RX.n_sm4 ?_ | with_reducible refine RX.n_sm5 ?_ | with_reducible refine RX.n_sm6 ?_
  | with_reducible refine L2.iteT ?_ | with_reducible refine L2.iteF ?_)
local macro_rules | `(tactic| walk_at "rd1") => `(tactic| first | walk_at "rdo1" | with_reducible refine RX.r_and ?_ | with_reducible refine RX.r_or ?_)
local macro_rules | `(tactic| walk_at "rd") => `(tactic| repeat walk_at "rd1")
local macro_rules | `(tactic| walk_at "rdo") => `(tactic| repeat walk_at "rdo1")
local macro_rules | `(tactic| walk_at "lk") => `(tactic| repeat (first | with_reducible exact RX.lk_hit | (refine Eq.trans (RX.lk_miss (by decide +kernel)) ?_) | exact rfl))
local macro_rules | `(tactic| walk_at "pf") => `(tactic| repeat (first | with_reducible exact RX.put_hit | (refine Eq.trans (RX.put_miss (by decide +kernel)) (congrArg _ ?_)) | exact rfl))

namespace K03
open PySem PySem.Spec PyProof.Rows L2 RX
/-! ### the law's draws -/
abbrev sp__law_draws (K : PySem.W.Frag) : Sp := Sp1 fun s H Q _ => ∃ (a : Addr) (ns : List Int), s = .ref a ∧ SqL K H a (ns.map V.int) ∧ ns.length ≤ 63 ∧ ∀ p H' (ds : List Int), Same H H' → H p = none → H' p = some (.lst (ds.map V.int)) → ds.length ≤ 10000 → Q (.ref p) H'
theorem map_app1 (ds : List Int) (z : Int) : ds.map V.int ++ [V.int z] = (ds ++ [z]).map V.int := by rw [List.map_append]; rfl
theorem lt_line {n : Nat} (h : n ≤ 20000) : n < sizeLine := Nat.lt_of_le_of_lt h (by decide)
theorem ok__law_draws {P : Program} {w : World} {K : PySem.W.Frag} {mg : Str → Option Value} {base : Heap} {A : Adr} (T : Txt K mg A) : FnOk P w K mg base CX0 1 A.f__law_draws A.d__law_draws ["script"] (sp__law_draws K) := by
  refine T.F__law_draws.ok sc__law_draws (len1 _) (fun cdv AA outer s H vs Q E hr h => ?_)
  refine ⟨_, (pss_cons (ps_set (i := 1) sc__law_draws.nd rfl (Or.inl rfl) (pe_lst pa_nil))
      (pss_cons (ps_for PassesOwn.never rfl (k_pilist K (pv 0)) (pg_name (i := 2) sc__law_draws.nd rfl (Or.inl rfl)) (pss_cons (ps_set (i := 3) sc__law_draws.nd rfl (Or.inl rfl) (pe_callB call_abs (by rfl) T.z_abs boot_abs (pa_cons (pv 2) pa_nil)))
      (Evl.pss_cut (ps_if (pt_cmpR op_lt (pv 3) (pe_op op_pow (pe_int) (pe_int)) (nomark _)) (pss_cons (ps_set (i := 4) sc__law_draws.nd rfl (Or.inl rfl) (pe_op op_mod (pe_callTy call_int1 (by rfl) T.z_int boot_int (pa_cons (pe_op op_add (pe_op op_mul (pv 3) (pe_int)) (pe_int)) pa_nil)) (pe_int)))
      (pss_cons (ps_expr (k_bm K PySem.F.plainAttrs_list PySem.F.slot_list_append PySem.F.type_list_append mt_append (pv 1) (pa_cons (pe_op op_mod (pe_callTy call_int1 (by rfl) T.z_int boot_int (pa_cons (pe_op op_add (pe_op op_mul (pv 4) (pe_int)) (pv 3)) pa_nil)) (pe_int)) pa_nil)))
      (pss_cons (ps_expr (k_bm K PySem.F.plainAttrs_list PySem.F.slot_list_append PySem.F.type_list_append mt_append (pv 1) (pa_cons (pe_op op_mod (pe_callTy call_int1 (by rfl) T.z_int boot_int (pa_cons (pe_op op_add (pv 4) (pe_op op_fdiv (pv 3) (pe_int))) pa_nil)) (pe_int)) pa_nil)))
      (pss_one (ps_set (i := 3) sc__law_draws.nd rfl (Or.inl rfl) (pe_int)))))) pss_nil)
      (pss_one (ps_for PassesOwn.never rfl (pi_range1 rfl T.z_range (pa_cons (pe_int) pa_nil)) (pg_name (i := 5) sc__law_draws.nd rfl (Or.inl rfl)) (pss_one (ps_if (pt_cmpR op_gt (pv 3) (pe_int) (nomark _)) (pss_cons (ps_expr (k_bm K PySem.F.plainAttrs_list PySem.F.slot_list_append PySem.F.type_list_append mt_append (pv 1) (pa_cons (pe_op op_mod (pe_callTy call_int1 (by rfl) T.z_int boot_int (pa_cons (pv 3) pa_nil)) (pe_int)) pa_nil)))
      (pss_one (ps_set (i := 3) sc__law_draws.nd rfl (Or.inl rfl) (pe_op op_fdiv (pv 3) (pe_int))))) pss_nil)))))))
      (pss_cons (ps_set (i := 6) sc__law_draws.nd rfl (Or.inl rfl) (pe_int))
      (Evl.pss_cut (ps_if (pt_cmpR op_gt (pe_callB (k_len K) (by rfl) T.z_len boot_len (pa_cons (pv 0) pa_nil)) (pe_int) (nomark _)) (pss_one (ps_set (i := 6) sc__law_draws.nd rfl (Or.inl rfl) (pe_op op_add (pe_int) (pe_callB call_abs (by rfl) T.z_abs boot_abs (pa_cons (pe_ix (k_ixL K) (pv 0) (pe_int) (fun _ _ => rfl)) pa_nil))))) pss_nil)
      (pss_cons (ps_for PassesOwn.never rfl (pi_range1 rfl T.z_range (pa_cons (pe_int) pa_nil)) (pg_name (i := 5) sc__law_draws.nd rfl (Or.inl rfl)) (pss_cons (ps_set (i := 6) sc__law_draws.nd rfl (Or.inl rfl) (pe_op op_mod (pe_callTy call_int1 (by rfl) T.z_int boot_int (pa_cons (pe_op op_add (pe_op op_mul (pv 6) (pe_int)) (pe_int)) pa_nil)) (pe_int)))
      (pss_one (ps_expr (k_bm K PySem.F.plainAttrs_list PySem.F.slot_list_append PySem.F.type_list_append mt_append (pv 1) (pa_cons (pe_op op_fdiv (pv 6) (pe_int)) pa_nil))))))
      (pss_one (ps_ret (k_listRev K rfl (by rfl) T.z_list (by rfl) T.z_reversed (pv 1))))))))), ?_⟩
  obtain ⟨s1, rfl, a, ns, rfl, hS, hlen, hQ⟩ := h
  walk_at "rd"
  refine ⟨Nat.zero_le _, fun d nd => ?_⟩
  generalize eH : upd H d _ = H1
  obtain ⟨s1, hd⟩ := of_upd eH nd
  have hS1 : SqL K H1 a (ns.map V.int) := s1.seq hS
  have had : ∀ xs, H1 d = some (.lst xs) → ∀ H2, ExB [d] H1 H2 → SqL K H2 a (ns.map V.int) := fun xs hx H2 x2 => by
    rcases hS with (q | ⟨o, q⟩) | q
    · exact .inl (.inl (x2.keep _ _ (fun z => by rw [List.mem_singleton.mp z, nd] at q; cases q) (s1 _ _ q)))
    · exact .inl (.inr ⟨o, x2.keep _ _ (fun z => by rw [List.mem_singleton.mp z, nd] at q; cases q) (s1 _ _ q)⟩)
    · exact .inr q
  walk_at "rd"
  refine ⟨a, rfl, ⟨_, hS1⟩, for_list (K := K) (a := a) (xs := ns.map V.int) (fun i σ' H' => ∃ v2 v3 v4 v5, ∃ ds : List Int, σ' = [some (.ref a), some (.ref d), v2, v3, v4, v5, none] ∧ ExB [d] H1 H' ∧ H' d = some (.lst (ds.map V.int)) ∧ ds.length ≤ 62 * i)
    ⟨none, none, none, none, [], rfl, ExB.refl _ _, hd, Nat.zero_le _⟩ (fun i σ' H' _ ⟨_, _, _, _, _, _, x, _⟩ => had _ hd _ x) ?_ ?_⟩
  · rintro i y σ' H2 hi ⟨v2, v3, v4, v5, ds, rfl, x2, h2, hl⟩
    have hi63 : i < ns.length := by
      have q := (List.getElem?_eq_some_iff.mp hi).1
      rwa [List.length_map] at q
    rw [List.getElem?_map] at hi
    obtain ⟨n, hn, rfl⟩ := Option.map_eq_some_iff.mp hi
    walk_at "rd"
    generalize (if n < 0 then -n else n) = m
    refine r_cut (fun σ' H' => ∃ (z : Int) (w4 w5 : Option V), ∃ es : List Int, σ' = [some (.ref a), some (.ref d), some (.int n), some (.int z), w4, w5, none] ∧ ExB [d] H1 H' ∧ H' d = some (.lst (es.map V.int)) ∧ es.length ≤ 62 * i + 2) ?_ ?_
    · walk_at "rd"
      refine r_I ⟨by decide, by decide, by decide⟩ ?_
      walk_at "rd"
      refine ite2 (fun _ => ?_) (fun _ => ?_)
      · walk_at "rd"
        refine r_I (.inr ⟨by decide, by decide⟩) ?_
        walk_at "rd"
        refine r_I (by decide) ?_
        walk_at "rd"
        refine n_tyL (SqL.of h2) ?_
        walk_at "rd"
        refine r_I (.inr ⟨by decide, by decide⟩) ?_
        walk_at "rd"
        refine r_I (by decide) ?_
        walk_at "rd"
        refine n_append h2 (by rw [List.length_map]; exact lt_line (by omega)) fun H3 x3 h3 => ?_
        rw [map_app1] at h3
        walk_at "rd"
        refine n_tyL (SqL.of h3) ?_
        walk_at "rd"
        refine r_I ⟨by decide, by decide⟩ ?_
        walk_at "rd"
        refine r_I (by decide) ?_
        walk_at "rd"
        refine n_append h3 (by rw [List.length_map, List.length_append, List.length_singleton]; exact lt_line (by omega)) fun H4 x4 h4 => ?_
        rw [map_app1] at h4
        walk_at "rd"
        exact ⟨_, _, _, _, rfl, (x2.trans x3).trans x4, h4, by simp only [List.length_append, List.length_singleton]; omega⟩
      · walk_at "rd"
        exact ⟨_, _, _, _, rfl, x2, h2, by omega⟩
    · rintro σ' H3 ⟨z, w4, w5, es, rfl, x3, h3, l3⟩
      walk_at "rd"
      refine n_for1 (by decide) (fun j σ' H' => ∃ (z : Int) (v5 : Option V), ∃ es : List Int, σ' = [some (.ref a), some (.ref d), some (.int n), some (.int z), w4, v5, none] ∧ ExB [d] H1 H' ∧ H' d = some (.lst (es.map V.int)) ∧ es.length ≤ 62 * i + 2 + j) ⟨z, w5, es, rfl, x3, h3, l3⟩ ?_ ?_
      · rintro j σ' H4 hj ⟨z, v5, es, rfl, x4, h4, l4⟩
        walk_at "rd"
        refine ite2 (fun _ => ?_) (fun _ => ?_)
        · walk_at "rd"
          refine n_tyL (SqL.of h4) ?_
          walk_at "rd"
          refine r_I (by decide) ?_
          walk_at "rd"
          refine n_append h4 (by rw [List.length_map]; exact lt_line (by omega)) fun H5 x5 h5 => ?_
          rw [map_app1] at h5
          walk_at "rd"
          refine r_I ⟨by decide, by decide⟩ ?_
          walk_at "rd"
          exact ⟨_, _, _, rfl, x4.trans x5, h5, by rw [List.length_append, List.length_singleton]; omega⟩
        · walk_at "rd"
          exact ⟨_, _, _, rfl, x4, h4, by omega⟩
      · rintro σ' H4 ⟨z, v5, es, rfl, x4, h4, l4⟩
        have l4' : es.length ≤ 62 * i + 2 + 60 := l4
        exact ⟨_, _, _, _, es, rfl, x4, h4, by omega⟩
  · rintro σ' H2 ⟨v2, v3, v4, v5, ds, rfl, x2, h2, hl⟩
    rw [List.length_map] at hl
    walk_at "rd"
    refine r_cut (fun σ' H' => H' = H2 ∧ ∃ z : Int, σ' = [some (.ref a), some (.ref d), v2, v3, v4, v5, some (.int z)]) ?_ ?_
    · walk_at "rd"
      refine r_lenL (had _ hd _ x2) ?_
      walk_at "rd"
      refine ite2 (fun h0 => ?_) (fun _ => ?_)
      · walk_at "rd"
        rw [List.length_map] at h0
        cases ns with
        | nil => exact absurd h0 (by decide)
        | cons n r =>
          refine r_ixL (v := .int n) (had _ hd _ x2) (atI_nat (j := 0) rfl) ?_
          walk_at "rd"
          exact ⟨rfl, _, rfl⟩
      · walk_at "rd"
        exact ⟨rfl, _, rfl⟩
    · rintro σ' H' ⟨rfl, z, rfl⟩
      walk_at "rd"
      refine n_for1 (by decide) (fun j σ' H' => ∃ (z : Int) (v5 : Option V), ∃ es : List Int, σ' = [some (.ref a), some (.ref d), v2, v3, v4, v5, some (.int z)] ∧ ExB [d] H1 H' ∧ H' d = some (.lst (es.map V.int)) ∧ es.length ≤ 62 * 63 + j) ⟨z, v5, ds, rfl, x2, h2, by omega⟩ ?_ ?_
      · rintro j σ' H4 hj ⟨z, v5, es, rfl, x4, h4, l4⟩
        walk_at "rd"
        refine r_I (.inr ⟨by decide, by decide⟩) ?_
        walk_at "rd"
        refine r_I (by decide) ?_
        walk_at "rd"
        refine n_tyL (SqL.of h4) ?_
        walk_at "rd"
        refine r_I ⟨by decide, by decide⟩ ?_
        walk_at "rd"
        refine n_append h4 (by rw [List.length_map]; exact lt_line (by omega)) fun H5 x5 h5 => ?_
        rw [map_app1] at h5
        walk_at "rd"
        exact ⟨_, _, _, rfl, x4.trans x5, h5, by rw [List.length_append, List.length_singleton]; omega⟩
      · rintro σ' H4 ⟨z, v5, es, rfl, x4, h4, l4⟩
        have l4' : es.length ≤ 62 * 63 + 3000 := l4
        walk_at "rd"
        refine r_listRev (SqL.of h4) fun p H5 np s5 h5 => ?_
        rw [← List.map_reverse] at h5
        have nHp : H p = none := Same.free s1 (x4.back _ np)
        refine hQ p H5 es.reverse (fun b o e => ?_) nHp h5 (by rw [List.length_reverse]; omega)
        exact s5 _ _ (x4.keep _ _ (fun z => by rw [List.mem_singleton.mp z, nd] at e; cases e) (s1 _ _ e))
/-- a list of draws stands at l -/
def Drw (H : Hp) (l : Addr) : Prop := ∃ ds : List Int, H l = some (.lst (ds.map V.int))
theorem Drw.mono {H H' : Hp} {l : Addr} {B : List Addr} (h : Drw H l) (x : ExB B H H') (n : l ∉ B) : Drw H' l := let ⟨ds, e⟩ := h; ⟨ds, x.keep _ _ n e⟩
theorem Drw.same {H H' : Hp} {l : Addr} (h : Drw H l) (x : Same H H') : Drw H' l := let ⟨ds, e⟩ := h; ⟨ds, x _ _ e⟩
abbrev sp__law_take : Sp := Sp2 fun d b H Q _ => ∃ (l : Addr) (bound : Int), d = .ref l ∧ b = .int bound ∧ 0 < bound ∧ Drw H l ∧ ∀ r H', 0 ≤ r → r < bound → ExB [l] H H' → Drw H' l → Q (.int r) H'
theorem ok__law_take {P : Program} {w : World} {K : PySem.W.Frag} {mg : Str → Option Value} {base : Heap} {A : Adr} (T : Txt K mg A) : FnOk P w K mg base CX0 1 A.f__law_take A.d__law_take ["draws", "bound"] (sp__law_take) := by
  refine T.F__law_take.ok sc__law_take (len2 _) (fun cdv AA outer s H vs Q E hr h => ?_)
  refine ⟨_, (pss_cons (ps_if (pt_cmpR op_eq (pe_callB (k_len K) (by rfl) T.z_len boot_len (pa_cons (pv 0) pa_nil)) (pe_int) (nomark _)) (pss_one (ps_ret (pe_int))) pss_nil)
      (pss_one (ps_ret (pe_op op_mod (pe_callTy call_int1 (by rfl) T.z_int boot_int (pa_cons (k_bm0 K PySem.F.plainAttrs_list PySem.F.slot_list_pop PySem.F.type_list_pop mt_pop (pv 0)) pa_nil)) (pv 1))))), ?_⟩
  obtain ⟨d, b, rfl, l, bound, rfl, rfl, hb, ⟨ds, hd⟩, hQ⟩ := h
  walk_at "rd"
  refine r_lenL (SqL.of hd) ?_
  walk_at "rd"
  refine r_eq rfl ?_
  walk_at "rd"
  rw [List.length_map]
  cases hz : decide (V.int (ds.length : Int) = V.int 0) with
  | true =>
    walk_at "rd"
    exact hQ 0 H (Int.le_refl _) hb (ExB.refl _ _) ⟨ds, hd⟩
  | false =>
    walk_at "rd"
    have hpos : 0 < ds.length := by
      have q := of_decide_eq_false hz
      rcases Nat.eq_zero_or_pos ds.length with e | e
      · exact absurd (by rw [e]; rfl) q
      · exact e
    refine n_tyL (SqL.of hd) ?_
    have hl : ds[ds.length - 1]? = some ds[ds.length - 1] := List.getElem?_eq_getElem (by omega)
    refine n_pop (y := .int ds[ds.length - 1]) hd (by rw [List.length_map, List.getElem?_map, hl]; rfl) fun H1 x1 h1 => ?_
    rw [← List.map_dropLast] at h1
    walk_at "rd"
    refine r_I hb ?_
    exact hQ _ H1 (Int.emod_nonneg _ (by omega)) (Int.emod_lt_of_pos _ hb) x1 ⟨_, h1⟩
abbrev sp__law_pick (K : PySem.W.Frag) : Sp := Sp2 fun d s H Q _ => ∃ (l a : Addr) (xs : List V), d = .ref l ∧ s = .ref a ∧ SqL K H a xs ∧ a ≠ l ∧ xs ≠ [] ∧ Drw H l ∧ ∀ v H', v ∈ xs → ExB [l] H H' → Drw H' l → Q v H'
theorem ok__law_pick {P : Program} {w : World} {K : PySem.W.Frag} {mg : Str → Option Value} {base : Heap} {A : Adr} (T : Txt K mg A) : FnOk P w K mg base CX0 2 A.f__law_pick A.d__law_pick ["draws", "some"] (sp__law_pick K) := by
  refine T.F__law_pick.ok sc__law_pick (len2 _) (fun cdv AA outer s H vs Q E hr h => ?_)
  refine ⟨_, (pss_one (ps_ret (pe_ix (k_ixL K) (pv 1) (pe_call (ok__law_take T) (hr.mono (by decide)) rfl T.g__law_take T.F__law_take.kp T.b__law_take .nil pass0 (pa_cons (pv 0) (pa_cons (pe_callB (k_len K) (by rfl) T.z_len boot_len (pa_cons (pv 1) pa_nil)) pa_nil))) (fun _ _ => rfl)))), ?_⟩
  obtain ⟨d, s1, rfl, l, a, xs, rfl, rfl, hS, hal, hne, hD, hQ⟩ := h
  walk_at "rd"
  refine r_lenL hS ?_
  walk_at "rd"
  have hpos : 0 < xs.length := List.length_pos_iff.mpr hne
  refine ⟨l, xs.length, rfl, rfl, by omega, hD, fun r H1 r0 r1 x1 d1 => ?_⟩
  obtain ⟨k, rfl⟩ := Int.eq_ofNat_of_zero_le r0
  have hk : k < xs.length := by omega
  refine r_ixL (v := xs[k]) (sqL_exB x1 (ne1 hal) hS) (atI_nat (List.getElem?_eq_getElem hk)) ?_
  exact hQ _ H1 (List.getElem_mem hk) x1 d1

end K03
local macro_rules | `(tactic| walk_at "rdo1") => `(tactic| first
  | with_reducible refine RX.r_seq ?_ | with_reducible refine RX.r_asg ?_ | with_reducible refine RX.r_ret ?_ | with_reducible refine RX.r_drop ?_ | with_reducible refine RX.r_ifS ?_ | with_reducible refine RX.r_next ?_
  | with_reducible refine RX.r_op ?_ | with_reducible refine RX.r_un ?_ | ((with_reducible refine RX.r_var (v := ?v) ?hv ?_); (case hv => exact rfl)) | with_reducible refine RX.r_c ?_
  | with_reducible refine RX.r_I0 ?_ | with_reducible refine RX.r_U ?_ | with_reducible refine RX.r_test ?_ | with_reducible refine RX.r_tB ?_ | with_reducible refine RX.r_bl ?_ | with_reducible refine RX.r_not ?_
  | with_reducible refine RX.r_andV ?_ | with_reducible refine RX.r_orV ?_ | with_reducible refine RX.r_notV ?_ | with_reducible refine RX.r_if ?_
  | with_reducible refine RX.r_gName ?_ | with_reducible refine RX.r_nil ?_ | with_reducible refine RX.r_cons ?_ | with_reducible refine RX.r_CB ?_ | with_reducible refine RX.r_call ?_ | with_reducible refine RX.r_chain ?_
  | with_reducible refine RX.r_tup ?_ | with_reducible refine RX.r_lst ?_ | with_reducible refine RX.r_fld ?_ | with_reducible refine RX.r_meth ?_ | with_reducible refine RX.r_make ?_ | with_reducible refine RX.r_BM ?_ | with_reducible refine RX.r_BM0 ?_
  | with_reducible refine RX.r_for ?_ | with_reducible refine RX.r_delS ?_ | with_reducible refine RX.n_int1 ?_ | with_reducible refine RX.n_1 ?_ | with_reducible refine RX.n_2 ?_ | with_reducible refine RX.n_rng1 ?_ | with_reducible refine RX.r_lc ?_ | with_reducible refine RX.r_iL ?_ | with_reducible refine RX.r_iT ?_ | with_reducible refine RX.r_yes ?_ | with_reducible refine RX.r_sl ?_ | with_reducible refine RX.r_part ?_ | with_reducible refine RX.r_nopart ?_ | with_reducible refine RX.r_par ?_ | with_reducible refine RX.r_par3 ?_ | with_reducible refine RX.n_par ?_ | with_reducible refine RX.n_par3 ?_ | with_reducible refine RX.r_truth ?_ | with_reducible refine RX.r_enum ?_ | with_reducible refine RX.n_part ?_ | with_reducible refine RX.n_andrfl ?_ | with_reducible refine RX.r_tlr ?_ | with_reducible refine RX.g_cons ?_ | with_reducible refine RX.g_nil ?_ | with_reducible refine RX.g_fld ?_ | with_reducible refine RX.g_sub ?_
  | with_reducible refine RX.n_sp0 ?_ | with_reducible refine RX.n_sp1 ?_ | with_reducible refine RX.n_sp2 ?_ | with_reducible refine RX.n_sp3 ?_ | with_reducible refine RX.n_sp4 ?_ | with_reducible refine RX.n_sp5 ?_ | with_reducible refine RX.n_sp6 ?_ | with_reducible refine RX.n_sm1 ?_ | with_reducible refine RX.n_sm2 ?_ | with_reducible refine RX.n_sm3 ?_ | with_reducible refine RX.n_sm4 ?_ | with_reducible refine RX.n_sm5 ?_ | with_reducible refine RX.n_sm6 ?_
  | with_reducible refine L2.iteT ?_ | with_reducible refine L2.iteF ?_)
local macro_rules | `(tactic| walk_at "rd1") => `(tactic| first | walk_at "rdo1" | with_reducible refine RX.r_and ?_ | with_reducible refine RX.r_or ?_)
local macro_rules | `(tactic| walk_at "rd") => `(tactic| repeat walk_at "rd1")
local macro_rules | `(tactic| walk_at "rdo") => `(tactic| repeat walk_at "rdo1")
local macro_rules | `(tactic| walk_at "lk") => `(tactic| repeat (first | with_reducible exact RX.lk_hit | (refine Eq.trans (RX.lk_miss (by decide +kernel)) ?_) | exact rfl))
local macro_rules | `(tactic| walk_at "pf") => `(tactic| repeat (first | with_reducible exact RX.put_hit | (refine Eq.trans (RX.put_miss (by decide +kernel)) (congrArg _ ?_)) | exact rfl))

namespace K03
open PySem PySem.Spec PyProof.Rows L2 RX
/-! ### two values alike -/
abbrev sp__law_same (K : PySem.W.Frag) (n : Nat) : Sp := Sp2 fun x y H Q _ => ∃ d : PyData, Dp K H x d ∧ Dp K H y d ∧ d.depth < n ∧ small d = true ∧ ∀ H', Same H H' → Q (.bl true) H'
theorem ok__law_same_ {P : Program} {w : World} {K : PySem.W.Frag} {mg : Str → Option Value} {base : Heap} {A : Adr} (T : Txt K mg A) : ∀ n, FnOk P w K mg base CX0 (n + 1) A.f__law_same A.d__law_same ["actual", "due"] (sp__law_same K n)
  | 0 => ⟨fun vs H Q E ⟨_, _, _, _, _, _, h, _⟩ => absurd h (Nat.not_lt_zero _), fun _ _ _ _ _ _ _ _ _ _ _ _ _ ⟨_, _, _, _, _, _, h, _⟩ => absurd h (Nat.not_lt_zero _)⟩
  | n + 1 => by
    have ih := ok__law_same_ (P := P) (w := w) (base := base) T n
    refine T.F__law_same.ok sc__law_same (len2 _) (fun cdv AA outer s H vs Q E hr h => ?_)
    refine ⟨_, (pss_cons (ps_if (pt_cmpR op_isN (pv 1) (pe_non) (nomark _)) (pss_one (ps_ret (pe_cmpR op_isN (pv 0) (pe_non) (nomark _)))) pss_nil)
      (pss_cons (ps_if (PW.pt (pw_or (pt_val (pe_callB (k_isi K) (by rfl) T.z_isinstance boot_isinstance (pa_cons (pv 1) (pa_cons (pe_bltn (v := .ty "tuple") (by rfl) T.z_tuple boot_tuple rfl) pa_nil)))) (pw_or1 (pt_val (pe_callB (k_isi K) (by rfl) T.z_isinstance boot_isinstance (pa_cons (pv 1) (pa_cons (pe_bltn (v := .ty "list") (by rfl) T.z_list boot_list rfl) pa_nil))))))) (pss_cons (ps_if (PW.pt (pw_or (pt_cmpR op_ne (pe_callB (k_isi K) (by rfl) T.z_isinstance boot_isinstance (pa_cons (pv 1) (pa_cons (pe_bltn (v := .ty "tuple") (by rfl) T.z_tuple boot_tuple rfl) pa_nil))) (pe_callB (k_isi K) (by rfl) T.z_isinstance boot_isinstance (pa_cons (pv 0) (pa_cons (pe_bltn (v := .ty "tuple") (by rfl) T.z_tuple boot_tuple rfl) pa_nil))) (nomark _)) (pw_or1 (pt_cmpR op_ne (pe_callB (k_isi K) (by rfl) T.z_isinstance boot_isinstance (pa_cons (pv 1) (pa_cons (pe_bltn (v := .ty "list") (by rfl) T.z_list boot_list rfl) pa_nil))) (pe_callB (k_isi K) (by rfl) T.z_isinstance boot_isinstance (pa_cons (pv 0) (pa_cons (pe_bltn (v := .ty "list") (by rfl) T.z_list boot_list rfl) pa_nil))) (nomark _))))) (pss_one (ps_ret (pe_bl))) pss_nil)
      (pss_one (ps_ret (pe_and (pe_cmpR op_eq (pe_callB (k_len K) (by rfl) T.z_len boot_len (pa_cons (pv 0) pa_nil)) (pe_callB (k_len K) (by rfl) T.z_len boot_len (pa_cons (pv 1) pa_nil)) (nomark _)) (pe_one (pe_cmpR (k_eqD K hr.units) (pe_lc (own := [("k", 2)]) rfl sc__law_same.nd (pi_range1 rfl T.z_range (pa_cons (pe_callB (k_len K) (by rfl) T.z_len boot_len (pa_cons (pv 1) pa_nil)) pa_nil)) (blkOk_by (own := [("k", 2)]) (by kernel_rfl)) (fun _ _ _ _ _ => (pg_name (i := 2) sc__law_same.nd rfl (Or.inl rfl))) (fun _ _ _ _ _ => pts_one (pt_not (pt_val (pe_call ih hr rfl T.g__law_same T.F__law_same.kp T.b__law_same .nil pass0 (pa_cons (pe_ix (k_ix K) (pv 0) (pv 2) (fun _ _ => rfl)) (pa_cons (pe_ix (k_ix K) (pv 1) (pv 2) (fun _ _ => rfl)) pa_nil)))))) (fun _ _ _ _ _ => (pv 2))) (pe_lst pa_nil) (nomark _))))))) pss_nil)
      (pss_cons (ps_if (pt_val (pe_callB (k_isi K) (by rfl) T.z_isinstance boot_isinstance (pa_cons (pv 1) (pa_cons (pe_bltn (v := .ty "dict") (by rfl) T.z_dict boot_dict rfl) pa_nil)))) pss_never pss_nil)
      (pss_cons (ps_if (pt_cmpR op_ne (pe_callB (k_isi K) (by rfl) T.z_isinstance boot_isinstance (pa_cons (pv 1) (pa_cons (pe_bltn (v := .ty "bool") (by rfl) T.z_bool boot_bool rfl) pa_nil))) (pe_callB (k_isi K) (by rfl) T.z_isinstance boot_isinstance (pa_cons (pv 0) (pa_cons (pe_bltn (v := .ty "bool") (by rfl) T.z_bool boot_bool rfl) pa_nil))) (nomark _)) (pss_one (ps_ret (pe_bl))) pss_nil)
      (pss_cons (ps_if (PW.pt (pw_or (pt_cmpR op_ne (pe_callB (k_isi K) (by rfl) T.z_isinstance boot_isinstance (pa_cons (pv 1) (pa_cons (pe_bltn (v := .ty "int") (by rfl) T.z_int boot_int rfl) pa_nil))) (pe_callB (k_isi K) (by rfl) T.z_isinstance boot_isinstance (pa_cons (pv 0) (pa_cons (pe_bltn (v := .ty "int") (by rfl) T.z_int boot_int rfl) pa_nil))) (nomark _)) (pw_or1 (pt_cmpR op_ne (pe_callB (k_isi K) (by rfl) T.z_isinstance boot_isinstance (pa_cons (pv 1) (pa_cons (pe_bltn (v := .ty "str") (by rfl) T.z_str boot_str rfl) pa_nil))) (pe_callB (k_isi K) (by rfl) T.z_isinstance boot_isinstance (pa_cons (pv 0) (pa_cons (pe_bltn (v := .ty "str") (by rfl) T.z_str boot_str rfl) pa_nil))) (nomark _))))) (pss_one (ps_ret (pe_bl))) pss_nil)
      (pss_one (ps_ret (pe_cmpR op_eq (pv 0) (pv 1) (nomark _))))))))), ?_⟩
    obtain ⟨x, y, rfl, d, hx, hy, hd, hs, hQ⟩ := h
    have isiY : ∀ T : String, T ∈ tyNames → ∀ (σ : L2.St) (H' : Hp) (R : Bool → Hp → Prop), Same H H' → σ[1]? = some (some y) → R (isi1 (nmOf d) T) H' → tB (tCB (rIsi K) (tCons (tVar 1) (tCons (tC (.ty T)) tNil))) σ H' R := fun T hT σ H' R s' e k => by
      walk_at "rd"
      refine r_var e ?_
      walk_at "rd"
      refine r_isi (dp_ty (dp_same s' hy)) (nm_mem d) ?_ hT
      exact r_bl k
    have isiN : ∀ T : String, T ∈ tyNames → ∀ (σ : L2.St) (H' : Hp) (R : Bool → Hp → Prop), Same H H' → σ[1]? = some (some y) → σ[0]? = some (some x) → R false H' →
        tTest (tOp rNe (tCB (rIsi K) (tCons (tVar 1) (tCons (tC (.ty T)) tNil))) (tCB (rIsi K) (tCons (tVar 0) (tCons (tC (.ty T)) tNil)))) σ H' R := fun T hT σ H' R s' e e0 k => by
      walk_at "rd"
      refine r_var e ?_
      walk_at "rd"
      refine r_isi (dp_ty (dp_same s' hy)) (nm_mem d) ?_ hT
      walk_at "rd"
      refine r_var e0 ?_
      walk_at "rd"
      refine r_isi (dp_ty (dp_same s' hx)) (nm_mem d) ?_ hT
      refine r_ne rfl ?_
      rw [decide_eq_true rfl]
      exact r_bl k
    walk_at "rdo"
    by_cases h0 : d = .none
    · subst h0
      cases hx
      cases hy
      refine ite_t (decide_eq_true rfl) ?_
      walk_at "rd"
      exact hQ H (Same.refl _)
    have hyn : decide (y = V.non) = false := decide_eq_false fun z => by
      subst z
      cases hy
      exact h0 rfl
    refine ite_f hyn ?_
    walk_at "rdo"
    refine r_orB (isi1 (nmOf d) "tuple") (isi1 (nmOf d) "list") (fun R k => isiY _ (by decide) _ _ _ (Same.refl _) rfl k) (fun _ R k => isiY _ (by decide) _ _ _ (Same.refl _) rfl k) ?_
    cases hq : (isi1 (nmOf d) "tuple" || isi1 (nmOf d) "list") with
    | true =>
      obtain ⟨a, b, xs, ys, ds, rfl, rfl, ha, hb, dx, dy, hdep, hlen, hsm⟩ : ∃ (a b : Addr) (xs ys : List V) (ds : List PyData), x = .ref a ∧ y = .ref b ∧ SqA K H a xs ∧ SqA K H b ys ∧ DpAll K H xs ds ∧ DpAll K H ys ds ∧ PyData.depthAll ds < n ∧ ds.length ≤ 100000 ∧ smallAll ds = true := by
        cases hx with
        | lst e1 q1 =>
          cases hy with
          | lst e2 q2 =>
            have hs' : (decide (_ ≤ 100000) && smallAll _) = true := hs
            rw [Bool.and_eq_true] at hs'
            exact ⟨_, _, _, _, _, rfl, rfl, .inl e1, .inl e2, q1, q2, Nat.lt_of_succ_lt_succ hd, of_decide_eq_true hs'.1, hs'.2⟩
        | tup e1 q1 =>
          cases hy with
          | tup e2 q2 =>
            have hs' : (decide (_ ≤ 100000) && smallAll _) = true := hs
            rw [Bool.and_eq_true] at hs'
            exact ⟨_, _, _, _, _, rfl, rfl, .inr e1, .inr e2, q1, q2, Nat.lt_of_succ_lt_succ hd, of_decide_eq_true hs'.1, hs'.2⟩
        | non => exact absurd rfl h0
        | bl b => exact absurd (show (isi1 "bool" "tuple" || isi1 "bool" "list") = true from hq) (by decide)
        | int b => exact absurd (show (isi1 "int" "tuple" || isi1 "int" "list") = true from hq) (by decide)
        | str b => exact absurd (show (isi1 "str" "tuple" || isi1 "str" "list") = true from hq) (by decide)
      refine iteT ?_
      walk_at "rdo"
      refine r_orB false false (fun R k => isiN _ (by decide) _ _ _ (Same.refl _) rfl rfl k) (fun _ R k => isiN _ (by decide) _ _ _ (Same.refl _) rfl rfl k) (iteF ?_)
      walk_at "rdo"
      have lx := DpAll.length dx
      have ly := DpAll.length dy
      refine r_lenA ha ?_
      walk_at "rdo"
      refine r_lenA hb ?_
      refine r_eq rfl ?_
      rw [decide_eq_true (by rw [lx, ly])]
      walk_at "rdo"
      refine r_lenA hb ?_
      walk_at "rdo"
      refine n_lcR (n := ys.length) ⟨by omega, by omega⟩ (fun D i acc H1 => Same H H1 ∧ acc = []) (fun D H1 nD s1 e1 => ⟨s1, rfl⟩) ?_ ?_
      · rintro D i acc H1 nD hi hD ⟨s1, rfl⟩
        walk_at "rdo"
        refine ⟨rfl, ?_⟩
        walk_at "rdo"
        have hiy : i < ys.length := by omega
        have hix : i < xs.length := by omega
        refine rx_seqA (ha.same s1) (atI_nat (List.getElem?_eq_getElem hix)) ?_
        walk_at "rdo"
        refine rx_seqA (hb.same s1) (atI_nat (List.getElem?_eq_getElem hiy)) ?_
        walk_at "rdo"
        obtain ⟨d1, e1, q1⟩ := RX.DpAll.get dx (List.getElem?_eq_getElem hix)
        obtain ⟨d2, e2, q2⟩ := RX.DpAll.get dy (List.getElem?_eq_getElem hiy)
        rw [e1] at e2
        cases e2
        refine ⟨d1, dp_same s1 q1, dp_same s1 q2, Nat.lt_of_le_of_lt (depthAll_get e1) hdep, smallAll_get hsm e1, fun H2 s2 => ?_⟩
        walk_at "rdo"
        exact ⟨[], s2 _ _ hD, s1.trans s2, rfl⟩
      · rintro D acc H1 nD hD ⟨s1, rfl⟩
        walk_at "rdo"
        refine ⟨Nat.zero_le _, fun q nq => ?_⟩
        generalize eH : upd H1 q _ = H2
        obtain ⟨s2, hq2⟩ := of_upd eH nq
        refine r_eqD (dp_nil (s2 _ _ hD)) (dp_nil hq2) (by decide) (by decide) ?_
        exact hQ H2 (s1.trans s2)
    | false =>
      have hsc : x = y ∧ scal x y = true ∧ isi1 (nmOf d) "dict" = false := by
        cases hx with
        | non => exact absurd rfl h0
        | bl b => cases hy; exact ⟨rfl, rfl, (by decide : isi1 "bool" "dict" = false)⟩
        | int i => cases hy; exact ⟨rfl, rfl, (by decide : isi1 "int" "dict" = false)⟩
        | str z => cases hy; exact ⟨rfl, rfl, (by decide : isi1 "str" "dict" = false)⟩
        | lst _ _ => exact absurd (show (isi1 "list" "tuple" || isi1 "list" "list") = false from hq) (by decide)
        | tup _ _ => exact absurd (show (isi1 "tuple" "tuple" || isi1 "tuple" "list") = false from hq) (by decide)
      obtain ⟨exy, hscal, hdict⟩ := hsc
      refine iteF ?_
      walk_at "rdo1"
      walk_at "rdo1"
      walk_at "rdo1"
      refine isiY _ (by decide) _ _ _ (Same.refl _) rfl ?_
      refine ite_f hdict ?_
      walk_at "rdo1"
      walk_at "rdo1"
      walk_at "rdo1"
      refine isiN _ (by decide) _ _ _ (Same.refl _) rfl rfl ?_
      walk_at "rdo"
      refine r_orB false false (fun R k => isiN _ (by decide) _ _ _ (Same.refl _) rfl rfl k) (fun _ R k => isiN _ (by decide) _ _ _ (Same.refl _) rfl rfl k) (iteF ?_)
      walk_at "rdo"
      refine r_eq hscal ?_
      rw [decide_eq_true exy]
      exact hQ H (Same.refl _)
theorem ok__law_same {P : Program} {w : World} {K : PySem.W.Frag} {mg : Str → Option Value} {base : Heap} {A : Adr} (T : Txt K mg A) : FnOk P w K mg base CX0 8 A.f__law_same A.d__law_same ["actual", "due"] (sp__law_same K 7) := ok__law_same_ T 7

end K03
local macro_rules | `(tactic| walk_at "rdo1") => `(tactic| first
  | with_reducible refine RX.r_seq ?_ | with_reducible refine RX.r_asg ?_ | with_reducible refine RX.r_ret ?_ | with_reducible refine RX.r_drop ?_ | with_reducible refine RX.r_ifS ?_ | with_reducible refine RX.r_next ?_
  | with_reducible refine RX.r_op ?_ | with_reducible refine RX.r_un ?_ | ((with_reducible refine RX.r_var (v := ?v) ?hv ?_); (case hv => exact rfl)) | with_reducible refine RX.r_c ?_
  | with_reducible refine RX.r_I0 ?_ | with_reducible refine RX.r_U ?_ | with_reducible refine RX.r_test ?_ | with_reducible refine RX.r_tB ?_ | with_reducible refine RX.r_bl ?_ | with_reducible refine RX.r_not ?_
  | with_reducible refine RX.r_andV ?_ | with_reducible refine RX.r_orV ?_ | with_reducible refine RX.r_notV ?_ | with_reducible refine RX.r_if ?_
  | with_reducible refine RX.r_gName ?_ | with_reducible refine RX.r_nil ?_ | with_reducible refine RX.r_cons ?_ | with_reducible refine RX.r_CB ?_ | with_reducible refine RX.r_call ?_ | with_reducible refine RX.r_chain ?_
  | with_reducible refine RX.r_tup ?_ | with_reducible refine RX.r_lst ?_ | with_reducible refine RX.r_fld ?_ | with_reducible refine RX.r_meth ?_ | with_reducible refine RX.r_make ?_ | with_reducible refine RX.r_BM ?_ | with_reducible refine RX.r_BM0 ?_
  | with_reducible refine RX.r_for ?_ | with_reducible refine RX.r_delS ?_ | with_reducible refine RX.n_int1 ?_ | with_reducible refine RX.n_1 ?_ | with_reducible refine RX.n_2 ?_ | with_reducible refine RX.n_rng1 ?_ | with_reducible refine RX.r_lc ?_ | with_reducible refine RX.r_iL ?_ | with_reducible refine RX.r_iT ?_ | with_reducible refine RX.r_yes ?_ | with_reducible refine RX.r_sl ?_ | with_reducible refine RX.r_part ?_ | with_reducible refine RX.r_nopart ?_ | with_reducible refine RX.r_par ?_ | with_reducible refine RX.r_par3 ?_ | with_reducible refine RX.n_par ?_ | with_reducible refine RX.n_par3 ?_ | with_reducible refine RX.r_truth ?_ | with_reducible refine RX.r_enum ?_ | with_reducible refine RX.n_part ?_ | with_reducible refine RX.n_andrfl ?_ | with_reducible refine RX.r_tlr ?_ | with_reducible refine RX.g_cons ?_ | with_reducible refine RX.g_nil ?_ | with_reducible refine RX.g_fld ?_ | with_reducible refine RX.g_sub ?_
  | with_reducible refine RX.n_sp0 ?_ | with_reducible refine RX.n_sp1 ?_ | with_reducible refine RX.n_sp2 ?_ | with_reducible refine RX.n_sp3 ?_ | with_reducible refine RX.n_sp4 ?_ | with_reducible refine RX.n_sp5 ?_ | with_reducible refine RX.n_sp6 ?_ | with_reducible refine RX.n_sm1 ?_ | with_reducible refine RX.n_sm2 ?_ | with_reducible refine RX.n_sm3 ?_ | with_reducible refine RX.n_sm4 ?_ | with_reducible refine RX.n_sm5 ?_ | with_reducible refine RX.n_sm6 ?_
  | with_reducible refine L2.iteT ?_ | with_reducible refine L2.iteF ?_)
local macro_rules | `(tactic| walk_at "rd1") => `(tactic| first | walk_at "rdo1" | with_reducible refine RX.r_and ?_ | with_reducible refine RX.r_or ?_)
local macro_rules | `(tactic| walk_at "rd") => `(tactic| repeat walk_at "rd1")
local macro_rules | `(tactic| walk_at "rdo") => `(tactic| repeat walk_at "rdo1")
local macro_rules | `(tactic| walk_at "lk") => `(tactic| repeat (first | with_reducible exact RX.lk_hit | (refine Eq.trans (RX.lk_miss (by decide +kernel)) ?_) | exact rfl))
local macro_rules | `(tactic| walk_at "pf") => `(tactic| repeat (first | with_reducible exact RX.put_hit | (refine Eq.trans (RX.put_miss (by decide +kernel)) (congrArg _ ?_)) | exact rfl))

namespace K03
open PySem PySem.Spec PyProof.Rows L2 RX
/-- the law's own rows: a list of lists, each of them replaced, none changed -/
structure SetsAt (N : List Addr) (H : Hp) (S : Addr) (rs : List (List Int)) : Prop where
  ex : ∃ ps : List Addr, H S = some (.lst (ps.map V.ref)) ∧ ps.length = rs.length ∧ ∀ (i : Nat) (p : Addr) (r : List Int), ps[i]? = some p → rs[i]? = some r → H p = some (.lst (r.map V.int)) ∧ p ≠ S ∧ p ∉ N
  pos : rs ≠ []
  small : ∀ r ∈ rs, r.length ≤ 4
def takeM (row : List Int) (first : Int) : List Int := row.filter (fun z => !decide (V.int z = V.int first)) ++ [first]
def lookedM (ways : Int) (rs : List (List Int)) (n first : Int) (come : Bool) : Bool × List (List Int) :=
  if ((rowM rs n).contains first || come) = true then ((rowM rs n).contains first, rs.set (rowIx rs n) ((takeM (rowM rs n) first).drop (((takeM (rowM rs n) first).length : Int) - ways).toNat)) else ((rowM rs n).contains first, rs)
abbrev sp__law_looked (K : PySem.W.Frag) : Sp := Sp5 fun s w l ad come H Q _ => ∃ (N : List Addr) (S : Addr) (rs : List (List Int)) (ways line n : Int) (c : Bool), s = .ref S ∧ w = .int ways ∧ l = .int line ∧ ad = .int n ∧ come = .bl c ∧ (∀ a ∈ N, H a ≠ none) ∧ SetsAt N H S rs ∧ 0 < line ∧ line ≤ 8 ∧ 1 ≤ ways ∧ ways ≤ 4 ∧
  ∀ H', ExB [S] H H' → SetsAt N H' S (lookedM ways rs (n / line) (n / line * line) c).2 → Q (.bl (lookedM ways rs (n / line) (n / line * line) c).1) H'
theorem SetsAt.row {N : List Addr} {H : Hp} {S : Addr} {rs : List (List Int)} (h : SetsAt N H S rs) (n : Int) : ∃ (ps : List Addr) (p : Addr), H S = some (.lst (ps.map V.ref)) ∧ ps.length = rs.length ∧ ps[rowIx rs n]? = some p ∧ H p = some (.lst ((rowM rs n).map V.int)) ∧ p ≠ S ∧ (rowM rs n).length ≤ 4 ∧ rowIx rs n < rs.length := by
  obtain ⟨ps, h1, h2, h3⟩ := h.ex
  have hlt := rowIx_lt (n := n) h.pos
  have e1 : ps[rowIx rs n]? = some (ps[rowIx rs n]'(by rw [h2]; exact hlt)) := List.getElem?_eq_getElem _
  have e2 : rs[rowIx rs n]? = some (rowM rs n) := by
    unfold rowM
    rw [List.getElem?_eq_getElem hlt, List.getD_eq_getElem?_getD, List.getElem?_eq_getElem hlt]
    rfl
  obtain ⟨h4, h5, _⟩ := h3 _ _ _ e1 e2
  exact ⟨ps, _, h1, h2, e1, h4, h5, h.small _ (List.mem_of_getElem? e2), hlt⟩
theorem SetsAt.put {N : List Addr} {H H' : Hp} {S q : Addr} {rs : List (List Int)} {i : Nat} {ps : List Addr} {r : List Int} (h : SetsAt N H S rs) (hS : H S = some (.lst (ps.map V.ref))) (s : ∀ a o, a ≠ S → H a = some o → H' a = some o) (e : H' S = some (.lst ((ps.map V.ref).set i (.ref q)))) (eq : H' q = some (.lst (r.map V.int))) (nq : q ≠ S) (nN : q ∉ N) (hr : r.length ≤ 4) : SetsAt N H' S (rs.set i r) := by
  obtain ⟨ps', h1, h2, h3⟩ := h.ex
  have ep : ps' = ps := by
    rw [hS] at h1
    have h1' : ps.map V.ref = ps'.map V.ref := by injection (Option.some.inj h1)
    exact (List.map_inj_right (fun a b z => by injection z)).mp h1'.symm
  subst ep
  refine ⟨⟨ps'.set i q, by rw [e, List.map_set], by rw [List.length_set, List.length_set]; exact h2, fun j p r' hp hr' => ?_⟩, ?_, fun r' hr' => ?_⟩
  · by_cases hj : i = j
    · subst hj
      have hlt : i < ps'.length := by
        have := (List.getElem?_eq_some_iff.mp hp).1
        rwa [List.length_set] at this
      rw [List.getElem?_set_self hlt] at hp
      rw [List.getElem?_set_self (by rw [← h2]; exact hlt)] at hr'
      cases hp
      cases hr'
      exact ⟨eq, nq, nN⟩
    · rw [List.getElem?_set_ne hj] at hp hr'
      obtain ⟨a1, a2, a3⟩ := h3 j p r' hp hr'
      exact ⟨s _ _ a2 a1, a2, a3⟩
  · intro q
    have := congrArg List.length q
    rw [List.length_set] at this
    simp at this
    exact h.pos this
  · rcases List.mem_or_eq_of_mem_set hr' with q | q
    · exact h.small _ q
    · rw [q]
      exact hr
theorem SetsAt.mono {N : List Addr} {H H' : Hp} {S : Addr} {rs : List (List Int)} {B : List Addr} (h : SetsAt N H S rs) (x : ExB B H H') (n : S ∉ B) (n2 : ∀ b ∈ B, b ∈ N) : SetsAt N H' S rs := by
  obtain ⟨ps, h1, h2, h3⟩ := h.ex
  exact ⟨⟨ps, x.keep _ _ n h1, h2, fun i p r hp hr => ⟨x.keep _ _ (fun z => (h3 i p r hp hr).2.2 (n2 p z)) (h3 i p r hp hr).1, (h3 i p r hp hr).2⟩⟩, h.pos, h.small⟩
theorem filter_take_succ {l : List Int} {i : Nat} {z : Int} {f : Int → Bool} (h : l[i]? = some z) : (l.take (i + 1)).filter f = (l.take i).filter f ++ (if f z = true then [z] else []) := by
  rw [take_succ_of h, List.filter_append]
  congr 1
  rw [List.filter_cons]
  rfl
theorem ok__law_looked {P : Program} {w : World} {K : PySem.W.Frag} {mg : Str → Option Value} {base : Heap} {A : Adr} (T : Txt K mg A) : FnOk P w K mg base CX0 1 A.f__law_looked A.d__law_looked ["sets", "ways", "line", "address", "does_come"] (sp__law_looked K) := by
  refine T.F__law_looked.ok sc__law_looked (len5 _) (fun cdv AA outer s H vs Q E hr h => ?_)
  refine ⟨_, (pss_cons (ps_set (i := 5) sc__law_looked.nd rfl (Or.inl rfl) (pe_op op_fdiv (pv 3) (pv 2)))
      (pss_cons (ps_asg (pe_tup (pa_cons (pe_op op_mod (pe_callTy call_int1 (by rfl) T.z_int boot_int (pa_cons (pv 5) pa_nil)) (pe_callB (k_len K) (by rfl) T.z_len boot_len (pa_cons (pv 0) pa_nil))) (pa_cons (pe_op op_mul (pv 5) (pv 2)) pa_nil))) (k_gtup K rfl (pgs_cons (pg_name (i := 6) sc__law_looked.nd rfl (Or.inl rfl)) (pgs_cons (pg_name (i := 7) sc__law_looked.nd rfl (Or.inr rfl)) pgs_nil))))
      (pss_cons (ps_set (i := 8) sc__law_looked.nd rfl (Or.inl rfl) (pe_cmpR (k_in K) (pv 7) (pe_ix (k_ixL K) (pv 0) (pv 6) (fun _ _ => rfl)) (by rfl)))
      (Evl.pss_cut (ps_if (PW.pt (pw_or (pt_val (pv 8)) (pw_or1 (pt_val (pv 4))))) (pss_cons (ps_set (i := 9) sc__law_looked.nd rfl (Or.inl rfl) (pe_op op_cat (pe_lc (own := [("one", 10)]) rfl sc__law_looked.nd (k_pilist K (pe_ix (k_ixL K) (pv 0) (pv 6) (fun _ _ => rfl))) (blkOk_by (own := [("one", 10)]) (by kernel_rfl)) (fun _ _ _ _ _ => (pg_name (i := 10) sc__law_looked.nd rfl (Or.inl rfl))) (fun _ _ _ _ _ => pts_one (pt_cmpR op_ne (pv 10) (pv 7) (nomark _))) (fun _ _ _ _ _ => (pv 10))) (pe_lst (pa_cons (pv 7) pa_nil))))
      (pss_one (ps_asg (pe_slice (k_slL K) (pv 9) (po_some (pe_callB (call_max2 rfl) (by rfl) T.z_max boot_max (pa_cons (pe_int) (pa_cons (pe_op op_sub (pe_callB (k_len K) (by rfl) T.z_len boot_len (pa_cons (pv 9) pa_nil)) (pv 1)) pa_nil)))) po_none) (pg_sub (pv 0) (pv 6) set_list)))) pss_nil)
      (pss_one (ps_ret (pv 8))))))), ?_⟩
  obtain ⟨s1, w1, l1, a1, c1, rfl, N, S, rs, ways, line, n, c, rfl, rfl, rfl, rfl, rfl, hN, hS, l0, l8, w0, w4, hQ⟩ := h
  walk_at "rd"
  refine r_I ⟨l0, by omega⟩ ?_
  generalize n / line = m at hQ ⊢
  walk_at "rd"
  obtain ⟨ps, p, hSS, hps, hp, hH, npS, hsm, hlt⟩ := hS.row m
  refine r_lenL (SqL.of hSS) ?_
  have hl : 0 < rs.length := List.length_pos_iff.mpr hS.pos
  refine r_I (by rw [List.length_map, hps]; omega) ?_
  have eix : m % (((ps.map V.ref).length : Nat) : Int) = ((rowIx rs m : Nat) : Int) := by
    rw [List.length_map, hps]
    unfold rowIx
    have h1 := Int.emod_nonneg m (b := (rs.length : Int)) (by omega)
    omega
  rw [eix]
  walk_at "rd"
  refine r_I (.inr ⟨by omega, by omega⟩) ?_
  generalize m * line = first at hQ ⊢
  walk_at "rd"
  refine ⟨by show 2 ≤ sizeLine; decide, fun t nt => ?_⟩
  generalize eH1 : upd H t _ = H1
  obtain ⟨s1, ht⟩ := of_upd eH1 nt
  refine g_tup (SqT.of ht) rfl ?_
  walk_at "rd"
  have hat : atI (ps.map V.ref) ((rowIx rs m : Nat) : Int) = some (V.ref p) := atI_nat (by rw [List.getElem?_map, hp]; rfl)
  refine r_ixL (SqL.of (s1 _ _ hSS)) hat ?_
  refine r_inL (SqL.of (s1 _ _ hH)) rfl (flat_ints _) ?_
  rw [if_neg Bool.false_ne_true, inV_ints]
  walk_at "rd"
  refine r_cut (fun σ' H' => σ'[8]? = some (some (.bl (lookedM ways rs m first c).1)) ∧ ExB [S] H H' ∧ SetsAt N H' S (lookedM ways rs m first c).2) ?_ ?_
  · walk_at "rdo"
    refine r_orB ((rowM rs m).contains first) c (fun R k => by walk_at "rd"; exact k) (fun _ R k => by walk_at "rd"; exact k) ?_
    cases hb : ((rowM rs m).contains first || c) with
    | false =>
      have el : lookedM ways rs m first c = ((rowM rs m).contains first, rs) := by
        unfold lookedM
        rw [if_neg (by rw [hb]; exact Bool.false_ne_true)]
      rw [el]
      refine iteF ?_
      walk_at "rd"
      exact ⟨rfl, Same.exB s1, hS.mono (Same.exB (B := []) s1) (by simp) (by simp)⟩
    | true =>
      have el : lookedM ways rs m first c = ((rowM rs m).contains first, rs.set (rowIx rs m) ((takeM (rowM rs m) first).drop (((takeM (rowM rs m) first).length : Int) - ways).toNat)) := by
        unfold lookedM
        rw [if_pos hb]
      rw [el]
      refine iteT ?_
      walk_at "rd"
      refine r_ixL (SqL.of (s1 _ _ hSS)) hat ?_
      have hH1 := s1 _ _ hH
      refine n_lcL (SqL.of hH1) (fun D i acc H2 => Same H1 H2 ∧ acc = (((rowM rs m).take i).filter (fun z => !decide (V.int z = V.int first))).map V.int) (fun D H2 nD s2 e2 => ⟨s2, by simp⟩) (fun D i acc H2 j => j.1.seq (SqL.of hH1)) ?_ ?_
      · rintro D i x acc H2 nD hi hD ⟨s2, rfl⟩
        rw [List.getElem?_map] at hi
        obtain ⟨z, hz, rfl⟩ := Option.map_eq_some_iff.mp hi
        walk_at "rd"
        refine ⟨rfl, ?_⟩
        walk_at "rd"
        refine r_ne rfl ?_
        walk_at "rd"
        have htk := filter_take_succ (f := fun z => !decide (V.int z = V.int first)) hz
        cases hf : decide (V.int z = V.int first) with
        | true =>
          refine iteF ?_
          refine ⟨_, hD, s2, ?_⟩
          simp only [hf] at htk
          rw [htk]
          simp
        | false =>
          refine iteT ?_
          walk_at "rd"
          refine lc_put hD ?_ fun H5 x5 e5 => ⟨fun b u e => x5.keep b u (fun q => ne_of_none e nD (List.mem_singleton.mp q)) (s2 b u e), ?_⟩
          · rw [List.length_map]
            refine lt_line (Nat.le_trans (List.length_filter_le _ _) ?_)
            rw [List.length_take]
            omega
          · simp only [hf] at htk
            rw [htk]
            simp
      · rintro D acc H2 nD hD ⟨s2, rfl⟩
        rw [List.length_map, List.take_length] at hD
        walk_at "rd"
        refine ⟨by show 1 ≤ sizeLine; decide, fun q nq => ?_⟩
        generalize eH3 : upd H2 q _ = H3
        obtain ⟨s3, hq⟩ := of_upd eH3 nq
        have hfl : ((rowM rs m).filter (fun z => !decide (V.int z = V.int first))).length ≤ 4 := Nat.le_trans (List.length_filter_le _ _) hsm
        refine r_cat (s3 _ _ hD) hq (by rw [List.length_map]; exact le_line (by rw [List.length_singleton]; omega)) fun r H4 nr s4 h4 => ?_
        have h4' : H4 r = some (.lst ((takeM (rowM rs m) first).map V.int)) := by
          rw [h4]
          unfold takeM
          rw [List.map_append]
          rfl
        walk_at "rd"
        refine r_lenL (SqL.of h4') ?_
        walk_at "rd"
        have hk : (if ((((takeM (rowM rs m) first).map V.int).length : Nat) : Int) - ways > 0 then ((((takeM (rowM rs m) first).map V.int).length : Nat) : Int) - ways else 0) = (((((takeM (rowM rs m) first).length : Nat) : Int) - ways).toNat : Int) := by
          rw [List.length_map]
          split <;> omega
        rw [hk]
        refine r_slL (SqL.of h4') fun u H5 nu s5 h5 => ?_
        rw [cutV_from, ← List.map_drop] at h5
        walk_at "rd"
        have s05 : Same H H5 := fun b o e => s5 _ _ (s4 _ _ (s3 _ _ (s2 _ _ (s1 _ _ e))))
        refine r_setL (s05 _ _ hSS) (by rw [List.length_map, hps]; exact hlt) fun H6 x6 h6 => ?_
        have nuS : u ≠ S := fun z => by
          rw [z] at nu
          have := s4 _ _ (s3 _ _ (s2 _ _ (s1 _ _ hSS)))
          rw [nu] at this
          cases this
        have s04 : Same H H4 := fun b o e => s4 _ _ (s3 _ _ (s2 _ _ (s1 _ _ e)))
        have nuN : u ∉ N := fun z => hN u z (Same.free s04 nu)
        refine ⟨rfl, (Same.exB s05).trans x6, hS.put hSS (fun a o na e => x6.keep _ _ (ne1 na) (s05 _ _ e)) h6 (x6.keep _ _ (ne1 nuS) h5) nuS nuN ?_⟩
        rw [List.length_drop]
        have : (takeM (rowM rs m) first).length ≤ 5 := by
          unfold takeM
          rw [List.length_append, List.length_singleton]
          omega
        omega
  · rintro σ' H' ⟨e8, x, hS'⟩
    walk_at "rd"
    exact r_var e8 (hQ H' x hS')
/-- what the law's rows show -/
def shownM (rs : List (List Int)) : PyData := .tuple (rs.map fun r => .tuple (r.map .int))
abbrev sp__law_shown (K : PySem.W.Frag) : Sp := Sp1 fun s H Q _ => ∃ (N : List Addr) (S : Addr) (rs : List (List Int)), s = .ref S ∧ SetsAt N H S rs ∧ rs.length ≤ 16 ∧ ∀ v H', Same H H' → Fz H' v (shownM rs) → Q v H'
theorem ok__law_shown {P : Program} {w : World} {K : PySem.W.Frag} {mg : Str → Option Value} {base : Heap} {A : Adr} (T : Txt K mg A) : FnOk P w K mg base CX0 1 A.f__law_shown A.d__law_shown ["sets"] (sp__law_shown K) := by
  refine T.F__law_shown.ok sc__law_shown (len1 _) (fun cdv AA outer s H vs Q E hr h => ?_)
  refine ⟨_, (pss_one (ps_ret (pe_callTy (k_tupleOf K) (by rfl) T.z_tuple boot_tuple (pa_cons (pe_lc (own := [("row", 1)]) rfl sc__law_shown.nd (k_pilist K (pv 0)) (blkOk_by (own := [("row", 1)]) (by kernel_rfl)) (fun _ _ _ _ _ => (pg_name (i := 1) sc__law_shown.nd rfl (Or.inl rfl))) (fun _ _ _ _ _ => pts_nil) (fun _ _ _ _ _ => (pe_callTy (k_tupleOf K) (by rfl) T.z_tuple boot_tuple (pa_cons (pv 1) pa_nil)))) pa_nil)))), ?_⟩
  obtain ⟨s1, rfl, N, S, rs, rfl, hS, h16, hQ⟩ := h
  obtain ⟨ps, hSS, hps, hrow⟩ := hS.ex
  walk_at "rd"
  refine n_lcL (SqL.of hSS) (fun D i acc H1 => Same H H1 ∧ FzAll H1 acc ((rs.take i).map fun r => .tuple (r.map .int))) (fun D H1 n1 s1 e1 => ⟨s1, by simpa using FzAll.nil⟩) (fun D i acc H1 j => j.1.seq (SqL.of hSS)) ?_ ?_
  · rintro D i x acc H1 nD hi hD ⟨s1, fz⟩
    rw [List.getElem?_map] at hi
    obtain ⟨a, ha, rfl⟩ := Option.map_eq_some_iff.mp hi
    have hlt : i < rs.length := by
      have := (List.getElem?_eq_some_iff.mp ha).1
      omega
    have hr : rs[i]? = some rs[i] := List.getElem?_eq_getElem hlt
    have hH := s1 _ _ (hrow i a _ ha hr).1
    generalize rs[i] = r at hr hH
    have hacc : acc.length = i := by
      rw [FzAll.length fz, List.length_map, List.length_take]
      omega
    walk_at "rd"
    refine ⟨rfl, ?_⟩
    walk_at "rd"
    refine r_tupleL (SqL.of hH) fun l H3 nl s3 h3 => ?_
    refine lc_put (s3 _ _ hD) (by rw [hacc]; exact lt_line (by omega)) fun H5 x5 e5 => ?_
    refine ⟨fun b u e => x5.keep b u (fun q => ne_of_none e nD (List.mem_singleton.mp q)) (s3 _ _ (s1 _ _ e)), ?_⟩
    rw [take_succ_of hr, List.map_append]
    refine FzAll.append (FzAll.mono (fun b xs e => x5.tups b xs (s3 _ _ e)) fz) (.cons (.tup (x5.tups _ _ h3) ?_) .nil)
    exact FzAll.ints _
  · rintro D acc H1 nD hD ⟨s1, fz⟩
    rw [List.length_map, hps, List.take_length] at fz
    walk_at "rd"
    refine r_tupleL (SqL.of hD) fun l H3 nl s3 h3 => ?_
    exact hQ _ H3 (s1.trans s3) (.tup h3 (FzAll.mono (fun b xs e => s3 _ _ e) fz))
end K03
local macro_rules | `(tactic| walk_at "rdo1") => `(tactic| first
  | with_reducible refine RX.r_seq ?_ | with_reducible refine RX.r_asg ?_ | with_reducible refine RX.r_ret ?_ | with_reducible refine RX.r_drop ?_ | with_reducible refine RX.r_ifS ?_ | with_reducible refine RX.r_next ?_
  | with_reducible refine RX.r_op ?_ | with_reducible refine RX.r_un ?_ | ((with_reducible refine RX.r_var (v := ?v) ?hv ?_); (case hv => exact rfl)) | with_reducible refine RX.r_c ?_
  | with_reducible refine RX.r_I0 ?_ | with_reducible refine RX.r_U ?_ | with_reducible refine RX.r_test ?_ | with_reducible refine RX.r_tB ?_ | with_reducible refine RX.r_bl ?_ | with_reducible refine RX.r_not ?_
  | with_reducible refine RX.r_andV ?_ | with_reducible refine RX.r_orV ?_ | with_reducible refine RX.r_notV ?_ | with_reducible refine RX.r_if ?_
  | with_reducible refine RX.r_gName ?_ | with_reducible refine RX.r_nil ?_ | with_reducible refine RX.r_cons ?_ | with_reducible refine RX.r_CB ?_ | with_reducible refine RX.r_call ?_ | with_reducible refine RX.r_chain ?_
  | with_reducible refine RX.r_tup ?_ | with_reducible refine RX.r_lst ?_ | with_reducible refine RX.r_fld ?_ | with_reducible refine RX.r_meth ?_ | with_reducible refine RX.r_make ?_ | with_reducible refine RX.r_BM ?_ | with_reducible refine RX.r_BM0 ?_
  | with_reducible refine RX.r_for ?_ | with_reducible refine RX.r_delS ?_ | with_reducible refine RX.n_int1 ?_ | with_reducible refine RX.n_1 ?_ | with_reducible refine RX.n_2 ?_ | with_reducible refine RX.n_rng1 ?_ | with_reducible refine RX.r_lc ?_ | with_reducible refine RX.r_iL ?_ | with_reducible refine RX.r_iT ?_ | with_reducible refine RX.r_yes ?_ | with_reducible refine RX.r_sl ?_ | with_reducible refine RX.r_part ?_ | with_reducible refine RX.r_nopart ?_ | with_reducible refine RX.r_par ?_ | with_reducible refine RX.r_par3 ?_ | with_reducible refine RX.n_par ?_ | with_reducible refine RX.n_par3 ?_ | with_reducible refine RX.r_truth ?_ | with_reducible refine RX.r_enum ?_ | with_reducible refine RX.n_part ?_ | with_reducible refine RX.n_andrfl ?_ | with_reducible refine RX.r_tlr ?_ | with_reducible refine RX.g_cons ?_ | with_reducible refine RX.g_nil ?_ | with_reducible refine RX.g_fld ?_ | with_reducible refine RX.g_sub ?_
  | with_reducible refine RX.n_sp0 ?_ | with_reducible refine RX.n_sp1 ?_ | with_reducible refine RX.n_sp2 ?_ | with_reducible refine RX.n_sp3 ?_ | with_reducible refine RX.n_sp4 ?_ | with_reducible refine RX.n_sp5 ?_ | with_reducible refine RX.n_sp6 ?_ | with_reducible refine RX.n_sm1 ?_ | with_reducible refine RX.n_sm2 ?_ | with_reducible refine RX.n_sm3 ?_ | with_reducible refine RX.n_sm4 ?_ | with_reducible refine RX.n_sm5 ?_ | with_reducible refine RX.n_sm6 ?_
  | with_reducible refine L2.iteT ?_ | with_reducible refine L2.iteF ?_)
local macro_rules | `(tactic| walk_at "rd1") => `(tactic| first | walk_at "rdo1" | with_reducible refine RX.r_and ?_ | with_reducible refine RX.r_or ?_)
local macro_rules | `(tactic| walk_at "rd") => `(tactic| repeat walk_at "rd1")
local macro_rules | `(tactic| walk_at "rdo") => `(tactic| repeat walk_at "rdo1")
local macro_rules | `(tactic| walk_at "lk") => `(tactic| repeat (first | with_reducible exact RX.lk_hit | (refine Eq.trans (RX.lk_miss (by decide +kernel)) ?_) | exact rfl))
local macro_rules | `(tactic| walk_at "pf") => `(tactic| repeat (first | with_reducible exact RX.put_hit | (refine Eq.trans (RX.put_miss (by decide +kernel)) (congrArg _ ?_)) | exact rfl))

namespace K03
open PySem PySem.Spec PyProof.Rows L2 RX
abbrev sp__law_address (K : PySem.W.Frag) : Sp := Sp3 fun d s la H Q _ => ∃ (l t a : Addr) (ns : List Int) (S W L : Int), d = .ref l ∧ s = .ref t ∧ la = .ref a ∧ Drw H l ∧ H t = some (.tup [.int S, .int W, .int L]) ∧ H a = some (.lst (ns.map V.int)) ∧ a ≠ l ∧ 0 ≤ S ∧ S ≤ 16 ∧ 0 ≤ L ∧ L ≤ 8 ∧
  ∀ n H', 0 ≤ n → n ≤ 4095 → ExB [l] H H' → Drw H' l → Q (.int n) H'
theorem mem_ints {ns : List Int} {v : V} (h : v ∈ ns.map V.int) : ∃ n, n ∈ ns ∧ v = .int n := by
  obtain ⟨n, h1, h2⟩ := List.mem_map.mp h
  exact ⟨n, h1, h2.symm⟩
theorem ok__law_address {P : Program} {w : World} {K : PySem.W.Frag} {mg : Str → Option Value} {base : Heap} {A : Adr} (T : Txt K mg A) : FnOk P w K mg base CX0 3 A.f__law_address A.d__law_address ["draws", "sizes", "lately"] (sp__law_address K) := by
  refine T.F__law_address.ok sc__law_address (len3 _) (fun cdv AA outer s H vs Q E hr h => ?_)
  refine ⟨_, (pss_cons (ps_asg (pv 1) (k_gtup K rfl (pgs_cons (pg_name (i := 3) sc__law_address.nd rfl (Or.inl rfl)) (pgs_cons (pg_name (i := 4) sc__law_address.nd rfl (Or.inl rfl)) (pgs_cons (pg_name (i := 5) sc__law_address.nd rfl (Or.inl rfl)) pgs_nil)))))
      (Evl.pss_cut (ps_if (PW.pt (pw_and (pt_cmpR (k_neD K hr.units) (pv 2) (pe_lst pa_nil) (nomark _)) (pw_and1 (pt_cmpR op_gt (pe_call (ok__law_take T) (hr.mono (by decide)) rfl T.g__law_take T.F__law_take.kp T.b__law_take .nil pass0 (pa_cons (pv 0) (pa_cons (pe_int) pa_nil))) (pe_int) (nomark _))))) (pss_cons (ps_set (i := 6) sc__law_address.nd rfl (Or.inl rfl) (pe_op op_add (pe_call (ok__law_pick T) (hr.mono (by decide)) rfl T.g__law_pick T.F__law_pick.kp T.b__law_pick .nil pass0 (pa_cons (pv 0) (pa_cons (pv 2) pa_nil))) (pe_call (ok__law_pick T) (hr.mono (by decide)) rfl T.g__law_pick T.F__law_pick.kp T.b__law_pick .nil pass0 (pa_cons (pv 0) (pa_cons (pe_lst (pa_cons (pe_int) (pa_cons (pe_int) (pa_cons (pe_int) (pa_cons (pe_un un_neg (pe_int)) (pa_cons (pv 5) (pa_cons (pe_op op_mul (pv 5) (pv 3)) (pa_cons (pe_op op_mul (pe_un un_neg (pv 5)) (pv 3)) (pa_cons (pe_op op_mul (pe_op op_mul (pe_int) (pv 5)) (pv 3)) pa_nil))))))))) pa_nil)))))
      (pss_one (ps_ret (pe_callB (call_max2 rfl) (by rfl) T.z_max boot_max (pa_cons (pe_int) (pa_cons (pe_callB (call_min2 rfl) (by rfl) T.z_min boot_min (pa_cons (pe_int) (pa_cons (pv 6) pa_nil))) pa_nil)))))) pss_nil)
      (pss_one (ps_ret (pe_call (ok__law_pick T) (hr.mono (by decide)) rfl T.g__law_pick T.F__law_pick.kp T.b__law_pick .nil pass0 (pa_cons (pv 0) (pa_cons (pe_lst (pa_cons (pe_int) (pa_cons (pe_int) (pa_cons (pe_int) (pa_cons (pe_int) (pa_cons (pe_call (ok__law_take T) (hr.mono (by decide)) rfl T.g__law_take T.F__law_take.kp T.b__law_take .nil pass0 (pa_cons (pv 0) (pa_cons (pe_int) pa_nil))) pa_nil)))))) pa_nil))))))), ?_⟩
  obtain ⟨d, s1, la, rfl, l, t, a, ns, S, W, L, rfl, rfl, rfl, hD, ht, ha, hal, S0, S16, L0, L8, hQ⟩ := h
  walk_at "rd"
  refine g_tup (SqT.of ht) rfl ?_
  walk_at "rd"
  refine r_cut (fun σ' H' => σ'[0]? = some (some (.ref l)) ∧ ExB [l] H H' ∧ Drw H' l) ?_ ?_
  · walk_at "rdo"
    refine r_and ?_
    walk_at "rdo"
    refine ⟨Nat.zero_le _, fun e ne => ?_⟩
    generalize eH1 : upd H e _ = H1
    obtain ⟨s1, he⟩ := of_upd eH1 ne
    have ha1 := s1 _ _ ha
    refine r_neD (dp_listI (SqL.of ha1)) (dp_nil he) (shaped_ints _) (by decide) ?_
    walk_at "rd"
    cases hb : !PyData.eqv (.list (ns.map PyData.int)) (.list []) with
    | false =>
      refine iteF ?_
      walk_at "rd"
      exact ⟨rfl, Same.exB s1, hD.same s1⟩
    | true =>
      have hns : ns ≠ [] := fun z => by
        subst z
        revert hb
        decide
      refine iteT ?_
      walk_at "rd"
      refine ⟨l, 3, rfl, rfl, by decide, hD.same s1, fun r H2 r0 r1 x2 d2 => ?_⟩
      walk_at "rd"
      refine ite2 (fun _ => ?_) (fun _ => ?_)
      · walk_at "rd"
        have ha2 := x2.keep _ _ (ne1 hal) ha1
        refine ⟨l, a, _, rfl, rfl, SqL.of ha2, hal, fun z => hns (List.map_eq_nil_iff.mp z), d2, fun v H3 hv x3 d3 => ?_⟩
        obtain ⟨n, hn, rfl⟩ := mem_ints hv
        walk_at "rd"
        refine r_I (.inr ⟨by omega, by omega⟩) ?_
        walk_at "rd"
        refine r_I (.inr ⟨by omega, by omega⟩) ?_
        walk_at "rd"
        refine r_I (.inr ⟨by omega, by omega⟩) ?_
        walk_at "rd"
        refine r_I (.inr ⟨by omega, by omega⟩) ?_
        generalize 2 * L * S = z2
        generalize -(L) * S = z1
        generalize L * S = z0
        walk_at "rd"
        refine ⟨by show 8 ≤ sizeLine; decide, fun p np => ?_⟩
        generalize eH4 : upd H3 p _ = H4
        obtain ⟨s4, hp⟩ := of_upd eH4 np
        walk_at "rd"
        have npl : p ≠ l := fun z => by
          obtain ⟨ds, q⟩ := d3
          rw [z, q] at np
          cases np
        refine ⟨l, p, _, rfl, rfl, SqL.of hp, npl, by simp, d3.same s4, fun v H5 hv x5 d5 => ?_⟩
        obtain ⟨m, rfl⟩ : ∃ m : Int, v = .int m := by
          simp only [List.mem_cons, List.not_mem_nil, or_false] at hv
          rcases hv with h | h | h | h | h | h | h | h <;> exact ⟨_, h⟩
        walk_at "rd"
        refine hQ _ H5 ?_ ?_ ((((Same.exB s1).trans x2).trans x3).trans ((Same.exB s4).trans x5)) d5
        · (repeat' split) <;> omega
        · (repeat' split) <;> omega
      · walk_at "rd"
        exact ⟨rfl, (Same.exB s1).trans x2, d2⟩
  · rintro σ' H1 ⟨e0, x1, d1⟩
    walk_at "rd"
    refine r_var e0 ?_
    walk_at "rd"
    refine r_var e0 ?_
    walk_at "rd"
    refine ⟨l, 4096, rfl, rfl, by decide, d1, fun r H2 r0 r1 x2 d2 => ?_⟩
    walk_at "rd"
    refine ⟨by show 5 ≤ sizeLine; decide, fun p np => ?_⟩
    generalize eH4 : upd H2 p _ = H3
    obtain ⟨s3, hp⟩ := of_upd eH4 np
    walk_at "rd"
    have npl : p ≠ l := fun z => by
      obtain ⟨ds, q⟩ := d2
      rw [z, q] at np
      cases np
    refine ⟨l, p, _, rfl, rfl, SqL.of hp, npl, by simp, d2.same s3, fun v H5 hv x5 d5 => ?_⟩
    obtain ⟨m, rfl, m0, m1⟩ : ∃ m : Int, v = .int m ∧ 0 ≤ m ∧ m ≤ 4095 := by
      simp only [List.mem_cons, List.not_mem_nil, or_false] at hv
      rcases hv with h | h | h | h | h
      · exact ⟨_, h, by omega, by omega⟩
      · exact ⟨_, h, by omega, by omega⟩
      · exact ⟨_, h, by omega, by omega⟩
      · exact ⟨_, h, by omega, by omega⟩
      · exact ⟨_, h, by omega, by omega⟩
    exact hQ m H5 m0 m1 ((x1.trans x2).trans ((Same.exB s3).trans x5)) d5
end K03
local macro_rules | `(tactic| walk_at "rdo1") => `(tactic| first
  | with_reducible refine RX.r_seq ?_ | with_reducible refine RX.r_asg ?_ | with_reducible refine RX.r_ret ?_ | with_reducible refine RX.r_drop ?_ | with_reducible refine RX.r_ifS ?_ | with_reducible refine RX.r_next ?_
  | with_reducible refine RX.r_op ?_ | with_reducible refine RX.r_un ?_ | ((with_reducible refine RX.r_var (v := ?v) ?hv ?_); (case hv => exact rfl)) | with_reducible refine RX.r_c ?_
  | with_reducible refine RX.r_I0 ?_ | with_reducible refine RX.r_U ?_ | with_reducible refine RX.r_test ?_ | with_reducible refine RX.r_tB ?_ | with_reducible refine RX.r_bl ?_ | with_reducible refine RX.r_not ?_
  | with_reducible refine RX.r_andV ?_ | with_reducible refine RX.r_orV ?_ | with_reducible refine RX.r_notV ?_ | with_reducible refine RX.r_if ?_
  | with_reducible refine RX.r_gName ?_ | with_reducible refine RX.r_nil ?_ | with_reducible refine RX.r_cons ?_ | with_reducible refine RX.r_CB ?_ | with_reducible refine RX.r_call ?_ | with_reducible refine RX.r_chain ?_
  | with_reducible refine RX.r_tup ?_ | with_reducible refine RX.r_lst ?_ | with_reducible refine RX.r_fld ?_ | with_reducible refine RX.r_meth ?_ | with_reducible refine RX.r_make ?_ | with_reducible refine RX.r_BM ?_ | with_reducible refine RX.r_BM0 ?_
  | with_reducible refine RX.r_for ?_ | with_reducible refine RX.r_delS ?_ | with_reducible refine RX.n_int1 ?_ | with_reducible refine RX.n_1 ?_ | with_reducible refine RX.n_2 ?_ | with_reducible refine RX.n_rng1 ?_ | with_reducible refine RX.r_lc ?_ | with_reducible refine RX.r_iL ?_ | with_reducible refine RX.r_iT ?_ | with_reducible refine RX.r_yes ?_ | with_reducible refine RX.r_sl ?_ | with_reducible refine RX.r_part ?_ | with_reducible refine RX.r_nopart ?_ | with_reducible refine RX.r_par ?_ | with_reducible refine RX.r_par3 ?_ | with_reducible refine RX.n_par ?_ | with_reducible refine RX.n_par3 ?_ | with_reducible refine RX.r_truth ?_ | with_reducible refine RX.r_enum ?_ | with_reducible refine RX.n_part ?_ | with_reducible refine RX.n_andrfl ?_ | with_reducible refine RX.r_tlr ?_ | with_reducible refine RX.g_cons ?_ | with_reducible refine RX.g_nil ?_ | with_reducible refine RX.g_fld ?_ | with_reducible refine RX.g_sub ?_
  | with_reducible refine RX.n_sp0 ?_ | with_reducible refine RX.n_sp1 ?_ | with_reducible refine RX.n_sp2 ?_ | with_reducible refine RX.n_sp3 ?_ | with_reducible refine RX.n_sp4 ?_ | with_reducible refine RX.n_sp5 ?_ | with_reducible refine RX.n_sp6 ?_ | with_reducible refine RX.n_sm1 ?_ | with_reducible refine RX.n_sm2 ?_ | with_reducible refine RX.n_sm3 ?_ | with_reducible refine RX.n_sm4 ?_ | with_reducible refine RX.n_sm5 ?_ | with_reducible refine RX.n_sm6 ?_
  | with_reducible refine L2.iteT ?_ | with_reducible refine L2.iteF ?_)
local macro_rules | `(tactic| walk_at "rd1") => `(tactic| first | walk_at "rdo1" | with_reducible refine RX.r_and ?_ | with_reducible refine RX.r_or ?_)
local macro_rules | `(tactic| walk_at "rd") => `(tactic| repeat walk_at "rd1")
local macro_rules | `(tactic| walk_at "rdo") => `(tactic| repeat walk_at "rdo1")
local macro_rules | `(tactic| walk_at "lk") => `(tactic| repeat (first | with_reducible exact RX.lk_hit | (refine Eq.trans (RX.lk_miss (by decide +kernel)) ?_) | exact rfl))
local macro_rules | `(tactic| walk_at "pf") => `(tactic| repeat (first | with_reducible exact RX.put_hit | (refine Eq.trans (RX.put_miss (by decide +kernel)) (congrArg _ ?_)) | exact rfl))

namespace K03
open PySem PySem.Spec PyProof.Rows L2 RX
/-! ### the plain law: one row -/
/-- r is the end of w, as long as the ways let it be -/
def Good (wi : Nat) (w r : List Int) : Prop := w.Nodup ∧ w.length ≤ 4 ∧ r = w.drop (w.length - wi)
def lkR (k : Nat) (r : List Int) (n : Int) : List Int := if r.contains n = true then r.erase n ++ [n] else (r ++ [n]).drop (r.length + 1 - k)
def tcR (r : List Int) (n : Int) : List Int := if r.contains n = true then r.erase n ++ [n] else r
theorem good_look {wi : Nat} {w r : List Int} (h1 : 1 ≤ wi) (h4 : wi ≤ 4) (h : Good wi w r) (n : Int) : Good wi (lkR 4 w n) (lkR wi r n) := by
  obtain ⟨hn, hl, rfl⟩ := h
  have hw : wi = 1 ∨ wi = 2 ∨ wi = 3 ∨ wi = 4 := by omega
  rcases w with _ | ⟨a, _ | ⟨b, _ | ⟨c, _ | ⟨d, _ | ⟨e, t⟩⟩⟩⟩⟩
  · rcases hw with rfl | rfl | rfl | rfl <;> simp [Good, lkR]
  · by_cases ha : n = a
    · subst ha
      rcases hw with rfl | rfl | rfl | rfl <;> simp [Good, lkR]
    · have ha' : ¬ a = n := fun z => ha z.symm
      rcases hw with rfl | rfl | rfl | rfl <;> simp [Good, lkR, ha, ha']
  · have ab : a ≠ b := by simp at hn; exact hn
    have ba := ab.symm
    by_cases ha : n = a
    · subst ha
      rcases hw with rfl | rfl | rfl | rfl <;> simp [Good, lkR, ab, ba]
    · have ha' : ¬ a = n := fun z => ha z.symm
      by_cases hb : n = b
      · subst hb
        rcases hw with rfl | rfl | rfl | rfl <;> simp [Good, lkR, ab, ba, List.erase_cons]
      · have hb' : ¬ b = n := fun z => hb z.symm
        rcases hw with rfl | rfl | rfl | rfl <;> simp [Good, lkR, ab, ba, ha, ha', hb, hb']
  · obtain ⟨⟨ab, ac⟩, bc⟩ : (a ≠ b ∧ a ≠ c) ∧ b ≠ c := by simpa using hn
    have ba := ab.symm
    have ca := ac.symm
    have cb := bc.symm
    by_cases ha : n = a
    · subst ha
      rcases hw with rfl | rfl | rfl | rfl <;> simp [Good, lkR, ab, ba, ac, ca, bc, cb]
    · have ha' : ¬ a = n := fun z => ha z.symm
      by_cases hb : n = b
      · subst hb
        rcases hw with rfl | rfl | rfl | rfl <;> simp [Good, lkR, ab, ba, ac, ca, bc, cb, List.erase_cons]
      · have hb' : ¬ b = n := fun z => hb z.symm
        by_cases hc : n = c
        · subst hc
          rcases hw with rfl | rfl | rfl | rfl <;> simp [Good, lkR, ab, ba, ac, ca, bc, cb, List.erase_cons]
        · have hc' : ¬ c = n := fun z => hc z.symm
          rcases hw with rfl | rfl | rfl | rfl <;> simp [Good, lkR, ab, ba, ac, ca, bc, cb, ha, ha', hb, hb', hc, hc']
  · obtain ⟨⟨ab, ac, ad⟩, ⟨bc, bd⟩, cd⟩ : (a ≠ b ∧ a ≠ c ∧ a ≠ d) ∧ (b ≠ c ∧ b ≠ d) ∧ c ≠ d := by simpa using hn
    have ba := ab.symm
    have ca := ac.symm
    have cb := bc.symm
    have da := ad.symm
    have db := bd.symm
    have dc := cd.symm
    by_cases ha : n = a
    · subst ha
      rcases hw with rfl | rfl | rfl | rfl <;> simp [Good, lkR, ab, ba, ac, ca, bc, cb, ad, da, bd, db, cd, dc]
    · have ha' : ¬ a = n := fun z => ha z.symm
      by_cases hb : n = b
      · subst hb
        rcases hw with rfl | rfl | rfl | rfl <;> simp [Good, lkR, ab, ba, ac, ca, bc, cb, ad, da, bd, db, cd, dc, List.erase_cons]
      · have hb' : ¬ b = n := fun z => hb z.symm
        by_cases hc : n = c
        · subst hc
          rcases hw with rfl | rfl | rfl | rfl <;> simp [Good, lkR, ab, ba, ac, ca, bc, cb, ad, da, bd, db, cd, dc, List.erase_cons]
        · have hc' : ¬ c = n := fun z => hc z.symm
          by_cases hd : n = d
          · subst hd
            rcases hw with rfl | rfl | rfl | rfl <;> simp [Good, lkR, ab, ba, ac, ca, bc, cb, ad, da, bd, db, cd, dc, List.erase_cons]
          · have hd' : ¬ d = n := fun z => hd z.symm
            rcases hw with rfl | rfl | rfl | rfl <;> simp [Good, lkR, ab, ba, ac, ca, bc, cb, ad, da, bd, db, cd, dc, ha, ha', hb, hb', hc, hc', hd, hd']
  · simp at hl
/-! ### the plain law: all rows -/
def mulR (li : Int) (rows : List (List Int)) : List (List Int) := rows.map fun r => r.map (· * li)
def stepM (k : Nat) (rows : List (List Int)) (n : Int) : List (List Int) := rows.set (rowIx rows n) (lkR k (rowM rows n) n)
def hasM (rows : List (List Int)) (n : Int) : Bool := (rowM rows n).contains n
theorem touch_eq (k : Nat) (rows : List (List Int)) (n : Int) : touchM rows n = (hasM rows n, if hasM rows n = true then stepM k rows n else rows) := by
  unfold touchM hasM stepM lkR
  cases h : (rowM rows n).contains n <;> rfl
theorem look_eq {ways : Int} {rows : List (List Int)} {n : Int} (h0 : 1 ≤ ways) : lookM ways rows n = (hasM rows n, stepM ways.toNat rows n) := by
  unfold lookM
  rw [touch_eq ways.toNat]
  unfold hasM stepM lkR
  cases h : (rowM rows n).contains n with
  | true => rfl
  | false =>
    have e : (((rowM rows n).length : Int) + 1 - ways).toNat = (rowM rows n).length + 1 - ways.toNat := by omega
    rw [if_neg Bool.false_ne_true, if_neg Bool.false_ne_true, e]
def GoodAll (wi : Nat) (wrows rows : List (List Int)) : Prop := wrows.length = rows.length ∧ ∀ (i : Nat) (w r : List Int), wrows[i]? = some w → rows[i]? = some r → Good wi w r
theorem rowM_get {rows : List (List Int)} {n : Int} (h : rows ≠ []) : rows[rowIx rows n]? = some (rowM rows n) := by
  have hlt := rowIx_lt (n := n) h
  unfold rowM
  rw [List.getElem?_eq_getElem hlt, List.getD_eq_getElem?_getD, List.getElem?_eq_getElem hlt]
  rfl
theorem goodAll_row {wi : Nat} {wrows rows : List (List Int)} (h : GoodAll wi wrows rows) (hp : rows ≠ []) (n : Int) : rowIx wrows n = rowIx rows n ∧ Good wi (rowM wrows n) (rowM rows n) := by
  have hw : wrows ≠ [] := fun z => hp (List.eq_nil_of_length_eq_zero (by rw [← h.1, z]; rfl))
  have e : rowIx wrows n = rowIx rows n := by
    unfold rowIx
    rw [h.1]
  refine ⟨e, h.2 (rowIx rows n) _ _ ?_ (rowM_get hp)⟩
  rw [← e]
  exact rowM_get hw
theorem goodAll_step {wi : Nat} {wrows rows : List (List Int)} (h1 : 1 ≤ wi) (h4 : wi ≤ 4) (h : GoodAll wi wrows rows) (hp : rows ≠ []) (n : Int) : GoodAll wi (stepM 4 wrows n) (stepM wi rows n) := by
  obtain ⟨e, g⟩ := goodAll_row h hp n
  unfold stepM
  rw [e]
  refine ⟨by rw [List.length_set, List.length_set]; exact h.1, fun i w r hw hr => ?_⟩
  by_cases hi : rowIx rows n = i
  · subst hi
    have hlt := rowIx_lt (n := n) hp
    rw [List.getElem?_set_self (by rw [h.1]; exact hlt)] at hw
    rw [List.getElem?_set_self hlt] at hr
    cases hw
    cases hr
    exact good_look h1 h4 g n
  · rw [List.getElem?_set_ne hi] at hw hr
    exact h.2 i w r hw hr
theorem goodAll_has {wi : Nat} {wrows rows : List (List Int)} (h : GoodAll wi wrows rows) (hp : rows ≠ []) {n : Int} (q : hasM rows n = true) : hasM wrows n = true := by
  obtain ⟨e, g⟩ := goodAll_row h hp n
  unfold hasM at q ⊢
  rw [g.2.2] at q
  have q' : n ∈ (rowM wrows n).drop ((rowM wrows n).length - wi) := by simpa using q
  simpa using List.mem_of_mem_drop q'
theorem good_len {wi : Nat} {w r : List Int} (h : Good wi w r) : r.length ≤ wi ∧ r.Nodup := by
  obtain ⟨h1, _, rfl⟩ := h
  exact ⟨by rw [List.length_drop]; omega, h1.sublist (List.drop_sublist _ _)⟩
theorem law_row {wi : Nat} {r : List Int} {n : Int} (hn : r.Nodup) (hl : r.length ≤ wi) : (r.filter (fun z => !decide (z = n)) ++ [n]).drop ((r.filter (fun z => !decide (z = n)) ++ [n]).length - wi) = lkR wi r n := by
  unfold lkR
  cases h : r.contains n with
  | true =>
    have hm : n ∈ r := by simpa using h
    have e : r.filter (fun z => !decide (z = n)) = r.erase n := by
      rw [List.Nodup.erase_eq_filter hn]
      congr 1
    have hpos : 0 < r.length := List.length_pos_of_mem hm
    rw [e, if_pos rfl, List.length_append, List.length_erase_of_mem hm, List.length_singleton]
    have e0 : r.length - 1 + 1 - wi = 0 := by omega
    rw [e0, List.drop_zero]
  | false =>
    have hm : ¬ n ∈ r := by
      intro q
      rw [show r.contains n = true by simpa using q] at h
      cases h
    have e : r.filter (fun z => !decide (z = n)) = r := List.filter_eq_self.mpr fun z hz => by
      have : z ≠ n := fun q => hm (q ▸ hz)
      simp [this]
    rw [e, if_neg Bool.false_ne_true, List.length_append, List.length_singleton]
theorem rowM_mul (li : Int) (rows : List (List Int)) (n : Int) : rowIx (mulR li rows) n = rowIx rows n ∧ rowM (mulR li rows) n = (rowM rows n).map (· * li) := by
  have e : rowIx (mulR li rows) n = rowIx rows n := by
    unfold rowIx mulR
    rw [List.length_map]
  refine ⟨e, ?_⟩
  unfold rowM
  rw [e]
  unfold mulR
  rw [List.getD_eq_getElem?_getD, List.getD_eq_getElem?_getD, List.getElem?_map]
  cases rows[rowIx rows n]? <;> rfl
theorem mul_has {li : Int} (h0 : 0 < li) (r : List Int) (n : Int) : (r.map (· * li)).contains (n * li) = r.contains n := by
  have inj : ∀ a b : Int, a * li = b * li → a = b := fun a b q => Int.eq_of_mul_eq_mul_right (by omega) q
  rw [Bool.eq_iff_iff]
  simp only [List.contains_iff_mem, List.mem_map]
  exact ⟨fun ⟨a, h, q⟩ => inj _ _ q ▸ h, fun h => ⟨n, h, rfl⟩⟩
theorem take_mul {li : Int} (h0 : 0 < li) (r : List Int) (n : Int) : takeM (r.map (· * li)) (n * li) = (r.filter (fun z => !decide (z = n)) ++ [n]).map (· * li) := by
  unfold takeM
  rw [List.map_append, List.filter_map]
  congr 2
  refine List.filter_congr fun z _ => ?_
  have inj : ∀ a b : Int, a * li = b * li → a = b := fun a b q => Int.eq_of_mul_eq_mul_right (by omega) q
  show (!decide (V.int (z * li) = V.int (n * li))) = _
  congr 1
  exact decide_eq_decide.mpr ⟨fun q => inj _ _ (by injection q), fun q => by rw [q]⟩
theorem looked_eq {li : Int} {wi : Int} {rows : List (List Int)} {n : Int} {come : Bool} (h0 : 0 < li) (w1 : 1 ≤ wi) (hr : (rowM rows n).Nodup) (hlen : (rowM rows n).length ≤ wi.toNat) :
    lookedM wi (mulR li rows) n (n * li) come = (hasM rows n, if (hasM rows n || come) = true then mulR li (stepM wi.toNat rows n) else mulR li rows) := by
  obtain ⟨e1, e2⟩ := rowM_mul li rows n
  unfold lookedM
  rw [e1, e2, mul_has h0, take_mul h0, List.length_map, ← List.map_drop]
  have e3 : ((((rowM rows n).filter (fun z => !decide (z = n)) ++ [n]).length : Int) - wi).toNat = ((rowM rows n).filter (fun z => !decide (z = n)) ++ [n]).length - wi.toNat := by omega
  rw [e3, law_row hr hlen]
  unfold hasM
  cases h : ((rowM rows n).contains n || come) with
  | false => rfl
  | true =>
    rw [if_pos rfl, if_pos rfl]
    unfold stepM mulR
    rw [List.map_set]
theorem lines_shown (li : Int) (rows : List (List Int)) : linesM li rows = shownM (mulR li rows) := by
  unfold linesM shownM mulR
  rw [List.map_map]
  rfl
end K03
local macro_rules | `(tactic| walk_at "rdo1") => `(tactic| first
  | with_reducible refine RX.r_seq ?_ | with_reducible refine RX.r_asg ?_ | with_reducible refine RX.r_ret ?_ | with_reducible refine RX.r_drop ?_ | with_reducible refine RX.r_ifS ?_ | with_reducible refine RX.r_next ?_
  | with_reducible refine RX.r_op ?_ | with_reducible refine RX.r_un ?_ | ((with_reducible refine RX.r_var (v := ?v) ?hv ?_); (case hv => exact rfl)) | with_reducible refine RX.r_c ?_
  | with_reducible refine RX.r_I0 ?_ | with_reducible refine RX.r_U ?_ | with_reducible refine RX.r_test ?_ | with_reducible refine RX.r_tB ?_ | with_reducible refine RX.r_bl ?_ | with_reducible refine RX.r_not ?_
  | with_reducible refine RX.r_andV ?_ | with_reducible refine RX.r_orV ?_ | with_reducible refine RX.r_notV ?_ | with_reducible refine RX.r_if ?_
  | with_reducible refine RX.r_gName ?_ | with_reducible refine RX.r_nil ?_ | with_reducible refine RX.r_cons ?_ | with_reducible refine RX.r_CB ?_ | with_reducible refine RX.r_call ?_ | with_reducible refine RX.r_chain ?_
  | with_reducible refine RX.r_tup ?_ | with_reducible refine RX.r_lst ?_ | with_reducible refine RX.r_fld ?_ | with_reducible refine RX.r_meth ?_ | with_reducible refine RX.r_make ?_ | with_reducible refine RX.r_BM ?_ | with_reducible refine RX.r_BM0 ?_
  | with_reducible refine RX.r_for ?_ | with_reducible refine RX.r_delS ?_ | with_reducible refine RX.n_int1 ?_ | with_reducible refine RX.n_1 ?_ | with_reducible refine RX.n_2 ?_ | with_reducible refine RX.n_rng1 ?_ | with_reducible refine RX.r_lc ?_ | with_reducible refine RX.r_iL ?_ | with_reducible refine RX.r_iT ?_ | with_reducible refine RX.r_yes ?_ | with_reducible refine RX.r_sl ?_ | with_reducible refine RX.r_part ?_ | with_reducible refine RX.r_nopart ?_ | with_reducible refine RX.r_par ?_ | with_reducible refine RX.r_par3 ?_ | with_reducible refine RX.n_par ?_ | with_reducible refine RX.n_par3 ?_ | with_reducible refine RX.r_truth ?_ | with_reducible refine RX.r_enum ?_ | with_reducible refine RX.n_part ?_ | with_reducible refine RX.n_andrfl ?_ | with_reducible refine RX.r_tlr ?_ | with_reducible refine RX.g_cons ?_ | with_reducible refine RX.g_nil ?_ | with_reducible refine RX.g_fld ?_ | with_reducible refine RX.g_sub ?_
  | with_reducible refine RX.n_sp0 ?_ | with_reducible refine RX.n_sp1 ?_ | with_reducible refine RX.n_sp2 ?_ | with_reducible refine RX.n_sp3 ?_ | with_reducible refine RX.n_sp4 ?_ | with_reducible refine RX.n_sp5 ?_ | with_reducible refine RX.n_sp6 ?_ | with_reducible refine RX.n_sm1 ?_ | with_reducible refine RX.n_sm2 ?_ | with_reducible refine RX.n_sm3 ?_ | with_reducible refine RX.n_sm4 ?_ | with_reducible refine RX.n_sm5 ?_ | with_reducible refine RX.n_sm6 ?_
  | with_reducible refine L2.iteT ?_ | with_reducible refine L2.iteF ?_)
local macro_rules | `(tactic| walk_at "rd1") => `(tactic| first | walk_at "rdo1" | with_reducible refine RX.r_and ?_ | with_reducible refine RX.r_or ?_)
local macro_rules | `(tactic| walk_at "rd") => `(tactic| repeat walk_at "rd1")
local macro_rules | `(tactic| walk_at "rdo") => `(tactic| repeat walk_at "rdo1")
local macro_rules | `(tactic| walk_at "lk") => `(tactic| repeat (first | with_reducible exact RX.lk_hit | (refine Eq.trans (RX.lk_miss (by decide +kernel)) ?_) | exact rfl))
local macro_rules | `(tactic| walk_at "pf") => `(tactic| repeat (first | with_reducible exact RX.put_hit | (refine Eq.trans (RX.put_miss (by decide +kernel)) (congrArg _ ?_)) | exact rfl))

namespace K03
open PySem PySem.Spec PyProof.Rows L2 RX
/-! ### all that a course holds -/
def pl (o : CO) : List Addr := o.c :: o.R :: o.fp
def NN (l : Addr) (oc ow oo : CO) : List Addr := l :: (pl oc ++ (pl ow ++ pl oo))
structure Dj (l S : Addr) (oc ow oo : CO) : Prop where
  nS : S ∉ NN l oc ow oo
  lc : l ∉ pl oc
  lw : l ∉ pl ow
  lo : l ∉ pl oo
  cw : ∀ a ∈ pl oc, a ∉ pl ow
  co : ∀ a ∈ pl oc, a ∉ pl oo
  wo : ∀ a ∈ pl ow, a ∉ pl oo
structure Bn (A : Adr) (l S t : Addr) (oc ow oo : CO) (n wi li : Int) (H : Hp) (rows wrows rs : List (List Int)) : Prop where
  drw : Drw H l
  c : CacheAt A H oc rows
  w : CacheAt A H ow wrows
  o : CacheAt A H oo (List.replicate n.toNat [])
  s : SetsAt (NN l oc ow oo) H S rs
  tt : H t = some (.tup [.int n, .int wi, .int li])
theorem CacheAt.out {A : Adr} {H H' : Hp} {o : CO} {rows : List (List Int)} {B : List Addr} (h : CacheAt A H o rows) (x : ExB B H H') (n : ∀ a ∈ pl o, a ∉ B) : CacheAt A H' o rows :=
  h.mono x (n _ (by simp [pl])) (n _ (by simp [pl])) fun a ha => n a (by simp [pl, ha])
section
variable {A : Adr} {l S t : Addr} {oc ow oo : CO} {n wi li : Int} {H H' : Hp} {rows wrows rs : List (List Int)}
theorem Bn.same (b : Bn A l S t oc ow oo n wi li H rows wrows rs) (s : Same H H') : Bn A l S t oc ow oo n wi li H' rows wrows rs :=
  ⟨b.drw.same s, b.c.same s, b.w.same s, b.o.same s, b.s.mono (Same.exB (B := []) s) (by simp) (by simp), s _ _ b.tt⟩
theorem Bn.draw (d : Dj l S oc ow oo) (b : Bn A l S t oc ow oo n wi li H rows wrows rs) (x : ExB [l] H H') (h : Drw H' l) : Bn A l S t oc ow oo n wi li H' rows wrows rs :=
  ⟨h, b.c.out x fun a ha z => d.lc (by rw [← List.mem_singleton.mp z]; exact ha), b.w.out x fun a ha z => d.lw (by rw [← List.mem_singleton.mp z]; exact ha), b.o.out x fun a ha z => d.lo (by rw [← List.mem_singleton.mp z]; exact ha),
    b.s.mono x (fun z => d.nS (by rw [List.mem_singleton.mp z]; simp [NN])) (fun a z => by rw [List.mem_singleton.mp z]; simp [NN]), x.tups _ _ b.tt⟩
theorem Bn.sets {rs' : List (List Int)} (d : Dj l S oc ow oo) (b : Bn A l S t oc ow oo n wi li H rows wrows rs) (x : ExB [S] H H') (h : SetsAt (NN l oc ow oo) H' S rs') : Bn A l S t oc ow oo n wi li H' rows wrows rs' :=
  ⟨b.drw.mono x fun z => d.nS (by rw [← List.mem_singleton.mp z]; simp [NN]), b.c.out x fun a ha z => d.nS (by rw [← List.mem_singleton.mp z]; simp [NN, ha]), b.w.out x fun a ha z => d.nS (by rw [← List.mem_singleton.mp z]; simp [NN, ha]), b.o.out x fun a ha z => d.nS (by rw [← List.mem_singleton.mp z]; simp [NN, ha]), h, x.tups _ _ b.tt⟩
theorem Bn.cache {rows' : List (List Int)} (d : Dj l S oc ow oo) (b : Bn A l S t oc ow oo n wi li H rows wrows rs) (x : ExB oc.fp H H') (h : CacheAt A H' oc rows') : Bn A l S t oc ow oo n wi li H' rows' wrows rs :=
  ⟨b.drw.mono x fun z => d.lc (by simp [pl, z]), h, b.w.out x fun a ha z => d.cw a (by simp [pl, z]) ha, b.o.out x fun a ha z => d.co a (by simp [pl, z]) ha, b.s.mono x (fun z => d.nS (by simp [NN, pl, z])) (fun a z => by simp [NN, pl, z]), x.tups _ _ b.tt⟩
theorem Bn.wide {rows' : List (List Int)} (d : Dj l S oc ow oo) (b : Bn A l S t oc ow oo n wi li H rows wrows rs) (x : ExB ow.fp H H') (h : CacheAt A H' ow rows') : Bn A l S t oc ow oo n wi li H' rows rows' rs :=
  ⟨b.drw.mono x fun z => d.lw (by simp [pl, z]), b.c.out x fun a ha z => d.cw a ha (by simp [pl, z]), h, b.o.out x fun a ha z => d.wo a (by simp [pl, z]) ha, b.s.mono x (fun z => d.nS (by simp [NN, pl, z])) (fun a z => by simp [NN, pl, z]), x.tups _ _ b.tt⟩
theorem CacheAt.all {o : CO} (h : CacheAt A H o rows) : ∀ a ∈ pl o, H a ≠ none := fun a ha e => by
  rcases List.mem_cons.mp ha with q | ha
  · rw [q, h.ins] at e; cases e
  rcases List.mem_cons.mp ha with q | ha
  · rw [q, h.lst] at e; cases e
  obtain ⟨i, hi, rfl⟩ := List.mem_iff_getElem.mp ha
  have hr : i < rows.length := by rw [← h.len]; exact hi
  rw [h.at_ i _ _ (List.getElem?_eq_getElem hi) (List.getElem?_eq_getElem hr)] at e
  cases e
theorem Bn.all (b : Bn A l S t oc ow oo n wi li H rows wrows rs) : ∀ a ∈ NN l oc ow oo, H a ≠ none := fun a ha => by
  rcases List.mem_cons.mp ha with q | ha
  · obtain ⟨ds, e⟩ := b.drw
    rw [q, e]
    intro z
    cases z
  rcases List.mem_append.mp ha with ha | ha
  · exact b.c.all a ha
  rcases List.mem_append.mp ha with ha | ha
  · exact b.w.all a ha
  · exact b.o.all a ha
end
theorem cut_ints (ns : List Int) (lo hi : Option Int) : ∃ ms : List Int, cutV (ns.map V.int) lo hi = ms.map V.int ∧ ms.length ≤ ns.length := by
  unfold cutV
  rw [List.length_map]
  refine ⟨_, by rw [← List.map_drop, ← List.map_take], ?_⟩
  rw [List.length_take, List.length_drop]
  omega
/-- a new cache -/
theorem new_cache {K : PySem.W.Frag} {A : Adr} {H : Hp} {n wv li : Int} {R : Addr → Hp → Prop} (e1 : szs (.int n) = true) (e2 : lns (.int li) = true) (e3 : within (.int wv) 1 4 = true)
    (k : ∀ o H', Same H H' → CacheAt A H' o (List.replicate n.toNat []) → o.ways = wv → o.line = li → (∀ a ∈ pl o, H a = none) → R o.c H') :
    ∀ x dx, H x = none → H dx = none → dx ≠ x → sp_Cache___init__ K A (.ref x :: ([.int n, .int wv, .int li] ++ [])) (upd (upd H dx (.own x)) x (.ins A.C_Cache dx [])) (fun v H2 => v = .non ∧ R x H2) E0 := by
  intro x dx hx hdx hne
  have f1 : ∀ a, upd (upd H dx (.own x)) x (.ins A.C_Cache dx []) a = none → H a = none ∧ a ≠ x := fun a ha => by
    unfold upd at ha
    by_cases q : a = x
    · simp [q] at ha
    · by_cases q2 : a = dx
      · simp [q, q2] at ha
        rw [if_neg hne] at ha
        cases ha
      · simp [q, q2] at ha
        exact ⟨ha, q⟩
  have s1 : ∀ a o, H a = some o → upd (upd H dx (.own x)) x (.ins A.C_Cache dx []) a = some o := fun a o ha => by
    unfold upd
    have q : a ≠ x := fun z => by rw [z, hx] at ha; cases ha
    have q2 : a ≠ dx := fun z => by rw [z, hdx] at ha; cases ha
    simp [q, q2]
    exact ha
  have e0 : upd (upd H dx (.own x)) x (.ins A.C_Cache dx []) x = some (.ins A.C_Cache dx []) := upd_same
  generalize upd (upd H dx (.own x)) x (.ins A.C_Cache dx []) = H1 at f1 s1 e0 ⊢
  refine ⟨.ref x, .int n, .int wv, .int li, rfl, x, dx, "int", "int", "int", rfl, e0, ty_int, by decide, ty_int, by decide, ty_int, by decide, fun z => ?_, fun n' wi' li' q1 q2 q3 _ _ _ H' R' fp x1 hc hR hfp => ?_⟩
  · rw [e1, e2, e3] at z
    cases z
  · cases q1
    cases q2
    cases q3
    refine ⟨rfl, k _ H' (fun a o ha => x1.keep _ _ (fun z => by rw [List.mem_singleton.mp z, hx] at ha; cases ha) (s1 _ _ ha)) hc rfl rfl fun a ha => ?_⟩
    rcases List.mem_cons.mp ha with q | ha
    · rw [q]; exact hx
    rcases List.mem_cons.mp ha with q | ha
    · rw [q]; exact (f1 _ hR).1
    · exact (f1 _ (hfp a ha)).1
abbrev sp__law_is_course_due : Sp := Sp1 fun d H Q _ => ∃ l, d = .ref l ∧ Drw H l ∧ ∀ H', ExB [l] H H' → Drw H' l → Q (.bl true) H'
theorem n_repA {K : PySem.W.Frag} {H : Hp} {Q : VK} {l : Addr} {xs : List V} {k : Int} (h : SqT K H l xs) (hne : xs ≠ []) (h1 : 1 ≤ k) (h2 : k ≤ 1000) (hl : xs.length ≤ 1000) (q : ∀ p H1, Same H H1 → SqT K H1 p (List.replicate k.toNat xs).flatten → Q (.ref p) H1) : rRepA K (.ref l) (.int k) H Q := by
  refine ⟨l, k, xs, rfl, rfl, h, hne, h1, h2, hl, fun e => ?_, fun _ p hp => ?_⟩
  · subst e
    refine q l H (Same.refl _) ?_
    have e1 : (List.replicate (1 : Int).toNat xs).flatten = xs := by simp
    rw [e1]
    exact h
  · exact q p _ (same_new hp) (SqT.of upd_same)
theorem exB_fresh {B C : List Addr} {H H1 H2 : Hp} (x : ExB B H H1) (y : ExB C H1 H2) (f : ∀ b ∈ C, H b = none) : ExB B H H2 :=
  ⟨fun a o n e => y.keep a o (fun z => by rw [f a z] at e; cases e) (x.keep a o n e), fun a xs e => y.tups a xs (x.tups a xs e), fun a e => x.back a (y.back a e)⟩
theorem smallAll_ints : ∀ ns : List Int, smallAll (ns.map PyData.int) = true
  | [] => rfl
  | n :: r => by
    rw [List.map_cons, smallAll, smallAll_ints r]
    rfl
theorem shown_small : ∀ rs : List (List Int), (∀ r ∈ rs, r.length ≤ 100000) → smallAll (rs.map fun r => PyData.tuple (r.map .int)) = true
  | [], _ => rfl
  | r :: rs, h => by
    rw [List.map_cons, smallAll, shown_small rs fun r' hr => h r' (List.mem_cons_of_mem _ hr), Bool.and_true, small, smallAll_ints, Bool.and_true, List.length_map]
    exact decide_eq_true (h r (List.mem_cons_self ..))
theorem shown_depth : ∀ rs : List (List Int), PyData.depthAll (rs.map fun r => PyData.tuple (r.map .int)) ≤ 1
  | [] => Nat.zero_le _
  | r :: rs => by
    have ih := shown_depth rs
    rw [List.map_cons, PyData.depthAll, PyData.depth, depth_ints]
    omega
theorem shownM_ok {rs : List (List Int)} (h : rs.length ≤ 16) (h2 : ∀ r ∈ rs, r.length ≤ 4) : (shownM rs).depth < 7 ∧ small (shownM rs) = true := by
  have e := shown_depth rs
  unfold shownM
  refine ⟨by rw [PyData.depth]; omega, ?_⟩
  rw [small, List.length_map, shown_small rs fun r hr => Nat.le_trans (h2 r hr) (by decide), Bool.and_true]
  exact decide_eq_true (Nat.le_trans h (by decide))
theorem r_ifV {A : TT} {ta tb : TE} {σ : L2.St} {H : Hp} {Q : VK} (c : Bool) (P : V → Hp → Prop) (hA : ∀ R : Bool → Hp → Prop, R c H → A σ H R) (ht : c = true → ∀ R : VK, (∀ v H', P v H' → R v H') → ta σ H R) (hb : c = false → ∀ R : VK, (∀ v H', P v H' → R v H') → tb σ H R) (k : ∀ v H', P v H' → Q v H') : tIf A ta tb σ H Q := by
  refine hA _ ?_
  cases c with
  | true => exact iteT (ht rfl _ k)
  | false => exact iteF (hb rfl _ k)
theorem lk_lines (o : CO) : (cf o).lookup ("lines" : Str) = none := by
  unfold cf
  walk_at "lk"
theorem lk_look (o : CO) : (cf o).lookup ("look" : Str) = none := by
  unfold cf
  walk_at "lk"
theorem lk_touch (o : CO) : (cf o).lookup ("touch" : Str) = none := by
  unfold cf
  walk_at "lk"
theorem mulR_len (li : Int) (rows : List (List Int)) : (mulR li rows).length = rows.length := by
  unfold mulR
  rw [List.length_map]
local macro_rules | `(tactic| walk_at "rdn") => `(tactic| repeat (first | with_reducible refine RX.r_seq ?_ | with_reducible refine RX.r_asg ?_ | with_reducible refine RX.r_next ?_ | with_reducible refine RX.r_gName ?_))
theorem r_slA {K : PySem.W.Frag} {H : Hp} {Q : VK} {a : Addr} {xs : List V} {lo hi : Option Int} (h : SqT K H a xs) (k : ∀ p H1, Same H H1 → SqT K H1 p (cutV xs lo hi) → Q (.ref p) H1) : rSlA K (.ref a) lo hi H Q := by
  refine ⟨a, xs, rfl, h, fun e => ?_, fun _ p hp => k p _ (same_new hp) (SqT.of upd_same)⟩
  refine k a H (Same.refl _) ?_
  have e1 : cutV xs lo hi = xs := by
    unfold cutV
    rw [e.1, e.2, List.drop_zero, Nat.sub_zero, List.take_length]
  rw [e1]
  exact h
theorem fz_ints {H : Hp} : ∀ {xs : List V} {ns : List Int}, FzAll H xs (ns.map PyData.int) → xs = ns.map V.int
  | [], [], _ => rfl
  | _, n :: ns, .cons (.int _) r => by rw [fz_ints r]; rfl
theorem new_list {H : Hp} {p l : Addr} (np : H p = none) (D : Drw H l) : p ≠ l := fun z => by
  obtain ⟨ds, q⟩ := D
  rw [z, q] at np
  cases np
theorem ok__law_is_course_due {P : Program} {w : World} {K : PySem.W.Frag} {mg : Str → Option Value} {base : Heap} {A : Adr} (T : Txt K mg A) : FnOk P w K mg base CX0 9 A.f__law_is_course_due A.d__law_is_course_due ["draws"] (sp__law_is_course_due) := by
  refine T.F__law_is_course_due.ok sc__law_is_course_due (len1 _) (fun cdv AA outer s H vs Q E hr h => ?_)
  refine ⟨_, (pss_cons (ps_set (i := 1) sc__law_is_course_due.nd rfl (Or.inl rfl) (pe_tup (pa_cons (pe_call (ok__law_pick T) (hr.mono (by decide)) rfl T.g__law_pick T.F__law_pick.kp T.b__law_pick .nil pass0 (pa_cons (pv 0) (pa_cons (pe_lst (pa_cons (pe_int) (pa_cons (pe_int) (pa_cons (pe_int) (pa_cons (pe_int) (pa_cons (pe_int) pa_nil)))))) pa_nil))) (pa_cons (pe_op op_add (pe_int) (pe_call (ok__law_take T) (hr.mono (by decide)) rfl T.g__law_take T.F__law_take.kp T.b__law_take .nil pass0 (pa_cons (pv 0) (pa_cons (pe_int) pa_nil)))) (pa_cons (pe_call (ok__law_pick T) (hr.mono (by decide)) rfl T.g__law_pick T.F__law_pick.kp T.b__law_pick .nil pass0 (pa_cons (pv 0) (pa_cons (pe_lst (pa_cons (pe_int) (pa_cons (pe_int) (pa_cons (pe_int) (pa_cons (pe_int) pa_nil))))) pa_nil))) pa_nil)))))
      (pss_cons (ps_par3 (i := 2) (j := 3) (l := 4) (by rfl) sc__law_is_course_due.nd rfl rfl rfl (by decide) (by decide) (by decide) rfl rfl rfl (pa_cons (pe_make T.mk_Cache (ok_Cache___init__ T) (hr.mono (by decide)) rfl T.g_Cache T.b_Cache___init__ .nil passL (pa_cons (pe_ix (k_ixT K) (pv 1) (pe_int) (fun _ _ => rfl)) (pa_cons (pe_ix (k_ixT K) (pv 1) (pe_int) (fun _ _ => rfl)) (pa_cons (pe_ix (k_ixT K) (pv 1) (pe_int) (fun _ _ => rfl)) pa_nil)))) (pa_cons (pe_make T.mk_Cache (ok_Cache___init__ T) (hr.mono (by decide)) rfl T.g_Cache T.b_Cache___init__ .nil passL (pa_cons (pe_ix (k_ixT K) (pv 1) (pe_int) (fun _ _ => rfl)) (pa_cons (pe_int) (pa_cons (pe_ix (k_ixT K) (pv 1) (pe_int) (fun _ _ => rfl)) pa_nil)))) (pa_cons (pe_make T.mk_Cache (ok_Cache___init__ T) (hr.mono (by decide)) rfl T.g_Cache T.b_Cache___init__ .nil passL (pa_cons (pe_ix (k_ixT K) (pv 1) (pe_int) (fun _ _ => rfl)) (pa_cons (pe_ix (k_ixT K) (pv 1) (pe_int) (fun _ _ => rfl)) (pa_cons (pe_ix (k_ixT K) (pv 1) (pe_int) (fun _ _ => rfl)) pa_nil)))) pa_nil))) (by rfl))
      (pss_cons (ps_asg (pe_tup (pa_cons (pe_op op_rep (pe_lst (pa_cons (pe_lst pa_nil) pa_nil)) (pe_ix (k_ixT K) (pv 1) (pe_int) (fun _ _ => rfl))) (pa_cons (pe_lst pa_nil) pa_nil))) (k_gtup K rfl (pgs_cons (pg_name (i := 5) sc__law_is_course_due.nd rfl (Or.inr rfl)) (pgs_cons (pg_name (i := 6) sc__law_is_course_due.nd rfl (Or.inl rfl)) pgs_nil))))
      (pss_cons (ps_for PassesOwn.never rfl (pi_range1 rfl T.z_range (pa_cons (pe_int) pa_nil)) (pg_name (i := 7) sc__law_is_course_due.nd rfl (Or.inl rfl)) (pss_cons (ps_par (i := 8) (j := 9) (by rfl) sc__law_is_course_due.nd rfl rfl (by decide) rfl rfl (pa_cons (pe_call (ok__law_address T) (hr.mono (by decide)) rfl T.g__law_address T.F__law_address.kp T.b__law_address .nil pass0 (pa_cons (pv 0) (pa_cons (pv 1) (pa_cons (pv 6) pa_nil)))) (pa_cons (pe_cmpR op_gt (pe_call (ok__law_take T) (hr.mono (by decide)) rfl T.g__law_take T.F__law_take.kp T.b__law_take .nil pass0 (pa_cons (pv 0) (pa_cons (pe_int) pa_nil))) (pe_int) (nomark _)) pa_nil)) (by rfl))
      (pss_cons (ps_set (i := 6) sc__law_is_course_due.nd rfl (Or.inl rfl) (pe_op op_cat (pe_slice (k_slL K) (pv 6) (po_some (pe_un un_neg (pe_int))) po_none) (pe_lst (pa_cons (pv 8) pa_nil))))
      (pss_cons (ps_set (i := 10) sc__law_is_course_due.nd rfl (Or.inl rfl) (pe_call (ok__law_looked T) (hr.mono (by decide)) rfl T.g__law_looked T.F__law_looked.kp T.b__law_looked .nil pass0 (pa_cons (pv 5) (pa_cons (pe_ix (k_ixT K) (pv 1) (pe_int) (fun _ _ => rfl)) (pa_cons (pe_ix (k_ixT K) (pv 1) (pe_int) (fun _ _ => rfl)) (pa_cons (pv 8) (pa_cons (pv 9) pa_nil)))))))
      (pss_cons (ps_set (i := 11) sc__law_is_course_due.nd rfl (Or.inl rfl) (pe_ifExp (pt_val (pv 9)) (pe_meth (pv 2) T.cl_Cache T.m_Cache_look (ok_Cache_look T) (hr.mono (by decide)) T.b_Cache_look .nil passL (pa_cons (pv 8) pa_nil)) (pe_meth (pv 2) T.cl_Cache T.m_Cache_touch (ok_Cache_touch T) (hr.mono (by decide)) T.b_Cache_touch .nil passL (pa_cons (pv 8) pa_nil))))
      (pss_cons (ps_if (PW.pt (pw_or (pt_not (pt_val (pe_call (ok__law_same T) (hr.mono (by decide)) rfl T.g__law_same T.F__law_same.kp T.b__law_same .nil pass0 (pa_cons (pv 11) (pa_cons (pv 10) pa_nil))))) (pw_or1 (pt_not (pt_val (pe_call (ok__law_same T) (hr.mono (by decide)) rfl T.g__law_same T.F__law_same.kp T.b__law_same .nil pass0 (pa_cons (pe_meth0 (pv 2) T.cl_Cache T.m_Cache_lines (ok_Cache_lines T) (hr.mono (by decide)) T.b_Cache_lines .nil pass0) (pa_cons (pe_call (ok__law_shown T) (hr.mono (by decide)) rfl T.g__law_shown T.F__law_shown.kp T.b__law_shown .nil pass0 (pa_cons (pv 5) pa_nil)) pa_nil)))))))) (pss_one (ps_ret (pe_bl))) pss_nil)
      (Evl.pss_cut (ps_if (pt_val (pv 9)) (pss_one (ps_expr (pe_meth (pv 3) T.cl_Cache T.m_Cache_look (ok_Cache_look T) (hr.mono (by decide)) T.b_Cache_look .nil passL (pa_cons (pv 8) pa_nil)))) (pss_one (ps_if (pt_val (pv 10)) (pss_one (ps_expr (pe_meth (pv 3) T.cl_Cache T.m_Cache_touch (ok_Cache_touch T) (hr.mono (by decide)) T.b_Cache_touch .nil passL (pa_cons (pv 8) pa_nil)))) pss_nil)))
      (pss_cons (ps_set (i := 12) sc__law_is_course_due.nd rfl (Or.inr rfl) (pe_meth0 (pv 3) T.cl_Cache T.m_Cache_lines (ok_Cache_lines T) (hr.mono (by decide)) T.b_Cache_lines .nil pass0))
      (pss_one (ps_if (pt_cmpR (k_neD K hr.units) (pe_lc (own := [("at", 13)]) rfl sc__law_is_course_due.nd (pi_range1 rfl T.z_range (pa_cons (pe_ix (k_ixT K) (pv 1) (pe_int) (fun _ _ => rfl)) pa_nil)) (blkOk_by (own := [("at", 13)]) (by kernel_rfl)) (fun _ _ _ _ _ => (pg_name (i := 13) sc__law_is_course_due.nd rfl (Or.inl rfl))) (fun _ _ _ _ _ => pts_one (pt_cmpR (k_neD K hr.units) (pe_slice (k_slT K) (pe_ix (k_ixT K) (pv 12) (pv 13) (fun _ _ => rfl)) (po_some (pe_op op_sub (pe_callB (k_len K) (by rfl) T.z_len boot_len (pa_cons (pe_ix (k_ixT K) (pv 12) (pv 13) (fun _ _ => rfl)) pa_nil)) (pe_callB (k_len K) (by rfl) T.z_len boot_len (pa_cons (pe_ix (k_ixL K) (pv 5) (pv 13) (fun _ _ => rfl)) pa_nil)))) po_none) (pe_callTy (k_tupleOf K) (by rfl) T.z_tuple boot_tuple (pa_cons (pe_ix (k_ixL K) (pv 5) (pv 13) (fun _ _ => rfl)) pa_nil)) (nomark _))) (fun _ _ _ _ _ => (pv 13))) (pe_lst pa_nil) (nomark _)) (pss_one (ps_ret (pe_bl))) pss_nil))))))))))
      (pss_one (ps_ret (pe_call (ok__law_same T) (hr.mono (by decide)) rfl T.g__law_same T.F__law_same.kp T.b__law_same .nil pass0 (pa_cons (pe_meth0 (pv 4) T.cl_Cache T.m_Cache_lines (ok_Cache_lines T) (hr.mono (by decide)) T.b_Cache_lines .nil pass0) (pa_cons (pe_op (k_repT K) (pe_tup (pa_cons (pe_tup pa_nil) pa_nil)) (pe_ix (k_ixT K) (pv 1) (pe_int) (fun _ _ => rfl))) pa_nil))))))))), ?_⟩
  obtain ⟨d, rfl, l, rfl, hD, hQ⟩ := h
  walk_at "rd"
  refine ⟨by show 5 ≤ sizeLine; decide, fun p np => ?_⟩
  generalize eH1 : upd H p _ = H1
  obtain ⟨s1, hp⟩ := of_upd eH1 np
  walk_at "rd"
  refine ⟨l, p, _, rfl, rfl, SqL.of hp, new_list np hD, by simp, hD.same s1, fun v H2 hv x2 d2 => ?_⟩
  obtain ⟨n, rfl, n0, n1, en⟩ : ∃ m : Int, v = .int m ∧ 1 ≤ m ∧ m ≤ 16 ∧ szs (.int m) = true := by
    simp only [List.mem_cons, List.not_mem_nil, or_false] at hv
    rcases hv with h | h | h | h | h <;> exact ⟨_, h, by decide, by decide, by decide⟩
  clear hv
  walk_at "rd"
  refine ⟨l, 4, rfl, rfl, by decide, d2, fun wi0 H3 r0 r1 x3 d3 => ?_⟩
  walk_at "rd"
  obtain ⟨wi, ewi, w0, w1⟩ : ∃ wi : Int, 1 + wi0 = wi ∧ 1 ≤ wi ∧ wi ≤ 4 := ⟨_, rfl, by omega, by omega⟩
  rw [ewi]
  walk_at "rd"
  refine ⟨by show 4 ≤ sizeLine; decide, fun p2 np2 => ?_⟩
  generalize eH4 : upd H3 p2 _ = H4
  obtain ⟨s4, hp2⟩ := of_upd eH4 np2
  walk_at "rd"
  refine ⟨l, p2, _, rfl, rfl, SqL.of hp2, new_list np2 d3, by simp, d3.same s4, fun v H5 hv x5 d5 => ?_⟩
  obtain ⟨li, rfl, l0, l1, el⟩ : ∃ m : Int, v = .int m ∧ 1 ≤ m ∧ m ≤ 8 ∧ lns (.int m) = true := by
    simp only [List.mem_cons, List.not_mem_nil, or_false] at hv
    rcases hv with h | h | h | h <;> exact ⟨_, h, by decide, by decide, by decide⟩
  clear hv
  walk_at "rd"
  refine ⟨by show 3 ≤ sizeLine; decide, fun t nt => ?_⟩
  generalize eH6 : upd H5 t _ = H6
  obtain ⟨s6, ht⟩ := of_upd eH6 nt
  have d6 := d5.same s6
  have xx : ExB [l] H H6 := (((((Same.exB s1).trans x2).trans x3).trans (Same.exB s4)).trans x5).trans (Same.exB s6)
  clear x5 s4 x3 x2 s1 hp hp2 d2 d3 eH1 eH4 eH6 np np2 ewi
  walk_at "rd"
  refine r_ixT (SqT.of ht) (atI_nat (j := 0) rfl) ?_
  walk_at "rd"
  refine r_ixT (SqT.of ht) (atI_nat (j := 1) rfl) ?_
  walk_at "rd"
  refine r_ixT (SqT.of ht) (atI_nat (j := 2) rfl) ?_
  walk_at "rd"
  have ew : within (.int wi) 1 4 = true := by
    show (decide (1 ≤ wi) && decide (wi ≤ 4)) = true
    rw [decide_eq_true w0, decide_eq_true w1]
    rfl
  refine new_cache en el ew fun oc H7 s7 c7 wc7 lc7 f7 => ?_
  have ht7 := s7 _ _ ht
  walk_at "rd"
  refine r_ixT (SqT.of ht7) (atI_nat (j := 0) rfl) ?_
  walk_at "rd"
  refine r_ixT (SqT.of ht7) (atI_nat (j := 2) rfl) ?_
  walk_at "rd"
  refine new_cache en el (by decide) fun ow H8 s8 c8 wc8 lc8 f8 => ?_
  have ht8 := s8 _ _ ht7
  walk_at "rd"
  refine r_ixT (SqT.of ht8) (atI_nat (j := 0) rfl) ?_
  walk_at "rd"
  refine r_ixT (SqT.of ht8) (atI_nat (j := 1) rfl) ?_
  walk_at "rd"
  refine r_ixT (SqT.of ht8) (atI_nat (j := 2) rfl) ?_
  walk_at "rd"
  refine new_cache en el ew fun oo H9 s9 c9 wc9 lc9 f9 => ?_
  have ht9 := s9 _ _ ht8
  walk_at "rd"
  refine ⟨Nat.zero_le _, fun q nq => ?_⟩
  generalize eHa : upd H9 q _ = Ha
  obtain ⟨sa, hq⟩ := of_upd eHa nq
  walk_at "rd"
  refine ⟨by show 1 ≤ sizeLine; decide, fun q1 nq1 => ?_⟩
  generalize eHb : upd Ha q1 _ = Hb
  obtain ⟨sb, hq1⟩ := of_upd eHb nq1
  walk_at "rd"
  refine r_ixT (SqT.of (sb _ _ (sa _ _ ht9))) (atI_nat (j := 0) rfl) ?_
  refine r_repL hq1 (by omega) (by omega) (by rw [List.length_singleton]; exact le_line (by omega)) fun S Hc nSb sc hS => ?_
  walk_at "rd"
  refine ⟨Nat.zero_le _, fun a na => ?_⟩
  generalize eHd : upd Hc a _ = Hd
  obtain ⟨sd, ha⟩ := of_upd eHd na
  walk_at "rd"
  refine ⟨by show 2 ≤ sizeLine; decide, fun t2 nt2 => ?_⟩
  generalize eHe : upd Hd t2 _ = He
  obtain ⟨se, ht2⟩ := of_upd eHe nt2
  walk_at "rd"
  refine g_tup (SqT.of ht2) rfl ?_
  have s68 : Same H6 H8 := s7.trans s8
  have s69 : Same H6 H9 := s68.trans s9
  have s79 : Same H7 H9 := s8.trans s9
  have s9b : Same H9 Hb := sa.trans sb
  have dl : Drw H9 l := d6.same s69
  have al7 := c7.all
  have al8 := c8.all
  have al9 := c9.all
  have up : ∀ {Hx Hy : Hp} {a : Addr}, Same Hx Hy → Hx a ≠ none → Hy a ≠ none := fun s n e => n (Same.free s e)
  have nl : H6 l ≠ none := by
    obtain ⟨ds, e⟩ := d6
    rw [e]
    intro z
    cases z
  have allb : ∀ a ∈ NN l oc ow oo, Hb a ≠ none := fun a ha => by
    rcases List.mem_cons.mp ha with z | ha
    · rw [z]; exact up (s69.trans s9b) nl
    rcases List.mem_append.mp ha with ha | ha
    · exact up (s79.trans s9b) (al7 a ha)
    rcases List.mem_append.mp ha with ha | ha
    · exact up (s9.trans s9b) (al8 a ha)
    · exact up s9b (al9 a ha)
  have dj : Dj l S oc ow oo := ⟨fun z => allb S z nSb, fun z => nl (f7 l z), fun z => up s7 nl (f8 l z), fun z => up s68 nl (f9 l z), fun a h1 h2 => al7 a h1 (f8 a h2), fun a h1 h2 => up s8 (al7 a h1) (f9 a h2), fun a h1 h2 => al8 a h1 (f9 a h2)⟩
  have s9e : Same H9 He := (s9b.trans sc).trans (sd.trans se)
  have hq9 : Hc q = some (.lst []) := sc _ _ (sb _ _ hq)
  have qS : q ≠ S := fun z => by
    have := sb _ _ hq
    rw [z, nSb] at this
    cases this
  have qN : q ∉ NN l oc ow oo := fun z => by
    refine absurd nq ?_
    rcases List.mem_cons.mp z with z | ha
    · rw [z]; exact up s69 nl
    rcases List.mem_append.mp ha with ha | ha
    · exact up s79 (al7 q ha)
    rcases List.mem_append.mp ha with ha | ha
    · exact up s9 (al8 q ha)
    · exact al9 q ha
  have hrep : (List.replicate n.toNat [V.ref q]).flatten = (List.replicate n.toNat q).map V.ref := by
    rw [List.map_replicate]
    generalize n.toNat = m
    induction m with
    | zero => rfl
    | succ m ih =>
      rw [List.replicate_succ, List.flatten_cons, ih, List.replicate_succ]
      rfl
  rw [hrep] at hS
  have hSe : SetsAt (NN l oc ow oo) He S (mulR li (List.replicate n.toNat [])) := by
    have e0 : mulR li (List.replicate n.toNat []) = List.replicate n.toNat [] := by
      unfold mulR
      rw [List.map_replicate]
      rfl
    rw [e0]
    refine ⟨⟨_, se _ _ (sd _ _ hS), by rw [List.length_replicate, List.length_replicate], fun i p r hp hr => ?_⟩, fun z => ?_, fun r hr => ?_⟩
    · have e1 : p = q := List.eq_of_mem_replicate (List.mem_of_getElem? hp)
      have e2 : r = [] := List.eq_of_mem_replicate (List.mem_of_getElem? hr)
      rw [e1, e2]
      exact ⟨se _ _ (sd _ _ hq9), qS, qN⟩
    · have := congrArg List.length z
      rw [List.length_replicate] at this
      simp at this
      omega
    · rw [List.eq_of_mem_replicate hr]
      exact Nat.zero_le _
  have bn0 : Bn A l S t oc ow oo n wi li He (List.replicate n.toNat []) (List.replicate n.toNat []) (mulR li (List.replicate n.toNat [])) :=
    ⟨dl.same s9e, c7.same (s79.trans s9e), c8.same (s9.trans s9e), c9.same s9e, hSe, s9e _ _ ht9⟩
  have good0 : GoodAll wi.toNat (List.replicate n.toNat []) (List.replicate n.toNat []) := ⟨rfl, fun i w r hw hr => by
    rw [List.eq_of_mem_replicate (List.mem_of_getElem? hw), List.eq_of_mem_replicate (List.mem_of_getElem? hr)]
    exact ⟨List.nodup_nil, Nat.zero_le _, List.drop_nil.symm⟩⟩
  have aN : a ∉ NN l oc ow oo := fun z => up sc (allb a z) na
  have aS : a ≠ S := fun z => by rw [z, hS] at na; cases na
  have xe : ExB [l] H He := (xx.trans (Same.exB s69)).trans (Same.exB s9e)
  have x6 : ∀ a : Addr, H6 a = none → H a = none := xx.back
  have fc : ∀ b ∈ pl oc, H b = none := fun b hb => x6 b (f7 b hb)
  have fw : ∀ b ∈ pl ow, H b = none := fun b hb => x6 b (Same.free s7 (f8 b hb))
  have fS : H S = none := x6 S (Same.free (s69.trans s9b) nSb)
  have ha' : He a = some (.lst (([] : List Int).map V.int)) := se _ _ ha
  clear ht2 nt2 eHe se ha na eHd sd hS nSb sc hq1 nq1 eHb sb hq nq eHa sa hSe f7 f8 f9 c7 c8 c9 ht7 ht8 ht9 s68 s69 s79 s9b dl al7 al8 al9 up nl allb s9e hq9 qS qN hrep s7 s8 s9
  walk_at "rd"
  refine n_for1 (by decide) (fun i σ' H' => ∃ (a : Addr) (ns : List Int) (rows wrows : List (List Int)) (v7 v8 v9 v10 v11 v12 : Option V), σ' = [some (.ref l), some (.ref t), some (.ref oc.c), some (.ref ow.c), some (.ref oo.c), some (.ref S), some (.ref a), v7, v8, v9, v10, v11, v12, none] ∧ Bn A l S t oc ow oo n wi li H' rows wrows (mulR li rows) ∧ GoodAll wi.toNat wrows rows ∧ H' a = some (.lst (ns.map V.int)) ∧ ns.length ≤ i ∧ a ∉ NN l oc ow oo ∧ a ≠ S ∧ rows.length = n.toNat ∧ ExB [l] H H')
    ⟨a, [], _, _, none, none, none, none, none, none, rfl, bn0, good0, ha', Nat.le_refl _, aN, aS, List.length_replicate, xe⟩ ?_ ?_
  · clear ha' xe aS aN good0 bn0
    rintro i σ' H1 hi ⟨a, ns, rows, wrows, v7, v8, v9, v10, v11, v12, rfl, b1, good, ha1, hns, aN, aS, rlen, x1⟩
    walk_at "rd"
    refine ⟨l, t, a, ns, n, wi, li, rfl, rfl, rfl, b1.drw, b1.tt, ha1, fun z => aN (by rw [z]; simp [NN]), by omega, n1, by omega, l1, fun ad H2 ad0 ad1 y2 d2 => ?_⟩
    have b2 := b1.draw dj y2 d2
    have ha2 := y2.keep _ _ (fun z => aN (by rw [List.mem_singleton.mp z]; simp [NN])) ha1
    have x2 := x1.trans y2
    clear b1 ha1 x1
    walk_at "rd"
    refine ⟨l, 4, rfl, rfl, by decide, d2, fun rr H3 rr0 rr1 y3 d3 => ?_⟩
    have b3 := b2.draw dj y3 d3
    have ha3 := y3.keep _ _ (fun z => aN (by rw [List.mem_singleton.mp z]; simp [NN])) ha2
    have x3 := x2.trans y3
    clear b2 ha2 x2
    walk_at "rd"
    generalize decide (rr > 0) = come
    obtain ⟨ms, ems, hms⟩ := cut_ints ns (some (-12)) none
    refine r_slL (SqL.of ha3) fun a4 H4 na4 s4 ha4 => ?_
    rw [ems] at ha4
    walk_at "rd"
    refine ⟨by show 1 ≤ sizeLine; decide, fun p np => ?_⟩
    generalize eH5 : upd H4 p _ = H5
    obtain ⟨s5, hp⟩ := of_upd eH5 np
    have i80 : i < 80 := by omega
    refine r_cat (s5 _ _ ha4) hp (by rw [List.length_map]; exact le_line (by rw [List.length_singleton]; omega)) fun a6 H6' na6 s6' ha6 => ?_
    have s36 : Same H3 H6' := (s4.trans s5).trans s6'
    have b6 := b3.same s36
    have x6' := x3.trans (Same.exB s36)
    have ha6' : H6' a6 = some (.lst ((ms ++ [ad]).map V.int)) := by
      rw [ha6, List.map_append]
      rfl
    have hns6 : (ms ++ [ad]).length ≤ i + 1 := by
      rw [List.length_append, List.length_singleton]
      omega
    have n6N : a6 ∉ NN l oc ow oo := fun z => b3.all _ z (Same.free (s4.trans s5) na6)
    have n6S : a6 ≠ S := fun z => by
      obtain ⟨ps, q, _⟩ := b3.s.ex
      have := (s4.trans s5) _ _ q
      rw [← z, na6] at this
      cases this
    clear ha6 ha4 hp eH5 ha3 b3 s4 s5 s6' x3 aN aS na4 na6 np
    generalize (ms ++ [ad]) = ns' at ha6' hns6
    have hrp : rows ≠ [] := b6.c.pos
    obtain ⟨erow, grow⟩ := goodAll_row good hrp (ad / li)
    obtain ⟨glen, gnd⟩ := good_len grow
    have hlk := looked_eq (rows := rows) (n := ad / li) (come := come) (li := li) (wi := wi) (by omega) w0 gnd glen
    walk_at "rdn"
    walk_at "rd"
    refine r_ixT (SqT.of b6.tt) (atI_nat (j := 1) rfl) ?_
    walk_at "rd"
    refine r_ixT (SqT.of b6.tt) (atI_nat (j := 2) rfl) ?_
    walk_at "rd"
    refine ⟨NN l oc ow oo, S, mulR li rows, wi, li, ad, come, rfl, rfl, rfl, rfl, rfl, b6.all, b6.s, by omega, l1, w0, w1, fun H7 y7 hs7 => ?_⟩
    rw [hlk] at hs7 ⊢
    have ez : ∀ b : Bool, (if b = true then mulR li (stepM wi.toNat rows (ad / li)) else mulR li rows) = mulR li (if b = true then stepM wi.toNat rows (ad / li) else rows) := fun b => by cases b <;> rfl
    rw [ez] at hs7
    have b7 := b6.sets dj y7 hs7
    have x7 := exB_fresh x6' y7 fun b hb => by rw [List.mem_singleton.mp hb]; exact fS
    have ha7 := y7.keep _ _ (ne1 n6S) ha6'
    clear b6 x6' ha6' hs7 y7
    generalize hrows' : (if (hasM rows (ad / li) || come) = true then stepM wi.toNat rows (ad / li) else rows) = rows' at b7
    walk_at "rdn"
    refine r_ifV come (fun v H' => v = .bl (hasM rows (ad / li)) ∧ ExB oc.fp H7 H' ∧ CacheAt A H' oc rows') (fun R k => by walk_at "rd"; exact k) (fun hc R k => ?_) (fun hc R k => ?_) ?_
    · walk_at "rd"
      refine ⟨oc.c, oc.dx, cf oc, rfl, b7.c.ins, lk_look oc, ?_⟩
      walk_at "rd"
      refine ⟨oc, rows, "int", rfl, b7.c, ty_int, by decide, fun z => ?_, fun n' en' _ _ H8' y8 c8' => ?_⟩
      · exfalso
        have : (decide (0 ≤ ad) && decide (ad ≤ 4095)) = false := z
        rw [decide_eq_true ad0, decide_eq_true ad1] at this
        cases this
      · cases en'
        rw [lc7, wc7, look_eq w0] at c8' ⊢
        refine k _ _ ⟨rfl, y8, ?_⟩
        rw [← hrows', hc, Bool.or_true, if_pos rfl]
        exact c8'
    · walk_at "rd"
      refine ⟨oc.c, oc.dx, cf oc, rfl, b7.c.ins, lk_touch oc, ?_⟩
      walk_at "rd"
      refine ⟨oc, rows, "int", rfl, b7.c, ty_int, by decide, fun z => ?_, fun n' en' _ _ H8' y8 c8' => ?_⟩
      · exfalso
        have : (decide (0 ≤ ad) && decide (ad ≤ 4095)) = false := z
        rw [decide_eq_true ad0, decide_eq_true ad1] at this
        cases this
      · cases en'
        rw [lc7, touch_eq wi.toNat] at c8' ⊢
        refine k _ _ ⟨rfl, y8, ?_⟩
        rw [← hrows', hc, Bool.or_false]
        exact c8'
    rintro v H8 ⟨rfl, y8, c8⟩
    have b8 := b7.cache dj y8 c8
    have x8 := exB_fresh x7 y8 fun b hb => fc b (by simp [pl, hb])
    have ha8 := y8.keep _ _ (fun z => n6N (by simp [NN, pl, z])) ha7
    clear b7 x7 ha7 y8 c8
    walk_at "rd"
    refine ⟨.bool (hasM rows (ad / li)), .bl _, .bl _, (by decide : 0 < 7), rfl, fun H9 s9 => ?_⟩
    have b9 := b8.same s9
    have x9 := x8.trans (Same.exB s9)
    have ha9 := s9 _ _ ha8
    clear b8 x8 ha8 s9
    have rlen' : rows'.length = n.toNat := by
      rw [← hrows']
      split
      · unfold stepM
        rw [List.length_set]
        exact rlen
      · exact rlen
    walk_at "rd"
    refine ite_f rfl ?_
    walk_at "rd"
    refine ⟨oc.c, oc.dx, cf oc, rfl, b9.c.ins, lk_lines oc, ?_⟩
    walk_at "rd"
    refine ⟨oc, _, rfl, b9.c, by omega, fun v1 Ha1 sa1 fz1 => ?_⟩
    rw [lc7, lines_shown] at fz1
    walk_at "rd"
    refine ⟨NN l oc ow oo, S, _, rfl, (b9.same sa1).s, by rw [mulR_len]; omega, fun v2 Ha2 sa2 fz2 => ?_⟩
    walk_at "rd"
    obtain ⟨sd1, sd2⟩ := shownM_ok (rs := mulR li rows') (by rw [mulR_len]; omega) b9.s.small
    refine ⟨_, (fz1.same sa2).dp, fz2.dp, sd1, sd2, fun Hb sb => ?_⟩
    have sab := (sa1.trans sa2).trans sb
    have bb := b9.same sab
    have xb := x9.trans (Same.exB sab)
    have hab := sab _ _ ha9
    clear b9 x9 ha9 sa1 sa2 sb fz1 fz2 sab
    walk_at "rd"
    refine ite_f rfl ?_
    walk_at "rd"
    have goodW : (hasM rows (ad / li) || come) = true → GoodAll wi.toNat (stepM 4 wrows (ad / li)) rows' := fun h => by
      rw [← hrows', if_pos h]
      exact goodAll_step (by omega) (by omega) good hrp _
    refine r_cut (fun σ' H' => ∃ wrows' : List (List Int), σ' = [some (.ref l), some (.ref t), some (.ref oc.c), some (.ref ow.c), some (.ref oo.c), some (.ref S), some (.ref a6), some (.int (i : Int)), some (.int ad), some (.bl come), some (.bl (hasM rows (ad / li))), some (.bl (hasM rows (ad / li))), v12, none] ∧ Bn A l S t oc ow oo n wi li H' rows' wrows' (mulR li rows') ∧ GoodAll wi.toNat wrows' rows' ∧ H' a6 = some (.lst (ns'.map V.int)) ∧ ExB [l] H H') ?_ ?_
    · walk_at "rd"
      refine ite2 (fun hc => ?_) (fun hc => ?_)
      · walk_at "rd"
        refine ⟨ow.c, ow.dx, cf ow, rfl, bb.w.ins, lk_look ow, ?_⟩
        walk_at "rd"
        refine ⟨ow, wrows, "int", rfl, bb.w, ty_int, by decide, fun z => ?_, fun n' en' _ _ Hc yc cc => ?_⟩
        · exfalso
          have : (decide (0 ≤ ad) && decide (ad ≤ 4095)) = false := z
          rw [decide_eq_true ad0, decide_eq_true ad1] at this
          cases this
        · cases en'
          rw [lc8, wc8, look_eq (by decide)] at cc
          walk_at "rd"
          exact ⟨_, rfl, bb.wide dj yc cc, goodW (by rw [hc, Bool.or_true]), yc.keep _ _ (fun z => n6N (by simp [NN, pl, z])) hab, exB_fresh xb yc fun b hb => fw b (by simp [pl, hb])⟩
      · walk_at "rd"
        refine ite2 (fun hh => ?_) (fun hh => ?_)
        · replace hh : hasM rows (ad / li) = true := hh
          walk_at "rd"
          refine ⟨ow.c, ow.dx, cf ow, rfl, bb.w.ins, lk_touch ow, ?_⟩
          walk_at "rd"
          refine ⟨ow, wrows, "int", rfl, bb.w, ty_int, by decide, fun z => ?_, fun n' en' _ _ Hc yc cc => ?_⟩
          · exfalso
            have : (decide (0 ≤ ad) && decide (ad ≤ 4095)) = false := z
            rw [decide_eq_true ad0, decide_eq_true ad1] at this
            cases this
          · cases en'
            rw [lc8, touch_eq 4, goodAll_has good hrp hh] at cc
            walk_at "rd"
            exact ⟨_, rfl, bb.wide dj yc cc, goodW (by rw [hh, Bool.true_or]), yc.keep _ _ (fun z => n6N (by simp [NN, pl, z])) hab, exB_fresh xb yc fun b hb => fw b (by simp [pl, hb])⟩
        · walk_at "rd"
          have er : rows' = rows := by
            rw [← hrows', show hasM rows (ad / li) = false from Bool.eq_false_iff.mpr hh, Bool.eq_false_iff.mpr hc]
            rfl
          refine ⟨wrows, rfl, bb, by rw [er]; exact good, hab, xb⟩
    · clear bb xb hab goodW hlk grow glen gnd erow good
      rintro σ2 Hc ⟨wrows', rfl, bc, good, hac, xc⟩
      walk_at "rd"
      refine ⟨ow.c, ow.dx, cf ow, rfl, bc.w.ins, lk_lines ow, ?_⟩
      have wlen := good.1
      walk_at "rd"
      refine ⟨ow, wrows', rfl, bc.w, by omega, fun v Hd sd fz => ?_⟩
      rw [lc8] at fz
      have bd := bc.same sd
      have had := sd _ _ hac
      have xd := xc.trans (Same.exB sd)
      clear bc sd hac xc
      obtain ⟨mo, mxs, rfl, hmo, fza⟩ : ∃ (p : Addr) (xs : List V), v = .ref p ∧ Hd p = some (.tup xs) ∧ FzAll Hd xs (wrows'.map (rowD li)) := by
        unfold linesM at fz
        cases fz with
        | tup e q => exact ⟨_, _, rfl, e, q⟩
      have mlen : mxs.length = n.toNat := by
        rw [FzAll.length fza, List.length_map, wlen, rlen']
      walk_at "rd"
      refine r_ixT (SqT.of bd.tt) (atI_nat (j := 0) rfl) ?_
      walk_at "rd"
      refine n_lcR (n := n) ⟨by omega, by omega⟩ (fun D i acc H1 => Same Hd H1 ∧ acc = []) (fun D H1 nD s1 e1 => ⟨s1, rfl⟩) ?_ ?_
      · rintro D j acc H1 nD hj hD ⟨s1, rfl⟩
        walk_at "rd"
        refine ⟨rfl, ?_⟩
        walk_at "rd"
        have hjm : j < mxs.length := by omega
        obtain ⟨d1, ed1, fzj⟩ := FzAll.get fza (List.getElem?_eq_getElem hjm)
        rw [List.getElem?_map] at ed1
        obtain ⟨w, hw, rfl⟩ := Option.map_eq_some_iff.mp ed1
        have hjr : j < rows'.length := by omega
        have hr := List.getElem?_eq_getElem hjr
        have gj := good.2 j w _ hw hr
        generalize rows'[j] = r at hr gj
        obtain ⟨aw, axs, eaw, haw, faw⟩ : ∃ (p : Addr) (xs : List V), mxs[j] = .ref p ∧ Hd p = some (.tup xs) ∧ FzAll Hd xs ((w.map (· * li)).map .int) := by
          generalize mxs[j] = v at fzj
          unfold rowD at fzj
          cases fzj with
          | tup e q => exact ⟨_, _, rfl, e, q⟩
        have hat : atI mxs (j : Int) = some (.ref aw) := atI_nat (by rw [List.getElem?_eq_getElem hjm, eaw])
        have eax := fz_ints faw
        subst eax
        obtain ⟨ps, hSS, hps, hrow⟩ := bd.s.ex
        have hjp : j < ps.length := by rw [hps, mulR_len]; exact hjr
        have hrow' := (hrow j _ (r.map (· * li)) (List.getElem?_eq_getElem hjp) (by unfold mulR; rw [List.getElem?_map, hr]; rfl)).1
        have hatS : atI (ps.map V.ref) (j : Int) = some (.ref ps[j]) := atI_nat (by rw [List.getElem?_map, List.getElem?_eq_getElem hjp]; rfl)
        refine r_ixT (SqT.of (s1 _ _ hmo)) hat ?_
        walk_at "rd"
        refine r_ixT (SqT.of (s1 _ _ hmo)) hat ?_
        walk_at "rd"
        refine r_lenT (SqT.of (s1 _ _ haw)) ?_
        walk_at "rd"
        refine r_ixL (SqL.of (s1 _ _ hSS)) hatS ?_
        walk_at "rd"
        refine r_lenL (SqL.of (s1 _ _ hrow')) ?_
        walk_at "rd"
        have gl := (good_len gj).1
        have gd := gj.2.2
        have gle : r.length ≤ w.length ∧ r = w.drop (w.length - r.length) := by
          have e1 : r.length = w.length - (w.length - wi.toNat) := by rw [gd, List.length_drop]
          refine ⟨by omega, ?_⟩
          have e2 : w.length - r.length = w.length - wi.toNat := by omega
          rw [e2]
          exact gd
        have eix : (((w.map (· * li)).map V.int).length : Int) - (((r.map (· * li)).map V.int).length : Int) = ((w.length - r.length : Nat) : Int) := by
          rw [List.length_map, List.length_map, List.length_map, List.length_map]
          have := gle.1
          omega
        rw [eix]
        refine r_slA (SqT.of (s1 _ _ haw)) fun p1 H2 s2 hp1 => ?_
        rw [cutV_from, ← List.map_drop, ← List.map_drop, ← gle.2] at hp1
        walk_at "rd"
        refine r_ixL (SqL.of (s2 _ _ (s1 _ _ hSS))) hatS ?_
        walk_at "rd"
        refine r_tupleL (SqL.of (s2 _ _ (s1 _ _ hrow'))) fun p2 H3 np2 s3 hp2 => ?_
        refine r_neD (dp_tupI (sqT_same s3 hp1)) (dp_tupI (SqT.of hp2)) (shaped_intsT _) (shaped_intsT _) ?_
        rw [eqv_tupI, decide_eq_true rfl]
        walk_at "rd"
        refine ite_f rfl ?_
        exact ⟨[], s3 _ _ (s2 _ _ hD), s1.trans (s2.trans s3), rfl⟩
      · rintro D acc H1 nD hD ⟨s1, rfl⟩
        walk_at "rd"
        refine ⟨Nat.zero_le _, fun e ne => ?_⟩
        generalize eH2 : upd H1 e _ = H2
        obtain ⟨s2, he⟩ := of_upd eH2 ne
        refine r_neD (dp_nil (s2 _ _ hD)) (dp_nil he) (by decide) (by decide) ?_
        walk_at "rd"
        refine ite_f (by decide) ?_
        walk_at "rd"
        have s12 := s1.trans s2
        exact ⟨a6, ns', rows', wrows', _, _, _, _, _, _, rfl, bd.same s12, good, s12 _ _ had, hns6, n6N, n6S, rlen', xd.trans (Same.exB s12)⟩
  · rintro σ' H1 ⟨a, ns, rows, wrows, v7, v8, v9, v10, v11, v12, rfl, b1, good, ha1, hns, aN, aS, rlen, x1⟩
    walk_at "rd"
    refine ⟨oo.c, oo.dx, cf oo, rfl, b1.o.ins, lk_lines oo, ?_⟩
    walk_at "rd"
    refine ⟨oo, _, rfl, b1.o, by rw [List.length_replicate]; omega, fun v H2 s2 fz => ?_⟩
    rw [lc9, lines_shown] at fz
    walk_at "rd"
    refine ⟨Nat.zero_le _, fun e ne => ?_⟩
    generalize eH3 : upd H2 e _ = H3
    obtain ⟨s3, he⟩ := of_upd eH3 ne
    walk_at "rd"
    refine ⟨by show 1 ≤ sizeLine; decide, fun e1 ne1 => ?_⟩
    generalize eH4 : upd H3 e1 _ = H4
    obtain ⟨s4, he1⟩ := of_upd eH4 ne1
    walk_at "rd"
    refine r_ixT (SqT.of (s4 _ _ (s3 _ _ (s2 _ _ b1.tt)))) (atI_nat (j := 0) rfl) ?_
    refine n_repA (SqT.of he1) (by simp) n0 (by omega) (by show 1 ≤ 1000; decide) fun p H5 s5 hp => ?_
    walk_at "rd"
    have e0 : mulR li (List.replicate n.toNat []) = List.replicate n.toNat [] := by
      unfold mulR
      rw [List.map_replicate]
      rfl
    rw [e0] at fz
    obtain ⟨dd, ds⟩ := shownM_ok (rs := List.replicate n.toNat []) (by rw [List.length_replicate]; omega) fun r hr => by
      rw [List.eq_of_mem_replicate hr]
      exact Nat.zero_le _
    refine ⟨shownM (List.replicate n.toNat []), (fz.same ((s3.trans s4).trans s5)).dp, ?_, dd, ds, fun H6 s6 => ?_⟩
    · have he5 : SqT K H5 e [] := SqT.of (s5 _ _ (s4 _ _ he))
      unfold shownM
      refine .tup hp ?_
      clear hp
      generalize n.toNat = m
      induction m with
      | zero => exact .nil
      | succ m ih =>
        rw [List.replicate_succ, List.flatten_cons, List.replicate_succ, List.map_cons]
        exact .cons (.tup he5 .nil) ih
    · exact hQ H6 (x1.trans (Same.exB (s2.trans (s3.trans (s4.trans (s5.trans s6)))))) (b1.drw.same (s2.trans (s3.trans (s4.trans (s5.trans s6)))))
end K03
local macro_rules | `(tactic| walk_at "rdo1") => `(tactic| first
  | with_reducible refine RX.r_seq ?_ | with_reducible refine RX.r_asg ?_ | with_reducible refine RX.r_ret ?_ | with_reducible refine RX.r_drop ?_ | with_reducible refine RX.r_ifS ?_ | with_reducible refine RX.r_next ?_
  | with_reducible refine RX.r_op ?_ | with_reducible refine RX.r_un ?_ | ((with_reducible refine RX.r_var (v := ?v) ?hv ?_); (case hv => exact rfl)) | with_reducible refine RX.r_c ?_
  | with_reducible refine RX.r_I0 ?_ | with_reducible refine RX.r_U ?_ | with_reducible refine RX.r_test ?_ | with_reducible refine RX.r_tB ?_ | with_reducible refine RX.r_bl ?_ | with_reducible refine RX.r_not ?_
  | with_reducible refine RX.r_andV ?_ | with_reducible refine RX.r_orV ?_ | with_reducible refine RX.r_notV ?_ | with_reducible refine RX.r_if ?_
  | with_reducible refine RX.r_gName ?_ | with_reducible refine RX.r_nil ?_ | with_reducible refine RX.r_cons ?_ | with_reducible refine RX.r_CB ?_ | with_reducible refine RX.r_call ?_ | with_reducible refine RX.r_chain ?_
  | with_reducible refine RX.r_tup ?_ | with_reducible refine RX.r_lst ?_ | with_reducible refine RX.r_fld ?_ | with_reducible refine RX.r_meth ?_ | with_reducible refine RX.r_make ?_ | with_reducible refine RX.r_BM ?_ | with_reducible refine RX.r_BM0 ?_
  | with_reducible refine RX.r_for ?_ | with_reducible refine RX.r_delS ?_ | with_reducible refine RX.n_int1 ?_ | with_reducible refine RX.n_1 ?_ | with_reducible refine RX.n_2 ?_ | with_reducible refine RX.n_rng1 ?_ | with_reducible refine RX.r_lc ?_ | with_reducible refine RX.r_iL ?_ | with_reducible refine RX.r_iT ?_ | with_reducible refine RX.r_yes ?_ | with_reducible refine RX.r_sl ?_ | with_reducible refine RX.r_part ?_ | with_reducible refine RX.r_nopart ?_ | with_reducible refine RX.r_par ?_ | with_reducible refine RX.r_par3 ?_ | with_reducible refine RX.n_par ?_ | with_reducible refine RX.n_par3 ?_ | with_reducible refine RX.r_truth ?_ | with_reducible refine RX.r_enum ?_ | with_reducible refine RX.n_part ?_ | with_reducible refine RX.n_andrfl ?_ | with_reducible refine RX.r_tlr ?_ | with_reducible refine RX.g_cons ?_ | with_reducible refine RX.g_nil ?_ | with_reducible refine RX.g_fld ?_ | with_reducible refine RX.g_sub ?_
  | with_reducible refine RX.n_sp0 ?_ | with_reducible refine RX.n_sp1 ?_ | with_reducible refine RX.n_sp2 ?_ | with_reducible refine RX.n_sp3 ?_ | with_reducible refine RX.n_sp4 ?_ | with_reducible refine RX.n_sp5 ?_ | with_reducible refine RX.n_sp6 ?_ | with_reducible refine RX.n_sm1 ?_ | with_reducible refine RX.n_sm2 ?_ | with_reducible refine RX.n_sm3 ?_ | with_reducible refine RX.n_sm4 ?_ | with_reducible refine RX.n_sm5 ?_ | with_reducible refine RX.n_sm6 ?_
  | with_reducible refine L2.iteT ?_ | with_reducible refine L2.iteF ?_)
local macro_rules | `(tactic| walk_at "rd1") => `(tactic| first | walk_at "rdo1" | with_reducible refine RX.r_and ?_ | with_reducible refine RX.r_or ?_)
local macro_rules | `(tactic| walk_at "rd") => `(tactic| repeat walk_at "rd1")
local macro_rules | `(tactic| walk_at "rdo") => `(tactic| repeat walk_at "rdo1")
local macro_rules | `(tactic| walk_at "lk") => `(tactic| repeat (first | with_reducible exact RX.lk_hit | (refine Eq.trans (RX.lk_miss (by decide +kernel)) ?_) | exact rfl))
local macro_rules | `(tactic| walk_at "pf") => `(tactic| repeat (first | with_reducible exact RX.put_hit | (refine Eq.trans (RX.put_miss (by decide +kernel)) (congrArg _ ?_)) | exact rfl))

namespace K03
open PySem PySem.Spec PyProof.Rows L2 RX
abbrev sp__law_refused (K : PySem.W.Frag) (A : Adr) : Sp := Sp3 fun kd c as H Q _ => ∃ k o rows ar xs, kd = .int k ∧ c = .ref o.c ∧ as = .ref ar ∧ SqA K H ar xs ∧ CacheAt A H o rows ∧
  (k = 0 → ∃ x0 x1 x2 T0 T1 T2, xs = [x0, x1, x2] ∧ (∀ H', Same H H' → OfTy K H' x0 T0 ∧ OfTy K H' x1 T1 ∧ OfTy K H' x2 T2) ∧ T0 ∈ tyNames ∧ T1 ∈ tyNames ∧ T2 ∈ tyNames ∧ (szs x0 && lns x2 && within x1 1 4) = false) ∧
  (k ≠ 0 → ∃ x T, xs = [x] ∧ OfTy K H x T ∧ T ∈ tyNames ∧ within x 0 4095 = false) ∧ ∀ H', Same H H' → Q (.str "refused") H'
theorem ok__law_refused {P : Program} {w : World} {K : PySem.W.Frag} {mg : Str → Option Value} {base : Heap} {A : Adr} (T : Txt K mg A) : FnOk P w K mg base CX0 6 A.f__law_refused A.d__law_refused ["kind", "cache", "args"] (sp__law_refused K A) := by
  refine T.F__law_refused.ok sc__law_refused (len3 _) (fun cdv AA outer s H vs Q E hr h => ?_)
  refine ⟨_, (pss_one (ps_try_only rfl rfl ⟨rfl, by decide, .inl T.g_NotRight⟩ takes0 (fun W pn xe tk ow => (pss_cons (ps_if (pt_cmpR op_eq (pv 0) (pe_int) (nomark _)) (pss_one (ps_ret (pe_cmpR op_isN (pe_make T.mk_Cache (ok_Cache___init__ T) (hr.mono (by decide)) rfl T.g_Cache T.b_Cache___init__ .nil (passes_call (E := fun cls d H => ∀ σ, W cls d σ H) tk (fun _ _ σ _ h => h σ)) (pa_cons (pe_ix (k_ix K) (pv 2) (pe_int) (fun _ _ => rfl)) (pa_cons (pe_ix (k_ix K) (pv 2) (pe_int) (fun _ _ => rfl)) (pa_cons (pe_ix (k_ix K) (pv 2) (pe_int) (fun _ _ => rfl)) pa_nil)))) (pe_non) (nomark _)))) pss_nil)
      (pss_one (ps_ret (pe_ifExp (pt_cmpR op_eq (pv 0) (pe_int) (nomark _)) (pe_meth (pv 1) T.cl_Cache T.m_Cache_look (ok_Cache_look T) (hr.mono (by decide)) T.b_Cache_look .nil (passes_call (E := fun cls d H => ∀ σ, W cls d σ H) tk (fun _ _ σ _ h => h σ)) (pa_cons (pe_ix (k_ix K) (pv 2) (pe_int) (fun _ _ => rfl)) pa_nil)) (pe_meth (pv 1) T.cl_Cache T.m_Cache_touch (ok_Cache_touch T) (hr.mono (by decide)) T.b_Cache_touch .nil (passes_call (E := fun cls d H => ∀ σ, W cls d σ H) tk (fun _ _ σ _ h => h σ)) (pa_cons (pe_ix (k_ix K) (pv 2) (pe_int) (fun _ _ => rfl)) pa_nil))))))) (fun a oe cls d pn hz hf => (pss_one (ps_ret (pe_str)))))), ?_⟩
  obtain ⟨kd, c, as, rfl, k, o, rows, ar, xs, rfl, rfl, rfl, hs, hc, h0, h1, hQ⟩ := h
  walk_at "rd"
  refine r_eq rfl ?_
  walk_at "rd"
  have look1 : ∀ (v : V) (T0 : String), OfTy K H v T0 → T0 ∈ tyNames → within v 0 4095 = false → True := fun _ _ _ _ _ => trivial
  refine ite2 (fun e => ?_) (fun e => ?_)
  · have ek : k = 0 := by
      have := of_decide_eq_true e
      injection this
    obtain ⟨x0, x1, x2, T0, T1, T2, rfl, hty, m0, m1, m2, hbad⟩ := h0 ek
    walk_at "rd"
    refine rx_seqA hs (atI_nat (j := 0) rfl) ?_
    walk_at "rd"
    refine rx_seqA hs (atI_nat (j := 1) rfl) ?_
    walk_at "rd"
    refine rx_seqA hs (atI_nat (j := 2) rfl) ?_
    walk_at "rd"
    intro x dx hx hdx hne
    have s1 : Same H (upd (upd H dx (.own x)) x (.ins A.C_Cache dx [])) := fun a o ha => by
      unfold upd
      have q : a ≠ x := fun z => by rw [z, hx] at ha; cases ha
      have q2 : a ≠ dx := fun z => by rw [z, hdx] at ha; cases ha
      simp [q, q2]
      exact ha
    have e0 : upd (upd H dx (.own x)) x (.ins A.C_Cache dx []) x = some (.ins A.C_Cache dx []) := upd_same
    generalize upd (upd H dx (.own x)) x (.ins A.C_Cache dx []) = H1 at s1 e0 ⊢
    obtain ⟨t0, t1, t2⟩ := hty H1 s1
    refine ⟨.ref x, x0, x1, x2, rfl, x, dx, T0, T1, T2, rfl, e0, t0, m0, t1, m1, t2, m2, fun _ σ => ⟨true, T.e_NotRight_NotRight, fun _ a _ => ?_, fun z => by cases z⟩, fun n wi li e0 e1 e2 z0 z2 z1 => ?_⟩
    · walk_at "rd"
      exact hQ _ s1
    · rw [z0, z1, z2] at hbad
      cases hbad
  · have ek : k ≠ 0 := fun z => e (decide_eq_true (by rw [z]))
    obtain ⟨x, T0, rfl, ht, m0, hbad⟩ := h1 ek
    walk_at "rd"
    refine r_eq rfl ?_
    walk_at "rd"
    have no : ∀ n : Int, x = .int n → 0 ≤ n → n ≤ 4095 → False := fun n en p1 p2 => by
      rw [en] at hbad
      have q : (decide (0 ≤ n) && decide (n ≤ 4095)) = false := hbad
      rw [decide_eq_true p1, decide_eq_true p2] at q
      cases q
    refine ite2 (fun _ => ?_) (fun _ => ?_)
    · walk_at "rd"
      refine ⟨o.c, o.dx, cf o, rfl, hc.ins, lk_look o, ?_⟩
      walk_at "rd"
      refine rx_seqA hs (atI_nat (j := 0) rfl) ?_
      walk_at "rd"
      refine ⟨o, rows, T0, rfl, hc, ht, m0, fun _ σ => ⟨true, T.e_NotRight_NotRight, fun _ a _ => ?_, fun z => by cases z⟩, fun n e h1 h2 => (no n e h1 h2).elim⟩
      walk_at "rd"
      exact hQ _ (Same.refl _)
    · walk_at "rd"
      refine ⟨o.c, o.dx, cf o, rfl, hc.ins, lk_touch o, ?_⟩
      walk_at "rd"
      refine rx_seqA hs (atI_nat (j := 0) rfl) ?_
      walk_at "rd"
      refine ⟨o, rows, T0, rfl, hc, ht, m0, fun _ σ => ⟨true, T.e_NotRight_NotRight, fun _ a _ => ?_, fun z => by cases z⟩, fun n e h1 h2 => (no n e h1 h2).elim⟩
      walk_at "rd"
      exact hQ _ (Same.refl _)
abbrev sp__law_are_refused : Sp := Sp1 fun d H Q _ => ∃ l, d = .ref l ∧ Drw H l ∧ ∀ H', Q (.bl true) H'
/-- a value that is no thing on the heap -/
def Plain (y : V) : Prop := ∃ T, T ∈ tyNames ∧ ∀ (K : PySem.W.Frag) (H : Hp), OfTy K H y T
theorem pl_int (i : Int) : Plain (.int i) := ⟨"int", by decide, fun _ _ => ty_int⟩
theorem pl_bl (i : Bool) : Plain (.bl i) := ⟨"bool", by decide, fun _ _ => ty_bl⟩
theorem pl_non : Plain .non := ⟨"NoneType", by decide, fun _ _ => ty_non⟩
theorem pl_str (s : Str) : Plain (.str s) := ⟨"str", by decide, fun _ _ => ty_str⟩
def odds : List (List V) := [[.int 0, .int 3, .int 32, .int (-1), .bl true, .non, .str "2"], [.int 0, .int 5, .int (-1), .bl true, .non], [.int 0, .int 3, .int 16, .int (-1), .bl true, .non]]
def oddA : List V := [.int (-1), .int 4096, .bl true, .non, .str "5"]
theorem odds_ok {i : Nat} {ys : List V} {y : V} (h : odds[i]? = some ys) (hy : y ∈ ys) : i < 3 ∧ Plain y ∧ (i = 0 → szs y = false) ∧ (i = 1 → within y 1 4 = false) ∧ (i = 2 → lns y = false) := by
  rcases i with _ | _ | _ | i
  · cases h
    simp only [List.mem_cons, List.not_mem_nil, or_false] at hy
    rcases hy with rfl | rfl | rfl | rfl | rfl | rfl | rfl <;> exact ⟨by decide, by first | exact pl_int _ | exact pl_bl _ | exact pl_non | exact pl_str _, fun _ => by rfl, (fun z => by cases z), (fun z => by cases z)⟩
  · cases h
    simp only [List.mem_cons, List.not_mem_nil, or_false] at hy
    rcases hy with rfl | rfl | rfl | rfl | rfl <;> exact ⟨by decide, by first | exact pl_int _ | exact pl_bl _ | exact pl_non | exact pl_str _, (fun z => by cases z), fun _ => by rfl, fun z => by cases z⟩
  · cases h
    simp only [List.mem_cons, List.not_mem_nil, or_false] at hy
    rcases hy with rfl | rfl | rfl | rfl | rfl | rfl <;> exact ⟨by decide, by first | exact pl_int _ | exact pl_bl _ | exact pl_non | exact pl_str _, (fun z => by cases z), (fun z => by cases z), fun _ => by rfl⟩
  · simp [odds] at h
theorem oddA_ok {y : V} (hy : y ∈ oddA) : Plain y ∧ within y 0 4095 = false := by
  simp only [oddA, List.mem_cons, List.not_mem_nil, or_false] at hy
  rcases hy with rfl | rfl | rfl | rfl | rfl <;> exact ⟨by first | exact pl_int _ | exact pl_bl _ | exact pl_non | exact pl_str _, by rfl⟩
theorem ok__law_are_refused {P : Program} {w : World} {K : PySem.W.Frag} {mg : Str → Option Value} {base : Heap} {A : Adr} (T : Txt K mg A) : FnOk P w K mg base CX0 7 A.f__law_are_refused A.d__law_are_refused ["draws"] (sp__law_are_refused) := by
  refine T.F__law_are_refused.ok sc__law_are_refused (len1 _) (fun cdv AA outer s H vs Q E hr h => ?_)
  refine ⟨_, (pss_cons (ps_asg (pe_tup (pa_cons (pe_lst (pa_cons (pe_call (ok__law_pick T) (hr.mono (by decide)) rfl T.g__law_pick T.F__law_pick.kp T.b__law_pick .nil pass0 (pa_cons (pv 0) (pa_cons (pe_lst (pa_cons (pe_int) (pa_cons (pe_int) (pa_cons (pe_int) (pa_cons (pe_int) (pa_cons (pe_int) pa_nil)))))) pa_nil))) (pa_cons (pe_op op_add (pe_int) (pe_call (ok__law_take T) (hr.mono (by decide)) rfl T.g__law_take T.F__law_take.kp T.b__law_take .nil pass0 (pa_cons (pv 0) (pa_cons (pe_int) pa_nil)))) (pa_cons (pe_call (ok__law_pick T) (hr.mono (by decide)) rfl T.g__law_pick T.F__law_pick.kp T.b__law_pick .nil pass0 (pa_cons (pv 0) (pa_cons (pe_lst (pa_cons (pe_int) (pa_cons (pe_int) (pa_cons (pe_int) (pa_cons (pe_int) pa_nil))))) pa_nil))) pa_nil)))) (pa_cons (pe_make T.mk_Cache (ok_Cache___init__ T) (hr.mono (by decide)) rfl T.g_Cache T.b_Cache___init__ .nil passL (pa_cons (pe_int) (pa_cons (pe_int) (pa_cons (pe_int) pa_nil)))) pa_nil))) (k_gtup K rfl (pgs_cons (pg_name (i := 1) sc__law_are_refused.nd rfl (Or.inl rfl)) (pgs_cons (pg_name (i := 2) sc__law_are_refused.nd rfl (Or.inr rfl)) pgs_nil))))
      (pss_cons (ps_set (i := 3) sc__law_are_refused.nd rfl (Or.inl rfl) (pe_lst (pa_cons (pe_lst (pa_cons (pe_int) (pa_cons (pe_int) (pa_cons (pe_int) (pa_cons (pe_un un_neg (pe_int)) (pa_cons (pe_bl) (pa_cons (pe_non) (pa_cons (pe_str) pa_nil)))))))) (pa_cons (pe_lst (pa_cons (pe_int) (pa_cons (pe_int) (pa_cons (pe_un un_neg (pe_int)) (pa_cons (pe_bl) (pa_cons (pe_non) pa_nil)))))) (pa_cons (pe_lst (pa_cons (pe_int) (pa_cons (pe_int) (pa_cons (pe_int) (pa_cons (pe_un un_neg (pe_int)) (pa_cons (pe_bl) (pa_cons (pe_non) pa_nil))))))) pa_nil)))))
      (pss_cons (ps_for PassesOwn.never rfl (pi_range1 rfl T.z_range (pa_cons (pe_int) pa_nil)) (pg_name (i := 4) sc__law_are_refused.nd rfl (Or.inl rfl)) (pss_one (ps_for PassesOwn.never rfl (k_pilist K (pe_ix (k_ixL K) (pv 3) (pv 4) (fun _ _ => rfl))) (pg_name (i := 5) sc__law_are_refused.nd rfl (Or.inl rfl)) (pss_one (ps_if (pt_cmpR op_ne (pe_call (ok__law_refused T) (hr.mono (by decide)) rfl T.g__law_refused T.F__law_refused.kp T.b__law_refused .nil pass0 (pa_cons (pe_int) (pa_cons (pv 2) (pa_cons (pe_op op_cat (pe_op op_cat (pe_slice (k_slL K) (pv 1) po_none (po_some (pv 4))) (pe_lst (pa_cons (pv 5) pa_nil))) (pe_slice (k_slL K) (pv 1) (po_some (pe_op op_add (pv 4) (pe_int))) po_none)) pa_nil)))) (pe_str) (nomark _)) (pss_one (ps_ret (pe_bl))) pss_nil)))))
      (pss_cons (ps_expr (pe_meth (pv 2) T.cl_Cache T.m_Cache_look (ok_Cache_look T) (hr.mono (by decide)) T.b_Cache_look .nil passL (pa_cons (pe_int) pa_nil)))
      (pss_cons (ps_set (i := 3) sc__law_are_refused.nd rfl (Or.inl rfl) (pe_lst (pa_cons (pe_un un_neg (pe_int)) (pa_cons (pe_int) (pa_cons (pe_bl) (pa_cons (pe_non) (pa_cons (pe_str) pa_nil)))))))
      (pss_cons (ps_set (i := 6) sc__law_are_refused.nd rfl (Or.inl rfl) (pe_op op_cat (pe_lc (own := [("address", 7)]) rfl sc__law_are_refused.nd (k_pilist K (pv 3)) (blkOk_by (own := [("address", 7)]) (by kernel_rfl)) (fun _ _ _ _ _ => (pg_name (i := 7) sc__law_are_refused.nd rfl (Or.inl rfl))) (fun _ _ _ _ _ => pts_nil) (fun _ _ _ _ _ => (pe_call (ok__law_refused T) (hr.mono (by decide)) rfl T.g__law_refused T.F__law_refused.kp T.b__law_refused .nil pass0 (pa_cons (pe_int) (pa_cons (pv 2) (pa_cons (pe_tup (pa_cons (pv 7) pa_nil)) pa_nil)))))) (pe_lc (own := [("address", 7)]) rfl sc__law_are_refused.nd (k_pilist K (pv 3)) (blkOk_by (own := [("address", 7)]) (by kernel_rfl)) (fun _ _ _ _ _ => (pg_name (i := 7) sc__law_are_refused.nd rfl (Or.inl rfl))) (fun _ _ _ _ _ => pts_nil) (fun _ _ _ _ _ => (pe_call (ok__law_refused T) (hr.mono (by decide)) rfl T.g__law_refused T.F__law_refused.kp T.b__law_refused .nil pass0 (pa_cons (pe_int) (pa_cons (pv 2) (pa_cons (pe_tup (pa_cons (pv 7) pa_nil)) pa_nil))))))))
      (pss_one (ps_ret (pe_and (pe_cmpR (k_eqD K hr.units) (pv 6) (pe_op op_rep (pe_lst (pa_cons (pe_str) pa_nil)) (pe_int)) (nomark _)) (pe_one (pe_cmpR (k_eqD K hr.units) (pe_meth0 (pv 2) T.cl_Cache T.m_Cache_lines (ok_Cache_lines T) (hr.mono (by decide)) T.b_Cache_lines .nil pass0) (pe_tup (pa_cons (pe_tup (pa_cons (pe_int) pa_nil)) (pa_cons (pe_tup pa_nil) pa_nil))) (nomark _)))))))))))), ?_⟩
  obtain ⟨d, rfl, l, rfl, hD, hQ⟩ := h
  walk_at "rd"
  refine ⟨by show 5 ≤ sizeLine; decide, fun p np => ?_⟩
  generalize eH1 : upd H p _ = H1
  obtain ⟨s1, hp⟩ := of_upd eH1 np
  walk_at "rd"
  refine ⟨l, p, _, rfl, rfl, SqL.of hp, new_list np hD, by simp, hD.same s1, fun v H2 hv x2 d2 => ?_⟩
  obtain ⟨n, rfl⟩ : ∃ m : Int, v = .int m := by
    simp only [List.mem_cons, List.not_mem_nil, or_false] at hv
    rcases hv with h | h | h | h | h <;> exact ⟨_, h⟩
  clear hv
  walk_at "rd"
  refine ⟨l, 4, rfl, rfl, by decide, d2, fun wi0 H3 r0 r1 x3 d3 => ?_⟩
  walk_at "rd"
  generalize 1 + wi0 = wi
  walk_at "rd"
  refine ⟨by show 4 ≤ sizeLine; decide, fun p2 np2 => ?_⟩
  generalize eH4 : upd H3 p2 _ = H4
  obtain ⟨s4, hp2⟩ := of_upd eH4 np2
  walk_at "rd"
  refine ⟨l, p2, _, rfl, rfl, SqL.of hp2, new_list np2 d3, by simp, d3.same s4, fun v H5 hv x5 d5 => ?_⟩
  obtain ⟨li, rfl⟩ : ∃ m : Int, v = .int m := by
    simp only [List.mem_cons, List.not_mem_nil, or_false] at hv
    rcases hv with h | h | h | h <;> exact ⟨_, h⟩
  clear hv
  walk_at "rd"
  refine ⟨by show 3 ≤ sizeLine; decide, fun t nt => ?_⟩
  generalize eH6 : upd H5 t _ = H6
  obtain ⟨s6, ht⟩ := of_upd eH6 nt
  clear x5 s4 x3 x2 s1 hp hp2 d2 d3 d5 hD
  walk_at "rd"
  refine new_cache (n := 2) (wv := 2) (li := 2) (by rfl) (by rfl) (by rfl) fun o H7 s7 c7 wc7 lc7 f7 => ?_
  have ht7 := s7 _ _ ht
  walk_at "rd"
  refine ⟨by show 2 ≤ sizeLine; decide, fun t2 nt2 => ?_⟩
  generalize eH8 : upd H7 t2 _ = H8
  obtain ⟨s8, ht2⟩ := of_upd eH8 nt2
  walk_at "rd"
  refine g_tup (SqT.of ht2) rfl ?_
  walk_at "rd"
  refine ⟨by show 7 ≤ sizeLine; decide, fun q0 nq0 => ?_⟩
  generalize eH9 : upd H8 q0 _ = H9
  obtain ⟨s9, hq0⟩ := of_upd eH9 nq0
  walk_at "rd"
  refine ⟨by show 5 ≤ sizeLine; decide, fun q1 nq1 => ?_⟩
  generalize eHa : upd H9 q1 _ = Ha
  obtain ⟨sa, hq1⟩ := of_upd eHa nq1
  walk_at "rd"
  refine ⟨by show 6 ≤ sizeLine; decide, fun q2 nq2 => ?_⟩
  generalize eHb : upd Ha q2 _ = Hb
  obtain ⟨sb, hq2⟩ := of_upd eHb nq2
  walk_at "rd"
  refine ⟨by show 3 ≤ sizeLine; decide, fun od nod => ?_⟩
  generalize eHc : upd Hb od _ = Hc
  obtain ⟨sc, hod⟩ := of_upd eHc nod
  have htc : Hc t = some (.lst [.int n, .int wi, .int li]) := sc _ _ (sb _ _ (sa _ _ (s9 _ _ (s8 _ _ ht7))))
  have cc := c7.same (s8.trans (s9.trans (sa.trans (sb.trans sc))))
  have hqs : ∀ i : Nat, i < 3 → ∃ (q : Addr) (ys : List V), [V.ref q0, .ref q1, .ref q2][i]? = some (.ref q) ∧ odds[i]? = some ys ∧ Hc q = some (.lst ys) := fun i hi => by
    rcases i with _ | _ | _ | i
    · exact ⟨q0, _, rfl, rfl, sc _ _ (sb _ _ (sa _ _ hq0))⟩
    · exact ⟨q1, _, rfl, rfl, sc _ _ (sb _ _ hq1)⟩
    · exact ⟨q2, _, rfl, rfl, sc _ _ hq2⟩
    · omega
  clear hq0 hq1 hq2 eHa eHb eHc nq0 nq1 nq2 nod sa sb sc s9 eH9 s8 ht2 nt2 eH8 ht7 c7 s7 f7 nt eH6 s6 ht
  walk_at "rd"
  refine n_for1 (by decide) (fun i σ' H' => ∃ v4 v5 : Option V, σ' = [some (.ref l), some (.ref t), some (.ref o.c), some (.ref od), v4, v5, none, none] ∧ Same Hc H') ⟨none, none, rfl, Same.refl _⟩ ?_ ?_
  · rintro i σ' H1 hi ⟨v4, v5, rfl, s1⟩
    have hi3 : i < 3 := by omega
    obtain ⟨q, ys, hix, hys, hq⟩ := hqs i hi3
    walk_at "rd"
    refine r_ixL (SqL.of (s1 _ _ hod)) (atI_nat hix) ?_
    refine ⟨q, rfl, ⟨_, SqL.of (s1 _ _ hq)⟩, for_list (K := K) (a := q) (xs := ys) (fun j σ' H' => ∃ v5 : Option V, σ' = [some (.ref l), some (.ref t), some (.ref o.c), some (.ref od), some (.int (i : Int)), v5, none, none] ∧ Same Hc H') ⟨v5, rfl, s1⟩ (fun j σ' H' _ ⟨_, _, s⟩ => SqL.of (s _ _ hq)) ?_ ?_⟩
    · rintro j y σ' H2 hj ⟨v5, rfl, s2⟩
      obtain ⟨_, ⟨T0, m0, ty0⟩, b0, b1, b2⟩ := odds_ok hys (List.mem_of_getElem? hj)
      walk_at "rd"
      refine r_slL (SqL.of (s2 _ _ htc)) fun u1 H3 nu1 s3 hu1 => ?_
      rw [cutV_to] at hu1
      walk_at "rd"
      refine ⟨by show 1 ≤ sizeLine; decide, fun u2 nu2 => ?_⟩
      generalize eH4 : upd H3 u2 _ = H4
      obtain ⟨s4, hu2⟩ := of_upd eH4 nu2
      refine r_cat (s4 _ _ hu1) hu2 (le_line (by rw [List.length_take]; simp only [List.length_cons, List.length_nil]; omega)) fun u3 H5 nu3 s5 hu3 => ?_
      walk_at "rd"
      refine r_slL (SqL.of (s5 _ _ (s4 _ _ (s3 _ _ (s2 _ _ htc))))) fun u4 H6 nu4 s6 hu4 => ?_
      have ei : ((i : Int) + 1) = ((i + 1 : Nat) : Int) := rfl
      rw [ei, cutV_from] at hu4
      refine r_cat (s6 _ _ hu3) hu4 (le_line (by rw [List.length_append, List.length_take, List.length_drop]; simp only [List.length_cons, List.length_nil]; omega)) fun u5 H7 nu5 s7 hu5 => ?_
      walk_at "rd"
      have s27 : Same Hc H7 := s2.trans (s3.trans (s4.trans (s5.trans (s6.trans s7))))
      refine ⟨0, o, _, u5, _, rfl, rfl, rfl, .inl (SqL.of hu5), cc.same s27, fun _ => ?_, fun z => absurd rfl z, fun H8 s8 => ?_⟩
      · rcases i with _ | _ | _ | i
        · exact ⟨y, .int wi, .int li, T0, "int", "int", rfl, fun H' _ => ⟨ty0 K H', ty_int, ty_int⟩, m0, by decide, by decide, by rw [b0 rfl]; rfl⟩
        · exact ⟨.int n, y, .int li, "int", T0, "int", rfl, fun H' _ => ⟨ty_int, ty0 K H', ty_int⟩, by decide, m0, by decide, by rw [b1 rfl, Bool.and_false]⟩
        · exact ⟨.int n, .int wi, y, "int", "int", T0, rfl, fun H' _ => ⟨ty_int, ty_int, ty0 K H'⟩, by decide, by decide, m0, by rw [b2 rfl, Bool.and_false, Bool.false_and]⟩
        · omega
      · walk_at "rd"
        refine r_ne rfl ?_
        rw [decide_eq_true rfl]
        walk_at "rd"
        refine ite_f rfl ?_
        exact ⟨_, rfl, s27.trans s8⟩
    · rintro σ' H2 ⟨v5, rfl, s2⟩
      exact ⟨_, _, rfl, s2⟩
  · rintro σ' H1 ⟨v4, v5, rfl, s1⟩
    have c1 := cc.same s1
    walk_at "rd"
    refine ⟨o.c, o.dx, cf o, rfl, c1.ins, lk_look o, ?_⟩
    walk_at "rd"
    refine ⟨o, _, "int", rfl, c1, ty_int, by decide, (fun z => by cases z), fun n' en _ _ H2 x2 c2 => ?_⟩
    cases en
    rw [wc7, lc7] at c2
    clear c1 s1 cc
    walk_at "rd"
    refine ⟨by show 5 ≤ sizeLine; decide, fun q nq => ?_⟩
    generalize eH3 : upd H2 q _ = H3
    obtain ⟨s3, hq⟩ := of_upd eH3 nq
    have c3 := c2.same s3
    walk_at "rd"
    refine n_lcL (SqL.of ( hq)) (fun D i acc Hx => Same H3 Hx ∧ acc = List.replicate i (V.str "refused")) (fun D Hx n1 sx e1 => ⟨sx, rfl⟩) (fun D i acc Hx j => j.1.seq (SqL.of ( hq))) ?_ ?_
    · rintro D i y acc Hi nD hi hD ⟨si, rfl⟩
      have hy := oddA_ok (List.mem_of_getElem? hi)
      have hi5 : i < 5 := (List.getElem?_eq_some_iff.mp hi).1
      obtain ⟨⟨T0, m0, ty0⟩, bad⟩ := hy
      walk_at "rd"
      refine ⟨rfl, ?_⟩
      walk_at "rd"
      refine ⟨by show 1 ≤ sizeLine; decide, fun u nu => ?_⟩
      generalize eH5 : upd Hi u _ = H5
      obtain ⟨s5, hu⟩ := of_upd eH5 nu
      walk_at "rd"
      refine ⟨1, o, _, u, [y], rfl, rfl, rfl, .inr (SqT.of hu), c3.same (si.trans s5), fun z => absurd z (by decide), fun _ => ⟨y, T0, rfl, ty0 K _, m0, bad⟩, fun H6 s6 => ?_⟩
      walk_at "rd"
      refine lc_put (s6 _ _ (s5 _ _ hD)) (by rw [List.length_replicate]; exact lt_line (by omega)) fun H7 x7 e7 => ⟨fun b w e => x7.keep b w (fun q => ne_of_none e nD (List.mem_singleton.mp q)) (s6 _ _ (s5 _ _ (si _ _ e))), List.replicate_succ'.symm⟩
    rintro D1 acc H4 nD1 hD1 ⟨s4, rfl⟩
    walk_at "rd"
    refine n_lcL (SqL.of (s4 _ _ hq)) (fun D i acc Hx => Same H4 Hx ∧ acc = List.replicate i (V.str "refused")) (fun D Hx n1 sx e1 => ⟨sx, rfl⟩) (fun D i acc Hx j => j.1.seq (SqL.of (s4 _ _ hq))) ?_ ?_
    · rintro D i y acc Hi nD hi hD ⟨si, rfl⟩
      have hy := oddA_ok (List.mem_of_getElem? hi)
      have hi5 : i < 5 := (List.getElem?_eq_some_iff.mp hi).1
      obtain ⟨⟨T0, m0, ty0⟩, bad⟩ := hy
      walk_at "rd"
      refine ⟨rfl, ?_⟩
      walk_at "rd"
      refine ⟨by show 1 ≤ sizeLine; decide, fun u nu => ?_⟩
      generalize eH5 : upd Hi u _ = H5
      obtain ⟨s5, hu⟩ := of_upd eH5 nu
      walk_at "rd"
      refine ⟨2, o, _, u, [y], rfl, rfl, rfl, .inr (SqT.of hu), (c3.same s4).same (si.trans s5), fun z => absurd z (by decide), fun _ => ⟨y, T0, rfl, ty0 K _, m0, bad⟩, fun H6 s6 => ?_⟩
      walk_at "rd"
      refine lc_put (s6 _ _ (s5 _ _ hD)) (by rw [List.length_replicate]; exact lt_line (by omega)) fun H7 x7 e7 => ⟨fun b w e => x7.keep b w (fun q => ne_of_none e nD (List.mem_singleton.mp q)) (s6 _ _ (s5 _ _ (si _ _ e))), List.replicate_succ'.symm⟩
    rintro D2 acc H5 nD2 hD2 ⟨s5, rfl⟩
    walk_at "rd"
    refine r_cat (s5 _ _ hD1) hD2 (show 5 + 5 ≤ sizeLine from le_line (by decide)) fun tl H6 ntl s6 htl => ?_
    have htl' : H6 tl = some (.lst (List.replicate 10 (V.str "refused"))) := htl
    walk_at "rd"
    refine ⟨by show 1 ≤ sizeLine; decide, fun u nu => ?_⟩
    generalize eH7 : upd H6 u _ = H7
    obtain ⟨s7, hu⟩ := of_upd eH7 nu
    walk_at "rd"
    refine r_repL hu (by decide) (by decide) (le_line (by decide)) fun w2 H8 nw2 s8 hw2 => ?_
    have hw2' : H8 w2 = some (.lst (List.replicate 10 (V.str "refused"))) := hw2
    have dps : ∀ (H : Hp) (m : Nat), DpAll K H (List.replicate m (V.str "refused")) (List.replicate m (PyData.str "refused")) := fun H m => by
      induction m with
      | zero => exact .nil
      | succ m ih =>
        rw [List.replicate_succ, List.replicate_succ]
        exact .cons (.str _) ih
    refine r_eqD (.lst (SqL.of (s8 _ _ (s7 _ _ htl'))) (dps _ _)) (.lst (SqL.of hw2') (dps _ _)) (by decide +kernel) (by decide +kernel) ?_
    rw [show PyData.eqv (.list (List.replicate 10 (PyData.str "refused"))) (.list (List.replicate 10 (PyData.str "refused"))) = true from by decide +kernel]
    walk_at "rd"
    have c8 := ((((c3.same s4).same s5).same s6).same s7).same s8
    refine ⟨o.c, o.dx, cf o, rfl, c8.ins, lk_lines o, ?_⟩
    walk_at "rd"
    refine ⟨o, _, rfl, c8, by decide, fun v H9 s9 fz => ?_⟩
    rw [lc7] at fz
    walk_at "rd"
    refine ⟨by show 1 ≤ sizeLine; decide, fun u1 nu1 => ?_⟩
    generalize eHa : upd H9 u1 _ = Ha
    obtain ⟨sa, hu1⟩ := of_upd eHa nu1
    walk_at "rd"
    refine ⟨Nat.zero_le _, fun u2 nu2 => ?_⟩
    generalize eHb : upd Ha u2 _ = Hb
    obtain ⟨sb, hu2⟩ := of_upd eHb nu2
    walk_at "rd"
    refine ⟨by show 2 ≤ sizeLine; decide, fun u3 nu3 => ?_⟩
    generalize eHc : upd Hb u3 _ = Hc
    obtain ⟨sc, hu3⟩ := of_upd eHc nu3
    walk_at "rd"
    refine r_eqD (fz.same (sa.trans (sb.trans sc))).dp (.tup (SqT.of hu3) (.cons (.tup (SqT.of (sc _ _ (sb _ _ hu1))) (.cons (.int 4) .nil)) (.cons (.tup (SqT.of (sc _ _ hu2)) .nil) .nil))) (by decide +kernel) (by decide +kernel) ?_
    rw [show PyData.eqv (linesM 2 (lookM 2 (List.replicate (2 : Int).toNat []) (5 / 2)).2) (.tuple [.tuple [.int 4], .tuple []]) = true from by decide +kernel]
    walk_at "rd"
    exact hQ _
abbrev sp_law (K : PySem.W.Frag) : Sp := Sp1 fun s H Q _ => ∃ (a : Addr) (ns : List Int), s = .ref a ∧ SqL K H a (ns.map V.int) ∧ ns.length ≤ 63 ∧ ∀ H', Q (.bl true) H'
theorem ok_law {P : Program} {w : World} {K : PySem.W.Frag} {mg : Str → Option Value} {base : Heap} {A : Adr} (T : Txt K mg A) : FnOk P w K mg base CX0 10 A.f_law A.d_law ["script"] (sp_law K) := by
  refine T.F_law.ok sc_law (len1 _) (fun cdv AA outer s H vs Q E hr h => ?_)
  refine ⟨_, (pss_cons (ps_set (i := 1) sc_law.nd rfl (Or.inl rfl) (pe_call (ok__law_draws T) (hr.mono (by decide)) rfl T.g__law_draws T.F__law_draws.kp T.b__law_draws .nil pass0 (pa_cons (pv 0) pa_nil)))
      (pss_cons (ps_for PassesOwn.never rfl (pi_range1 rfl T.z_range (pa_cons (pe_int) pa_nil)) (pg_name (i := 2) sc_law.nd rfl (Or.inl rfl)) (pss_one (ps_if (pt_not (pt_val (pe_call (ok__law_is_course_due T) (hr.mono (by decide)) rfl T.g__law_is_course_due T.F__law_is_course_due.kp T.b__law_is_course_due .nil pass0 (pa_cons (pv 1) pa_nil)))) (pss_one (ps_ret (pe_bl))) pss_nil)))
      (pss_one (ps_ret (pe_call (ok__law_are_refused T) (hr.mono (by decide)) rfl T.g__law_are_refused T.F__law_are_refused.kp T.b__law_are_refused .nil pass0 (pa_cons (pv 1) pa_nil)))))), ?_⟩
  obtain ⟨s1, rfl, a, ns, rfl, hS, hlen, hQ⟩ := h
  walk_at "rd"
  refine ⟨a, ns, rfl, hS, hlen, fun p H1 ds s1 np hp hl => ?_⟩
  have d1 : Drw H1 p := ⟨ds, hp⟩
  walk_at "rd"
  refine n_for1 (by decide) (fun i σ' H' => ∃ v2 : Option V, σ' = [some (.ref a), some (.ref p), v2] ∧ Drw H' p) ⟨none, rfl, d1⟩ ?_ ?_
  · rintro i σ' H2 hi ⟨v2, rfl, d2⟩
    walk_at "rd"
    refine ⟨p, rfl, d2, fun H3 _ d3 => ?_⟩
    walk_at "rd"
    refine ite_f rfl ?_
    walk_at "rd"
    exact ⟨_, rfl, d3⟩
  · rintro σ' H2 ⟨v2, rfl, d2⟩
    walk_at "rd"
    exact ⟨p, rfl, d2, fun H3 => hQ H3⟩
theorem sp_law_top {K : PySem.W.Frag} (H : Hp) (a : Addr) (ns : List Int) (hl : ns.length ≤ 63) (hS : SqL K H a (ns.map V.int)) : sp_law K [.ref a] H (fun v _ => v = .bl true) fun _ _ _ => False :=
  ⟨.ref a, rfl, a, ns, rfl, hS, hl, fun _ => rfl⟩
theorem all_mk {K : PySem.W.Frag} {h : Heap} {mg : Str → Option Value} (X : K.In h) (G : h.Ns mainGlobals mg)
    {fa0 fa1 fa2 fa3 fa4 fa5 fa6 fa7 fa8 fa9 fa10 fa11 fa12 fa13 fa14 fa15 fa16 fa17 fa18 fa19 fa20 C_CoreError C_NotRight C_Cache a_MOST_SETS a_LINES : Addr}
    {t_ADDRESSES t_MOST_WAYS : Tok}
    {dd_MOST_SETS dd_LINES : Option Addr} {its_MOST_SETS its_LINES : Array Value} {n_MOST_SETS n_LINES : Nat} {sl_MOST_SETS sl_LINES : Array (Option Value)}
    {od0 an0 od1 an1 od2 an2 od3 an3 od4 an4 od5 an5 od6 an6 od7 an7 od8 an8 od9 an9 od10 an10 od11 an11 od12 an12 od13 an13 od14 an14 od15 an15 od16 an16 od17 an17 od18 an18 od19 an19 od20 an20 : Option Addr}
    {sl0 sl1 sl2 sl3 sl4 sl5 sl6 sl7 sl8 sl9 sl10 sl11 sl12 sl13 sl14 sl15 sl16 sl17 sl18 sl19 sl20 : Array (Option Value)}
    {oc0 kV0 dc0 pm0 cd0 ct0 oc1 kV1 dc1 pm1 cd1 ct1 oc2 kV2 dc2 pm2 cd2 ct2 oc3 kV3 dc3 pm3 cd3 ct3 oc4 kV4 dc4 pm4 cd4 ct4 oc5 kV5 dc5 pm5 cd5 ct5 oc6 kV6 dc6 pm6 cd6 ct6 oc7 kV7 dc7 pm7 cd7 ct7 oc8 kV8 dc8 pm8 cd8 ct8 oc9 kV9 dc9 pm9 cd9 ct9 oc10 kV10 dc10 pm10 cd10 ct10 oc11 kV11 dc11 pm11 cd11 ct11 oc12 kV12 dc12 pm12 cd12 ct12 oc13 kV13 dc13 pm13 cd13 ct13 oc14 kV14 dc14 pm14 cd14 ct14 oc15 kV15 dc15 pm15 cd15 ct15 oc16 kV16 dc16 pm16 cd16 ct16 oc17 kV17 dc17 pm17 cd17 ct17 oc18 kV18 dc18 pm18 cd18 ct18 oc19 kV19 dc19 pm19 cd19 ct19 oc20 kV20 dc20 pm20 cd20 ct20 : Value}
    (l0 : K.lookup fa0 = some ⟨oc0, od0, .func (PySem.W.fnOf "check" "check" (defArgs s_check) (defBody s_check) (defScope s_check) .none kV0 dc0 pm0 an0 cd0 ct0), sl0⟩)
    (c0 : PySem.W.codeIn K cd0 "check" = true)
    (k0 : PySem.W.keepIn K (.ref fa0) = true)
    (a0 : PySem.W.nsIn K mainGlobals "check" = some (some (.ref fa0)))
    (l1 : K.lookup fa1 = some ⟨oc1, od1, .func (PySem.W.fnOf "is_integer" "is_integer" (defArgs s_is_integer) (defBody s_is_integer) (defScope s_is_integer) .none kV1 dc1 pm1 an1 cd1 ct1), sl1⟩)
    (c1 : PySem.W.codeIn K cd1 "is_integer" = true)
    (k1 : PySem.W.keepIn K (.ref fa1) = true)
    (a1 : PySem.W.nsIn K mainGlobals "is_integer" = some (some (.ref fa1)))
    (l2 : K.lookup fa2 = some ⟨oc2, od2, .func (PySem.W.fnOf "is_within" "is_within" (defArgs s_is_within) (defBody s_is_within) (defScope s_is_within) .none kV2 dc2 pm2 an2 cd2 ct2), sl2⟩)
    (c2 : PySem.W.codeIn K cd2 "is_within" = true)
    (k2 : PySem.W.keepIn K (.ref fa2) = true)
    (a2 : PySem.W.nsIn K mainGlobals "is_within" = some (some (.ref fa2)))
    (l3 : K.lookup fa3 = some ⟨oc3, od3, .func (PySem.W.fnOf "is_address" "is_address" (defArgs s_is_address) (defBody s_is_address) (defScope s_is_address) .none kV3 dc3 pm3 an3 cd3 ct3), sl3⟩)
    (c3 : PySem.W.codeIn K cd3 "is_address" = true)
    (k3 : PySem.W.keepIn K (.ref fa3) = true)
    (a3 : PySem.W.nsIn K mainGlobals "is_address" = some (some (.ref fa3)))
    (l4 : K.lookup fa4 = some ⟨oc4, od4, .func (PySem.W.fnOf "is_cache" "is_cache" (defArgs s_is_cache) (defBody s_is_cache) (defScope s_is_cache) .none kV4 dc4 pm4 an4 cd4 ct4), sl4⟩)
    (c4 : PySem.W.codeIn K cd4 "is_cache" = true)
    (k4 : PySem.W.keepIn K (.ref fa4) = true)
    (a4 : PySem.W.nsIn K mainGlobals "is_cache" = some (some (.ref fa4)))
    (l5 : K.lookup fa5 = some ⟨oc5, od5, .func (PySem.W.fnOf "__init__" "Cache.__init__" (defArgs s_Cache___init__) (defBody s_Cache___init__) (defScope s_Cache___init__) .none kV5 dc5 pm5 an5 cd5 ct5), sl5⟩)
    (c5 : PySem.W.codeIn K cd5 "Cache.__init__" = true)
    (k5 : PySem.W.keepIn K (.ref fa5) = true)
    (a5 : PySem.W.findIn K (.ref C_Cache) "__init__" = some (some (.ref fa5)))
    (i5 : PySem.W.isFn K (.ref fa5) = true)
    (mk_Cache : PySem.W.makesIn K C_Cache = true)
    (kc_Cache : PySem.W.keepIn K (.ref C_Cache) = true)
    (l6 : K.lookup fa6 = some ⟨oc6, od6, .func (PySem.W.fnOf "row_of" "Cache.row_of" (defArgs s_Cache_row_of) (defBody s_Cache_row_of) (defScope s_Cache_row_of) .none kV6 dc6 pm6 an6 cd6 ct6), sl6⟩)
    (c6 : PySem.W.codeIn K cd6 "Cache.row_of" = true)
    (k6 : PySem.W.keepIn K (.ref fa6) = true)
    (a6 : PySem.W.findIn K (.ref C_Cache) "row_of" = some (some (.ref fa6)))
    (i6 : PySem.W.isFn K (.ref fa6) = true)
    (l7 : K.lookup fa7 = some ⟨oc7, od7, .func (PySem.W.fnOf "look" "Cache.look" (defArgs s_Cache_look) (defBody s_Cache_look) (defScope s_Cache_look) .none kV7 dc7 pm7 an7 cd7 ct7), sl7⟩)
    (c7 : PySem.W.codeIn K cd7 "Cache.look" = true)
    (k7 : PySem.W.keepIn K (.ref fa7) = true)
    (a7 : PySem.W.findIn K (.ref C_Cache) "look" = some (some (.ref fa7)))
    (i7 : PySem.W.isFn K (.ref fa7) = true)
    (l8 : K.lookup fa8 = some ⟨oc8, od8, .func (PySem.W.fnOf "touch" "Cache.touch" (defArgs s_Cache_touch) (defBody s_Cache_touch) (defScope s_Cache_touch) .none kV8 dc8 pm8 an8 cd8 ct8), sl8⟩)
    (c8 : PySem.W.codeIn K cd8 "Cache.touch" = true)
    (k8 : PySem.W.keepIn K (.ref fa8) = true)
    (a8 : PySem.W.findIn K (.ref C_Cache) "touch" = some (some (.ref fa8)))
    (i8 : PySem.W.isFn K (.ref fa8) = true)
    (l9 : K.lookup fa9 = some ⟨oc9, od9, .func (PySem.W.fnOf "lines" "Cache.lines" (defArgs s_Cache_lines) (defBody s_Cache_lines) (defScope s_Cache_lines) .none kV9 dc9 pm9 an9 cd9 ct9), sl9⟩)
    (c9 : PySem.W.codeIn K cd9 "Cache.lines" = true)
    (k9 : PySem.W.keepIn K (.ref fa9) = true)
    (a9 : PySem.W.findIn K (.ref C_Cache) "lines" = some (some (.ref fa9)))
    (i9 : PySem.W.isFn K (.ref fa9) = true)
    (l10 : K.lookup fa10 = some ⟨oc10, od10, .func (PySem.W.fnOf "_law_draws" "_law_draws" (defArgs s__law_draws) (defBody s__law_draws) (defScope s__law_draws) .none kV10 dc10 pm10 an10 cd10 ct10), sl10⟩)
    (c10 : PySem.W.codeIn K cd10 "_law_draws" = true)
    (k10 : PySem.W.keepIn K (.ref fa10) = true)
    (a10 : PySem.W.nsIn K mainGlobals "_law_draws" = some (some (.ref fa10)))
    (l11 : K.lookup fa11 = some ⟨oc11, od11, .func (PySem.W.fnOf "_law_take" "_law_take" (defArgs s__law_take) (defBody s__law_take) (defScope s__law_take) .none kV11 dc11 pm11 an11 cd11 ct11), sl11⟩)
    (c11 : PySem.W.codeIn K cd11 "_law_take" = true)
    (k11 : PySem.W.keepIn K (.ref fa11) = true)
    (a11 : PySem.W.nsIn K mainGlobals "_law_take" = some (some (.ref fa11)))
    (l12 : K.lookup fa12 = some ⟨oc12, od12, .func (PySem.W.fnOf "_law_pick" "_law_pick" (defArgs s__law_pick) (defBody s__law_pick) (defScope s__law_pick) .none kV12 dc12 pm12 an12 cd12 ct12), sl12⟩)
    (c12 : PySem.W.codeIn K cd12 "_law_pick" = true)
    (k12 : PySem.W.keepIn K (.ref fa12) = true)
    (a12 : PySem.W.nsIn K mainGlobals "_law_pick" = some (some (.ref fa12)))
    (l13 : K.lookup fa13 = some ⟨oc13, od13, .func (PySem.W.fnOf "_law_same" "_law_same" (defArgs s__law_same) (defBody s__law_same) (defScope s__law_same) .none kV13 dc13 pm13 an13 cd13 ct13), sl13⟩)
    (c13 : PySem.W.codeIn K cd13 "_law_same" = true)
    (k13 : PySem.W.keepIn K (.ref fa13) = true)
    (a13 : PySem.W.nsIn K mainGlobals "_law_same" = some (some (.ref fa13)))
    (l14 : K.lookup fa14 = some ⟨oc14, od14, .func (PySem.W.fnOf "_law_looked" "_law_looked" (defArgs s__law_looked) (defBody s__law_looked) (defScope s__law_looked) .none kV14 dc14 pm14 an14 cd14 ct14), sl14⟩)
    (c14 : PySem.W.codeIn K cd14 "_law_looked" = true)
    (k14 : PySem.W.keepIn K (.ref fa14) = true)
    (a14 : PySem.W.nsIn K mainGlobals "_law_looked" = some (some (.ref fa14)))
    (l15 : K.lookup fa15 = some ⟨oc15, od15, .func (PySem.W.fnOf "_law_shown" "_law_shown" (defArgs s__law_shown) (defBody s__law_shown) (defScope s__law_shown) .none kV15 dc15 pm15 an15 cd15 ct15), sl15⟩)
    (c15 : PySem.W.codeIn K cd15 "_law_shown" = true)
    (k15 : PySem.W.keepIn K (.ref fa15) = true)
    (a15 : PySem.W.nsIn K mainGlobals "_law_shown" = some (some (.ref fa15)))
    (l16 : K.lookup fa16 = some ⟨oc16, od16, .func (PySem.W.fnOf "_law_address" "_law_address" (defArgs s__law_address) (defBody s__law_address) (defScope s__law_address) .none kV16 dc16 pm16 an16 cd16 ct16), sl16⟩)
    (c16 : PySem.W.codeIn K cd16 "_law_address" = true)
    (k16 : PySem.W.keepIn K (.ref fa16) = true)
    (a16 : PySem.W.nsIn K mainGlobals "_law_address" = some (some (.ref fa16)))
    (l17 : K.lookup fa17 = some ⟨oc17, od17, .func (PySem.W.fnOf "_law_is_course_due" "_law_is_course_due" (defArgs s__law_is_course_due) (defBody s__law_is_course_due) (defScope s__law_is_course_due) .none kV17 dc17 pm17 an17 cd17 ct17), sl17⟩)
    (c17 : PySem.W.codeIn K cd17 "_law_is_course_due" = true)
    (k17 : PySem.W.keepIn K (.ref fa17) = true)
    (a17 : PySem.W.nsIn K mainGlobals "_law_is_course_due" = some (some (.ref fa17)))
    (l18 : K.lookup fa18 = some ⟨oc18, od18, .func (PySem.W.fnOf "_law_refused" "_law_refused" (defArgs s__law_refused) (defBody s__law_refused) (defScope s__law_refused) .none kV18 dc18 pm18 an18 cd18 ct18), sl18⟩)
    (c18 : PySem.W.codeIn K cd18 "_law_refused" = true)
    (k18 : PySem.W.keepIn K (.ref fa18) = true)
    (a18 : PySem.W.nsIn K mainGlobals "_law_refused" = some (some (.ref fa18)))
    (l19 : K.lookup fa19 = some ⟨oc19, od19, .func (PySem.W.fnOf "_law_are_refused" "_law_are_refused" (defArgs s__law_are_refused) (defBody s__law_are_refused) (defScope s__law_are_refused) .none kV19 dc19 pm19 an19 cd19 ct19), sl19⟩)
    (c19 : PySem.W.codeIn K cd19 "_law_are_refused" = true)
    (k19 : PySem.W.keepIn K (.ref fa19) = true)
    (a19 : PySem.W.nsIn K mainGlobals "_law_are_refused" = some (some (.ref fa19)))
    (l20 : K.lookup fa20 = some ⟨oc20, od20, .func (PySem.W.fnOf "law" "law" (defArgs s_law) (defBody s_law) (defScope s_law) .none kV20 dc20 pm20 an20 cd20 ct20), sl20⟩)
    (c20 : PySem.W.codeIn K cd20 "law" = true)
    (k20 : PySem.W.keepIn K (.ref fa20) = true)
    (a20 : PySem.W.nsIn K mainGlobals "law" = some (some (.ref fa20)))
    (aC_CoreError : PySem.W.nsIn K mainGlobals "CoreError" = some (some (.ref C_CoreError)))
    (k_CoreError : PySem.W.keepIn K (.ref C_CoreError) = true)
    (bx_CoreError : PySem.W.subIn K (.ref C_CoreError) (.type "BaseException") = some true)
    (tx_CoreError : PySem.W.typeIn K (.ref C_CoreError) = some (.type "type"))
    (ic_CoreError : PySem.W.isClsIn K C_CoreError = true)
    (aC_NotRight : PySem.W.nsIn K mainGlobals "NotRight" = some (some (.ref C_NotRight)))
    (k_NotRight : PySem.W.keepIn K (.ref C_NotRight) = true)
    (bx_NotRight : PySem.W.subIn K (.ref C_NotRight) (.type "BaseException") = some true)
    (tx_NotRight : PySem.W.typeIn K (.ref C_NotRight) = some (.type "type"))
    (ic_NotRight : PySem.W.isClsIn K C_NotRight = true)
    (x_NotRight : PySem.W.excIn K C_NotRight [.type "Exception", .type "BaseException", .type "object"] "Exception.__new__" = true)
    (s_NotRight_NotRight : PySem.W.subIn K (.ref C_NotRight) (.ref C_NotRight) = some true)
    (aC_Cache : PySem.W.nsIn K mainGlobals "Cache" = some (some (.ref C_Cache)))
    (pg_Cache : PySem.W.plainGet K C_Cache Str.empty = true)
    (hd_Cache : PySem.W.hasDictIn K C_Cache = true)
    (po_Cache : PySem.W.plainOver K C_Cache = true)
    (sa_Cache : PySem.W.findIn K (.ref C_Cache) "__setattr__" = some (some (.builtin "object.__setattr__")))
    (n_Cache_rows : PySem.W.findIn K (.ref C_Cache) "rows" = some none)
    (n_Cache_ways : PySem.W.findIn K (.ref C_Cache) "ways" = some none)
    (n_Cache_line : PySem.W.findIn K (.ref C_Cache) "line" = some none)
    (aK_ADDRESSES : PySem.W.nsIn K mainGlobals "ADDRESSES" = some (some (.int 4096 t_ADDRESSES)))
    (aK_MOST_SETS : PySem.W.nsIn K mainGlobals "MOST_SETS" = some (some (.ref a_MOST_SETS)))
    (lK_MOST_SETS : K.lookup a_MOST_SETS = some ⟨.type "tuple", dd_MOST_SETS, .seq its_MOST_SETS n_MOST_SETS, sl_MOST_SETS⟩)
    (zK_MOST_SETS : its_MOST_SETS.size ≤ sizeLine)
    (vK_MOST_SETS : Vals [V.int 1, V.int 2, V.int 4, V.int 8, V.int 16] its_MOST_SETS.toList)
    (aK_MOST_WAYS : PySem.W.nsIn K mainGlobals "MOST_WAYS" = some (some (.int 4 t_MOST_WAYS)))
    (aK_LINES : PySem.W.nsIn K mainGlobals "LINES" = some (some (.ref a_LINES)))
    (lK_LINES : K.lookup a_LINES = some ⟨.type "tuple", dd_LINES, .seq its_LINES n_LINES, sl_LINES⟩)
    (zK_LINES : its_LINES.size ≤ sizeLine)
    (vK_LINES : Vals [V.int 1, V.int 2, V.int 4, V.int 8] its_LINES.toList)
    (z_abs : PySem.W.nsIn K mainGlobals "abs" = some none)
    (z_bool : PySem.W.nsIn K mainGlobals "bool" = some none)
    (z_dict : PySem.W.nsIn K mainGlobals "dict" = some none)
    (z_int : PySem.W.nsIn K mainGlobals "int" = some none)
    (z_isinstance : PySem.W.nsIn K mainGlobals "isinstance" = some none)
    (z_len : PySem.W.nsIn K mainGlobals "len" = some none)
    (z_list : PySem.W.nsIn K mainGlobals "list" = some none)
    (z_max : PySem.W.nsIn K mainGlobals "max" = some none)
    (z_min : PySem.W.nsIn K mainGlobals "min" = some none)
    (z_range : PySem.W.nsIn K mainGlobals "range" = some none)
    (z_reversed : PySem.W.nsIn K mainGlobals "reversed" = some none)
    (z_str : PySem.W.nsIn K mainGlobals "str" = some none)
    (z_tuple : PySem.W.nsIn K mainGlobals "tuple" = some none)
    : ∃ A : Adr, Txt K mg A := by
  refine ⟨⟨fa0, PySem.W.fnOf "check" "check" (defArgs s_check) (defBody s_check) (defScope s_check) .none kV0 dc0 pm0 an0 cd0 ct0, fa1, PySem.W.fnOf "is_integer" "is_integer" (defArgs s_is_integer) (defBody s_is_integer) (defScope s_is_integer) .none kV1 dc1 pm1 an1 cd1 ct1, fa2, PySem.W.fnOf "is_within" "is_within" (defArgs s_is_within) (defBody s_is_within) (defScope s_is_within) .none kV2 dc2 pm2 an2 cd2 ct2, fa3, PySem.W.fnOf "is_address" "is_address" (defArgs s_is_address) (defBody s_is_address) (defScope s_is_address) .none kV3 dc3 pm3 an3 cd3 ct3, fa4, PySem.W.fnOf "is_cache" "is_cache" (defArgs s_is_cache) (defBody s_is_cache) (defScope s_is_cache) .none kV4 dc4 pm4 an4 cd4 ct4, fa5, PySem.W.fnOf "__init__" "Cache.__init__" (defArgs s_Cache___init__) (defBody s_Cache___init__) (defScope s_Cache___init__) .none kV5 dc5 pm5 an5 cd5 ct5, fa6, PySem.W.fnOf "row_of" "Cache.row_of" (defArgs s_Cache_row_of) (defBody s_Cache_row_of) (defScope s_Cache_row_of) .none kV6 dc6 pm6 an6 cd6 ct6, fa7, PySem.W.fnOf "look" "Cache.look" (defArgs s_Cache_look) (defBody s_Cache_look) (defScope s_Cache_look) .none kV7 dc7 pm7 an7 cd7 ct7, fa8, PySem.W.fnOf "touch" "Cache.touch" (defArgs s_Cache_touch) (defBody s_Cache_touch) (defScope s_Cache_touch) .none kV8 dc8 pm8 an8 cd8 ct8, fa9, PySem.W.fnOf "lines" "Cache.lines" (defArgs s_Cache_lines) (defBody s_Cache_lines) (defScope s_Cache_lines) .none kV9 dc9 pm9 an9 cd9 ct9, fa10, PySem.W.fnOf "_law_draws" "_law_draws" (defArgs s__law_draws) (defBody s__law_draws) (defScope s__law_draws) .none kV10 dc10 pm10 an10 cd10 ct10, fa11, PySem.W.fnOf "_law_take" "_law_take" (defArgs s__law_take) (defBody s__law_take) (defScope s__law_take) .none kV11 dc11 pm11 an11 cd11 ct11, fa12, PySem.W.fnOf "_law_pick" "_law_pick" (defArgs s__law_pick) (defBody s__law_pick) (defScope s__law_pick) .none kV12 dc12 pm12 an12 cd12 ct12, fa13, PySem.W.fnOf "_law_same" "_law_same" (defArgs s__law_same) (defBody s__law_same) (defScope s__law_same) .none kV13 dc13 pm13 an13 cd13 ct13, fa14, PySem.W.fnOf "_law_looked" "_law_looked" (defArgs s__law_looked) (defBody s__law_looked) (defScope s__law_looked) .none kV14 dc14 pm14 an14 cd14 ct14, fa15, PySem.W.fnOf "_law_shown" "_law_shown" (defArgs s__law_shown) (defBody s__law_shown) (defScope s__law_shown) .none kV15 dc15 pm15 an15 cd15 ct15, fa16, PySem.W.fnOf "_law_address" "_law_address" (defArgs s__law_address) (defBody s__law_address) (defScope s__law_address) .none kV16 dc16 pm16 an16 cd16 ct16, fa17, PySem.W.fnOf "_law_is_course_due" "_law_is_course_due" (defArgs s__law_is_course_due) (defBody s__law_is_course_due) (defScope s__law_is_course_due) .none kV17 dc17 pm17 an17 cd17 ct17, fa18, PySem.W.fnOf "_law_refused" "_law_refused" (defArgs s__law_refused) (defBody s__law_refused) (defScope s__law_refused) .none kV18 dc18 pm18 an18 cd18 ct18, fa19, PySem.W.fnOf "_law_are_refused" "_law_are_refused" (defArgs s__law_are_refused) (defBody s__law_are_refused) (defScope s__law_are_refused) .none kV19 dc19 pm19 an19 cd19 ct19, fa20, PySem.W.fnOf "law" "law" (defArgs s_law) (defBody s_law) (defScope s_law) .none kV20 dc20 pm20 an20 cd20 ct20, C_CoreError, C_NotRight, C_Cache, t_ADDRESSES, a_MOST_SETS, t_MOST_WAYS, a_LINES⟩, ?_⟩
  exact {
    F_check := fun_mk l0 c0 k0
    b_check := (fun_mk (st := s_check) l0 c0 k0).binds (ps := ["is_right"]) fun _ _ _ _ _ _ us hl => match us, hl with | [_], _ => rfl
    g_check := PySem.W.mg_of X G a0
    F_is_integer := fun_mk l1 c1 k1
    b_is_integer := (fun_mk (st := s_is_integer) l1 c1 k1).binds (ps := ["value"]) fun _ _ _ _ _ _ us hl => match us, hl with | [_], _ => rfl
    g_is_integer := PySem.W.mg_of X G a1
    F_is_within := fun_mk l2 c2 k2
    b_is_within := (fun_mk (st := s_is_within) l2 c2 k2).binds (ps := ["value", "low", "high"]) fun _ _ _ _ _ _ us hl => match us, hl with | [_, _, _], _ => rfl
    g_is_within := PySem.W.mg_of X G a2
    F_is_address := fun_mk l3 c3 k3
    b_is_address := (fun_mk (st := s_is_address) l3 c3 k3).binds (ps := ["value"]) fun _ _ _ _ _ _ us hl => match us, hl with | [_], _ => rfl
    g_is_address := PySem.W.mg_of X G a3
    F_is_cache := fun_mk l4 c4 k4
    b_is_cache := (fun_mk (st := s_is_cache) l4 c4 k4).binds (ps := ["sets", "ways", "line"]) fun _ _ _ _ _ _ us hl => match us, hl with | [_, _, _], _ => rfl
    g_is_cache := PySem.W.mg_of X G a4
    F_Cache___init__ := fun_mk l5 c5 k5
    b_Cache___init__ := (fun_mk (st := s_Cache___init__) l5 c5 k5).binds (ps := ["self", "sets", "ways", "line"]) fun _ _ _ _ _ _ us hl => match us, hl with | [_, _, _, _], _ => rfl
    mk_Cache := ⟨mk_Cache, a5, i5, kc_Cache⟩
    F_Cache_row_of := fun_mk l6 c6 k6
    b_Cache_row_of := (fun_mk (st := s_Cache_row_of) l6 c6 k6).binds (ps := ["self", "number"]) fun _ _ _ _ _ _ us hl => match us, hl with | [_, _], _ => rfl
    m_Cache_row_of := ⟨a6, i6, k6⟩
    F_Cache_look := fun_mk l7 c7 k7
    b_Cache_look := (fun_mk (st := s_Cache_look) l7 c7 k7).binds (ps := ["self", "address"]) fun _ _ _ _ _ _ us hl => match us, hl with | [_, _], _ => rfl
    m_Cache_look := ⟨a7, i7, k7⟩
    F_Cache_touch := fun_mk l8 c8 k8
    b_Cache_touch := (fun_mk (st := s_Cache_touch) l8 c8 k8).binds (ps := ["self", "address"]) fun _ _ _ _ _ _ us hl => match us, hl with | [_, _], _ => rfl
    m_Cache_touch := ⟨a8, i8, k8⟩
    F_Cache_lines := fun_mk l9 c9 k9
    b_Cache_lines := (fun_mk (st := s_Cache_lines) l9 c9 k9).binds (ps := ["self"]) fun _ _ _ _ _ _ us hl => match us, hl with | [_], _ => rfl
    m_Cache_lines := ⟨a9, i9, k9⟩
    F__law_draws := fun_mk l10 c10 k10
    b__law_draws := (fun_mk (st := s__law_draws) l10 c10 k10).binds (ps := ["script"]) fun _ _ _ _ _ _ us hl => match us, hl with | [_], _ => rfl
    g__law_draws := PySem.W.mg_of X G a10
    F__law_take := fun_mk l11 c11 k11
    b__law_take := (fun_mk (st := s__law_take) l11 c11 k11).binds (ps := ["draws", "bound"]) fun _ _ _ _ _ _ us hl => match us, hl with | [_, _], _ => rfl
    g__law_take := PySem.W.mg_of X G a11
    F__law_pick := fun_mk l12 c12 k12
    b__law_pick := (fun_mk (st := s__law_pick) l12 c12 k12).binds (ps := ["draws", "some"]) fun _ _ _ _ _ _ us hl => match us, hl with | [_, _], _ => rfl
    g__law_pick := PySem.W.mg_of X G a12
    F__law_same := fun_mk l13 c13 k13
    b__law_same := (fun_mk (st := s__law_same) l13 c13 k13).binds (ps := ["actual", "due"]) fun _ _ _ _ _ _ us hl => match us, hl with | [_, _], _ => rfl
    g__law_same := PySem.W.mg_of X G a13
    F__law_looked := fun_mk l14 c14 k14
    b__law_looked := (fun_mk (st := s__law_looked) l14 c14 k14).binds (ps := ["sets", "ways", "line", "address", "does_come"]) fun _ _ _ _ _ _ us hl => match us, hl with | [_, _, _, _, _], _ => rfl
    g__law_looked := PySem.W.mg_of X G a14
    F__law_shown := fun_mk l15 c15 k15
    b__law_shown := (fun_mk (st := s__law_shown) l15 c15 k15).binds (ps := ["sets"]) fun _ _ _ _ _ _ us hl => match us, hl with | [_], _ => rfl
    g__law_shown := PySem.W.mg_of X G a15
    F__law_address := fun_mk l16 c16 k16
    b__law_address := (fun_mk (st := s__law_address) l16 c16 k16).binds (ps := ["draws", "sizes", "lately"]) fun _ _ _ _ _ _ us hl => match us, hl with | [_, _, _], _ => rfl
    g__law_address := PySem.W.mg_of X G a16
    F__law_is_course_due := fun_mk l17 c17 k17
    b__law_is_course_due := (fun_mk (st := s__law_is_course_due) l17 c17 k17).binds (ps := ["draws"]) fun _ _ _ _ _ _ us hl => match us, hl with | [_], _ => rfl
    g__law_is_course_due := PySem.W.mg_of X G a17
    F__law_refused := fun_mk l18 c18 k18
    b__law_refused := (fun_mk (st := s__law_refused) l18 c18 k18).binds (ps := ["kind", "cache", "args"]) fun _ _ _ _ _ _ us hl => match us, hl with | [_, _, _], _ => rfl
    g__law_refused := PySem.W.mg_of X G a18
    F__law_are_refused := fun_mk l19 c19 k19
    b__law_are_refused := (fun_mk (st := s__law_are_refused) l19 c19 k19).binds (ps := ["draws"]) fun _ _ _ _ _ _ us hl => match us, hl with | [_], _ => rfl
    g__law_are_refused := PySem.W.mg_of X G a19
    F_law := fun_mk l20 c20 k20
    b_law := (fun_mk (st := s_law) l20 c20 k20).binds (ps := ["script"]) fun _ _ _ _ _ _ us hl => match us, hl with | [_], _ => rfl
    g_law := PySem.W.mg_of X G a20
    g_CoreError := PySem.W.mg_of X G aC_CoreError
    k_CoreError := k_CoreError
    bx_CoreError := bx_CoreError
    tx_CoreError := tx_CoreError
    ic_CoreError := ic_CoreError
    g_NotRight := PySem.W.mg_of X G aC_NotRight
    k_NotRight := k_NotRight
    bx_NotRight := bx_NotRight
    tx_NotRight := tx_NotRight
    ic_NotRight := ic_NotRight
    x_NotRight := x_NotRight
    e_NotRight_NotRight := exm_mk bx_NotRight bx_NotRight ic_NotRight tx_NotRight s_NotRight_NotRight
    g_Cache := PySem.W.mg_of X G aC_Cache
    cl_Cache := ⟨pg_Cache, hd_Cache, po_Cache, sa_Cache⟩
    n_Cache_rows := n_Cache_rows
    n_Cache_ways := n_Cache_ways
    n_Cache_line := n_Cache_line
    g_ADDRESSES := PySem.W.mg_of X G aK_ADDRESSES
    g_MOST_SETS := PySem.W.mg_of X G aK_MOST_SETS
    s_MOST_SETS := fun H => .inr ⟨_, its_MOST_SETS, n_MOST_SETS, lK_MOST_SETS, rfl, rfl, zK_MOST_SETS, vK_MOST_SETS⟩
    g_MOST_WAYS := PySem.W.mg_of X G aK_MOST_WAYS
    g_LINES := PySem.W.mg_of X G aK_LINES
    s_LINES := fun H => .inr ⟨_, its_LINES, n_LINES, lK_LINES, rfl, rfl, zK_LINES, vK_LINES⟩
    z_abs := PySem.W.mg_none_of X G z_abs
    z_bool := PySem.W.mg_none_of X G z_bool
    z_dict := PySem.W.mg_none_of X G z_dict
    z_int := PySem.W.mg_none_of X G z_int
    z_isinstance := PySem.W.mg_none_of X G z_isinstance
    z_len := PySem.W.mg_none_of X G z_len
    z_list := PySem.W.mg_none_of X G z_list
    z_max := PySem.W.mg_none_of X G z_max
    z_min := PySem.W.mg_none_of X G z_min
    z_range := PySem.W.mg_none_of X G z_range
    z_reversed := PySem.W.mg_none_of X G z_reversed
    z_str := PySem.W.mg_none_of X G z_str
    z_tuple := PySem.W.mg_none_of X G z_tuple
  }
theorem walk {l : PySem.W.OpenLaw} {q : Program} {loose : List Str} {XP : (Str → Option Value) → Heap → Prop} {YP : World → Heap → Prop} {d : DefRec} {K : Params → PySem.W.Frag} (hn : l.most = some 63) (hdf : d.params.defaults = [])
    (hY : ∀ (w : World) (h : Heap), YP w h → (K w.params).In h)
    (F : ∀ (w : World) (mg : Str → Option Value) (fa : Addr) (h : Heap), (K w.params).In h → h.Ns mainGlobals mg → mg d.name = some (.ref fa) →
      ∃ fd : FuncData, (∀ (s : Shared) (u : Value), BindsTo s fd ⟨[u], []⟩ [("script", u)]) ∧ ∀ base : Heap, (K w.params).In base → base.Ns mainGlobals mg → FnOk l.prog w (K w.params) mg base CX0 10 fa fd ["script"] (sp_law (K w.params))) :
    PySem.W.WalkO q loose XP YP l.row.toRowW d [] (fun f vs => PySem.call f vs) :=
  L2.walk_of (n := 63) (k := 10) (x := "script") (CX := fun _ => CX0) (sp := fun w => sp_law (K w.params)) hn (by decide) hdf ⟨rfl, by decide, by decide⟩ hY F (fun _ H a ns hl _ hS => sp_law_top H a ns hl hS) fun _ _ _ _ _ z => z
theorem fin {P : Program} {w : World} {K : PySem.W.Frag} {mg : Str → Option Value} {fa : Addr} (hmg : mg "law" = some (.ref fa)) (q : ∃ A : Adr, Txt K mg A) :
    ∃ fd : FuncData, (∀ (s : Shared) (u : Value), BindsTo s fd ⟨[u], []⟩ [("script", u)]) ∧ ∀ base : Heap, K.In base → base.Ns mainGlobals mg → FnOk P w K mg base CX0 10 fa fd ["script"] (sp_law K) := by
  obtain ⟨A, T⟩ := q
  have hA : A.f_law = fa := Value.ref.inj (Option.some.inj ((T.g_law).symm.trans hmg))
  subst hA
  obtain ⟨oc, od, kV, doc, pm, an, cdv, ct, osl, e, lk, hcd⟩ := T.F_law.ex
  exact ⟨A.d_law, fun s v => by rw [e]; exact .of_eq rfl, fun base _ _ => ok_law T⟩
end K03

open PySem PySem.W PyProof.Rows in
set_option maxRecDepth 100000 in
set_option maxHeartbeats 0 in
theorem PySem.Challenge.cw_retiredastold_k03_whole_caches_by_rows_o_holds : PySem.Challenge.rw_retiredastold_k03_whole_caches_by_rows_o.Holds := by
  w_on; o_law; k_head; (case hw => w_witness2)
  k_fill
  refine K03.walk (l := PySem.Challenge.rw_retiredastold_k03_whole_caches_by_rows_o) rfl rfl (fun w h Y => PySem.W.kIn_of Y) ?F
  case F =>
    intro w mg fa h KX G hmg
    refine K03.fin hmg ?_
    refine' K03.all_mk KX G ?l0 ?c0 ?k0 ?a0 ?l1 ?c1 ?k1 ?a1 ?l2 ?c2 ?k2 ?a2 ?l3 ?c3 ?k3 ?a3 ?l4 ?c4 ?k4 ?a4 ?l5 ?c5 ?k5 ?a5 ?i5 ?mk_Cache ?kc_Cache ?l6 ?c6 ?k6 ?a6 ?i6 ?l7 ?c7 ?k7 ?a7 ?i7 ?l8 ?c8 ?k8 ?a8 ?i8 ?l9 ?c9 ?k9 ?a9 ?i9 ?l10 ?c10 ?k10 ?a10 ?l11 ?c11 ?k11 ?a11 ?l12 ?c12 ?k12 ?a12 ?l13 ?c13 ?k13 ?a13 ?l14 ?c14 ?k14 ?a14 ?l15 ?c15 ?k15 ?a15 ?l16 ?c16 ?k16 ?a16 ?l17 ?c17 ?k17 ?a17 ?l18 ?c18 ?k18 ?a18 ?l19 ?c19 ?k19 ?a19 ?l20 ?c20 ?k20 ?a20 ?aC_CoreError ?k_CoreError ?bx_CoreError ?tx_CoreError ?ic_CoreError ?aC_NotRight ?k_NotRight ?bx_NotRight ?tx_NotRight ?ic_NotRight ?x_NotRight ?s_NotRight_NotRight ?aC_Cache ?pg_Cache ?hd_Cache ?po_Cache ?sa_Cache ?n_Cache_rows ?n_Cache_ways ?n_Cache_line ?aK_ADDRESSES ?aK_MOST_SETS ?lK_MOST_SETS ?zK_MOST_SETS ?vK_MOST_SETS ?aK_MOST_WAYS ?aK_LINES ?lK_LINES ?zK_LINES ?vK_LINES ?z_abs ?z_bool ?z_dict ?z_int ?z_isinstance ?z_len ?z_list ?z_max ?z_min ?z_range ?z_reversed ?z_str ?z_tuple
    (case aC_CoreError => k_is)
    (case aC_NotRight => k_is)
    (case aC_Cache => k_is)
    (case aK_ADDRESSES => k_is)
    (case aK_MOST_SETS => k_is)
    (case aK_MOST_WAYS => k_is)
    (case aK_LINES => k_is)
    (case a0 => k_is)
    (case a1 => k_is)
    (case a2 => k_is)
    (case a3 => k_is)
    (case a4 => k_is)
    (case a5 => k_is)
    (case a6 => k_is)
    (case a7 => k_is)
    (case a8 => k_is)
    (case a9 => k_is)
    (case a10 => k_is)
    (case a11 => k_is)
    (case a12 => k_is)
    (case a13 => k_is)
    (case a14 => k_is)
    (case a15 => k_is)
    (case a16 => k_is)
    (case a17 => k_is)
    (case a18 => k_is)
    (case a19 => k_is)
    (case a20 => k_is)
    (case l0 => k_is)
    (case l1 => k_is)
    (case l2 => k_is)
    (case l3 => k_is)
    (case l4 => k_is)
    (case l5 => k_is)
    (case l6 => k_is)
    (case l7 => k_is)
    (case l8 => k_is)
    (case l9 => k_is)
    (case l10 => k_is)
    (case l11 => k_is)
    (case l12 => k_is)
    (case l13 => k_is)
    (case l14 => k_is)
    (case l15 => k_is)
    (case l16 => k_is)
    (case l17 => k_is)
    (case l18 => k_is)
    (case l19 => k_is)
    (case l20 => k_is)
    (case lK_MOST_SETS => k_is)
    (case lK_LINES => k_is)
    (case c0 => k_is)
    (case k0 => k_is)
    (case c1 => k_is)
    (case k1 => k_is)
    (case c2 => k_is)
    (case k2 => k_is)
    (case c3 => k_is)
    (case k3 => k_is)
    (case c4 => k_is)
    (case k4 => k_is)
    (case c5 => k_is)
    (case k5 => k_is)
    (case i5 => k_is)
    (case mk_Cache => k_is)
    (case kc_Cache => k_is)
    (case c6 => k_is)
    (case k6 => k_is)
    (case i6 => k_is)
    (case c7 => k_is)
    (case k7 => k_is)
    (case i7 => k_is)
    (case c8 => k_is)
    (case k8 => k_is)
    (case i8 => k_is)
    (case c9 => k_is)
    (case k9 => k_is)
    (case i9 => k_is)
    (case c10 => k_is)
    (case k10 => k_is)
    (case c11 => k_is)
    (case k11 => k_is)
    (case c12 => k_is)
    (case k12 => k_is)
    (case c13 => k_is)
    (case k13 => k_is)
    (case c14 => k_is)
    (case k14 => k_is)
    (case c15 => k_is)
    (case k15 => k_is)
    (case c16 => k_is)
    (case k16 => k_is)
    (case c17 => k_is)
    (case k17 => k_is)
    (case c18 => k_is)
    (case k18 => k_is)
    (case c19 => k_is)
    (case k19 => k_is)
    (case c20 => k_is)
    (case k20 => k_is)
    (case k_CoreError => k_is)
    (case bx_CoreError => k_is)
    (case tx_CoreError => k_is)
    (case ic_CoreError => k_is)
    (case k_NotRight => k_is)
    (case bx_NotRight => k_is)
    (case tx_NotRight => k_is)
    (case ic_NotRight => k_is)
    (case x_NotRight => k_exc)
    (case s_NotRight_NotRight => k_is)
    (case pg_Cache => k_is)
    (case hd_Cache => k_is)
    (case po_Cache => k_is)
    (case sa_Cache => k_is)
    (case n_Cache_rows => k_is)
    (case n_Cache_ways => k_is)
    (case n_Cache_line => k_is)
    (case zK_MOST_SETS => first | decide | (simp only [sizeLine_eq]; decide))
    (case vK_MOST_SETS => repeat (first | exact Paired.nil | refine Paired.cons ⟨_, rfl⟩ ?_))
    (case zK_LINES => first | decide | (simp only [sizeLine_eq]; decide))
    (case vK_LINES => repeat (first | exact Paired.nil | refine Paired.cons ⟨_, rfl⟩ ?_))
    (case z_abs => k_is)
    (case z_bool => k_is)
    (case z_dict => k_is)
    (case z_int => k_is)
    (case z_isinstance => k_is)
    (case z_len => k_is)
    (case z_list => k_is)
    (case z_max => k_is)
    (case z_min => k_is)
    (case z_range => k_is)
    (case z_reversed => k_is)
    (case z_str => k_is)
    (case z_tuple => k_is)
#print axioms PySem.Challenge.cw_retiredastold_k03_whole_caches_by_rows_o_holds
