import PyProof.Rows.All
import Wide.All
import OpenK.AllK
import Wide.FinOn
import HandS.Rev
import PyProof.CollectWalk
import PySem.Syntax
import HandS.ForMost
import HandS.Wide
import HandS.Style
import HandS.Flow
import HandS.TupAny
import HandS.Deep
import HandS.IsInst
import HandS.Zip
import HandS.TupMul
import HandS.Head0
import HandS.Head1
import HandS.Head2
import HandS.HeadEnd
import HandS.HeadHook1
import HandS.HeadHook2
import PySem.Challenge.RW_idealkept_k13_continued_fractions_and_sq
set_option Elab.async false
set_option linter.all false
set_option maxRecDepth 100000
set_option maxHeartbeats 0
/-! tuple(reversed(a tuple)). -/
namespace RvT
open PySem PySem.Spec PyProof.Rows L2 RT

theorem noLen : typeLookup (.type "reversed") "__len__" = pure none := by
  rw [typeLookup_type, builtinLookup_eq_fast]
  kernel_rfl
theorem slotHint : Slot "reversed" "__length_hint__" "reversed.__length_hint__" := by
  refine .of (owner := "reversed") (n := "__length_hint__") ?_ (by decide +kernel) (by decide +kernel) (by decide +kernel) ?_ ?_
  · rw [typeLookup_type, builtinLookup_eq_fast]
    kernel_rfl
  · first | exact .inl (by decide +kernel) | exact .inr (by decide +kernel)
  · rw [isSubtype_type]
    kernel_rfl
theorem entryHint : entryFor table "reversed.__length_hint__" = some Builtin.«reversed.__length_hint__» := entryFor_of_tree (by kernel_rfl)
theorem argsHint (a : Value) : argsOk "reversed.__length_hint__" ⟨[a], []⟩ := by
  unfold argsOk
  rw [signature?_of (id := "reversed.__length_hint__") (n := ['_', '_', 't', 'n', 'i', 'h', '_', 'h', 't', 'g', 'n', 'e', 'l', '_', '_']) (by kernel_rfl) owner_rt]
  kernel_rfl
variable {prog : Program} {w : World} {A : Around} {E : Value → Shared → Prop} {s : Shared}
theorem call_hint {it t : Addr} {items : Array Value} {Q : Value → Shared → Prop} (hit : IsRt s.heap it t ((items.size : Int) - 1)) (ht : IsTup s.heap t items)
    (hlen : ∀ (A : Around) (E : Value → Shared → Prop) (Q : Value → Shared → Prop), Q (.int items.size (s.toks + 1)) { s with toks := s.toks + 1 + 1 } → wpAny (model prog w) A (call (.builtin "len") [.ref t]) Q E s)
    (h : ∀ tk tk', Q (.int items.size tk) { s with toks := tk' }) : wpAny (model prog w) A (call (.builtin "reversed.__length_hint__") [.ref it]) Q E s := by
  obtain ⟨o, ho, hc, hd⟩ := id hit
  refine wpAny_call_entry slotHint hit.typeIs entryHint ?_ (argsHint _)
  unfold Builtin.«reversed.__length_hint__»
  refine wpAny_bind (wpAny_of_eq (a := Value.ref it) rfl ?_)
  refine wpAny_bind (wpAny_field ho hd (x := .ref t) rfl ?_)
  rw [if_neg (show ¬ (Value.ref t == Value.none) = true from fun h => by cases h)]
  refine wpAny_bind (hlen _ _ _ ?_)
  refine wpAny_bind (wpAny_of_eq (a := some ((items.size : Nat) : Int)) rfl ?_)
  refine wpAny_bind (wpAny_field (s := { s with toks := s.toks + 1 + 1 }) ho hd (x := rawInt ((items.size : Int) - 1)) rfl ?_)
  show wpAny _ _ (if ((items.size : Nat) : Int) < (items.size : Int) - 1 + 1 then _ else _) _ _ _
  rw [if_neg (by omega)]
  rw [show ((items.size : Int) - 1 + 1) = (items.size : Int) by omega]
  unfold retInt
  refine wpAny_bind (wpAny_mkInt ?_)
  exact wpAny_pure ⟨_, rfl, h _ _⟩
theorem tup_at {h h' : Heap} {t : Addr} {items : Array Value} (x : IsTup h t items) (e : ∀ o, h.get? t = some o → h'.get? t = some o) : IsTup h' t items := by
  obtain ⟨o, ho, r⟩ := x
  exact ⟨o, e _ ho, r⟩
theorem walkRt (hh : A.handled = none) (I t : Addr) (hne : t ≠ I) (items : Array Value) (hsz : items.size ≤ sizeLine) :
    Walks prog w A I [I, t] [I] items.size (fun i v => items[items.size - 1 - i]? = some v) (fun i h => i ≤ items.size ∧ (IsRt h I t ((items.size : Int) - 1 - (i : Int)) ∧ IsTup h t items)) where
  sub := fun b hb => by simp at hb; simp [hb]
  frame := fun _ _ _ x hk => ⟨x.1, x.2.1.at (fun o e => hk I (by simp) o e), tup_at x.2.2 (fun o e => hk t (by simp) o e)⟩
  item := fun i s Q E hi x hQ => by
    have e1 : (items.size : Int) - 1 - (i : Int) = ((items.size - 1 - i : Nat) : Int) := by omega
    have hit := x.2.1
    rw [e1] at hit
    have hx : items[items.size - 1 - i]? = some (items[items.size - 1 - i]'(by omega)) := Array.getElem?_eq_getElem (by omega)
    refine next_rt_item hit x.2.2 hx hsz fun h' hit' hs' => ?_
    have e3 : ((items.size - 1 - i : Nat) : Int) - 1 = (items.size : Int) - 1 - ((i + 1 : Nat) : Int) := by omega
    rw [e3] at hit'
    exact hQ _ h' (s.toks + 1) hx ⟨hi, hit', tup_at x.2.2 (fun o eo => (hs'.2 t hne).trans eo)⟩ (fun b o hb eo => (hs'.2 b (fun z => hb (by simp [z]))).trans eo)
  done := fun s Q E x hQ => by
    have e1 : (items.size : Int) - 1 - (items.size : Int) = -1 := by omega
    have hit := x.2.1
    rw [e1] at hit
    exact next_rt_end hh hit (fun h' he => hQ h' s.toks (fun b o hb eo => he b o (fun z => hb (by simp [z])) eo))
  self := fun _ _ _ _ x hQ => iter_rt x.2.1 hQ
theorem collect_rt {it t : Addr} {items : Array Value} {Q : List Value → Shared → Prop} (hh : A.handled = none) (hit : IsRt s.heap it t ((items.size : Int) - 1)) (ht : IsTup s.heap t items) (hne : t ≠ it) (hn : items.size ≤ sizeLine)
    (hQ : ∀ (h' : Heap) (tk : Nat) (acc : Array Value), (∀ b o, b ≠ it → s.heap.get? b = some o → h'.get? b = some o) → ItemsOf (fun i v => items[items.size - 1 - i]? = some v) acc items.size → Q acc.toList { s with heap := h', toks := tk }) :
    wpAny (model prog w) A (collect (.ref it)) Q E s := by
  have W := (walkRt (prog := prog) (w := w) (A := A.in1) hh it t hne items hn).toS
  obtain ⟨oi, hoi, _⟩ := id hit
  obtain ⟨ot, hot, _⟩ := id ht
  have n1 : s.heap.objs.size ≠ it := Nat.ne_of_gt (Heap.lt_size hoi)
  have n2 : s.heap.objs.size ≠ t := Nat.ne_of_gt (Heap.lt_size hot)
  have n3 : s.heap.objs.size ∉ [it, t] := by
    simp only [List.mem_cons, List.not_mem_nil, or_false, not_or]
    exact ⟨n1, n2⟩
  unfold collect
  refine wpAny_bind (wpAny_runValue (codeAny_builtin F.entry_proto_collect ?_))
  rw [Around.under_plainId F.plain_proto_collect _]
  refine wpAny_bind (wpAny_newObj_type ?_)
  refine wpAny_pure ⟨plainId_quiet F.plain_list_iadd _, codeAny_builtin F.entry_list_iadd ?_⟩
  rw [Around.under_plainId F.plain_list_iadd _]
  have hS₁ : (s.heap.push { cls := .type "list", data := .seq #[] }).get? s.heap.objs.size = some { cls := .type "list", data := .seq #[] } := Heap.get?_push_size _ rfl
  have hit1 : IsRt (s.heap.push { cls := .type "list", data := .seq #[] }) it t ((items.size : Int) - 1) := hit.at fun o e => Heap.get?_push_of_some _ e
  have ht1 : IsTup (s.heap.push { cls := .type "list", data := .seq #[] }) t items := tup_at ht fun o e => Heap.get?_push_of_some _ e
  generalize hs1 : ({ s with heap := s.heap.push { cls := .type "list", data := .seq #[] } } : Shared) = s1
  have hT : s1.TypeIs (.ref it) "reversed" := by subst hs1; exact IsRt.typeIs (s := { s with heap := s.heap.push { cls := .type "list", data := .seq #[] } }) hit1
  have hns : Builtin.List.listSameRef (.ref s.heap.objs.size) (.ref it) = false := by simp [Builtin.List.listSameRef, n1]
  show wpAny _ A.in1 (Builtin.List.listExtendWith (.ref s.heap.objs.size) (.ref it) (.ref s.heap.objs.size)) _ _ _
  unfold Builtin.List.listExtendWith
  refine wpAny_bind (wpAny_typeOf hT ?_)
  rw [if_neg (by rw [hns]; decide)]
  refine wpAny_bind (iter_rt (t := t) (i := (items.size : Int) - 1) (by subst hs1; exact hit1) ?_)
  refine wpAny_bind (wpAny_holding ?_)
  have hint : ∀ (Q' : Bool → Shared → Prop) (E' : Value → Shared → Prop), (∀ tk, Q' (decide (items.size ≠ 0)) { s1 with toks := tk }) → wpAny (model prog w) A.in1 (Builtin.List.listLengthHint (.ref it)) Q' E' s1 := fun Q' E' hq => by
    unfold Builtin.List.listLengthHint
    refine wpAny_bind (wpAny_specialOf hT noLen ?_)
    show wpAny _ A.in1 (specialOf (Value.ref it) (Str.ofString "__length_hint__") >>= _) _ _ _
    refine wpAny_bind (wpAny_specialOf hT slotHint.lookup ?_)
    generalize hid : ("reversed.__length_hint__" : String) = id0
    wp_delta
    rw [show splitId id0 = some ("reversed", "__length_hint__") from by subst hid; decide +kernel]
    subst hid
    refine wpAny_bind (wpAny_isInstance (b := true) hT (by rw [isSubtype_type]; kernel_rfl) ?_)
    rw [if_neg (show ¬ (!true) = true by decide)]
    dsimp only
    rw [if_neg (by decide +kernel)]
    refine wpAny_bind (wpAny_rule ?_)
    rw [slotHint.bind]
    refine wpAny_bind (wpAny_pure ?_)
    dsimp only
    have l63 := line63
    have hit2 : IsRt s1.heap it t ((items.size : Int) - 1) := by subst hs1; exact hit1
    have ht2 : IsTup s1.heap t items := by subst hs1; exact ht1
    have h63 : (items.size : Int) < 2 ^ 63 := by omega
    refine wpAny_bind (wpAny_attempt (call_hint hit2 ht2 (fun A E Q k => len_tuple ht2 h63 k) fun tk tk' => ?_))
    show wpAny _ A.in1 (asInt? (Value.int (items.size : Int) tk) >>= _) _ _ _
    generalize hz : (items.size : Int) = z
    refine wpAny_bind (wpAny_of_eq (a := some z) rfl ?_)
    subst hz
    dsimp only
    rw [if_neg (show ¬ (!Builtin.List.listFitsIndex (items.size : Int)) = true from ?_), if_neg (show ¬ ((items.size : Int) < 0) by omega), if_neg (show ¬ Builtin.List.listTooLong (items.size : Int).toNat = true from ?_)]
    · refine wpAny_pure ?_
      have e : ((items.size : Int) != 0) = decide (items.size ≠ 0) := by
        by_cases h0 : items.size = 0
        · simp [h0]
        · simp [h0]
      rw [e]
      exact hq _
    · simp only [Builtin.List.listTooLong, Int.toNat_natCast, decide_eq_true_eq]
      omega
    · have hf : Builtin.List.listFitsIndex (items.size : Int) = true := by
        unfold Builtin.List.listFitsIndex
        simp only [Bool.and_eq_true, decide_eq_true_eq]
        omega
      rw [hf]
      decide
  refine hint _ _ fun tk => ?_
  subst hs1
  by_cases h0 : items.size = 0
  · rw [show decide (items.size ≠ 0) = false from by simp [h0]]
    dsimp only
    rw [if_neg (by decide +kernel)]
    have e0 : (items.size : Int) - 1 - ((0 : Nat) : Int) = (items.size : Int) - 1 := by omega
    refine wpAny_pure ⟨plainId_quiet F.plain_extend_loop _, codeAny_extend_loopS W hn _ n3 _ items.size 0 _ _ _ rfl (Nat.zero_le _) ⟨Nat.zero_le _, by rw [e0]; exact hit1, ht1⟩ hS₁ (ItemsOf.nil _) fun s' acc' c' hm hS' hacc => ?_⟩
    show wpAny _ A (load s.heap.objs.size >>= _) _ _ s'
    refine wpAny_bind (wpAny_load hS' (wpAny_pure ?_))
    rw [Moved.eq_with hm]
    refine hQ s'.heap s'.toks acc' (fun b o hb e => hm.heap b o (fun hmem => ?_) (Heap.get?_push_of_some _ e)) hacc
    rcases List.mem_cons.mp hmem with e' | hmem
    · exact absurd (Heap.lt_size e) (by rw [e']; exact Nat.lt_irrefl _)
    · exact hb (List.mem_singleton.mp hmem)
  · rw [show decide (items.size ≠ 0) = true from by simp [h0]]
    dsimp only
    rw [if_pos (by rfl)]
    refine wpAny_bind (wpAny_rule (wpAny_bind ?_))
    show wpAny _ A.in1 (updateSeq s.heap.objs.size (fun xs => xs.push .none) >>= fun _ => updateSeq s.heap.objs.size fun xs => xs.pop) _ _ _
    refine wpAny_bind (wpAny_updateSeq hS₁ rfl ?_)
    have g2 := Heap.get?_update_self (Obj.mapSeq (·.push Value.none)) hS₁ rfl
    refine wpAny_updateSeq g2 rfl ?_
    have g3 := Heap.get?_update_self (Obj.mapSeq (·.pop)) g2 rfl
    have oth : ∀ b o, b ≠ s.heap.objs.size → s.heap.get? b = some o → (((s.heap.push { cls := .type "list", data := .seq #[] }).update s.heap.objs.size (Obj.mapSeq (·.push Value.none))).update s.heap.objs.size (Obj.mapSeq (·.pop))).get? b = some o :=
      fun b o hb e => (Heap.get?_update_other _ _ (Ne.symm hb)).trans ((Heap.get?_update_other _ _ (Ne.symm hb)).trans (Heap.get?_push_of_some _ e))
    have e0 : (items.size : Int) - 1 - ((0 : Nat) : Int) = (items.size : Int) - 1 := by omega
    refine wpAny_pure ⟨plainId_quiet F.plain_extend_loop _, codeAny_extend_loopS W hn _ n3 _ items.size 0 _ _ _ rfl (Nat.zero_le _) ⟨Nat.zero_le _, by rw [e0]; exact (hit.at fun o e => oth it o (Ne.symm n1) e), tup_at ht fun o e => oth t o (Ne.symm n2) e⟩ g3 (ItemsOf.nil _) fun s' acc' c' hm hS' hacc => ?_⟩
    show wpAny _ A (load s.heap.objs.size >>= _) _ _ s'
    refine wpAny_bind (wpAny_load hS' (wpAny_pure ?_))
    rw [Moved.eq_with hm]
    refine hQ s'.heap s'.toks acc' (fun b o hb e => hm.heap b o (fun hmem => ?_) (oth b o (fun z => absurd (Heap.lt_size e) (by rw [z]; exact Nat.lt_irrefl _)) e)) hacc
    rcases List.mem_cons.mp hmem with e' | hmem
    · exact absurd (Heap.lt_size e) (by rw [e']; exact Nat.lt_irrefl _)
    · exact hb (List.mem_singleton.mp hmem)
/-- tuple(it) -/
theorem make_rt {it t : Addr} {items : Array Value} {Q : Value → Shared → Prop} (hh : A.handled = none) (hit : IsRt s.heap it t ((items.size : Int) - 1)) (ht : IsTup s.heap t items) (hne : t ≠ it) (hn : items.size ≤ sizeLine)
    (hQ : ∀ (h' : Heap) (tk : Nat) (acc : Array Value), (∀ b o, b ≠ it → s.heap.get? b = some o → h'.get? b = some o) → ItemsOf (fun i v => items[items.size - 1 - i]? = some v) acc items.size →
      Q (.ref h'.objs.size) { s with heap := h'.push { cls := .type "tuple", data := .seq acc }, toks := tk }) :
    wpAny (model prog w) A (call (.type "tuple") [.ref it]) Q E s := by
  have go : codeAny (model prog w) A.in1 (.call (.builtin "tuple.__new__") ⟨[.type "tuple", .ref it], []⟩) (wants (fun obj s₁ => s₁.TypeIs obj "tuple" ∧ Q obj s₁) E) s := by
    refine codeAny_of_tree ?_
    show wpAny _ A.in1.in1 (do checkBuiltinCall "tuple.__new__" ⟨[.type "tuple", .ref it], []⟩; again (.builtin "tuple.__new__" ⟨[.type "tuple", .ref it], []⟩)) _ _ s
    refine wpAny_bind (wpAny_of_eq (F.newCall_tuple_1 _) (wpAny_pure ⟨plainId_quiet F.plain_tuple_new _, codeAny_builtin F.entry_tuple_new ?_⟩))
    rw [Around.under_plainId F.plain_tuple_new _]
    have hsub := sub_tuple_self
    have hinit := init_tuple_lookup
    have hmh := madeHere_tuple
    have hTI : s.TypeIs (.ref it) "reversed" := hit.typeIs
    wp_walk using wpAny_typeOf hTI, collect_rt (A := A.in1.in1) hh hit ht hne hn
    intro h' tk acc hk hacc
    show wpAny _ _ (Builtin.Tuple.tupleExact acc.toList.toArray >>= fun v => ret v) _ _ _
    unfold Builtin.Tuple.tupleExact
    refine wpAny_bind (wpAny_newObj_type ?_ (by show acc.toList.toArray.size ≤ sizeLine; simp only [Array.toArray_toList]; rw [hacc.1]; exact hn))
    refine wpAny_pure ?_
    have e : acc.toList.toArray = acc := by simp
    rw [e]
    exact And.intro (a := Shared.TypeIs { s with heap := h'.push { cls := .type "tuple", data := .seq acc }, toks := tk } (.ref h'.objs.size) "tuple") ⟨_, Heap.get?_push_size _ rfl, rfl⟩ (hQ h' tk acc hk hacc)
  refine callType_codes (Q₁ := fun obj s₁ => s₁.TypeIs obj "tuple" ∧ Q obj s₁) F.called_tuple (F.typeCall_tuple_1 _) F.entry_object_init go fun obj s₁ h₁ => ?_
  exact ⟨h₁.1, F.args_object_init_2 obj _, object_init_meets F.called_tuple.init.lookup F.called_tuple.made (by decide) prog w A.in1 _ s₁ ⟨h₁.1, rfl, h₁.2⟩⟩
variable {X : Cx}
/-- tuple(reversed(x)), x a tuple -/
def tTupRevT (K : PySem.W.Frag) (te : TE) : TE := fun σ H Q => te σ H fun v H1 => ∃ (a : Addr) (xs : List V), v = .ref a ∧ SqT K H1 a xs ∧ ∀ q, H1 q = none → Q (.ref q) (upd H1 q (.tup xs.reverse))
theorem pe_tupRevT {e : Expr} {te : TE} {p p2 pos pos2 : Pos} (hc : X.calm = true) (hg : Gl X "tuple") (hm : X.mg "tuple" = none) (hg2 : Gl X "reversed") (hm2 : X.mg "reversed" = none) (he : PE X e te)
    (h1 : starEach [e] X.env = (false, eval e X.env) :: starEach [] X.env) :
    PE X (.Call (.Name "tuple" p) [.Call (.Name "reversed" p2) [e] [] pos2] [] pos) (tTupRevT X.K te) := by
  refine ⟨fun pins s σ H Q I h => ?_⟩
  refine Call_ (ld_blt I hg hm boot_tuple (PyProof.Rows.callWith_type1 (args_cons (Call_ (ld_blt I hg2 hm2 PyProof.Rows.boot_reversed (PyProof.Rows.callWith_type1 (args_cons (thn (he.run pins s σ H _ I h) fun u s1 ⟨v, H1, I1, r1, q1⟩ => args_nil ?_) h1) h1 rfl))) rfl) rfl rfl))
  obtain ⟨a, xs, ev, hq, q⟩ := q1
  subst ev
  obtain rfl : u = Value.ref a := r1
  obtain ⟨its, rv, p', hz⟩ := I1.tuple hq
  have hsz : its.toArray.size ≤ sizeLine := by rw [List.size_toArray, ← rv.length]; exact hz
  have l63 := line63
  have hs : (its.toArray.size : Int) < 2 ^ 63 := by omega
  refine call_reversed_tup p' (fun A E Q k => len_tuple p' hs k) (args_nil ?_)
  have k0 : ∀ b o, s1.heap.get? b = some o → (s1.heap.push (rtObj a ((its.toArray.size : Int) - 1))).get? b = some o := fun b o e => Heap.get?_push_of_some _ e
  have I2 : Inv X pins σ H1 { s1 with heap := s1.heap.push (rtObj a ((its.toArray.size : Int) - 1)), toks := s1.toks + 1 + 1 } := I1.kept (t' := s1.toks + 1 + 1) k0
  obtain ⟨f0, f1, f2, f3, f4, f5⟩ := I1.fpOk (H' := H1) (b := s1.heap.objs.size) (Nat.le_refl _) (I1.hok.fresh (Nat.le_refl _))
  obtain ⟨ot, hot, _⟩ := id p'
  refine make_rt (s := { s1 with heap := s1.heap.push (rtObj a ((its.toArray.size : Int) - 1)), toks := s1.toks + 1 + 1 }) (I1.ok.hd hc) ⟨_, Heap.get?_push_size _ rfl, rfl, rfl⟩ (tup_at p' fun o e => k0 a o e) (Nat.ne_of_lt (Heap.lt_size hot)) hsz fun h' tk acc hk hi => ?_
  have I3 : Inv X pins σ H1 { s1 with heap := h', toks := tk } := I2.turned (t' := tk) (fun b o hb e => hk b o hb e) f0 f1 f3 f4 f5
  refine ⟨.ref h'.objs.size, upd H1 h'.objs.size (.tup xs.reverse), I3.laid (t' := tk) (fun c o e => Heap.get?_push_of_some _ e) (Nat.le_refl _) (show ObjOk X.prog X.w _ _ _ (.tup xs.reverse) from ⟨by rw [List.length_reverse]; exact hz, acc.toList, vals_rev rv hi, ?_⟩), rfl, q _ (I3.hok.fresh (Nat.le_refl _))⟩
  rw [Array.toArray_toList]
  exact IsTup.new _ _
end RvT

/-! A core language and its evaluator on plain data with a store. -/
namespace Pv
open PySem (Str Operator CmpOp)

/-- data: pure values, tuples by their items, lists and dicts by their place in the store -/
inductive D where
  | non | bl (b : Bool) | int (i : Int) | str (x : Str) | tup (xs : List D) | rol (xs : List D) | loc (n : Nat)
  deriving Inhabited

inductive O where
  | lst (xs : List D)
  deriving Inhabited

abbrev Env := List (Option D)
abbrev Store := List O

mutual
def D.pure : D → Bool
  | .tup xs => pures xs
  | .rol xs => pures xs
  | .loc _ => false
  | .non => true | .bl _ => true | .int _ => true | .str _ => true
termination_by structural d => d
def pures : List D → Bool
  | [] => true
  | x :: xs => x.pure && pures xs
termination_by structural d => d
end
mutual
def D.under (n : Nat) : D → Bool
  | .tup xs => unders n xs
  | .rol xs => unders n xs
  | .loc k => Nat.blt k n
  | .non => true | .bl _ => true | .int _ => true | .str _ => true
termination_by structural d => d
def unders (n : Nat) : List D → Bool
  | [] => true
  | x :: xs => x.under n && unders n xs
termination_by structural d => d
end
def O.under (n : Nat) : O → Bool
  | .lst xs => unders n xs
mutual
def D.shift (n : Nat) : D → D
  | .tup xs => .tup (shifts n xs)
  | .rol xs => .rol (shifts n xs)
  | .loc k => .loc (n + k)
  | .non => .non | .bl b => .bl b | .int i => .int i | .str x => .str x
termination_by structural d => d
def shifts (n : Nat) : List D → List D
  | [] => []
  | x :: xs => x.shift n :: shifts n xs
termination_by structural d => d
end
def O.shift (n : Nat) : O → O
  | .lst xs => .lst (shifts n xs)

/-- no text beyond the known signs; a depth that == can take -/
def strOk (x : Str) : Bool := x.cps.all fun c => decide (c < 1114112)
mutual
def D.okn (n : Nat) : D → Bool
  | .tup xs => (match n with | 0 => false | n + 1 => okns n xs)
  | .loc _ => false
  | .rol _ => false
  | .str x => strOk x
  | .non => true | .bl _ => true | .int _ => true
termination_by structural d => d
def okns (n : Nat) : List D → Bool
  | [] => true
  | x :: xs => x.okn n && okns n xs
termination_by structural d => d
end
mutual
def D.eqv : D → D → Bool
  | .non, .non => true
  | .bl a, .bl b => a == b
  | .bl a, .int j => (if a then 1 else 0) == j
  | .int i, .bl b => i == (if b then 1 else 0)
  | .int i, .int j => i == j
  | .str x, .str y => x == y
  | .tup xs, .tup ys => eqvs xs ys
  | _, _ => false
termination_by structural d => d
def eqvs : List D → List D → Bool
  | [], [] => true
  | x :: xs, y :: ys => x.eqv y && eqvs xs ys
  | _, _ => false
termination_by structural d => d
end

/-- what is walked -/
inductive DI where
  | tup (ds : List D) | lst (n : Nat) | rng (lo c : Int) (n : Nat)
  | revt (ds : List D) | revl (n k : Nat)
  | enum (i : DI) | zip (i j : DI)

/-- what an expression gives: a value; a new list that is not in the store -/
inductive R where
  | v (d : D) | s (ds : List D)

inductive Pat where
  | nm (i : Nat) | tp (ps : List Pat)

inductive B1 where
  | abs | int | isInt | isBool | isTup | isStr | bool
inductive B2 where
  | min | max
inductive Sq where
  | tuple | list | sum | max | min | any | all | len | sorted | sortedR | trev
inductive Mt where
  | append | extend | pop | popAt

mutual
inductive CE where
  | var (i : Nat)
  | lit (d : D)
  | bin (op : Operator) (a b : CE)
  | neg (a : CE)
  | not (a : CE)
  | cmp (op : CmpOp) (a b : CE)
  | cmp2 (op op' : CmpOp) (a b c : CE)
  | and (a b : CE) | or (a b : CE)
  | ife (c a b : CE)
  | tup (es : List CE) | lst (es : List CE)
  | idx (a b : CE)
  | slc (a : CE) (lo hi : CO)
  | call (f : Nat) (es : List CE)
  | b1 (b : B1) (a : CE)
  | b2 (b : B2) (a c : CE)
  | sq (q : Sq) (a : CE)
  | mt0 (m : Mt) (o : CE) | mt1 (m : Mt) (o a : CE)
  | comp (own : List Nat) (p : Pat) (it : CI) (cs : List CE) (e : CE)
  | comp2 (own : List Nat) (p : Pat) (it : CI) (cs : List CE) (own1 : List Nat) (p1 : Pat) (it1 : CI) (cs1 : List CE) (e : CE)
inductive CO where
  | no | at_ (a : CE)
inductive CI where
  | seq (a : CE)
  | rng1 (a : CE) | rng2 (a b : CE) | rng3 (a b c : CE)
  | enum (a : CE) | zip (a b : CE) | rev (a : CE)
end

inductive Tg where
  | nm (i : Nat) | ix (o i : CE) | tp (ts : List Tg)

inductive CS where
  | expr (e : CE) | ret (e : CE) | retn
  | asg (t : Tg) (e : CE)
  | par2 (i j : Nat) (a b : CE)
  | par3 (i j k : Nat) (a b c : CE)
  | aug (i : Nat) (op : Operator) (e : CE)
  | augx (o i : CE) (op : Operator) (e : CE)
  | ite (c : CE) (t f : List CS)
  | whl (c : CE) (b : List CS)
  | forr (p : Pat) (it : CI) (b : List CS)
  | brk | cnt | pass
  | never

structure FunC where
  n : Nat
  np : Nat
  body : List CS

/-! ### values -/
def lim : Nat := 1000000
def rngLim : Int := 4000000000000000000

def arI : Operator → Int → Int → Option Int
  | .Add, i, j => some (i + j)
  | .Sub, i, j => some (i - j)
  | .Mult, i, j => if i.natAbs < 18446744073709551616 ∨ j.natAbs < 18446744073709551616 ∨ i.natAbs.log2 + j.natAbs.log2 < 1000000 then some (i * j) else none
  | .FloorDiv, i, j => if j ≠ 0 ∧ j.natAbs.log2 < 9000 then some (i.fdiv j) else none
  | .Mod, i, j => if j ≠ 0 then some (i.fmod j) else none
  | .Pow, i, j => if 0 ≤ j ∧ j ≤ 1000000 ∧ i.natAbs < 18446744073709551616 then some (i ^ j.toNat) else none
  | _, _, _ => none

/-- a list's items -/
def lstR (S : Store) : R → Option (List D)
  | .v (.loc n) => (match S[n]? with | some (.lst ds) => some ds | none => none)
  | .v (.rol ds) => some ds
  | .s ds => some ds
  | _ => none
/-- a list's or tuple's items -/
def seqR (S : Store) : R → Option (List D)
  | .v (.tup ds) => some ds
  | r => lstR S r

def repl (xs : List D) (k : Nat) : List D := (List.replicate k xs).flatten

/-- a list's items, one's own list -/
def lstW (S : Store) : R → Option (List D)
  | .v (.loc n) => (match S[n]? with | some (.lst ds) => some ds | none => none)
  | .s ds => some ds
  | _ => none
def repOk (n : Nat) (k : Int) : Bool := decide (-4611686018427387904 < k ∧ k < 4611686018427387904) && Nat.ble (n * k.toNat) lim
def binR (S : Store) (op : Operator) : R → R → Option R
  | .v (.int i), .v (.int j) => (arI op i j).map fun k => .v (.int k)
  | .v (.tup xs), .v (.tup ys) => (match op with | .Add => if Nat.ble (xs.length + ys.length) lim then some (.v (.tup (xs ++ ys))) else none | _ => none)
  | .v (.tup xs), .v (.int k) => (match op with | .Mult => if !xs.isEmpty && (decide (2 ≤ k ∧ k ≤ 1000) && Nat.ble xs.length 1000) then some (.v (.tup (repl xs k.toNat))) else none | _ => none)
  | a, .v (.int k) => (match op with | .Mult => (match lstW S a with | some xs => if repOk xs.length k then some (.s (repl xs k.toNat)) else none | none => none) | _ => none)
  | a, b => (match op with | .Add => (match lstW S a, lstW S b with | some xs, some ys => if Nat.ble (xs.length + ys.length) lim then some (.s (xs ++ ys)) else none | _, _ => none) | _ => none)

def truR (S : Store) : R → Option Bool
  | .v .non => some false
  | .v (.bl b) => some b
  | .v (.int i) => some (i != 0)
  | .v (.tup xs) => some !xs.isEmpty
  | r => (lstR S r).map fun xs => !xs.isEmpty

/-- what == sees: a list, another thing -/
def eqV (S : Store) : R → Option (Bool × D)
  | .v (.loc n) => (match S[n]? with | some (.lst ds) => if okns 59 ds then some (true, .tup ds) else none | none => none)
  | .v (.rol _) => none
  | .s ds => if okns 59 ds then some (true, .tup ds) else none
  | .v d => if d.okn 60 then some (false, d) else none
/-- x == y -/
def eqR (S : Store) (x y : R) : Option Bool := match eqV S x, eqV S y with
  | some (a, d), some (b, e) => some (if a == b then d.eqv e else false)
  | _, _ => none

/-- x in a row -/
def inR (x : D) : Option (List D) → Option Bool
  | some ds => if x.okn 60 && okns 59 ds then some (ds.any fun z => z.eqv x) else none
  | none => none
def cmpR (S : Store) : CmpOp → R → R → Option Bool
  | .Eq, x, y => eqR S x y
  | .NotEq, x, y => (eqR S x y).map fun b => !b
  | .Lt, .v (.int i), .v (.int j) => some (decide (i < j))
  | .LtE, .v (.int i), .v (.int j) => some (decide (i ≤ j))
  | .Gt, .v (.int i), .v (.int j) => some (decide (j < i))
  | .GtE, .v (.int i), .v (.int j) => some (decide (j ≤ i))
  | .Is, .v .non, .v .non => some true
  | .Is, .v _, .v .non => some false
  | .Is, .v (.bl a), .v (.bl b) => some (a == b)
  | .IsNot, .v .non, .v .non => some false
  | .IsNot, .v _, .v .non => some true
  | .IsNot, .v (.bl a), .v (.bl b) => some (!(a == b))
  | .In, .v x, y => inR x (seqR S y)
  | .NotIn, .v x, y => (inR x (seqR S y)).map fun b => !b
  | _, _, _ => none

/-- Python's index into a row of n -/
def ixN (n : Nat) (i : Int) : Option Nat := if 0 ≤ i then (if i < n then some i.toNat else none) else if -(n : Int) ≤ i then some (i + n).toNat else none
def atD (xs : List D) (i : Int) : Option D := (ixN xs.length i).bind fun j => xs[j]?
def idxR (S : Store) : R → R → Option D
  | r, .v (.int i) => (seqR S r).bind fun ds => atD ds i
  | _, _ => none

def sIx (n d : Nat) : Option Int → Nat
  | none => d
  | some v => if v < 0 then (v + n).toNat else min v.toNat n
def cutD (xs : List D) (lo hi : Option Int) : List D := (xs.drop (sIx xs.length 0 lo)).take (sIx xs.length xs.length hi - sIx xs.length 0 lo)
def slcR (S : Store) : R → Option Int → Option Int → Option R
  | .v (.tup ds), lo, hi => some (.v (.tup (cutD ds lo hi)))
  | r, lo, hi => (lstR S r).map fun ds => .s (cutD ds lo hi)

def b1R : B1 → R → Option D
  | .abs, .v (.int i) => some (.int (if i < 0 then -i else i))
  | .int, .v (.int i) => some (.int i)
  | .int, .v (.bl b) => some (.int (if b then 1 else 0))
  | .bool, .v (.int i) => some (.bl (i != 0))
  | .bool, .v (.bl b) => some (.bl b)
  | .isInt, .v (.int _) => some (.bl true)
  | .isInt, .v (.bl _) => some (.bl true)
  | .isInt, .v (.loc _) => none
  | .isInt, .v (.rol _) => none
  | .isInt, .v _ => some (.bl false)
  | .isBool, .v (.bl _) => some (.bl true)
  | .isBool, .v (.loc _) => none
  | .isBool, .v (.rol _) => none
  | .isBool, .v _ => some (.bl false)
  | .isTup, .v (.tup _) => some (.bl true)
  | .isTup, .v (.loc _) => none
  | .isTup, .v (.rol _) => none
  | .isTup, .v _ => some (.bl false)
  | .isStr, .v (.str _) => some (.bl true)
  | .isStr, .v (.loc _) => none
  | .isStr, .v (.rol _) => none
  | .isStr, .v _ => some (.bl false)
  | _, _ => none
def b2R : B2 → R → R → Option D
  | .min, .v (.int i), .v (.int j) => some (.int (if j < i then j else i))
  | .max, .v (.int i), .v (.int j) => some (.int (if j > i then j else i))
  | _, _, _ => none

def intsD : List D → Option (List Int)
  | [] => some []
  | .int i :: r => (intsD r).map fun t => i :: t
  | _ :: _ => none
def boolsD : List D → Option (List Bool)
  | [] => some []
  | .bl i :: r => (boolsD r).map fun t => i :: t
  | _ :: _ => none
def maxI : List Int → Option Int
  | [] => none
  | x :: xs => some (xs.foldl max x)
def minI : List Int → Option Int
  | [] => none
  | x :: xs => some (xs.foldl min x)

def sqR : Sq → List D → Option R
  | .tuple, ds => some (.v (.tup ds))
  | .trev, ds => some (.v (.tup ds.reverse))
  | .list, ds => some (.s ds)
  | .len, ds => some (.v (.int ds.length))
  | .sum, ds => (intsD ds).map fun ns => .v (.int ns.sum)
  | .max, ds => (intsD ds).bind fun ns => (maxI ns).map fun m => .v (.int m)
  | .min, ds => (intsD ds).bind fun ns => (minI ns).map fun m => .v (.int m)
  | .any, ds => (boolsD ds).map fun bs => .v (.bl (bs.any id))
  | .all, ds => (boolsD ds).map fun bs => .v (.bl (bs.all id))
  | _, _ => none

/-- what a consumer takes -/
def argQ (S : Store) : Sq → R → Option (List D)
  | .tuple, r => seqR S r
  | .list, r => seqR S r
  | .len, r => seqR S r
  | .trev, r => seqR S r
  | _, r => lstR S r
/-- a new list goes into the store -/
def pushR : Option (R × Store) → Option (D × Store)
  | some (.v d, S) => some (d, S)
  | some (.s ds, S) => some (.loc S.length, S ++ [.lst ds])
  | _ => none

/-- methods of the store's list at n -/
def mt0R (S : Store) (n : Nat) : Mt → Option (D × Store)
  | .pop => (match S[n]? with
    | some (.lst xs) => (match xs[xs.length - 1]? with | some d => some (d, S.set n (.lst xs.dropLast)) | none => none)
    | _ => none)
  | _ => none
def mt1R (S : Store) (n : Nat) : Mt → R → Option (D × Store)
  | .append, r => (match pushR (some (r, S)) with
    | some (d, S) => (match S[n]? with
      | some (.lst xs) => if Nat.blt xs.length lim then some (.non, S.set n (.lst (xs ++ [d]))) else none
      | _ => none)
    | none => none)
  | .extend, r => (match S[n]?, lstW S r with
    | some (.lst xs), some ys => if Nat.ble (xs.length + ys.length) lim then some (.non, S.set n (.lst (xs ++ ys))) else none
    | _, _ => none)
  | .popAt, .v (.int i) => (match S[n]? with
    | some (.lst xs) => (match ixN xs.length i with | some k => (match xs[k]? with | some d => some (d, S.set n (.lst (xs.eraseIdx k))) | none => none) | none => none)
    | _ => none)
  | _, _ => none

/-! ### walking -/
def DI.next (S : Store) : DI → Nat → Option (Option D)
  | .tup ds, i => some ds[i]?
  | .lst n, i => (lstR S (.v (.loc n))).map fun ds => ds[i]?
  | .rng lo c n, i => if i < n then some (some (.int (lo + (i : Nat) * c))) else some none
  | .revt ds, i => if i < ds.length then some ds[ds.length - 1 - i]? else some none
  | .revl n k, i => (lstR S (.v (.loc n))).bind fun ds => if ds.length = k then (if i < k then some ds[k - 1 - i]? else some none) else none
  | .enum d, i => (d.next S i).map fun o => o.map fun x => .tup [.int i, x]
  | .zip a b, i => (match a.next S i, b.next S i with
    | some (some x), some (some y) => some (some (.tup [x, y]))
    | some none, some _ => some none
    | some (some _), some none => some none
    | _, _ => none)
def DI.len (S : Store) : DI → Nat
  | .tup ds => ds.length
  | .lst n => ((lstR S (.v (.loc n))).getD []).length
  | .rng _ _ n => n
  | .revt ds => ds.length
  | .revl _ k => k
  | .enum d => d.len S
  | .zip a b => min (a.len S) (b.len S)
/-- no more turns than a list or tuple has items -/
def DI.small : DI → Bool
  | .tup _ => true | .lst _ => true | .rng _ _ n => Nat.ble n lim | .revt _ => true | .revl _ _ => true
  | .enum d => d.small | .zip a b => a.small || b.small
def itR (S : Store) : R → Option DI
  | .v (.tup ds) => some (.tup ds)
  | .v (.loc n) => (match S[n]? with | some (.lst _) => some (.lst n) | none => none)
  | .v (.rol ds) => some (.tup ds)
  | .s ds => some (.tup ds)
  | _ => none
/-- enumerate, zip: of lists; of two lists or two tuples -/
def enumR (S : Store) (r : R) : Option DI := match r with
  | .v (.loc _) => (itR S r).map .enum
  | .s _ => (itR S r).map .enum
  | _ => none
def isTupR : R → Bool
  | .v (.tup _) => true
  | _ => false
def zipR (S : Store) (r q : R) : Option DI := if isTupR r == isTupR q then (match itR S r, itR S q with | some x, some y => some (.zip x y) | _, _ => none) else none
def revR (S : Store) : R → Option DI
  | .v (.tup ds) => some (.revt ds)
  | .v (.loc n) => (lstR S (.v (.loc n))).map fun ds => .revl n ds.length
  | .v (.rol ds) => some (.revt ds)
  | .s ds => some (.revt ds)
  | _ => none
def rngOk3 (i : Int) : Bool := decide (-1099511627776 ≤ i) && decide (i ≤ 1099511627776)
def rngOk (i : Int) : Bool := decide (-4611686018427387904 ≤ i) && decide (i < 4611686018427387904)

mutual
def bindP : Pat → D → Env → Option Env
  | .nm i, d, env => some (env.set i (some d))
  | .tp ps, .tup ds, env => bindPs ps ds env
  | .tp _, _, _ => none
termination_by structural p => p
def bindPs : List Pat → List D → Env → Option Env
  | [], [], env => some env
  | p :: ps, d :: ds, env => (match bindP p d env with | some env' => bindPs ps ds env' | none => none)
  | _, _, _ => none
termination_by structural p => p
end

/-- the slots forgotten -/
def wipeE (env : Env) : List Nat → Env
  | [] => env
  | i :: is => (wipeE env is).set i none

/-- a comprehension's walk: f gives at an item none (left out) or some item -/
def walkC (f : D → Store → Option (List D × Store)) (di : DI) : Nat → Nat → Store → Option (List D × Store)
  | 0, i, S => (match di.next S i with | some none => some ([], S) | _ => none)
  | c + 1, i, S => (match di.next S i with
    | some none => some ([], S)
    | some (some x) => (match f x S with
      | some (ys, S') => (match walkC f di c (i + 1) S' with | some (zs, S2) => some (ys ++ zs, S2) | none => none)
      | none => none)
    | none => none)

section
variable (cl : Nat → List D → Store → Option (D × Store))
mutual
def ev : CE → Env → Store → Option (R × Store)
  | .var i, env, S => (match env[i]? with | some (some d) => some (.v d, S) | _ => none)
  | .lit d, _, S => some (.v d, S)
  | .bin op a b, env, S => (match ev a env S with
    | some (x, S) => (match ev b env S with
      | some (y, S) => (binR S op x y).map fun r => (r, S)
      | none => none)
    | none => none)
  | .neg a, env, S => (match ev a env S with | some (.v (.int i), S) => some (.v (.int (-i)), S) | _ => none)
  | .not a, env, S => (match ev a env S with | some (x, S) => (truR S x).map fun b => (.v (.bl !b), S) | none => none)
  | .cmp op a b, env, S => (match ev a env S with
    | some (x, S) => (match ev b env S with
      | some (y, S) => (cmpR S op x y).map fun r => (.v (.bl r), S)
      | none => none)
    | none => none)
  | .cmp2 op op' a b c, env, S => (match ev a env S with
    | some (x, S) => (match ev b env S with
      | some (y, S) => (match cmpR S op x y with
        | some true => (match ev c env S with
          | some (z, S) => (cmpR S op' y z).map fun r => (.v (.bl r), S)
          | none => none)
        | some false => some (.v (.bl false), S)
        | none => none)
      | none => none)
    | none => none)
  | .and a b, env, S => (match ev a env S with
    | some (x, S) => (match truR S x with | some true => ev b env S | some false => some (x, S) | none => none)
    | none => none)
  | .or a b, env, S => (match ev a env S with
    | some (x, S) => (match truR S x with | some true => some (x, S) | some false => ev b env S | none => none)
    | none => none)
  | .ife c a b, env, S => (match ev c env S with
    | some (x, S) => (match truR S x with | some true => ev a env S | some false => ev b env S | none => none)
    | none => none)
  | .tup es, env, S => (match evs es env S with | some (ds, S) => some (.v (.tup ds), S) | none => none)
  | .lst es, env, S => (match evs es env S with | some (ds, S) => some (.s ds, S) | none => none)
  | .idx a b, env, S => (match ev a env S with
    | some (x, S) => (match ev b env S with
      | some (y, S) => (idxR S x y).map fun d => (.v d, S)
      | none => none)
    | none => none)
  | .slc a lo hi, env, S => (match ev a env S with
    | some (x, S) => (match evo lo env S with
      | some (l, S) => (match evo hi env S with
        | some (h, S) => (slcR S x l h).map fun r => (r, S)
        | none => none)
      | none => none)
    | none => none)
  | .call f es, env, S => (match evs es env S with
    | some (ds, S) => (match cl f ds S with | some (d, S) => some (.v d, S) | none => none)
    | none => none)
  | .b1 b a, env, S => (match ev a env S with | some (x, S) => (b1R b x).map fun d => (.v d, S) | none => none)
  | .b2 b a c, env, S => (match ev a env S with
    | some (x, S) => (match ev c env S with
      | some (y, S) => (b2R b x y).map fun d => (.v d, S)
      | none => none)
    | none => none)
  | .sq q a, env, S => (match ev a env S with
    | some (x, S) => (match argQ S q x with | some ds => (sqR q ds).map fun r => (r, S) | none => none)
    | none => none)
  | .mt0 m o, env, S => (match pushR (ev o env S) with
    | some (.loc n, S) => (mt0R S n m).map fun z => (.v z.1, z.2)
    | _ => none)
  | .mt1 m o a, env, S => (match pushR (ev o env S) with
    | some (.loc n, S) => (match ev a env S with
      | some (r, S) => (mt1R S n m r).map fun z => (.v z.1, z.2)
      | none => none)
    | _ => none)
  | .comp own p it cs e, env, S => (match evi it env S with
    | some (di, S) => (match walkC (fun x S => (match bindP p x (wipeE env own) with
          | some env' => (match tests cs env' S with
            | some (true, S) => (match pushR (ev e env' S) with | some (y, S) => some ([y], S) | none => none)
            | some (false, S) => some ([], S)
            | none => none)
          | none => none)) di (di.len S) 0 S with
        | some (ys, S) => if di.small || Nat.ble ys.length lim then some (.s ys, S) else none
        | none => none)
    | none => none)
  | .comp2 own p it cs own1 p1 it1 cs1 e, env, S => (match evi it env S with
    | some (di, S) => (match walkC (fun x S => (match bindP p x (wipeE env own) with
          | some env' => (match tests cs env' S with
            | some (true, S) => (match evi it1 env' S with
              | some (di1, S) => walkC (fun x1 S => (match bindP p1 x1 (wipeE env' own1) with
                    | some env2 => (match tests cs1 env2 S with
                      | some (true, S) => (match pushR (ev e env2 S) with | some (y, S) => some ([y], S) | none => none)
                      | some (false, S) => some ([], S)
                      | none => none)
                    | none => none)) di1 (di1.len S) 0 S
              | none => none)
            | some (false, S) => some ([], S)
            | none => none)
          | none => none)) di (di.len S) 0 S with
        | some (ys, S) => if Nat.ble ys.length lim then some (.s ys, S) else none
        | none => none)
    | none => none)
termination_by structural e => e
/-- a part of a slice -/
def evo : CO → Env → Store → Option (Option Int × Store)
  | .no, _, S => some (none, S)
  | .at_ a, env, S => (match ev a env S with | some (.v (.int i), S) => some (some i, S) | _ => none)
termination_by structural e => e
def evs : List CE → Env → Store → Option (List D × Store)
  | [], _, S => some ([], S)
  | e :: es, env, S => (match pushR (ev e env S) with
    | some (d, S) => (match evs es env S with | some (ds, S) => some (d :: ds, S) | none => none)
    | none => none)
termination_by structural e => e
def evi : CI → Env → Store → Option (DI × Store)
  | .seq a, env, S => (match ev a env S with | some (r, S) => (itR S r).map fun di => (di, S) | none => none)
  | .rng1 a, env, S => (match ev a env S with
    | some (.v (.int j), S) => if rngOk j then some (.rng 0 1 j.toNat, S) else none
    | _ => none)
  | .rng2 a b, env, S => (match ev a env S with
    | some (.v (.int i), S) => (match ev b env S with
      | some (.v (.int j), S) => if rngOk i && rngOk j then some (.rng i 1 (j - i).toNat, S) else none
      | _ => none)
    | _ => none)
  | .rng3 a b c, env, S => (match ev a env S with
    | some (.v (.int i), S) => (match ev b env S with
      | some (.v (.int j), S) => (match ev c env S with
        | some (.v (.int k), S) => if (rngOk3 i && rngOk3 j) && (decide (0 < k) && decide (k < 1073741824)) then some (.rng i k ((j - i + k - 1) / k).toNat, S) else none
        | _ => none)
      | _ => none)
    | _ => none)
  | .enum a, env, S => (match ev a env S with | some (r, S) => (enumR S r).map fun di => (di, S) | none => none)
  | .zip a b, env, S => (match ev a env S with
    | some (r, S) => (match ev b env S with
      | some (q, S) => (zipR S r q).map fun di => (di, S)
      | none => none)
    | none => none)
  | .rev a, env, S => (match ev a env S with | some (r, S) => (revR S r).map fun di => (di, S) | none => none)
termination_by structural e => e
def tests : List CE → Env → Store → Option (Bool × Store)
  | [], _, S => some (true, S)
  | e :: es, env, S => (match ev e env S with
    | some (x, S) => (match truR S x with | some true => tests es env S | some false => some (false, S) | none => none)
    | none => none)
termination_by structural e => e
end

inductive Fl where
  | nx | bk | ct | rt (d : D)

mutual
def asgT : Tg → D → Env → Store → Option (Env × Store)
  | .nm i, d, env, S => some (env.set i (some d), S)
  | .ix o i, d, env, S => (match pushR (ev cl o env S) with
    | some (.loc n, S) => (match pushR (ev cl i env S) with
      | some (.int k, S) => (match S[n]? with
        | some (.lst xs) => (match ixN xs.length k with | some j => some (env, S.set n (.lst (xs.set j d))) | none => none)
        | _ => none)
      | _ => none)
    | _ => none)
  | .tp ts, .tup ds, env, S => asgTs ts ds env S
  | .tp _, _, _, _ => none
termination_by structural p => p
def asgTs : List Tg → List D → Env → Store → Option (Env × Store)
  | [], [], env, S => some (env, S)
  | p :: ps, d :: ds, env, S => (match asgT p d env S with | some (env', S) => asgTs ps ds env' S | none => none)
  | _, _, _, _ => none
termination_by structural p => p
end

def whileL (c : Env → Store → Option (Bool × Store)) (b : Env → Store → Option (Fl × Env × Store)) : Nat → Env → Store → Option (Fl × Env × Store)
  | 0, _, _ => none
  | n + 1, env, S => (match c env S with
    | some (true, S) => (match b env S with
      | some (.nx, env, S) => whileL c b n env S
      | some (.ct, env, S) => whileL c b n env S
      | some (.bk, env, S) => some (.nx, env, S)
      | some (.rt d, env, S) => some (.rt d, env, S)
      | none => none)
    | some (false, S) => some (.nx, env, S)
    | none => none)

def forL (b : D → Env → Store → Option (Fl × Env × Store)) (di : DI) : Nat → Nat → Env → Store → Option (Fl × Env × Store)
  | 0, i, env, S => (match di.next S i with | some none => some (.nx, env, S) | _ => none)
  | c + 1, i, env, S => (match di.next S i with
    | some none => some (.nx, env, S)
    | some (some x) => (match b x env S with
      | some (.nx, env, S) => forL b di c (i + 1) env S
      | some (.ct, env, S) => forL b di c (i + 1) env S
      | some (.bk, env, S) => some (.nx, env, S)
      | some (.rt d, env, S) => some (.rt d, env, S)
      | none => none)
    | none => none)

def whileFuel : Nat := 1000000

def tst (e : CE) (env : Env) (S : Store) : Option (Bool × Store) := match ev cl e env S with
  | some (x, S) => (truR S x).map fun b => (b, S)
  | none => none

mutual
def ex : CS → Env → Store → Option (Fl × Env × Store)
  | .expr e, env, S => (match pushR (ev cl e env S) with | some (_, S) => some (.nx, env, S) | none => none)
  | .ret e, env, S => (match pushR (ev cl e env S) with | some (d, S) => some (.rt d, env, S) | none => none)
  | .retn, env, S => some (.rt .non, env, S)
  | .asg t e, env, S => (match pushR (ev cl e env S) with
    | some (d, S) => (match asgT cl t d env S with | some (env, S) => some (.nx, env, S) | none => none)
    | none => none)
  | .par2 i j a b, env, S => (match pushR (ev cl a env S) with
    | some (x, S) => (match pushR (ev cl b env S) with
      | some (y, S) => some (.nx, (env.set i (some x)).set j (some y), S)
      | none => none)
    | none => none)
  | .par3 i j k a b c, env, S => (match pushR (ev cl a env S) with
    | some (x, S) => (match pushR (ev cl b env S) with
      | some (y, S) => (match pushR (ev cl c env S) with
        | some (z, S) => some (.nx, ((env.set i (some x)).set j (some y)).set k (some z), S)
        | none => none)
      | none => none)
    | none => none)
  | .aug i op e, env, S => (match env[i]? with
    | some (some (.int x)) => (match ev cl e env S with
      | some (.v (.int y), S) => (arI op x y).map fun z => (.nx, env.set i (some (.int z)), S)
      | _ => none)
    | _ => none)
  | .augx o i op e, env, S => (match pushR (ev cl o env S) with
    | some (.loc n, S) => (match pushR (ev cl i env S) with
      | some (.int k, S) => (match lstR S (.v (.loc n)) with
        | some xs => (match atD xs k with
          | some (.int x) => (match ev cl e env S with
            | some (.v (.int y), S) => (match arI op x y with
              | some z => (match S[n]? with
                | some (.lst ys) => (match ixN ys.length k with | some j => some (.nx, env, S.set n (.lst (ys.set j (.int z)))) | none => none)
                | _ => none)
              | none => none)
            | _ => none)
          | _ => none)
        | none => none)
      | _ => none)
    | _ => none)
  | .ite c t f, env, S => (match tst cl c env S with
    | some (true, S) => exs t env S
    | some (false, S) => exs f env S
    | none => none)
  | .whl c b, env, S => whileL (tst cl c) (exs b) whileFuel env S
  | .forr p it b, env, S => (match evi cl it env S with
    | some (di, S) => forL (fun x env S => (match bindP p x env with | some env' => exs b env' S | none => none)) di (di.len S) 0 env S
    | none => none)
  | .brk, env, S => some (.bk, env, S)
  | .cnt, env, S => some (.ct, env, S)
  | .pass, env, S => some (.nx, env, S)
  | .never, _, _ => none
termination_by structural e => e
def exs : List CS → Env → Store → Option (Fl × Env × Store)
  | [], env, S => some (.nx, env, S)
  | s :: ss, env, S => (match ex s env S with
    | some (.nx, env, S) => exs ss env S
    | some (f, env, S) => some (f, env, S)
    | none => none)
termination_by structural e => e
end

def runF (F : FunC) (args : List D) (S : Store) : Option (D × Store) :=
  match exs cl F.body (args.map some ++ List.replicate (F.n - F.np) none) S with
  | some (.rt d, _, S) => some (d, S)
  | some (.nx, _, S) => some (.non, S)
  | _ => none
end

/-- behind a call: what can't be reached is let go -/
def tidy (n : Nat) : Option (D × Store) → Option (D × Store)
  | some (d, S) => if d.under n && (S.take n).all (O.under n) then some (d, S.take n) else some (d, S)
  | none => none
/-- behind a call that knew of no store -/
def join (S : Store) : Option (D × Store) → Option (D × Store)
  | some (d, T) => if d.pure then some (d, S) else (match d with
    | .loc i => (match T[i]? with
      | some (.lst ds) => if pures ds then some (.loc S.length, S ++ [.lst ds]) else some (d.shift S.length, S ++ T.map (O.shift S.length))
      | _ => some (d.shift S.length, S ++ T.map (O.shift S.length)))
    | _ => some (d.shift S.length, S ++ T.map (O.shift S.length)))
  | none => none

def callT (T : Nat → Option FunC) : Nat → Nat → List D → Store → Option (D × Store)
  | 0, _, _, _ => none
  | k + 1, f, args, S => (match T f with
    | none => none
    | some F => if args.length = F.np then
        (if pures args then join S (runF (callT T k) F args []) else tidy S.length (runF (callT T k) F args S))
      else none)
end Pv

/-! How data stand in the layer's heap. -/
namespace Pv
open PySem PySem.Spec PyProof.Rows L2

/-- a list that no one writes -/
def RoL (K : PySem.W.Frag) (H : Hp) (a : Addr) (xs : List L2.V) : Prop := (∃ o, H a = some (.frz o (.lst xs))) ∨
    ∃ (o : Obj) (its : Array Value) (n : Nat), K.lookup a = some o ∧ o.cls = .type "list" ∧ o.dict = none ∧ o.data = .seq its n ∧ its.size ≤ sizeLine ∧ Vals xs its.toList
theorem RoL.sq {K : PySem.W.Frag} {H : Hp} {a : Addr} {xs : List L2.V} (h : RoL K H a xs) : SqL K H a xs := by
  rcases h with ⟨o, h⟩ | h
  · exact .inl (.inr ⟨o, h⟩)
  · exact .inr h
mutual
def RepV (K : PySem.W.Frag) (H : Hp) (ρ : List Addr) : D → L2.V → Prop
  | .non, v => v = .non
  | .bl b, v => v = .bl b
  | .int i, v => v = .int i
  | .str x, v => v = .str x
  | .tup ds, v => ∃ a vs, v = .ref a ∧ SqT K H a vs ∧ RepL K H ρ ds vs
  | .rol ds, v => ∃ a vs, v = .ref a ∧ RoL K H a vs ∧ RepL K H ρ ds vs
  | .loc n, v => ∃ a, v = .ref a ∧ ρ[n]? = some a
termination_by structural d => d
def RepL (K : PySem.W.Frag) (H : Hp) (ρ : List Addr) : List D → List L2.V → Prop
  | [], vs => vs = []
  | d :: ds, vs => ∃ v r, vs = v :: r ∧ RepV K H ρ d v ∧ RepL K H ρ ds r
termination_by structural d => d
end
def RepO (K : PySem.W.Frag) (H : Hp) (ρ : List Addr) : O → Addr → Prop
  | .lst ds, a => ∃ vs, H a = some (.lst vs) ∧ RepL K H ρ ds vs
structure RepS (K : PySem.W.Frag) (H : Hp) (ρ : List Addr) (S : Store) : Prop where
  len : ρ.length = S.length
  nd : ρ.Nodup
  at_ : ∀ (n : Nat) (o : O), S[n]? = some o → ∃ a, ρ[n]? = some a ∧ RepO K H ρ o a
structure Ext (K : PySem.W.Frag) (H : Hp) (ρ : List Addr) (H' : Hp) (ρ' : List Addr) : Prop where
  pre : ∃ t, ρ' = ρ ++ t ∧ ∀ a ∈ t, H a = none
  keep : ∀ a o, H a = some o → a ∉ ρ → H' a = some o
  live : ∀ a, a ∈ ρ → H a ≠ none → H' a ≠ none
  tup : ∀ a xs, Rd H a (.tup xs) → Rd H' a (.tup xs)
  rol : ∀ a xs, RoL K H a xs → RoL K H' a xs

variable {K : PySem.W.Frag} {H H' H0 H1 H2 : Hp} {ρ ρ' ρ1 ρ2 : List Addr} {S S' S1 : Store}

theorem Ext.refl : Ext K H ρ H ρ := ⟨⟨[], by simp, fun _ h => by cases h⟩, fun _ _ h _ => h, fun _ _ h => h, fun _ _ h => h, fun _ _ h => h⟩
theorem Ext.back (e : Ext K H ρ H' ρ') {a : Addr} (h : H' a = none) : H a = none := by
  cases q : H a with
  | none => rfl
  | some o =>
    by_cases ha : a ∈ ρ
    · exact absurd h (e.live a ha (by rw [q]; simp))
    · have := e.keep a o q ha
      rw [h] at this; cases this
theorem Ext.trans (e : Ext K H ρ H1 ρ1) (f : Ext K H1 ρ1 H2 ρ2) : Ext K H ρ H2 ρ2 := by
  obtain ⟨t, rfl, ht⟩ := e.pre
  obtain ⟨u, rfl, hu⟩ := f.pre
  refine ⟨⟨t ++ u, by simp, fun a ha => ?_⟩, fun a o h ha => ?_, fun a ha h => ?_, fun a xs h => f.tup a xs (e.tup a xs h), fun a xs h => f.rol a xs (e.rol a xs h)⟩
  · rcases List.mem_append.mp ha with h | h
    · exact ht a h
    · exact e.back (hu a h)
  · refine f.keep a o (e.keep a o h ha) fun z => ?_
    rcases List.mem_append.mp z with z | z
    · exact ha z
    · rw [ht a z] at h; cases h
  · exact f.live a (List.mem_append_left _ ha) (e.live a ha h)
theorem Ext.get (e : Ext K H ρ H' ρ') {n : Nat} {a : Addr} (h : ρ[n]? = some a) : ρ'[n]? = some a := by
  obtain ⟨t, rfl, _⟩ := e.pre
  rw [List.getElem?_append_left (List.getElem?_eq_some_iff.mp h).1]
  exact h
theorem Ext.sqT (e : Ext K H ρ H' ρ') {a : Addr} {xs : List L2.V} (h : SqT K H a xs) : SqT K H' a xs := by
  rcases h with h | h
  · exact .inl (e.tup a xs h)
  · exact .inr h
theorem Ext.notin (e : Ext K H ρ H' ρ') {a : Addr} {o : HO} (h : H a = some o) (ha : a ∉ ρ) : a ∉ ρ' := by
  obtain ⟨t, rfl, ht⟩ := e.pre
  intro z
  rcases List.mem_append.mp z with z | z
  · exact ha z
  · rw [ht a z] at h; cases h
/-- what data lean on -/
structure Sub (K : PySem.W.Frag) (H : Hp) (ρ : List Addr) (H' : Hp) (ρ' : List Addr) : Prop where
  get : ∀ (n : Nat) (a : Addr), ρ[n]? = some a → ρ'[n]? = some a
  tup : ∀ a xs, Rd H a (.tup xs) → Rd H' a (.tup xs)
  rol : ∀ a xs, RoL K H a xs → RoL K H' a xs
theorem Ext.sub (e : Ext K H ρ H' ρ') : Sub K H ρ H' ρ' := ⟨fun _ _ h => e.get h, e.tup, e.rol⟩
theorem Sub.sqT (e : Sub K H ρ H' ρ') {a : Addr} {xs : List L2.V} (h : SqT K H a xs) : SqT K H' a xs := by
  rcases h with h | h
  · exact .inl (e.tup a xs h)
  · exact .inr h
mutual
theorem RepV.sub (e : Sub K H ρ H' ρ') : ∀ {d : D} {v : L2.V}, RepV K H ρ d v → RepV K H' ρ' d v
  | .non, _, h => h
  | .bl _, _, h => h
  | .int _, _, h => h
  | .str _, _, h => h
  | .tup ds, v, h => by
    obtain ⟨a, vs, e1, hs, hl⟩ := h
    exact ⟨a, vs, e1, e.sqT hs, RepL.sub e hl⟩
  | .rol ds, v, h => by
    obtain ⟨a, vs, e1, hs, hl⟩ := h
    exact ⟨a, vs, e1, e.rol _ _ hs, RepL.sub e hl⟩
  | .loc n, v, h => by
    obtain ⟨a, e1, hs⟩ := h
    exact ⟨a, e1, e.get _ _ hs⟩
theorem RepL.sub (e : Sub K H ρ H' ρ') : ∀ {ds : List D} {vs : List L2.V}, RepL K H ρ ds vs → RepL K H' ρ' ds vs
  | [], _, h => h
  | d :: ds, vs, h => by
    obtain ⟨v, r, e1, h1, h2⟩ := h
    exact ⟨v, r, e1, RepV.sub e h1, RepL.sub e h2⟩
end
theorem RepV.mono (e : Ext K H ρ H' ρ') {d : D} {v : L2.V} (h : RepV K H ρ d v) : RepV K H' ρ' d v := h.sub e.sub
theorem RepL.mono (e : Ext K H ρ H' ρ') {ds : List D} {vs : List L2.V} (h : RepL K H ρ ds vs) : RepL K H' ρ' ds vs := h.sub e.sub
theorem RepL.length : ∀ {ds : List D} {vs : List L2.V}, RepL K H ρ ds vs → vs.length = ds.length
  | [], _, h => by
    have h : _ = _ := h
    rw [h]; rfl
  | d :: ds, vs, h => by
    obtain ⟨v, r, rfl, h1, h2⟩ := h
    simp [RepL.length h2]
theorem RepL.nil : RepL K H ρ [] [] := rfl
theorem RepL.cons {d : D} {v : L2.V} {ds : List D} {vs : List L2.V} (h1 : RepV K H ρ d v) (h2 : RepL K H ρ ds vs) : RepL K H ρ (d :: ds) (v :: vs) := ⟨v, vs, rfl, h1, h2⟩
theorem RepL.get : ∀ {ds : List D} {vs : List L2.V} {i : Nat} {d : D}, RepL K H ρ ds vs → ds[i]? = some d → ∃ v, vs[i]? = some v ∧ RepV K H ρ d v
  | [], _, _, _, _, e => by simp at e
  | d :: ds, vs, 0, d', h, e => by
    obtain ⟨v, r, rfl, h1, h2⟩ := h
    simp at e; subst e
    exact ⟨v, rfl, h1⟩
  | d :: ds, vs, i + 1, d', h, e => by
    obtain ⟨v, r, rfl, h1, h2⟩ := h
    obtain ⟨v', e1, h3⟩ := RepL.get (i := i) h2 (by simpa using e)
    exact ⟨v', by simpa using e1, h3⟩
theorem RepL.append : ∀ {ds es : List D} {vs ws : List L2.V}, RepL K H ρ ds vs → RepL K H ρ es ws → RepL K H ρ (ds ++ es) (vs ++ ws)
  | [], es, vs, ws, h, g => by
    have h : vs = [] := h
    subst h; exact g
  | d :: ds, es, vs, ws, h, g => by
    obtain ⟨v, r, rfl, h1, h2⟩ := h
    exact ⟨v, r ++ ws, rfl, h1, RepL.append h2 g⟩
theorem RepL.take : ∀ {ds : List D} {vs : List L2.V} (n : Nat), RepL K H ρ ds vs → RepL K H ρ (ds.take n) (vs.take n)
  | [], vs, n, h => by
    have h : vs = [] := h
    subst h; simp [RepL]
  | d :: ds, vs, 0, h => by simp [RepL]
  | d :: ds, vs, n + 1, h => by
    obtain ⟨v, r, rfl, h1, h2⟩ := h
    exact ⟨v, r.take n, rfl, h1, RepL.take n h2⟩
theorem RepL.drop : ∀ {ds : List D} {vs : List L2.V} (n : Nat), RepL K H ρ ds vs → RepL K H ρ (ds.drop n) (vs.drop n)
  | [], vs, n, h => by
    have h : vs = [] := h
    subst h; simp [RepL]
  | d :: ds, vs, 0, h => h
  | d :: ds, vs, n + 1, h => by
    obtain ⟨v, r, rfl, h1, h2⟩ := h
    exact RepL.drop n h2
theorem RepL.reverse : ∀ {ds : List D} {vs : List L2.V}, RepL K H ρ ds vs → RepL K H ρ ds.reverse vs.reverse
  | [], vs, h => by
    have h : vs = [] := h
    subst h; simp [RepL]
  | d :: ds, vs, h => by
    obtain ⟨v, r, rfl, h1, h2⟩ := h
    rw [List.reverse_cons, List.reverse_cons]
    exact RepL.append (RepL.reverse h2) (.cons h1 .nil)
theorem RepL.set : ∀ {ds : List D} {vs : List L2.V} (n : Nat) {d : D} {v : L2.V}, RepL K H ρ ds vs → RepV K H ρ d v → RepL K H ρ (ds.set n d) (vs.set n v)
  | [], vs, n, _, _, h, _ => by
    have h : vs = [] := h
    subst h; simp [RepL]
  | d :: ds, vs, 0, _, _, h, g => by
    obtain ⟨v, r, rfl, h1, h2⟩ := h
    exact ⟨_, r, rfl, g, h2⟩
  | d :: ds, vs, n + 1, _, _, h, g => by
    obtain ⟨v, r, rfl, h1, h2⟩ := h
    exact ⟨v, r.set n _, rfl, h1, RepL.set n h2 g⟩
theorem RepL.eraseIdx : ∀ {ds : List D} {vs : List L2.V} (n : Nat), RepL K H ρ ds vs → RepL K H ρ (ds.eraseIdx n) (vs.eraseIdx n)
  | [], vs, n, h => by
    have h : vs = [] := h
    subst h; simp [RepL]
  | d :: ds, vs, 0, h => by
    obtain ⟨v, r, rfl, h1, h2⟩ := h
    exact h2
  | d :: ds, vs, n + 1, h => by
    obtain ⟨v, r, rfl, h1, h2⟩ := h
    exact ⟨v, r.eraseIdx n, rfl, h1, RepL.eraseIdx n h2⟩
theorem RepL.repl {ds : List D} {vs : List L2.V} (h : RepL K H ρ ds vs) : ∀ k : Nat, RepL K H ρ (repl ds k) (List.replicate k vs).flatten
  | 0 => by simp [Pv.repl, RepL]
  | k + 1 => by
    have := RepL.repl h k
    unfold Pv.repl at this ⊢
    rw [List.replicate_succ, List.replicate_succ, List.flatten_cons, List.flatten_cons]
    exact RepL.append h this
theorem RepL.dropLast {ds : List D} {vs : List L2.V} (h : RepL K H ρ ds vs) : RepL K H ρ ds.dropLast vs.dropLast := by
  rw [List.dropLast_eq_take, List.dropLast_eq_take, h.length]
  exact h.take _
/-- ints -/
theorem RepL.ints : ∀ {ds : List D} {vs : List L2.V} {ns : List Int}, RepL K H ρ ds vs → intsD ds = some ns → vs = ns.map V.int
  | [], vs, ns, h, e => by
    have h : vs = [] := h
    cases e; subst h; rfl
  | d :: ds, vs, ns, h, e => by
    obtain ⟨v, r, rfl, h1, h2⟩ := h
    cases d with
    | int i =>
      unfold intsD at e
      cases q : intsD ds with
      | none => rw [q] at e; cases e
      | some t =>
        rw [q] at e; cases e
        rw [RepL.ints h2 q, show v = V.int i from h1]; rfl
    | _ => cases e
theorem RepL.bools : ∀ {ds : List D} {vs : List L2.V} {ns : List Bool}, RepL K H ρ ds vs → boolsD ds = some ns → vs = ns.map V.bl
  | [], vs, ns, h, e => by
    have h : vs = [] := h
    cases e; subst h; rfl
  | d :: ds, vs, ns, h, e => by
    obtain ⟨v, r, rfl, h1, h2⟩ := h
    cases d with
    | bl i =>
      unfold boolsD at e
      cases q : boolsD ds with
      | none => rw [q] at e; cases e
      | some t =>
        rw [q] at e; cases e
        rw [RepL.bools h2 q, show v = V.bl i from h1]; rfl
    | _ => cases e

/-! ### stores -/
theorem RepS.get (r : RepS K H ρ S) {n : Nat} {o : O} (h : S[n]? = some o) : ∃ a, ρ[n]? = some a ∧ RepO K H ρ o a := r.at_ n o h
theorem RepS.inj (r : RepS K H ρ S) {i j : Nat} {a : Addr} (h : ρ[i]? = some a) (g : ρ[j]? = some a) : i = j := nd_ix r.nd h g
theorem RepO.mono_of {o : O} {a : Addr} (e : Ext K H ρ H' ρ') (h : RepO K H ρ o a) (k : ∀ x, H a = some x → H' a = some x) : RepO K H' ρ' o a := by
  cases o with
  | lst ds =>
    obtain ⟨vs, h1, h2⟩ := h
    exact ⟨vs, k _ h1, h2.mono e⟩
/-- nothing of the store has changed -/
theorem RepS.mono_of (r : RepS K H ρ S) (e : Ext K H ρ H' ρ) (k : ∀ a x, a ∈ ρ → H a = some x → H' a = some x) : RepS K H' ρ S :=
  ⟨r.len, r.nd, fun n o h => by
    obtain ⟨a, h1, h2⟩ := r.at_ n o h
    exact ⟨a, h1, h2.mono_of e (k a · (List.mem_of_getElem? h1))⟩⟩
/-- a new object, that is not in the store -/
theorem Ext.new {p : Addr} {o : HO} (h : H p = none) : Ext K H ρ (upd H p o) ρ :=
  ⟨⟨[], by simp, fun _ h => by cases h⟩, fun a x q _ => by rw [upd_ne (ne_of_none q h)]; exact q, fun a _ q => by
    by_cases e : a = p
    · subst e; exact absurd h q
    · rw [upd_ne e]; exact q, fun a xs q => by
    rcases q with q | ⟨x, q⟩
    · exact .inl (by rw [upd_ne (ne_of_none q h)]; exact q)
    · exact .inr ⟨x, by rw [upd_ne (ne_of_none q h)]; exact q⟩, fun a xs q => by
    rcases q with ⟨x, q⟩ | q
    · exact .inl ⟨x, by rw [upd_ne (ne_of_none q h)]; exact q⟩
    · exact .inr q⟩
theorem RepS.new {p : Addr} {o : HO} (r : RepS K H ρ S) (h : H p = none) : RepS K (upd H p o) ρ S :=
  r.mono_of (.new h) fun a x _ q => by rw [upd_ne (ne_of_none q h)]; exact q
/-- a new list goes into the store -/
theorem Ext.push {a : Addr} (e : Ext K H ρ H' ρ') (h0 : H a = none) : Ext K H ρ H' (ρ' ++ [a]) := by
  obtain ⟨t, rfl, ht⟩ := e.pre
  refine ⟨⟨t ++ [a], by simp, fun b hb => ?_⟩, e.keep, e.live, e.tup, e.rol⟩
  rcases List.mem_append.mp hb with h | h
  · exact ht b h
  · have : b = a := by simpa using h
    subst this; exact h0
theorem Ext.grow (t : List Addr) (h : ∀ a ∈ t, H a = none) : Ext K H ρ H (ρ ++ t) := ⟨⟨t, rfl, h⟩, fun _ _ h _ => h, fun _ _ h => h, fun _ _ h => h, fun _ _ h => h⟩
mutual
theorem RepV.grow (t : List Addr) : ∀ {d : D} {v : L2.V}, RepV K H ρ d v → RepV K H (ρ ++ t) d v
  | .non, _, h => h
  | .bl _, _, h => h
  | .int _, _, h => h
  | .str _, _, h => h
  | .tup ds, v, h => by
    obtain ⟨a, vs, e1, hs, hl⟩ := h
    exact ⟨a, vs, e1, hs, RepL.grow t hl⟩
  | .rol ds, v, h => by
    obtain ⟨a, vs, e1, hs, hl⟩ := h
    exact ⟨a, vs, e1, hs, RepL.grow t hl⟩
  | .loc n, v, h => by
    obtain ⟨a, e1, hs⟩ := h
    exact ⟨a, e1, by rw [List.getElem?_append_left (List.getElem?_eq_some_iff.mp hs).1]; exact hs⟩
theorem RepL.grow (t : List Addr) : ∀ {ds : List D} {vs : List L2.V}, RepL K H ρ ds vs → RepL K H (ρ ++ t) ds vs
  | [], _, h => h
  | d :: ds, vs, h => by
    obtain ⟨v, r, e1, h1, h2⟩ := h
    exact ⟨v, r, e1, RepV.grow t h1, RepL.grow t h2⟩
end
theorem RepO.grow (t : List Addr) {o : O} {a : Addr} (h : RepO K H ρ o a) : RepO K H (ρ ++ t) o a := by
  cases o with
  | lst ds => obtain ⟨vs, h1, h2⟩ := h; exact ⟨vs, h1, h2.grow t⟩
theorem RepS.push {a : Addr} {vs : List L2.V} {ds : List D} (r : RepS K H ρ S) (ha : H a = some (.lst vs)) (hn : a ∉ ρ) (hl : RepL K H ρ ds vs) : RepS K H (ρ ++ [a]) (S ++ [.lst ds]) := by
  refine ⟨by simp [r.len], ?_, fun n o h => ?_⟩
  · rw [List.nodup_append]
    exact ⟨r.nd, by simp, fun x hx y hy => by simp at hy; subst hy; exact fun e => hn (e ▸ hx)⟩
  · by_cases hlt : n < S.length
    · rw [List.getElem?_append_left hlt] at h
      obtain ⟨b, h1, h2⟩ := r.at_ n o h
      exact ⟨b, by rw [List.getElem?_append_left (by rw [r.len]; exact hlt)]; exact h1, h2.grow _⟩
    · have hn' : n = S.length := by
        have := (List.getElem?_eq_some_iff.mp h).1
        simp at this; omega
      subst hn'
      rw [List.getElem?_append_right (Nat.le_refl _)] at h
      simp at h; subst h
      exact ⟨a, by rw [← r.len, List.getElem?_append_right (Nat.le_refl _)]; simp, vs, ha, hl.grow _⟩
/-- a list of the store is changed -/
theorem Ext.write {a : Addr} {vs ws : List L2.V} (ha : a ∈ ρ) (h : H a = some (.lst vs)) : Ext K H ρ (upd H a (.lst ws)) ρ := by
  refine ⟨⟨[], by simp, fun _ h => by cases h⟩, fun b x q hb => ?_, fun b _ q => ?_, fun b xs q => ?_, fun b xs q => ?_⟩
  · rw [upd_ne (fun e => hb (by rw [e]; exact ha))]; exact q
  · by_cases e : b = a
    · subst e; rw [upd_same]; simp
    · rw [upd_ne e]; exact q
  · have ne : ∀ x, H b = some x → x ≠ .lst vs → b ≠ a := fun x q1 q2 e => by
      subst e; rw [h] at q1; exact q2 (Option.some.inj q1).symm
    rcases q with q | ⟨x, q⟩
    · exact .inl (by rw [upd_ne (ne _ q (by intro z; cases z))]; exact q)
    · exact .inr ⟨x, by rw [upd_ne (ne _ q (by intro z; cases z))]; exact q⟩
  · rcases q with ⟨x, q⟩ | q
    · refine .inl ⟨x, ?_⟩
      rw [upd_ne (fun e => by subst e; rw [q] at h; cases h)]; exact q
    · exact .inr q
theorem RepS.write {n : Nat} {a : Addr} {vs ws : List L2.V} {ds es : List D} (r : RepS K H ρ S) (hn : S[n]? = some (.lst ds)) (hr : ρ[n]? = some a) (h : H a = some (.lst vs)) (hl : RepL K H ρ es ws) :
    RepS K (upd H a (.lst ws)) ρ (S.set n (.lst es)) := by
  have e : Ext K H ρ (upd H a (.lst ws)) ρ := .write (List.mem_of_getElem? hr) h
  refine ⟨by simp [r.len], r.nd, fun k o hk => ?_⟩
  by_cases e1 : k = n
  · subst e1
    have hlt : k < S.length := (List.getElem?_eq_some_iff.mp hn).1
    rw [List.getElem?_set_self hlt] at hk
    cases hk
    exact ⟨a, hr, ws, upd_same, hl.mono e⟩
  · rw [List.getElem?_set_ne (Ne.symm e1)] at hk
    obtain ⟨b, h1, h2⟩ := r.at_ k o hk
    refine ⟨b, h1, h2.mono_of e fun x q => ?_⟩
    have : b ≠ a := fun z => e1 (r.inj h1 (by rw [z]; exact hr))
    rw [upd_ne this]; exact q
/-- the store's list at n -/
theorem RepS.lst (r : RepS K H ρ S) {n : Nat} {ds : List D} (h : S[n]? = some (.lst ds)) : ∃ a vs, ρ[n]? = some a ∧ H a = some (.lst vs) ∧ RepL K H ρ ds vs := by
  obtain ⟨a, h1, vs, h2, h3⟩ := r.at_ n _ h
  exact ⟨a, vs, h1, h2, h3⟩
theorem lstR_loc {n : Nat} {ds : List D} (h : lstR S (.v (.loc n)) = some ds) : S[n]? = some (.lst ds) := by
  unfold lstR at h
  cases q : S[n]? with
  | none => simp only [q] at h; cases h
  | some o =>
    cases o with
    | lst xs => simp only [q] at h; cases h; rfl
theorem RepS.ne (r : RepS K H ρ S) {p : Addr} (h : H p = none) : p ∉ ρ := fun hp => by
  obtain ⟨n, hn⟩ := List.mem_iff_getElem?.mp hp
  have hl : n < S.length := by rw [← r.len]; exact (List.getElem?_eq_some_iff.mp hn).1
  obtain ⟨b, h1, h2⟩ := r.at_ n S[n] (by simp [hl])
  rw [hn] at h1; cases h1
  cases q : S[n] with
  | lst ds =>
    rw [q] at h2
    obtain ⟨vs, h2, _⟩ := h2
    rw [h] at h2; cases h2

/-! ### a new list that grows, not in the store -/
theorem Sub.upd {D : Addr} {vs ws : List L2.V} (h : H D = some (.lst vs)) : Sub K H ρ (upd H D (.lst ws)) ρ := by
  have ne : ∀ {b : Addr} {x : HO}, H b = some x → x ≠ .lst vs → b ≠ D := fun q1 q2 e => by
    subst e; rw [q1] at h; exact q2 (Option.some.inj h)
  refine ⟨fun _ _ q => q, fun b xs q => ?_, fun b xs q => ?_⟩
  · rcases q with q | ⟨x, q⟩
    · exact .inl (by rw [upd_ne (ne q (by intro z; cases z))]; exact q)
    · exact .inr ⟨x, by rw [upd_ne (ne q (by intro z; cases z))]; exact q⟩
  · rcases q with ⟨x, q⟩ | q
    · exact .inl ⟨x, by rw [upd_ne (ne q (by intro z; cases z))]; exact q⟩
    · exact .inr q
theorem Ext.updNew {D : Addr} {vs ws : List L2.V} (e : Ext K H1 ρ1 H ρ) (h0 : H1 D = none) (h : H D = some (.lst vs)) : Ext K H1 ρ1 (upd H D (.lst ws)) ρ := by
  have s : Sub K H ρ (upd H D (.lst ws)) ρ := .upd h
  refine ⟨e.pre, fun a o q ha => ?_, fun a ha q => ?_, fun a xs q => s.tup a xs (e.tup a xs q), fun a xs q => s.rol a xs (e.rol a xs q)⟩
  · rw [upd_ne (ne_of_none q h0)]; exact e.keep a o q ha
  · by_cases hd : a = D
    · subst hd; exact absurd h0 q
    · rw [upd_ne hd]; exact e.live a ha q
theorem RepS.updNew {D : Addr} {vs ws : List L2.V} (r : RepS K H ρ S) (hD : D ∉ ρ) (h : H D = some (.lst vs)) : RepS K (upd H D (.lst ws)) ρ S := by
  refine ⟨r.len, r.nd, fun n o q => ?_⟩
  obtain ⟨a, h1, h2⟩ := r.at_ n o q
  refine ⟨a, h1, ?_⟩
  have ne : a ≠ D := fun e => hD (e ▸ List.mem_of_getElem? h1)
  cases o with
  | lst ds =>
    obtain ⟨us, g1, g2⟩ := h2
    exact ⟨us, by rw [upd_ne ne]; exact g1, g2.sub (.upd h)⟩

/-! ### results -/
def RepR (K : PySem.W.Frag) (H : Hp) (ρ : List Addr) (H0 : Hp) : R → L2.V → Prop
  | .v d, v => RepV K H ρ d v
  | .s ds, v => ∃ a vs, v = .ref a ∧ H a = some (.lst vs) ∧ H0 a = none ∧ a ∉ ρ ∧ RepL K H ρ ds vs
theorem RepR.mono {r : R} {v : L2.V} (e : Ext K H1 ρ1 H2 ρ2) (h : RepR K H1 ρ1 H0 r v) : RepR K H2 ρ2 H0 r v := by
  cases r with
  | v d => exact RepV.mono e h
  | s ds =>
    obtain ⟨a, vs, e1, h1, h2, h3, h4⟩ := h
    exact ⟨a, vs, e1, e.keep a _ h1 h3, h2, e.notin h1 h3, h4.mono e⟩
theorem RepR.back {r : R} {v : L2.V} (e : Ext K H ρ H1 ρ1) (h : RepR K H' ρ' H1 r v) : RepR K H' ρ' H r v := by
  cases r with
  | v d => exact h
  | s ds =>
    obtain ⟨a, vs, e1, h1, h2, h3, h4⟩ := h
    exact ⟨a, vs, e1, h1, e.back h2, h3, h4⟩
/-- a list's reading -/
theorem RepR.lst {r : R} {v : L2.V} {ds : List D} (s : RepS K H ρ S) (h : RepR K H ρ H0 r v) (e : lstR S r = some ds) : ∃ a vs, v = .ref a ∧ SqL K H a vs ∧ RepL K H ρ ds vs := by
  cases r with
  | v d =>
    cases d with
    | loc n =>
      obtain ⟨a, rfl, ha⟩ := h
      obtain ⟨b, vs, h1, h2, h3⟩ := s.lst (lstR_loc e)
      rw [ha] at h1; cases h1
      exact ⟨a, vs, rfl, .of h2, h3⟩
    | rol xs =>
      cases e
      obtain ⟨a, vs, rfl, h1, h2⟩ := h
      exact ⟨a, vs, rfl, h1.sq, h2⟩
    | _ => cases e
  | s ds' =>
    cases e
    obtain ⟨a, vs, rfl, h1, _, _, h4⟩ := h
    exact ⟨a, vs, rfl, .of h1, h4⟩
theorem RepR.seq {r : R} {v : L2.V} {ds : List D} (s : RepS K H ρ S) (h : RepR K H ρ H0 r v) (e : seqR S r = some ds) : ∃ a vs, v = .ref a ∧ (SqL K H a vs ∨ SqT K H a vs) ∧ RepL K H ρ ds vs := by
  by_cases q : ∃ xs, r = .v (.tup xs)
  · obtain ⟨xs, rfl⟩ := q
    cases e
    obtain ⟨a, vs, rfl, h1, h2⟩ := h
    exact ⟨a, vs, rfl, .inr h1, h2⟩
  · have e2 : lstR S r = some ds := by
      cases r with
      | v d =>
        cases d with
        | tup xs => exact absurd ⟨xs, rfl⟩ q
        | _ => exact e
      | _ => exact e
    obtain ⟨a, vs, h1, h2, h3⟩ := h.lst s e2
    exact ⟨a, vs, h1, .inl h2, h3⟩
theorem lstR_tup {xs : List D} : lstR S (.v (.tup xs)) = none := rfl
end Pv

/-! From the model's syntax to the core. -/
namespace Pv
open PySem PySem.Spec PyProof.Rows L2

def mapO {α β : Type} (f : α → Option β) : List α → Option (List β)
  | [] => some []
  | a :: r => (match f a, mapO f r with | some b, some s => some (b :: s) | _, _ => none)

structure Sc where
  sc : Scope
  N : List Str
  cells : Option Scope
  fi : Str → Option Nat
  gl : Str → Option Int
  bi : Str → Bool

def ixOf : List Str → Str → Option Nat
  | [], _ => none
  | y :: r, x => if y = x then some 0 else (ixOf r x).map (· + 1)
theorem ixOf_get : ∀ {N : List Str} {x : Str} {i : Nat}, ixOf N x = some i → N[i]? = some x
  | [], _, _, h => by cases h
  | y :: r, x, i, h => by
    unfold ixOf at h
    by_cases e : y = x
    · rw [if_pos e] at h; cases h; simp [e]
    · rw [if_neg e] at h
      cases q : ixOf r x with
      | none => rw [q] at h; cases h
      | some j => rw [q] at h; cases h; simpa using ixOf_get q

def isK (c : Sc) (x : Str) (k : NameKind) : Bool := decide (c.sc.names.lookup x = some k)
def vis (c : Sc) (x : Str) : Bool := isK c x .local || (isK c x .cell || isK c x .free)
/-- a name that can be stored here -/
def sto (c : Sc) (x : Str) : Bool := isK c x .local || (isK c x .cell && (match c.cells with | none => true | some s => s.names.lookup x == some .cell))
def isG (c : Sc) (x : Str) : Bool := isK c x .globalImplicit
def okName (x : Str) : Bool := !(x == ("__debug__" : Str)) && (!(x == ("__classdict__" : Str)) && !decide (x = ("__name__" : Str)))
def Sc.blk (c : Sc) (scope : Scope) : Sc := { c with sc := relS scope c.sc, cells := some scope }

mutual
def Pat.slots : Pat → List Nat
  | .nm i => [i]
  | .tp ps => slotss ps
termination_by structural p => p
def slotss : List Pat → List Nat
  | [] => []
  | p :: ps => p.slots ++ slotss ps
termination_by structural p => p
end

def cP : Nat → Sc → Expr → Option Pat
  | 0, _, _ => none
  | n + 1, c, e => (match e with
    | .Name x _ => if sto c x then (ixOf c.N x).map .nm else none
    | .Tuple es _ _ => (mapO (cP n c) es).map .tp
    | _ => none)

def ownOf (N : List Str) (scope : Scope) : List (Str × Nat) := scope.names.filterMap fun (n, k) => if k == .local || k == .cell then (ixOf N n).map fun i => (n, i) else none
def blkB (N : List Str) (sc scope : Scope) (own : List (Str × Nat)) : Bool :=
  decide (scope.kind = .function) && (scope.names.all (fun y => decide (scope.names.lookup y.1 = some y.2)) && (own.all (fun p => decide (N[p.2]? = some p.1)) &&
    (scope.names.all (fun y => !decide (y.2 = .free) || (decide (sc.names.lookup y.1 = some .cell) || decide (sc.names.lookup y.1 = some .free))) &&
      scope.names.all (fun y => !(decide (y.2 = .local) || decide (y.2 = .cell)) || (decide (y.1 ∈ own.map (·.1)) || decide (y.1 ∉ N))))))
theorem blkB_ok {N : List Str} {sc scope : Scope} {own : List (Str × Nat)} (h : blkB N sc scope own = true) : BlkOk N sc scope own := by
  unfold blkB at h
  simp only [Bool.and_eq_true, List.all_eq_true, decide_eq_true_eq, Bool.or_eq_true, Bool.not_eq_true', decide_eq_false_iff_not] at h
  obtain ⟨h1, h2, h3, h4, h5⟩ := h
  refine ⟨h1, h2, h3, fun y hy e => ?_, fun y hy e => ?_⟩
  · rcases h4 y hy with h | h
    · exact absurd e h
    · exact h
  · rcases h5 y hy with h | h
    · rcases e with e | e
      · simp [e] at h
      · simp [e] at h
    · exact h

def okOp : Operator → Bool
  | .Add | .Sub | .Mult | .FloorDiv | .Mod | .Pow => true
  | _ => false
def okAug : Operator → Bool
  | .Add | .Sub | .Mult | .FloorDiv | .Mod => true
  | _ => false
def okCmp : CmpOp → Bool
  | _ => true

def isName (x : Str) : Expr → Bool
  | .Name y _ => decide (y = x)
  | _ => false
def notCall : Expr → Bool
  | .Call .. => false
  | _ => true
def isTupE : Expr → Bool
  | .Tuple .. => true
  | _ => false

/-- a call of a built-in by its name -/
inductive Bk where
  | sq (q : Sq) | b1 (b : B1) | b2 (b : B2)
def sqOf (x : Str) : Option Sq :=
  if x = ("len" : Str) then some .len else if x = ("tuple" : Str) then some .tuple else if x = ("list" : Str) then some .list else if x = ("sum" : Str) then some .sum
  else if x = ("max" : Str) then some .max else if x = ("min" : Str) then some .min else if x = ("any" : Str) then some .any else if x = ("all" : Str) then some .all else none
def b1Of (x : Str) : Option B1 := if x = ("abs" : Str) then some .abs else if x = ("int" : Str) then some .int else if x = ("bool" : Str) then some .bool else none
def b2Of (x : Str) : Option B2 := if x = ("min" : Str) then some .min else if x = ("max" : Str) then some .max else none
def tyOf (x : Str) : Option B1 := if x = ("int" : Str) then some .isInt else if x = ("bool" : Str) then some .isBool else if x = ("tuple" : Str) then some .isTup else if x = ("str" : Str) then some .isStr else none
def mtOf (x : Str) : Option Mt := if x = ("append" : Str) then some .append else if x = ("extend" : Str) then some .extend else none

/-- tuple(reversed(b)) -/
def trevOf (c : Sc) (x : Str) (a : Expr) : Option Expr := if x = ("tuple" : Str) then (match a with
    | .Call (.Name y _) [b] [] _ => if decide (y = ("reversed" : Str)) && (isG c y && c.bi y) then some b else none
    | _ => none) else none
theorem trevOf_inv {c : Sc} {x : Str} {a b : Expr} (h : trevOf c x a = some b) : x = ("tuple" : Str) ∧ ∃ p pos, a = .Call (.Name ("reversed" : Str) p) [b] [] pos ∧ isG c ("reversed" : Str) = true ∧ c.bi ("reversed" : Str) = true := by
  unfold trevOf at h
  split at h
  · rename_i hx
    split at h
    · split at h
      · rename_i hy
        cases h
        simp only [Bool.and_eq_true, decide_eq_true_eq] at hy
        obtain ⟨rfl, h1, h2⟩ := hy
        exact ⟨hx, _, _, rfl, h1, h2⟩
      · cases h
    · cases h
  · cases h
section
variable (rec : Sc → Expr → Option CE)
def cO (c : Sc) : Option Expr → Option CO
  | none => some .no
  | some e => (rec c e).map .at_
/-- what a for or a comprehension walks; tt: its target is a tuple -/
def cI (c : Sc) (tt : Bool) (e : Expr) : Option CI := match e with
  | .Call (.Name x _) args [] _ =>
    if isG c x && (c.bi x && okName x) then
      (if x = ("range" : Str) then (match args with
        | [a] => (rec c a).map .rng1
        | [a, b] => (match rec c a, rec c b with | some a, some b => some (.rng2 a b) | _, _ => none)
        | [a, b, d] => (match rec c a, rec c b, rec c d with | some a, some b, some d => some (.rng3 a b d) | _, _, _ => none)
        | _ => none)
      else if x = ("enumerate" : Str) then (match args with
        | [a] => if tt then (rec c a).map .enum else none
        | _ => none)
      else if x = ("zip" : Str) then (match args with
        | [a, b] => if tt then (match rec c a, rec c b with | some a, some b => some (.zip a b) | _, _ => none) else none
        | _ => none)
      else if x = ("reversed" : Str) then (match args with
        | [a] => (rec c a).map .rev
        | _ => none)
      else (rec c e).map .seq)
    else (rec c e).map .seq
  | _ => (rec c e).map .seq
def cC (c : Sc) (e : Expr) : Option CE := match e with
  | .Call (.Name x _) args [] _ =>
    if isG c x && okName x then
      (match c.fi x with
      | some f => (mapO (rec c) args).map (.call f)
      | none => if c.bi x then (match args with
        | [a] => (match trevOf c x a with
          | some b => (rec c b).map (.sq .trev)
          | none => (match sqOf x with
            | some q => (rec c a).map (.sq q)
            | none => (match b1Of x with
              | some b => (rec c a).map (.b1 b)
              | none => none)))
        | [a, b] => (if x = ("isinstance" : Str) then (match b with
            | .Name t _ => if isG c t && (c.bi t && okName t) then (match tyOf t with | some q => (rec c a).map (.b1 q) | none => none) else none
            | _ => none)
          else (match b2Of x with
            | some q => (match rec c a, rec c b with | some a, some b => some (.b2 q a b) | _, _ => none)
            | none => none))
        | _ => none) else none)
    else none
  | .Call (.Attribute o m apos) args [] pos => if apos.endLine == pos.line && notCall o then (match mtOf m, args with
      | some q, [a] => (match rec c o, rec c a with | some o, some a => some (.mt1 q o a) | _, _ => none)
      | none, [] => if m = ("pop" : Str) then (rec c o).map fun o => .mt0 .pop o else none
      | none, [a] => if m = ("pop" : Str) then (match rec c o, rec c a with | some o, some a => some (.mt1 .popAt o a) | _, _ => none) else none
      | _, _ => none) else none
  | _ => none
/-- a comprehension -/
def cL (n : Nat) (c : Sc) (e : Expr) : Option CE := match e with
  | .ListComp elt [⟨tg, it, ifs, 0⟩] scope _ =>
    (let own := ownOf c.N scope
    if blkB c.N c.sc scope own && Nat.ble ifs.length 1 then
      (match cI rec c (isTupE tg) it, cP n (c.blk scope) tg, mapO (rec (c.blk scope)) ifs, rec (c.blk scope) elt with
      | some it, some p, some cs, some e => if p.slots.all (fun i => decide (i ∈ own.map (·.2))) then some (.comp (own.map (·.2)) p it cs e) else none
      | _, _, _, _ => none)
    else none)
  | .ListComp elt [⟨tg, it, ifs, 0⟩, ⟨tg1, it1, ifs1, 0⟩] scope _ =>
    (let own := ownOf c.N scope
    if blkB c.N c.sc scope own && (Nat.ble ifs.length 1 && Nat.ble ifs1.length 1) then
      (match cI rec c (isTupE tg) it, cP n (c.blk scope) tg, mapO (rec (c.blk scope)) ifs, cI rec (c.blk scope) (isTupE tg1) it1, cP n (c.blk scope) tg1, mapO (rec (c.blk scope)) ifs1, rec (c.blk scope) elt with
      | some it, some p, some cs, some it1, some p1, some cs1, some e =>
        if p.slots.all (fun i => decide (i ∈ own.map (·.2))) && p1.slots.all (fun i => decide (i ∈ own.map (·.2))) then some (.comp2 (own.map (·.2)) p it cs p1.slots p1 it1 cs1 e) else none
      | _, _, _, _, _, _, _ => none)
    else none)
  | _ => none
end

def cE : Nat → Sc → Expr → Option CE
  | 0, _, _ => none
  | n + 1, c, e => (match e with
    | .Name x _ => if okName x then (if vis c x then (ixOf c.N x).map .var else if isG c x then (c.gl x).map (fun i => .lit (.int i)) else none) else none
    | .Constant k _ _ => (match k with
      | .int i => some (.lit (.int i))
      | .bool b => some (.lit (.bl b))
      | .none => some (.lit .non)
      | .str x => some (.lit (.str x))
      | _ => none)
    | .BinOp a op b _ => if okOp op then (match cE n c a, cE n c b with | some a, some b => some (.bin op a b) | _, _ => none) else none
    | .UnaryOp .USub a _ => (cE n c a).map .neg
    | .UnaryOp .Not a _ => (cE n c a).map .not
    | .Compare a [op] [b] _ => (match cE n c a, cE n c b with | some a, some b => some (.cmp op a b) | _, _ => none)
    | .Compare a [op, op'] [b, d] _ => (match cE n c a, cE n c b, cE n c d with | some a, some b, some d => some (.cmp2 op op' a b d) | _, _, _ => none)
    | .BoolOp _ [a] _ => cE n c a
    | .BoolOp .And (a :: b :: r) pos => (match cE n c a, cE n c (.BoolOp .And (b :: r) pos) with | some a, some b => some (.and a b) | _, _ => none)
    | .BoolOp .Or (a :: b :: r) pos => (match cE n c a, cE n c (.BoolOp .Or (b :: r) pos) with | some a, some b => some (.or a b) | _, _ => none)
    | .IfExp t a b _ => (match cE n c t, cE n c a, cE n c b with | some t, some a, some b => some (.ife t a b) | _, _, _ => none)
    | .Tuple es _ _ => if Nat.ble es.length 1000 then (mapO (cE n c) es).map .tup else none
    | .List es _ => if Nat.ble es.length 1000 then (mapO (cE n c) es).map .lst else none
    | .Subscript a (.Slice lo hi none _) _ => (match cE n c a, cO (cE n) c lo, cO (cE n) c hi with | some a, some l, some h => some (.slc a l h) | _, _, _ => none)
    | .Subscript a b _ => (match cE n c a, cE n c b with | some a, some b => some (.idx a b) | _, _ => none)
    | .Call .. => cC (cE n) c e
    | .ListComp .. => cL (cE n) n c e
    | _ => none)

def cT : Nat → Sc → Expr → Option Tg
  | 0, _, _ => none
  | n + 1, c, e => (match e with
    | .Name x _ => if sto c x then (ixOf c.N x).map .nm else none
    | .Tuple es _ _ => (mapO (cT n c) es).map .tp
    | .Subscript o i _ => (match i with
      | .Slice .. => none
      | _ => (match cE n c o, cE n c i with | some o, some i => some (.ix o i) | _, _ => none))
    | _ => none)

/-- which stores a tuple to a tuple of names makes: none: it is not known -/
def swapN (ts vs : List Expr) (c : Sc) : Option (Option (List Str)) :=
  if !(ts.length == 2 || ts.length == 3) || vs.length != ts.length then some none else
  if vs.any (fun | .Starred .. => true | _ => false) then some none else
  let line := (ts.head?.map (·.pos.line)).getD 0
  let names := ts.filterMap fun
    | .Name id pos => if c.sc.names.lookup id == some .local && pos.line == line then some id else none
    | _ => none
  if names.length != ts.length || names.eraseDups.length != names.length then some none else
  if vs.all (foldedForSure 8) then some none else
  if vs.all (constantsAlone 8) then none else some (some names)

def notComp : Expr → Bool
  | .ListComp .. => false
  | .SetComp .. => false
  | .DictComp .. => false
  | _ => true
/-- name = comprehension: is it stored ahead of the variables' end? -/
def swapC (scope : Scope) (py pv : Pos) (t : Str) (c : Sc) : Bool :=
  isK c t .local && (py.line == pv.line && !(scope.names.any fun (n, k) => n == t && (k == .local || k == .cell)))

def cS : Nat → Sc → Stmt → Option CS
  | 0, _, _ => none
  | n + 1, c, s => (match s with
    | .Return none _ => some .retn
    | .Return (some e) _ => (cE n c e).map .ret
    | .Expr (.Constant (.str _) _ _) _ => some .pass
    | .Expr e _ => if notComp e then (cE n c e).map .expr else none
    | .Assign [tg] v pos => (match tg, v with
      | .Tuple ts _ _, .Tuple vs _ _ => (match swapN ts vs c with
        | some (some ns) => (match mapO (ixOf c.N) ns, mapO (cE n c) vs with
          | some [i, j], some [a, b] => (match ts with
            | [.Name x _, .Name y _] => if decide (ns = [x, y]) && !decide (i = j) then some (.par2 i j a b) else none
            | _ => none)
          | some [i, j, k], some [a, b, d] => (match ts with
            | [.Name x _, .Name y _, .Name z _] => if decide (ns = [x, y, z]) && (!decide (i = j) && (!decide (i = k) && !decide (j = k))) then some (.par3 i j k a b d) else none
            | _ => none)
          | _, _ => none)
        | some none => (match cT n c tg, cE n c v with | some t, some v => some (.asg t v) | _, _ => none)
        | none => none)
      | _, _ => (match cT n c tg, cE n c v with | some t, some v => some (.asg t v) | _, _ => none))
    | .AugAssign (.Name x _) op e _ => if sto c x && okAug op then (match ixOf c.N x, cE n c e with | some i, some e => some (.aug i op e) | _, _ => none) else none
    | .If t a b _ => (match cE n c t, mapO (cS n c) a, mapO (cS n c) b with | some t, some a, some b => some (.ite t a b) | _, _, _ => none)
    | .While t a [] _ => (match cE n c t, mapO (cS n c) a with | some t, some a => some (.whl t a) | _, _ => none)
    | .For tg it b [] _ => (match cP n c tg, cI (cE n) c (isTupE tg) it, mapO (cS n c) b with | some p, some i, some b => some (.forr p i b) | _, _, _ => none)
    | .Pass _ => some .pass
    | .Break _ => some .brk
    | .Continue _ => some .cnt
    | .Raise .. => some .never
    | _ => none)
end Pv

/-! The operators by values. -/
namespace Pv
open PySem PySem.Spec PyProof.Rows L2
variable {X : Cx}

theorem _root_.L2.PE.imp {e : Expr} {t t' : TE} (h : PE X e t) (f : ∀ σ H Q, t' σ H Q → t σ H Q) : PE X e t' := ⟨fun pins s σ H Q I q => h.run pins s σ H Q I (f σ H Q q)⟩
theorem _root_.L2.PT.imp {e : Expr} {t t' : TT} (h : PT X e t) (f : ∀ σ H Q, t' σ H Q → t σ H Q) : PT X e t' := ⟨fun pins s σ H Q I q => h.run pins s σ H Q I (f σ H Q q)⟩
theorem _root_.L2.PW.imp {e : Expr} {t t' : TT} (h : PW X e t) (f : ∀ σ H Q, t' σ H Q → t σ H Q) : PW X e t' := ⟨fun wh pins s σ H Q I q => h.run wh pins s σ H Q I (f σ H Q q)⟩
theorem _root_.L2.PA.imp {e : List Expr} {t t' : TA} (h : PA X e t) (f : ∀ σ H Q, t' σ H Q → t σ H Q) : PA X e t' := ⟨fun po pins s σ H Q I q => h.run po pins s σ H Q I (f σ H Q q)⟩
theorem _root_.L2.PS.imp {e : Stmt} {t t' : TS} (h : PS X e t) (f : ∀ D σ H, t' D σ H → t D σ H) : PS X e t' := ⟨fun pins s σ H D I q => h.run pins s σ H D I (f D σ H q)⟩
theorem _root_.L2.PSs.imp {e : List Stmt} {t t' : TS} (h : PSs X e t) (f : ∀ D σ H, t' D σ H → t D σ H) : PSs X e t' := ⟨fun pins s σ H D I q => h.run pins s σ H D I (f D σ H q)⟩
theorem _root_.L2.PI.imp {tg e : Expr} {t t' : TI} (h : PI X tg e t) (f : ∀ σ H R, t' σ H R → t σ H R) : PI X tg e t' := ⟨fun pins s σ H R I q => h.run pins s σ H R I (f σ H R q)⟩
theorem _root_.L2.PO.imp {e : Option Expr} {t t' : TO} (h : PO X e t) (f : ∀ σ H R, t' σ H R → t σ H R) : PO X e t' := ⟨fun pins s σ H R I q => h.run pins s σ H R I (f σ H R q)⟩

/-- lengths are bounded -/
def HB (K : PySem.W.Frag) (H : Hp) : Prop := ∀ a xs, SqL K H a xs ∨ SqT K H a xs → xs.length ≤ sizeLine
theorem HB.of {pins : List (Addr × Obj)} {s : Shared} {σ : L2.St} {H : Hp} (I : Inv X pins σ H s) : HB X.K H := fun a xs h => by
  rcases h with h | h
  · obtain ⟨_, _, _, h⟩ := I.list h; exact h
  · obtain ⟨_, _, _, h⟩ := I.tuple h; exact h
theorem limS : lim ≤ sizeLine := by rw [sizeLine_eq]; decide

/-! ### ints -/
theorem log_ok {i j : Int} (h : i.natAbs < 18446744073709551616 ∨ j.natAbs < 18446744073709551616 ∨ i.natAbs.log2 + j.natAbs.log2 < 1000000) : IntMulOk i j := by
  rcases h with h | h | h
  · exact CMul.ok (.inl ⟨by omega, by omega⟩)
  · exact CMul.ok (.inr ⟨by omega, by omega⟩)
  · exact CMulW.ok h
def CMulA (i j : Int) : Prop := i.natAbs < 18446744073709551616 ∨ j.natAbs < 18446744073709551616 ∨ i.natAbs.log2 + j.natAbs.log2 < 1000000
def CDivA (i j : Int) : Prop := j ≠ 0 ∧ j.natAbs.log2 < 9000
theorem op_mulA : OpR X (binaryOp .Mult) (rI CMulA fun i j => .int (i * j)) := opI fun _ _ _ _ _ _ _ hc q => mul_int q (log_ok hc)
theorem op_fdivA : OpR X (binaryOp .FloorDiv) (rI CDivA fun i j => .int (i.fdiv j)) := opI fun _ _ _ _ _ _ _ hc q => floordiv_int hc.1 q (.inl (PyProof.noPylong_of_log2 hc.2))
theorem iop_mulA : OpR X (inplaceOp .Mult) (rI CMulA fun i j => .int (i * j)) := opI fun _ _ _ _ _ _ _ hc q => imul_int q (log_ok hc)
theorem iop_fdivA : OpR X (inplaceOp .FloorDiv) (rI CDivA fun i j => .int (i.fdiv j)) := opI fun _ _ _ _ _ _ _ hc q => ifloordiv_int hc.1 q (.inl (PyProof.noPylong_of_log2 hc.2))
theorem iop_modN : OpR X (inplaceOp .Mod) (rI (fun _ j => j ≠ 0) fun i j => .int (i.fmod j)) := opI fun _ _ _ _ _ _ _ hc q => imod_int hc q
def rAr (op : Operator) : R2 := fun x y H Q => ∃ i j k, x = .int i ∧ y = .int j ∧ arI op i j = some k ∧ Q (.int k) H
theorem op_ar (op : Operator) : OpR X (binaryOp op) (rAr op) := by
  intro pins s σ H x y v u Q I rx ry h
  obtain ⟨i, j, k, e1, e2, ha, q⟩ := h
  unfold arI at ha
  cases op with
  | Add => cases ha; exact op_add pins s σ H x y v u Q I rx ry ⟨i, j, e1, e2, q⟩
  | Sub => cases ha; exact op_sub pins s σ H x y v u Q I rx ry ⟨i, j, e1, e2, q⟩
  | Mult =>
    simp only at ha
    split at ha
    · rename_i hc; cases ha; exact op_mulA pins s σ H x y v u Q I rx ry ⟨i, j, e1, e2, hc, q⟩
    · cases ha
  | FloorDiv =>
    simp only at ha
    split at ha
    · rename_i hc; cases ha; exact op_fdivA pins s σ H x y v u Q I rx ry ⟨i, j, e1, e2, hc, q⟩
    · cases ha
  | Mod =>
    simp only at ha
    split at ha
    · rename_i hc; cases ha; exact op_modN pins s σ H x y v u Q I rx ry ⟨i, j, e1, e2, hc, q⟩
    · cases ha
  | Pow =>
    simp only at ha
    split at ha
    · rename_i hc; cases ha; exact op_pow pins s σ H x y v u Q I rx ry ⟨i, j, e1, e2, ⟨hc.1, hc.2.1, by have := hc.2.2; omega⟩, q⟩
    · cases ha
  | _ => cases ha
theorem iop_ar (op : Operator) (ho : okAug op = true) : PIp X op (fun x y H Q => rAr op x y H Q) := by
  intro pins s σ H x y v u Q I rx ry h
  obtain ⟨i, j, k, e1, e2, ha, q⟩ := h
  unfold arI at ha
  cases op with
  | Add => cases ha; exact iop_add pins s σ H x y v u Q I rx ry ⟨i, j, e1, e2, q⟩
  | Sub => cases ha; exact iop_sub pins s σ H x y v u Q I rx ry ⟨i, j, e1, e2, q⟩
  | Mult =>
    simp only at ha
    split at ha
    · rename_i hc; cases ha; exact iop_mulA pins s σ H x y v u Q I rx ry ⟨i, j, e1, e2, hc, q⟩
    · cases ha
  | FloorDiv =>
    simp only at ha
    split at ha
    · rename_i hc; cases ha; exact iop_fdivA pins s σ H x y v u Q I rx ry ⟨i, j, e1, e2, hc, q⟩
    · cases ha
  | Mod =>
    simp only at ha
    split at ha
    · rename_i hc; cases ha; exact iop_modN pins s σ H x y v u Q I rx ry ⟨i, j, e1, e2, hc, q⟩
    · cases ha
  | _ => cases ho

/-! ### a op b -/
theorem lst_inv {K : PySem.W.Frag} {H H0 : Hp} {ρ : List Addr} {S : Store} {r : R} {v : L2.V} {ds : List D} (s : RepS K H ρ S) (h : RepR K H ρ H0 r v) (e : lstW S r = some ds) :
    ∃ a vs, v = .ref a ∧ H a = some (.lst vs) ∧ RepL K H ρ ds vs := by
  cases r with
  | v d =>
    cases d with
    | loc n =>
      obtain ⟨a, rfl, ha⟩ := h
      obtain ⟨b, vs, h1, h2, h3⟩ := s.lst (lstR_loc (by unfold lstW at e; unfold lstR; exact e))
      rw [ha] at h1; cases h1
      exact ⟨a, vs, rfl, h2, h3⟩
    | _ => cases e
  | s ds' =>
    cases e
    obtain ⟨a, vs, rfl, h1, _, _, h4⟩ := h
    exact ⟨a, vs, rfl, h1, h4⟩
/-- the values of rx and ry -/
structure Two (K : PySem.W.Frag) (S : Store) (rx ry : R) (x y : L2.V) (H : Hp) (ρ : List Addr) : Prop where
  st : RepS K H ρ S
  l : ∃ H0, RepR K H ρ H0 rx x
  r : ∃ H0, RepR K H ρ H0 ry y
def rBin (K : PySem.W.Frag) (op : Operator) : R2 := fun x y H Q => ∃ ρ S rx ry r, Two K S rx ry x y H ρ ∧ binR S op rx ry = some r ∧ ∀ v H', Ext K H ρ H' ρ → RepS K H' ρ S → RepR K H' ρ H r v → Q v H'

theorem repl_len {α : Type} (xs : List α) (k : Nat) : (List.replicate k xs).flatten.length = xs.length * k := by
  induction k with
  | zero => simp
  | succ k ih => rw [List.replicate_succ, List.flatten_cons, List.length_append, ih, Nat.mul_succ, Nat.add_comm]
theorem op_bin (op : Operator) : OpR X (binaryOp op) (rBin X.K op) := by
  intro pins s σ H x y v u Q I rx ry h
  obtain ⟨ρ, S, r1, r2, r, ⟨st, ⟨G1, l⟩, ⟨G2, rr⟩⟩, hb, q⟩ := h
  unfold binR at hb
  split at hb
  · -- ints
    rename_i i j
    cases ha : arI op i j with
    | none => rw [ha] at hb; cases hb
    | some k =>
      rw [ha] at hb; cases hb
      exact op_ar op pins s σ H x y v u Q I rx ry ⟨i, j, k, l, rr, ha, q _ _ .refl st rfl⟩
  · -- tuples
    rename_i xs ys
    cases op with
    | Add =>
      simp only at hb
      split at hb
      · rename_i hz
        cases hb
        obtain ⟨a, vs, rfl, h1, h2⟩ := l
        obtain ⟨b, ws, rfl, h3, h4⟩ := rr
        have e1 := h2.length
        have e2 := h4.length
        refine op_catA pins s σ H _ _ v u Q I rx ry ⟨a, b, vs, ws, rfl, rfl, h1, h3, by have := limS; have := Nat.le_of_ble_eq_true hz; omega, fun e => ?_, fun e1 e2 => ?_, fun _ _ p hp => ?_⟩
        · subst e
          have : xs = [] := by cases xs <;> simp_all
          subst this
          exact q _ _ .refl st ⟨b, ws, rfl, h3, by simpa using h4⟩
        · subst e2
          have : ys = [] := by cases ys <;> simp_all
          subst this
          exact q _ _ .refl st ⟨a, vs, rfl, h1, by simpa using h2⟩
        · have e : Ext X.K H ρ (upd H p (.tup (vs ++ ws))) ρ := .new hp
          exact q _ _ e (st.new hp) ⟨p, vs ++ ws, rfl, .of upd_same, (h2.append h4).mono e⟩
      · cases hb
    | _ => cases hb
  · -- tuple * int
    rename_i xs k
    cases op with
    | Mult =>
      simp only at hb
      split at hb
      · rename_i hz
        cases hb
        simp only [Bool.and_eq_true, decide_eq_true_eq, Bool.not_eq_true'] at hz
        obtain ⟨h0, ⟨h1, h2⟩, h3⟩ := hz
        have h3 := Nat.le_of_ble_eq_true h3
        obtain ⟨a, vs, rfl, g1, g2⟩ := l
        have el := g2.length
        refine op_repT pins s σ H _ _ v u Q I rx ry ⟨a, k, vs, rfl, rr, g1, fun e => ?_, h1, h2, by omega, fun p hp => ?_⟩
        · subst e
          cases xs with
          | nil => cases h0
          | cons _ _ => cases el
        · exact q _ _ (.new hp) (st.new hp) ⟨p, _, rfl, .of upd_same, (g2.repl _).mono (.new hp)⟩
      · cases hb
    | _ => cases hb
  · -- list * int
    rename_i a k _ _
    cases op with
    | Mult =>
      simp only at hb
      split at hb
      · rename_i xs hx
        split at hb
        · rename_i hz
          cases hb
          unfold repOk at hz
          simp only [Bool.and_eq_true, decide_eq_true_eq] at hz
          have h3 := Nat.le_of_ble_eq_true hz.2
          obtain ⟨a, vs, rfl, g1, g2⟩ := lst_inv st l hx
          have el := g2.length
          refine op_rep pins s σ H _ _ v u Q I rx ry ⟨a, k, vs, rfl, rr, g1, by omega, by omega, by have := limS; rw [el]; omega, fun p hp => ?_⟩
          exact q _ _ (.new hp) (st.new hp) ⟨p, _, rfl, upd_same, hp, st.ne hp, (g2.repl _).mono (.new hp)⟩
        · cases hb
      · cases hb
    | _ => cases hb
  · -- list + list
    rename_i a b _ _ _ _
    cases op with
    | Add =>
      simp only at hb
      split at hb
      · rename_i xs ys hx hy
        split at hb
        · rename_i hz
          cases hb
          have h3 := Nat.le_of_ble_eq_true hz
          obtain ⟨a, vs, rfl, g1, g2⟩ := lst_inv st l hx
          obtain ⟨b, ws, rfl, g3, g4⟩ := lst_inv st rr hy
          have el := g2.length
          have el2 := g4.length
          refine op_cat pins s σ H _ _ v u Q I rx ry ⟨a, b, vs, ws, rfl, rfl, g1, g3, by have := limS; omega, fun p hp => ?_⟩
          exact q _ _ (.new hp) (st.new hp) ⟨p, _, rfl, upd_same, hp, st.ne hp, (g2.append g4).mono (.new hp)⟩
        · cases hb
      · cases hb
    | _ => cases hb

/-! ### truth -/
theorem tru_of {K : PySem.W.Frag} {H H0 : Hp} {ρ : List Addr} {S : Store} {r : R} {v : L2.V} {b : Bool} (s : RepS K H ρ S) (h : RepR K H ρ H0 r v) (e : truR S r = some b) : TruV K v H b := by
  have lst : ∀ ds, lstR S r = some ds → b = !ds.isEmpty → TruV K v H b := fun ds e1 e2 => by
    obtain ⟨a, vs, rfl, h1, h2⟩ := h.lst s e1
    refine .inl ⟨vs, h1, ?_⟩
    have := h2.length
    rw [e2]
    cases ds <;> cases vs <;> simp_all
  have lstE : (lstR S r).map (fun xs => !xs.isEmpty) = some b → TruV K v H b := fun e => by
    cases q : lstR S r with
    | none => rw [q] at e; cases e
    | some ds => rw [q] at e; cases e; exact lst ds q rfl
  unfold truR at e
  split at e
  · cases e
    rw [show v = .non from h]
    rfl
  · cases e
    rw [show v = .bl _ from h]
    rfl
  · cases e
    rw [show v = .int _ from h]
    rfl
  · rename_i xs
    cases e
    obtain ⟨a, vs, rfl, h1, h2⟩ := h
    refine .inr (.inl ⟨vs, h1, ?_⟩)
    have := h2.length
    cases xs <;> cases vs <;> simp_all
  · exact lstE e

/-! ### comparisons -/
mutual
def toPy : D → PyData
  | .non => .none | .bl b => .bool b | .int i => .int i | .str x => .str x
  | .tup xs => .tuple (toPys xs) | .rol xs => .none | .loc _ => .none
termination_by structural d => d
def toPys : List D → List PyData
  | [] => []
  | x :: xs => toPy x :: toPys xs
termination_by structural d => d
end
mutual
theorem toPy_eqv : ∀ (a b : D) (n m : Nat), a.okn n = true → b.okn m = true → PyData.eqv (toPy a) (toPy b) = a.eqv b
  | .non, b, n, m, h, g => by cases b <;> first | rfl | cases g
  | .bl x, b, n, m, h, g => by cases b <;> first | rfl | cases g
  | .int x, b, n, m, h, g => by cases b <;> first | rfl | cases g
  | .str x, b, n, m, h, g => by cases b <;> first | rfl | cases g
  | .tup xs, b, n, m, h, g => by
    cases b with
    | tup ys =>
      cases n with
      | zero => cases h
      | succ n =>
        cases m with
        | zero => cases g
        | succ m => exact toPys_eqv xs ys n m h g
    | _ => first | rfl | cases g
  | .rol xs, b, n, m, h, g => by cases h
  | .loc k, b, n, m, h, g => by cases h
theorem toPys_eqv : ∀ (a b : List D) (n m : Nat), okns n a = true → okns m b = true → PyData.eqvAll (toPys a) (toPys b) = eqvs a b
  | [], [], _, _, _, _ => rfl
  | [], _ :: _, _, _, _, _ => rfl
  | _ :: _, [], _, _, _, _ => rfl
  | x :: xs, y :: ys, n, m, h, g => by
    have h : (x.okn n && okns n xs) = true := h
    have g : (y.okn m && okns m ys) = true := g
    simp only [Bool.and_eq_true] at h g
    show (PyData.eqv (toPy x) (toPy y) && PyData.eqvAll (toPys xs) (toPys ys)) = (x.eqv y && eqvs xs ys)
    rw [toPy_eqv x y n m h.1 g.1, toPys_eqv xs ys n m h.2 g.2]
end
end Pv

/-! Comparisons, subscripts, built-ins by values. -/
namespace Pv
open PySem PySem.Spec PyProof.Rows L2
variable {X : Cx}

mutual
theorem okn_lay : ∀ (a : D) (n : Nat), a.okn n = true → (toPy a).canLay0 = true ∧ (toPy a).depth ≤ n
  | .non, _, _ => ⟨rfl, Nat.zero_le _⟩
  | .bl _, _, _ => ⟨rfl, Nat.zero_le _⟩
  | .int _, _, _ => ⟨rfl, Nat.zero_le _⟩
  | .str x, n, h => ⟨h, Nat.zero_le _⟩
  | .tup xs, n, h => by
    cases n with
    | zero => cases h
    | succ n =>
      obtain ⟨h1, h2⟩ := okns_lay xs n h
      exact ⟨h1, Nat.succ_le_succ h2⟩
  | .rol xs, n, h => by cases h
  | .loc k, n, h => by cases h
theorem okns_lay : ∀ (a : List D) (n : Nat), okns n a = true → PyData.canLayAll0 (toPys a) = true ∧ PyData.depthAll (toPys a) ≤ n
  | [], _, _ => ⟨rfl, Nat.zero_le _⟩
  | x :: xs, n, h => by
    have h : (x.okn n && okns n xs) = true := h
    simp only [Bool.and_eq_true] at h
    obtain ⟨h1, h2⟩ := okn_lay x n h.1
    obtain ⟨h3, h4⟩ := okns_lay xs n h.2
    refine ⟨?_, ?_⟩
    · show ((toPy x).canLay0 && PyData.canLayAll0 (toPys xs)) = true
      rw [h1, h3]; rfl
    · show max (toPy x).depth (PyData.depthAll (toPys xs)) ≤ n
      exact Nat.max_le.mpr ⟨h2, h4⟩
end
theorem shaped_of {a : D} {n : Nat} (h : a.okn n = true) (hn : n ≤ 64) : SeqAt.shaped (toPy a) = true := by
  obtain ⟨h1, h2⟩ := okn_lay a n h
  unfold SeqAt.shaped
  rw [h1, decide_eq_true (by omega)]; rfl
section
variable {K : PySem.W.Frag} {H H0 : Hp} {ρ : List Addr} {S : Store}
mutual
theorem dp_of : ∀ {d : D} {v : L2.V} (n : Nat), d.okn n = true → RepV K H ρ d v → Dp K H v (toPy d)
  | .non, v, _, _, h => by rw [show v = .non from h]; exact .non
  | .bl _, v, _, _, h => by rw [show v = .bl _ from h]; exact .bl _
  | .int _, v, _, _, h => by rw [show v = .int _ from h]; exact .int _
  | .str _, v, _, _, h => by rw [show v = .str _ from h]; exact .str _
  | .tup xs, v, n, o, h => by
    obtain ⟨a, vs, rfl, h1, h2⟩ := h
    cases n with
    | zero => cases o
    | succ n => exact .tup h1 (dps_of n o h2)
  | .rol xs, _, _, o, _ => by cases o
  | .loc k, _, _, o, _ => by cases o
theorem dps_of : ∀ {ds : List D} {vs : List L2.V} (n : Nat), okns n ds = true → RepL K H ρ ds vs → DpAll K H vs (toPys ds)
  | [], vs, _, _, h => by rw [show vs = [] from h]; exact .nil
  | d :: ds, vs, n, o, h => by
    obtain ⟨v, r, rfl, h1, h2⟩ := h
    have o : (d.okn n && okns n ds) = true := o
    simp only [Bool.and_eq_true] at o
    exact .cons (dp_of n o.1 h1) (dps_of n o.2 h2)
end
/-- what == sees -/
theorem eqV_dp {r : R} {v : L2.V} {b : Bool} {d : D} (s : RepS K H ρ S) (h : RepR K H ρ H0 r v) (e : eqV S r = some (b, d)) :
    d.okn 60 = true ∧ ((b = false ∧ Dp K H v (toPy d)) ∨ ∃ ds, b = true ∧ d = .tup ds ∧ Dp K H v (.list (toPys ds))) := by
  have lst : ∀ ds, lstW S r = some ds → (if okns 59 ds then some (true, D.tup ds) else none) = some (b, d) → d.okn 60 = true ∧ ((b = false ∧ Dp K H v (toPy d)) ∨ ∃ ds, b = true ∧ d = .tup ds ∧ Dp K H v (.list (toPys ds))) := fun ds e1 e2 => by
    split at e2
    · rename_i ho
      cases e2
      obtain ⟨a, vs, rfl, h1, h2⟩ := lst_inv s h e1
      exact ⟨ho, .inr ⟨ds, rfl, rfl, .lst (.of h1) (dps_of 59 ho h2)⟩⟩
    · cases e2
  unfold eqV at e
  split at e
  · rename_i n
    cases q : S[n]? with
    | none => rw [q] at e; cases e
    | some o =>
      cases o with
      | lst ds => rw [q] at e; exact lst ds (by unfold lstW; simp only; rw [q]) e
  · cases e
  · exact lst _ rfl e
  · split at e
    · rename_i ho
      cases e
      exact ⟨ho, .inl ⟨rfl, dp_of 60 ho h⟩⟩
    · cases e
end
theorem eqv_mix {a : Bool} {d e : D} {p q : PyData} {b : Bool} (ho : d.okn 60 = true) (ho' : e.okn 60 = true) (hp : (a = false ∧ p = toPy d) ∨ ∃ ds, a = true ∧ d = .tup ds ∧ p = .list (toPys ds))
    (hq : (b = false ∧ q = toPy e) ∨ ∃ ds, b = true ∧ e = .tup ds ∧ q = .list (toPys ds)) : PyData.eqv p q = (if (a == b) = true then d.eqv e else false) := by
  rcases hp with ⟨rfl, rfl⟩ | ⟨ds, rfl, rfl, rfl⟩ <;> rcases hq with ⟨rfl, rfl⟩ | ⟨es, rfl, rfl, rfl⟩
  · exact toPy_eqv d e 60 60 ho ho'
  · cases d <;> first | rfl | cases ho
  · cases e <;> first | rfl | cases ho'
  · exact toPys_eqv ds es 59 59 ho ho'
def rCmp (K : PySem.W.Frag) (op : CmpOp) : R2 := fun x y H Q => ∃ ρ S rx ry b, Two K S rx ry x y H ρ ∧ cmpR S op rx ry = some b ∧ Q (.bl b) H
theorem seq_dp {K : PySem.W.Frag} {H H0 : Hp} {ρ : List Addr} {S : Store} {r : R} {v : L2.V} {ds : List D} {n : Nat} (s : RepS K H ρ S) (h : RepR K H ρ H0 r v) (e : seqR S r = some ds) (ho : okns n ds = true) :
    Dp K H v (.list (toPys ds)) ∨ Dp K H v (.tuple (toPys ds)) := by
  obtain ⟨a, vs, rfl, h1, h2⟩ := h.seq s e
  rcases h1 with h1 | h1
  · exact .inl (.lst h1 (dps_of n ho h2))
  · exact .inr (.tup h1 (dps_of n ho h2))
theorem any_eqv {d : D} {n : Nat} : ∀ {ds : List D}, okns n ds = true → d.okn 60 = true → (toPys ds).any (fun z => PyData.eqv z (toPy d)) = ds.any fun z => z.eqv d
  | [], _, _ => rfl
  | x :: xs, h, g => by
    have h : (x.okn n && okns n xs) = true := h
    simp only [Bool.and_eq_true] at h
    show (PyData.eqv (toPy x) (toPy d) || (toPys xs).any _) = (x.eqv d || xs.any _)
    rw [toPy_eqv x d n 60 h.1 g, any_eqv h.2 g]
theorem ne_non {K : PySem.W.Frag} {H : Hp} {ρ : List Addr} {d : D} {x : L2.V} (h : RepV K H ρ d x) (hd : d = .non → False) : x ≠ .non := fun e => by
  subst e
  cases d with
  | non => exact hd rfl
  | bl b => cases h
  | int b => cases h
  | str b => cases h
  | tup b => obtain ⟨_, _, h, _⟩ := h; cases h
  | rol b => obtain ⟨_, _, h, _⟩ := h; cases h
  | loc b => obtain ⟨_, h, _⟩ := h; cases h
theorem is_inv {S : Store} {r1 r2 : R} {b : Bool} (h : cmpR S .Is r1 r2 = some b) :
    (r1 = .v .non ∧ r2 = .v .non ∧ b = true) ∨ (∃ d, r1 = .v d ∧ (d = .non → False) ∧ r2 = .v .non ∧ b = false) ∨ ∃ c d, r1 = .v (.bl c) ∧ r2 = .v (.bl d) ∧ b = (c == d) := by
  cases r1 with
  | s ds => cases r2 <;> cases h
  | v d =>
    cases r2 with
    | s ds => cases d <;> cases h
    | v e =>
      cases e with
      | non => cases d <;> (cases h; first | exact .inl ⟨rfl, rfl, rfl⟩ | exact .inr (.inl ⟨_, rfl, (by intro z; cases z), rfl, rfl⟩))
      | bl c => cases d <;> first | (cases h; exact .inr (.inr ⟨_, _, rfl, rfl, rfl⟩)) | cases h
      | _ => cases d <;> cases h
theorem isnot_inv {S : Store} {r1 r2 : R} {b : Bool} (h : cmpR S .IsNot r1 r2 = some b) :
    (r1 = .v .non ∧ r2 = .v .non ∧ b = false) ∨ (∃ d, r1 = .v d ∧ (d = .non → False) ∧ r2 = .v .non ∧ b = true) ∨ ∃ c d, r1 = .v (.bl c) ∧ r2 = .v (.bl d) ∧ b = !(c == d) := by
  cases r1 with
  | s ds => cases r2 <;> cases h
  | v d =>
    cases r2 with
    | s ds => cases d <;> cases h
    | v e =>
      cases e with
      | non => cases d <;> (cases h; first | exact .inl ⟨rfl, rfl, rfl⟩ | exact .inr (.inl ⟨_, rfl, (by intro z; cases z), rfl, rfl⟩))
      | bl c => cases d <;> first | (cases h; exact .inr (.inr ⟨_, _, rfl, rfl, rfl⟩)) | cases h
      | _ => cases d <;> cases h
theorem op_cmp (op : CmpOp) (hu : X.A.units + 65 < cLine) : OpR X (compareOp op) (rCmp X.K op) := by
  intro pins s σ H x y v u Q I rx ry h
  obtain ⟨ρ, S, r1, r2, b, ⟨st, ⟨G1, l⟩, ⟨G2, rr⟩⟩, hb, q⟩ := h
  have eq : ∀ b', eqR S r1 r2 = some b' → ∃ p1 p2, Dp X.K H x p1 ∧ Dp X.K H y p2 ∧ SeqAt.shaped p1 = true ∧ SeqAt.shaped p2 = true ∧ PyData.eqv p1 p2 = b' := fun b' e => by
    unfold eqR at e
    cases e1 : eqV S r1 with
    | none => rw [e1] at e; cases e
    | some z1 =>
      cases e2 : eqV S r2 with
      | none => rw [e1, e2] at e; cases e
      | some z2 =>
        obtain ⟨a1, d1⟩ := z1
        obtain ⟨a2, d2⟩ := z2
        rw [e1, e2] at e
        cases e
        obtain ⟨o1, k1⟩ := eqV_dp st l e1
        obtain ⟨o2, k2⟩ := eqV_dp st rr e2
        have shl : ∀ ds, (D.tup ds).okn 60 = true → SeqAt.shaped (.list (toPys ds)) = true := fun ds o => by
          obtain ⟨h1, h2⟩ := okns_lay ds 59 o
          unfold SeqAt.shaped
          rw [show PyData.canLay0 (.list (toPys ds)) = true from h1, decide_eq_true (show PyData.depth (.list (toPys ds)) ≤ 64 by show PyData.depthAll (toPys ds) + 1 ≤ 64; omega)]; rfl
        have f1 : ∃ p1, Dp X.K H x p1 ∧ SeqAt.shaped p1 = true ∧ ((a1 = false ∧ p1 = toPy d1) ∨ ∃ ds, a1 = true ∧ d1 = .tup ds ∧ p1 = .list (toPys ds)) := by
          rcases k1 with ⟨k, kd⟩ | ⟨ds, k, k', kd⟩
          · exact ⟨_, kd, shaped_of o1 (by decide), .inl ⟨k, rfl⟩⟩
          · subst k'; exact ⟨_, kd, shl _ o1, .inr ⟨ds, k, rfl, rfl⟩⟩
        have f2 : ∃ p2, Dp X.K H y p2 ∧ SeqAt.shaped p2 = true ∧ ((a2 = false ∧ p2 = toPy d2) ∨ ∃ ds, a2 = true ∧ d2 = .tup ds ∧ p2 = .list (toPys ds)) := by
          rcases k2 with ⟨k, kd⟩ | ⟨ds, k, k', kd⟩
          · exact ⟨_, kd, shaped_of o2 (by decide), .inl ⟨k, rfl⟩⟩
          · subst k'; exact ⟨_, kd, shl _ o2, .inr ⟨ds, k, rfl, rfl⟩⟩
        obtain ⟨p1, g1, g2, g3⟩ := f1
        obtain ⟨p2, g4, g5, g6⟩ := f2
        exact ⟨p1, p2, g1, g4, g2, g5, eqv_mix o1 o2 g3 g6⟩
  have isin : ∀ (d : D) (b' : Bool), r1 = .v d → inR d (seqR S r2) = some b' →
      ∃ pd pds, Dp X.K H x pd ∧ (Dp X.K H y (.list pds) ∨ Dp X.K H y (.tuple pds)) ∧ SeqAt.shaped pd = true ∧ PyData.canLayAll0 pds = true ∧ (pds.any fun z => PyData.eqv z pd) = b' := fun d b' e0 e => by
    subst e0
    cases e1 : seqR S r2 with
    | none => rw [e1] at e; cases e
    | some ds =>
      rw [e1] at e
      have e : (if (d.okn 60 && okns 59 ds) = true then some (ds.any fun z => z.eqv d) else none) = some b' := e
      split at e
      · rename_i ho
        cases e
        simp only [Bool.and_eq_true] at ho
        exact ⟨toPy d, toPys ds, dp_of 60 ho.1 l, seq_dp st rr e1 ho.2, shaped_of ho.1 (by decide), (okns_lay ds 59 ho.2).1, any_eqv ho.2 ho.1⟩
      · cases e
  have hu0 : X.A.units + 64 < cLine := by omega
  cases op with
  | Eq =>
    obtain ⟨p1, p2, g1, g2, g3, g4, g5⟩ := eq b hb
    exact op_eqD hu0 pins s σ H x y v u Q I rx ry ⟨p1, p2, g1, g2, g3, g4, by rw [g5]; exact q⟩
  | NotEq =>
    have hb : (eqR S r1 r2).map (fun b => !b) = some b := hb
    cases e : eqR S r1 r2 with
    | none => rw [e] at hb; cases hb
    | some b' =>
      rw [e] at hb; cases hb
      obtain ⟨p1, p2, g1, g2, g3, g4, g5⟩ := eq b' e
      exact op_neD hu0 pins s σ H x y v u Q I rx ry ⟨p1, p2, g1, g2, g3, g4, by rw [g5]; exact q⟩
  | Lt =>
    unfold cmpR at hb
    split at hb <;> first
      | (rename_i heq; cases heq; done)
      | (cases hb; exact op_lt pins s σ H x y v u Q I rx ry ⟨_, _, l, rr, q⟩)
      | (rename_i heq1 heq2 heq3; first | cases heq1 | cases hb)
      | cases hb
  | LtE =>
    unfold cmpR at hb
    split at hb <;> first
      | (rename_i heq; cases heq; done)
      | (cases hb; exact op_le pins s σ H x y v u Q I rx ry ⟨_, _, l, rr, q⟩)
      | cases hb
  | Gt =>
    unfold cmpR at hb
    split at hb <;> first
      | (rename_i heq; cases heq; done)
      | (cases hb; exact op_gt pins s σ H x y v u Q I rx ry ⟨_, _, l, rr, q⟩)
      | cases hb
  | GtE =>
    unfold cmpR at hb
    split at hb <;> first
      | (rename_i heq; cases heq; done)
      | (cases hb; exact op_ge pins s σ H x y v u Q I rx ry ⟨_, _, l, rr, q⟩)
      | cases hb
  | Is =>
    rcases is_inv hb with ⟨e1, e2, e3⟩ | ⟨d, e1, e2, e3, e4⟩ | ⟨c, d, e1, e2, e3⟩
    · subst e1 e2 e3
      exact op_isN pins s σ H x y v u Q I rx ry ⟨rr, by rw [show x = .non from l]; exact q⟩
    · subst e1 e3 e4
      refine op_isN pins s σ H x y v u Q I rx ry ⟨rr, ?_⟩
      rw [decide_eq_false (ne_non l e2)]; exact q
    · subst e1 e2 e3
      refine op_isBl pins s σ H x y v u Q I rx ry ⟨c, d, l, rr, ?_⟩
      rw [← Bool.beq_eq_decide_eq]; exact q
  | IsNot =>
    rcases isnot_inv hb with ⟨e1, e2, e3⟩ | ⟨d, e1, e2, e3, e4⟩ | ⟨c, d, e1, e2, e3⟩
    · subst e1 e2 e3
      exact op_notN pins s σ H x y v u Q I rx ry ⟨rr, by rw [show x = .non from l]; exact q⟩
    · subst e1 e3 e4
      refine op_notN pins s σ H x y v u Q I rx ry ⟨rr, ?_⟩
      rw [decide_eq_false (ne_non l e2)]; exact q
    · subst e1 e2 e3
      refine op_notBl pins s σ H x y v u Q I rx ry ⟨c, d, l, rr, ?_⟩
      rw [← Bool.beq_eq_decide_eq]; exact q
  | In =>
    cases r1 with
    | s ds => cases hb
    | v d =>
      obtain ⟨pd, pds, g1, g2, g3, g4, g5⟩ := isin d b rfl hb
      obtain ⟨as, k1⟩ := Dp.reads I pd x v g1 rx
      rcases g2 with g2 | g2
      · obtain ⟨bs, k2⟩ := Dp.reads I _ y u g2 ry
        exact SeqAt.in_list_reads k2 k1 g4 (SeqAt.canLay_of_shaped g3) (room_in_shaped g3 hu) ⟨.bl _, H, I, rfl, by rw [g5]; exact q⟩
      · obtain ⟨bs, k2⟩ := Dp.reads I _ y u g2 ry
        exact SeqAt.in_tuple_reads k2 k1 g4 (SeqAt.canLay_of_shaped g3) (room_in_shaped g3 hu) ⟨.bl _, H, I, rfl, by rw [g5]; exact q⟩
  | NotIn =>
    cases r1 with
    | s ds => cases hb
    | v d =>
      obtain ⟨pd, pds, g1, g2, g3, g4, g5⟩ := isin d (!b) rfl (by
        have hb : (inR d (seqR S r2)).map (fun b => !b) = some b := hb
        cases e : inR d (seqR S r2) with
        | none => rw [e] at hb; cases hb
        | some c => rw [e] at hb; cases hb; rw [Bool.not_not])
      obtain ⟨as, k1⟩ := Dp.reads I pd x v g1 rx
      rcases g2 with g2 | g2
      · obtain ⟨bs, k2⟩ := Dp.reads I _ y u g2 ry
        exact SeqAt.notIn_list_reads k2 k1 g4 (SeqAt.canLay_of_shaped g3) (room_in_shaped g3 hu) ⟨.bl _, H, I, rfl, by rw [g5, Bool.not_not]; exact q⟩
      · obtain ⟨bs, k2⟩ := Dp.reads I _ y u g2 ry
        exact SeqAt.notIn_tuple_reads k2 k1 g4 (SeqAt.canLay_of_shaped g3) (room_in_shaped g3 hu) ⟨.bl _, H, I, rfl, by rw [g5, Bool.not_not]; exact q⟩

/-! ### subscripts -/
theorem ixN_eq (n : Nat) (i : Int) : Pv.ixN n i = L2.ixN n i := rfl
theorem atD_rep {K : PySem.W.Frag} {H : Hp} {ρ : List Addr} {ds : List D} {vs : List L2.V} {i : Int} {d : D} (h : RepL K H ρ ds vs) (e : atD ds i = some d) : ∃ v, atI vs i = some v ∧ RepV K H ρ d v := by
  unfold atD at e
  unfold atI
  rw [h.length]
  cases q : Pv.ixN ds.length i with
  | none => rw [q] at e; cases e
  | some j =>
    rw [q] at e
    obtain ⟨v, h1, h2⟩ := h.get e
    exact ⟨v, by rw [← ixN_eq, q]; exact h1, h2⟩
def rIdx (K : PySem.W.Frag) : R2 := fun x y H Q => ∃ ρ S rx ry d, Two K S rx ry x y H ρ ∧ idxR S rx ry = some d ∧ ∀ v, RepV K H ρ d v → Q v H
theorem ix_any : IxR X (rIdx X.K) := by
  intro val slc pins s σ H x y v u Q I rx ry h hs
  obtain ⟨ρ, S, r1, r2, d, ⟨st, ⟨G1, l⟩, ⟨G2, rr⟩⟩, hb, q⟩ := h
  unfold idxR at hb
  split at hb
  · rename_i i
    cases e : seqR S r1 with
    | none => rw [e] at hb; cases hb
    | some ds =>
      rw [e] at hb
      obtain ⟨a, vs, rfl, h1, h2⟩ := l.seq st e
      obtain ⟨w, h3, h4⟩ := atD_rep h2 hb
      rcases h1 with h1 | h1
      · exact ix_list val slc pins s σ H _ y v u Q I rx ry ⟨a, vs, i, w, rfl, rr, h1, h3, q w h4⟩ hs
      · exact ix_tup val slc pins s σ H _ y v u Q I rx ry ⟨a, vs, i, w, rfl, rr, h1, h3, q w h4⟩ hs
  · cases hb
theorem sIx_eq (n d : Nat) (o : Option Int) : Pv.sIx n d o = HT.sIx n d o := by
  cases o with
  | none => rfl
  | some v => rfl
theorem cut_rep {K : PySem.W.Frag} {H : Hp} {ρ : List Addr} {ds : List D} {vs : List L2.V} (lo hi : Option Int) (h : RepL K H ρ ds vs) : RepL K H ρ (cutD ds lo hi) (cutV vs lo hi) := by
  unfold cutD cutV
  rw [h.length, ← sIx_eq, ← sIx_eq]
  exact (h.drop _).take _
def rSlc (K : PySem.W.Frag) : V → Option Int → Option Int → Hp → VK → Prop := fun x lo hi H Q => ∃ ρ S H0 rx r, RepS K H ρ S ∧ RepR K H ρ H0 rx x ∧ slcR S rx lo hi = some r ∧ ∀ v H', Ext K H ρ H' ρ → RepS K H' ρ S → RepR K H' ρ H r v → Q v H'
theorem whole_cut {vs : List L2.V} {lo hi : Option Int} (h : HT.sIx vs.length 0 lo = 0 ∧ HT.sIx vs.length vs.length hi = vs.length) : cutV vs lo hi = vs := by
  unfold cutV
  rw [h.1, h.2]
  simp
theorem sl_any : SlR X (rSlc X.K) := by
  intro pins s σ H x v vl vu lo hi sl Q I rx hs pl pu h
  obtain ⟨ρ, S, H0, r1, r, st, l, hb, q⟩ := h
  unfold slcR at hb
  split at hb
  · rename_i ds
    cases hb
    obtain ⟨a, vs, rfl, h1, h2⟩ := l
    refine sl_tupA pins s σ H _ v vl vu lo hi sl Q I rx hs pl pu ⟨a, vs, rfl, h1, fun hw => ?_, fun _ p hp => ?_⟩
    · refine q _ _ .refl st ⟨a, vs, rfl, h1, ?_⟩
      have := cut_rep lo hi h2
      rw [whole_cut hw] at this
      exact this
    · exact q _ _ (.new hp) (st.new hp) ⟨p, _, rfl, .of upd_same, (cut_rep lo hi h2).mono (.new hp)⟩
  · cases e : lstR S r1 with
    | none => rw [e] at hb; cases hb
    | some ds =>
      rw [e] at hb; cases hb
      obtain ⟨a, vs, rfl, h1, h2⟩ := l.lst st e
      exact sl_list pins s σ H _ v vl vu lo hi sl Q I rx hs pl pu ⟨a, vs, rfl, h1, fun p hp => q _ _ (.new hp) (st.new hp) ⟨p, _, rfl, upd_same, hp, st.ne hp, (cut_rep lo hi h2).mono (.new hp)⟩⟩
end Pv

/-! Built-ins and methods by values. -/
namespace Pv
open PySem PySem.Spec PyProof.Rows L2
variable {X : Cx}

theorem foldl_max : ∀ (xs : List Int) (x : Int), xs.foldl max x ∈ x :: xs ∧ ∀ y ∈ x :: xs, y ≤ xs.foldl max x
  | [], x => ⟨by simp, by simp⟩
  | a :: r, x => by
    obtain ⟨h1, h2⟩ := foldl_max r (max x a)
    rw [List.foldl_cons]
    refine ⟨?_, fun y hy => ?_⟩
    · rcases List.mem_cons.mp h1 with h | h
      · rw [h]
        by_cases hxa : x ≤ a
        · rw [Int.max_eq_right hxa]; simp
        · rw [Int.max_eq_left (by omega)]; simp
      · exact List.mem_cons_of_mem _ (List.mem_cons_of_mem _ h)
    · have h3 := h2 (max x a) (by simp)
      rcases List.mem_cons.mp hy with rfl | hy
      · omega
      · rcases List.mem_cons.mp hy with rfl | hy
        · omega
        · exact h2 y (by simp [hy])
theorem foldl_min : ∀ (xs : List Int) (x : Int), xs.foldl min x ∈ x :: xs ∧ ∀ y ∈ x :: xs, xs.foldl min x ≤ y
  | [], x => ⟨by simp, by simp⟩
  | a :: r, x => by
    obtain ⟨h1, h2⟩ := foldl_min r (min x a)
    rw [List.foldl_cons]
    refine ⟨?_, fun y hy => ?_⟩
    · rcases List.mem_cons.mp h1 with h | h
      · rw [h]
        by_cases hxa : x ≤ a
        · rw [Int.min_eq_left hxa]; simp
        · rw [Int.min_eq_right (by omega)]; simp
      · exact List.mem_cons_of_mem _ (List.mem_cons_of_mem _ h)
    · have h3 := h2 (min x a) (by simp)
      rcases List.mem_cons.mp hy with rfl | hy
      · omega
      · rcases List.mem_cons.mp hy with rfl | hy
        · omega
        · exact h2 y (by simp [hy])
def sqVal : Sq → Value
  | .tuple => .type "tuple" | .trev => .type "tuple" | .list => .type "list" | .sum => .builtin "sum" | .max => .builtin "max" | .min => .builtin "min"
  | .any => .builtin "any" | .all => .builtin "all" | .len => .builtin "len" | .sorted => .builtin "sorted" | .sortedR => .builtin "sorted"
def rSq (K : PySem.W.Frag) (q : Sq) : List L2.V → Hp → VK → Prop := fun vs H Q => ∃ ρ S H0 rx x ds r, vs = [x] ∧ RepS K H ρ S ∧ RepR K H ρ H0 rx x ∧ argQ S q rx = some ds ∧ sqR q ds = some r ∧
  ∀ v H', Ext K H ρ H' ρ → RepS K H' ρ S → RepR K H' ρ H r v → Q v H'
def okSq : Sq → Bool
  | .tuple | .list | .sum | .max | .min | .any | .all | .len => true
  | _ => false
theorem cr_sq (q : Sq) (hq : okSq q = true) (hc : X.calm = true) : CallR X (sqVal q) (rSq X.K q) := by
  intro pins s σ H vs us Q I rv h
  obtain ⟨ρ, S, H0, rx, x, ds, r, rfl, st, l, ha, hs, hQ⟩ := h
  cases q with
  | tuple =>
    cases hs
    obtain ⟨a, vs, rfl, h1, h2⟩ := l.seq st ha
    refine call_tuple_of pins s σ H _ us Q I rv ⟨a, vs, rfl, ?_⟩
    rcases h1 with h1 | h1
    · exact .inl ⟨h1, fun p hp => hQ _ _ (.new hp) (st.new hp) ⟨p, vs, rfl, .of upd_same, h2.mono (.new hp)⟩⟩
    · exact .inr ⟨h1, hQ _ _ .refl st ⟨a, vs, rfl, h1, h2⟩⟩
  | list =>
    cases hs
    obtain ⟨a, vs, rfl, h1, h2⟩ := l.seq st ha
    exact call_list_of pins s σ H _ us Q I rv ⟨a, vs, rfl, h1, fun p hp => hQ _ _ (.new hp) (st.new hp) ⟨p, vs, rfl, upd_same, hp, st.ne hp, h2.mono (.new hp)⟩⟩
  | len =>
    cases hs
    obtain ⟨a, vs, rfl, h1, h2⟩ := l.seq st ha
    refine call_len_seq pins s σ H _ us Q I rv ⟨a, vs, rfl, h1, ?_⟩
    rw [h2.length]
    exact hQ _ _ .refl st rfl
  | sum =>
    obtain ⟨a, vs, rfl, h1, h2⟩ := l.lst st ha
    have hs : (intsD ds).map (fun ns => R.v (.int ns.sum)) = some r := hs
    cases e : intsD ds with
    | none => rw [e] at hs; cases hs
    | some ns =>
      rw [e] at hs; cases hs
      have e2 := h2.ints e
      subst e2
      exact cr_sum hc pins s σ H _ us Q I rv ⟨a, ns, rfl, h1, hQ _ _ .refl st rfl⟩
  | max =>
    obtain ⟨a, vs, rfl, h1, h2⟩ := l.lst st ha
    have hs : ((intsD ds).bind fun ns => (maxI ns).map fun m => R.v (.int m)) = some r := hs
    cases e : intsD ds with
    | none => rw [e] at hs; cases hs
    | some ns =>
      rw [e] at hs
      have e2 := h2.ints e
      subst e2
      cases ns with
      | nil => cases hs
      | cons n ns =>
        cases hs
        refine cr_max hc pins s σ H _ us Q I rv ⟨a, n :: ns, rfl, h1, by simp, fun m hm hle => ?_⟩
        obtain ⟨g1, g2⟩ := foldl_max ns n
        have : m = ns.foldl max n := by have := g2 m hm; have := hle _ g1; omega
        subst this
        exact hQ _ _ .refl st rfl
  | min =>
    obtain ⟨a, vs, rfl, h1, h2⟩ := l.lst st ha
    have hs : ((intsD ds).bind fun ns => (minI ns).map fun m => R.v (.int m)) = some r := hs
    cases e : intsD ds with
    | none => rw [e] at hs; cases hs
    | some ns =>
      rw [e] at hs
      have e2 := h2.ints e
      subst e2
      cases ns with
      | nil => cases hs
      | cons n ns =>
        cases hs
        refine cr_min hc pins s σ H _ us Q I rv ⟨a, n :: ns, rfl, h1, by simp, fun m hm hle => ?_⟩
        obtain ⟨g1, g2⟩ := foldl_min ns n
        have : m = ns.foldl min n := by have := g2 m hm; have := hle _ g1; omega
        subst this
        exact hQ _ _ .refl st rfl
  | any =>
    obtain ⟨a, vs, rfl, h1, h2⟩ := l.lst st ha
    have hs : (boolsD ds).map (fun bs => R.v (.bl (bs.any id))) = some r := hs
    cases e : boolsD ds with
    | none => rw [e] at hs; cases hs
    | some ns =>
      rw [e] at hs; cases hs
      have e2 := h2.bools e
      subst e2
      exact cr_any hc pins s σ H _ us Q I rv ⟨a, ns, rfl, h1, hQ _ _ .refl st rfl⟩
  | all =>
    obtain ⟨a, vs, rfl, h1, h2⟩ := l.lst st ha
    have hs : (boolsD ds).map (fun bs => R.v (.bl (bs.all id))) = some r := hs
    cases e : boolsD ds with
    | none => rw [e] at hs; cases hs
    | some ns =>
      rw [e] at hs; cases hs
      have e2 := h2.bools e
      subst e2
      exact cr_all hc pins s σ H _ us Q I rv ⟨a, ns, rfl, h1, hQ _ _ .refl st rfl⟩
  | _ => cases hq

def b1Val : B1 → Value
  | .abs => .builtin "abs" | .int => .type "int" | .bool => .type "bool" | _ => .none
def okB1 : B1 → Bool
  | .abs | .int | .bool => true
  | _ => false
def rB1 (K : PySem.W.Frag) (b : B1) : List L2.V → Hp → VK → Prop := fun vs H Q => ∃ ρ S H0 rx x d, vs = [x] ∧ RepS K H ρ S ∧ RepR K H ρ H0 rx x ∧ b1R b rx = some d ∧ ∀ v, RepV K H ρ d v → Q v H
theorem cr_b1 (b : B1) (hb : okB1 b = true) : CallR X (b1Val b) (rB1 X.K b) := by
  intro pins s σ H vs us Q I rv h
  obtain ⟨ρ, S, H0, rx, x, d, rfl, st, l, e, hQ⟩ := h
  cases rx with
  | s ds => cases b <;> cases e
  | v z =>
    cases b with
    | abs =>
      cases z with
      | int i => cases e; exact call_abs pins s σ H _ us Q I rv ⟨i, by rw [show x = .int _ from l], hQ _ rfl⟩
      | _ => cases e
    | int =>
      cases z with
      | int i => cases e; exact call_int1 pins s σ H _ us Q I rv (.inl ⟨i, by rw [show x = .int _ from l], hQ _ rfl⟩)
      | bl i => cases e; exact call_int1 pins s σ H _ us Q I rv (.inr ⟨i, by rw [show x = .bl _ from l], hQ _ rfl⟩)
      | _ => cases e
    | bool =>
      cases z with
      | int i => cases e; exact call_bool1 pins s σ H _ us Q I rv (.inl ⟨i, by rw [show x = .int _ from l], hQ _ rfl⟩)
      | bl i => cases e; exact call_bool1 pins s σ H _ us Q I rv (.inr ⟨i, by rw [show x = .bl _ from l], hQ _ rfl⟩)
      | _ => cases e
    | _ => cases hb
def b2Val : B2 → Value
  | .min => .builtin "min" | .max => .builtin "max"
def rB2 (K : PySem.W.Frag) (b : B2) : List L2.V → Hp → VK → Prop := fun vs H Q => ∃ ρ S rx ry x y d, vs = [x, y] ∧ Two K S rx ry x y H ρ ∧ b2R b rx ry = some d ∧ ∀ v, RepV K H ρ d v → Q v H
theorem cr_b2 (b : B2) (hc : X.calm = true) : CallR X (b2Val b) (rB2 X.K b) := by
  intro pins s σ H vs us Q I rv h
  obtain ⟨ρ, S, rx, ry, x, y, d, rfl, ⟨st, ⟨G1, l⟩, ⟨G2, r⟩⟩, e, hQ⟩ := h
  cases b with
  | min =>
    unfold b2R at e
    split at e
    · rename_i i j _; cases e; exact call_min2 hc pins s σ H _ us Q I rv ⟨i, j, by rw [show x = .int _ from l, show y = .int _ from r], hQ _ rfl⟩
    · rename_i z; cases z
    · cases e
  | max =>
    unfold b2R at e
    split at e
    · rename_i z; cases z
    · rename_i i j _; cases e; exact call_max2 hc pins s σ H _ us Q I rv ⟨i, j, by rw [show x = .int _ from l, show y = .int _ from r], hQ _ rfl⟩
    · cases e

/-- isinstance(x, T) -/
def tyName : B1 → String
  | .isInt => "int" | .isBool => "bool" | .isTup => "tuple" | _ => "str"
def okTy : B1 → Bool
  | .isInt | .isBool | .isTup | .isStr => true
  | _ => false
def rTy (K : PySem.W.Frag) (b : B1) : List L2.V → Hp → VK → Prop := fun vs H Q => ∃ ρ S H0 rx x d, vs = [x, .ty (tyName b)] ∧ RepS K H ρ S ∧ RepR K H ρ H0 rx x ∧ b1R b rx = some d ∧ ∀ v, RepV K H ρ d v → Q v H
theorem sqT_ty {K : PySem.W.Frag} {H : Hp} {a : Addr} {xs : List L2.V} (h : SqT K H a xs) : TyX K H (.ref a) (.type "tuple") := by
  rcases h with (h | ⟨o, h⟩) | ⟨o, its, n, h1, h2, _⟩
  · exact .base (.tup h)
  · exact .fTuple h
  · exact .kTuple h1 h2
/-- a value's built-in type -/
def tyD : D → Option String
  | .non => some "NoneType" | .bl _ => some "bool" | .int _ => some "int" | .str _ => some "str" | .tup _ => some "tuple" | _ => none
theorem ty_of {K : PySem.W.Frag} {H : Hp} {ρ : List Addr} {d : D} {x : L2.V} {t : String} (h : RepV K H ρ d x) (e : tyD d = some t) : TyX K H x (.type t) := by
  cases d with
  | non => cases e; rw [show x = .non from h]; exact .base .non
  | bl b => cases e; rw [show x = .bl _ from h]; exact .base (.bl _)
  | int b => cases e; rw [show x = .int _ from h]; exact .base (.int _)
  | str b => cases e; rw [show x = .str _ from h]; exact .base (.str _)
  | tup b => cases e; obtain ⟨a, vs, rfl, h1, _⟩ := h; exact sqT_ty h1
  | rol b => cases e
  | loc b => cases e
def tyAns (b : B1) : D → Bool
  | .non => false
  | .bl _ => (match b with | .isInt => true | .isBool => true | _ => false)
  | .int _ => (match b with | .isInt => true | _ => false)
  | .str _ => (match b with | .isStr => true | _ => false)
  | .tup _ => (match b with | .isTup => true | _ => false)
  | _ => false
def tyStr : Nat → String
  | 0 => "NoneType" | 1 => "bool" | 2 => "int" | 3 => "str" | _ => "tuple"
theorem kit_all : ∀ k : Fin 5, (kitB (tyStr k) "int" = some (decide (k.val = 1 ∨ k.val = 2)) ∧ kitB (tyStr k) "bool" = some (decide (k.val = 1))) ∧ (kitB (tyStr k) "tuple" = some (decide (k.val = 4)) ∧ kitB (tyStr k) "str" = some (decide (k.val = 3))) := by decide +kernel
theorem ty_kit (b : B1) (hb : okTy b = true) (d : D) (t : String) (e : tyD d = some t) : kitB t (tyName b) = some (tyAns b d) := by
  cases d with
  | non => cases e; cases b <;> first | (cases hb; done) | exact (kit_all 0).1.1 | exact (kit_all 0).1.2 | exact (kit_all 0).2.1 | exact (kit_all 0).2.2
  | bl => cases e; cases b <;> first | (cases hb; done) | exact (kit_all 1).1.1 | exact (kit_all 1).1.2 | exact (kit_all 1).2.1 | exact (kit_all 1).2.2
  | int => cases e; cases b <;> first | (cases hb; done) | exact (kit_all 2).1.1 | exact (kit_all 2).1.2 | exact (kit_all 2).2.1 | exact (kit_all 2).2.2
  | str => cases e; cases b <;> first | (cases hb; done) | exact (kit_all 3).1.1 | exact (kit_all 3).1.2 | exact (kit_all 3).2.1 | exact (kit_all 3).2.2
  | tup => cases e; cases b <;> first | (cases hb; done) | exact (kit_all 4).1.1 | exact (kit_all 4).1.2 | exact (kit_all 4).2.1 | exact (kit_all 4).2.2
  | rol => cases e
  | loc => cases e
theorem b1_ty {b : B1} (hb : okTy b = true) {rx : R} {d : D} (e : b1R b rx = some d) : ∃ x t, rx = .v x ∧ tyD x = some t ∧ d = .bl (tyAns b x) := by
  cases rx with
  | s ds => cases b <;> first | (cases hb; done) | cases e
  | v x => cases b <;> first | (cases hb; done) | (cases x <;> first | (cases e; done) | (cases e; exact ⟨_, _, rfl, rfl, rfl⟩))
theorem cr_ty (b : B1) (hb : okTy b = true) : CallR X (.builtin "isinstance") (rTy X.K b) := by
  intro pins s σ H vs us Q I rv h
  obtain ⟨ρ, S, H0, rx, x, d, rfl, st, l, e, hQ⟩ := h
  obtain ⟨z, t, rfl, e1, rfl⟩ := b1_ty hb e
  exact call_isi pins s σ H _ us Q I rv ⟨x, .ty (tyName b), .type t, .type (tyName b), tyAns b z, rfl, .ty _, ty_of l e1, kit_ty (ty_kit b hb z t e1), hQ _ rfl⟩
end Pv

/-! Expressions: what the evaluator says holds of the model. -/
namespace Pv
open PySem PySem.Spec PyProof.Rows L2

def RepE (K : PySem.W.Frag) (H : Hp) (ρ : List Addr) (env : Env) (σ : L2.St) : Prop := env.length = σ.length ∧ ∀ (i : Nat) d, env[i]? = some (some d) → ∃ v, σ[i]? = some (some v) ∧ RepV K H ρ d v
theorem RepE.mono {K : PySem.W.Frag} {H H' : Hp} {ρ ρ' : List Addr} {env : Env} {σ : L2.St} (h : RepE K H ρ env σ) (e : Ext K H ρ H' ρ') : RepE K H' ρ' env σ :=
  ⟨h.1, fun i d q => let ⟨v, h1, h2⟩ := h.2 i d q; ⟨v, h1, h2.mono e⟩⟩
theorem RepE.sub {K : PySem.W.Frag} {H H' : Hp} {ρ ρ' : List Addr} {env : Env} {σ : L2.St} (h : RepE K H ρ env σ) (e : Sub K H ρ H' ρ') : RepE K H' ρ' env σ :=
  ⟨h.1, fun i d q => let ⟨v, h1, h2⟩ := h.2 i d q; ⟨v, h1, h2.sub e⟩⟩
theorem RepE.set {K : PySem.W.Frag} {H : Hp} {ρ : List Addr} {env : Env} {σ : L2.St} {d : D} {v : L2.V} (i : Nat) (h : RepE K H ρ env σ) (r : RepV K H ρ d v) : RepE K H ρ (env.set i (some d)) (σ.set i (some v)) := by
  refine ⟨by rw [List.length_set, List.length_set]; exact h.1, fun j d' q => ?_⟩
  by_cases e : j = i
  · subst e
    have hl : j < env.length := by
      have := (List.getElem?_eq_some_iff.mp q).1
      rwa [List.length_set] at this
    rw [List.getElem?_set_self hl] at q
    cases q
    exact ⟨v, by rw [List.getElem?_set_self (by rw [← h.1]; exact hl)], r⟩
  · rw [List.getElem?_set_ne (Ne.symm e)] at q ⊢
    exact h.2 j d' q
theorem RepE.wipe {K : PySem.W.Frag} {H : Hp} {ρ : List Addr} {env : Env} {σ : L2.St} (h : RepE K H ρ env σ) : ∀ own : List Nat, RepE K H ρ (wipeE env own) (wipe σ own)
  | [] => h
  | i :: is => by
    have ih := RepE.wipe h is
    refine ⟨by unfold wipeE L2.wipe; rw [List.length_set, List.length_set]; exact ih.1, fun j d q => ?_⟩
    unfold wipeE at q
    unfold L2.wipe
    by_cases e : j = i
    · subst e
      have hl : j < (wipeE env is).length := by
        have := (List.getElem?_eq_some_iff.mp q).1
        rwa [List.length_set] at this
      rw [List.getElem?_set_self hl] at q
      cases q
    · rw [List.getElem?_set_ne (Ne.symm e)] at q ⊢
      exact ih.2 j d q

section
variable (cl : Nat → List D → Store → Option (D × Store)) (K : PySem.W.Frag)
def tR (c : CE) : TE := fun σ H Q => ∃ env S ρ r S', RepE K H ρ env σ ∧ RepS K H ρ S ∧ ev cl c env S = some (r, S') ∧ ∀ v H' ρ', Ext K H ρ H' ρ' → RepS K H' ρ' S' → RepR K H' ρ' H r v → Q v H'
def tP (c : CE) : TE := fun σ H Q => ∃ env S ρ d S', RepE K H ρ env σ ∧ RepS K H ρ S ∧ pushR (ev cl c env S) = some (d, S') ∧ ∀ v H' ρ', Ext K H ρ H' ρ' → RepS K H' ρ' S' → RepV K H' ρ' d v → Q v H'
def tAs (cs : List CE) : TA := fun σ H Q => ∃ env S ρ ds S', RepE K H ρ env σ ∧ RepS K H ρ S ∧ evs cl cs env S = some (ds, S') ∧ ∀ vs H' ρ', Ext K H ρ H' ρ' → RepS K H' ρ' S' → RepL K H' ρ' ds vs → Q vs H'
/-- one argument, not pushed -/
def tA1 (c : CE) : TA := fun σ H Q => tR cl K c σ H fun v H' => Q [v] H'
def tTs (c : CE) : TT := fun σ H Q => ∃ env S ρ b S', RepE K H ρ env σ ∧ RepS K H ρ S ∧ tst cl c env S = some (b, S') ∧ ∀ H' ρ', Ext K H ρ H' ρ' → RepS K H' ρ' S' → Q b H'
end

section
variable {cl : Nat → List D → Store → Option (D × Store)} {X : Cx}
theorem pe_push {e : Expr} {r : CE} (h : PE X e (tR cl X.K r)) : PE X e (tP cl X.K r) := h.imp fun σ H Q q => by
  obtain ⟨env, S, ρ, d, S', hE, hS, he, hQ⟩ := q
  cases e1 : ev cl r env S with
  | none => rw [e1] at he; cases he
  | some z =>
    obtain ⟨z, S1⟩ := z
    rw [e1] at he
    refine ⟨env, S, ρ, z, S1, hE, hS, e1, fun v H' ρ' ex st rr => ?_⟩
    cases z with
    | v d' => cases he; exact hQ v H' ρ' ex st rr
    | s ds =>
      cases he
      obtain ⟨a, vs, rfl, h1, h2, h3, h4⟩ := rr
      refine hQ _ H' (ρ' ++ [a]) (ex.push h2) (st.push h1 h3 h4) ⟨a, rfl, ?_⟩
      rw [← st.len, List.getElem?_append_right (Nat.le_refl _)]; simp
end

/-- the context: what is known of a def's body or a block -/
def spC (T : Nat → Option FunC) (k : Nat) (f : Nat) (K : PySem.W.Frag) : Sp := fun vs H Q _ => ∃ F ds S ρ d S', T f = some F ∧ vs.length = F.np ∧ RepS K H ρ S ∧ RepL K H ρ ds vs ∧ callT T k f ds S = some (d, S') ∧
  ∀ v H' ρ', Ext K H ρ H' ρ' → RepS K H' ρ' S' → RepV K H' ρ' d v → Q v H'
structure Ctx (T : Nat → Option FunC) (k : Nat) (c : Sc) (X : Cx) : Prop where
  scope : X.env.scope = c.sc
  kind : c.sc.kind = .function
  names : X.N = c.N
  nd : c.N.Nodup
  calm : X.calm = true
  fn : ∀ x, X.fn x = (match c.cells with | none => true | some s => s.names.lookup x == some .cell)
  room : Room k X.A
  gl : ∀ x i, c.gl x = some i → ∃ t, X.mg x = some (.int i t)
  bi : ∀ x, c.bi x = true → X.mg x = none
  fi : ∀ x f, c.fi x = some f → ∃ a fd ps, X.mg x = some (.ref a) ∧ PySem.W.keepIn X.K (.ref a) = true ∧ Binds X.K fd ps [] ∧ FnOk X.prog X.w X.K X.mg X.base CX0 k a fd ps (spC T k f X.K)

section
variable {T : Nat → Option FunC} {k : Nat} {c : Sc} {X : Cx}
theorem Ctx.hu (C : Ctx T k c X) : X.A.units + 65 < cLine := by have := C.room.un; omega
theorem isK_eq {x : Str} {kd : NameKind} (h : isK c x kd = true) : c.sc.names.lookup x = some kd := of_decide_eq_true h
theorem Ctx.vis (C : Ctx T k c X) {x : Str} (h : vis c x = true) : Vis X.env.scope x := by
  unfold Pv.vis at h
  simp only [Bool.or_eq_true] at h
  unfold Vis
  rw [C.scope]
  rcases h with h | h | h
  · exact .inl (isK_eq h)
  · exact .inr (.inl (isK_eq h))
  · exact .inr (.inr (isK_eq h))
theorem Ctx.isG (C : Ctx T k c X) {x : Str} (h : isG c x = true) : Gl X x := by
  unfold Gl Env.kindOf
  rw [C.scope]
  exact isK_eq h
theorem Ctx.loc (C : Ctx T k c X) {x : Str} (h : sto c x = true) : L2.Loc X.env.scope x ∧ (X.fn x = true ∨ X.env.scope.names.lookup x = some .local) := by
  unfold sto at h
  simp only [Bool.or_eq_true, Bool.and_eq_true] at h
  unfold L2.Loc
  rw [C.scope, C.fn]
  rcases h with h | ⟨h, g⟩
  · exact ⟨.inl (isK_eq h), .inr (isK_eq h)⟩
  · exact ⟨.inr (isK_eq h), .inl g⟩
theorem Ctx.ndX (C : Ctx T k c X) : X.N.Nodup := by rw [C.names]; exact C.nd
theorem Ctx.ix (C : Ctx T k c X) {x : Str} {i : Nat} (h : ixOf c.N x = some i) : X.N[i]? = some x := by rw [C.names]; exact ixOf_get h
theorem okName_d {x : Str} (h : okName x = true) : (x == ("__debug__" : Str)) = false ∧ (x == ("__classdict__" : Str)) = false ∧ x ≠ "__name__" := by
  unfold okName at h
  simp only [Bool.and_eq_true, Bool.not_eq_true', decide_eq_false_iff_not] at h
  exact ⟨h.1, h.2.1, h.2.2⟩

/-! ### the syntax' own side conditions -/
def isStar : Expr → Bool
  | .Starred .. => true
  | _ => false
theorem star_cons {e : Expr} (h : isStar e = false) (es : List Expr) (env : PySem.Env) : starEach (e :: es) env = (false, eval e env) :: starEach es env := by
  cases e <;> first | rfl | cases h
theorem star_none {env : PySem.Env} {pos : Pos} : ∀ {es : List Expr}, (∀ e ∈ es, isStar e = false) → (backTo pos (starEach es env)).any (·.1) = false
  | [], _ => rfl
  | e :: es, h => by
    rw [star_cons (h e (by simp))]
    show (false || (backTo pos (starEach es env)).any (·.1)) = false
    rw [star_none fun x hx => h x (by simp [hx])]; rfl
theorem cE_star {n : Nat} {c : Sc} {e : Expr} {r : CE} (h : cE n c e = some r) : isStar e = false := by
  cases n with
  | zero => cases h
  | succ n => cases e <;> first | rfl | cases h
theorem mapO_nil {α β : Type} {f : α → Option β} {bs : List β} (h : mapO f [] = some bs) : bs = [] := by cases h; rfl
theorem mapO_cons {α β : Type} {f : α → Option β} {a : α} {as : List α} {bs : List β} (h : mapO f (a :: as) = some bs) : ∃ b r, bs = b :: r ∧ f a = some b ∧ mapO f as = some r := by
  unfold mapO at h
  cases e1 : f a with
  | none => simp [e1] at h
  | some b =>
    cases e2 : mapO f as with
    | none => simp [e1, e2] at h
    | some r => simp [e1, e2] at h; exact ⟨b, r, h.symm, rfl, rfl⟩
theorem mapO_len {α β : Type} {f : α → Option β} : ∀ {as : List α} {bs : List β}, mapO f as = some bs → as.length = bs.length
  | [], bs, h => by rw [mapO_nil h]; rfl
  | a :: as, bs, h => by
    obtain ⟨b, r, rfl, _, h2⟩ := mapO_cons h
    simp [mapO_len h2]
theorem mapO_star {n : Nat} {c : Sc} : ∀ {es : List Expr} {rs : List CE}, mapO (cE n c) es = some rs → ∀ e ∈ es, isStar e = false
  | [], _, _, _, h => by cases h
  | e :: es, rs, h, x, hx => by
    obtain ⟨b, r, rfl, h1, h2⟩ := mapO_cons h
    rcases List.mem_cons.mp hx with rfl | hx
    · exact cE_star h1
    · exact mapO_star h2 x hx

/-- what holds of all expressions that compile with n -/
def SE (T : Nat → Option FunC) (k n : Nat) : Prop := ∀ (c : Sc) (X : Cx) (e : Expr) (r : CE), Ctx T k c X → cE n c e = some r → PE X e (tR (callT T k) X.K r)
def SW (T : Nat → Option FunC) (k n : Nat) : Prop := ∀ (c : Sc) (X : Cx) (op : BoolOp) (vs : List Expr) (pos : Pos) (r : CE), Ctx T k c X → cE n c (.BoolOp op vs pos) = some r → PW X (.BoolOp op vs pos) (tTs (callT T k) X.K r)
def ST (T : Nat → Option FunC) (k n : Nat) : Prop := ∀ (c : Sc) (X : Cx) (e : Expr) (r : CE), Ctx T k c X → cE n c e = some r → PT X e (tTs (callT T k) X.K r)

theorem pa_of {n : Nat} (h : SE T k n) (C : Ctx T k c X) : ∀ {es : List Expr} {rs : List CE}, mapO (cE n c) es = some rs → PA X es (tAs (callT T k) X.K rs)
  | [], rs, e => by
    rw [mapO_nil e]
    refine pa_nil.imp fun σ H Q q => ?_
    obtain ⟨env, S, ρ, ds, S', hE, hS, he, hQ⟩ := q
    cases he
    exact hQ [] H ρ .refl hS .nil
  | e :: es, rs, hm => by
    obtain ⟨b, r, rfl, h1, h2⟩ := mapO_cons hm
    refine (pa_cons (pe_push (h c X e b C h1)) (pa_of h C h2) (star_cons (cE_star h1) _ _)).imp fun σ H Q q => ?_
    obtain ⟨env, S, ρ, ds, S', hE, hS, he, hQ⟩ := q
    unfold evs at he
    cases e1 : pushR (ev (callT T k) b env S) with
    | none => simp only [e1] at he; cases he
    | some z =>
      obtain ⟨d, S1⟩ := z
      simp only [e1] at he
      cases e2 : evs (callT T k) r env S1 with
      | none => simp only [e2] at he; cases he
      | some z2 =>
        obtain ⟨ds', S2⟩ := z2
        simp only [e2] at he
        cases he
        exact ⟨env, S, ρ, d, S1, hE, hS, e1, fun v H1 ρ1 x1 s1 r1 => ⟨env, S1, ρ1, ds', _, hE.mono x1, s1, e2, fun vs H2 ρ2 x2 s2 r2 => hQ (v :: vs) H2 ρ2 (x1.trans x2) s2 (.cons (r1.mono x2) r2)⟩⟩
/-- one argument as it is -/
theorem pa_one {n : Nat} (h : SE T k n) (C : Ctx T k c X) {e : Expr} {r : CE} (h1 : cE n c e = some r) : PA X [e] (tA1 (callT T k) X.K r) :=
  (pa_cons (h c X e r C h1) pa_nil (star_cons (cE_star h1) _ _)).imp fun σ H Q q => q
/-- two arguments as they are -/
def tA2 (cl : Nat → List D → Store → Option (D × Store)) (K : PySem.W.Frag) (a b : CE) : TA := fun σ H Q => ∃ env S ρ x S1 y S2, RepE K H ρ env σ ∧ RepS K H ρ S ∧ ev cl a env S = some (x, S1) ∧ ev cl b env S1 = some (y, S2) ∧
  ∀ v u H' ρ', Ext K H ρ H' ρ' → Two K S2 x y v u H' ρ' → RepR K H' ρ' H x v → RepR K H' ρ' H y u → Q [v, u] H'
/-- two expressions in a row -/
def t2 (cl : Nat → List D → Store → Option (D × Store)) (K : PySem.W.Frag) (a b : CE) (R : L2.V → L2.V → Hp → Prop) : L2.St → Hp → Prop := fun σ H => ∃ env S ρ x S1 y S2, RepE K H ρ env σ ∧ RepS K H ρ S ∧ ev cl a env S = some (x, S1) ∧ ev cl b env S1 = some (y, S2) ∧
  ∀ v u H' ρ', Ext K H ρ H' ρ' → Two K S2 x y v u H' ρ' → RepR K H' ρ' H x v → RepR K H' ρ' H y u → R v u H'
theorem t2_of {cl : Nat → List D → Store → Option (D × Store)} {K : PySem.W.Frag} {a b : CE} {R : L2.V → L2.V → Hp → Prop} {σ : L2.St} {H : Hp} (h : t2 cl K a b R σ H) : tR cl K a σ H fun v H1 => tR cl K b σ H1 fun u H2 => R v u H2 := by
  obtain ⟨env, S, ρ, x, S1, y, S2, hE, hS, e1, e2, hQ⟩ := h
  refine ⟨env, S, ρ, x, S1, hE, hS, e1, fun v H1 ρ1 x1 s1 r1 => ⟨env, S1, ρ1, y, S2, hE.mono x1, s1, e2, fun u H2 ρ2 x2 s2 r2 => ?_⟩⟩
  exact hQ v u H2 ρ2 (x1.trans x2) ⟨s2, ⟨H, r1.mono x2⟩, ⟨H1, r2⟩⟩ (r1.mono x2) (r2.back x1)
end
end Pv

/-! Expressions, one form after another. -/
namespace Pv
open PySem PySem.Spec PyProof.Rows L2
variable {T : Nat → Option FunC} {k n : Nat} {c : Sc} {X : Cx} {pos : Pos} {r : CE}

theorem e_name {x : Str} (C : Ctx T k c X) (h : cE (n + 1) c (.Name x pos) = some r) : PE X (.Name x pos) (tR (callT T k) X.K r) := by
  simp only [cE] at h
  split at h
  · rename_i hok
    obtain ⟨d1, d2, _⟩ := okName_d hok
    split at h
    · rename_i hv
      cases hi : ixOf c.N x with
      | none => simp [hi] at h
      | some i =>
        simp only [hi, Option.map_some, Option.some.injEq] at h
        subst h
        refine (pe_var (C.ix hi) (C.vis hv) d1 d2).imp fun σ H Q q => ?_
        obtain ⟨env, S, ρ, r, S', hE, hS, he, hQ⟩ := q
        simp only [ev] at he
        split at he
        · rename_i d hd
          cases he
          obtain ⟨v, h1, h2⟩ := hE.2 i d hd
          exact ⟨v, h1, hQ v H ρ .refl hS h2⟩
        · cases he
    · split at h
      · rename_i hg
        cases hi : c.gl x with
        | none => simp [hi] at h
        | some i =>
          simp only [hi, Option.map_some, Option.some.injEq] at h
          subst h
          obtain ⟨t, ht⟩ := C.gl x i hi
          refine (pe_glob (v := .int i) (C.isG hg) ht ⟨t, rfl⟩ d1).imp fun σ H Q q => ?_
          obtain ⟨env, S, ρ, r, S', hE, hS, he, hQ⟩ := q
          cases he
          exact hQ _ H ρ .refl hS rfl
      · cases h
  · cases h
theorem e_const {kc : Const} {j : Nat} (C : Ctx T k c X) (h : cE (n + 1) c (.Constant kc j pos) = some r) : PE X (.Constant kc j pos) (tR (callT T k) X.K r) := by
  have lit : ∀ (d : D) (v : L2.V), (∀ H ρ, RepV X.K H ρ d v) → ∀ σ H Q, tR (callT T k) X.K (.lit d) σ H Q → tC v σ H Q := fun d v hv σ H Q q => by
    obtain ⟨env, S, ρ, r, S', hE, hS, he, hQ⟩ := q
    cases he
    exact hQ _ H ρ .refl hS (hv _ _)
  cases kc with
  | int i => cases h; exact pe_int.imp (lit _ _ fun _ _ => rfl)
  | bool i => cases h; exact pe_bl.imp (lit _ _ fun _ _ => rfl)
  | none => cases h; exact pe_non.imp (lit _ _ fun _ _ => rfl)
  | str i => cases h; exact pe_str.imp (lit _ _ fun _ _ => rfl)
  | _ => cases h
/-- two of them -/
theorem two_inv {α β : Type} {f : α → Option CE} {a b : α} {g : CE → CE → β} {r : β} (h : (match f a, f b with | some a, some b => some (g a b) | _, _ => none) = some r) : ∃ x y, f a = some x ∧ f b = some y ∧ r = g x y := by
  cases e1 : f a with
  | none => simp [e1] at h
  | some x =>
    cases e2 : f b with
    | none => simp [e1, e2] at h
    | some y => simp only [e1, e2, Option.some.injEq] at h; exact ⟨x, y, rfl, rfl, h.symm⟩
theorem one_inv {α β : Type} {o : Option α} {g : α → β} {r : β} (h : o.map g = some r) : ∃ x, o = some x ∧ r = g x := by
  cases o with
  | none => cases h
  | some x => cases h; exact ⟨x, rfl, rfl⟩
section
variable {cl : Nat → List D → Store → Option (D × Store)}
theorem ev_two {a b : CE} {env : Env} {S S' : Store} {r : R} {g : Store → R → R → Option R}
    (h : (match ev cl a env S with | some (x, S) => (match ev cl b env S with | some (y, S) => (g S x y).map fun r => (r, S) | none => none) | none => none) = some (r, S')) :
    ∃ x S1 y, ev cl a env S = some (x, S1) ∧ ev cl b env S1 = some (y, S') ∧ g S' x y = some r := by
  cases e1 : ev cl a env S with
  | none => simp [e1] at h
  | some z =>
    obtain ⟨x, S1⟩ := z
    simp only [e1] at h
    cases e2 : ev cl b env S1 with
    | none => simp [e2] at h
    | some z =>
      obtain ⟨y, S2⟩ := z
      simp only [e2] at h
      obtain ⟨w, h1, h2⟩ := one_inv h
      cases h2
      exact ⟨x, S1, y, rfl, e2, h1⟩
end
theorem e_bin {a b : Expr} {op : Operator} (hE : SE T k n) (C : Ctx T k c X) (h : cE (n + 1) c (.BinOp a op b pos) = some r) : PE X (.BinOp a op b pos) (tR (callT T k) X.K r) := by
  simp only [cE] at h
  split at h
  · obtain ⟨x, y, h1, h2, rfl⟩ := two_inv h
    refine (pe_op (op_bin op) (hE c X a x C h1) (hE c X b y C h2)).imp fun σ H Q q => t2_of ?_
    obtain ⟨env, S, ρ, r, S', hEn, hS, he, hQ⟩ := q
    simp only [ev] at he
    obtain ⟨u, S1, v, e1, e2, e3⟩ := ev_two (g := fun S x y => binR S op x y) he
    exact ⟨env, S, ρ, u, S1, v, S', hEn, hS, e1, e2, fun w z H' ρ' ex two _ _ => ⟨ρ', S', u, v, r, two, e3, fun v2 H2 ex2 st2 rr => hQ v2 H2 ρ' (ex.trans ex2) st2 (rr.back ex)⟩⟩
  · cases h
theorem e_neg {a : Expr} (hE : SE T k n) (C : Ctx T k c X) (h : cE (n + 1) c (.UnaryOp .USub a pos) = some r) : PE X (.UnaryOp .USub a pos) (tR (callT T k) X.K r) := by
  simp only [cE] at h
  obtain ⟨x, h1, rfl⟩ := one_inv h
  refine (pe_un un_neg (hE c X a x C h1)).imp fun σ H Q q => ?_
  obtain ⟨env, S, ρ, r, S', hEn, hS, he, hQ⟩ := q
  simp only [ev] at he
  split at he
  · rename_i i S1 e1
    cases he
    exact ⟨env, S, ρ, _, _, hEn, hS, e1, fun v H' ρ' ex st rr => ⟨i, rr, hQ _ H' ρ' ex st rfl⟩⟩
  · cases he
theorem e_not {a : Expr} (hE : SE T k n) (C : Ctx T k c X) (h : cE (n + 1) c (.UnaryOp .Not a pos) = some r) : PE X (.UnaryOp .Not a pos) (tR (callT T k) X.K r) := by
  simp only [cE] at h
  obtain ⟨x, h1, rfl⟩ := one_inv h
  refine (pe_notT (hE c X a x C h1)).imp fun σ H Q q => ?_
  obtain ⟨env, S, ρ, r, S', hEn, hS, he, hQ⟩ := q
  simp only [ev] at he
  cases e1 : ev (callT T k) x env S with
  | none => simp [e1] at he
  | some z =>
    obtain ⟨y, S1⟩ := z
    simp only [e1] at he
    obtain ⟨b, e2, e3⟩ := one_inv he
    cases e3
    exact ⟨env, S, ρ, _, _, hEn, hS, e1, fun v H' ρ' ex st rr => ⟨b, tru_of st rr e2, hQ _ H' ρ' ex st rfl⟩⟩
theorem cE_mark {e : Expr} {r : CE} (op : CmpOp) (h : cE n c e = some r) : behindInMarks op e = false := by
  cases n with
  | zero => cases h
  | succ n => cases e <;> first | rfl | cases h
theorem e_cmp {a b : Expr} {op : CmpOp} (hE : SE T k n) (C : Ctx T k c X) (h : cE (n + 1) c (.Compare a [op] [b] pos) = some r) : PE X (.Compare a [op] [b] pos) (tR (callT T k) X.K r) := by
  simp only [cE] at h
  obtain ⟨x, y, h1, h2, rfl⟩ := two_inv h
  refine (pe_cmpR (op_cmp op C.hu) (hE c X a x C h1) (hE c X b y C h2) (cE_mark op h2)).imp fun σ H Q q => t2_of ?_
  obtain ⟨env, S, ρ, r, S', hEn, hS, he, hQ⟩ := q
  simp only [ev] at he
  obtain ⟨u, S1, v, e1, e2, e3⟩ := ev_two (g := fun S x y => (cmpR S op x y).map fun r => .v (.bl r)) (by simp only [Option.map_map, Function.comp_def]; exact he)
  obtain ⟨b', e4, e5⟩ := one_inv e3
  cases e5
  exact ⟨env, S, ρ, u, S1, v, S', hEn, hS, e1, e2, fun w z H' ρ' ex two _ _ => ⟨ρ', S', u, v, b', two, e4, hQ _ H' ρ' ex two.st rfl⟩⟩
theorem e_cmp2 {a b d : Expr} {op op' : CmpOp} (hE : SE T k n) (C : Ctx T k c X) (h : cE (n + 1) c (.Compare a [op, op'] [b, d] pos) = some r) : PE X (.Compare a [op, op'] [b, d] pos) (tR (callT T k) X.K r) := by
  simp only [cE] at h
  cases h1 : cE n c a with
  | none => simp [h1] at h
  | some x =>
    cases h2 : cE n c b with
    | none => simp [h1, h2] at h
    | some y =>
      cases h3 : cE n c d with
      | none => simp [h1, h2, h3] at h
      | some z =>
        simp only [h1, h2, h3, Option.some.injEq] at h
        subst h
        refine (pe_chain (op_cmp op C.hu) (op_cmp op' C.hu) (hE c X a x C h1) (hE c X b y C h2) (hE c X d z C h3) (show behindInMarks op' d = false from cE_mark op' h3)).imp fun σ H Q q => ?_
        obtain ⟨env, S, ρ, r, S', hEn, hS, he, hQ⟩ := q
        simp only [ev] at he
        cases e1 : ev (callT T k) x env S with
        | none => simp [e1] at he
        | some w1 =>
          obtain ⟨u1, S1⟩ := w1
          simp only [e1] at he
          cases e2 : ev (callT T k) y env S1 with
          | none => simp [e2] at he
          | some w2 =>
            obtain ⟨u2, S2⟩ := w2
            simp only [e2] at he
            refine t2_of (R := fun x y H2 => rCmp X.K op x y H2 fun z H3 => ∃ k_1, z = .bl k_1 ∧ (if k_1 = true then tR (callT T k) X.K _ σ H3 fun w' H4 => rCmp X.K op' y w' H4 Q else Q (.bl false) H3)) ⟨env, S, ρ, u1, S1, u2, S2, hEn, hS, e1, e2, fun v1 v2 H1 ρ1 x1 two r1 r2 => ?_⟩
            cases e3 : cmpR S2 op u1 u2 with
            | none => simp [e3] at he
            | some b1 =>
              refine ⟨ρ1, S2, u1, u2, b1, two, e3, b1, rfl, ?_⟩
              cases b1 with
              | false =>
                simp only [e3] at he
                cases he
                rw [if_neg Bool.false_ne_true]
                exact hQ _ H1 ρ1 x1 two.st rfl
              | true =>
                simp only [e3] at he
                rw [if_pos rfl]
                cases e4 : ev (callT T k) z env S2 with
                | none => simp [e4] at he
                | some w3 =>
                  obtain ⟨u3, S3⟩ := w3
                  simp only [e4] at he
                  obtain ⟨b2, e5, e6⟩ := one_inv he
                  cases e6
                  refine ⟨env, S2, ρ1, u3, _, hEn.mono x1, two.st, e4, fun v3 H3 ρ3 x3 s3 r3 => ?_⟩
                  exact ⟨ρ3, _, u2, u3, b2, ⟨s3, ⟨H, r2.mono x3⟩, ⟨H1, r3⟩⟩, e5, hQ _ H3 ρ3 (x1.trans x3) s3 rfl⟩
theorem e_one {op : BoolOp} {a : Expr} (hE : SE T k n) (C : Ctx T k c X) (h : cE (n + 1) c (.BoolOp op [a] pos) = some r) : PE X (.BoolOp op [a] pos) (tR (callT T k) X.K r) := by
  have h : cE n c a = some r := by cases op <;> simpa [cE] using h
  exact pe_one (hE c X a r C h)
theorem e_and {a b : Expr} {l : List Expr} (hE : SE T k n) (C : Ctx T k c X) (h : cE (n + 1) c (.BoolOp .And (a :: b :: l) pos) = some r) : PE X (.BoolOp .And (a :: b :: l) pos) (tR (callT T k) X.K r) := by
  simp only [cE] at h
  cases h1 : cE n c a with
  | none => simp [h1] at h
  | some x =>
    cases h2 : cE n c (.BoolOp .And (b :: l) pos) with
    | none => simp [h1, h2] at h
    | some y =>
      simp only [h1, h2, Option.some.injEq] at h
      subst h
      refine (pe_andT (hE c X a x C h1) (hE c X _ y C h2)).imp fun σ H Q q => ?_
      obtain ⟨env, S, ρ, r, S', hEn, hS, he, hQ⟩ := q
      simp only [ev] at he
      cases e1 : ev (callT T k) x env S with
      | none => simp [e1] at he
      | some w1 =>
        obtain ⟨u1, S1⟩ := w1
        simp only [e1] at he
        refine ⟨env, S, ρ, u1, S1, hEn, hS, e1, fun v1 H1 ρ1 x1 s1 r1 => ?_⟩
        cases e2 : truR S1 u1 with
        | none => simp [e2] at he
        | some t =>
          refine ⟨t, tru_of s1 r1 e2, ?_⟩
          cases t with
          | false => simp only [e2] at he; cases he; rw [if_neg Bool.false_ne_true]; exact hQ v1 H1 ρ1 x1 s1 r1
          | true =>
            simp only [e2] at he
            rw [if_pos rfl]
            exact ⟨env, S1, ρ1, r, S', hEn.mono x1, s1, he, fun v2 H2 ρ2 x2 s2 r2 => hQ v2 H2 ρ2 (x1.trans x2) s2 (r2.back x1)⟩
theorem e_or {a b : Expr} {l : List Expr} (hE : SE T k n) (C : Ctx T k c X) (h : cE (n + 1) c (.BoolOp .Or (a :: b :: l) pos) = some r) : PE X (.BoolOp .Or (a :: b :: l) pos) (tR (callT T k) X.K r) := by
  simp only [cE] at h
  cases h1 : cE n c a with
  | none => simp [h1] at h
  | some x =>
    cases h2 : cE n c (.BoolOp .Or (b :: l) pos) with
    | none => simp [h1, h2] at h
    | some y =>
      simp only [h1, h2, Option.some.injEq] at h
      subst h
      refine (pe_orT (hE c X a x C h1) (hE c X _ y C h2)).imp fun σ H Q q => ?_
      obtain ⟨env, S, ρ, r, S', hEn, hS, he, hQ⟩ := q
      simp only [ev] at he
      cases e1 : ev (callT T k) x env S with
      | none => simp [e1] at he
      | some w1 =>
        obtain ⟨u1, S1⟩ := w1
        simp only [e1] at he
        refine ⟨env, S, ρ, u1, S1, hEn, hS, e1, fun v1 H1 ρ1 x1 s1 r1 => ?_⟩
        cases e2 : truR S1 u1 with
        | none => simp [e2] at he
        | some t =>
          refine ⟨t, tru_of s1 r1 e2, ?_⟩
          cases t with
          | true => simp only [e2] at he; cases he; rw [if_pos rfl]; exact hQ v1 H1 ρ1 x1 s1 r1
          | false =>
            simp only [e2] at he
            rw [if_neg Bool.false_ne_true]
            exact ⟨env, S1, ρ1, r, S', hEn.mono x1, s1, he, fun v2 H2 ρ2 x2 s2 r2 => hQ v2 H2 ρ2 (x1.trans x2) s2 (r2.back x1)⟩
theorem e_ife {t a b : Expr} (hE : SE T k n) (hT : ST T k n) (C : Ctx T k c X) (h : cE (n + 1) c (.IfExp t a b pos) = some r) : PE X (.IfExp t a b pos) (tR (callT T k) X.K r) := by
  simp only [cE] at h
  cases h1 : cE n c t with
  | none => simp [h1] at h
  | some x =>
    cases h2 : cE n c a with
    | none => simp [h1, h2] at h
    | some y =>
      cases h3 : cE n c b with
      | none => simp [h1, h2, h3] at h
      | some z =>
        simp only [h1, h2, h3, Option.some.injEq] at h
        subst h
        refine (pe_ifExp (hT c X t x C h1) (hE c X a y C h2) (hE c X b z C h3)).imp fun σ H Q q => ?_
        obtain ⟨env, S, ρ, r, S', hEn, hS, he, hQ⟩ := q
        simp only [ev] at he
        cases e1 : ev (callT T k) x env S with
        | none => simp [e1] at he
        | some w1 =>
          obtain ⟨u1, S1⟩ := w1
          simp only [e1] at he
          cases e2 : truR S1 u1 with
          | none => simp [e2] at he
          | some t =>
            refine ⟨env, S, ρ, t, S1, hEn, hS, by simp [tst, e1, e2], fun H1 ρ1 x1 s1 => ?_⟩
            cases t with
            | false =>
              simp only [e2] at he
              rw [if_neg Bool.false_ne_true]
              exact ⟨env, S1, ρ1, r, S', hEn.mono x1, s1, he, fun v2 H2 ρ2 x2 s2 r2 => hQ v2 H2 ρ2 (x1.trans x2) s2 (r2.back x1)⟩
            | true =>
              simp only [e2] at he
              rw [if_pos rfl]
              exact ⟨env, S1, ρ1, r, S', hEn.mono x1, s1, he, fun v2 H2 ρ2 x2 s2 r2 => hQ v2 H2 ρ2 (x1.trans x2) s2 (r2.back x1)⟩
theorem small_es {α : Type} {es : List α} {m : Nat} (h : Nat.ble es.length 1000 = true) (e : m = es.length) : m ≤ sizeLine := by
  have := Nat.le_of_ble_eq_true h
  have h2 : (1000 : Nat) ≤ sizeLine := by rw [sizeLine_eq]; decide
  omega
theorem evs_len {cl : Nat → List D → Store → Option (D × Store)} {env : Env} : ∀ {rs : List CE} {S S' : Store} {ds : List D}, evs cl rs env S = some (ds, S') → ds.length = rs.length
  | [], _, _, _, h => by cases h; rfl
  | r :: rs, S, S', ds, h => by
    unfold evs at h
    cases e1 : pushR (ev cl r env S) with
    | none => simp [e1] at h
    | some z =>
      obtain ⟨d, S1⟩ := z
      simp only [e1] at h
      cases e2 : evs cl rs env S1 with
      | none => simp [e2] at h
      | some z2 =>
        obtain ⟨ds', S2⟩ := z2
        simp only [e2] at h
        cases h
        simp [evs_len e2]
theorem e_tup {es : List Expr} {j : Nat} (hE : SE T k n) (C : Ctx T k c X) (h : cE (n + 1) c (.Tuple es j pos) = some r) : PE X (.Tuple es j pos) (tR (callT T k) X.K r) := by
  simp only [cE] at h
  split at h
  · rename_i hz
    obtain ⟨rs, h1, rfl⟩ := one_inv h
    refine (pe_tup (pa_of hE C h1)).imp fun σ H Q q => ?_
    obtain ⟨env, S, ρ, r, S', hEn, hS, he, hQ⟩ := q
    simp only [ev] at he
    cases e1 : evs (callT T k) rs env S with
    | none => simp [e1] at he
    | some z =>
      obtain ⟨ds, S1⟩ := z
      simp only [e1] at he
      cases he
      refine ⟨env, S, ρ, ds, _, hEn, hS, e1, fun vs H1 ρ1 x1 s1 r1 => ⟨small_es hz ?_, fun p hp => ?_⟩⟩
      · rw [r1.length, evs_len e1, mapO_len h1]
      · exact hQ _ _ ρ1 (x1.trans (.new hp)) (s1.new hp) ⟨p, vs, rfl, .of upd_same, r1.mono (.new hp)⟩
  · cases h
theorem e_lst {es : List Expr} (hE : SE T k n) (C : Ctx T k c X) (h : cE (n + 1) c (.List es pos) = some r) : PE X (.List es pos) (tR (callT T k) X.K r) := by
  simp only [cE] at h
  split at h
  · rename_i hz
    obtain ⟨rs, h1, rfl⟩ := one_inv h
    refine (pe_lst (pa_of hE C h1)).imp fun σ H Q q => ?_
    obtain ⟨env, S, ρ, r, S', hEn, hS, he, hQ⟩ := q
    simp only [ev] at he
    cases e1 : evs (callT T k) rs env S with
    | none => simp [e1] at he
    | some z =>
      obtain ⟨ds, S1⟩ := z
      simp only [e1] at he
      cases he
      refine ⟨env, S, ρ, ds, _, hEn, hS, e1, fun vs H1 ρ1 x1 s1 r1 => ⟨small_es hz ?_, fun p hp => ?_⟩⟩
      · rw [r1.length, evs_len e1, mapO_len h1]
      · exact hQ _ _ ρ1 (x1.trans (.new hp)) (s1.new hp) ⟨p, vs, rfl, upd_same, x1.back hp, s1.ne hp, r1.mono (.new hp)⟩
  · cases h

/-! ### subscripts -/
def tO (cl : Nat → List D → Store → Option (D × Store)) (K : PySem.W.Frag) (o : CO) : TO := fun σ H Q => ∃ env S ρ i S', RepE K H ρ env σ ∧ RepS K H ρ S ∧ evo cl o env S = some (i, S') ∧ ∀ H' ρ', Ext K H ρ H' ρ' → RepS K H' ρ' S' → Q i H'
theorem po_of {o : Option Expr} {r : CO} (hE : SE T k n) (C : Ctx T k c X) (h : cO (cE n) c o = some r) : PO X o (tO (callT T k) X.K r) := by
  cases o with
  | none =>
    cases h
    refine po_none.imp fun σ H Q q => ?_
    obtain ⟨env, S, ρ, i, S', hEn, hS, he, hQ⟩ := q
    cases he
    exact hQ H ρ .refl hS
  | some e =>
    obtain ⟨x, h1, rfl⟩ := one_inv (show (cE n c e).map CO.at_ = some r from h)
    refine (po_some (hE c X e x C h1)).imp fun σ H Q q => ?_
    obtain ⟨env, S, ρ, i, S', hEn, hS, he, hQ⟩ := q
    simp only [evo] at he
    split at he
    · rename_i j S1 e1
      cases he
      exact ⟨env, S, ρ, _, _, hEn, hS, e1, fun v H' ρ' ex st rr => ⟨j, rr, hQ H' ρ' ex st⟩⟩
    · cases he
theorem e_slc {a : Expr} {lo hi : Option Expr} {p2 : Pos} (hE : SE T k n) (C : Ctx T k c X) (h : cE (n + 1) c (.Subscript a (.Slice lo hi none p2) pos) = some r) : PE X (.Subscript a (.Slice lo hi none p2) pos) (tR (callT T k) X.K r) := by
  simp only [cE] at h
  cases h1 : cE n c a with
  | none => simp [h1] at h
  | some x =>
    cases h2 : cO (cE n) c lo with
    | none => simp [h1, h2] at h
    | some y =>
      cases h3 : cO (cE n) c hi with
      | none => simp [h1, h2, h3] at h
      | some z =>
        simp only [h1, h2, h3, Option.some.injEq] at h
        subst h
        refine (pe_slice sl_any (hE c X a x C h1) (po_of hE C h2) (po_of hE C h3)).imp fun σ H Q q => ?_
        obtain ⟨env, S, ρ, r, S', hEn, hS, he, hQ⟩ := q
        simp only [ev] at he
        cases e1 : ev (callT T k) x env S with
        | none => simp [e1] at he
        | some w1 =>
          obtain ⟨u1, S1⟩ := w1
          simp only [e1] at he
          cases e2 : evo (callT T k) y env S1 with
          | none => simp [e2] at he
          | some w2 =>
            obtain ⟨l, S2⟩ := w2
            simp only [e2] at he
            cases e3 : evo (callT T k) z env S2 with
            | none => simp [e3] at he
            | some w3 =>
              obtain ⟨u, S3⟩ := w3
              simp only [e3] at he
              obtain ⟨w, e4, e5⟩ := one_inv he
              cases e5
              exact ⟨env, S, ρ, u1, S1, hEn, hS, e1, fun v1 H1 ρ1 x1 s1 r1 => ⟨env, S1, ρ1, l, S2, hEn.mono x1, s1, e2, fun H2 ρ2 x2 s2 => ⟨env, S2, ρ2, u, _, (hEn.mono x1).mono x2, s2, e3, fun H3 ρ3 x3 s3 =>
                ⟨ρ3, _, H, u1, _, s3, (r1.mono x2).mono x3, e4, fun v4 H4 x4 s4 r4 => hQ v4 H4 ρ3 (((x1.trans x2).trans x3).trans x4) s4 (r4.back ((x1.trans x2).trans x3))⟩⟩⟩⟩
theorem cE_ix {b : Expr} {r : CE} (h : cE n c b = some r) : PlainIx b := by
  cases n with
  | zero => cases h
  | succ n => cases b <;> first | (intro o i; rfl) | cases h
theorem e_idx {a b : Expr} (hE : SE T k n) (C : Ctx T k c X) (h : (match cE n c a, cE n c b with | some a, some b => some (CE.idx a b) | _, _ => none) = some r) : PE X (.Subscript a b pos) (tR (callT T k) X.K r) := by
  obtain ⟨x, y, h1, h2, rfl⟩ := two_inv h
  refine (pe_ix ix_any (hE c X a x C h1) (hE c X b y C h2) (cE_ix h2)).imp fun σ H Q q => t2_of ?_
  obtain ⟨env, S, ρ, r, S', hEn, hS, he, hQ⟩ := q
  simp only [ev] at he
  obtain ⟨u, S1, v, e1, e2, e3⟩ := ev_two (g := fun S x y => (idxR S x y).map fun d => .v d) (by simp only [Option.map_map, Function.comp_def]; exact he)
  obtain ⟨b', e4, e5⟩ := one_inv e3
  cases e5
  exact ⟨env, S, ρ, u, S1, v, S', hEn, hS, e1, e2, fun w z H' ρ' ex two _ _ => ⟨ρ', S', u, v, b', two, e4, fun v2 r2 => hQ v2 H' ρ' ex two.st r2⟩⟩
end Pv

/-! Targets, and what is walked. -/
namespace Pv
open PySem PySem.Spec PyProof.Rows L2
variable {T : Nat → Option FunC} {k n : Nat} {c : Sc} {X : Cx} {pos : Pos}

theorem _root_.L2.PG.imp {e : Expr} {t t' : TG} (h : PG X e t) (f : ∀ v σ H Q, t' v σ H Q → t v σ H Q) : PG X e t' := ⟨fun pins s σ H v u Q I r q => h.run pins s σ H v u Q I r (f v σ H Q q)⟩
theorem _root_.L2.PGs.imp {e : List Expr} {t t' : TGs} (h : PGs X e t) (f : ∀ v σ H Q, t' v σ H Q → t v σ H Q) : PGs X e t' := ⟨fun pins s σ H v u Q I r q => h.run pins s σ H v u Q I r (f v σ H Q q)⟩
theorem _root_.L2.PI.or {tg e : Expr} {t t' : TI} (h : PI X tg e t) (h' : PI X tg e t') : PI X tg e (fun σ H R => t σ H R ∨ t' σ H R) := ⟨fun pins s σ H R I q => q.elim (h.run pins s σ H R I) (h'.run pins s σ H R I)⟩
theorem _root_.L2.PE.or {e : Expr} {t t' : TE} (h : PE X e t) (h' : PE X e t') : PE X e (fun σ H R => t σ H R ∨ t' σ H R) := ⟨fun pins s σ H R I q => q.elim (h.run pins s σ H R I) (h'.run pins s σ H R I)⟩
theorem _root_.L2.PI.bound {tg e : Expr} {t : TI} (h : PI X tg e t) : PI X tg e (fun σ H R => t σ H fun J H1 => HB X.K H1 → R J H1) := ⟨fun pins s σ H R I q => by
  refine thn (h.run pins s σ H _ I q) fun v s1 h1 => thn h1 fun itv s2 h2 => ?_
  obtain ⟨it, fp, tn, J, H2, e, I2, T, st2, f2, r⟩ := h2
  exact ⟨it, fp, tn, J, H2, e, I2, T, st2, f2, r (HB.of I2)⟩⟩

/-! ### targets -/
def gP (K : PySem.W.Frag) (p : Pat) : TG := fun v σ H Q => ∃ env ρ d env', RepE K H ρ env σ ∧ RepV K H ρ d v ∧ bindP p d env = some env' ∧
  ∀ σ', RepE K H ρ env' σ' → σ'.length = σ.length → (∀ j, j ∉ p.slots → σ'[j]? = σ[j]?) → Q σ' H
def gPs (K : PySem.W.Frag) (ps : List Pat) : TGs := fun vs σ H Q => ∃ env ρ ds env', RepE K H ρ env σ ∧ RepL K H ρ ds vs ∧ bindPs ps ds env = some env' ∧
  ∀ σ', RepE K H ρ env' σ' → σ'.length = σ.length → (∀ j, j ∉ slotss ps → σ'[j]? = σ[j]?) → Q σ' H
theorem asg_cons {e : Expr} (h : isStar e = false) (es : List Expr) (env : PySem.Env) : assignEach (e :: es) env = (false, assign e env) :: assignEach es env := by
  cases e <;> first | rfl | cases h
theorem asg_len {env : PySem.Env} : ∀ {es : List Expr}, (∀ e ∈ es, isStar e = false) → (assignEach es env).length = es.length ∧ (assignEach es env).findIdx? (·.1) = none
  | [], _ => ⟨rfl, rfl⟩
  | e :: es, h => by
    rw [asg_cons (h e (by simp))]
    obtain ⟨h1, h2⟩ := asg_len (env := env) (es := es) fun x hx => h x (by simp [hx])
    refine ⟨by simp [h1], ?_⟩
    rw [List.findIdx?_cons]
    simp [h2]
theorem cP_star {e : Expr} {p : Pat} (h : cP n c e = some p) : isStar e = false := by
  cases n with
  | zero => cases h
  | succ n => cases e <;> first | rfl | cases h
theorem mapP_star : ∀ {es : List Expr} {rs : List Pat}, mapO (cP n c) es = some rs → ∀ e ∈ es, isStar e = false
  | [], _, _, _, h => by cases h
  | e :: es, rs, h, x, hx => by
    obtain ⟨b, r, rfl, h1, h2⟩ := mapO_cons h
    rcases List.mem_cons.mp hx with rfl | hx
    · exact cP_star h1
    · exact mapP_star h2 x hx
theorem pgs_of (C : Ctx T k c X) (h : ∀ e p, cP n c e = some p → PG X e (gP X.K p)) : ∀ {es : List Expr} {ps : List Pat}, mapO (cP n c) es = some ps → PGs X es (gPs X.K ps)
  | [], ps, e => by
    rw [mapO_nil e]
    refine pgs_nil.imp fun vs σ H Q q => ?_
    obtain ⟨env, ρ, ds, env', hE, hl, hb, hQ⟩ := q
    cases ds with
    | nil => cases hb; exact ⟨hl, hQ σ hE rfl fun _ _ => rfl⟩
    | cons d ds => cases hb
  | e :: es, ps, hm => by
    obtain ⟨b, r, rfl, h1, h2⟩ := mapO_cons hm
    refine (pgs_cons (h e b h1) (pgs_of C h h2) (by rw [asg_cons (cP_star h1)]; rfl)).imp fun vs σ H Q q => ?_
    obtain ⟨env, ρ, ds, env', hE, hl, hb, hQ⟩ := q
    cases ds with
    | nil => cases hb
    | cons d ds =>
      obtain ⟨v, rest, rfl, r1, r2⟩ := hl
      unfold bindPs at hb
      cases e1 : bindP b d env with
      | none => simp [e1] at hb
      | some env1 =>
        simp only [e1] at hb
        exact ⟨v, rest, rfl, env, ρ, d, env1, hE, r1, e1, fun σ1 hE1 l1 k1 => ⟨env1, ρ, ds, env', hE1, r2, hb, fun σ2 hE2 l2 k2 => hQ σ2 hE2 (l2.trans l1) fun j hj => by
          have hj' : j ∉ b.slots ∧ j ∉ slotss r := by
            constructor <;> intro z <;> exact hj (by show j ∈ b.slots ++ slotss r; simp [z])
          rw [k2 j hj'.2, k1 j hj'.1]⟩⟩
theorem pg_of (C : Ctx T k c X) : ∀ (n : Nat) (e : Expr) (p : Pat), cP n c e = some p → PG X e (gP X.K p)
  | 0, _, _, h => by cases h
  | n + 1, e, p, h => by
    cases e with
    | Name x ps =>
      simp only [cP] at h
      split at h
      · rename_i hs
        obtain ⟨i, hi, rfl⟩ := one_inv h
        obtain ⟨h1, h2⟩ := C.loc hs
        refine (pg_name C.ndX (C.ix hi) h1 h2).imp fun v σ H Q q => ?_
        obtain ⟨env, ρ, d, env', hE, hl, hb, hQ⟩ := q
        cases hb
        refine hQ _ (hE.set i hl) (by simp) fun j hj => ?_
        have : i ≠ j := fun e => hj (by show j ∈ [i]; simp [e])
        rw [List.getElem?_set_ne this]
      · cases h
    | Tuple es j ps =>
      simp only [cP] at h
      obtain ⟨rs, hr, rfl⟩ := one_inv h
      obtain ⟨l1, l2⟩ := asg_len (env := X.env) (mapP_star hr)
      refine (pg_tup C.calm (pgs_of C (pg_of C n) hr) l1 l2).imp fun v σ H Q q => ?_
      obtain ⟨env, ρ, d, env', hE, hl, hb, hQ⟩ := q
      cases d with
      | tup ds =>
        obtain ⟨a, vs, rfl, h1, h2⟩ := hl
        have hlen : ∀ {ps : List Pat} {ds : List D} {env env' : Env}, bindPs ps ds env = some env' → ps.length = ds.length := by
          intro ps
          induction ps with
          | nil => intro ds env env' h; cases ds with
            | nil => rfl
            | cons _ _ => cases h
          | cons p ps ih =>
            intro ds env env' h
            cases ds with
            | nil => cases h
            | cons d ds =>
              unfold bindPs at h
              cases e1 : bindP p d env with
              | none => simp [e1] at h
              | some env1 => simp only [e1] at h; simp [ih h]
        refine ⟨a, vs, rfl, h1, ?_, env, ρ, ds, env', hE, h2, hb, hQ⟩
        rw [h2.length, mapO_len hr]
        exact (hlen hb).symm
      | _ => cases hb
    | _ => cases h

/-! ### what is walked -/
/-- what has happened since, but for the growing lists Xs -/
structure ExtX (K : PySem.W.Frag) (Xs : List Addr) (H : Hp) (ρ : List Addr) (H' : Hp) (ρ' : List Addr) : Prop where
  sub : Sub K H ρ H' ρ'
  keep : ∀ a o, H a = some o → a ∉ ρ → a ∉ Xs → H' a = some o
  nin : ∀ a o, H a = some o → a ∉ ρ → a ∉ Xs → a ∉ ρ'
theorem Ext.x {K : PySem.W.Frag} {H H' : Hp} {ρ ρ' : List Addr} {Xs : List Addr} (e : Ext K H ρ H' ρ') : ExtX K Xs H ρ H' ρ' := ⟨e.sub, fun a o h n _ => e.keep a o h n, fun a o h n _ => e.notin h n⟩
theorem Sub.trans {K : PySem.W.Frag} {H H1 H2 : Hp} {ρ ρ1 ρ2 : List Addr} (e : Sub K H ρ H1 ρ1) (f : Sub K H1 ρ1 H2 ρ2) : Sub K H ρ H2 ρ2 := ⟨fun n a h => f.get n a (e.get n a h), fun a xs h => f.tup a xs (e.tup a xs h), fun a xs h => f.rol a xs (e.rol a xs h)⟩
theorem ExtX.trans {K : PySem.W.Frag} {H H1 H2 : Hp} {ρ ρ1 ρ2 Xs : List Addr} (e : ExtX K Xs H ρ H1 ρ1) (f : Ext K H1 ρ1 H2 ρ2) : ExtX K Xs H ρ H2 ρ2 :=
  ⟨e.sub.trans f.sub, fun a o h n x => f.keep a o (e.keep a o h n x) (e.nin a o h n x), fun a o h n x => f.notin (e.keep a o h n x) (e.nin a o h n x)⟩
theorem ExtX.upd {K : PySem.W.Frag} {H H1 : Hp} {ρ ρ1 Xs : List Addr} {A : Addr} {vs ws : List L2.V} (e : ExtX K Xs H ρ H1 ρ1) (hA : A ∈ Xs) (h : H1 A = some (.lst vs)) : ExtX K Xs H ρ (L2.upd H1 A (.lst ws)) ρ1 :=
  ⟨e.sub.trans (.upd h), fun a o q n x => by rw [upd_ne (fun z => x (by rw [z]; exact hA))]; exact e.keep a o q n x, e.nin⟩
def RelIt (K : PySem.W.Frag) (Xs : List Addr) (J : It) (di : DI) (H0 : Hp) (ρ0 : List Addr) : Prop := ∀ (i : Nat) (H : Hp) (ρ : List Addr) (S : Store), ExtX K Xs H0 ρ0 H ρ → RepS K H ρ S →
  (di.next S i = some none → J.stop i H) ∧ ∀ d, di.next S i = some (some d) → J.go i H ∧ ∀ x H', J.yld i H x H' → Ext K H ρ H' ρ ∧ RepS K H' ρ S ∧ RepV K H' ρ d x
def tI (cl : Nat → List D → Store → Option (D × Store)) (K : PySem.W.Frag) (ci : CI) : TI := fun σ H R => ∃ env S ρ di S', RepE K H ρ env σ ∧ RepS K H ρ S ∧ evi cl ci env S = some (di, S') ∧
  ∀ J H1 ρ1, Ext K H ρ H1 ρ1 → RepS K H1 ρ1 S' → (∀ Xs : List Addr, (∀ a ∈ Xs, H a ≠ none) → RelIt K Xs J di H1 ρ1) → (di.small = true → di.len S' ≤ sizeLine) → R J H1
section
variable {K : PySem.W.Frag} {H H0 : Hp} {ρ ρ0 : List Addr} {S : Store}
theorem get_none {vs : List L2.V} {ds : List D} {i : Nat} (l : vs.length = ds.length) (h : ds[i]? = none) : vs.length ≤ i := by
  rw [l]; exact List.getElem?_eq_none_iff.mp h
/-- a list that no one writes, or that is not in the store -/
theorem rel_fix {Xs : List Addr} {a : Addr} {vs : List L2.V} {ds : List D} (hs : ∀ H ρ, ExtX K Xs H0 ρ0 H ρ → SqL K H a vs) (hl : RepL K H0 ρ0 ds vs) : RelIt K Xs (Itl K a) (.tup ds) H0 ρ0 := fun i H ρ S e st => by
  have q := hs H ρ e
  have hl2 := hl.sub e.sub
  refine ⟨fun h => ⟨vs, q, get_none hl2.length (by simpa [DI.next] using h)⟩, fun d h => ?_⟩
  have h : ds[i]? = some d := by simpa [DI.next] using h
  obtain ⟨v, h1, h2⟩ := hl2.get h
  refine ⟨⟨vs, v, q, h1⟩, fun x H' y => ?_⟩
  obtain ⟨rfl, y⟩ := y
  have := (y vs q).symm.trans h1
  cases this
  exact ⟨.refl, st, h2⟩
theorem rel_tup {Xs : List Addr} {a : Addr} {vs : List L2.V} {ds : List D} (hs : SqT K H0 a vs) (hl : RepL K H0 ρ0 ds vs) : RelIt K Xs (Itt K a) (.tup ds) H0 ρ0 := fun i H ρ S e st => by
  have q := e.sub.sqT hs
  have hl2 := hl.sub e.sub
  refine ⟨fun h => ⟨vs, q, get_none hl2.length (by simpa [DI.next] using h)⟩, fun d h => ?_⟩
  have h : ds[i]? = some d := by simpa [DI.next] using h
  obtain ⟨v, h1, h2⟩ := hl2.get h
  refine ⟨⟨vs, v, q, h1⟩, fun x H' y => ?_⟩
  obtain ⟨rfl, y⟩ := y
  have := (y vs q).symm.trans h1
  cases this
  exact ⟨.refl, st, h2⟩
theorem next_lst {m i : Nat} {o : Option D} (h : (DI.lst m).next S i = some o) : ∃ ds, S[m]? = some (.lst ds) ∧ ds[i]? = o := by
  have h : (lstR S (.v (.loc m))).map (fun ds => ds[i]?) = some o := h
  cases e : lstR S (.v (.loc m)) with
  | none => rw [e] at h; cases h
  | some ds => rw [e] at h; cases h; exact ⟨ds, lstR_loc e, rfl⟩
theorem rel_lst {Xs : List Addr} {a : Addr} {m : Nat} (hr : ρ0[m]? = some a) : RelIt K Xs (Itl K a) (.lst m) H0 ρ0 := fun i H ρ S e st => by
  have cur : ∀ {ds : List D}, S[m]? = some (.lst ds) → ∃ vs, H a = some (.lst vs) ∧ RepL K H ρ ds vs := fun h1 => by
    obtain ⟨b, vs, h2, h3, h4⟩ := st.lst h1
    rw [e.sub.get _ _ hr] at h2; cases h2
    exact ⟨vs, h3, h4⟩
  refine ⟨fun h => ?_, fun d h => ?_⟩
  · obtain ⟨ds, h1, h2⟩ := next_lst h
    obtain ⟨vs, h3, h4⟩ := cur h1
    exact ⟨vs, .of h3, get_none h4.length h2⟩
  · obtain ⟨ds, h1, h2⟩ := next_lst h
    obtain ⟨vs, h3, h4⟩ := cur h1
    obtain ⟨v, h5, h6⟩ := h4.get h2
    refine ⟨⟨vs, v, .of h3, h5⟩, fun x H' y => ?_⟩
    obtain ⟨rfl, y⟩ := y
    have := (y vs (.of h3)).symm.trans h5
    cases this
    exact ⟨.refl, st, h6⟩
theorem rel_rng {Xs : List Addr} {lo : Int} {m : Nat} : RelIt K Xs (Itr lo m) (.rng lo 1 m) H0 ρ0 := fun i H ρ S e st => by
  refine ⟨fun h => ?_, fun d h => ?_⟩
  · simp only [DI.next] at h
    split at h
    · cases h
    · rename_i hi; exact Nat.le_of_not_lt hi
  · simp only [DI.next] at h
    split at h
    · rename_i hi
      cases h
      refine ⟨hi, fun x H' y => ?_⟩
      obtain ⟨rfl, rfl⟩ := y
      exact ⟨.refl, st, by show V.int _ = V.int _; rw [Int.mul_one]⟩
    · cases h
theorem rel_rngC {Xs : List Addr} {lo st : Int} {m : Nat} : RelIt K Xs (Itc lo st m) (.rng lo st m) H0 ρ0 := fun i H ρ S e st => by
  refine ⟨fun h => ?_, fun d h => ?_⟩
  · simp only [DI.next] at h
    split at h
    · cases h
    · rename_i hi; exact Nat.le_of_not_lt hi
  · simp only [DI.next] at h
    split at h
    · rename_i hi
      cases h
      refine ⟨hi, fun x H' y => ?_⟩
      obtain ⟨rfl, rfl⟩ := y
      exact ⟨.refl, st, rfl⟩
    · cases h
end
theorem evi_seq {cl : Nat → List D → Store → Option (D × Store)} {a : CE} {env : Env} {S S' : Store} {di : DI} (h : evi cl (.seq a) env S = some (di, S')) : ∃ r, ev cl a env S = some (r, S') ∧ itR S' r = some di := by
  simp only [evi] at h
  cases e1 : ev cl a env S with
  | none => simp [e1] at h
  | some z =>
    obtain ⟨r, S1⟩ := z
    simp only [e1] at h
    obtain ⟨d, h1, h2⟩ := one_inv h
    cases h2
    exact ⟨r, rfl, h1⟩
/-- how a result is walked -/
theorem it_of {K : PySem.W.Frag} {H1 H : Hp} {ρ1 : List Addr} {S : Store} {r : R} {v : L2.V} {di : DI} (st : RepS K H1 ρ1 S) (rr : RepR K H1 ρ1 H r v) (h : itR S r = some di) (hb : HB K H1 ∨ True) :
    ∃ a, v = .ref a ∧ (((∃ xs, SqL K H1 a xs) ∧ isTupR r = false ∧ ∀ Xs : List Addr, (∀ a ∈ Xs, H a ≠ none) → RelIt K Xs (Itl K a) di H1 ρ1) ∨ ((∃ xs, SqT K H1 a xs) ∧ isTupR r = true ∧ ∀ Xs : List Addr, RelIt K Xs (Itt K a) di H1 ρ1)) ∧ (HB K H1 → di.small = true → di.len S ≤ sizeLine) := by
  cases r with
  | s ds =>
    cases h
    obtain ⟨a, vs, rfl, h1, h2, h3, h4⟩ := rr
    refine ⟨a, rfl, .inl ⟨⟨vs, .of h1⟩, rfl, fun Xs hX => rel_fix (fun H ρ e => .of (e.keep a _ h1 h3 fun z => hX a z h2)) h4⟩, fun hb _ => ?_⟩
    show ds.length ≤ _
    rw [← h4.length]; exact hb a vs (.inl (.of h1))
  | v d =>
    cases d with
    | tup ds =>
      cases h
      obtain ⟨a, vs, rfl, h1, h2⟩ := rr
      refine ⟨a, rfl, .inr ⟨⟨vs, h1⟩, rfl, fun Xs => rel_tup h1 h2⟩, fun hb _ => ?_⟩
      show ds.length ≤ _
      rw [← h2.length]; exact hb a vs (.inr h1)
    | rol ds =>
      cases h
      obtain ⟨a, vs, rfl, h1, h2⟩ := rr
      refine ⟨a, rfl, .inl ⟨⟨vs, h1.sq⟩, rfl, fun Xs _ => rel_fix (fun H ρ e => (e.sub.rol _ _ h1).sq) h2⟩, fun hb _ => ?_⟩
      show ds.length ≤ _
      rw [← h2.length]; exact hb a vs (.inl h1.sq)
    | loc m =>
      obtain ⟨a, rfl, ha⟩ := rr
      have h : (match S[m]? with | some (.lst _) => some (DI.lst m) | none => none) = some di := h
      cases e : S[m]? with
      | none => rw [e] at h; cases h
      | some o =>
        cases o with
        | lst ds =>
          rw [e] at h; cases h
          obtain ⟨b, vs, h2, h3, h4⟩ := st.lst e
          rw [ha] at h2; cases h2
          refine ⟨a, rfl, .inl ⟨⟨vs, .of h3⟩, rfl, fun Xs _ => rel_lst ha⟩, fun hb _ => ?_⟩
          show ((lstR S (.v (.loc m))).getD []).length ≤ _
          have : lstR S (.v (.loc m)) = some ds := by unfold lstR; simp only; rw [e]
          rw [this, Option.getD_some, ← h4.length]; exact hb a vs (.inl (.of h3))
    | _ => cases h
theorem pi_seq {tg e : Expr} {r : CE} (hE : SE T k n) (C : Ctx T k c X) (h : cE n c e = some r) : PI X tg e (tI (callT T k) X.K (.seq r)) := by
  have p := hE c X e r C h
  refine ((pi_list p).or (pi_tup p)).bound.imp fun σ H R q => ?_
  obtain ⟨env, S, ρ, di, S', hEn, hS, he, hQ⟩ := q
  obtain ⟨rr, e1, e2⟩ := evi_seq he
  cases ht : isTupR rr with
  | false =>
    refine .inl ⟨env, S, ρ, rr, S', hEn, hS, e1, fun v H1 ρ1 x1 s1 r1 => ?_⟩
    obtain ⟨a, rfl, h1, h2⟩ := it_of s1 r1 e2 (.inr trivial)
    rcases h1 with ⟨g1, g2, g3⟩ | ⟨g1, g2, g3⟩
    · exact ⟨a, rfl, g1, fun hb => hQ _ H1 ρ1 x1 s1 g3 (h2 hb)⟩
    · rw [ht] at g2; cases g2
  | true =>
    refine .inr ⟨env, S, ρ, rr, S', hEn, hS, e1, fun v H1 ρ1 x1 s1 r1 => ?_⟩
    obtain ⟨a, rfl, h1, h2⟩ := it_of s1 r1 e2 (.inr trivial)
    rcases h1 with ⟨g1, g2, g3⟩ | ⟨g1, g2, g3⟩
    · rw [ht] at g2; cases g2
    · exact ⟨a, rfl, g1, fun hb => hQ _ H1 ρ1 x1 s1 (fun Xs _ => g3 Xs) (h2 hb)⟩
end Pv

/-! range, enumerate, zip, reversed; what a for or a comprehension walks. -/
namespace Pv
open PySem PySem.Spec PyProof.Rows L2
variable {T : Nat → Option FunC} {k n : Nat} {c : Sc} {X : Cx} {pos : Pos}
section
variable {K : PySem.W.Frag} {H H0 : Hp} {ρ ρ0 : List Addr} {S : Store} {a b : Addr} {di di' : DI} {Xs : List Addr}
theorem rel_enum (h : RelIt K Xs (Itl K a) di H0 ρ0) : RelIt K Xs (Ite K a) (.enum di) H0 ρ0 := fun i H ρ S e st => by
  obtain ⟨g1, g2⟩ := h i H ρ S e st
  refine ⟨fun q => ?_, fun d q => ?_⟩
  · have q : (di.next S i).map (fun o => o.map fun x => D.tup [.int i, x]) = some none := q
    cases e1 : di.next S i with
    | none => rw [e1] at q; cases q
    | some o =>
      cases o with
      | none => exact g1 e1
      | some x => rw [e1] at q; cases q
  · have q : (di.next S i).map (fun o => o.map fun x => D.tup [.int i, x]) = some (some d) := q
    cases e1 : di.next S i with
    | none => rw [e1] at q; cases q
    | some o =>
      cases o with
      | none => rw [e1] at q; cases q
      | some x =>
        rw [e1] at q; cases q
        obtain ⟨go, gy⟩ := g2 x e1
        refine ⟨go, fun v H' y => ?_⟩
        obtain ⟨T, w, rfl, hT, rfl, y⟩ := y
        obtain ⟨_, _, r⟩ := gy w H ⟨rfl, y⟩
        exact ⟨.new hT, st.new hT, T, _, rfl, .of upd_same, RepL.mono (.new hT) (.cons rfl (.cons r .nil))⟩
theorem rel_zipL (h : RelIt K Xs (Itl K a) di H0 ρ0) (h' : RelIt K Xs (Itl K b) di' H0 ρ0) : RelIt K Xs (Itz K a b) (.zip di di') H0 ρ0 := fun i H ρ S e st => by
  obtain ⟨g1, g2⟩ := h i H ρ S e st
  obtain ⟨f1, f2⟩ := h' i H ρ S e st
  have any1 : ∀ o, di.next S i = some o → ∃ xs, SqL K H a xs ∧ (o = none → xs.length ≤ i) := fun o e1 => by
    cases o with
    | none => obtain ⟨xs, q, l⟩ := g1 e1; exact ⟨xs, q, fun _ => l⟩
    | some x => obtain ⟨⟨xs, _, q, _⟩, _⟩ := g2 x e1; exact ⟨xs, q, fun z => by cases z⟩
  have any2 : ∀ o, di'.next S i = some o → ∃ xs, SqL K H b xs ∧ (o = none → xs.length ≤ i) := fun o e1 => by
    cases o with
    | none => obtain ⟨xs, q, l⟩ := f1 e1; exact ⟨xs, q, fun _ => l⟩
    | some x => obtain ⟨⟨xs, _, q, _⟩, _⟩ := f2 x e1; exact ⟨xs, q, fun z => by cases z⟩
  cases e1 : di.next S i with
  | none => exact ⟨fun q => by simp [DI.next, e1] at q, fun d q => by simp [DI.next, e1] at q⟩
  | some o1 =>
    cases e2 : di'.next S i with
    | none => exact ⟨fun q => by cases o1 <;> simp [DI.next, e1, e2] at q, fun d q => by cases o1 <;> simp [DI.next, e1, e2] at q⟩
    | some o2 =>
      obtain ⟨xs, q1, l1⟩ := any1 o1 e1
      obtain ⟨ys, q2, l2⟩ := any2 o2 e2
      cases o1 with
      | none => exact ⟨fun _ => ⟨xs, ys, q1, q2, .inl (l1 rfl)⟩, fun d q => by simp [DI.next, e1, e2] at q⟩
      | some x =>
        cases o2 with
        | none => exact ⟨fun _ => ⟨xs, ys, q1, q2, .inr (l2 rfl)⟩, fun d q => by simp [DI.next, e1, e2] at q⟩
        | some y =>
          refine ⟨fun q => by simp [DI.next, e1, e2] at q, fun d q => ?_⟩
          have q : d = .tup [x, y] := by simpa [DI.next, e1, e2] using q.symm
          subst q
          obtain ⟨⟨us, u, p1, p2⟩, gy⟩ := g2 x e1
          obtain ⟨⟨ws, w, p3, p4⟩, fy⟩ := f2 y e2
          refine ⟨⟨us, ws, u, w, p1, p3, p2, p4⟩, fun v H' z => ?_⟩
          obtain ⟨T, v1, v2, rfl, hT, rfl, z1, z2⟩ := z
          obtain ⟨_, _, r1⟩ := gy v1 H ⟨rfl, z1⟩
          obtain ⟨_, _, r2⟩ := fy v2 H ⟨rfl, z2⟩
          exact ⟨.new hT, st.new hT, T, _, rfl, .of upd_same, RepL.mono (.new hT) (.cons r1 (.cons r2 .nil))⟩
theorem rel_zipT (h : RelIt K Xs (Itt K a) di H0 ρ0) (h' : RelIt K Xs (Itt K b) di' H0 ρ0) : RelIt K Xs (RZ.ItzT K a b) (.zip di di') H0 ρ0 := fun i H ρ S e st => by
  obtain ⟨g1, g2⟩ := h i H ρ S e st
  obtain ⟨f1, f2⟩ := h' i H ρ S e st
  have any1 : ∀ o, di.next S i = some o → ∃ xs, SqT K H a xs ∧ (o = none → xs.length ≤ i) := fun o e1 => by
    cases o with
    | none => obtain ⟨xs, q, l⟩ := g1 e1; exact ⟨xs, q, fun _ => l⟩
    | some x => obtain ⟨⟨xs, _, q, _⟩, _⟩ := g2 x e1; exact ⟨xs, q, fun z => by cases z⟩
  have any2 : ∀ o, di'.next S i = some o → ∃ xs, SqT K H b xs ∧ (o = none → xs.length ≤ i) := fun o e1 => by
    cases o with
    | none => obtain ⟨xs, q, l⟩ := f1 e1; exact ⟨xs, q, fun _ => l⟩
    | some x => obtain ⟨⟨xs, _, q, _⟩, _⟩ := f2 x e1; exact ⟨xs, q, fun z => by cases z⟩
  cases e1 : di.next S i with
  | none => exact ⟨fun q => by simp [DI.next, e1] at q, fun d q => by simp [DI.next, e1] at q⟩
  | some o1 =>
    cases e2 : di'.next S i with
    | none => exact ⟨fun q => by cases o1 <;> simp [DI.next, e1, e2] at q, fun d q => by cases o1 <;> simp [DI.next, e1, e2] at q⟩
    | some o2 =>
      obtain ⟨xs, q1, l1⟩ := any1 o1 e1
      obtain ⟨ys, q2, l2⟩ := any2 o2 e2
      cases o1 with
      | none => exact ⟨fun _ => ⟨xs, ys, q1, q2, .inl (l1 rfl)⟩, fun d q => by simp [DI.next, e1, e2] at q⟩
      | some x =>
        cases o2 with
        | none => exact ⟨fun _ => ⟨xs, ys, q1, q2, .inr (l2 rfl)⟩, fun d q => by simp [DI.next, e1, e2] at q⟩
        | some y =>
          refine ⟨fun q => by simp [DI.next, e1, e2] at q, fun d q => ?_⟩
          have q : d = .tup [x, y] := by simpa [DI.next, e1, e2] using q.symm
          subst q
          obtain ⟨⟨us, u, p1, p2⟩, gy⟩ := g2 x e1
          obtain ⟨⟨ws, w, p3, p4⟩, fy⟩ := f2 y e2
          refine ⟨⟨us, ws, u, w, p1, p3, p2, p4⟩, fun v H' z => ?_⟩
          obtain ⟨T, v1, v2, rfl, hT, rfl, z1, z2⟩ := z
          obtain ⟨_, _, r1⟩ := gy v1 H ⟨rfl, z1⟩
          obtain ⟨_, _, r2⟩ := fy v2 H ⟨rfl, z2⟩
          exact ⟨.new hT, st.new hT, T, _, rfl, .of upd_same, RepL.mono (.new hT) (.cons r1 (.cons r2 .nil))⟩
/-! ### reversed -/
theorem rel_revF {vs : List L2.V} {ds : List D} (hs : ∀ H ρ, ExtX K Xs H0 ρ0 H ρ → SqL K H a vs) (hl : RepL K H0 ρ0 ds vs) : RelIt K Xs (Itv K a vs.length) (.revt ds) H0 ρ0 := fun i H ρ S e st => by
  have q := hs H ρ e
  have hl2 := hl.sub e.sub
  have el := hl2.length
  refine ⟨fun h => ?_, fun d h => ?_⟩
  · simp only [DI.next] at h
    split at h
    · rename_i hi
      have h : ds[ds.length - 1 - i]? = none := Option.some.inj h
      have := List.getElem?_eq_none_iff.mp h
      omega
    · rename_i hi; show vs.length ≤ i; omega
  · simp only [DI.next] at h
    split at h
    · rename_i hi
      have h : ds[ds.length - 1 - i]? = some d := Option.some.inj h
      obtain ⟨v, h1, h2⟩ := hl2.get h
      rw [← el] at h1
      refine ⟨⟨by omega, vs, v, q, h1⟩, fun x H' y => ?_⟩
      obtain ⟨rfl, y⟩ := y
      have := (y vs q).symm.trans h1
      cases this
      exact ⟨.refl, st, h2⟩
    · cases h
theorem rel_revT {vs : List L2.V} {ds : List D} (hs : SqT K H0 a vs) (hl : RepL K H0 ρ0 ds vs) : RelIt K Xs (RT.ItvT K a vs.length) (.revt ds) H0 ρ0 := fun i H ρ S e st => by
  have q := e.sub.sqT hs
  have hl2 := hl.sub e.sub
  have el := hl2.length
  refine ⟨fun h => ?_, fun d h => ?_⟩
  · simp only [DI.next] at h
    split at h
    · rename_i hi
      have h : ds[ds.length - 1 - i]? = none := Option.some.inj h
      have := List.getElem?_eq_none_iff.mp h
      omega
    · rename_i hi; show vs.length ≤ i; omega
  · simp only [DI.next] at h
    split at h
    · rename_i hi
      have h : ds[ds.length - 1 - i]? = some d := Option.some.inj h
      obtain ⟨v, h1, h2⟩ := hl2.get h
      rw [← el] at h1
      refine ⟨⟨by omega, vs, v, q, h1⟩, fun x H' y => ?_⟩
      obtain ⟨rfl, y⟩ := y
      have := (y vs q).symm.trans h1
      cases this
      exact ⟨.refl, st, h2⟩
    · cases h
theorem rel_revL {m j : Nat} (hr : ρ0[m]? = some a) : RelIt K Xs (Itv K a j) (.revl m j) H0 ρ0 := fun i H ρ S e st => by
  have inv : ∀ {o : Option D}, (DI.revl m j).next S i = some o → ∃ ds vs, H a = some (.lst vs) ∧ RepL K H ρ ds vs ∧ ds.length = j ∧ (if i < j then some ds[j - 1 - i]? else some none) = some o := fun {o} h => by
    have h : ((lstR S (.v (.loc m))).bind fun ds => if ds.length = j then (if i < j then some ds[j - 1 - i]? else some none) else none) = some o := h
    cases e1 : lstR S (.v (.loc m)) with
    | none => rw [e1] at h; cases h
    | some ds =>
      rw [e1] at h
      have h : (if ds.length = j then (if i < j then some ds[j - 1 - i]? else some none) else none) = some o := h
      split at h
      · rename_i hl
        obtain ⟨b, vs, h2, h3, h4⟩ := st.lst (lstR_loc e1)
        rw [e.sub.get _ _ hr] at h2; cases h2
        exact ⟨ds, vs, h3, h4, hl, h⟩
      · cases h
  refine ⟨fun h => ?_, fun d h => ?_⟩
  · obtain ⟨ds, vs, h3, h4, hl, h⟩ := inv h
    split at h
    · rename_i hi
      have h : ds[j - 1 - i]? = none := Option.some.inj h
      have := List.getElem?_eq_none_iff.mp h
      omega
    · rename_i hi; show j ≤ i; omega
  · obtain ⟨ds, vs, h3, h4, hl, h⟩ := inv h
    split at h
    · rename_i hi
      have h : ds[j - 1 - i]? = some d := Option.some.inj h
      obtain ⟨v, h1, h2⟩ := h4.get h
      refine ⟨⟨hi, vs, v, .of h3, h1⟩, fun x H' y => ?_⟩
      obtain ⟨rfl, y⟩ := y
      have := (y vs (.of h3)).symm.trans h1
      cases this
      exact ⟨.refl, st, h2⟩
    · cases h
end

theorem rng_ok {i : Int} (h : rngOk i = true) : -(2 ^ 62) ≤ i ∧ i < 2 ^ 62 := by
  unfold rngOk at h
  simp only [Bool.and_eq_true, decide_eq_true_eq] at h
  have : (2 : Int) ^ 62 = 4611686018427387904 := by decide
  omega
theorem fits_ok {z : Int} (h1 : -1152921504606846976 ≤ z) (h2 : z ≤ 1152921504606846976) : Builtin.Range.rangeFitsLong z = true := by
  unfold Builtin.Range.rangeFitsLong
  have e : (2 : Int) ^ 63 = 9223372036854775808 := by decide
  rw [e]
  simp only [Bool.and_eq_true, decide_eq_true_eq]
  omega
theorem rangeC_ok {i j s : Int} (hi : rngOk3 i = true) (hj : rngOk3 j = true) (h1 : 0 < s) (h2 : s < 1073741824) : RgC i j s ((j - i + s - 1) / s).toNat := by
  unfold rngOk3 at hi hj
  simp only [Bool.and_eq_true, decide_eq_true_eq] at hi hj
  have rs : Builtin.Range.rangeSize i j s = (((j - i + s - 1) / s).toNat : Nat) := by
    unfold Builtin.Range.rangeSize
    rw [if_pos (show s > 0 from h1)]
    by_cases hij : i < j
    · rw [if_pos hij]
      have : j - i + s - 1 = (j - i - 1) + s * 1 := by omega
      rw [this, Int.add_mul_ediv_left _ _ (by omega)]
      have : 0 ≤ (j - i - 1) / s := Int.ediv_nonneg (by omega) (by omega)
      omega
    · rw [if_neg hij]
      have : (j - i + s - 1) / s ≤ 0 := by
        have : (j - i + s - 1) / s < 1 := Int.ediv_lt_of_lt_mul h1 (by omega)
        omega
      omega
  have hn2 : (((j - i + s - 1) / s).toNat : Int) ≤ 1152921504606846976 := by
    by_cases h : 0 ≤ j - i + s - 1
    · have := Int.ediv_le_self s h
      omega
    · have : (j - i + s - 1) / s < 0 := Int.ediv_neg_of_neg_of_pos (by omega) h1
      omega
  refine ⟨by omega, by omega, ?_, rs⟩
  unfold Builtin.Range.small
  rw [rs, if_pos (show s > 0 from h1), fits_ok (z := i) (by omega) (by omega), fits_ok (z := j) (by omega) (by omega), fits_ok (z := s) (by omega) (by omega), fits_ok (z := (((j - i + s - 1) / s).toNat : Int)) (by omega) hn2, fits_ok (z := j + (s - 1)) (by omega) (by omega)]
  simp
end Pv

/-! What a for or a comprehension walks. -/
namespace Pv
open PySem PySem.Spec PyProof.Rows L2
variable {T : Nat → Option FunC} {k n : Nat} {c : Sc} {X : Cx} {pos : Pos}

theorem isTup_inv {tg : Expr} (h : isTupE tg = true) : ∃ es j p, tg = .Tuple es j p := by
  cases tg <;> first | exact ⟨_, _, _, rfl⟩ | cases h
theorem cI_seq {tg e : Expr} {ci : CI} (hE : SE T k n) (C : Ctx T k c X) (h : (cE n c e).map .seq = some ci) : PI X tg e (tI (callT T k) X.K ci) := by
  obtain ⟨r, h1, rfl⟩ := one_inv h
  exact pi_seq hE C h1
theorem enum_of {K : PySem.W.Frag} {H1 H : Hp} {ρ1 : List Addr} {S : Store} {r : R} {v : L2.V} {di : DI} (st : RepS K H1 ρ1 S) (rr : RepR K H1 ρ1 H r v) (h : enumR S r = some di) :
    ∃ a xs, v = .ref a ∧ SqL K H1 a xs ∧ (∀ Xs : List Addr, (∀ a ∈ Xs, H a ≠ none) → RelIt K Xs (Ite K a) di H1 ρ1) ∧ (HB K H1 → di.small = true → di.len S ≤ sizeLine) := by
  have go : ∀ d, itR S r = some d → isTupR r = false → di = .enum d → ∃ a xs, v = .ref a ∧ SqL K H1 a xs ∧ (∀ Xs : List Addr, (∀ a ∈ Xs, H a ≠ none) → RelIt K Xs (Ite K a) di H1 ρ1) ∧ (HB K H1 → di.small = true → di.len S ≤ sizeLine) := fun d e1 e2 e3 => by
    subst e3
    obtain ⟨a, rfl, h1, h2⟩ := it_of st rr e1 (.inr trivial)
    rcases h1 with ⟨⟨xs, g1⟩, g2, g3⟩ | ⟨g1, g2, g3⟩
    · exact ⟨a, xs, rfl, g1, fun Xs hX => rel_enum (g3 Xs hX), h2⟩
    · rw [e2] at g2; cases g2
  cases r with
  | s ds =>
    obtain ⟨d, e1, e2⟩ := one_inv (show (itR S (.s ds)).map DI.enum = some di from h)
    exact go d e1 rfl e2
  | v x =>
    cases x with
    | loc m =>
      obtain ⟨d, e1, e2⟩ := one_inv (show (itR S (.v (.loc m))).map DI.enum = some di from h)
      exact go d e1 rfl e2
    | _ => cases h
theorem pi_of {tg e : Expr} {ci : CI} (hE : SE T k n) (C : Ctx T k c X) (h : cI (cE n) c (isTupE tg) e = some ci) : PI X tg e (tI (callT T k) X.K ci) := by
  unfold cI at h
  split at h
  · rename_i x px args pos
    split at h
    · rename_i hx
      simp only [Bool.and_eq_true] at hx
      have hG := C.isG hx.1
      have hF := C.bi x hx.2.1
      split at h
      · rename_i e; subst e
        split at h
        · rename_i a
          obtain ⟨r, h1, rfl⟩ := one_inv h
          refine (pi_range1 hG hF (pa_one hE C h1) (by rw [star_cons (cE_star h1)]; rfl)).imp fun σ H R q => ?_
          obtain ⟨env, S, ρ, di, S', hEn, hS, he, hQ⟩ := q
          simp only [evi] at he
          split at he
          · rename_i j S1 e1
            split at he
            · rename_i hj
              cases he
              obtain ⟨b1, b2⟩ := rng_ok hj
              refine ⟨env, S, ρ, _, _, hEn, hS, e1, fun v H1 ρ1 x1 s1 r1 => ⟨j, by rw [show v = .int j from r1], b1, b2, hQ _ H1 ρ1 x1 s1 (fun _ _ => rel_rng) fun hz => ?_⟩⟩
              have := Nat.le_of_ble_eq_true hz
              have := limS
              show j.toNat ≤ _; omega
            · cases he
          · cases he
        · rename_i a b
          obtain ⟨x, y, h1, h2, rfl⟩ := two_inv h
          refine (pi_range2 hG hF (pa_cons (hE c X a x C h1) (pa_one hE C h2) (star_cons (cE_star h1) _ _)) (by rw [star_cons (cE_star h1), star_cons (cE_star h2)]; rfl) (by rw [star_cons (cE_star h2)]; rfl)).imp fun σ H R q => ?_
          obtain ⟨env, S, ρ, di, S', hEn, hS, he, hQ⟩ := q
          simp only [evi] at he
          split at he
          · rename_i i S1 e1
            split at he
            · rename_i j S2 e2
              split at he
              · rename_i hj
                cases he
                simp only [Bool.and_eq_true] at hj
                obtain ⟨b1, b2⟩ := rng_ok hj.1
                obtain ⟨b3, b4⟩ := rng_ok hj.2
                refine t2_of ⟨env, S, ρ, _, _, _, _, hEn, hS, e1, e2, fun v u H1 ρ1 x1 two r1 r2 => ⟨i, j, by rw [show v = .int i from r1, show u = .int j from r2], ⟨b1, b2, b3, b4⟩, hQ _ H1 ρ1 x1 two.st (fun _ _ => rel_rng) fun hz => ?_⟩⟩
                have := Nat.le_of_ble_eq_true hz
                have := limS
                show (j - i).toNat ≤ _; omega
              · cases he
            · cases he
          · cases he
        · rename_i a b d
          cases h1 : cE n c a with
          | none => simp [h1] at h
          | some x =>
            cases h2 : cE n c b with
            | none => simp [h1, h2] at h
            | some y =>
              cases h3 : cE n c d with
              | none => simp [h1, h2, h3] at h
              | some z =>
                simp only [h1, h2, h3, Option.some.injEq] at h
                subst h
                refine (pi_range3 hG hF (pa_cons (hE c X a x C h1) (pa_cons (hE c X b y C h2) (pa_one hE C h3) (star_cons (cE_star h2) _ _)) (star_cons (cE_star h1) _ _)) (star_cons (cE_star h1) _ _)
                  (star_none (es := [b, d]) (by simp [cE_star h2, cE_star h3]))).imp fun σ H R q => ?_
                obtain ⟨env, S, ρ, di, S', hEn, hS, he, hQ⟩ := q
                simp only [evi] at he
                split at he
                · rename_i i S1 e1
                  split at he
                  · rename_i j S2 e2
                    split at he
                    · rename_i s S3 e3
                      split at he
                      · rename_i hj
                        cases he
                        simp only [Bool.and_eq_true, decide_eq_true_eq] at hj
                        refine t2_of (R := fun v u H2 => tR (callT T k) X.K z σ H2 fun w H3 => ∃ i_1 j_1 c_1 n_1, [v, u, w] = [.int i_1, .int j_1, .int c_1] ∧ RgC i_1 j_1 c_1 n_1 ∧ R (Itc i_1 c_1 n_1) H3) ⟨env, S, ρ, _, _, _, _, hEn, hS, e1, e2, fun v u H1 ρ1 x1 two r1 r2 => ?_⟩
                        refine ⟨env, _, ρ1, _, _, hEn.mono x1, two.st, e3, fun w H3 ρ3 x3 s3 r3 => ?_⟩
                        refine ⟨i, j, s, _, by rw [show v = .int i from r1, show u = .int j from r2, show w = .int s from r3], rangeC_ok hj.1.1 hj.1.2 hj.2.1 hj.2.2, hQ _ H3 ρ3 (x1.trans x3) s3 (fun _ _ => rel_rngC) fun hz => ?_⟩
                        have := Nat.le_of_ble_eq_true hz
                        have := limS
                        show ((j - i + s - 1) / s).toNat ≤ _; omega
                      · cases he
                    · cases he
                  · cases he
                · cases he
        · cases h
      · split at h
        · rename_i e; subst e
          split at h
          · rename_i a
            split at h
            · rename_i ht
              obtain ⟨es, j, p, rfl⟩ := isTup_inv ht
              obtain ⟨r, h1, rfl⟩ := one_inv h
              refine (pi_enum hG hF (pa_one hE C h1) (by rw [star_cons (cE_star h1)]; rfl)).bound.imp fun σ H R q => ?_
              obtain ⟨env, S, ρ, di, S', hEn, hS, he, hQ⟩ := q
              simp only [evi] at he
              cases e1 : ev (callT T k) r env S with
              | none => simp [e1] at he
              | some w1 =>
                obtain ⟨u1, S1⟩ := w1
                simp only [e1] at he
                obtain ⟨d, e2, e3⟩ := one_inv he
                cases e3
                refine ⟨env, S, ρ, u1, _, hEn, hS, e1, fun v H1 ρ1 x1 s1 r1 => ?_⟩
                obtain ⟨a, xs, rfl, g1, g2, g3⟩ := enum_of s1 r1 e2
                exact ⟨a, xs, rfl, g1, fun hb => hQ _ H1 ρ1 x1 s1 g2 (g3 hb)⟩
            · cases h
          · cases h
        · split at h
          · rename_i e; subst e
            split at h
            · rename_i a b
              split at h
              · rename_i ht
                obtain ⟨es, j, p, rfl⟩ := isTup_inv ht
                obtain ⟨x, y, h1, h2, rfl⟩ := two_inv h
                refine (RZ.pi_zipA hG hF (pa_cons (hE c X a x C h1) (pa_one hE C h2) (star_cons (cE_star h1) _ _)) (star_cons (cE_star h1) _ _) (star_none (es := [b]) (by simp [cE_star h2]))).bound.imp fun σ H R q => ?_
                obtain ⟨env, S, ρ, di, S', hEn, hS, he, hQ⟩ := q
                simp only [evi] at he
                cases e1 : ev (callT T k) x env S with
                | none => simp [e1] at he
                | some w1 =>
                  obtain ⟨u1, S1⟩ := w1
                  simp only [e1] at he
                  cases e2 : ev (callT T k) y env S1 with
                  | none => simp [e2] at he
                  | some w2 =>
                    obtain ⟨u2, S2⟩ := w2
                    simp only [e2] at he
                    obtain ⟨d, e3, e4⟩ := one_inv he
                    cases e4
                    refine t2_of ⟨env, S, ρ, _, _, _, _, hEn, hS, e1, e2, fun v u H1 ρ1 x1 two r1 r2 => ?_⟩
                    unfold zipR at e3
                    split at e3
                    · rename_i ht
                      split at e3
                      · rename_i d1 d2 f1 f2
                        cases e3
                        obtain ⟨a1, rfl, h1, g1⟩ := it_of two.st r1 f1 (.inr trivial)
                        obtain ⟨a2, rfl, h2, g2⟩ := it_of two.st r2 f2 (.inr trivial)
                        have bd : HB X.K H1 → (DI.zip d1 d2).small = true → (DI.zip d1 d2).len _ ≤ sizeLine := fun hb hz => by
                          have hz : (d1.small || d2.small) = true := hz
                          simp only [Bool.or_eq_true] at hz
                          show min (d1.len _) (d2.len _) ≤ _
                          rcases hz with hz | hz
                          · exact Nat.le_trans (Nat.min_le_left _ _) (g1 hb hz)
                          · exact Nat.le_trans (Nat.min_le_right _ _) (g2 hb hz)
                        rcases h1 with ⟨⟨xs, k1⟩, k2, k3⟩ | ⟨⟨xs, k1⟩, k2, k3⟩ <;> rcases h2 with ⟨⟨ys, l1⟩, l2, l3⟩ | ⟨⟨ys, l1⟩, l2, l3⟩
                        · exact ⟨a1, a2, xs, ys, rfl, .inl ⟨k1, l1, fun hb => hQ _ H1 ρ1 x1 two.st (fun Xs hX => rel_zipL (k3 Xs hX) (l3 Xs hX)) (bd hb)⟩⟩
                        · rw [k2, l2] at ht; cases ht
                        · rw [k2, l2] at ht; cases ht
                        · exact ⟨a1, a2, xs, ys, rfl, .inr ⟨k1, l1, fun hb => hQ _ H1 ρ1 x1 two.st (fun Xs hX => rel_zipT (k3 Xs) (l3 Xs)) (bd hb)⟩⟩
                      · cases e3
                    · cases e3
              · cases h
            · cases h
          · split at h
            · rename_i e; subst e
              split at h
              · rename_i a
                obtain ⟨r, h1, rfl⟩ := one_inv h
                refine (RT.pi_revA hG hF (hE c X a r C h1) (star_cons (cE_star h1) _ _)).bound.imp fun σ H R q => ?_
                obtain ⟨env, S, ρ, di, S', hEn, hS, he, hQ⟩ := q
                simp only [evi] at he
                cases e1 : ev (callT T k) r env S with
                | none => simp [e1] at he
                | some w1 =>
                  obtain ⟨u1, S1⟩ := w1
                  simp only [e1] at he
                  obtain ⟨d, e2, e3⟩ := one_inv he
                  cases e3
                  refine ⟨env, S, ρ, u1, _, hEn, hS, e1, fun v H1 ρ1 x1 s1 r1 => ?_⟩
                  cases u1 with
                  | s ds =>
                    cases e2
                    obtain ⟨a, vs, rfl, g1, g2, g3, g4⟩ := r1
                    refine ⟨a, vs, rfl, .inl ⟨.of g1, fun hb => hQ _ H1 ρ1 x1 s1 (fun Xs hX => rel_revF (fun H ρ e => .of (e.keep a _ g1 g3 fun z => hX a z g2)) g4) fun _ => ?_⟩⟩
                    show ds.length ≤ _
                    rw [← g4.length]; exact hb a vs (.inl (.of g1))
                  | v d =>
                    cases d with
                    | tup ds =>
                      cases e2
                      obtain ⟨a, vs, rfl, g1, g2⟩ := r1
                      refine ⟨a, vs, rfl, .inr ⟨g1, fun hb => hQ _ H1 ρ1 x1 s1 (fun Xs hX => rel_revT g1 g2) fun _ => ?_⟩⟩
                      show ds.length ≤ _
                      rw [← g2.length]; exact hb a vs (.inr g1)
                    | rol ds =>
                      cases e2
                      obtain ⟨a, vs, rfl, g1, g2⟩ := r1
                      refine ⟨a, vs, rfl, .inl ⟨g1.sq, fun hb => hQ _ H1 ρ1 x1 s1 (fun Xs hX => rel_revF (fun H ρ e => (e.sub.rol _ _ g1).sq) g2) fun _ => ?_⟩⟩
                      show ds.length ≤ _
                      rw [← g2.length]; exact hb a vs (.inl g1.sq)
                    | loc m =>
                      obtain ⟨a, rfl, ha⟩ := r1
                      obtain ⟨ds, f1, f2⟩ := one_inv (show (lstR _ (.v (.loc m))).map (fun ds => DI.revl m ds.length) = some _ from e2)
                      obtain ⟨b, vs, f3, f4, f5⟩ := s1.lst (lstR_loc f1)
                      rw [ha] at f3; cases f3
                      subst f2
                      refine ⟨a, vs, rfl, .inl ⟨.of f4, fun hb => ?_⟩⟩
                      rw [f5.length]
                      refine hQ _ H1 ρ1 x1 s1 (fun Xs hX => rel_revL ha) fun _ => ?_
                      show ds.length ≤ _
                      rw [← f5.length]; exact hb a vs (.inl (.of f4))
                    | _ => cases e2
              · cases h
            · exact cI_seq hE C h
    · exact cI_seq hE C h
  · exact cI_seq hE C h
end Pv

/-! Calls. -/
namespace Pv
open PySem PySem.Spec PyProof.Rows L2
variable {T : Nat → Option FunC} {k n : Nat} {c : Sc} {X : Cx} {pos : Pos}

/-- a def's call -/
theorem callT_inv {f : Nat} {ds : List D} {S S' : Store} {d : D} (h : callT T k f ds S = some (d, S')) : ∃ F, T f = some F ∧ ds.length = F.np := by
  cases k with
  | zero => cases h
  | succ k =>
    unfold callT at h
    cases e : T f with
    | none => simp [e] at h
    | some F =>
      simp only [e] at h
      split at h
      · rename_i hl; exact ⟨F, rfl, hl⟩
      · cases h
theorem e_fn {x : Str} {f : Nat} {p : Pos} {args : List Expr} {rs : List CE} (hE : SE T k n) (C : Ctx T k c X) (hG : isG c x = true) (hN : okName x = true) (hf : c.fi x = some f) (ha : mapO (cE n c) args = some rs) :
    PE X (.Call (.Name x p) args [] pos) (tR (callT T k) X.K (.call f rs)) := by
  obtain ⟨a, fd, ps, hm, hk, hb, F⟩ := C.fi x f hf
  have d := (okName_d hN).1
  have key : ∀ (t : TA), (∀ σ H Q, tAs (callT T k) X.K rs σ H Q → t σ H Q) → ∀ σ H Q, tR (callT T k) X.K (.call f rs) σ H Q → tCall (spC T k f X.K) [] E0 t σ H Q := fun t ht σ H Q q => by
    obtain ⟨env, S, ρ, r, S', hEn, hS, he, hQ⟩ := q
    simp only [ev] at he
    cases e1 : evs (callT T k) rs env S with
    | none => simp [e1] at he
    | some w1 =>
      obtain ⟨ds, S1⟩ := w1
      simp only [e1] at he
      cases e2 : callT T k f ds S1 with
      | none => simp [e2] at he
      | some w2 =>
        obtain ⟨d, S2⟩ := w2
        simp only [e2] at he
        cases he
        refine ht σ H _ ⟨env, S, ρ, ds, S1, hEn, hS, e1, fun vs H1 ρ1 x1 s1 r1 => ?_⟩
        obtain ⟨F, f1, f2⟩ := callT_inv e2
        rw [List.append_nil]
        exact ⟨F, ds, S1, ρ1, d, _, f1, by rw [r1.length, f2], s1, r1, e2, fun v H2 ρ2 x2 s2 r2 => hQ v H2 ρ2 (x1.trans x2) s2 r2⟩
  cases args with
  | nil =>
    have e := mapO_nil ha
    refine (pe_call0 (dvs := []) (ds := []) F C.room (C.isG hG) hm hk hb .nil pass0 d).imp (key tNil fun σ H Q q => ?_)
    obtain ⟨env, S, ρ, ds, S', hEn, hS, he, hQ⟩ := q
    subst e
    cases he
    exact hQ [] H ρ .refl hS .nil
  | cons e es =>
    have st := mapO_star ha
    refine (pe_call (dvs := []) (ds := []) F C.room (C.isG hG) hm hk hb .nil pass0 (pa_of hE C ha) d (star_cons (st e (by simp)) _ _) (star_none fun x hx => st x (by simp [hx]))).imp (key _ fun _ _ _ q => q)

theorem sqOf_boot {x : Str} {q : Sq} (h : sqOf x = some q) : okSq q = true ∧ bootBuiltins x = some (sqVal q) := by
  unfold sqOf at h
  repeat' split at h
  all_goals first | (rename_i e; subst e; cases h; exact ⟨rfl, by decide +kernel⟩) | cases h
theorem b1Of_boot {x : Str} {q : B1} (h : b1Of x = some q) : okB1 q = true ∧ bootBuiltins x = some (b1Val q) := by
  unfold b1Of at h
  repeat' split at h
  all_goals first | (rename_i e; subst e; cases h; exact ⟨rfl, by decide +kernel⟩) | cases h
theorem b2Of_boot {x : Str} {q : B2} (h : b2Of x = some q) : bootBuiltins x = some (b2Val q) := by
  unfold b2Of at h
  repeat' split at h
  all_goals first | (rename_i e; subst e; cases h; decide +kernel) | cases h
theorem tyOf_boot {x : Str} {q : B1} (h : tyOf x = some q) : okTy q = true ∧ bootBuiltins x = some (.type (tyName q)) := by
  unfold tyOf at h
  repeat' split at h
  all_goals first | (rename_i e; subst e; cases h; exact ⟨rfl, by decide +kernel⟩) | cases h
/-- a built-in called by its name -/
theorem pe_any {x : Str} {p : Pos} {v : Value} {r : List L2.V → Hp → VK → Prop} {t : TA} {e : Expr} {es : List Expr} (hv : bootBuiltins x = some v) (hk : (∃ id, v = .builtin id) ∨ ∃ t, v = .type t) (hc : CallR X v r) (hg : Gl X x) (hm : X.mg x = none) (ha : PA X (e :: es) t)
    (hn : x ≠ "__name__") (hd : (x == ("__debug__" : Str)) = false) (st : ∀ y ∈ e :: es, isStar y = false) : PE X (.Call (.Name x p) (e :: es) [] pos) (tCB r t) := by
  rcases hk with ⟨id, rfl⟩ | ⟨t, rfl⟩
  · exact pe_callB hc hg hm hv ha hn hd (star_cons (st e (by simp)) _ _) (star_none fun x hx => st x (by simp [hx]))
  · exact pe_callTy hc hg hm hv ha hn hd (star_cons (st e (by simp)) _ _) (star_none fun x hx => st x (by simp [hx]))
theorem e_sq {x : Str} {q : Sq} {p : Pos} {a : Expr} {r : CE} (hE : SE T k n) (C : Ctx T k c X) (hG : isG c x = true) (hN : okName x = true) (hF : c.bi x = true) (hq : sqOf x = some q) (ha : cE n c a = some r) :
    PE X (.Call (.Name x p) [a] [] pos) (tR (callT T k) X.K (.sq q r)) := by
  obtain ⟨h1, h2⟩ := sqOf_boot hq
  obtain ⟨d1, _, d2⟩ := okName_d hN
  refine (pe_any h2 (by cases q <;> first | exact .inl ⟨_, rfl⟩ | exact .inr ⟨_, rfl⟩) (cr_sq q h1 C.calm) (C.isG hG) (C.bi x hF) (pa_one hE C ha) d2 d1 (by simp [cE_star ha])).imp fun σ H Q q' => ?_
  obtain ⟨env, S, ρ, r', S', hEn, hS, he, hQ⟩ := q'
  simp only [ev] at he
  cases e1 : ev (callT T k) r env S with
  | none => simp [e1] at he
  | some w1 =>
    obtain ⟨u1, S1⟩ := w1
    simp only [e1] at he
    cases e2 : argQ S1 q u1 with
    | none => simp [e2] at he
    | some ds =>
      simp only [e2] at he
      obtain ⟨w, e3, e4⟩ := one_inv he
      cases e4
      exact ⟨env, S, ρ, u1, _, hEn, hS, e1, fun v H1 ρ1 x1 s1 r1 => ⟨ρ1, _, H, u1, v, ds, _, rfl, s1, r1, e2, e3, fun v2 H2 x2 s2 r2 => hQ v2 H2 ρ1 (x1.trans x2) s2 (r2.back x1)⟩⟩
theorem e_b1 {x : Str} {q : B1} {p : Pos} {a : Expr} {r : CE} (hE : SE T k n) (C : Ctx T k c X) (hG : isG c x = true) (hN : okName x = true) (hF : c.bi x = true) (hq : b1Of x = some q) (ha : cE n c a = some r) :
    PE X (.Call (.Name x p) [a] [] pos) (tR (callT T k) X.K (.b1 q r)) := by
  obtain ⟨h1, h2⟩ := b1Of_boot hq
  obtain ⟨d1, _, d2⟩ := okName_d hN
  refine (pe_any h2 (by cases q <;> first | exact .inl ⟨_, rfl⟩ | exact .inr ⟨_, rfl⟩ | cases h1) (cr_b1 q h1) (C.isG hG) (C.bi x hF) (pa_one hE C ha) d2 d1 (by simp [cE_star ha])).imp fun σ H Q q' => ?_
  obtain ⟨env, S, ρ, r', S', hEn, hS, he, hQ⟩ := q'
  simp only [ev] at he
  cases e1 : ev (callT T k) r env S with
  | none => simp [e1] at he
  | some w1 =>
    obtain ⟨u1, S1⟩ := w1
    simp only [e1] at he
    obtain ⟨w, e3, e4⟩ := one_inv he
    cases e4
    exact ⟨env, S, ρ, u1, _, hEn, hS, e1, fun v H1 ρ1 x1 s1 r1 => ⟨ρ1, _, H, u1, v, w, rfl, s1, r1, e3, fun v2 r2 => hQ v2 H1 ρ1 x1 s1 r2⟩⟩
theorem e_b2 {x : Str} {q : B2} {p : Pos} {a b : Expr} {r s : CE} (hE : SE T k n) (C : Ctx T k c X) (hG : isG c x = true) (hN : okName x = true) (hF : c.bi x = true) (hq : b2Of x = some q) (ha : cE n c a = some r) (hb : cE n c b = some s) :
    PE X (.Call (.Name x p) [a, b] [] pos) (tR (callT T k) X.K (.b2 q r s)) := by
  have h2 := b2Of_boot hq
  obtain ⟨d1, _, d2⟩ := okName_d hN
  refine (pe_any h2 (by cases q <;> first | exact .inl ⟨_, rfl⟩ | exact .inr ⟨_, rfl⟩) (cr_b2 q C.calm) (C.isG hG) (C.bi x hF) (pa_cons (hE c X a r C ha) (pa_one hE C hb) (star_cons (cE_star ha) _ _)) d2 d1 (by simp [cE_star ha, cE_star hb])).imp fun σ H Q q' => ?_
  obtain ⟨env, S, ρ, r', S', hEn, hS, he, hQ⟩ := q'
  simp only [ev] at he
  obtain ⟨u, S1, v, e1, e2, e3⟩ := ev_two (g := fun S x y => (b2R q x y).map fun d => .v d) (by simp only [Option.map_map, Function.comp_def]; exact he)
  obtain ⟨b', e4, e5⟩ := one_inv e3
  cases e5
  exact t2_of ⟨env, S, ρ, u, S1, v, S', hEn, hS, e1, e2, fun w z H' ρ' ex two _ _ => ⟨ρ', S', u, v, w, z, b', rfl, two, e4, fun v2 r2 => hQ v2 H' ρ' ex two.st r2⟩⟩
theorem star2 {a b : Expr} (h1 : isStar a = false) (h2 : isStar b = false) : ∀ y ∈ [a, b], isStar y = false := by
  intro y hy
  rcases List.mem_cons.mp hy with rfl | hy
  · exact h1
  · rcases List.mem_cons.mp hy with rfl | hy
    · exact h2
    · cases hy
theorem e_isi {t : Str} {q : B1} {p p2 : Pos} {a : Expr} {r : CE} (hE : SE T k n) (C : Ctx T k c X) (hG : isG c "isinstance" = true) (hF : c.bi "isinstance" = true) (hG2 : isG c t = true) (hN2 : okName t = true) (hF2 : c.bi t = true) (hq : tyOf t = some q) (ha : cE n c a = some r) :
    PE X (.Call (.Name "isinstance" p) [a, .Name t p2] [] pos) (tR (callT T k) X.K (.b1 q r)) := by
  obtain ⟨h1, h2⟩ := tyOf_boot hq
  obtain ⟨d1, _, d2⟩ := okName_d hN2
  refine (pe_any (v := .builtin "isinstance") (by decide +kernel) (.inl ⟨_, rfl⟩) (cr_ty q h1) (C.isG hG) (C.bi _ hF) (pa_cons (hE c X a r C ha) (pa_cons (pe_bltn (v := .ty (tyName q)) (C.isG hG2) (C.bi _ hF2) h2 rfl d2 d1) pa_nil) (star_cons (cE_star ha) _ _)) (by decide) (by decide) (star2 (cE_star ha) rfl)).imp fun σ H Q q' => ?_
  obtain ⟨env, S, ρ, r', S', hEn, hS, he, hQ⟩ := q'
  simp only [ev] at he
  cases e1 : ev (callT T k) r env S with
  | none => simp [e1] at he
  | some w1 =>
    obtain ⟨u1, S1⟩ := w1
    simp only [e1] at he
    obtain ⟨w, e3, e4⟩ := one_inv he
    cases e4
    exact ⟨env, S, ρ, u1, _, hEn, hS, e1, fun v H1 ρ1 x1 s1 r1 => ⟨ρ1, _, H, u1, v, w, rfl, s1, r1, e3, fun v2 r2 => hQ v2 H1 ρ1 x1 s1 r2⟩⟩

/-! ### methods -/
def rM0 (K : PySem.W.Frag) (m : Mt) : L2.V → List L2.V → Hp → VK → Prop := fun x vs H Q => vs = [] ∧ ∃ ρ S j d S', RepS K H ρ S ∧ RepV K H ρ (.loc j) x ∧ mt0R S j m = some (d, S') ∧
  ∀ v H' ρ', Ext K H ρ H' ρ' → RepS K H' ρ' S' → RepV K H' ρ' d v → Q v H'
theorem mt0_pop : MtR X "list.pop" (rM0 X.K .pop) := by
  intro pins s σ H x vs v us Q I rx rv h
  obtain ⟨rfl, ρ, S, j, d, S', st, ⟨a, rfl, ha⟩, e, hQ⟩ := h
  unfold mt0R at e
  simp only at e
  split at e
  · rename_i xs hx
    split at e
    · rename_i d' hd
      cases e
      obtain ⟨b, ws, h1, h2, h3⟩ := st.lst hx
      rw [ha] at h1; cases h1
      obtain ⟨w, h4, h5⟩ := h3.get hd
      have ex : Ext X.K H ρ (upd H a (.lst ws.dropLast)) ρ := .write (List.mem_of_getElem? ha) h2
      exact mt_pop pins s σ H _ _ v us Q I rx rv ⟨a, ws, w, rfl, rfl, h2, by rw [h3.length]; exact h4, hQ w _ ρ ex (st.write hx ha h2 h3.dropLast) (h5.mono ex)⟩
    · cases e
  · cases e
def mtId : Mt → String
  | .append => "list.append" | .extend => "list.extend" | _ => "list.pop"
def rM1 (K : PySem.W.Frag) (m : Mt) : L2.V → List L2.V → Hp → VK → Prop := fun x vs H Q => ∃ Hb ρb ρ S j r y d S', vs = [y] ∧ Ext K Hb ρb H ρ ∧ RepS K H ρ S ∧ RepV K H ρ (.loc j) x ∧ RepR K H ρ Hb r y ∧ mt1R S j m r = some (d, S') ∧
  ∀ v H' ρ', Ext K Hb ρb H' ρ' → RepS K H' ρ' S' → RepV K H' ρ' d v → Q v H'
theorem mt1_append : MtR X "list.append" (rM1 X.K .append) := by
  intro pins s σ H x vs v us Q I rx rv h
  obtain ⟨Hb, ρb, ρ, S, j, r, y, d, S', rfl, xb, st, ⟨a, rfl, ha⟩, rr, e, hQ⟩ := h
  -- the pushed value
  have main : ∀ (ρ1 : List Addr) (S1 : Store) (d1 : D), Ext X.K Hb ρb H ρ1 → RepS X.K H ρ1 S1 → ρ1[j]? = some a → RepV X.K H ρ1 d1 y →
      (match S1[j]? with | some (.lst xs) => if Nat.blt xs.length lim then some (D.non, S1.set j (.lst (xs ++ [d1]))) else none | _ => none) = some (d, S') → wpAny (model X.prog X.w) X.A (call (.builtin "list.append") (v :: us)) (EP X pins σ Q) X.xe s := fun ρ1 S1 d1 xb1 st1 ha1 r1 e1 => by
    split at e1
    · rename_i xs hx
      split at e1
      · rename_i hz
        cases e1
        obtain ⟨b, ws, h1, h2, h3⟩ := st1.lst hx
        rw [ha1] at h1; cases h1
        have ex : Ext X.K H ρ1 (upd H a (.lst (ws ++ [y]))) ρ1 := .write (List.mem_of_getElem? ha1) h2
        have hz := Nat.le_of_ble_eq_true hz
        have := limS
        exact mt_append pins s σ H _ _ v us Q I rx rv ⟨a, ws, y, rfl, rfl, h2, by rw [h3.length]; omega, hQ .non _ ρ1 (xb1.trans ex) (st1.write hx ha1 h2 (h3.append (.cons r1 .nil))) rfl⟩
      · cases e1
    · cases e1
  cases r with
  | v d1 => exact main ρ S d1 xb st ha rr e
  | s ds =>
    obtain ⟨b, ws, rfl, h1, h2, h3, h4⟩ := rr
    refine main (ρ ++ [b]) (S ++ [O.lst ds]) (.loc S.length) (xb.push h2) (st.push h1 h3 h4) ?_ ⟨b, rfl, ?_⟩ e
    · rw [List.getElem?_append_left (List.getElem?_eq_some_iff.mp ha).1]; exact ha
    · rw [← st.len, List.getElem?_append_right (Nat.le_refl _)]; simp
theorem mt1_extend : MtR X "list.extend" (rM1 X.K .extend) := by
  intro pins s σ H x vs v us Q I rx rv h
  obtain ⟨Hb, ρb, ρ, S, j, r, y, d, S', rfl, xb, st, ⟨a, rfl, ha⟩, rr, e, hQ⟩ := h
  have e : (match S[j]?, lstW S r with | some (.lst xs), some ys => if Nat.ble (xs.length + ys.length) lim then some (D.non, S.set j (.lst (xs ++ ys))) else none | _, _ => none) = some (d, S') := e
  split at e
  · rename_i xs ys hx hy
    split at e
    · rename_i hz
      cases e
      obtain ⟨b, ws, h1, h2, h3⟩ := st.lst hx
      rw [ha] at h1; cases h1
      obtain ⟨b2, zs, rfl, h4, h5⟩ := lst_inv st rr hy
      have ex : Ext X.K H ρ (upd H a (.lst (ws ++ zs))) ρ := .write (List.mem_of_getElem? ha) h2
      have hz := Nat.le_of_ble_eq_true hz
      have := limS
      exact mt_extend pins s σ H _ _ v us Q I rx rv ⟨a, b2, ws, zs, rfl, rfl, h2, h4, by rw [h3.length, h5.length]; omega, hQ .non _ ρ (xb.trans ex) (st.write hx ha h2 (h3.append h5)) rfl⟩
    · cases e
  · cases e
theorem mt1_popAt : MtR X "list.pop" (rM1 X.K .popAt) := by
  intro pins s σ H x vs v us Q I rx rv h
  obtain ⟨Hb, ρb, ρ, S, j, r, y, d, S', rfl, xb, st, ⟨a, rfl, ha⟩, rr, e, hQ⟩ := h
  cases r with
  | s ds => cases e
  | v z =>
    cases z with
    | int i =>
      have e : (match S[j]? with
        | some (.lst xs) => (match ixN xs.length i with | some k => (match xs[k]? with | some d => some (d, S.set j (.lst (xs.eraseIdx k))) | none => none) | none => none)
        | _ => none) = some (d, S') := e
      split at e
      · rename_i xs hx
        split at e
        · rename_i q hq
          split at e
          · rename_i d' hd
            cases e
            obtain ⟨b, ws, h1, h2, h3⟩ := st.lst hx
            rw [ha] at h1; cases h1
            obtain ⟨w, h4, h5⟩ := h3.get hd
            have ex : Ext X.K H ρ (upd H a (.lst (ws.eraseIdx q))) ρ := .write (List.mem_of_getElem? ha) h2
            obtain ⟨g1, g2, g3, g4⟩ := L2.ixN_seq (n := xs.length) (i := i) (j := q) hq
            have hb : xs.length ≤ sizeLine := by rw [← h3.length]; exact HB.of I a ws (.inl (.of h2))
            rw [sizeLine_eq] at hb
            have e63 : (2 : Int) ^ 63 = 9223372036854775808 := by decide
            exact mt_popAt pins s σ H _ _ v us Q I rx rv ⟨a, ws, i, q, w, rfl, by rw [show y = .int i from rr], h2, by rw [e63]; omega, by rw [e63]; omega, by rw [h3.length]; exact g1, h4, hQ w _ ρ (xb.trans ex) (st.write hx ha h2 (h3.eraseIdx q)) (h5.mono ex)⟩
          · cases e
        · cases e
      · cases e
    | _ => cases e
theorem base_of {o : Expr} (h : notCall o = true) (m : Str) (env : PySem.Env) (w : Sem Value) : attributeBase o m env w = w := by
  cases o <;> first | rfl | cases h
theorem mtOf_inv {m : Str} {q : Mt} (h : mtOf m = some q) : (m = "append" ∧ q = .append) ∨ (m = "extend" ∧ q = .extend) := by
  unfold mtOf at h
  repeat' split at h
  all_goals first | (rename_i e; subst e; cases h; first | exact .inl ⟨rfl, rfl⟩ | exact .inr ⟨rfl, rfl⟩) | cases h
theorem list_ty {K : PySem.W.Frag} {H : Hp} {ρ : List Addr} {S : Store} {j : Nat} {x : L2.V} (st : RepS K H ρ S) (h : RepV K H ρ (.loc j) x) {o : O} (hj : S[j]? = some o) : tyV K "list" x H := by
  obtain ⟨a, rfl, ha⟩ := h
  cases o with
  | lst ds =>
    obtain ⟨b, ws, h1, h2, h3⟩ := st.lst hj
    rw [ha] at h1; cases h1
    exact .inl ⟨rfl, ws, .of h2⟩
/-- the reading of a method's call -/
theorem m1_read {m : Mt} {o a : CE} (σ : L2.St) (H : Hp) (Q : VK) (q : tR (callT T k) X.K (.mt1 m o a) σ H Q) :
    tBM X.K "list" (rM1 X.K m) (tP (callT T k) X.K o) (tA1 (callT T k) X.K a) σ H Q := by
  obtain ⟨env, S, ρ, r', S', hEn, hS, he, hQ⟩ := q
  simp only [ev] at he
  split at he
  · rename_i j S1 e1
    cases e2 : ev (callT T k) a env S1 with
    | none => simp [e2] at he
    | some w2 =>
      obtain ⟨r, S2⟩ := w2
      simp only [e2] at he
      obtain ⟨z, e3, e4⟩ := one_inv he
      cases e4
      refine ⟨env, S, ρ, .loc j, S1, hEn, hS, e1, fun x H1 ρ1 x1 s1 r1 => ⟨?_, env, S1, ρ1, r, S2, hEn.mono x1, s1, e2, fun y H2 ρ2 x2 s2 r2 => ?_⟩⟩
      · have hj : j < S1.length := by
          obtain ⟨b, rfl, hb⟩ := r1
          rw [← s1.len]; exact (List.getElem?_eq_some_iff.mp hb).1
        exact list_ty s1 r1 (List.getElem?_eq_getElem hj)
      · exact ⟨H, ρ, ρ2, S2, j, r, y, z.1, z.2, rfl, x1.trans x2, s2, RepV.mono x2 r1, r2.back x1, e3, fun v H' ρ' x3 s3 r3 => hQ v H' ρ' x3 s3 r3⟩
  · cases he
theorem m0_read {m : Mt} {o : CE} (σ : L2.St) (H : Hp) (Q : VK) (q : tR (callT T k) X.K (.mt0 m o) σ H Q) : tBM0 X.K "list" (rM0 X.K m) (tP (callT T k) X.K o) σ H Q := by
  obtain ⟨env, S, ρ, r', S', hEn, hS, he, hQ⟩ := q
  simp only [ev] at he
  split at he
  · rename_i j S1 e1
    obtain ⟨z, e3, e4⟩ := one_inv he
    cases e4
    refine ⟨env, S, ρ, .loc j, S1, hEn, hS, e1, fun x H1 ρ1 x1 s1 r1 => ⟨?_, rfl, ρ1, S1, j, z.1, z.2, s1, r1, e3, fun v H' ρ' x3 s3 r3 => hQ v H' ρ' (x1.trans x3) s3 r3⟩⟩
    have hj : j < S1.length := by
      obtain ⟨b, rfl, hb⟩ := r1
      rw [← s1.len]; exact (List.getElem?_eq_some_iff.mp hb).1
    exact list_ty s1 r1 (List.getElem?_eq_getElem hj)
  · cases he
theorem few_ok {cpos : Pos} {a : Expr} {env : PySem.Env} (h : isStar a = false) : ((backTo cpos (starEach [a] env)).all (fun x => !x.1) && (backToKw cpos (keywordEach [] env)).all (fun x => x.1.isSome)
      && decide (([a] : List Expr).length + ([] : List Keyword).length + (if ([] : List Keyword).isEmpty then 0 else 1) < 30)) = true := by
  rw [star_cons h]; rfl
theorem e_m1 {q : Mt} {m : Str} {o a : Expr} {ro ra : CE} {apos : Pos} (hE : SE T k n) (C : Ctx T k c X) (hl : (apos.endLine == pos.line) = true) (hc : notCall o = true) (ho : cE n c o = some ro) (ha : cE n c a = some ra) (hq : (m = "append" ∧ q = .append) ∨ (m = "extend" ∧ q = .extend) ∨ (m = "pop" ∧ q = .popAt)) :
    PE X (.Call (.Attribute o m apos) [a] [] pos) (tR (callT T k) X.K (.mt1 q ro ra)) := by
  have hb := base_of hc m X.env (eval o X.env)
  have sa := cE_star ha
  rcases hq with ⟨rfl, rfl⟩ | ⟨rfl, rfl⟩ | ⟨rfl, rfl⟩
  · exact (pe_bm PySem.F.plainAttrs_list PySem.F.slot_list_append PySem.F.type_list_append mt1_append (pe_push (hE c X o ro C ho)) (pa_one hE C ha) hb (few_ok sa) hl (star_cons sa _ _) rfl).imp m1_read
  · exact (pe_bm PySem.F.plainAttrs_list PySem.F.slot_list_extend PySem.F.type_list_extend mt1_extend (pe_push (hE c X o ro C ho)) (pa_one hE C ha) hb (few_ok sa) hl (star_cons sa _ _) rfl).imp m1_read
  · exact (pe_bm PySem.F.plainAttrs_list PySem.F.slot_list_pop PySem.F.type_list_pop mt1_popAt (pe_push (hE c X o ro C ho)) (pa_one hE C ha) hb (few_ok sa) hl (star_cons sa _ _) rfl).imp m1_read
theorem e_m0 {o : Expr} {ro : CE} {apos : Pos} (hE : SE T k n) (C : Ctx T k c X) (hl : (apos.endLine == pos.line) = true) (hc : notCall o = true) (ho : cE n c o = some ro) :
    PE X (.Call (.Attribute o "pop" apos) [] [] pos) (tR (callT T k) X.K (.mt0 .pop ro)) :=
  (pe_bm0 PySem.F.plainAttrs_list PySem.F.slot_list_pop PySem.F.type_list_pop mt0_pop (pe_push (hE c X o ro C ho)) (base_of hc _ _ _) hl).imp fun σ H Q q => m0_read σ H Q q

theorem trev_read {r : CE} (σ : L2.St) (H : Hp) (Q : VK) (q : tR (callT T k) X.K (.sq .trev r) σ H Q) : RT.tTupRev X.K (tR (callT T k) X.K r) σ H Q ∨ RvT.tTupRevT X.K (tR (callT T k) X.K r) σ H Q := by
  obtain ⟨env, S, ρ, r', S', hEn, hS, he, hQ⟩ := q
  simp only [ev] at he
  cases e1 : ev (callT T k) r env S with
  | none => simp [e1] at he
  | some w1 =>
    obtain ⟨u1, S1⟩ := w1
    simp only [e1] at he
    cases e2 : argQ S1 .trev u1 with
    | none => simp [e2] at he
    | some ds =>
      simp only [e2] at he
      obtain ⟨w, e3, e4⟩ := one_inv he
      cases e4
      cases e3
      have fin : ∀ {a : Addr} {vs : List L2.V} {H1 : Hp} {ρ1 : List Addr}, Ext X.K H ρ H1 ρ1 → RepS X.K H1 ρ1 S' → RepL X.K H1 ρ1 ds vs → ∀ q, H1 q = none → Q (.ref q) (upd H1 q (.tup vs.reverse)) := fun {a vs H1 ρ1} x1 s1 rl q hq =>
        hQ _ _ ρ1 (x1.trans (.new hq)) (s1.new hq) ⟨q, _, rfl, .of upd_same, (rl.mono (.new hq)).reverse⟩
      by_cases ht : ∃ xs, u1 = .v (.tup xs)
      · obtain ⟨xs, rfl⟩ := ht
        cases e2
        refine .inr ⟨env, S, ρ, _, _, hEn, hS, e1, fun v H1 ρ1 x1 s1 r1 => ?_⟩
        obtain ⟨a, vs, rfl, h1, h2⟩ := r1
        exact ⟨a, vs, rfl, h1, fin (a := a) x1 s1 h2⟩
      · have e2 : lstR S' u1 = some ds := by
          have e2 : seqR S' u1 = some ds := e2
          cases u1 with
          | s xs => exact e2
          | v d =>
            cases d with
            | tup xs => exact absurd ⟨xs, rfl⟩ ht
            | _ => exact e2
        refine .inl ⟨env, S, ρ, _, _, hEn, hS, e1, fun v H1 ρ1 x1 s1 r1 => ?_⟩
        obtain ⟨a, vs, rfl, h1, h2⟩ := r1.lst s1 e2
        exact ⟨a, vs, rfl, h1, fin (a := a) x1 s1 h2⟩
theorem e_trev {p p2 pos2 : Pos} {a : Expr} {r : CE} (hE : SE T k n) (C : Ctx T k c X) (hG : isG c ("tuple" : Str) = true) (hF : c.bi ("tuple" : Str) = true) (hG2 : isG c ("reversed" : Str) = true) (hF2 : c.bi ("reversed" : Str) = true) (ha : cE n c a = some r) :
    PE X (.Call (.Name "tuple" p) [.Call (.Name "reversed" p2) [a] [] pos2] [] pos) (tR (callT T k) X.K (.sq .trev r)) :=
  ((RT.pe_tupRev C.calm (C.isG hG) (C.bi _ hF) (C.isG hG2) (C.bi _ hF2) (hE c X a r C ha) (star_cons (cE_star ha) _ _)).or (RvT.pe_tupRevT C.calm (C.isG hG) (C.bi _ hF) (C.isG hG2) (C.bi _ hF2) (hE c X a r C ha) (star_cons (cE_star ha) _ _))).imp trev_read
theorem e_call {e : Expr} {r : CE} (hE : SE T k n) (C : Ctx T k c X) (h : cC (cE n) c e = some r) : PE X e (tR (callT T k) X.K r) := by
  unfold cC at h
  split at h
  · rename_i x px args pos
    split at h
    · rename_i hx
      simp only [Bool.and_eq_true] at hx
      split at h
      · rename_i f hf
        obtain ⟨rs, h1, rfl⟩ := one_inv h
        exact e_fn hE C hx.1 hx.2 hf h1
      · split at h
        · rename_i hF
          split at h
          · rename_i a
            split at h
            · rename_i b hb
              obtain ⟨r, h1, rfl⟩ := one_inv h
              obtain ⟨rfl, p2, pos2, rfl, g1, g2⟩ := trevOf_inv hb
              exact e_trev hE C hx.1 hF g1 g2 h1
            · split at h
              · rename_i q hq
                obtain ⟨r, h1, rfl⟩ := one_inv h
                exact e_sq hE C hx.1 hx.2 hF hq h1
              · split at h
                · rename_i q hq
                  obtain ⟨r, h1, rfl⟩ := one_inv h
                  exact e_b1 hE C hx.1 hx.2 hF hq h1
                · cases h
          · rename_i a b
            split at h
            · rename_i ei
              subst ei
              split at h
              · rename_i t pt
                split at h
                · rename_i ht
                  simp only [Bool.and_eq_true] at ht
                  split at h
                  · rename_i q hq
                    obtain ⟨r, h1, rfl⟩ := one_inv h
                    exact e_isi hE C hx.1 hF ht.1 ht.2.2 ht.2.1 hq h1
                  · cases h
                · cases h
              · cases h
            · split at h
              · rename_i q hq
                obtain ⟨r, s, h1, h2, rfl⟩ := two_inv h
                exact e_b2 hE C hx.1 hx.2 hF hq h1 h2
              · cases h
          · cases h
        · cases h
    · cases h
  · rename_i o m apos args pos
    split at h
    · rename_i hl
      simp only [Bool.and_eq_true] at hl
      split at h
      · rename_i q a hq
        obtain ⟨x, y, h1, h2, rfl⟩ := two_inv h
        exact e_m1 hE C hl.1 hl.2 h1 h2 (by rcases mtOf_inv hq with z | z; exact .inl z; exact .inr (.inl z))
      · split at h
        · rename_i em; subst em
          obtain ⟨r, h1, rfl⟩ := one_inv h
          exact e_m0 hE C hl.1 hl.2 h1
        · cases h
      · split at h
        · rename_i em; subst em
          obtain ⟨x, y, h1, h2, rfl⟩ := two_inv h
          exact e_m1 hE C hl.1 hl.2 h1 h2 (.inr (.inr ⟨rfl, rfl⟩))
        · cases h
      · cases h
    · cases h
  · cases h
end Pv

/-! Tests and comprehensions. -/
namespace Pv
open PySem PySem.Spec PyProof.Rows L2
variable {T : Nat → Option FunC} {k n : Nat} {c : Sc} {X : Cx} {pos : Pos}

/-! ### tests -/
theorem tst_of {cl : Nat → List D → Store → Option (D × Store)} {r : CE} {env : Env} {S S' : Store} {b : Bool} (h : tst cl r env S = some (b, S')) : ∃ x, ev cl r env S = some (x, S') ∧ truR S' x = some b := by
  unfold tst at h
  cases e1 : ev cl r env S with
  | none => simp [e1] at h
  | some z =>
    obtain ⟨x, S1⟩ := z
    simp only [e1] at h
    obtain ⟨d, h1, h2⟩ := one_inv h
    cases h2
    exact ⟨x, rfl, h1⟩
theorem tst_to {cl : Nat → List D → Store → Option (D × Store)} {r : CE} {env : Env} {S S' : Store} {b : Bool} {x : R} (h1 : ev cl r env S = some (x, S')) (h2 : truR S' x = some b) : tst cl r env S = some (b, S') := by
  unfold tst
  simp [h1, h2]
/-- by the value's truth -/
theorem pt_plain {e : Expr} {r : CE} (p : PE X e (tR (callT T k) X.K r)) (he : ∀ whole, isTrue e X.env whole = (do let v ← whole; standAt e.pos; holding [v] (truthy v))) : PT X e (tTs (callT T k) X.K r) :=
  (pt_truth p he).imp fun σ H Q q => by
    obtain ⟨env, S, ρ, b, S', hEn, hS, he, hQ⟩ := q
    obtain ⟨x, h1, h2⟩ := tst_of he
    exact ⟨env, S, ρ, x, S', hEn, hS, h1, fun v H1 ρ1 x1 s1 r1 => ⟨b, tru_of s1 r1 h2, hQ H1 ρ1 x1 s1⟩⟩
/-- a test whose value is a bool -/
theorem tTest_of {e : Expr} {r : CE} {t : TE} (h : PT X e (tTest t)) (hb : ∀ σ H Q, tTs (callT T k) X.K r σ H Q → tTest t σ H Q) : PT X e (tTs (callT T k) X.K r) := h.imp hb
theorem t_cmp {a b : Expr} {op : CmpOp} {r : CE} (hE : SE T k n) (C : Ctx T k c X) (h : cE (n + 1) c (.Compare a [op] [b] pos) = some r) : PT X (.Compare a [op] [b] pos) (tTs (callT T k) X.K r) := by
  simp only [cE] at h
  obtain ⟨x, y, h1, h2, rfl⟩ := two_inv h
  refine (pt_cmpR (op_cmp op C.hu) (hE c X a x C h1) (hE c X b y C h2) (cE_mark op h2)).imp fun σ H Q q => t2_of ?_
  obtain ⟨env, S, ρ, t, S', hEn, hS, he, hQ⟩ := q
  obtain ⟨w, he, ht⟩ := tst_of he
  simp only [ev] at he
  obtain ⟨u, S1, v, e1, e2, e3⟩ := ev_two (g := fun S x y => (cmpR S op x y).map fun r => .v (.bl r)) (by simp only [Option.map_map, Function.comp_def]; exact he)
  obtain ⟨b', e4, e5⟩ := one_inv e3
  subst e5
  cases ht
  exact ⟨env, S, ρ, u, S1, v, S', hEn, hS, e1, e2, fun w z H' ρ' ex two _ _ => ⟨ρ', S', u, v, _, two, e4, _, rfl, hQ H' ρ' ex two.st⟩⟩
theorem t_cmp2 {a b d : Expr} {op op' : CmpOp} {r : CE} (hE : SE T k n) (C : Ctx T k c X) (h : cE (n + 1) c (.Compare a [op, op'] [b, d] pos) = some r) : PT X (.Compare a [op, op'] [b, d] pos) (tTs (callT T k) X.K r) := by
  simp only [cE] at h
  cases h1 : cE n c a with
  | none => simp [h1] at h
  | some x =>
    cases h2 : cE n c b with
    | none => simp [h1, h2] at h
    | some y =>
      cases h3 : cE n c d with
      | none => simp [h1, h2, h3] at h
      | some z =>
        simp only [h1, h2, h3, Option.some.injEq] at h
        subst h
        refine (pt_chain (op_cmp op C.hu) (op_cmp op' C.hu) (hE c X a x C h1) (hE c X b y C h2) (hE c X d z C h3) (show behindInMarks op' d = false from cE_mark op' h3)).imp fun σ H Q q => ?_
        obtain ⟨env, S, ρ, t, S', hEn, hS, he, hQ⟩ := q
        obtain ⟨w, he, ht⟩ := tst_of he
        simp only [ev] at he
        cases e1 : ev (callT T k) x env S with
        | none => simp [e1] at he
        | some w1 =>
          obtain ⟨u1, S1⟩ := w1
          simp only [e1] at he
          cases e2 : ev (callT T k) y env S1 with
          | none => simp [e2] at he
          | some w2 =>
            obtain ⟨u2, S2⟩ := w2
            simp only [e2] at he
            refine t2_of (R := fun x y H2 => rCmp X.K op x y H2 fun z H3 => ∃ k_1, z = .bl k_1 ∧ (if k_1 = true then tR (callT T k) X.K _ σ H3 fun w' H4 => rCmp X.K op' y w' H4 fun x H' => ∃ k, x = .bl k ∧ Q k H' else ∃ k, V.bl false = .bl k ∧ Q k H3)) ⟨env, S, ρ, u1, S1, u2, S2, hEn, hS, e1, e2, fun v1 v2 H1 ρ1 x1 two r1 r2 => ?_⟩
            cases e3 : cmpR S2 op u1 u2 with
            | none => simp [e3] at he
            | some b1 =>
              refine ⟨ρ1, S2, u1, u2, b1, two, e3, b1, rfl, ?_⟩
              cases b1 with
              | false =>
                simp only [e3] at he
                cases he
                rw [if_neg Bool.false_ne_true]
                cases ht
                exact ⟨_, rfl, hQ H1 ρ1 x1 two.st⟩
              | true =>
                simp only [e3] at he
                rw [if_pos rfl]
                cases e4 : ev (callT T k) z env S2 with
                | none => simp [e4] at he
                | some w3 =>
                  obtain ⟨u3, S3⟩ := w3
                  simp only [e4] at he
                  obtain ⟨b2, e5, e6⟩ := one_inv he
                  cases e6
                  cases ht
                  refine ⟨env, S2, ρ1, u3, _, hEn.mono x1, two.st, e4, fun v3 H3 ρ3 x3 s3 r3 => ?_⟩
                  exact ⟨ρ3, _, u2, u3, _, ⟨s3, ⟨H, r2.mono x3⟩, ⟨H1, r3⟩⟩, e5, _, rfl, hQ H3 ρ3 (x1.trans x3) s3⟩
theorem t_not {a : Expr} {r : CE} (hT : ST T k n) (C : Ctx T k c X) (h : cE (n + 1) c (.UnaryOp .Not a pos) = some r) : PT X (.UnaryOp .Not a pos) (tTs (callT T k) X.K r) := by
  simp only [cE] at h
  obtain ⟨x, h1, rfl⟩ := one_inv h
  refine (pt_not (hT c X a x C h1)).imp fun σ H Q q => ?_
  obtain ⟨env, S, ρ, t, S', hEn, hS, he, hQ⟩ := q
  obtain ⟨w, he, ht⟩ := tst_of he
  simp only [ev] at he
  cases e1 : ev (callT T k) x env S with
  | none => simp [e1] at he
  | some z =>
    obtain ⟨y, S1⟩ := z
    simp only [e1] at he
    obtain ⟨b, e2, e3⟩ := one_inv he
    cases e3
    cases ht
    exact ⟨env, S, ρ, b, _, hEn, hS, tst_to e1 e2, fun H1 ρ1 x1 s1 => hQ H1 ρ1 x1 s1⟩
theorem pt_ifExp {t a b : Expr} {tc ta tb : TT} (hc : PT X t tc) (ha : PT X a ta) (hb : PT X b tb) : PT X (.IfExp t a b pos) (fun σ H Q => tc σ H fun c H1 => if c = true then ta σ H1 Q else tb σ H1 Q) := by
  refine ⟨fun pins s σ H Q I h => ?_⟩
  refine isTrue_IfExp (thn (hc.run pins s σ H _ I h) fun d s1 ⟨H1, I1, q1⟩ => ?_)
  cases d with
  | true => exact ha.run pins s1 σ H1 Q I1 q1
  | false => exact hb.run pins s1 σ H1 Q I1 q1
theorem t_ife {t a b : Expr} {r : CE} (hT : ST T k n) (C : Ctx T k c X) (h : cE (n + 1) c (.IfExp t a b pos) = some r) : PT X (.IfExp t a b pos) (tTs (callT T k) X.K r) := by
  simp only [cE] at h
  cases h1 : cE n c t with
  | none => simp [h1] at h
  | some x =>
    cases h2 : cE n c a with
    | none => simp [h1, h2] at h
    | some y =>
      cases h3 : cE n c b with
      | none => simp [h1, h2, h3] at h
      | some z =>
        simp only [h1, h2, h3, Option.some.injEq] at h
        subst h
        refine (pt_ifExp (hT c X t x C h1) (hT c X a y C h2) (hT c X b z C h3)).imp fun σ H Q q => ?_
        obtain ⟨env, S, ρ, b, S', hEn, hS, he, hQ⟩ := q
        obtain ⟨w, he, ht⟩ := tst_of he
        simp only [ev] at he
        cases e1 : ev (callT T k) x env S with
        | none => simp [e1] at he
        | some w1 =>
          obtain ⟨u1, S1⟩ := w1
          simp only [e1] at he
          cases e2 : truR S1 u1 with
          | none => simp [e2] at he
          | some t =>
            refine ⟨env, S, ρ, t, S1, hEn, hS, tst_to e1 e2, fun H1 ρ1 x1 s1 => ?_⟩
            cases t with
            | false =>
              simp only [e2] at he
              rw [if_neg Bool.false_ne_true]
              exact ⟨env, S1, ρ1, b, S', hEn.mono x1, s1, tst_to he ht, fun H2 ρ2 x2 s2 => hQ H2 ρ2 (x1.trans x2) s2⟩
            | true =>
              simp only [e2] at he
              rw [if_pos rfl]
              exact ⟨env, S1, ρ1, b, S', hEn.mono x1, s1, tst_to he ht, fun H2 ρ2 x2 s2 => hQ H2 ρ2 (x1.trans x2) s2⟩
theorem w_succ (hE : SE T k n) (hT : ST T k n) (hW : SW T k n) : SW T k (n + 1) := fun c X op vs pos r C h => by
  match vs, h with
  | [], h => cases op <;> cases h
  | [a], h =>
    have h : cE n c a = some r := by cases op <;> simpa [cE] using h
    cases op with
    | And => exact pw_and1 (hT c X a r C h)
    | Or => exact pw_or1 (hT c X a r C h)
  | a :: b :: l, h =>
    cases op with
    | And =>
      simp only [cE] at h
      cases h1 : cE n c a with
      | none => simp [h1] at h
      | some x =>
        cases h2 : cE n c (.BoolOp .And (b :: l) pos) with
        | none => simp [h1, h2] at h
        | some y =>
          simp only [h1, h2, Option.some.injEq] at h
          subst h
          refine (pw_and (hT c X a x C h1) (hW c X .And (b :: l) pos y C h2)).imp fun σ H Q q => ?_
          obtain ⟨env, S, ρ, t, S', hEn, hS, he, hQ⟩ := q
          obtain ⟨w, he, ht⟩ := tst_of he
          simp only [ev] at he
          cases e1 : ev (callT T k) x env S with
          | none => simp [e1] at he
          | some w1 =>
            obtain ⟨u1, S1⟩ := w1
            simp only [e1] at he
            cases e2 : truR S1 u1 with
            | none => simp [e2] at he
            | some t1 =>
              refine ⟨env, S, ρ, t1, S1, hEn, hS, tst_to e1 e2, fun H1 ρ1 x1 s1 => ?_⟩
              cases t1 with
              | false =>
                simp only [e2] at he
                cases he
                rw [e2] at ht; cases ht
                rw [if_neg Bool.false_ne_true]
                exact hQ H1 ρ1 x1 s1
              | true =>
                simp only [e2] at he
                rw [if_pos rfl]
                exact ⟨env, S1, ρ1, t, S', hEn.mono x1, s1, tst_to he ht, fun H2 ρ2 x2 s2 => hQ H2 ρ2 (x1.trans x2) s2⟩
    | Or =>
      simp only [cE] at h
      cases h1 : cE n c a with
      | none => simp [h1] at h
      | some x =>
        cases h2 : cE n c (.BoolOp .Or (b :: l) pos) with
        | none => simp [h1, h2] at h
        | some y =>
          simp only [h1, h2, Option.some.injEq] at h
          subst h
          refine (pw_or (hT c X a x C h1) (hW c X .Or (b :: l) pos y C h2)).imp fun σ H Q q => ?_
          obtain ⟨env, S, ρ, t, S', hEn, hS, he, hQ⟩ := q
          obtain ⟨w, he, ht⟩ := tst_of he
          simp only [ev] at he
          cases e1 : ev (callT T k) x env S with
          | none => simp [e1] at he
          | some w1 =>
            obtain ⟨u1, S1⟩ := w1
            simp only [e1] at he
            cases e2 : truR S1 u1 with
            | none => simp [e2] at he
            | some t1 =>
              refine ⟨env, S, ρ, t1, S1, hEn, hS, tst_to e1 e2, fun H1 ρ1 x1 s1 => ?_⟩
              cases t1 with
              | true =>
                simp only [e2] at he
                cases he
                rw [e2] at ht; cases ht
                rw [if_pos rfl]
                exact hQ H1 ρ1 x1 s1
              | false =>
                simp only [e2] at he
                rw [if_neg Bool.false_ne_true]
                exact ⟨env, S1, ρ1, t, S', hEn.mono x1, s1, tst_to he ht, fun H2 ρ2 x2 s2 => hQ H2 ρ2 (x1.trans x2) s2⟩
theorem t_succ (hE : SE T k n) (hT : ST T k n) (hE' : SE T k (n + 1)) (hW : SW T k (n + 1)) : ST T k (n + 1) := fun c X e r C h => by
  cases e with
  | BoolOp op vs pos => exact (hW c X op vs pos r C h).pt
  | UnaryOp op a pos =>
    cases op with
    | Not => exact t_not hT C h
    | USub => exact pt_plain (hE' c X _ r C h) fun _ => rfl
    | _ => cases h
  | Compare a ops cs pos =>
    match ops, cs, h with
    | [op], [b], h => exact t_cmp hE C h
    | [op, op'], [b, d], h => exact t_cmp2 hE C h
    | [], _, h => cases h
    | [_], [], h => cases h
    | [_], _ :: _ :: _, h => cases h
    | [_, _], [], h => cases h
    | [_, _], [_], h => cases h
    | [_, _], _ :: _ :: _ :: _, h => cases h
    | _ :: _ :: _ :: _, _, h => cases h
  | IfExp t a b pos => exact t_ife hT C h
  | _ => exact pt_plain (hE' c X _ r C h) fun _ => rfl

/-! ### comprehensions: the block's context -/
theorem Ctx.blk (C : Ctx T k c X) {scope : Scope} (hk : scope.kind = .function) (s : Shared) (H : Hp) (A : Addr) (cl : List (Str × Addr)) (fp : List Addr) : Ctx T k (c.blk scope) (X.blk s H scope (compEnvC scope cl A X.env) fp) where
  scope := by
    show (compEnvC scope cl A X.env).scope = relS scope c.sc
    rw [← C.scope]; rfl
  kind := hk
  names := C.names
  nd := C.nd
  calm := C.calm
  fn := fun x => rfl
  room := C.room
  gl := C.gl
  bi := C.bi
  fi := C.fi
end Pv

/-! Comprehensions. -/
namespace Pv
open PySem PySem.Spec PyProof.Rows L2
variable {T : Nat → Option FunC} {k n : Nat} {c : Sc} {X : Cx} {pos : Pos}

/-- a clause's tests -/
def tTests (cl : Nat → List D → Store → Option (D × Store)) (K : PySem.W.Frag) (cs : List CE) : TT := fun σ H Q => ∃ env S ρ b S', RepE K H ρ env σ ∧ RepS K H ρ S ∧ tests cl cs env S = some (b, S') ∧ ∀ H' ρ', Ext K H ρ H' ρ' → RepS K H' ρ' S' → Q b H'
theorem _root_.L2.PTs.imp {X : Cx} {e : List Expr} {t t' : TT} (h : PTs X e t) (f : ∀ σ H Q, t' σ H Q → t σ H Q) : PTs X e t' := ⟨fun pins s σ H Q I q => h.run pins s σ H Q I (f σ H Q q)⟩
theorem pts_of (hT : ST T k n) (C : Ctx T k c X) {ifs : List Expr} {cs : List CE} (h : mapO (cE n c) ifs = some cs) (hl : Nat.ble ifs.length 1 = true) : PTs X ifs (tTests (callT T k) X.K cs) := by
  match ifs, h, hl with
  | [], h, _ =>
    rw [mapO_nil h]
    refine pts_nil.imp fun σ H Q q => ?_
    obtain ⟨env, S, ρ, b, S', hEn, hS, he, hQ⟩ := q
    cases he
    exact hQ H ρ .refl hS
  | [e], h, _ =>
    obtain ⟨b, r, rfl, h1, h2⟩ := mapO_cons h
    rw [mapO_nil h2]
    refine (pts_one (hT c X e b C h1)).imp fun σ H Q q => ?_
    obtain ⟨env, S, ρ, t, S', hEn, hS, he, hQ⟩ := q
    unfold tests at he
    cases e1 : ev (callT T k) b env S with
    | none => simp [e1] at he
    | some w1 =>
      obtain ⟨u1, S1⟩ := w1
      simp only [e1] at he
      cases e2 : truR S1 u1 with
      | none => simp [e2] at he
      | some t1 =>
        have : t = t1 ∧ S' = S1 := by
          cases t1 with
          | true => simp only [e2] at he; unfold tests at he; cases he; exact ⟨rfl, rfl⟩
          | false => simp only [e2] at he; cases he; exact ⟨rfl, rfl⟩
        obtain ⟨rfl, rfl⟩ := this
        exact ⟨env, S, ρ, _, _, hEn, hS, tst_to e1 e2, hQ⟩
  | _ :: _ :: _, _, hl => cases hl

/-- slots outside of own are the block's own affair -/
theorem wipe_get {σ : L2.St} {j : Nat} : ∀ {own : List Nat}, j ∉ own → (wipe σ own)[j]? = σ[j]?
  | [], _ => rfl
  | i :: is, h => by
    unfold L2.wipe
    rw [List.getElem?_set_ne (fun e => h (by simp [e]))]
    exact wipe_get fun z => h (by simp [z])
theorem wipe_in {σ : L2.St} {j : Nat} (hl : j < σ.length) : ∀ {own : List Nat}, j ∈ own → (wipe σ own)[j]? = some none
  | [], h => by cases h
  | i :: is, h => by
    unfold L2.wipe
    by_cases e : i = j
    · subst e
      rw [List.getElem?_set_self (by rw [wipe_length]; exact hl)]
    · rw [List.getElem?_set_ne e]
      rcases List.mem_cons.mp h with h | h
      · exact absurd h.symm e
      · exact wipe_in hl h
theorem wipe_eq {σ σ2 : L2.St} {own : List Nat} (hl : σ2.length = σ.length) (h : ∀ j, j ∉ own → σ2[j]? = σ[j]?) : wipe σ2 own = wipe σ own := by
  apply List.ext_getElem?
  intro j
  by_cases hj : j ∈ own
  · by_cases hlt : j < σ.length
    · rw [wipe_in (by rw [hl]; exact hlt) hj, wipe_in hlt hj]
    · rw [List.getElem?_eq_none (by rw [wipe_length]; omega), List.getElem?_eq_none (by rw [wipe_length]; omega)]
  · rw [wipe_get hj, wipe_get hj, h j hj]

section
variable {K : PySem.W.Frag} {H1 : Hp} {ρ1 : List Addr} {di : DI} {J : It}
/-- one turn of a comprehension's walk: what stands at D so far -/
structure LcW (K : PySem.W.Frag) (H1 : Hp) (ρ1 : List Addr) (D : Addr) (ys : List Pv.D) (f : Pv.D → Store → Option (List Pv.D × Store)) (di : DI) (S2 : Store) (cnt i m : Nat) (Hc : Hp) : Prop where
  ex : ∃ ρc Sc acc accv zs, Ext K H1 ρ1 Hc ρc ∧ RepS K Hc ρc Sc ∧ Hc D = some (.lst accv) ∧ D ∉ ρc ∧ RepL K Hc ρc acc accv ∧ walkC f di m i Sc = some (zs, S2) ∧ acc ++ zs = ys ∧ i + m = cnt
theorem walkC_stop {f : Pv.D → Store → Option (List Pv.D × Store)} {m i : Nat} {S S2 : Store} {zs : List Pv.D} (h : walkC f di m i S = some (zs, S2)) (e : di.next S i = some none) : zs = [] ∧ S2 = S := by
  cases m with
  | zero => simp only [walkC, e] at h; cases h; exact ⟨rfl, rfl⟩
  | succ m => simp only [walkC, e] at h; cases h; exact ⟨rfl, rfl⟩
theorem walkC_go {f : Pv.D → Store → Option (List Pv.D × Store)} {m i : Nat} {S S2 : Store} {zs : List Pv.D} (h : walkC f di m i S = some (zs, S2)) (e : di.next S i ≠ some none) :
    ∃ m' x ys zs' S1, m = m' + 1 ∧ di.next S i = some (some x) ∧ f x S = some (ys, S1) ∧ walkC f di m' (i + 1) S1 = some (zs', S2) ∧ zs = ys ++ zs' := by
  cases m with
  | zero =>
    unfold walkC at h
    split at h
    · rename_i q; exact absurd q e
    · cases h
  | succ m =>
    unfold walkC at h
    split at h
    · rename_i q; exact absurd q e
    · rename_i x q
      cases e1 : f x S with
      | none => simp [e1] at h
      | some z =>
        obtain ⟨ys, S1⟩ := z
        simp only [e1] at h
        cases e2 : walkC f di m (i + 1) S1 with
        | none => simp [e2] at h
        | some z2 =>
          obtain ⟨zs', S3⟩ := z2
          simp only [e2] at h
          cases h
          exact ⟨m, x, ys, zs', S1, rfl, q, e1, e2, rfl⟩
    · cases h
end
theorem blb {b : Bool} {p q : Prop} (h : b = true → p) (g : b = false → q) : (b = true ∧ p) ∨ (b = false ∧ q) := by
  cases b with
  | true => exact .inl ⟨rfl, h rfl⟩
  | false => exact .inr ⟨rfl, g rfl⟩

/-- the reading of a comprehension -/
theorem lc_read {own : List Nat} {p : Pat} {ci : CI} {cs : List CE} {e : CE} {K : PySem.W.Frag} (hp : ∀ j ∈ p.slots, j ∈ own) (σ : L2.St) (H : Hp) (Q : VK) (q : tR (callT T k) K (.comp own p ci cs e) σ H Q) :
    tLc (tI (callT T k) K ci) (gP K p) (tTests (callT T k) K cs) (tP (callT T k) K e) own σ H Q := by
  obtain ⟨env, S, ρ, r, S', hEn, hS, he, hQ⟩ := q
  simp only [ev] at he
  cases e1 : evi (callT T k) ci env S with
  | none => simp [e1] at he
  | some w1 =>
    obtain ⟨di, S1⟩ := w1
    simp only [e1] at he
    generalize hf : (fun (x : Pv.D) (S : Store) => (match bindP p x (wipeE env own) with
          | some env' => (match tests (callT T k) cs env' S with
            | some (true, S) => (match pushR (ev (callT T k) e env' S) with | some (y, S) => some ([y], S) | none => none)
            | some (false, S) => some ([], S)
            | none => none)
          | none => none)) = f at he
    cases e2 : walkC f di (di.len S1) 0 S1 with
    | none => simp [e2] at he
    | some w2 =>
      obtain ⟨ys, S2⟩ := w2
      simp only [e2] at he
      split at he
      · rename_i hz
        cases he
        refine ⟨env, S, ρ, di, S1, hEn, hS, e1, fun J H1 ρ1 x1 s1 rel hsm => fun D hD => ?_⟩
        have bound : ∀ {i m : Nat} {acc zs : List Pv.D} {y : Pv.D}, acc.length ≤ i → i + (m + 1) = di.len S1 → acc ++ ([y] ++ zs) = ys → acc.length < sizeLine := fun {i m acc zs y} h1 h2 h3 => by
          simp only [Bool.or_eq_true] at hz
          rcases hz with hz | hz
          · have := hsm hz; omega
          · have := Nat.le_of_ble_eq_true hz
            have := limS
            have : acc.length + (1 + zs.length) = ys.length := by rw [← h3]; simp; omega
            omega
        refine ⟨fun i m Hc => ∃ ρc Sc acc accv zs, Ext K H1 ρ1 Hc ρc ∧ RepS K Hc ρc Sc ∧ Hc D = some (.lst accv) ∧ D ∉ ρc ∧ RepL K Hc ρc acc accv ∧ walkC f di m i Sc = some (zs, S') ∧ acc ++ zs = ys ∧ i + m = di.len S1 ∧ acc.length ≤ i,
          ⟨di.len S1, ρ1, S1, [], [], ys, .new hD, s1.new hD, upd_same, s1.ne hD, .nil, e2, rfl, by omega, Nat.le_refl _⟩, ?_⟩
        rintro i m Hc ⟨ρc, Sc, acc, accv, zs, xc, sc, hDc, hDn, rl, hw, hys, him, hai⟩
        obtain ⟨g1, g2⟩ := rel [] (by simp) i Hc ρc Sc xc.x sc
        by_cases hn : di.next Sc i = some none
        · obtain ⟨rfl, rfl⟩ := walkC_stop hw hn
          refine .inl ⟨g1 hn, hQ _ Hc ρc (x1.trans xc) sc ⟨D, accv, rfl, hDc, x1.back hD, hDn, ?_⟩⟩
          rw [← hys, List.append_nil]; exact rl
        · obtain ⟨m', x, ws, zs', S3, rfl, hx, hfx, hw', rfl⟩ := walkC_go hw hn
          obtain ⟨go, gy⟩ := g2 x hx
          refine .inr ⟨go, fun Hd => ∃ ρc Sc acc accv zs, Ext K H1 ρ1 Hd ρc ∧ RepS K Hd ρc Sc ∧ Hd D = some (.lst accv) ∧ D ∉ ρc ∧ RepL K Hd ρc acc accv ∧ walkC f di m' (i + 1) Sc = some (zs, S') ∧ acc ++ zs = ys ∧ (i + 1) + m' = di.len S1 ∧ acc.length ≤ i + 1,
            fun H' h => ⟨m', Nat.lt_succ_self _, h⟩, fun xv H' y => ?_⟩
          obtain ⟨xy, sy, ry⟩ := gy xv H' y
          have hE2 : RepE K H' ρc (wipeE env own) (wipe σ own) := (((hEn.mono x1).mono xc).mono xy).wipe own
          rw [← hf] at hfx
          simp only at hfx
          cases e3 : bindP p x (wipeE env own) with
          | none => simp [e3] at hfx
          | some env' =>
            simp only [e3] at hfx
            refine ⟨wipeE env own, ρc, x, env', hE2, ry, e3, fun σ2 hE3 hl hk => ⟨?_, ?_⟩⟩
            · rw [wipe_eq (σ := wipe σ own) hl fun j hj => hk j fun z => hj (hp j z)]
              apply List.ext_getElem?
              intro j
              by_cases hj : j ∈ own
              · by_cases hlt : j < σ.length
                · rw [wipe_in (by rw [wipe_length]; exact hlt) hj, wipe_in hlt hj]
                · rw [List.getElem?_eq_none (by rw [wipe_length, wipe_length]; omega), List.getElem?_eq_none (by rw [wipe_length]; omega)]
              · rw [wipe_get hj]
            · cases e4 : tests (callT T k) cs env' Sc with
              | none => simp [e4] at hfx
              | some w4 =>
                obtain ⟨b, S4⟩ := w4
                refine ⟨env', Sc, ρc, b, S4, hE3, sy, e4, fun H4 ρ4 x4 s4 => ?_⟩
                have hD4 : H4 D = some (.lst accv) := x4.keep D _ (xy.keep D _ hDc hDn) hDn
                have hN4 : D ∉ ρ4 := x4.notin (xy.keep D _ hDc hDn) hDn
                cases b with
                | false =>
                  simp only [e4] at hfx
                  cases hfx
                  dsimp only
                  rw [if_neg Bool.false_ne_true]
                  exact ⟨ρ4, _, acc, accv, zs', (xc.trans xy).trans x4, s4, hD4, hN4, (rl.mono xy).mono x4, hw', hys, by omega, by omega⟩
                | true =>
                  simp only [e4] at hfx
                  dsimp only
                  rw [if_pos rfl]
                  cases e5 : pushR (ev (callT T k) e env' S4) with
                  | none => simp [e5] at hfx
                  | some w5 =>
                    obtain ⟨d, S5⟩ := w5
                    simp only [e5] at hfx
                    cases hfx
                    refine ⟨env', S4, ρ4, d, _, hE3.mono x4, s4, e5, fun v H5 ρ5 x5 s5 r5 => ⟨accv, x5.keep D _ hD4 hN4, ?_, ?_⟩⟩
                    · rw [rl.length]
                      exact bound hai him hys
                    · have hD5 := x5.keep D _ hD4 hN4
                      have hN5 := x5.notin hD4 hN4
                      have su : Sub K H5 ρ5 (upd H5 D (.lst (accv ++ [v]))) ρ5 := .upd hD5
                      refine ⟨ρ5, _, acc ++ [d], accv ++ [v], zs', (((xc.trans xy).trans x4).trans x5).updNew hD hD5, s5.updNew hN5 hD5, upd_same, hN5, ?_, hw', by rw [List.append_assoc]; exact hys, by omega, by simp; omega⟩
                      exact RepL.sub su (((((rl.mono xy).mono x4).mono x5)).append (.cons r5 .nil))
      · cases he
/-- the reading of a comprehension of two clauses -/
theorem lc2_read {own : List Nat} {p p1 : Pat} {ci ci1 : CI} {cs cs1 : List CE} {e : CE} {K : PySem.W.Frag} (hp : ∀ j ∈ p.slots, j ∈ own) (σ : L2.St) (H : Hp) (Q : VK) (q : tR (callT T k) K (.comp2 own p ci cs p1.slots p1 ci1 cs1 e) σ H Q) :
    tLc2 (tI (callT T k) K ci) (gP K p) (tTests (callT T k) K cs) (tI (callT T k) K ci1) (gP K p1) (tTests (callT T k) K cs1) (tP (callT T k) K e) own p1.slots σ H Q := by
  obtain ⟨env, S, ρ, r, S', hEn, hS, he, hQ⟩ := q
  simp only [ev] at he
  cases e1 : evi (callT T k) ci env S with
  | none => simp [e1] at he
  | some w1 =>
    obtain ⟨di, S1⟩ := w1
    simp only [e1] at he
    generalize hf : (fun (x : Pv.D) (S : Store) => (match bindP p x (wipeE env own) with
          | some env' => (match tests (callT T k) cs env' S with
            | some (true, S) => (match evi (callT T k) ci1 env' S with
              | some (di1, S) => walkC (fun x1 S => (match bindP p1 x1 (wipeE env' p1.slots) with
                    | some env2 => (match tests (callT T k) cs1 env2 S with
                      | some (true, S) => (match pushR (ev (callT T k) e env2 S) with | some (y, S) => some ([y], S) | none => none)
                      | some (false, S) => some ([], S)
                      | none => none)
                    | none => none)) di1 (di1.len S) 0 S
              | none => none)
            | some (false, S) => some ([], S)
            | none => none)
          | none => none)) = f at he
    cases e2 : walkC f di (di.len S1) 0 S1 with
    | none => simp [e2] at he
    | some w2 =>
      obtain ⟨ys, S2⟩ := w2
      simp only [e2] at he
      split at he
      · rename_i hz
        cases he
        refine ⟨env, S, ρ, di, S1, hEn, hS, e1, fun J H1 ρ1 x1 s1 rel hsm => fun D hD => ?_⟩
        have hz := Nat.le_of_ble_eq_true hz
        have hlim := limS
        refine ⟨fun i m Hc => ∃ ρc Sc acc accv zs, Ext K H1 ρ1 Hc ρc ∧ RepS K Hc ρc Sc ∧ Hc D = some (.lst accv) ∧ D ∉ ρc ∧ RepL K Hc ρc acc accv ∧ walkC f di m i Sc = some (zs, S') ∧ acc ++ zs = ys,
          ⟨di.len S1, ρ1, S1, [], [], ys, .new hD, s1.new hD, upd_same, s1.ne hD, .nil, e2, rfl⟩, ?_⟩
        rintro i m Hc ⟨ρc, Sc, acc, accv, zs, xc, sc, hDc, hDn, rl, hw, hys⟩
        obtain ⟨g1, g2⟩ := rel [] (by simp) i Hc ρc Sc xc.x sc
        by_cases hn : di.next Sc i = some none
        · obtain ⟨rfl, rfl⟩ := walkC_stop hw hn
          refine .inl ⟨g1 hn, hQ _ Hc ρc (x1.trans xc) sc ⟨D, accv, rfl, hDc, x1.back hD, hDn, ?_⟩⟩
          rw [← hys, List.append_nil]; exact rl
        · obtain ⟨m', x, ws, zs', S3, rfl, hx, hfx, hw', rfl⟩ := walkC_go hw hn
          obtain ⟨go, gy⟩ := g2 x hx
          refine .inr ⟨go, fun Hd => ∃ ρc Sc acc accv zs, Ext K H1 ρ1 Hd ρc ∧ RepS K Hd ρc Sc ∧ Hd D = some (.lst accv) ∧ D ∉ ρc ∧ RepL K Hd ρc acc accv ∧ walkC f di m' (i + 1) Sc = some (zs, S') ∧ acc ++ zs = ys,
            fun H' h => ⟨m', Nat.lt_succ_self _, h⟩, fun xv H' y => ?_⟩
          obtain ⟨xy, sy, ry⟩ := gy xv H' y
          have hE2 : RepE K H' ρc (wipeE env own) (wipe σ own) := (((hEn.mono x1).mono xc).mono xy).wipe own
          rw [← hf] at hfx
          simp only at hfx
          cases e3 : bindP p x (wipeE env own) with
          | none => simp [e3] at hfx
          | some env' =>
            simp only [e3] at hfx
            refine ⟨wipeE env own, ρc, x, env', hE2, ry, e3, fun σ2 hE3 hl hk => ⟨?_, ?_⟩⟩
            · rw [wipe_eq (σ := wipe σ own) hl fun j hj => hk j fun z => hj (hp j z)]
              apply List.ext_getElem?
              intro j
              by_cases hj : j ∈ own
              · by_cases hlt : j < σ.length
                · rw [wipe_in (by rw [wipe_length]; exact hlt) hj, wipe_in hlt hj]
                · rw [List.getElem?_eq_none (by rw [wipe_length, wipe_length]; omega), List.getElem?_eq_none (by rw [wipe_length]; omega)]
              · rw [wipe_get hj]
            · cases e4 : tests (callT T k) cs env' Sc with
              | none => simp [e4] at hfx
              | some w4 =>
                obtain ⟨b, S4⟩ := w4
                refine ⟨env', Sc, ρc, b, S4, hE3, sy, e4, fun H4 ρ4 x4 s4 => ?_⟩
                have hD4 : H4 D = some (.lst accv) := x4.keep D _ (xy.keep D _ hDc hDn) hDn
                have hN4 : D ∉ ρ4 := x4.notin (xy.keep D _ hDc hDn) hDn
                cases b with
                | false =>
                  simp only [e4] at hfx
                  cases hfx
                  dsimp only
                  rw [if_neg Bool.false_ne_true]
                  exact ⟨ρ4, _, acc, accv, zs', (xc.trans xy).trans x4, s4, hD4, hN4, (rl.mono xy).mono x4, hw', hys⟩
                | true =>
                  simp only [e4] at hfx
                  dsimp only
                  rw [if_pos rfl]
                  cases e5 : evi (callT T k) ci1 env' S4 with
                  | none => simp [e5] at hfx
                  | some w5 =>
                    obtain ⟨di1, S5⟩ := w5
                    simp only [e5] at hfx
                    generalize hf1 : (fun (x1 : Pv.D) (S : Store) => (match bindP p1 x1 (wipeE env' p1.slots) with
                      | some env2 => (match tests (callT T k) cs1 env2 S with
                        | some (true, S) => (match pushR (ev (callT T k) e env2 S) with | some (y, S) => some ([y], S) | none => none)
                        | some (false, S) => some ([], S)
                        | none => none)
                      | none => none)) = f1 at hfx
                    refine ⟨env', S4, ρ4, di1, S5, hE3.mono x4, s4, e5, fun J1 H5 ρ5 x5 s5 rel1 _ => ?_⟩
                    have hD5 := x5.keep D _ hD4 hN4
                    have hN5 := x5.notin hD4 hN4
                    have relD := rel1 [D] (by simp [hD4])
                    have hE5 := (hE3.mono x4).mono x5
                    refine ⟨fun j kk Hd => ∃ ρd Sd acc accv vs, Ext K H1 ρ1 Hd ρd ∧ ExtX K [D] H5 ρ5 Hd ρd ∧ RepS K Hd ρd Sd ∧ Hd D = some (.lst accv) ∧ D ∉ ρd ∧ RepL K Hd ρd acc accv ∧ walkC f1 di1 kk j Sd = some (vs, S3) ∧ acc ++ (vs ++ zs') = ys,
                      ⟨di1.len S5, ρ5, S5, acc, accv, ws, ((xc.trans xy).trans x4).trans x5, Ext.refl.x, s5, hD5, hN5, ((rl.mono xy).mono x4).mono x5, hfx, hys⟩, ?_⟩
                    rintro j kk Hd ⟨ρd, Sd, acc2, accv2, vs, xd, xxd, sd, hDd, hNd, rld, hwd, hysd⟩
                    obtain ⟨f1', f2'⟩ := relD j Hd ρd Sd xxd sd
                    by_cases hn1 : di1.next Sd j = some none
                    · obtain ⟨rfl, rfl⟩ := walkC_stop hwd hn1
                      exact .inl ⟨f1' hn1, ρd, _, acc2, accv2, zs', xd, sd, hDd, hNd, rld, hw', hysd⟩
                    · obtain ⟨kk', x6, us, vs', S6, rfl, hx6, hfx6, hw6, rfl⟩ := walkC_go hwd hn1
                      obtain ⟨go1, gy1⟩ := f2' x6 hx6
                      refine .inr ⟨go1, fun Hd => ∃ ρd Sd acc accv vs, Ext K H1 ρ1 Hd ρd ∧ ExtX K [D] H5 ρ5 Hd ρd ∧ RepS K Hd ρd Sd ∧ Hd D = some (.lst accv) ∧ D ∉ ρd ∧ RepL K Hd ρd acc accv ∧ walkC f1 di1 kk' (j + 1) Sd = some (vs, S3) ∧ acc ++ (vs ++ zs') = ys,
                        fun H' h => ⟨kk', Nat.lt_succ_self _, h⟩, fun xv1 H7 y1 => ?_⟩
                      obtain ⟨xy1, sy1, ry1⟩ := gy1 xv1 H7 y1
                      have hE7 : RepE K H7 ρd (wipeE env' p1.slots) (wipe σ2 p1.slots) := ((hE5.sub xxd.sub).mono xy1).wipe _
                      rw [← hf1] at hfx6
                      simp only at hfx6
                      cases e7 : bindP p1 x6 (wipeE env' p1.slots) with
                      | none => simp [e7] at hfx6
                      | some env2 =>
                        simp only [e7] at hfx6
                        refine ⟨wipeE env' p1.slots, ρd, x6, env2, hE7, ry1, e7, fun σ3 hE8 hl1 hk1 => ⟨?_, ?_⟩⟩
                        · rw [wipe_eq (σ := wipe σ2 p1.slots) hl1 hk1]
                          apply List.ext_getElem?
                          intro j
                          by_cases hj : j ∈ p1.slots
                          · by_cases hlt : j < σ2.length
                            · rw [wipe_in (by rw [wipe_length]; exact hlt) hj, wipe_in hlt hj]
                            · rw [List.getElem?_eq_none (by rw [wipe_length, wipe_length]; omega), List.getElem?_eq_none (by rw [wipe_length]; omega)]
                          · rw [wipe_get hj]
                        · cases e8 : tests (callT T k) cs1 env2 Sd with
                          | none => simp [e8] at hfx6
                          | some w8 =>
                            obtain ⟨b1, S8⟩ := w8
                            refine ⟨env2, Sd, ρd, b1, S8, hE8, sy1, e8, fun H8 ρ8 x8 s8 => ?_⟩
                            have hD8 : H8 D = some (.lst accv2) := x8.keep D _ (xy1.keep D _ hDd hNd) hNd
                            have hN8 : D ∉ ρ8 := x8.notin (xy1.keep D _ hDd hNd) hNd
                            cases b1 with
                            | false =>
                              simp only [e8] at hfx6
                              cases hfx6
                              dsimp only
                              rw [if_neg Bool.false_ne_true]
                              exact ⟨ρ8, _, acc2, accv2, vs', (xd.trans xy1).trans x8, (xxd.trans xy1).trans x8, s8, hD8, hN8, (rld.mono xy1).mono x8, hw6, hysd⟩
                            | true =>
                              simp only [e8] at hfx6
                              dsimp only
                              rw [if_pos rfl]
                              cases e9 : pushR (ev (callT T k) e env2 S8) with
                              | none => simp [e9] at hfx6
                              | some w9 =>
                                obtain ⟨d, S9⟩ := w9
                                simp only [e9] at hfx6
                                cases hfx6
                                refine ⟨env2, S8, ρ8, d, _, hE8.mono x8, s8, e9, fun v H9 ρ9 x9 s9 r9 => ⟨accv2, x9.keep D _ hD8 hN8, ?_, ?_⟩⟩
                                · rw [rld.length]
                                  have : acc2.length + (1 + (vs'.length + zs'.length)) = ys.length := by rw [← hysd]; simp; omega
                                  omega
                                · have hD9 := x9.keep D _ hD8 hN8
                                  have hN9 := x9.notin hD8 hN8
                                  have su : Sub K H9 ρ9 (upd H9 D (.lst (accv2 ++ [v]))) ρ9 := .upd hD9
                                  refine ⟨ρ9, _, acc2 ++ [d], accv2 ++ [v], vs', (((xd.trans xy1).trans x8).trans x9).updNew hD hD9, (((xxd.trans xy1).trans x8).trans x9).upd (by simp) hD9, s9.updNew hN9 hD9, upd_same, hN9, ?_, hw6, ?_⟩
                                  · exact RepL.sub su (((((rld.mono xy1).mono x8).mono x9)).append (.cons r9 .nil))
                                  · rw [← hysd]; simp
      · cases he
end Pv

/-! All expressions. -/
namespace Pv
open PySem PySem.Spec PyProof.Rows L2
variable {T : Nat → Option FunC} {k n : Nat} {c : Sc} {X : Cx} {pos : Pos}

theorem cE_set {e : Expr} {r : CE} (h : cE n c e = some r) (env : PySem.Env) (x : Value) : foldedSetIterable e env x = pure x := by
  cases n with
  | zero => cases h
  | succ n => cases e <;> first | rfl | cases h
theorem cI_set {e : Expr} {b : Bool} {r : CI} (h : cI (cE n) c b e = some r) (env : PySem.Env) (x : Value) : foldedSetIterable e env x = pure x := by
  cases e with
  | Set => unfold cI at h; obtain ⟨y, h, _⟩ := one_inv h; exact cE_set h env x
  | _ => rfl
theorem e_comp1 {elt tg it : Expr} {ifs : List Expr} {scope : Scope} {r : CE} (hE : SE T k n) (hT : ST T k n) (C : Ctx T k c X) (h : cL (cE n) n c (.ListComp elt [⟨tg, it, ifs, 0⟩] scope pos) = some r) :
    PE X (.ListComp elt [⟨tg, it, ifs, 0⟩] scope pos) (tR (callT T k) X.K r) := by
  simp only [cL] at h
  split at h
  · rename_i hb
    simp only [Bool.and_eq_true] at hb
    have ok := blkB_ok hb.1
    split at h
    · rename_i ci p cs e h1 h2 h3 h4
      split at h
      · rename_i hp
        cases h
        have hp' : ∀ j ∈ p.slots, j ∈ (ownOf c.N scope).map (·.2) := fun j hj => of_decide_eq_true (List.all_eq_true.mp hp j hj)
        rw [← C.names, ← C.scope] at ok
        refine (pe_lc (g := gP X.K p) (tt := tTests (callT T k) X.K cs) (te := tP (callT T k) X.K e) C.calm C.ndX (pi_of hE C h1) ok (fun s H A cl fp => pg_of (C.blk ok.kind s H A cl fp) n tg p h2) (fun s H A cl fp => pts_of hT (C.blk ok.kind s H A cl fp) h3 hb.2) (fun s H A cl fp => pe_push (hE _ _ elt e (C.blk ok.kind s H A cl fp) h4)) (cI_set h1 _)).imp ?_
        rw [C.names]
        exact lc_read hp'
      · cases h
    · cases h
  · cases h
theorem e_comp2 {elt tg it tg1 it1 : Expr} {ifs ifs1 : List Expr} {scope : Scope} {r : CE} (hE : SE T k n) (hT : ST T k n) (C : Ctx T k c X) (h : cL (cE n) n c (.ListComp elt [⟨tg, it, ifs, 0⟩, ⟨tg1, it1, ifs1, 0⟩] scope pos) = some r) :
    PE X (.ListComp elt [⟨tg, it, ifs, 0⟩, ⟨tg1, it1, ifs1, 0⟩] scope pos) (tR (callT T k) X.K r) := by
  simp only [cL] at h
  split at h
  · rename_i hb
    simp only [Bool.and_eq_true] at hb
    have ok := blkB_ok hb.1
    split at h
    · rename_i ci p cs ci1 p1 cs1 e h1 h2 h3 h4 h5 h6 h7
      split at h
      · rename_i hp
        cases h
        simp only [Bool.and_eq_true] at hp
        have hp' : ∀ j ∈ p.slots, j ∈ (ownOf c.N scope).map (·.2) := fun j hj => of_decide_eq_true (List.all_eq_true.mp hp.1 j hj)
        have hp1 : ∀ j ∈ p1.slots, j ∈ (ownOf c.N scope).map (·.2) := fun j hj => of_decide_eq_true (List.all_eq_true.mp hp.2 j hj)
        rw [← C.names, ← C.scope] at ok
        refine (pe_lc2 (wi1 := tI (callT T k) X.K ci1) (g := gP X.K p) (g1 := gP X.K p1) (tt := tTests (callT T k) X.K cs) (tt1 := tTests (callT T k) X.K cs1) (te := tP (callT T k) X.K e) (vs1 := p1.slots) C.calm C.ndX (pi_of hE C h1) ok (by rw [C.names]; exact hp1) (fun s H A cl fp => pg_of (C.blk ok.kind s H A cl fp) n tg p h2) (fun s H A cl fp => pts_of hT (C.blk ok.kind s H A cl fp) h3 hb.2.1)
          (fun s H A cl fp => pi_of hE (C.blk ok.kind s H A cl fp) h4) (fun s H A cl fp => pg_of (C.blk ok.kind s H A cl fp) n tg1 p1 h5) (fun s H A cl fp => pts_of hT (C.blk ok.kind s H A cl fp) h6 hb.2.2)
          (fun s H A cl fp => pe_push (hE _ _ elt e (C.blk ok.kind s H A cl fp) h7)) (cI_set h1 _) (cI_set h4)).imp ?_
        rw [C.names]
        exact lc2_read hp'
      · cases h
    · cases h
  · cases h
theorem e_comp {elt : Expr} {gs : List Comprehension} {scope : Scope} {r : CE} (hE : SE T k n) (hT : ST T k n) (C : Ctx T k c X) (h : cL (cE n) n c (.ListComp elt gs scope pos) = some r) :
    PE X (.ListComp elt gs scope pos) (tR (callT T k) X.K r) := by
  unfold cL at h
  split at h
  · rename_i e0 e1 tg it ifs sc p0 heq
    cases heq
    exact e_comp1 hE hT C (by simp only [cL]; exact h)
  · rename_i heq
    cases heq
    exact e_comp2 hE hT C (by simp only [cL]; exact h)
  · cases h
theorem e_succ (hE : SE T k n) (hT : ST T k n) : SE T k (n + 1) := fun c X e r C h => by
  cases e with
  | Name => exact e_name C h
  | Constant => exact e_const C h
  | BinOp => exact e_bin hE C h
  | UnaryOp op a pos =>
    cases op with
    | Not => exact e_not hE C h
    | USub => exact e_neg hE C h
    | _ => cases h
  | Compare a ops cs pos =>
    match ops, cs, h with
    | [op], [b], h => exact e_cmp hE C h
    | [op, op'], [b, d], h => exact e_cmp2 hE C h
    | [], _, h => cases h
    | [_], [], h => cases h
    | [_], _ :: _ :: _, h => cases h
    | [_, _], [], h => cases h
    | [_, _], [_], h => cases h
    | [_, _], _ :: _ :: _ :: _, h => cases h
    | _ :: _ :: _ :: _, _, h => cases h
  | BoolOp op vs pos =>
    match vs, h with
    | [], h => cases op <;> cases h
    | [a], h => exact e_one hE C h
    | a :: b :: l, h =>
      cases op with
      | And => exact e_and hE C h
      | Or => exact e_or hE C h
  | IfExp => exact e_ife hE hT C h
  | Tuple => exact e_tup hE C h
  | List => exact e_lst hE C h
  | Subscript a b p =>
    cases b with
    | Slice lo hi st p2 =>
      cases st with
      | none => exact e_slc hE C h
      | some s =>
        have h : (match cE n c a, cE n c (.Slice lo hi (some s) p2) with | some a, some b => some (CE.idx a b) | _, _ => none) = some r := h
        exact e_idx hE C h
    | _ => exact e_idx hE C h
  | Call => exact e_call hE C h
  | ListComp => exact e_comp hE hT C h
  | _ => cases h
theorem all_of (T : Nat → Option FunC) (k : Nat) : ∀ n, SE T k n ∧ ST T k n ∧ SW T k n
  | 0 => ⟨fun _ _ _ _ _ h => (by cases h), fun _ _ _ _ _ h => (by cases h), fun _ _ _ _ _ _ _ h => (by cases h)⟩
  | n + 1 => by
    obtain ⟨hE, hT, hW⟩ := all_of T k n
    have e := e_succ hE hT
    have w := w_succ hE hT hW
    exact ⟨e, t_succ hE hT e w, w⟩
end Pv

/-! Statements. -/
namespace Pv
open PySem PySem.Spec PyProof.Rows L2
variable {T : Nat → Option FunC} {k n : Nat} {c : Sc} {X : Cx} {pos : Pos}
theorem sw_eq (C : Ctx T k c X) {ts vs : List Expr} {k1 k2 : Nat} {p1 p2 : Pos} {r : Option (List Str)} (h : swapN ts vs c = some r) : swappedStores [.Tuple ts k1 p1] (.Tuple vs k2 p2) X.env = pure r := by
  have hb : X.env.blockKind = .function := by unfold Env.blockKind; rw [C.scope, C.kind]; rfl
  have hk : ∀ x, X.env.kindOf x = c.sc.names.lookup x := fun x => by unfold Env.kindOf; rw [C.scope]
  unfold swapN at h
  unfold swappedStores
  simp only [hb, hk, bne_self_eq_false, Bool.or_false]
  split at h
  · rename_i c1; cases h; exact Eq.trans (if_pos c1) rfl
  · rename_i c1
    refine Eq.trans (if_neg c1) ?_
    split at h
    · rename_i c2; cases h; exact Eq.trans (if_pos c2) rfl
    · rename_i c2
      refine Eq.trans (if_neg c2) ?_
      dsimp only at h
      split at h
      · rename_i c3; cases h; exact Eq.trans (if_pos c3) rfl
      · rename_i c3
        refine Eq.trans (if_neg c3) ?_
        split at h
        · rename_i c4; cases h; exact Eq.trans (if_pos c4) rfl
        · rename_i c4
          refine Eq.trans (if_neg c4) ?_
          split at h
          · cases h
          · rename_i c5; cases h; exact Eq.trans (if_neg c5) rfl

/-! ### readings -/
/-- what is wanted behind a statement -/
def Wants (K : PySem.W.Frag) (H : Hp) (ρ : List Addr) (D : Ends) (fl : Fl) (env : Env) (S : Store) : Prop := ∀ σ' H' ρ', Ext K H ρ H' ρ' → RepE K H' ρ' env σ' → RepS K H' ρ' S →
  match fl with
  | .nx => D.nx σ' H'
  | .bk => D.bk σ' H'
  | .ct => D.ct σ' H'
  | .rt d => ∀ v, RepV K H' ρ' d v → D.rt v H'
theorem Wants.mono {K : PySem.W.Frag} {H H1 : Hp} {ρ ρ1 : List Addr} {D : Ends} {fl : Fl} {env : Env} {S : Store} (h : Wants K H ρ D fl env S) (e : Ext K H ρ H1 ρ1) : Wants K H1 ρ1 D fl env S := fun σ' H' ρ' x e' s' => h σ' H' ρ' (e.trans x) e' s'
def tSt (cl : Nat → List D → Store → Option (D × Store)) (K : PySem.W.Frag) (s : CS) : TS := fun D σ H => ∃ env S ρ fl env' S', RepE K H ρ env σ ∧ RepS K H ρ S ∧ ex cl s env S = some (fl, env', S') ∧ Wants K H ρ D fl env' S'
def tSs (cl : Nat → List D → Store → Option (D × Store)) (K : PySem.W.Frag) (s : List CS) : TS := fun D σ H => ∃ env S ρ fl env' S', RepE K H ρ env σ ∧ RepS K H ρ S ∧ exs cl s env S = some (fl, env', S') ∧ Wants K H ρ D fl env' S'
/-- what holds of all statements that compile with n -/
def SS (T : Nat → Option FunC) (k n : Nat) : Prop := ∀ (c : Sc) (X : Cx) (s : Stmt) (r : CS), Ctx T k c X → PassesOwn (model X.prog X.w) X.A X.env X.xe → cS n c s = some r → PS X s (tSt (callT T k) X.K r)
theorem pss_of (h : SS T k n) (C : Ctx T k c X) (hp : PassesOwn (model X.prog X.w) X.A X.env X.xe) : ∀ {ss : List Stmt} {rs : List CS}, mapO (cS n c) ss = some rs → PSs X ss (tSs (callT T k) X.K rs)
  | [], rs, e => by
    rw [mapO_nil e]
    refine pss_nil.imp fun D σ H q => ?_
    obtain ⟨env, S, ρ, fl, env', S', hE, hS, he, hQ⟩ := q
    unfold exs at he
    cases he
    exact hQ σ H ρ .refl hE hS
  | s :: ss, rs, hm => by
    obtain ⟨b, r, rfl, h1, h2⟩ := mapO_cons hm
    refine (pss_cons (h c X s b C hp h1) (pss_of h C hp h2)).imp fun D σ H q => ?_
    obtain ⟨env, S, ρ, fl, env', S', hE, hS, he, hQ⟩ := q
    unfold exs at he
    cases e1 : ex (callT T k) b env S with
    | none => simp [e1] at he
    | some z =>
      obtain ⟨f1, env1, S1⟩ := z
      simp only [e1] at he
      refine ⟨env, S, ρ, f1, env1, S1, hE, hS, e1, fun σ1 H1 ρ1 x1 E1 s1 => ?_⟩
      cases f1 with
      | nx => exact ⟨env1, S1, ρ1, fl, env', S', E1, s1, he, hQ.mono x1⟩
      | bk => cases he; exact hQ σ1 H1 ρ1 x1 E1 s1
      | ct => cases he; exact hQ σ1 H1 ρ1 x1 E1 s1
      | rt d => cases he; exact hQ σ1 H1 ρ1 x1 E1 s1

/-! ### targets -/
def gT (cl : Nat → List D → Store → Option (D × Store)) (K : PySem.W.Frag) (t : Tg) : TG := fun v σ H Q => ∃ env S ρ d env' S', RepE K H ρ env σ ∧ RepS K H ρ S ∧ RepV K H ρ d v ∧ asgT cl t d env S = some (env', S') ∧
  ∀ σ' H' ρ', Ext K H ρ H' ρ' → RepE K H' ρ' env' σ' → RepS K H' ρ' S' → Q σ' H'
def gTs (cl : Nat → List D → Store → Option (D × Store)) (K : PySem.W.Frag) (ts : List Tg) : TGs := fun vs σ H Q => ∃ env S ρ ds env' S', RepE K H ρ env σ ∧ RepS K H ρ S ∧ RepL K H ρ ds vs ∧ asgTs cl ts ds env S = some (env', S') ∧
  ∀ σ' H' ρ', Ext K H ρ H' ρ' → RepE K H' ρ' env' σ' → RepS K H' ρ' S' → Q σ' H'
theorem cT_star {e : Expr} {p : Tg} (h : cT n c e = some p) : isStar e = false := by
  cases n with
  | zero => cases h
  | succ n => cases e <;> first | rfl | cases h
theorem mapT_star : ∀ {es : List Expr} {rs : List Tg}, mapO (cT n c) es = some rs → ∀ e ∈ es, isStar e = false
  | [], _, _, _, h => by cases h
  | e :: es, rs, h, x, hx => by
    obtain ⟨b, r, rfl, h1, h2⟩ := mapO_cons h
    rcases List.mem_cons.mp hx with rfl | hx
    · exact cT_star h1
    · exact mapT_star h2 x hx
theorem pgts_of (h : ∀ e p, cT n c e = some p → PG X e (gT (callT T k) X.K p)) : ∀ {es : List Expr} {ps : List Tg}, mapO (cT n c) es = some ps → PGs X es (gTs (callT T k) X.K ps)
  | [], ps, e => by
    rw [mapO_nil e]
    refine pgs_nil.imp fun vs σ H Q q => ?_
    obtain ⟨env, S, ρ, ds, env', S', hE, hS, hl, hb, hQ⟩ := q
    cases ds with
    | nil => cases hb; exact ⟨hl, hQ σ H ρ .refl hE hS⟩
    | cons d ds => cases hb
  | e :: es, ps, hm => by
    obtain ⟨b, r, rfl, h1, h2⟩ := mapO_cons hm
    refine (pgs_cons (h e b h1) (pgts_of h h2) (by rw [asg_cons (cT_star h1)]; rfl)).imp fun vs σ H Q q => ?_
    obtain ⟨env, S, ρ, ds, env', S', hE, hS, hl, hb, hQ⟩ := q
    cases ds with
    | nil => cases hb
    | cons d ds =>
      obtain ⟨v, rest, rfl, r1, r2⟩ := hl
      unfold asgTs at hb
      cases e1 : asgT (callT T k) b d env S with
      | none => simp [e1] at hb
      | some z =>
        obtain ⟨env1, S1⟩ := z
        simp only [e1] at hb
        exact ⟨v, rest, rfl, env, S, ρ, d, env1, S1, hE, hS, r1, e1, fun σ1 H1 ρ1 x1 E1 s1 => ⟨env1, S1, ρ1, ds, env', S', E1, s1, r2.mono x1, hb, fun σ2 H2 ρ2 x2 E2 s2 => hQ σ2 H2 ρ2 (x1.trans x2) E2 s2⟩⟩
theorem asg_sub {o i : Expr} {ri : CE} (h : cE n c i = some ri) (env : PySem.Env) (v : Value) : assign (.Subscript o i pos) env v = (do
      let ov ← holding [v] (eval o env)
      let iv ← holding [v, ov] (eval i env)
      standAt pos
      holding [v, ov, iv] (setItem ov iv v)
      release [v, ov, iv] []) := by
  cases n with
  | zero => cases h
  | succ n => cases i <;> first | rfl | cases h
theorem pgt_sub {o i : Expr} {ro ri : CE} (hE : SE T k n) (C : Ctx T k c X) (ho : cE n c o = some ro) (hi : cE n c i = some ri) : PG X (.Subscript o i pos) (gT (callT T k) X.K (.ix ro ri)) := by
  refine (pg_sub (pe_push (hE c X o ro C ho)) (pe_push (hE c X i ri C hi)) set_list (asg_sub hi X.env)).imp fun v σ H Q q => ?_
  obtain ⟨env, S, ρ, d, env', S', hEn, hS, rv, he, hQ⟩ := q
  unfold asgT at he
  split at he
  · rename_i nn S1 e1
    split at he
    · rename_i kk S2 e2
      split at he
      · rename_i xs hx
        split at he
        · rename_i j hj
          cases he
          refine ⟨env, S, ρ, _, S1, hEn, hS, e1, fun ov H1 ρ1 x1 s1 r1 => ⟨env, S1, ρ1, _, S2, hEn.mono x1, s1, e2, fun iv H2 ρ2 x2 s2 r2 => ?_⟩⟩
          obtain ⟨a, vs, h1, h2, h3⟩ := s2.lst hx
          obtain ⟨b, rfl, hb⟩ := r1
          have hb2 := x2.get hb
          rw [hb2] at h1; cases h1
          have ex : Ext X.K H2 ρ2 (upd H2 _ (.lst (vs.set j v))) ρ2 := .write (List.mem_of_getElem? hb2) h2
          refine ⟨_, vs, kk, j, rfl, r2, h2, by rw [h3.length]; exact hj, ?_⟩
          have rv2 := (rv.mono x1).mono x2
          exact hQ σ _ ρ2 ((x1.trans x2).trans ex) (((hEn.mono x1).mono x2).mono ex) (s2.write hx hb2 h2 (h3.set j rv2))
        · cases he
      · cases he
    · cases he
  · cases he
theorem asgTs_len {cl : Nat → List D → Store → Option (D × Store)} : ∀ {ps : List Tg} {ds : List D} {env env' : Env} {S S' : Store}, asgTs cl ps ds env S = some (env', S') → ps.length = ds.length
  | [], [], _, _, _, _, _ => rfl
  | [], _ :: _, _, _, _, _, h => by cases h
  | _ :: _, [], _, _, _, _, h => by cases h
  | p :: ps, d :: ds, env, env', S, S', h => by
    unfold asgTs at h
    cases e1 : asgT cl p d env S with
    | none => simp [e1] at h
    | some z => simp only [e1] at h; simp [asgTs_len h]
theorem pgt_of (hE : ∀ n, SE T k n) (C : Ctx T k c X) : ∀ (n : Nat) (e : Expr) (p : Tg), cT n c e = some p → PG X e (gT (callT T k) X.K p)
  | 0, _, _, h => by cases h
  | n + 1, e, p, h => by
    cases e with
    | Name x ps =>
      simp only [cT] at h
      split at h
      · rename_i hs
        obtain ⟨i, hi, rfl⟩ := one_inv h
        obtain ⟨h1, h2⟩ := C.loc hs
        refine (pg_name C.ndX (C.ix hi) h1 h2).imp fun v σ H Q q => ?_
        obtain ⟨env, S, ρ, d, env', S', hE, hS, hl, hb, hQ⟩ := q
        cases hb
        exact hQ _ H ρ .refl (hE.set i hl) hS
      · cases h
    | Tuple es j ps =>
      simp only [cT] at h
      obtain ⟨rs, hr, rfl⟩ := one_inv h
      obtain ⟨l1, l2⟩ := asg_len (env := X.env) (mapT_star hr)
      refine (pg_tup C.calm (pgts_of (pgt_of hE C n) hr) l1 l2).imp fun v σ H Q q => ?_
      obtain ⟨env, S, ρ, d, env', S', hEn, hS, hl, hb, hQ⟩ := q
      cases d with
      | tup ds =>
        obtain ⟨a, vs, rfl, h1, h2⟩ := hl
        refine ⟨a, vs, rfl, h1, ?_, env, S, ρ, ds, env', S', hEn, hS, h2, hb, hQ⟩
        rw [h2.length, mapO_len hr]
        exact (asgTs_len hb).symm
      | _ => cases hb
    | Subscript o i ps =>
      simp only [cT] at h
      split at h
      · cases h
      · obtain ⟨ro, ri, ho, hi, rfl⟩ := two_inv h
        exact pgt_sub (hE n) C ho hi
    | _ => cases h
end Pv

/-! Statements, one form after another. -/
namespace Pv
open PySem PySem.Spec PyProof.Rows L2
variable {T : Nat → Option FunC} {k n : Nat} {c : Sc} {X : Cx} {pos : Pos}

theorem sw_false {e : Expr} {t : Option Expr} {l : Nat} {env : PySem.Env} (h : notComp e = true) : swapsWith e t l env = pure false := by
  cases e <;> first | rfl | cases h
theorem s_ret {e : Expr} {r : CE} (hE : ∀ n, SE T k n) (C : Ctx T k c X) (h : cE n c e = some r) : PS X (.Return (some e) pos) (tSt (callT T k) X.K (.ret r)) :=
  (ps_ret (pe_push (hE n c X e r C h))).imp fun D σ H q => by
    obtain ⟨env, S, ρ, fl, env', S', hEn, hS, he, hQ⟩ := q
    simp only [ex] at he
    cases e1 : pushR (ev (callT T k) r env S) with
    | none => simp [e1] at he
    | some z =>
      obtain ⟨d, S1⟩ := z
      simp only [e1] at he
      cases he
      exact ⟨env, S, ρ, d, _, hEn, hS, e1, fun v H1 ρ1 x1 s1 r1 => hQ σ H1 ρ1 x1 (hEn.mono x1) s1 v r1⟩
theorem s_retn : PS X (.Return none pos) (tSt (callT T k) X.K .retn) :=
  ps_retN.imp fun D σ H q => by
    obtain ⟨env, S, ρ, fl, env', S', hEn, hS, he, hQ⟩ := q
    simp only [ex] at he
    cases he
    exact hQ σ H ρ .refl hEn hS .non rfl
theorem s_nx {st : Stmt} (h : PS X st tNext) : PS X st (tSt (callT T k) X.K .pass) :=
  h.imp fun D σ H q => by
    obtain ⟨env, S, ρ, fl, env', S', hEn, hS, he, hQ⟩ := q
    simp only [ex] at he
    cases he
    exact hQ σ H ρ .refl hEn hS
theorem s_brk : PS X (.Break pos) (tSt (callT T k) X.K .brk) :=
  ps_break.imp fun D σ H q => by
    obtain ⟨env, S, ρ, fl, env', S', hEn, hS, he, hQ⟩ := q
    simp only [ex] at he
    cases he
    exact hQ σ H ρ .refl hEn hS
theorem s_cnt : PS X (.Continue pos) (tSt (callT T k) X.K .cnt) :=
  ps_continue.imp fun D σ H q => by
    obtain ⟨env, S, ρ, fl, env', S', hEn, hS, he, hQ⟩ := q
    simp only [ex] at he
    cases he
    exact hQ σ H ρ .refl hEn hS
theorem s_never {st : Stmt} : PS X st (tSt (callT T k) X.K .never) :=
  ps_never.imp fun D σ H q => by
    obtain ⟨env, S, ρ, fl, env', S', hEn, hS, he, hQ⟩ := q
    cases he
theorem s_expr {e : Expr} {r : CE} (hE : ∀ n, SE T k n) (C : Ctx T k c X) (hc : notComp e = true) (h : cE n c e = some r) : PS X (.Expr e pos) (tSt (callT T k) X.K (.expr r)) :=
  (ps_expr (pe_push (hE n c X e r C h)) (sw_false hc)).imp fun D σ H q => by
    obtain ⟨env, S, ρ, fl, env', S', hEn, hS, he, hQ⟩ := q
    simp only [ex] at he
    cases e1 : pushR (ev (callT T k) r env S) with
    | none => simp [e1] at he
    | some z =>
      obtain ⟨d, S1⟩ := z
      simp only [e1] at he
      cases he
      exact ⟨env, S, ρ, d, _, hEn, hS, e1, fun v H1 ρ1 x1 s1 r1 => hQ σ H1 ρ1 x1 (hEn.mono x1) s1⟩
/-- the reading of target = value -/
theorem asg_read {t : Tg} {r : CE} (D : Ends) (σ : L2.St) (H : Hp) (q : tSt (callT T k) X.K (.asg t r) D σ H) : tAsg (tP (callT T k) X.K r) (gT (callT T k) X.K t) D σ H := by
  obtain ⟨env, S, ρ, fl, env', S', hEn, hS, he, hQ⟩ := q
  simp only [ex] at he
  cases e1 : pushR (ev (callT T k) r env S) with
  | none => simp [e1] at he
  | some z =>
    obtain ⟨d, S1⟩ := z
    simp only [e1] at he
    cases e2 : asgT (callT T k) t d env S1 with
    | none => simp [e2] at he
    | some z2 =>
      obtain ⟨env2, S2⟩ := z2
      simp only [e2] at he
      cases he
      exact ⟨env, S, ρ, d, S1, hEn, hS, e1, fun v H1 ρ1 x1 s1 r1 => ⟨env, S1, ρ1, d, _, _, hEn.mono x1, s1, r1, e2, fun σ2 H2 ρ2 x2 E2 s2 => hQ σ2 H2 ρ2 (x1.trans x2) E2 s2⟩⟩
theorem asg_readN {i : Nat} {r : CE} (D : Ends) (σ : L2.St) (H : Hp) (q : tSt (callT T k) X.K (.asg (.nm i) r) D σ H) : tAsg (tP (callT T k) X.K r) (gName i) D σ H := by
  obtain ⟨env, S, ρ, d, S1, hEn, hS, e1, h⟩ := asg_read D σ H q
  refine ⟨env, S, ρ, d, S1, hEn, hS, e1, fun v H1 ρ1 x1 s1 r1 => ?_⟩
  obtain ⟨env', S', ρ', d', env2, S2, hE', hS', rv, he, hQ⟩ := h v H1 ρ1 x1 s1 r1
  cases he
  exact hQ _ H1 ρ' .refl (hE'.set i rv) hS'
/-- a target that is no name or a value that is no comprehension -/
theorem s_asg {tg e : Expr} {t : Tg} {r : CE} (hE : ∀ n, SE T k n) (C : Ctx T k c X) (hc : notComp e = true ∨ ∀ x p, tg ≠ .Name x p) (ht : cT n c tg = some t) (h : cE n c e = some r) (hw : swappedStores [tg] e X.env = pure none) :
    PS X (.Assign [tg] e pos) (tSt (callT T k) X.K (.asg t r)) := by
  refine (ps_asg (pe_push (hE n c X e r C h)) (pgt_of hE C n tg t ht) ?_ hw (by rw [asg_cons (cT_star ht)]; rfl)).imp asg_read
  unfold swapsWithSole
  rcases hc with hc | hc
  · exact sw_false hc
  · cases n with
    | zero => cases ht
    | succ n => cases tg <;> first | exact absurd rfl (hc _ _) | cases ht | (cases e <;> rfl)
theorem sw_name {x : Str} {p : Pos} {e : Expr} {env : PySem.Env} : swappedStores [.Name x p] e env = pure none := by cases e <;> rfl

theorem s_lc1 {i : Nat} {y : Str} {py : Pos} {elt tg it : Expr} {ifs : List Expr} {scope : Scope} {pv : Pos} {r : CE} (hE : SE T k n) (hT : ST T k n) (C : Ctx T k c X) (hi : X.N[i]? = some y) (hy : X.env.scope.names.lookup y = some .local)
    (hsw : swapsWith (.ListComp elt [⟨tg, it, ifs, 0⟩] scope pv) (some (.Name y py)) pos.line X.env = pure true) (h : cL (cE n) n c (.ListComp elt [⟨tg, it, ifs, 0⟩] scope pv) = some r) :
    PS X (.Assign [.Name y py] (.ListComp elt [⟨tg, it, ifs, 0⟩] scope pv) pos) (tAsg (tR (callT T k) X.K r) (gName i)) := by
  simp only [cL] at h
  split at h
  · rename_i hb
    simp only [Bool.and_eq_true] at hb
    have ok := blkB_ok hb.1
    split at h
    · rename_i ci p cs e h1 h2 h3 h4
      split at h
      · rename_i hp
        cases h
        have hp' : ∀ j ∈ p.slots, j ∈ (ownOf c.N scope).map (·.2) := fun j hj => of_decide_eq_true (List.all_eq_true.mp hp j hj)
        rw [← C.names, ← C.scope] at ok
        refine (ps_setLc (g := gP X.K p) (tt := tTests (callT T k) X.K cs) (te := tP (callT T k) X.K e) C.calm C.ndX hi hy hsw (pi_of hE C h1) ok (fun s H A cl fp => pg_of (C.blk ok.kind s H A cl fp) n tg p h2) (fun s H A cl fp => pts_of hT (C.blk ok.kind s H A cl fp) h3 hb.2) (fun s H A cl fp => pe_push (hE _ _ elt e (C.blk ok.kind s H A cl fp) h4)) (cI_set h1 _)).imp ?_
        rw [C.names]
        exact fun D σ H q => lc_read hp' _ _ _ q
      · cases h
    · cases h
  · cases h
theorem s_lc2 {i : Nat} {y : Str} {py : Pos} {elt tg it tg1 it1 : Expr} {ifs ifs1 : List Expr} {scope : Scope} {pv : Pos} {r : CE} (hE : SE T k n) (hT : ST T k n) (C : Ctx T k c X) (hi : X.N[i]? = some y) (hy : X.env.scope.names.lookup y = some .local)
    (hsw : swapsWith (.ListComp elt [⟨tg, it, ifs, 0⟩, ⟨tg1, it1, ifs1, 0⟩] scope pv) (some (.Name y py)) pos.line X.env = pure true) (h : cL (cE n) n c (.ListComp elt [⟨tg, it, ifs, 0⟩, ⟨tg1, it1, ifs1, 0⟩] scope pv) = some r) :
    PS X (.Assign [.Name y py] (.ListComp elt [⟨tg, it, ifs, 0⟩, ⟨tg1, it1, ifs1, 0⟩] scope pv) pos) (tAsg (tR (callT T k) X.K r) (gName i)) := by
  simp only [cL] at h
  split at h
  · rename_i hb
    simp only [Bool.and_eq_true] at hb
    have ok := blkB_ok hb.1
    split at h
    · rename_i ci p cs ci1 p1 cs1 e h1 h2 h3 h4 h5 h6 h7
      split at h
      · rename_i hp
        cases h
        simp only [Bool.and_eq_true] at hp
        have hp' : ∀ j ∈ p.slots, j ∈ (ownOf c.N scope).map (·.2) := fun j hj => of_decide_eq_true (List.all_eq_true.mp hp.1 j hj)
        have hp1 : ∀ j ∈ p1.slots, j ∈ (ownOf c.N scope).map (·.2) := fun j hj => of_decide_eq_true (List.all_eq_true.mp hp.2 j hj)
        rw [← C.names, ← C.scope] at ok
        refine (ps_setLc2 (wi1 := tI (callT T k) X.K ci1) (g := gP X.K p) (g1 := gP X.K p1) (tt := tTests (callT T k) X.K cs) (tt1 := tTests (callT T k) X.K cs1) (te := tP (callT T k) X.K e) (vs1 := p1.slots) C.calm C.ndX hi hy hsw (pi_of hE C h1) ok (by rw [C.names]; exact hp1) (fun s H A cl fp => pg_of (C.blk ok.kind s H A cl fp) n tg p h2) (fun s H A cl fp => pts_of hT (C.blk ok.kind s H A cl fp) h3 hb.2.1)
          (fun s H A cl fp => pi_of hE (C.blk ok.kind s H A cl fp) h4) (fun s H A cl fp => pg_of (C.blk ok.kind s H A cl fp) n tg1 p1 h5) (fun s H A cl fp => pts_of hT (C.blk ok.kind s H A cl fp) h6 hb.2.2)
          (fun s H A cl fp => pe_push (hE _ _ elt e (C.blk ok.kind s H A cl fp) h7)) (cI_set h1 _) (cI_set h4)).imp ?_
        rw [C.names]
        exact fun D σ H q => lc2_read hp' _ _ _ q
      · cases h
    · cases h
  · cases h
/-- a new list's value, kept nowhere but under the name -/
theorem push_of {cl : Nat → List D → Store → Option (D × Store)} {K : PySem.W.Frag} {r : CE} (σ : L2.St) (H : Hp) (Q : VK) (q : tP cl K r σ H Q) : tR cl K r σ H Q := by
  obtain ⟨env, S, ρ, d, S', hE, hS, he, hQ⟩ := q
  cases e1 : ev cl r env S with
  | none => rw [e1] at he; cases he
  | some z =>
    obtain ⟨z, S1⟩ := z
    rw [e1] at he
    refine ⟨env, S, ρ, z, S1, hE, hS, e1, fun v H' ρ' ex st rr => ?_⟩
    cases z with
    | v d' => cases he; exact hQ v H' ρ' ex st rr
    | s ds =>
      cases he
      obtain ⟨a, vs, rfl, h1, h2, h3, h4⟩ := rr
      refine hQ _ H' (ρ' ++ [a]) (ex.push h2) (st.push h1 h3 h4) ⟨a, rfl, ?_⟩
      rw [← st.len, List.getElem?_append_right (Nat.le_refl _)]; simp
/-- name = [..] -/
theorem s_asgLc {x : Str} {py : Pos} {elt : Expr} {gs : List Comprehension} {scope : Scope} {pv : Pos} {t : Tg} {r : CE} (hE : ∀ n, SE T k n) (hT : ∀ n, ST T k n) (C : Ctx T k c X)
    (ht : cT n c (.Name x py) = some t) (h : cE n c (.ListComp elt gs scope pv) = some r) : PS X (.Assign [.Name x py] (.ListComp elt gs scope pv) pos) (tSt (callT T k) X.K (.asg t r)) := by
  cases n with
  | zero => cases h
  | succ n =>
  simp only [cT] at ht
  split at ht
  · rename_i hs
    obtain ⟨i, hi, rfl⟩ := one_inv ht
    obtain ⟨l1, l2⟩ := C.loc hs
    have hb : X.env.blockKind = .function := by unfold Env.blockKind; rw [C.scope, C.kind]; rfl
    have hsw : swapsWith (.ListComp elt gs scope pv) (some (.Name x py)) pos.line X.env = pure (X.env.kindOf x == some .local && py.line == pv.line && !(scope.names.any fun (n, k) => n == x && (k == .local || k == .cell))) := by
      unfold swapsWith
      simp only [hb]
      rfl
    cases hv : (X.env.kindOf x == some NameKind.local && py.line == pv.line && !(scope.names.any fun (n, k) => n == x && (k == .local || k == .cell))) with
    | false =>
      rw [hv] at hsw
      exact (ps_set C.ndX (C.ix hi) l1 (pe_push (hE (n + 1) c X _ r C h)) hsw l2).imp asg_readN
    | true =>
      rw [hv] at hsw
      simp only [Bool.and_eq_true, beq_iff_eq] at hv
      have hy : X.env.scope.names.lookup x = some .local := hv.1.1
      have h : cL (cE n) n c (.ListComp elt gs scope pv) = some r := h
      have go : PS X (.Assign [.Name x py] (.ListComp elt gs scope pv) pos) (tAsg (tR (callT T k) X.K r) (gName i)) := by
        have h0 := h
        unfold cL at h
        split at h
        · rename_i heq; cases heq; exact s_lc1 (hE n) (hT n) C (C.ix hi) hy hsw h0
        · rename_i heq; cases heq; exact s_lc2 (hE n) (hT n) C (C.ix hi) hy hsw h0
        · cases h
      exact go.imp fun D σ H q => push_of _ _ _ (asg_readN D σ H q)
  · cases ht
end Pv

/-! Statements, all of them. -/
namespace Pv
open PySem PySem.Spec PyProof.Rows L2
variable {T : Nat → Option FunC} {k n : Nat} {c : Sc} {X : Cx} {pos : Pos}

theorem s_aug {x : Str} {py : Pos} {op : Operator} {e : Expr} {i : Nat} {r : CE} (hE : ∀ n, SE T k n) (C : Ctx T k c X) (hs : sto c x = true) (ho : okAug op = true) (hi : ixOf c.N x = some i) (h : cE n c e = some r) :
    PS X (.AugAssign (.Name x py) op e pos) (tSt (callT T k) X.K (.aug i op r)) := by
  obtain ⟨l1, l2⟩ := C.loc hs
  refine (ps_aug C.ndX (C.ix hi) l1 (hE n c X e r C h) (iop_ar op ho) l2).imp fun D σ H q => ?_
  obtain ⟨env, S, ρ, fl, env', S', hEn, hS, he, hQ⟩ := q
  simp only [ex] at he
  split at he
  · rename_i x0 hx0
    split at he
    · rename_i y0 S1 e1
      obtain ⟨z, e2, e3⟩ := one_inv he
      cases e3
      obtain ⟨v, g1, g2⟩ := hEn.2 i _ hx0
      refine ⟨v, g1, env, S, ρ, _, _, hEn, hS, e1, fun u H1 ρ1 x1 s1 r1 => ⟨x0, y0, z, g2, r1, e2, ?_⟩⟩
      exact hQ _ H1 ρ1 x1 ((hEn.mono x1).set i rfl) s1
    · cases he
  · cases he
theorem swapN_loc {ts vs : List Expr} {ns : List Str} (h : swapN ts vs c = some (some ns)) : ∀ x ∈ ns, c.sc.names.lookup x = some .local := by
  unfold swapN at h
  split at h
  · cases h
  · split at h
    · cases h
    · dsimp only at h
      split at h
      · cases h
      · split at h
        · cases h
        · split at h
          · cases h
          · cases h
            intro x hx
            obtain ⟨e, he, hx⟩ := List.mem_filterMap.mp hx
            split at hx
            · split at hx
              · rename_i hc
                cases hx
                simp only [Bool.and_eq_true, beq_iff_eq] at hc
                exact hc.1
              · cases hx
            · cases hx
theorem two_len {α : Type} {l : List α} (h : l.length = 2) : ∃ a b, l = [a, b] := by
  match l, h with
  | [a, b], _ => exact ⟨a, b, rfl⟩
theorem three_len {α : Type} {l : List α} (h : l.length = 3) : ∃ a b c, l = [a, b, c] := by
  match l, h with
  | [a, b, c], _ => exact ⟨a, b, c, rfl⟩
theorem s_par2 {x y : Str} {px py p1 p2 : Pos} {k1 k2 : Nat} {vs : List Expr} {i j : Nat} {a b : CE} (hE : ∀ n, SE T k n) (C : Ctx T k c X) (hw : swapN [.Name x px, .Name y py] vs c = some (some [x, y])) (hi : mapO (ixOf c.N) [x, y] = some [i, j]) (hij : i ≠ j) (h : mapO (cE n c) vs = some [a, b]) :
    PS X (.Assign [.Tuple [.Name x px, .Name y py] k1 p1] (.Tuple vs k2 p2) pos) (tSt (callT T k) X.K (.par2 i j a b)) := by
  obtain ⟨v1, v2, rfl⟩ := two_len (mapO_len h)
  obtain ⟨_, _, e0, hx, h2⟩ := mapO_cons hi
  obtain ⟨_, _, e1, hy, _⟩ := mapO_cons h2
  cases e0; cases e1
  have hl := swapN_loc hw
  refine (ps_par C.calm C.ndX (C.ix hx) (C.ix hy) hij (by rw [C.scope]; exact hl x (by simp)) (by rw [C.scope]; exact hl y (by simp)) (pa_of (hE n) C h) (sw_eq C hw)).imp fun D σ H q => ?_
  obtain ⟨env, S, ρ, fl, env', S', hEn, hS, he, hQ⟩ := q
  simp only [ex] at he
  cases e1 : pushR (ev (callT T k) a env S) with
  | none => simp [e1] at he
  | some z1 =>
    obtain ⟨d1, S1⟩ := z1
    simp only [e1] at he
    cases e2 : pushR (ev (callT T k) b env S1) with
    | none => simp [e2] at he
    | some z2 =>
      obtain ⟨d2, S2⟩ := z2
      simp only [e2] at he
      cases he
      refine ⟨env, S, ρ, [d1, d2], S', hEn, hS, by simp [evs, e1, e2], fun vs H1 ρ1 x1 s1 r1 => ?_⟩
      obtain ⟨w1, rest, rfl, q1, w2, rest2, rfl, q2, rfl⟩ := r1
      exact ⟨w1, w2, rfl, hQ _ H1 ρ1 x1 (((hEn.mono x1).set i q1).set j q2) s1⟩
theorem s_par3 {x y z : Str} {px py pz p1 p2 : Pos} {k1 k2 : Nat} {vs : List Expr} {i j l : Nat} {a b d : CE} (hE : ∀ n, SE T k n) (C : Ctx T k c X) (hw : swapN [.Name x px, .Name y py, .Name z pz] vs c = some (some [x, y, z])) (hi : mapO (ixOf c.N) [x, y, z] = some [i, j, l]) (hij : i ≠ j) (hil : i ≠ l) (hjl : j ≠ l) (h : mapO (cE n c) vs = some [a, b, d]) :
    PS X (.Assign [.Tuple [.Name x px, .Name y py, .Name z pz] k1 p1] (.Tuple vs k2 p2) pos) (tSt (callT T k) X.K (.par3 i j l a b d)) := by
  obtain ⟨v1, v2, v3, rfl⟩ := three_len (mapO_len h)
  obtain ⟨_, _, e0, hx, h2⟩ := mapO_cons hi
  obtain ⟨_, _, e1, hy, h3⟩ := mapO_cons h2
  obtain ⟨_, _, e2, hz, _⟩ := mapO_cons h3
  cases e0; cases e1; cases e2
  have hl := swapN_loc hw
  refine (ps_par3 C.calm C.ndX (C.ix hx) (C.ix hy) (C.ix hz) hij hil hjl (by rw [C.scope]; exact hl x (by simp)) (by rw [C.scope]; exact hl y (by simp)) (by rw [C.scope]; exact hl z (by simp)) (pa_of (hE n) C h) (sw_eq C hw)).imp fun D σ H q => ?_
  obtain ⟨env, S, ρ, fl, env', S', hEn, hS, he, hQ⟩ := q
  simp only [ex] at he
  cases e1 : pushR (ev (callT T k) a env S) with
  | none => simp [e1] at he
  | some z1 =>
    obtain ⟨d1, S1⟩ := z1
    simp only [e1] at he
    cases e2 : pushR (ev (callT T k) b env S1) with
    | none => simp [e2] at he
    | some z2 =>
      obtain ⟨d2, S2⟩ := z2
      simp only [e2] at he
      cases e3 : pushR (ev (callT T k) d env S2) with
      | none => simp [e3] at he
      | some z3 =>
        obtain ⟨d3, S3⟩ := z3
        simp only [e3] at he
        cases he
        refine ⟨env, S, ρ, [d1, d2, d3], S', hEn, hS, by simp [evs, e1, e2, e3], fun vs H1 ρ1 x1 s1 r1 => ?_⟩
        obtain ⟨w1, rest, rfl, q1, w2, rest2, rfl, q2, w3, rest3, rfl, q3, rfl⟩ := r1
        exact ⟨w1, w2, w3, rfl, hQ _ H1 ρ1 x1 ((((hEn.mono x1).set i q1).set j q2).set l q3) s1⟩
theorem s_ite {t : Expr} {a b : List Stmt} {rt : CE} {ra rb : List CS} (hp : PassesOwn (model X.prog X.w) X.A X.env X.xe) (hT : ∀ n, ST T k n) (hS : SS T k n) (C : Ctx T k c X) (h1 : cE n c t = some rt) (h2 : mapO (cS n c) a = some ra) (h3 : mapO (cS n c) b = some rb) :
    PS X (.If t a b pos) (tSt (callT T k) X.K (.ite rt ra rb)) :=
  (ps_if (hT n c X t rt C h1) (pss_of hS C hp h2) (pss_of hS C hp h3)).imp fun D σ H q => by
    obtain ⟨env, S, ρ, fl, env', S', hEn, hS, he, hQ⟩ := q
    simp only [ex] at he
    cases e1 : tst (callT T k) rt env S with
    | none => simp [e1] at he
    | some z =>
      obtain ⟨bv, S1⟩ := z
      refine ⟨env, S, ρ, bv, S1, hEn, hS, e1, fun H1 ρ1 x1 s1 => ?_⟩
      cases bv with
      | true => simp only [e1] at he; rw [if_pos rfl]; exact ⟨env, S1, ρ1, fl, env', S', hEn.mono x1, s1, he, hQ.mono x1⟩
      | false => simp only [e1] at he; rw [if_neg Bool.false_ne_true]; exact ⟨env, S1, ρ1, fl, env', S', hEn.mono x1, s1, he, hQ.mono x1⟩
theorem s_whl {t : Expr} {a : List Stmt} {rt : CE} {ra : List CS} (hp : PassesOwn (model X.prog X.w) X.A X.env X.xe) (hT : ∀ n, ST T k n) (hS : SS T k n) (C : Ctx T k c X) (h1 : cE n c t = some rt) (h2 : mapO (cS n c) a = some ra) :
    PS X (.While t a [] pos) (tSt (callT T k) X.K (.whl rt ra)) :=
  (ps_while hp (hT n c X t rt C h1) (pss_of hS C hp h2)).imp fun D σ H q => by
    obtain ⟨env, S, ρ, fl, env', S', hEn, hS, he, hQ⟩ := q
    simp only [ex] at he
    refine ⟨fun m σ Hc => ∃ env S ρc, Ext X.K H ρ Hc ρc ∧ RepE X.K Hc ρc env σ ∧ RepS X.K Hc ρc S ∧ whileL (tst (callT T k) rt) (exs (callT T k) ra) m env S = some (fl, env', S'), ⟨whileFuel, env, S, ρ, .refl, hEn, hS, he⟩, ?_⟩
    rintro m σ Hc ⟨env, S, ρc, xc, hEn, hS, he⟩
    cases m with
    | zero => cases he
    | succ m =>
      unfold whileL at he
      cases e1 : tst (callT T k) rt env S with
      | none => simp [e1] at he
      | some z =>
        obtain ⟨bv, S1⟩ := z
        refine ⟨env, S, ρc, bv, S1, hEn, hS, e1, fun H1 ρ1 x1 s1 => ?_⟩
        cases bv with
        | false =>
          simp only [e1] at he
          cases he
          rw [if_neg Bool.false_ne_true]
          exact hQ σ H1 ρ1 (xc.trans x1) (hEn.mono x1) s1
        | true =>
          simp only [e1] at he
          rw [if_pos rfl]
          refine ⟨fun σ Hd => ∃ env S ρd, Ext X.K H ρ Hd ρd ∧ RepE X.K Hd ρd env σ ∧ RepS X.K Hd ρd S ∧ whileL (tst (callT T k) rt) (exs (callT T k) ra) m env S = some (fl, env', S'), fun σ' H' h => ⟨m, Nat.lt_succ_self _, h⟩, ?_⟩
          cases e2 : exs (callT T k) ra env S1 with
          | none => simp [e2] at he
          | some w =>
            obtain ⟨f1, env1, S2⟩ := w
            refine ⟨env, S1, ρ1, f1, env1, S2, hEn.mono x1, s1, e2, fun σ2 H2 ρ2 x2 E2 s2 => ?_⟩
            have xx := (xc.trans x1).trans x2
            cases f1 with
            | nx => simp only [e2] at he; exact ⟨env1, S2, ρ2, xx, E2, s2, he⟩
            | ct => simp only [e2] at he; exact ⟨env1, S2, ρ2, xx, E2, s2, he⟩
            | bk => simp only [e2] at he; cases he; exact hQ σ2 H2 ρ2 xx E2 s2
            | rt d => simp only [e2] at he; cases he; exact hQ σ2 H2 ρ2 xx E2 s2
theorem s_for {tg it : Expr} {a : List Stmt} {p : Pat} {ci : CI} {ra : List CS} (hp : PassesOwn (model X.prog X.w) X.A X.env X.xe) (hE : ∀ n, SE T k n) (hS : SS T k n) (C : Ctx T k c X) (h1 : cP n c tg = some p) (h2 : cI (cE n) c (isTupE tg) it = some ci) (h3 : mapO (cS n c) a = some ra) :
    PS X (.For tg it a [] pos) (tSt (callT T k) X.K (.forr p ci ra)) :=
  (ps_for hp C.calm (pi_of (hE n) C h2) (pg_of C n tg p h1) (pss_of hS C hp h3) (cI_set h2 _)).imp fun D σ H q => by
    obtain ⟨env, S, ρ, fl, env', S', hEn, hS, he, hQ⟩ := q
    simp only [ex] at he
    cases e1 : evi (callT T k) ci env S with
    | none => simp [e1] at he
    | some w1 =>
      obtain ⟨di, S1⟩ := w1
      simp only [e1] at he
      refine ⟨env, S, ρ, di, S1, hEn, hS, e1, fun J H1 ρ1 x1 s1 rel _ => ?_⟩
      have rel := rel [] (by simp)
      generalize hf : (fun (x : Pv.D) (env : Env) (S : Store) => (match bindP p x env with | some env' => exs (callT T k) ra env' S | none => none)) = f at he
      refine ⟨fun i m σ Hc => ∃ env S ρc, Ext X.K H1 ρ1 Hc ρc ∧ RepE X.K Hc ρc env σ ∧ RepS X.K Hc ρc S ∧ forL f di m i env S = some (fl, env', S'), ⟨di.len S1, env, S1, ρ1, .refl, hEn.mono x1, s1, he⟩, ?_⟩
      rintro i m σ Hc ⟨env, S, ρc, xc, hEn, hS, he⟩
      obtain ⟨g1, g2⟩ := rel i Hc ρc S xc.x hS
      by_cases hn : di.next S i = some none
      · have : fl = .nx ∧ env' = env ∧ S' = S := by
          cases m with
          | zero => unfold forL at he; simp only [hn] at he; cases he; exact ⟨rfl, rfl, rfl⟩
          | succ m => unfold forL at he; simp only [hn] at he; cases he; exact ⟨rfl, rfl, rfl⟩
        obtain ⟨rfl, rfl, rfl⟩ := this
        exact .inl ⟨g1 hn, hQ σ Hc ρc (x1.trans xc) hEn hS⟩
      · cases m with
        | zero =>
          unfold forL at he
          split at he
          · exact absurd (by assumption) hn
          · cases he
        | succ m =>
          unfold forL at he
          split at he
          · exact absurd (by assumption) hn
          · rename_i x hx
            obtain ⟨go, gy⟩ := g2 x hx
            refine .inr ⟨go, fun σ Hd => ∃ env S ρd, Ext X.K H1 ρ1 Hd ρd ∧ RepE X.K Hd ρd env σ ∧ RepS X.K Hd ρd S ∧ forL f di m (i + 1) env S = some (fl, env', S'), fun σ' H' h => ⟨m, Nat.lt_succ_self _, h⟩, fun xv H' y => ?_⟩
            obtain ⟨xy, sy, ry⟩ := gy xv H' y
            cases e2 : f x env S with
            | none => simp [e2] at he
            | some w =>
              obtain ⟨f1, env1, S2⟩ := w
              have e2' := e2
              rw [← hf] at e2'
              simp only at e2'
              cases e3 : bindP p x env with
              | none => simp [e3] at e2'
              | some env2 =>
                simp only [e3] at e2'
                refine ⟨env, ρc, x, env2, hEn.mono xy, ry, e3, fun σ2 hE2 _ _ => ⟨env2, S, ρc, f1, env1, S2, hE2, sy, e2', fun σ3 H3 ρ3 x3 E3 s3 => ?_⟩⟩
                have xx := (xc.trans xy).trans x3
                cases f1 with
                | nx => simp only [e2] at he; exact ⟨env1, S2, ρ3, xx, E3, s3, he⟩
                | ct => simp only [e2] at he; exact ⟨env1, S2, ρ3, xx, E3, s3, he⟩
                | bk => simp only [e2] at he; cases he; exact hQ σ3 H3 ρ3 (x1.trans xx) E3 s3
                | rt d => simp only [e2] at he; cases he; exact hQ σ3 H3 ρ3 (x1.trans xx) E3 s3
          · cases he
theorem s_asgs {tg v : Expr} {t : Tg} {r : CE} (hE : ∀ n, SE T k n) (hT : ∀ n, ST T k n) (C : Ctx T k c X) (ht : cT n c tg = some t) (hv : cE n c v = some r) (hw : swappedStores [tg] v X.env = pure none) :
    PS X (.Assign [tg] v pos) (tSt (callT T k) X.K (.asg t r)) := by
  by_cases hc : notComp v = true
  · exact s_asg hE C (.inl hc) ht hv hw
  · cases tg with
    | Name x p =>
      cases v with
      | ListComp => exact s_asgLc hE hT C ht hv
      | SetComp => cases n <;> cases hv
      | DictComp => cases n <;> cases hv
      | _ => exact absurd rfl hc
    | _ => exact s_asg hE C (.inr (fun _ _ h => by cases h)) ht hv hw
theorem sw_other {tg v : Expr} {env : PySem.Env} (h : (∀ ts k p, tg ≠ .Tuple ts k p) ∨ ∀ vs k p, v ≠ .Tuple vs k p) (hl : ∀ ts p, tg ≠ .List ts p) : swappedStores [tg] v env = pure none := by
  unfold swappedStores
  split
  · rename_i ts vs heq
    split at heq
    · rename_i e1; cases e1
      rcases h with h | h
      · exact absurd rfl (h _ _ _)
      · exact absurd rfl (h _ _ _)
    · rename_i e1; cases e1; exact absurd rfl (hl _ _)
    · cases heq
  · rfl
theorem cT_list {e : Expr} {t : Tg} (h : cT n c e = some t) : ∀ ts p, e ≠ .List ts p := by
  intro ts p e; subst e
  cases n <;> cases h
theorem cE_pm {e : Expr} {r : CE} (h : cE n c e = some r) : True := trivial
theorem tg_inv {tg v : Expr} {r : CS} (h : (match cT n c tg, cE n c v with | some t, some v => some (CS.asg t v) | _, _ => none) = some r) : ∃ t u, cT n c tg = some t ∧ cE n c v = some u ∧ r = .asg t u := by
  split at h
  · rename_i t u h1 h2; cases h; exact ⟨t, u, h1, h2, rfl⟩
  · cases h
theorem s_assign {tg v : Expr} {r : CS} (hE : ∀ n, SE T k n) (hT : ∀ n, ST T k n) (C : Ctx T k c X) (h : cS (n + 1) c (.Assign [tg] v pos) = some r) : PS X (.Assign [tg] v pos) (tSt (callT T k) X.K r) := by
  simp only [cS] at h
  split at h
  · rename_i ts k1 p1 vs k2 p2
    split at h
    · rename_i ns hns
      split at h
      · rename_i i j a b hi hv
        split at h
        · rename_i x px y py
          split at h
          · rename_i hd
            cases h
            simp only [Bool.and_eq_true, decide_eq_true_eq, Bool.not_eq_true', decide_eq_false_iff_not] at hd
            obtain ⟨rfl, hij⟩ := hd
            exact s_par2 hE C hns hi hij hv
          · cases h
        · cases h
      · rename_i i j l a b d hi hv
        split at h
        · rename_i x px y py z pz
          split at h
          · rename_i hd
            cases h
            simp only [Bool.and_eq_true, decide_eq_true_eq, Bool.not_eq_true', decide_eq_false_iff_not] at hd
            obtain ⟨rfl, hij, hil, hjl⟩ := hd
            exact s_par3 hE C hns hi hij hil hjl hv
          · cases h
        · cases h
      · cases h
    · rename_i hns
      obtain ⟨t, u, h1, h2, rfl⟩ := tg_inv h
      exact s_asgs hE hT C h1 h2 (sw_eq C hns)
    · cases h
  · rename_i hno
    obtain ⟨t, u, h1, h2, rfl⟩ := tg_inv h
    refine s_asgs hE hT C h1 h2 (sw_other ?_ (cT_list h1))
    by_cases hq : ∃ ts k p, tg = .Tuple ts k p
    · refine .inr fun vs k2 p2 e => ?_
      obtain ⟨ts, k1, p1, e1⟩ := hq
      exact hno _ _ _ _ _ _ e1 e
    · exact .inl fun ts k p e => hq ⟨ts, k, p, e⟩
theorem s_succ (hE : ∀ n, SE T k n) (hT : ∀ n, ST T k n) (hS : SS T k n) : SS T k (n + 1) := fun c X s r C hp h => by
  cases s with
  | Return e pos =>
    cases e with
    | none => cases h; exact s_retn
    | some e =>
      simp only [cS] at h
      obtain ⟨x, h1, rfl⟩ := one_inv h
      exact s_ret hE C h1
  | Expr e pos =>
    have go : ∀ e, cS (n + 1) c (.Expr e pos) = (if notComp e then (cE n c e).map .expr else none) → cS (n + 1) c (.Expr e pos) = some r → PS X (.Expr e pos) (tSt (callT T k) X.K r) := fun e e1 h => by
      rw [e1] at h
      split at h
      · rename_i hc
        obtain ⟨x, h1, rfl⟩ := one_inv h
        exact s_expr hE C hc h1
      · cases h
    cases e with
    | Constant kc j p =>
      cases kc with
      | str x => cases h; exact s_nx ps_doc
      | _ => exact go _ rfl h
    | _ => exact go _ rfl h
  | Assign ts v pos =>
    match ts, h with
    | [tg], h => exact s_assign hE hT C h
    | [], h => cases h
    | _ :: _ :: _, h => cases h
  | AugAssign tg op e pos =>
    cases tg with
    | Name x p =>
      simp only [cS] at h
      split at h
      · rename_i hs
        simp only [Bool.and_eq_true] at hs
        split at h
        · rename_i i e' h1 h2
          cases h
          exact s_aug hE C hs.1 hs.2 h1 h2
        · cases h
      · cases h
    | _ => cases h
  | If t a b pos =>
    simp only [cS] at h
    split at h
    · rename_i t' a' b' h1 h2 h3
      cases h
      exact s_ite hp hT hS C h1 h2 h3
    · cases h
  | While t a b pos =>
    cases b with
    | nil =>
      simp only [cS] at h
      split at h
      · rename_i t' a' h1 h2
        cases h
        exact s_whl hp hT hS C h1 h2
      · cases h
    | cons => cases h
  | For tg it a b pos =>
    cases b with
    | nil =>
      simp only [cS] at h
      split at h
      · rename_i p i a' h1 h2 h3
        cases h
        exact s_for hp hE hS C h1 h2 h3
      · cases h
    | cons => cases h
  | Pass pos => cases h; exact s_nx ps_pass
  | Break pos => cases h; exact s_brk
  | Continue pos => cases h; exact s_cnt
  | Raise => cases h; exact s_never
  | _ => cases h
theorem stmts_of (T : Nat → Option FunC) (k : Nat) : ∀ n, SS T k n
  | 0 => fun _ _ _ _ _ _ h => (by cases h)
  | n + 1 => s_succ (fun n => (all_of T k n).1) (fun n => (all_of T k n).2.1) (stmts_of T k n)
end Pv

/-! Calls: a call's own store, and what is let go behind it. -/
namespace Pv
open PySem PySem.Spec PyProof.Rows L2
section
variable {K : PySem.W.Frag} {H H' : Hp} {ρ ρ' ρ1 : List Addr} {S S' : Store}
mutual
theorem RepV.ofPure : ∀ {d : D} {v : L2.V}, d.pure = true → RepV K H ρ d v → RepV K H ρ1 d v
  | .non, _, _, h => h
  | .bl _, _, _, h => h
  | .int _, _, _, h => h
  | .str _, _, _, h => h
  | .tup ds, v, p, h => by
    obtain ⟨a, vs, e1, hs, hl⟩ := h
    exact ⟨a, vs, e1, hs, RepL.ofPure (show pures ds = true from p) hl⟩
  | .rol ds, v, p, h => by
    obtain ⟨a, vs, e1, hs, hl⟩ := h
    exact ⟨a, vs, e1, hs, RepL.ofPure (show pures ds = true from p) hl⟩
  | .loc n, v, p, h => by cases p
theorem RepL.ofPure : ∀ {ds : List D} {vs : List L2.V}, pures ds = true → RepL K H ρ ds vs → RepL K H ρ1 ds vs
  | [], _, _, h => h
  | d :: ds, vs, p, h => by
    obtain ⟨v, r, e1, h1, h2⟩ := h
    have p : (d.pure && pures ds) = true := p
    rw [Bool.and_eq_true] at p
    exact ⟨v, r, e1, RepV.ofPure p.1 h1, RepL.ofPure p.2 h2⟩
end
mutual
theorem RepV.ofUnder {t : List Addr} : ∀ {d : D} {v : L2.V}, d.under ρ.length = true → RepV K H (ρ ++ t) d v → RepV K H ρ d v
  | .non, _, _, h => h
  | .bl _, _, _, h => h
  | .int _, _, _, h => h
  | .str _, _, _, h => h
  | .tup ds, v, p, h => by
    obtain ⟨a, vs, e1, hs, hl⟩ := h
    exact ⟨a, vs, e1, hs, RepL.ofUnder (show unders _ ds = true from p) hl⟩
  | .rol ds, v, p, h => by
    obtain ⟨a, vs, e1, hs, hl⟩ := h
    exact ⟨a, vs, e1, hs, RepL.ofUnder (show unders _ ds = true from p) hl⟩
  | .loc n, v, p, h => by
    obtain ⟨a, e1, hs⟩ := h
    have p : Nat.blt n ρ.length = true := p
    have hn : n < ρ.length := Nat.le_of_ble_eq_true p
    exact ⟨a, e1, by rwa [List.getElem?_append_left hn] at hs⟩
theorem RepL.ofUnder {t : List Addr} : ∀ {ds : List D} {vs : List L2.V}, unders ρ.length ds = true → RepL K H (ρ ++ t) ds vs → RepL K H ρ ds vs
  | [], _, _, h => h
  | d :: ds, vs, p, h => by
    obtain ⟨v, r, e1, h1, h2⟩ := h
    have p : (d.under ρ.length && unders ρ.length ds) = true := p
    rw [Bool.and_eq_true] at p
    exact ⟨v, r, e1, RepV.ofUnder p.1 h1, RepL.ofUnder p.2 h2⟩
end
mutual
theorem RepV.shift : ∀ {d : D} {v : L2.V}, RepV K H ρ' d v → RepV K H (ρ ++ ρ') (d.shift ρ.length) v
  | .non, _, h => h
  | .bl _, _, h => h
  | .int _, _, h => h
  | .str _, _, h => h
  | .tup ds, v, h => by
    obtain ⟨a, vs, e1, hs, hl⟩ := h
    exact ⟨a, vs, e1, hs, RepL.shift hl⟩
  | .rol ds, v, h => by
    obtain ⟨a, vs, e1, hs, hl⟩ := h
    exact ⟨a, vs, e1, hs, RepL.shift hl⟩
  | .loc n, v, h => by
    obtain ⟨a, e1, hs⟩ := h
    refine ⟨a, e1, ?_⟩
    rw [List.getElem?_append_right (Nat.le_add_right _ _), Nat.add_sub_cancel_left]
    exact hs
theorem RepL.shift : ∀ {ds : List D} {vs : List L2.V}, RepL K H ρ' ds vs → RepL K H (ρ ++ ρ') (shifts ρ.length ds) vs
  | [], _, h => h
  | d :: ds, vs, h => by
    obtain ⟨v, r, e1, h1, h2⟩ := h
    exact ⟨v, r, e1, RepV.shift h1, RepL.shift h2⟩
end
theorem Ext.join (e : Ext K H [] H' ρ') (t : List Addr) (ht : ∀ a ∈ t, H a = none) : Ext K H ρ H' (ρ ++ t) :=
  ⟨⟨t, rfl, ht⟩, fun a o h _ => e.keep a o h (by simp), fun a _ h => by
    cases q : H a with
    | none => exact absurd q h
    | some o => rw [e.keep a o q (by simp)]; simp, e.tup, e.rol⟩
theorem RepO.shift {o : O} {a : Addr} (h : RepO K H ρ' o a) : RepO K H (ρ ++ ρ') (o.shift ρ.length) a := by
  cases o with
  | lst ds => obtain ⟨vs, h1, h2⟩ := h; exact ⟨vs, h1, h2.shift⟩
theorem Ext.fresh (e : Ext K H [] H' ρ') : ∀ a ∈ ρ', H a = none := by
  obtain ⟨t, rfl, ht⟩ := e.pre
  simpa using ht
theorem RepS.same (e : Ext K H [] H' ρ') (r : RepS K H ρ S) : RepS K H' ρ S :=
  r.mono_of (by simpa using e.join (ρ := ρ) [] (by simp)) fun a x _ h => e.keep a x h (by simp)
theorem RepS.have_ (r : RepS K H ρ S) {a : Addr} (h : a ∈ ρ) : H a ≠ none := by
  obtain ⟨n, hn, e⟩ := List.mem_iff_getElem.mp h
  have hS : n < S.length := by rw [← r.len]; exact hn
  obtain ⟨b, h1, h2⟩ := r.at_ n _ (List.getElem?_eq_getElem hS)
  rw [List.getElem?_eq_getElem hn, e] at h1
  cases h1
  cases q : S[n] with
  | lst ds => rw [q] at h2; obtain ⟨vs, h3, _⟩ := h2; rw [h3]; simp
theorem RepS.join (e : Ext K H [] H' ρ') (r : RepS K H ρ S) (r' : RepS K H' ρ' S') : RepS K H' (ρ ++ ρ') (S ++ S'.map (O.shift ρ.length)) := by
  have hf := e.fresh
  have r1 := r.same e
  refine ⟨by simp [r.len, r'.len], ?_, fun n o h => ?_⟩
  · rw [List.nodup_append]
    exact ⟨r.nd, r'.nd, fun x hx y hy z => r.have_ hx (by rw [z]; exact hf y hy)⟩
  · by_cases hlt : n < S.length
    · rw [List.getElem?_append_left hlt] at h
      obtain ⟨b, h1, h2⟩ := r1.at_ n o h
      exact ⟨b, by rw [List.getElem?_append_left (by rw [r.len]; exact hlt)]; exact h1, h2.grow _⟩
    · rw [List.getElem?_append_right (by omega), List.getElem?_map] at h
      cases q : S'[n - S.length]? with
      | none => rw [q] at h; cases h
      | some o' =>
        rw [q] at h; cases h
        obtain ⟨b, h1, h2⟩ := r'.at_ _ _ q
        exact ⟨b, by rw [List.getElem?_append_right (by rw [r.len]; omega), r.len]; exact h1, h2.shift⟩
theorem join_ok {d d' : D} {T : Store} {v : L2.V} (e : Ext K H [] H' ρ') (r : RepS K H ρ S) (r' : RepS K H' ρ' T) (rv : RepV K H' ρ' d v) (h : join S (some (d, T)) = some (d', S')) :
    ∃ ρ2, Ext K H ρ H' ρ2 ∧ RepS K H' ρ2 S' ∧ RepV K H' ρ2 d' v := by
  have hf := e.fresh
  have gen : d' = d.shift S.length → S' = S ++ T.map (O.shift S.length) → ∃ ρ2, Ext K H ρ H' ρ2 ∧ RepS K H' ρ2 S' ∧ RepV K H' ρ2 d' v := fun e1 e2 => by
    subst e1; subst e2
    rw [← r.len]
    exact ⟨ρ ++ ρ', e.join ρ' hf, r.join e r', rv.shift⟩
  unfold Pv.join at h
  dsimp only at h
  split at h
  · rename_i hp
    cases h
    exact ⟨ρ, by simpa using e.join (ρ := ρ) [] (by simp), r.same e, rv.ofPure hp⟩
  · split at h
    · rename_i i
      split at h
      · rename_i ds hd
        split at h
        · rename_i hp
          cases h
          obtain ⟨a, vs, h1, h2, h3⟩ := r'.lst hd
          obtain ⟨b, rfl, hb⟩ := rv
          rw [h1] at hb; cases hb
          have hn : H a = none := hf a (List.mem_of_getElem? h1)
          refine ⟨ρ ++ [a], e.join [a] (by simpa using hn), (r.same e).push h2 (fun z => r.have_ z hn) (h3.ofPure hp), a, rfl, ?_⟩
          rw [← r.len, List.getElem?_append_right (Nat.le_refl _)]; simp
        · cases h; exact gen rfl rfl
      · cases h; exact gen rfl rfl
    · cases h; exact gen rfl rfl
theorem tidy_ok {d d' : D} {T : Store} {v : L2.V} (e : Ext K H ρ H' ρ') (r : RepS K H ρ S) (r' : RepS K H' ρ' T) (rv : RepV K H' ρ' d v) (h : tidy S.length (some (d, T)) = some (d', S')) :
    ∃ ρ2, Ext K H ρ H' ρ2 ∧ RepS K H' ρ2 S' ∧ RepV K H' ρ2 d' v := by
  unfold tidy at h
  split at h
  · rename_i d0 T0 heq
    cases heq
    split at h
    · rename_i hu
      cases h
      simp only [Bool.and_eq_true, List.all_eq_true] at hu
      obtain ⟨t, rfl, ht⟩ := e.pre
      rw [← r.len] at hu
      refine ⟨ρ, ⟨⟨[], by simp, by simp⟩, e.keep, e.live, e.tup, e.rol⟩, ⟨?_, (List.nodup_append.mp r'.nd).1, fun n o ho => ?_⟩, rv.ofUnder hu.1⟩
      · have := r'.len
        rw [List.length_append] at this
        rw [List.length_take, ← r.len]; omega
      · have hlt := (List.getElem?_eq_some_iff.mp ho).1
        rw [List.length_take] at hlt
        have hn : n < S.length := by omega
        have ho' := ho
        rw [List.getElem?_take, if_pos hn] at ho
        obtain ⟨a, h1, h2⟩ := r'.at_ n o ho
        rw [List.getElem?_append_left (by rw [r.len]; exact hn)] at h1
        refine ⟨a, h1, ?_⟩
        have hm : o ∈ T.take ρ.length := List.mem_of_getElem? (by rw [r.len]; exact ho')
        have hu2 := hu.2 o hm
        cases o with
        | lst ds => obtain ⟨vs, h3, h4⟩ := h2; exact ⟨vs, h3, h4.ofUnder hu2⟩
    · cases h
      exact ⟨ρ', e, r', rv⟩
  · cases h
end
end Pv

/-! The defs of a program, and the law. -/
namespace Pv
open PySem PySem.Spec PyProof.Rows L2

/-- a def, its slots, its number -/
structure Df where
  d : He.DefD
  N : List Str
  ps : List Str
  f : Nat
/-- what a program has: its defs, its ints, the built-ins' names that it leaves free -/
structure Pk where
  fi : List (Str × Nat)
  gl : List (Str × Int)
  bi : List Str
def Pk.sc (p : Pk) (d : Df) : Sc := ⟨d.d.scope, d.N, none, fun x => p.fi.lookup x, fun x => p.gl.lookup x, fun x => p.bi.contains x⟩
def PlainArgs (d : Df) : Prop := ∀ (kV doc pm : Value) (an : Option Addr) (cdv ct : Value) (us : List Value), us.length = d.ps.length → bindArgs (PySem.W.fnOf d.d.name d.d.qual d.d.params d.d.body d.d.scope .none kV doc pm an cdv ct) ⟨us, []⟩ = pure (d.ps.zip us)
structure DfOk (p : Pk) (T : Nat → Option FunC) (d : Df) : Prop where
  sc : FnScope d.N d.ps d.d.scope
  code : ∃ F m, T d.f = some F ∧ F.n = d.N.length ∧ F.np = d.ps.length ∧ mapO (cS m (p.sc d)) d.d.body = some F.body
  bind : PlainArgs d
  dfl : d.d.dfl = []
/-- a def as it lies in the heap -/
def Lies (K : PySem.W.Frag) (mg : Str → Option Value) (d : Df) (a : Addr) : Prop := mg d.d.name = some (.ref a) ∧ ∃ fd kws, FunD K d.d.name d.d.qual d.d.params d.d.body d.d.scope [] kws a fd
theorem d_ok {P : Program} {w : World} {K : PySem.W.Frag} {mg : Str → Option Value} {base : Heap} {p : Pk} {T : Nat → Option FunC} {k : Nat} (hk : ∀ x f, p.fi.lookup x = some f → ∃ a fd ps, mg x = some (.ref a) ∧ PySem.W.keepIn K (.ref a) = true ∧ Binds K fd ps [] ∧ FnOk P w K mg base CX0 k a fd ps (spC T k f K))
    (hg : ∀ x i, p.gl.lookup x = some i → ∃ t, mg x = some (.int i t)) (hb : ∀ x, p.bi.contains x = true → mg x = none) {d : Df} (D : DfOk p T d) {a : Addr} {fd : FuncData} {kws : List (Str × L2.V)} (F : FunD K d.d.name d.d.qual d.d.params d.d.body d.d.scope [] kws a fd) :
    FnOk P w K mg base CX0 (k + 1) a fd d.ps (spC T (k + 1) d.f K) := by
  obtain ⟨F0, m, hT, hn, hp, hc⟩ := D.code
  refine F.ok D.sc (fun vs H Q E h => ?_) (fun cdv A outer s H vs Q E hr h => ⟨tSs (callT T k) K F0.body, PSs.nox ?_, ?_⟩)
  · obtain ⟨F1, ds, S, ρ, d', S', h1, h2, _⟩ := h
    rw [hT] at h1; cases h1
    rw [h2, hp]
  · refine pss_of (stmts_of T k m) (c := p.sc d) ?_ PassesOwn.never hc
    exact ⟨rfl, D.sc.kind, rfl, D.sc.nd, rfl, fun _ => rfl, hr, hg, hb, hk⟩
  · obtain ⟨F1, ds, S, ρ, d', S', h1, h2, st, rl, he, hQ⟩ := h
    rw [hT] at h1; cases h1
    have hlen : d.ps.length ≤ d.N.length := by have := congrArg List.length D.sc.pre; rw [List.length_take] at this; omega
    have hE : ∀ {ρ0 : List Addr}, RepL K H ρ0 ds vs → RepE K H ρ0 (ds.map some ++ List.replicate (F0.n - F0.np) none) (L2.start d.N vs) := fun {ρ0} rl => by
      refine ⟨?_, fun i x hx => ?_⟩
      · unfold L2.start
        rw [List.length_append, List.length_append, List.length_map, List.length_map, List.length_replicate, List.length_replicate, rl.length, hn, hp, ← rl.length, h2, hp]
      · by_cases hi : i < ds.length
        · rw [List.getElem?_append_left (by rw [List.length_map]; exact hi), List.getElem?_map] at hx
          cases q : ds[i]? with
          | none => rw [q] at hx; cases hx
          | some y =>
            rw [q] at hx
            cases hx
            obtain ⟨v, g1, g2⟩ := rl.get q
            refine ⟨v, ?_, g2⟩
            unfold L2.start
            rw [List.getElem?_append_left (by rw [List.length_map, rl.length]; exact hi), List.getElem?_map, g1]; rfl
        · rw [List.getElem?_append_right (by rw [List.length_map]; omega)] at hx
          have := List.mem_of_getElem? hx
          rw [List.mem_replicate] at this
          cases this.2
    unfold callT at he
    simp only [hT] at he
    rw [if_pos (by rw [← rl.length]; exact h2)] at he
    split at he
    · rename_i hpu
      have rl0 : RepL K H [] ds vs := rl.ofPure hpu
      unfold runF at he
      have st0 : RepS K H [] [] := ⟨rfl, List.nodup_nil, fun n o h => by simp at h⟩
      cases e1 : exs (callT T k) F0.body (ds.map some ++ List.replicate (F0.n - F0.np) none) [] with
      | none => rw [e1] at he; cases he
      | some z =>
        obtain ⟨fl, env', T1⟩ := z
        rw [e1] at he
        refine ⟨_, [], [], fl, env', T1, hE rl0, st0, e1, fun σ' H' ρ' ex _ st' => ?_⟩
        cases fl with
        | rt d0 =>
          intro v rv
          obtain ⟨ρ2, g1, g2, g3⟩ := join_ok ex st st' rv he
          exact hQ v H' ρ2 g1 g2 g3
        | nx =>
          obtain ⟨ρ2, g1, g2, g3⟩ := join_ok (v := V.non) ex st st' (show RepV K H' ρ' .non .non from rfl) he
          exact hQ _ H' ρ2 g1 g2 g3
        | bk => cases he
        | ct => cases he
    · unfold runF at he
      cases e1 : exs (callT T k) F0.body (ds.map some ++ List.replicate (F0.n - F0.np) none) S with
      | none => rw [e1] at he; cases he
      | some z =>
        obtain ⟨fl, env', T1⟩ := z
        rw [e1] at he
        refine ⟨_, S, ρ, fl, env', T1, hE rl, st, e1, fun σ' H' ρ' ex _ st' => ?_⟩
        cases fl with
        | rt d0 =>
          intro v rv
          obtain ⟨ρ2, g1, g2, g3⟩ := tidy_ok ex st st' rv he
          exact hQ v H' ρ2 g1 g2 g3
        | nx =>
          obtain ⟨ρ2, g1, g2, g3⟩ := tidy_ok (v := V.non) ex st st' (show RepV K H' ρ' .non .non from rfl) he
          exact hQ _ H' ρ2 g1 g2 g3
        | bk => cases he
        | ct => cases he
theorem sp0 {T : Nat → Option FunC} {f : Nat} {K : PySem.W.Frag} {vs : List L2.V} {H : Hp} {Q : VK} {E : XK} (h : spC T 0 f K vs H Q E) : False := by
  obtain ⟨F, ds, S, ρ, d, S', h1, h2, h3, h4, h5, _⟩ := h
  cases h5
theorem defs_ok {P : Program} {w : World} {K : PySem.W.Frag} {mg : Str → Option Value} {base : Heap} {p : Pk} {T : Nat → Option FunC} (hd : ∀ x f, p.fi.lookup x = some f → ∃ d a, d.d.name = x ∧ d.f = f ∧ DfOk p T d ∧ Lies K mg d a)
    (hg : ∀ x i, p.gl.lookup x = some i → ∃ t, mg x = some (.int i t)) (hb : ∀ x, p.bi.contains x = true → mg x = none) : ∀ k x f, p.fi.lookup x = some f → ∃ a fd ps, mg x = some (.ref a) ∧ PySem.W.keepIn K (.ref a) = true ∧ Binds K fd ps [] ∧ FnOk P w K mg base CX0 k a fd ps (spC T k f K)
  | 0, x, f, h => by
    obtain ⟨d, a, rfl, rfl, D, hm, fd, kws, F⟩ := hd x f h
    exact ⟨a, fd, d.ps, hm, F.kp, F.bindsN D.bind, fun _ _ _ _ h => (sp0 h).elim, fun _ _ _ _ _ _ _ _ _ _ _ _ _ h => (sp0 h).elim⟩
  | k + 1, x, f, h => by
    have ih := @defs_ok P w K mg base p T hd hg hb k
    obtain ⟨d, a, rfl, rfl, D, hm, fd, kws, F⟩ := hd x f h
    exact ⟨a, fd, d.ps, hm, F.kp, F.bindsN D.bind, d_ok ih hg hb D F⟩
/-- the law's promise, from the core's answer -/
theorem sp_law {T : Nat → Option FunC} {k f : Nat} {K : PySem.W.Frag} {n : Nat} {F0 : FunC} (hT : T f = some F0) (hp : F0.np = 1) (hans : ∀ ns : List Int, ns.length ≤ n → ∃ S, callT T k f [.rol (ns.map D.int)] [] = some (.bl true, S))
    (H : Hp) (a : Addr) (ns : List Int) (hl : ns.length ≤ n) (hO : Only H) (hS : SqL K H a (ns.map V.int)) (E : XK) : spC T k f K [.ref a] H (fun v _ => v = .bl true) E := by
  obtain ⟨S, hc⟩ := hans ns hl
  have rl : ∀ ns : List Int, RepL K H [] (ns.map D.int) (ns.map V.int) := fun ns => by
    induction ns with
    | nil => rfl
    | cons i ns ih => exact ⟨_, _, rfl, rfl, ih⟩
  refine ⟨F0, [.rol (ns.map D.int)], [], [], _, S, hT, hp.symm, ⟨rfl, List.nodup_nil, fun n o h => by simp at h⟩, ⟨_, _, rfl, ⟨a, _, rfl, ?_, rl ns⟩, rfl⟩, hc, fun v H' ρ' _ _ rv => rv⟩
  rcases hS with (h | h) | h
  · rcases hO a with z | ⟨o, xs, z⟩
    · rw [z] at h; cases h
    · rw [z] at h; cases h
  · exact .inl h
  · exact .inr h

/-! ### a law's defs, all at once -/
structure Cfg where
  dfs : List Df
  gl : List (Str × Int)
  bi : List Str
  T : Nat → Option FunC
def Cfg.pk (c : Cfg) : Pk := ⟨c.dfs.map fun d => (d.d.name, d.f), c.gl, c.bi⟩
def Cfg.fn (c : Cfg) : List He.DefD := c.dfs.map (·.d)
def Cfg.fa (c : Cfg) : List He.Fa := c.dfs.map (fun d => .glo d.d.name) ++ (c.bi.map .free ++ c.gl.map fun q => .int q.1 q.2)
theorem says_fact {fa : List He.Fa} {fn : List He.DefD} {K : PySem.W.Frag} (c : He.SaysD fa fn K) {f : He.Fa} (h : f ∈ fa) : f.ok K = true := by
  obtain ⟨i, hi, e⟩ := List.mem_iff_getElem.mp h
  exact c.fact i (f := f) (by rw [List.getElem?_eq_getElem hi, e])
theorem says_def {fa : List He.Fa} {fn : List He.DefD} {K : PySem.W.Frag} (c : He.SaysD fa fn K) {d : He.DefD} (h : d ∈ fn) : ∃ fd, FunD K d.name d.qual d.params d.body d.scope (d.dvs K) (d.kws K) (He.fAd K d.at_) fd := by
  obtain ⟨i, hi, e⟩ := List.mem_iff_getElem.mp h
  exact c.def_ i (d := d) (by rw [List.getElem?_eq_getElem hi, e])
theorem lies_of {C : Cfg} {K : PySem.W.Frag} {h : Heap} {mg : Str → Option Value} (X : K.In h) (G : h.Ns mainGlobals mg) (c : He.SaysD C.fa C.fn K) {d : Df} (hm : d ∈ C.dfs) (ha : d.d.at_ = (d.d.name, none)) (hf : d.d.dfl = []) :
    mg d.d.name = some (.ref (He.ga K d.d.name)) ∧ ∃ fd kws, FunD K d.d.name d.d.qual d.d.params d.d.body d.d.scope [] kws (He.ga K d.d.name) fd := by
  refine ⟨He.glo_ok X G (says_fact c (List.mem_append_left _ (List.mem_map_of_mem hm))), ?_⟩
  obtain ⟨fd, F⟩ := says_def c (d := d.d) (List.mem_map_of_mem hm)
  refine ⟨fd, d.d.kws K, ?_⟩
  have e1 : He.fAd K d.d.at_ = He.ga K d.d.name := by rw [ha]; rfl
  have e2 : d.d.dvs K = [] := by unfold He.DefD.dvs; rw [hf]; rfl
  rw [e1, e2] at F
  exact F
theorem cfg_law {C : Cfg} {P : Program} {w : World} {K : PySem.W.Frag} {h : Heap} {mg : Str → Option Value} (X : K.In h) (G : h.Ns mainGlobals mg) (c : He.SaysD C.fa C.fn K)
    (hD : ∀ d ∈ C.dfs, DfOk C.pk C.T d ∧ d.d.at_ = (d.d.name, none)) {d : Df} (hm : d ∈ C.dfs) {f : Addr} (hfa : mg d.d.name = some (.ref f)) (k : Nat) {x : Str} (hx : d.ps = [x]) :
    ∃ fd : FuncData, (∀ (s : Shared) (v : Value), BindsTo s fd ⟨[v], []⟩ [(x, v)]) ∧ ∀ base : Heap, K.In base → base.Ns mainGlobals mg → FnOk P w K mg base CX0 (k + 1) f fd [x] (spC C.T (k + 1) d.f K) := by
  obtain ⟨hD1, hD2⟩ := hD d hm
  obtain ⟨l1, fd, kws, F⟩ := lies_of X G c hm hD2 hD1.dfl
  rw [hfa] at l1
  obtain rfl : f = He.ga K d.d.name := by cases l1; rfl
  have b := FunD.bindsA (ps := d.ps) F hD1.bind
  have hbi : ∀ y, C.pk.bi.contains y = true → mg y = none := fun y hy =>
    He.free_ok X G (says_fact c (List.mem_append_right _ (List.mem_append_left _ (List.mem_map_of_mem (List.contains_iff_mem.mp hy)))))
  have hgl : ∀ y i, C.pk.gl.lookup y = some i → ∃ t, mg y = some (.int i t) := fun y i hy =>
    He.int_ok X G (says_fact c (List.mem_append_right _ (List.mem_append_right _ (List.mem_map.mpr ⟨(y, i), PySem.mem_of_lookup hy, rfl⟩))))
  have hfi : ∀ y g, C.pk.fi.lookup y = some g → ∃ d a, d.d.name = y ∧ d.f = g ∧ DfOk C.pk C.T d ∧ Lies K mg d a := fun y g hy => by
    obtain ⟨d', hd', e⟩ := List.mem_map.mp (PySem.mem_of_lookup hy)
    cases e
    obtain ⟨q1, q2⟩ := hD d' hd'
    exact ⟨d', _, rfl, rfl, q1, lies_of X G c hd' q2 q1.dfl⟩
  refine ⟨fd, fun s v => ?_, fun base _ _ => ?_⟩
  · have := b s [v] (by rw [hx]; rfl)
    rw [hx] at this
    exact this
  · rw [← hx]
    exact d_ok (defs_ok hfi hgl hbi k) hgl hbi hD1 F
end Pv

/-! Running the core by hand: rules that a rewriting can use. -/
namespace Pv
open PySem (Operator CmpOp)

/-- go on with a value and the store -/
def bd {α β : Type} (x : Option (α × Store)) (g : α → Store → Option β) : Option β := match x with
  | some (a, S) => g a S
  | none => none
/-- go on with a truth -/
def bt {β : Type} (x : Option (Bool × Store)) (g h : Store → Option β) : Option β := match x with
  | some (true, S) => g S
  | some (false, S) => h S
  | none => none
/-- go on behind a statement -/
def bf (x : Option (Fl × Env × Store)) (g : Env → Store → Option (Fl × Env × Store)) : Option (Fl × Env × Store) := match x with
  | some (.nx, env, S) => g env S
  | some (f, env, S) => some (f, env, S)
  | none => none
theorem bd_none {α β : Type} {g : α → Store → Option β} : bd none g = none := rfl
theorem bt_none {β : Type} {g h : Store → Option β} : bt none g h = none := rfl
theorem bf_none {g} : bf none g = none := rfl
theorem bd_some {α β : Type} {a : α} {S : Store} {g : α → Store → Option β} : bd (some (a, S)) g = g a S := rfl
theorem bt_some {β : Type} {b : Bool} {S : Store} {g h : Store → Option β} : bt (some (b, S)) g h = if b = true then g S else h S := by cases b <;> rfl
theorem bf_nx {env : Env} {S : Store} {g} : bf (some (.nx, env, S)) g = g env S := rfl
theorem bf_rt {d : D} {env : Env} {S : Store} {g} : bf (some (.rt d, env, S)) g = some (.rt d, env, S) := rfl
theorem bf_bk {env : Env} {S : Store} {g} : bf (some (.bk, env, S)) g = some (.bk, env, S) := rfl
theorem bf_ct {env : Env} {S : Store} {g} : bf (some (.ct, env, S)) g = some (.ct, env, S) := rfl
theorem bd_ite {α β : Type} {c : Prop} [Decidable c] {a b : Option (α × Store)} {g : α → Store → Option β} : bd (if c then a else b) g = if c then bd a g else bd b g := by split <;> rfl
theorem bt_ite {β : Type} {c : Prop} [Decidable c] {a b : Option (Bool × Store)} {g h : Store → Option β} : bt (if c then a else b) g h = if c then bt a g h else bt b g h := by split <;> rfl
theorem bf_ite {c : Prop} [Decidable c] {a b : Option (Fl × Env × Store)} {g} : bf (if c then a else b) g = if c then bf a g else bf b g := by split <;> rfl
def wS {α : Type} (S : Store) (x : Option α) : Option (α × Store) := match x with
  | some a => some (a, S)
  | none => none
theorem wS_some {α : Type} {S : Store} {a : α} : wS S (some a) = some (a, S) := rfl
/-- a value of the core -/
def wV (S : Store) (x : Option D) : Option (R × Store) := match x with
  | some a => some (.v a, S)
  | none => none
theorem wV_some {S : Store} {a : D} : wV S (some a) = some (.v a, S) := rfl

def negR : R → Option D
  | .v (.int i) => some (.int (-i))
  | _ => none
def intR : R → Option (Option Int)
  | .v (.int i) => some (some i)
  | _ => none
def mt1D (S : Store) (m : Mt) (r : R) : D → Option (D × Store)
  | .loc n => mt1R S n m r
  | _ => none
def mt0D (S : Store) (m : Mt) : D → Option (D × Store)
  | .loc n => mt0R S n m
  | _ => none
/-- x op= y -/
def augR (op : Operator) : R → R → Option D
  | .v (.int x), .v (.int y) => (arI op x y).map .int
  | _, _ => none
section
variable {cl : Nat → List D → Store → Option (D × Store)} {env : Env} {S : Store}
theorem ev_var {i : Nat} : ev cl (.var i) env S = wV S (env[i]?.bind id) := by
  simp only [ev]
  cases env[i]? with
  | none => rfl
  | some o => cases o <;> rfl
theorem ev_lit {d : D} : ev cl (.lit d) env S = some (.v d, S) := by simp only [ev]
theorem ev_bin {op : Operator} {a b : CE} : ev cl (.bin op a b) env S = bd (ev cl a env S) fun x S => bd (ev cl b env S) fun y S => wS S (binR S op x y) := by
  simp only [ev]
  cases ev cl a env S with
  | none => rfl
  | some z =>
    simp only [bd]
    cases ev cl b env z.2 with
    | none => rfl
    | some z2 => cases h : binR z2.2 op z.1 z2.1 <;> simp [wS, h]
theorem ev_neg {a : CE} : ev cl (.neg a) env S = bd (ev cl a env S) fun x S => wV S (negR x) := by
  simp only [ev]
  cases ev cl a env S with
  | none => rfl
  | some z =>
    obtain ⟨r, S1⟩ := z
    cases r with
    | s ds => rfl
    | v d => cases d <;> rfl
theorem ev_not {a : CE} : ev cl (.not a) env S = bd (tst cl a env S) fun b S => some (.v (.bl !b), S) := by
  simp only [ev, tst]
  cases ev cl a env S with
  | none => rfl
  | some z => cases h : truR z.2 z.1 <;> simp [bd, h]
theorem ev_cmp {op : CmpOp} {a b : CE} : ev cl (.cmp op a b) env S = bd (ev cl a env S) fun x S => bd (ev cl b env S) fun y S => wV S ((cmpR S op x y).map .bl) := by
  simp only [ev]
  cases ev cl a env S with
  | none => rfl
  | some z =>
    simp only [bd]
    cases ev cl b env z.2 with
    | none => rfl
    | some z2 => cases h : cmpR z2.2 op z.1 z2.1 <;> simp [wV, h]
theorem ev_cmp2 {op op' : CmpOp} {a b c : CE} : ev cl (.cmp2 op op' a b c) env S = bd (ev cl a env S) fun x S => bd (ev cl b env S) fun y S => bt (wS S (cmpR S op x y)) (fun S => bd (ev cl c env S) fun z S => wV S ((cmpR S op' y z).map .bl)) fun S => some (.v (.bl false), S) := by
  simp only [ev]
  cases ev cl a env S with
  | none => rfl
  | some z =>
    simp only [bd]
    cases ev cl b env z.2 with
    | none => rfl
    | some z2 =>
      cases h : cmpR z2.2 op z.1 z2.1 with
      | none => simp [wS, bt, h]
      | some t =>
        cases t with
        | false => simp [wS, bt, h]
        | true =>
          simp only [wS, bt, h]
          cases ev cl c env z2.2 with
          | none => rfl
          | some z3 => cases h2 : cmpR z3.2 op' z2.1 z3.1 <;> simp [wV, h2]
theorem ev_and {a b : CE} : ev cl (.and a b) env S = bd (ev cl a env S) fun x S => bt (wS S (truR S x)) (fun S => ev cl b env S) fun S => some (x, S) := by
  simp only [ev]
  cases ev cl a env S with
  | none => rfl
  | some z => cases h : truR z.2 z.1 with
    | none => simp [bd, bt, wS, h]
    | some t => cases t <;> simp [bd, bt, wS, h]
theorem ev_or {a b : CE} : ev cl (.or a b) env S = bd (ev cl a env S) fun x S => bt (wS S (truR S x)) (fun S => some (x, S)) fun S => ev cl b env S := by
  simp only [ev]
  cases ev cl a env S with
  | none => rfl
  | some z => cases h : truR z.2 z.1 with
    | none => simp [bd, bt, wS, h]
    | some t => cases t <;> simp [bd, bt, wS, h]
theorem ev_ife {c a b : CE} : ev cl (.ife c a b) env S = bt (tst cl c env S) (fun S => ev cl a env S) fun S => ev cl b env S := by
  simp only [ev, tst]
  cases ev cl c env S with
  | none => rfl
  | some z => cases h : truR z.2 z.1 with
    | none => simp [bt, h]
    | some t => cases t <;> simp [bt, h]
theorem ev_tup {es : List CE} : ev cl (.tup es) env S = bd (evs cl es env S) fun ds S => some (.v (.tup ds), S) := by simp only [ev]; cases evs cl es env S <;> rfl
theorem ev_lst {es : List CE} : ev cl (.lst es) env S = bd (evs cl es env S) fun ds S => some (.s ds, S) := by simp only [ev]; cases evs cl es env S <;> rfl
theorem evs_nil : evs cl [] env S = some ([], S) := by simp only [evs]
theorem evs_cons {e : CE} {es : List CE} : evs cl (e :: es) env S = bd (pushR (ev cl e env S)) fun d S => bd (evs cl es env S) fun ds S => some (d :: ds, S) := by
  simp only [evs]
  cases pushR (ev cl e env S) with
  | none => rfl
  | some z => simp only [bd]; cases evs cl es env z.2 <;> rfl
theorem ev_idx {a b : CE} : ev cl (.idx a b) env S = bd (ev cl a env S) fun x S => bd (ev cl b env S) fun y S => wV S (idxR S x y) := by
  simp only [ev]
  cases ev cl a env S with
  | none => rfl
  | some z =>
    simp only [bd]
    cases ev cl b env z.2 with
    | none => rfl
    | some z2 => cases h : idxR z2.2 z.1 z2.1 <;> simp [wV, h]
theorem ev_slc {a : CE} {lo hi : CO} : ev cl (.slc a lo hi) env S = bd (ev cl a env S) fun x S => bd (evo cl lo env S) fun l S => bd (evo cl hi env S) fun h S => wS S (slcR S x l h) := by
  simp only [ev]
  cases ev cl a env S with
  | none => rfl
  | some z =>
    simp only [bd]
    cases evo cl lo env z.2 with
    | none => rfl
    | some z2 =>
      simp only
      cases evo cl hi env z2.2 with
      | none => rfl
      | some z3 => cases h : slcR z3.2 z.1 z2.1 z3.1 <;> simp [wS, h]
theorem evo_no : evo cl .no env S = some (none, S) := by simp only [evo]
theorem evo_at {a : CE} : evo cl (.at_ a) env S = bd (ev cl a env S) fun x S => wS S (intR x) := by
  simp only [evo]
  cases ev cl a env S with
  | none => rfl
  | some z =>
    obtain ⟨r, S1⟩ := z
    cases r with
    | s ds => rfl
    | v d => cases d <;> rfl
theorem ev_call {f : Nat} {es : List CE} : ev cl (.call f es) env S = bd (evs cl es env S) fun ds S => bd (cl f ds S) fun d S => some (.v d, S) := by
  simp only [ev]
  cases evs cl es env S with
  | none => rfl
  | some z => simp only [bd]; cases cl f z.1 z.2 <;> rfl
theorem ev_b1 {b : B1} {a : CE} : ev cl (.b1 b a) env S = bd (ev cl a env S) fun x S => wV S (b1R b x) := by
  simp only [ev]
  cases ev cl a env S with
  | none => rfl
  | some z => cases h : b1R b z.1 <;> simp [bd, wV, h]
theorem ev_b2 {b : B2} {a c : CE} : ev cl (.b2 b a c) env S = bd (ev cl a env S) fun x S => bd (ev cl c env S) fun y S => wV S (b2R b x y) := by
  simp only [ev]
  cases ev cl a env S with
  | none => rfl
  | some z =>
    simp only [bd]
    cases ev cl c env z.2 with
    | none => rfl
    | some z2 => cases h : b2R b z.1 z2.1 <;> simp [wV, h]
theorem ev_sq {q : Sq} {a : CE} : ev cl (.sq q a) env S = bd (ev cl a env S) fun x S => wS S ((argQ S q x).bind fun ds => sqR q ds) := by
  simp only [ev]
  cases ev cl a env S with
  | none => rfl
  | some z => cases h : argQ z.2 q z.1 with
    | none => simp [bd, wS, h]
    | some ds => cases h2 : sqR q ds <;> simp [bd, wS, h, h2]
theorem ev_mt1 {m : Mt} {o a : CE} : ev cl (.mt1 m o a) env S = bd (pushR (ev cl o env S)) fun d S => bd (ev cl a env S) fun r S => bd (mt1D S m r d) fun d S => some (.v d, S) := by
  simp only [ev]
  cases pushR (ev cl o env S) with
  | none => rfl
  | some z =>
    obtain ⟨d, S1⟩ := z
    cases d with
    | loc n =>
      simp only [bd]
      cases ev cl a env S1 with
      | none => rfl
      | some z => cases h2 : mt1R z.2 n m z.1 <;> simp [mt1D, h2]
    | _ => simp only [bd]; cases ev cl a env S1 <;> rfl
theorem ev_mt0 {m : Mt} {o : CE} : ev cl (.mt0 m o) env S = bd (pushR (ev cl o env S)) fun d S => bd (mt0D S m d) fun d S => some (.v d, S) := by
  simp only [ev]
  cases pushR (ev cl o env S) with
  | none => rfl
  | some z =>
    obtain ⟨d, S1⟩ := z
    cases d with
    | loc n => simp only [bd, mt0D]; cases h2 : mt0R S1 n m <;> simp
    | _ => rfl
theorem mt1D_loc {n : Nat} {m : Mt} {r : R} : mt1D S m r (.loc n) = mt1R S n m r := rfl
theorem mt0D_loc {n : Nat} {m : Mt} : mt0D S m (.loc n) = mt0R S n m := rfl
theorem negR_int {i : Int} : negR (.v (.int i)) = some (.int (-i)) := rfl
theorem intR_int {i : Int} : intR (.v (.int i)) = some (some i) := rfl
theorem push_v {d : D} : pushR (some (.v d, S)) = some (d, S) := rfl
theorem push_s {ds : List D} : pushR (some (.s ds, S)) = some (.loc S.length, S ++ [.lst ds]) := rfl
theorem push_ite {c : Prop} [Decidable c] {a b : Option (R × Store)} : pushR (if c then a else b) = if c then pushR a else pushR b := by split <;> rfl
theorem push_bd {α : Type} {x : Option (α × Store)} {g : α → Store → Option (R × Store)} : pushR (bd x g) = bd x fun a S => pushR (g a S) := by cases x <;> rfl
theorem bd_bd {α β γ : Type} {x : Option (α × Store)} {g : α → Store → Option (β × Store)} {h : β → Store → Option γ} : bd (bd x g) h = bd x fun a S => bd (g a S) h := by cases x <;> rfl

/-! ### tests -/
theorem tst_ev {c : CE} : tst cl c env S = bd (ev cl c env S) fun x S => wS S (truR S x) := by
  unfold tst
  cases ev cl c env S with
  | none => rfl
  | some z => cases h : truR z.2 z.1 <;> simp [bd, wS, h]
theorem tst_and {a b : CE} : tst cl (.and a b) env S = bt (tst cl a env S) (fun S => tst cl b env S) fun S => some (false, S) := by
  unfold tst
  rw [ev_and]
  cases ev cl a env S with
  | none => rfl
  | some z => cases h : truR z.2 z.1 with
    | none => simp [bd, bt, wS, h]
    | some t => cases t <;> simp [bd, bt, wS, h]
theorem tst_or {a b : CE} : tst cl (.or a b) env S = bt (tst cl a env S) (fun S => some (true, S)) fun S => tst cl b env S := by
  unfold tst
  rw [ev_or]
  cases ev cl a env S with
  | none => rfl
  | some z => cases h : truR z.2 z.1 with
    | none => simp [bd, bt, wS, h]
    | some t => cases t <;> simp [bd, bt, wS, h]
theorem tst_not {a : CE} : tst cl (.not a) env S = bd (tst cl a env S) fun b S => some (!b, S) := by
  rw [tst_ev, ev_not]
  cases tst cl a env S <;> rfl
theorem tst_cmp {op : CmpOp} {a b : CE} : tst cl (.cmp op a b) env S = bd (ev cl a env S) fun x S => bd (ev cl b env S) fun y S => wS S (cmpR S op x y) := by
  rw [tst_ev, ev_cmp]
  cases ev cl a env S with
  | none => rfl
  | some z =>
    simp only [bd]
    cases ev cl b env z.2 with
    | none => rfl
    | some z2 => cases h : cmpR z2.2 op z.1 z2.1 <;> simp only [wV, wS, h, Option.map] <;> rfl
theorem tst_var {i : Nat} : tst cl (.var i) env S = bd (ev cl (.var i) env S) fun x S => wS S (truR S x) := tst_ev
theorem tst_lit {d : D} : tst cl (.lit d) env S = wS S (truR S (.v d)) := by rw [tst_ev, ev_lit]; rfl
theorem tst_call {f : Nat} {es : List CE} : tst cl (.call f es) env S = bd (evs cl es env S) fun ds S => bd (cl f ds S) fun d S => wS S (truR S (.v d)) := by
  rw [tst_ev, ev_call]
  cases evs cl es env S with
  | none => rfl
  | some z => simp only [bd]; cases cl f z.1 z.2 <;> rfl
theorem tst_bin {op : Operator} {a b : CE} : tst cl (.bin op a b) env S = bd (ev cl (.bin op a b) env S) fun x S => wS S (truR S x) := tst_ev
theorem tst_b1 {op : B1} {a : CE} : tst cl (.b1 op a) env S = bd (ev cl (.b1 op a) env S) fun x S => wS S (truR S x) := tst_ev
theorem tst_idx {a b : CE} : tst cl (.idx a b) env S = bd (ev cl (.idx a b) env S) fun x S => wS S (truR S x) := tst_ev
theorem tst_sq {q : Sq} {a : CE} : tst cl (.sq q a) env S = bd (ev cl (.sq q a) env S) fun x S => wS S (truR S x) := tst_ev
theorem tst_cmp2 {op op' : CmpOp} {a b c : CE} : tst cl (.cmp2 op op' a b c) env S = bd (ev cl (.cmp2 op op' a b c) env S) fun x S => wS S (truR S x) := tst_ev
theorem tst_ife {a b c : CE} : tst cl (.ife a b c) env S = bt (tst cl a env S) (fun S => tst cl b env S) fun S => tst cl c env S := by
  rw [tst_ev, ev_ife]
  cases tst cl a env S with
  | none => rfl
  | some z => obtain ⟨t, S1⟩ := z; cases t <;> simp only [bt, tst_ev]

/-! ### values -/
theorem bin_add {x y : Int} : binR S .Add (.v (.int x)) (.v (.int y)) = some (.v (.int (x + y))) := rfl
theorem bin_sub {x y : Int} : binR S .Sub (.v (.int x)) (.v (.int y)) = some (.v (.int (x - y))) := rfl
theorem bin_mul {x y : Int} : binR S .Mult (.v (.int x)) (.v (.int y)) = (arI .Mult x y).map fun z => .v (.int z) := rfl
theorem bin_pow {x y : Int} : binR S .Pow (.v (.int x)) (.v (.int y)) = (arI .Pow x y).map fun z => .v (.int z) := rfl
theorem ar_mod {x y : Int} (h : y ≠ 0) : arI .Mod x y = some (x.fmod y) := by simp [arI, h]
theorem ar_div {x y : Int} (h : y ≠ 0) (hl : y.natAbs.log2 < 9000) : arI .FloorDiv x y = some (x.fdiv y) := by simp [arI, h, hl]
theorem ar_mul {x y : Int} (h : x.natAbs < 18446744073709551616) : arI .Mult x y = some (x * y) := by simp [arI, h]
theorem ar_mulR {x y : Int} (h : y.natAbs < 18446744073709551616) : arI .Mult x y = some (x * y) := by simp [arI, h]
theorem bin_div {x y : Int} (h : y ≠ 0) (hl : y.natAbs.log2 < 9000) : binR S .FloorDiv (.v (.int x)) (.v (.int y)) = some (.v (.int (x.fdiv y))) := by
  show (arI .FloorDiv x y).map _ = _
  have : arI .FloorDiv x y = some (x.fdiv y) := by simp [arI, h, hl]
  rw [this]; rfl
theorem bin_mod {x y : Int} (h : y ≠ 0) : binR S .Mod (.v (.int x)) (.v (.int y)) = some (.v (.int (x.fmod y))) := by
  show (arI .Mod x y).map _ = _
  have : arI .Mod x y = some (x.fmod y) := by simp [arI, h]
  rw [this]; rfl
theorem bin_cat {xs ys : List D} (h : Nat.ble (xs.length + ys.length) lim = true) : binR S .Add (.v (.tup xs)) (.v (.tup ys)) = some (.v (.tup (xs ++ ys))) := by
  show (if Nat.ble (xs.length + ys.length) lim then _ else _) = _
  rw [if_pos h]
theorem tru_int {x : Int} : truR S (.v (.int x)) = some (decide (x ≠ 0)) := by show some (x != 0) = _; congr 1; by_cases h : x = 0 <;> simp [h]
theorem tru_bl {b : Bool} : truR S (.v (.bl b)) = some b := rfl
theorem tru_tup {xs : List D} : truR S (.v (.tup xs)) = some !xs.isEmpty := rfl
theorem cmp_lt {x y : Int} : cmpR S .Lt (.v (.int x)) (.v (.int y)) = some (decide (x < y)) := rfl
theorem cmp_le {x y : Int} : cmpR S .LtE (.v (.int x)) (.v (.int y)) = some (decide (x ≤ y)) := rfl
theorem cmp_gt {x y : Int} : cmpR S .Gt (.v (.int x)) (.v (.int y)) = some (decide (y < x)) := rfl
theorem cmp_ge {x y : Int} : cmpR S .GtE (.v (.int x)) (.v (.int y)) = some (decide (y ≤ x)) := rfl
theorem eqR_of {a b : D} (h1 : a.okn 60 = true) (h2 : b.okn 60 = true) : eqR S (.v a) (.v b) = some (a.eqv b) := by
  have e : ∀ d : D, d.okn 60 = true → eqV S (.v d) = some (false, d) := fun d h => by
    cases d with
    | loc => cases h
    | rol => cases h
    | _ => simp [eqV, h]
  unfold eqR
  rw [e a h1, e b h2]; rfl
theorem cmp_eq {a b : D} (h1 : a.okn 60 = true) (h2 : b.okn 60 = true) : cmpR S .Eq (.v a) (.v b) = some (a.eqv b) := eqR_of h1 h2
theorem cmp_ne {a b : D} (h1 : a.okn 60 = true) (h2 : b.okn 60 = true) : cmpR S .NotEq (.v a) (.v b) = some (!a.eqv b) := by
  show (eqR S _ _).map _ = _
  rw [eqR_of h1 h2]; rfl
theorem eqv_int {x y : Int} : D.eqv (.int x) (.int y) = decide (x = y) := by show (x == y) = _; by_cases h : x = y <;> simp [h]
theorem eqv_bl {x y : Bool} : D.eqv (.bl x) (.bl y) = decide (x = y) := by show (x == y) = _; by_cases h : x = y <;> simp [h]
theorem eqv_tup {xs ys : List D} : D.eqv (.tup xs) (.tup ys) = eqvs xs ys := rfl
theorem eqvs_nil : eqvs [] [] = true := rfl
theorem eqvs_cons {x y : D} {xs ys : List D} : eqvs (x :: xs) (y :: ys) = (x.eqv y && eqvs xs ys) := rfl
theorem okn_int {n : Nat} {x : Int} : D.okn n (.int x) = true := by cases n <;> rfl
theorem okn_bl {n : Nat} {x : Bool} : D.okn n (.bl x) = true := by cases n <;> rfl
theorem okn_tup {n : Nat} {xs : List D} : D.okn (n + 1) (.tup xs) = okns n xs := rfl
theorem okns_nil {n : Nat} : okns n [] = true := by cases n <;> rfl
theorem okns_cons {n : Nat} {x : D} {xs : List D} : okns n (x :: xs) = (x.okn n && okns n xs) := rfl
theorem eqvs_ints : ∀ {xs ys : List Int}, eqvs (xs.map D.int) (ys.map D.int) = decide (xs = ys)
  | [], [] => rfl
  | [], _ :: _ => rfl
  | _ :: _, [] => rfl
  | x :: xs, y :: ys => by
    show (D.eqv (.int x) (.int y) && eqvs (xs.map D.int) (ys.map D.int)) = _
    rw [eqvs_ints, eqv_int, Bool.eq_iff_iff]
    simp only [Bool.and_eq_true, decide_eq_true_eq, List.cons.injEq]
theorem okns_ints {n : Nat} : ∀ {xs : List Int}, okns n (xs.map D.int) = true
  | [] => okns_nil
  | x :: xs => by show (D.okn n (.int x) && okns n (xs.map D.int)) = true; rw [okn_int, okns_ints]; rfl
theorem pures_nil : pures [] = true := rfl
theorem pures_cons {x : D} {xs : List D} : pures (x :: xs) = (x.pure && pures xs) := rfl
theorem pures_ints : ∀ {xs : List Int}, pures (xs.map D.int) = true
  | [] => rfl
  | x :: xs => by show (D.pure (.int x) && pures (xs.map D.int)) = true; rw [pures_ints]; rfl

theorem b1_abs {x : Int} : b1R .abs (.v (.int x)) = some (.int (if x < 0 then -x else x)) := rfl
theorem b1_int {x : Int} : b1R .int (.v (.int x)) = some (.int x) := rfl
theorem b1_intb {x : Bool} : b1R .int (.v (.bl x)) = some (.int (if x = true then 1 else 0)) := rfl
theorem b1_isInt {x : Int} : b1R .isInt (.v (.int x)) = some (.bl true) := rfl
theorem b1_isBool {x : Int} : b1R .isBool (.v (.int x)) = some (.bl false) := rfl
theorem b2_min {x y : Int} : b2R .min (.v (.int x)) (.v (.int y)) = some (.int (if y < x then y else x)) := rfl
theorem b2_max {x y : Int} : b2R .max (.v (.int x)) (.v (.int y)) = some (.int (if y > x then y else x)) := rfl
theorem ar_add {x y : Int} : arI .Add x y = some (x + y) := rfl
theorem ar_sub {x y : Int} : arI .Sub x y = some (x - y) := rfl

/-! ### statements -/
theorem exs_nil : exs cl [] env S = some (.nx, env, S) := by simp only [exs]
theorem exs_cons {s : CS} {ss : List CS} : exs cl (s :: ss) env S = bf (ex cl s env S) fun env S => exs cl ss env S := by
  simp only [exs]
  cases ex cl s env S with
  | none => rfl
  | some z => obtain ⟨f, e, S1⟩ := z; cases f <;> rfl
theorem ex_expr {e : CE} : ex cl (.expr e) env S = bd (pushR (ev cl e env S)) fun _ S => some (.nx, env, S) := by simp only [ex]; cases pushR (ev cl e env S) <;> rfl
theorem ex_ret {e : CE} : ex cl (.ret e) env S = bd (pushR (ev cl e env S)) fun d S => some (.rt d, env, S) := by simp only [ex]; cases pushR (ev cl e env S) <;> rfl
theorem ex_asg {i : Nat} {e : CE} : ex cl (.asg (.nm i) e) env S = bd (pushR (ev cl e env S)) fun d S => some (.nx, env.set i (some d), S) := by simp only [ex, asgT]; cases pushR (ev cl e env S) <;> rfl
theorem ex_asgT {ts : List Tg} {e : CE} : ex cl (.asg (.tp ts) e) env S = bd (pushR (ev cl e env S)) fun d S => (match d with
    | .tup ds => bd (asgTs cl ts ds env S) fun env S => some (.nx, env, S)
    | _ => none) := by
  simp only [ex]
  cases pushR (ev cl e env S) with
  | none => rfl
  | some z =>
    obtain ⟨d, S1⟩ := z
    cases d with
    | tup ds => simp only [bd, asgT]; cases asgTs cl ts ds env S1 <;> rfl
    | _ => rfl
theorem asgTs_nil : asgTs cl [] [] env S = some (env, S) := by simp only [asgTs]
theorem asgTs_cons {i : Nat} {ts : List Tg} {d : D} {ds : List D} : asgTs cl (.nm i :: ts) (d :: ds) env S = asgTs cl ts ds (env.set i (some d)) S := by simp only [asgTs, asgT]
theorem ex_par2 {i j : Nat} {a b : CE} : ex cl (.par2 i j a b) env S = bd (pushR (ev cl a env S)) fun x S => bd (pushR (ev cl b env S)) fun y S => some (.nx, (env.set i (some x)).set j (some y), S) := by
  simp only [ex]
  cases pushR (ev cl a env S) with
  | none => rfl
  | some z => simp only [bd]; cases pushR (ev cl b env z.2) <;> rfl
theorem ex_par3 {i j k : Nat} {a b c : CE} : ex cl (.par3 i j k a b c) env S = bd (pushR (ev cl a env S)) fun x S => bd (pushR (ev cl b env S)) fun y S => bd (pushR (ev cl c env S)) fun z S => some (.nx, ((env.set i (some x)).set j (some y)).set k (some z), S) := by
  simp only [ex]
  cases pushR (ev cl a env S) with
  | none => rfl
  | some z =>
    simp only [bd]
    cases pushR (ev cl b env z.2) with
    | none => rfl
    | some z2 => simp only; cases pushR (ev cl c env z2.2) <;> rfl
theorem ex_aug {i : Nat} {op : Operator} {e : CE} (h : (match env[i]? with | some (some (.int _)) => true | _ => false) = true) : ex cl (.aug i op e) env S = bd (ev cl (.var i) env S) fun x S => bd (ev cl e env S) fun y S => bd (wS S (augR op x y)) fun d S => some (.nx, env.set i (some d), S) := by
  simp only [ex, ev]
  split at h
  · rename_i x hx
    simp only [hx, bd]
    cases ev cl e env S with
    | none => rfl
    | some z =>
      obtain ⟨r, S1⟩ := z
      cases r with
      | s ds => rfl
      | v d =>
        cases d with
        | int y => simp only [augR]; cases arI op x y <;> rfl
        | _ => rfl
  · cases h
theorem aug_add {x y : Int} : augR .Add (.v (.int x)) (.v (.int y)) = some (.int (x + y)) := rfl
theorem aug_sub {x y : Int} : augR .Sub (.v (.int x)) (.v (.int y)) = some (.int (x - y)) := rfl
theorem aug_ar {op : Operator} {x y : Int} : augR op (.v (.int x)) (.v (.int y)) = (arI op x y).map .int := rfl
theorem ex_ite {c : CE} {t f : List CS} : ex cl (.ite c t f) env S = bt (tst cl c env S) (fun S => exs cl t env S) fun S => exs cl f env S := by
  simp only [ex]
  cases tst cl c env S with
  | none => rfl
  | some z => obtain ⟨b, S1⟩ := z; cases b <;> rfl
theorem ex_pass : ex cl .pass env S = some (.nx, env, S) := by simp only [ex]
theorem ex_brk : ex cl .brk env S = some (.bk, env, S) := by simp only [ex]
theorem ex_cnt : ex cl .cnt env S = some (.ct, env, S) := by simp only [ex]
theorem ex_never : ex cl .never env S = none := by simp only [ex]
theorem ex_retn : ex cl .retn env S = some (.rt .non, env, S) := by simp only [ex]
theorem ex_whl {c : CE} {b : List CS} : ex cl (.whl c b) env S = whileL (tst cl c) (exs cl b) whileFuel env S := by simp only [ex]
end
end Pv

/-! Loops, lists and calls of the core by hand. -/
namespace Pv
open PySem (Operator CmpOp)

/-! ### calls -/
/-- what a body gives -/
def ans (x : Option (Fl × Env × Store)) : Option (D × Store) := match x with
  | some (.rt d, _, S) => some (d, S)
  | some (.nx, _, S) => some (.non, S)
  | _ => none
theorem ans_rt {d : D} {env : Env} {S : Store} : ans (some (.rt d, env, S)) = some (d, S) := rfl
theorem ans_none : ans none = none := rfl
theorem ans_nx {env : Env} {S : Store} : ans (some (.nx, env, S)) = some (.non, S) := rfl
theorem ans_ite {c : Prop} [Decidable c] {a b : Option (Fl × Env × Store)} : ans (if c then a else b) = if c then ans a else ans b := by split <;> rfl
variable {T : Nat → Option FunC} {k f : Nat}
theorem runF_ans {cl : Nat → List D → Store → Option (D × Store)} {F : FunC} {args : List D} {S : Store} : runF cl F args S = ans (exs cl F.body (args.map some ++ List.replicate (F.n - F.np) none) S) := by
  unfold runF ans
  cases exs cl F.body (args.map some ++ List.replicate (F.n - F.np) none) S with
  | none => rfl
  | some z => obtain ⟨f, e, S1⟩ := z; cases f <;> rfl
/-- what a body gives, but for the store -/
def val (x : Option (Fl × Env × Store)) : Option D := match x with
  | some (.rt d, _, _) => some d
  | some (.nx, _, _) => some .non
  | _ => none
theorem val_rt {d : D} {env : Env} {S : Store} : val (some (.rt d, env, S)) = some d := rfl
theorem val_none : val none = none := rfl
theorem val_nx {env : Env} {S : Store} : val (some (.nx, env, S)) = some .non := rfl
theorem val_ite {c : Prop} [Decidable c] {a b : Option (Fl × Env × Store)} : val (if c then a else b) = if c then val a else val b := by split <;> rfl
theorem val_ans {x : Option (Fl × Env × Store)} {d : D} (h : val x = some d) : ∃ S, ans x = some (d, S) := by
  cases x with
  | none => cases h
  | some z => obtain ⟨fl, env, S⟩ := z; cases fl <;> first | (cases h; exact ⟨S, rfl⟩) | cases h
theorem call_pure {F : FunC} {args : List D} {S : Store} {d : D} (hT : T f = some F) (hl : args.length = F.np) (hp : pures args = true)
    (hb : val (exs (callT T k) F.body (args.map some ++ List.replicate (F.n - F.np) none) []) = some d) (hd : d.pure = true) : callT T (k + 1) f args S = some (d, S) := by
  obtain ⟨S', hb⟩ := val_ans hb
  unfold callT
  simp only [hT]
  rw [if_pos hl, if_pos hp, runF_ans, hb]
  unfold join
  simp [hd]
theorem call_st {F : FunC} {args : List D} {S : Store} (hT : T f = some F) (hl : args.length = F.np) (hp : pures args = false) :
    callT T (k + 1) f args S = tidy S.length (ans (exs (callT T k) F.body (args.map some ++ List.replicate (F.n - F.np) none) S)) := by
  unfold callT
  simp only [hT]
  rw [if_pos hl, if_neg (by rw [hp]; decide), runF_ans]
theorem tidy_under {n : Nat} {d : D} {S : Store} (h : d.under n = true) (h2 : (S.take n).all (O.under n) = true) : tidy n (some (d, S)) = some (d, S.take n) := by
  unfold tidy
  simp [h, h2]

/-! ### places -/
theorem at0 {x : D} {r : List D} : atD (x :: r) 0 = some x := by
  unfold atD ixN
  rw [if_pos (by decide), if_pos (by rw [List.length_cons]; omega)]; rfl
theorem at1 {x y : D} {r : List D} : atD (x :: y :: r) 1 = some y := by
  unfold atD ixN
  rw [if_pos (by decide), if_pos (by rw [List.length_cons, List.length_cons]; omega)]; rfl
theorem at_nat {xs : List D} {i : Int} {j : Nat} {x : D} (hi : i = (j : Int)) (h : xs[j]? = some x) : atD xs i = some x := by
  subst hi
  have := (List.getElem?_eq_some_iff.mp h).1
  unfold atD ixN
  rw [if_pos (by omega), if_pos (by omega)]
  exact h
theorem at_neg {xs : List D} {x : D} (h : xs.getLast? = some x) : atD xs (-1) = some x := by
  have hl : xs ≠ [] := by intro e; subst e; cases h
  have : 0 < xs.length := List.length_pos_iff.mpr hl
  unfold atD ixN
  rw [if_neg (by decide), if_pos (by omega)]
  rw [List.getLast?_eq_getElem?] at h
  show xs[(-1 + (xs.length : Int)).toNat]? = some x
  rw [show (-1 + (xs.length : Int)).toNat = xs.length - 1 by omega]
  exact h
theorem idx_t {S : Store} {xs : List D} {i : Int} : idxR S (.v (.tup xs)) (.v (.int i)) = atD xs i := rfl
theorem idx_l {S : Store} {n : Nat} {i : Int} : idxR S (.v (.loc n)) (.v (.int i)) = (lstR S (.v (.loc n))).bind fun ds => atD ds i := rfl
theorem lst_0 {ds : List D} {S : Store} : lstR (.lst ds :: S) (.v (.loc 0)) = some ds := rfl
theorem lst_1 {o : O} {ds : List D} {S : Store} : lstR (o :: .lst ds :: S) (.v (.loc 1)) = some ds := rfl

/-! ### while -/
/-- one turn -/
def turn (c : Env → Store → Option (Bool × Store)) (b : Env → Store → Option (Fl × Env × Store)) (env : Env) (S : Store) : Option (Fl × Env × Store) :=
  bt (c env S) (fun S => b env S) fun S => some (.bk, env, S)
/-- a loop of one's own: again with a, or an end -/
def loopM {α β : Type} (step : α → Option (α ⊕ β)) : Nat → α → Option β
  | 0, _ => none
  | n + 1, a => (match step a with
    | some (.inl a') => loopM step n a'
    | some (.inr z) => some z
    | none => none)
/-- what holds behind it -/
def post (x : Option (Fl × Env × Store)) (P : Fl → Env → Store → Prop) : Prop := match x with
  | some (fl, env, S) => P fl env S
  | none => False
theorem post_some {fl : Fl} {env : Env} {S : Store} {P : Fl → Env → Store → Prop} : post (some (fl, env, S)) P = P fl env S := rfl
theorem post_none {P : Fl → Env → Store → Prop} : post none P = False := rfl
theorem post_ite {c : Prop} [Decidable c] {a b : Option (Fl × Env × Store)} {P : Fl → Env → Store → Prop} : post (if c then a else b) P = if c then post a P else post b P := by split <;> rfl
theorem post_imp {x : Option (Fl × Env × Store)} {P Q : Fl → Env → Store → Prop} (h : post x P) (f : ∀ fl env S, P fl env S → Q fl env S) : post x Q := by
  cases x with
  | none => exact h
  | some z => exact f _ _ _ h
theorem post_get {x : Option (Fl × Env × Store)} {P : Fl → Env → Store → Prop} (h : post x P) : ∃ fl env S, x = some (fl, env, S) ∧ P fl env S := by
  cases x with
  | none => exact h.elim
  | some z => exact ⟨_, _, _, rfl, h⟩
/-- a turn's end against one's own -/
def turnQ {α β : Type} (R : α → Env → Store → Prop) (Q : β → Fl → Env → Store → Prop) (r : α ⊕ β) : Fl → Env → Store → Prop
  | .nx, env, S => (match r with | .inl a => R a env S | .inr _ => False)
  | .ct, env, S => (match r with | .inl a => R a env S | .inr _ => False)
  | .bk, env, S => (match r with | .inl _ => False | .inr z => Q z .nx env S)
  | .rt d, env, S => (match r with | .inl _ => False | .inr z => Q z (.rt d) env S)
/-- by a relation: R between one's own state and the core's; Q behind the end -/
theorem while_of {α β : Type} {c : Env → Store → Option (Bool × Store)} {b : Env → Store → Option (Fl × Env × Store)} {step : α → Option (α ⊕ β)} (R : α → Env → Store → Prop) (Q : β → Fl → Env → Store → Prop)
    (h : ∀ a env S r, R a env S → step a = some r → post (turn c b env S) (turnQ R Q r)) :
    ∀ (n : Nat) (a : α) (z : β) (env : Env) (S : Store), R a env S → loopM step n a = some z → post (whileL c b n env S) (Q z)
  | 0, _, _, _, _, _, h0 => by cases h0
  | n + 1, a, z, env, S, p, h0 => by
    unfold loopM at h0
    cases e : step a with
    | none => rw [e] at h0; cases h0
    | some r =>
      rw [e] at h0
      have ht := h a env S r p e
      unfold turn at ht
      unfold whileL
      cases hc : c env S with
      | none => rw [hc] at ht; exact ht.elim
      | some q =>
        obtain ⟨t, S1⟩ := q
        rw [hc] at ht
        cases t with
        | false =>
          simp only [bt, post, turnQ] at ht
          cases r with
          | inl a' => exact ht.elim
          | inr z' => cases h0; exact ht
        | true =>
          simp only [bt] at ht
          simp only
          cases hb : b env S1 with
          | none => rw [hb] at ht; exact ht.elim
          | some w =>
            obtain ⟨fl, env', S'⟩ := w
            rw [hb] at ht
            simp only [post] at ht
            cases r with
            | inl a' => cases fl with
              | nx => exact while_of R Q h n a' z env' S' ht h0
              | ct => exact while_of R Q h n a' z env' S' ht h0
              | bk => exact ht.elim
              | rt d => exact ht.elim
            | inr z' => cases h0; cases fl with
              | nx => exact ht.elim
              | ct => exact ht.elim
              | bk => exact ht
              | rt d => exact ht

/-! ### for, comprehensions: over items that are known -/
def listL (b : D → Env → Store → Option (Fl × Env × Store)) : List D → Env → Store → Option (Fl × Env × Store)
  | [], env, S => some (.nx, env, S)
  | x :: r, env, S => (match b x env S with
    | some (.nx, env, S) => listL b r env S
    | some (.ct, env, S) => listL b r env S
    | some (.bk, env, S) => some (.nx, env, S)
    | some (.rt d, env, S) => some (.rt d, env, S)
    | none => none)
/-- what is walked is these items, whatever happens -/
def Fixed (di : DI) (ds : List D) : Prop := ∀ (S : Store) (i : Nat), di.next S i = some ds[i]?
theorem fixed_tup {ds : List D} : Fixed (.tup ds) ds := fun _ _ => rfl
theorem fixed_rng {lo c : Int} {n : Nat} : Fixed (.rng lo c n) ((List.range n).map fun (i : Nat) => D.int (lo + (i : Int) * c)) := fun S i => by
  show (if i < n then _ else _) = _
  by_cases h : i < n
  · rw [if_pos h]; simp [h]
  · rw [if_neg h, List.getElem?_eq_none (by rw [List.length_map, List.length_range]; omega)]
theorem fixed_revt {ds : List D} : Fixed (.revt ds) ds.reverse := fun S i => by
  show (if i < ds.length then some ds[ds.length - 1 - i]? else some none) = _
  by_cases h : i < ds.length
  · rw [if_pos h, List.getElem?_reverse h]
  · rw [if_neg h, List.getElem?_eq_none (by rw [List.length_reverse]; omega)]
theorem forL_of {b : D → Env → Store → Option (Fl × Env × Store)} {di : DI} {ds : List D} (hf : Fixed di ds) : ∀ (n i : Nat) (env : Env) (S : Store), n = ds.length - i → i ≤ ds.length → forL b di n i env S = listL b (ds.drop i) env S
  | 0, i, env, S, hn, hi => by
    have : i = ds.length := by omega
    subst this
    unfold forL
    rw [hf, List.getElem?_eq_none (Nat.le_refl _), List.drop_length]
    rfl
  | n + 1, i, env, S, hn, hi => by
    have hlt : i < ds.length := by omega
    unfold forL
    rw [hf, List.getElem?_eq_getElem hlt, List.drop_eq_getElem_cons hlt]
    simp only [listL]
    cases b ds[i] env S with
    | none => rfl
    | some z =>
      obtain ⟨fl, env', S'⟩ := z
      cases fl with
      | nx => exact forL_of hf n (i + 1) env' S' (by omega) (by omega)
      | ct => exact forL_of hf n (i + 1) env' S' (by omega) (by omega)
      | bk => rfl
      | rt d => rfl
theorem forL_all {b : D → Env → Store → Option (Fl × Env × Store)} {di : DI} {ds : List D} {env : Env} {S : Store} (hf : Fixed di ds) (hl : di.len S = ds.length) : forL b di (di.len S) 0 env S = listL b ds env S := by
  rw [hl]
  exact forL_of hf ds.length 0 env S (by omega) (by omega)
def listC (f : D → Store → Option (List D × Store)) : List D → Store → Option (List D × Store)
  | [], S => some ([], S)
  | x :: r, S => (match f x S with
    | some (ys, S') => (match listC f r S' with | some (zs, S2) => some (ys ++ zs, S2) | none => none)
    | none => none)
theorem walkC_of {f : D → Store → Option (List D × Store)} {di : DI} {ds : List D} (hf : Fixed di ds) : ∀ (n i : Nat) (S : Store), n = ds.length - i → i ≤ ds.length → walkC f di n i S = listC f (ds.drop i) S
  | 0, i, S, hn, hi => by
    have : i = ds.length := by omega
    subst this
    unfold walkC
    rw [hf, List.getElem?_eq_none (Nat.le_refl _), List.drop_length]
    rfl
  | n + 1, i, S, hn, hi => by
    have hlt : i < ds.length := by omega
    unfold walkC
    rw [hf, List.getElem?_eq_getElem hlt, List.drop_eq_getElem_cons hlt]
    simp only [listC]
    cases f ds[i] S with
    | none => rfl
    | some z => simp only; rw [walkC_of hf n (i + 1) z.2 (by omega) (by omega)] <;> rfl
theorem walkC_all {f : D → Store → Option (List D × Store)} {di : DI} {ds : List D} {S : Store} (hf : Fixed di ds) (hl : di.len S = ds.length) : walkC f di (di.len S) 0 S = listC f ds S := by
  rw [hl]
  exact walkC_of hf ds.length 0 S (by omega) (by omega)
/-- nothing is written -/
theorem listC_pure {f : D → Store → Option (List D × Store)} {g : D → List D} {S : Store} : ∀ {ds : List D}, (∀ x ∈ ds, f x S = some (g x, S)) → listC f ds S = some (ds.flatMap g, S)
  | [], _ => rfl
  | x :: r, h => by
    unfold listC
    rw [h x (by simp)]
    simp only
    rw [listC_pure fun y hy => h y (by simp [hy])]
    simp
end Pv

/-! A quick evaluator for data that are known, and what it says of the core. -/
namespace Pv
open PySem (Operator CmpOp)

structure Fs where
  ev : CE → Env → Store → Option (R × Store)
  ex : CS → Env → Store → Option (Fl × Env × Store)
section
variable (F : Fs) (cl : Nat → List D → Store → Option (D × Store))
def tstF (c : CE) (env : Env) (S : Store) : Option (Bool × Store) := bd (F.ev c env S) fun x S => wS S (truR S x)
def evsF : List CE → Env → Store → Option (List D × Store)
  | [], _, S => some ([], S)
  | e :: es, env, S => bd (pushR (F.ev e env S)) fun d S => bd (evsF es env S) fun ds S => some (d :: ds, S)
def testsF : List CE → Env → Store → Option (Bool × Store)
  | [], _, S => some (true, S)
  | e :: es, env, S => bt (tstF F e env S) (fun S => testsF es env S) fun S => some (false, S)
def evoF : CO → Env → Store → Option (Option Int × Store)
  | .no, _, S => some (none, S)
  | .at_ a, env, S => bd (F.ev a env S) fun x S => wS S (intR x)
def rngD (i j : R) : Option DI := match i, j with
  | .v (.int i), .v (.int j) => if rngOk i && rngOk j then some (.rng i 1 (j - i).toNat) else none
  | _, _ => none
def rngD1 (j : R) : Option DI := match j with
  | .v (.int j) => if rngOk j then some (.rng 0 1 j.toNat) else none
  | _ => none
def rngD3 (i j k : R) : Option DI := match i, j, k with
  | .v (.int i), .v (.int j), .v (.int k) => if (rngOk3 i && rngOk3 j) && (decide (0 < k) && decide (k < 1073741824)) then some (.rng i k ((j - i + k - 1) / k).toNat) else none
  | _, _, _ => none
def eviF : CI → Env → Store → Option (DI × Store)
  | .seq a, env, S => bd (F.ev a env S) fun r S => wS S (itR S r)
  | .rng1 a, env, S => bd (F.ev a env S) fun r S => wS S (rngD1 r)
  | .rng2 a b, env, S => bd (F.ev a env S) fun r S => bd (F.ev b env S) fun q S => wS S (rngD r q)
  | .rng3 a b c, env, S => bd (F.ev a env S) fun r S => bd (F.ev b env S) fun q S => bd (F.ev c env S) fun t S => wS S (rngD3 r q t)
  | .enum a, env, S => bd (F.ev a env S) fun r S => wS S (enumR S r)
  | .zip a b, env, S => bd (F.ev a env S) fun r S => bd (F.ev b env S) fun q S => wS S (zipR S r q)
  | .rev a, env, S => bd (F.ev a env S) fun r S => wS S (revR S r)
def bindF (x : Option Env) (g : Env → Option β) : Option β := match x with
  | some env => g env
  | none => none
def oneF (x : Option (D × Store)) : Option (List D × Store) := bd x fun y S => some ([y], S)
def evStep (c : CE) (env : Env) (S : Store) : Option (R × Store) := match c with
  | .var i => wV S (env[i]?.bind id)
  | .lit d => some (.v d, S)
  | .bin op a b => bd (F.ev a env S) fun x S => bd (F.ev b env S) fun y S => wS S (binR S op x y)
  | .neg a => bd (F.ev a env S) fun x S => wV S (negR x)
  | .not a => bd (tstF F a env S) fun b S => some (.v (.bl !b), S)
  | .cmp op a b => bd (F.ev a env S) fun x S => bd (F.ev b env S) fun y S => wV S ((cmpR S op x y).map .bl)
  | .cmp2 op op' a b c => bd (F.ev a env S) fun x S => bd (F.ev b env S) fun y S => bt (wS S (cmpR S op x y)) (fun S => bd (F.ev c env S) fun z S => wV S ((cmpR S op' y z).map .bl)) fun S => some (.v (.bl false), S)
  | .and a b => bd (F.ev a env S) fun x S => bt (wS S (truR S x)) (fun S => F.ev b env S) fun S => some (x, S)
  | .or a b => bd (F.ev a env S) fun x S => bt (wS S (truR S x)) (fun S => some (x, S)) fun S => F.ev b env S
  | .ife c a b => bt (tstF F c env S) (fun S => F.ev a env S) fun S => F.ev b env S
  | .tup es => bd (evsF F es env S) fun ds S => some (.v (.tup ds), S)
  | .lst es => bd (evsF F es env S) fun ds S => some (.s ds, S)
  | .idx a b => bd (F.ev a env S) fun x S => bd (F.ev b env S) fun y S => wV S (idxR S x y)
  | .slc a lo hi => bd (F.ev a env S) fun x S => bd (evoF F lo env S) fun l S => bd (evoF F hi env S) fun h S => wS S (slcR S x l h)
  | .call f es => bd (evsF F es env S) fun ds S => bd (cl f ds S) fun d S => some (.v d, S)
  | .b1 b a => bd (F.ev a env S) fun x S => wV S (b1R b x)
  | .b2 b a c => bd (F.ev a env S) fun x S => bd (F.ev c env S) fun y S => wV S (b2R b x y)
  | .sq q a => bd (F.ev a env S) fun x S => wS S ((argQ S q x).bind fun ds => sqR q ds)
  | .mt0 m o => bd (pushR (F.ev o env S)) fun d S => bd (mt0D S m d) fun d S => some (.v d, S)
  | .mt1 m o a => bd (pushR (F.ev o env S)) fun d S => bd (F.ev a env S) fun r S => bd (mt1D S m r d) fun d S => some (.v d, S)
  | .comp own p it cs e => bd (eviF F it env S) fun di S => bd (walkC (fun x S => bindF (bindP p x (wipeE env own)) fun env' => bt (testsF F cs env' S) (fun S => oneF (pushR (F.ev e env' S))) fun S => some ([], S)) di (di.len S) 0 S) fun ys S =>
      if di.small || Nat.ble ys.length lim then some (.s ys, S) else none
  | .comp2 .. => none
def exsF : List CS → Env → Store → Option (Fl × Env × Store)
  | [], env, S => some (.nx, env, S)
  | s :: ss, env, S => bf (F.ex s env S) fun env S => exsF ss env S
def nmsF : List Tg → List D → Env → Option Env
  | [], [], env => some env
  | .nm i :: ts, d :: ds, env => nmsF ts ds (env.set i (some d))
  | _, _, _ => none
def tupF (ts : List Tg) (d : D) (env : Env) : Option Env := match d with
  | .tup ds => nmsF ts ds env
  | _ => none
def setF (S : Store) (n k : D) (d : D) : Option Store := match n, k with
  | .loc n, .int k => (match S[n]? with
    | some (.lst xs) => (match ixN xs.length k with | some j => some (S.set n (.lst (xs.set j d))) | none => none)
    | _ => none)
  | _, _ => none
def nxF (env : Env) (x : Option Store) : Option (Fl × Env × Store) := match x with
  | some S => some (.nx, env, S)
  | none => none
def exStep (s : CS) (env : Env) (S : Store) : Option (Fl × Env × Store) := match s with
  | .expr e => bd (pushR (F.ev e env S)) fun _ S => some (.nx, env, S)
  | .ret e => bd (pushR (F.ev e env S)) fun d S => some (.rt d, env, S)
  | .retn => some (.rt .non, env, S)
  | .asg (.nm i) e => bd (pushR (F.ev e env S)) fun d S => some (.nx, env.set i (some d), S)
  | .asg (.tp ts) e => bd (pushR (F.ev e env S)) fun d S => bindF (tupF ts d env) fun env => some (.nx, env, S)
  | .asg (.ix o i) e => bd (pushR (F.ev e env S)) fun d S => bd (pushR (F.ev o env S)) fun n S => bd (pushR (F.ev i env S)) fun k S => nxF env (setF S n k d)
  | .par2 i j a b => bd (pushR (F.ev a env S)) fun x S => bd (pushR (F.ev b env S)) fun y S => some (.nx, (env.set i (some x)).set j (some y), S)
  | .par3 i j k a b c => bd (pushR (F.ev a env S)) fun x S => bd (pushR (F.ev b env S)) fun y S => bd (pushR (F.ev c env S)) fun z S => some (.nx, ((env.set i (some x)).set j (some y)).set k (some z), S)
  | .aug i op e => (match env[i]? with
    | some (some (.int x)) => bd (F.ev e env S) fun y S => bd (wS S (augR op (.v (.int x)) y)) fun d S => some (.nx, env.set i (some d), S)
    | _ => none)
  | .ite c t f => bt (tstF F c env S) (fun S => exsF F t env S) fun S => exsF F f env S
  | .whl c b => whileL (tstF F c) (exsF F b) whileFuel env S
  | .forr p it b => bd (eviF F it env S) fun di S => forL (fun x env S => bindF (bindP p x env) fun env' => exsF F b env' S) di (di.len S) 0 env S
  | .brk => some (.bk, env, S)
  | .cnt => some (.ct, env, S)
  | .pass => some (.nx, env, S)
  | _ => none
end
def lvl (cl : Nat → List D → Store → Option (D × Store)) : Nat → Fs
  | 0 => ⟨fun _ _ _ => none, fun _ _ _ => none⟩
  | n + 1 => ⟨evStep (lvl cl n) cl, exStep (lvl cl n)⟩
/-- a call: by O, or by running; w: how deep a body may be -/
def fc (T : Nat → Option FunC) (O : Nat → List D → Option D) (w : Nat) : Nat → Nat → List D → Store → Option (D × Store)
  | 0, _, _, _ => none
  | k + 1, f, args, S => (match O f args with
    | some d => some (d, S)
    | none => (match T f with
      | none => none
      | some F => if args.length = F.np then
          (if pures args then join S (ans (exsF (lvl (fc T O w k) w) F.body (args.map some ++ List.replicate (F.n - F.np) none) []))
            else tidy S.length (ans (exsF (lvl (fc T O w k) w) F.body (args.map some ++ List.replicate (F.n - F.np) none) S)))
        else none))

/-! ### what it says -/
def Le {α : Type} (x y : Option α) : Prop := ∀ r, x = some r → y = some r
theorem Le.refl {α : Type} (x : Option α) : Le x x := fun _ h => h
theorem Le.no {α : Type} {y : Option α} : Le none y := fun _ h => by cases h
theorem Le.bd {α β : Type} {x x' : Option (α × Store)} {g g' : α → Store → Option β} (h : Le x x') (h2 : ∀ a S, Le (g a S) (g' a S)) : Le (bd x g) (bd x' g') := fun r e => by
  cases x with
  | none => cases e
  | some z => rw [h z rfl]; exact h2 _ _ _ e
theorem Le.bt {β : Type} {x x' : Option (Bool × Store)} {g g' k k' : Store → Option β} (h : Le x x') (h2 : ∀ S, Le (g S) (g' S)) (h3 : ∀ S, Le (k S) (k' S)) : Le (bt x g k) (bt x' g' k') := fun r e => by
  cases x with
  | none => cases e
  | some z =>
    rw [h z rfl]
    obtain ⟨b, S⟩ := z
    cases b with
    | true => exact h2 _ _ e
    | false => exact h3 _ _ e
theorem Le.bf {x x' : Option (Fl × Env × Store)} {g g'} (h : Le x x') (h2 : ∀ env S, Le (g env S) (g' env S)) : Le (bf x g) (bf x' g') := fun r e => by
  cases x with
  | none => cases e
  | some z =>
    rw [h z rfl]
    obtain ⟨fl, env, S⟩ := z
    cases fl with
    | nx => exact h2 _ _ _ e
    | _ => exact e
theorem Le.push {x x' : Option (R × Store)} (h : Le x x') : Le (pushR x) (pushR x') := fun r e => by
  cases x with
  | none => cases e
  | some z => rw [h z rfl]; exact e
theorem Le.bind {β : Type} {x : Option Env} {g g' : Env → Option β} (h2 : ∀ a, Le (g a) (g' a)) : Le (bindF x g) (bindF x g') := fun r e => by
  cases x with
  | none => cases e
  | some z => exact h2 _ _ e
theorem Le.ans {x x' : Option (Fl × Env × Store)} (h : Le x x') : Le (ans x) (ans x') := fun r e => by
  cases x with
  | none => cases e
  | some z => rw [h z rfl]; exact e
theorem Le.while_ {c c' : Env → Store → Option (Bool × Store)} {b b' : Env → Store → Option (Fl × Env × Store)} (hc : ∀ e S, Le (c e S) (c' e S)) (hb : ∀ e S, Le (b e S) (b' e S)) : ∀ n env S, Le (whileL c b n env S) (whileL c' b' n env S)
  | 0, _, _ => .no
  | n + 1, env, S => fun r e => by
    unfold whileL at e ⊢
    cases h1 : c env S with
    | none => rw [h1] at e; cases e
    | some z =>
      obtain ⟨t, S1⟩ := z
      rw [h1] at e
      rw [hc _ _ _ h1]
      cases t with
      | false => exact e
      | true =>
        simp only at e ⊢
        cases h2 : b env S1 with
        | none => rw [h2] at e; cases e
        | some w =>
          obtain ⟨fl, e1, S2⟩ := w
          rw [h2] at e
          rw [hb _ _ _ h2]
          cases fl with
          | nx => exact Le.while_ hc hb n _ _ _ e
          | ct => exact Le.while_ hc hb n _ _ _ e
          | _ => exact e
theorem Le.for_ {b b' : D → Env → Store → Option (Fl × Env × Store)} {di : DI} (hb : ∀ x e S, Le (b x e S) (b' x e S)) : ∀ n i env S, Le (forL b di n i env S) (forL b' di n i env S)
  | 0, _, _, _ => .refl _
  | n + 1, i, env, S => fun r e => by
    unfold forL at e ⊢
    cases h0 : di.next S i with
    | none => rw [h0] at e; cases e
    | some o =>
      rw [h0] at e
      cases o with
      | none => exact e
      | some x =>
        simp only at e ⊢
        cases h2 : b x env S with
        | none => rw [h2] at e; cases e
        | some w =>
          obtain ⟨fl, e1, S2⟩ := w
          rw [h2] at e
          rw [hb _ _ _ _ h2]
          cases fl with
          | nx => exact Le.for_ hb n _ _ _ _ e
          | ct => exact Le.for_ hb n _ _ _ _ e
          | _ => exact e
theorem Le.walk {f f' : D → Store → Option (List D × Store)} {di : DI} (hf : ∀ x S, Le (f x S) (f' x S)) : ∀ n i S, Le (walkC f di n i S) (walkC f' di n i S)
  | 0, _, _ => .refl _
  | n + 1, i, S => fun r e => by
    unfold walkC at e ⊢
    cases h0 : di.next S i with
    | none => rw [h0] at e; cases e
    | some o =>
      rw [h0] at e
      cases o with
      | none => exact e
      | some x =>
        simp only at e ⊢
        cases h2 : f x S with
        | none => rw [h2] at e; cases e
        | some w =>
          rw [h2] at e
          rw [hf _ _ _ h2]
          simp only at e ⊢
          cases h3 : walkC f di n (i + 1) w.2 with
          | none => rw [h3] at e; cases e
          | some w2 => rw [h3] at e; rw [Le.walk hf n _ _ _ h3]; exact e
section
variable {F : Fs} {cl cl' : Nat → List D → Store → Option (D × Store)} (hv : ∀ c env S, Le (F.ev c env S) (ev cl' c env S)) (hx : ∀ c env S, Le (F.ex c env S) (ex cl' c env S)) (hc : ∀ f a S, Le (cl f a S) (cl' f a S))
theorem le_tst (hv : ∀ c env S, Le (F.ev c env S) (ev cl' c env S)) (c : CE) (env : Env) (S : Store) : Le (tstF F c env S) (tst cl' c env S) := by
  rw [tst_ev]
  exact .bd (hv c env S) fun _ _ => .refl _
theorem le_evs (hv : ∀ c env S, Le (F.ev c env S) (ev cl' c env S)) : ∀ (es : List CE) (env : Env) (S : Store), Le (evsF F es env S) (evs cl' es env S)
  | [], _, _ => by rw [evs_nil]; exact .refl _
  | e :: es, env, S => by rw [evs_cons]; exact .bd (.push (hv e env S)) fun _ _ => .bd (le_evs hv es env _) fun _ _ => .refl _
theorem le_tests (hv : ∀ c env S, Le (F.ev c env S) (ev cl' c env S)) : ∀ (es : List CE) (env : Env) (S : Store), Le (testsF F es env S) (tests cl' es env S)
  | [], _, _ => fun r h => by unfold tests; exact h
  | e :: es, env, S => by
    have : tests cl' (e :: es) env S = bt (tst cl' e env S) (fun S => tests cl' es env S) fun S => some (false, S) := by
      simp only [tests, tst]
      cases ev cl' e env S with
      | none => rfl
      | some z => cases h : truR z.2 z.1 with
        | none => simp [bt, h]
        | some t => cases t <;> simp [bt, h]
    rw [this]
    exact .bt (le_tst hv e env S) (fun S => le_tests hv es env S) fun _ => .refl _
theorem le_evo (hv : ∀ c env S, Le (F.ev c env S) (ev cl' c env S)) (o : CO) (env : Env) (S : Store) : Le (evoF F o env S) (evo cl' o env S) := by
  cases o with
  | no => rw [evo_no]; exact .refl _
  | at_ a => rw [evo_at]; exact .bd (hv a env S) fun _ _ => .refl _

theorem le_evi (hv : ∀ c env S, Le (F.ev c env S) (ev cl' c env S)) (i : CI) (env : Env) (S : Store) : Le (eviF F i env S) (evi cl' i env S) := by
  cases i with
  | seq a =>
    have : evi cl' (.seq a) env S = bd (ev cl' a env S) fun r S => wS S (itR S r) := by
      simp only [evi]
      cases ev cl' a env S with
      | none => rfl
      | some z => cases h : itR z.2 z.1 <;> simp [bd, wS, h]
    rw [this]; exact .bd (hv a env S) fun _ _ => .refl _
  | enum a =>
    have : evi cl' (.enum a) env S = bd (ev cl' a env S) fun r S => wS S (enumR S r) := by
      simp only [evi]
      cases ev cl' a env S with
      | none => rfl
      | some z => cases h : enumR z.2 z.1 <;> simp [bd, wS, h]
    rw [this]; exact .bd (hv a env S) fun _ _ => .refl _
  | rev a =>
    have : evi cl' (.rev a) env S = bd (ev cl' a env S) fun r S => wS S (revR S r) := by
      simp only [evi]
      cases ev cl' a env S with
      | none => rfl
      | some z => cases h : revR z.2 z.1 <;> simp [bd, wS, h]
    rw [this]; exact .bd (hv a env S) fun _ _ => .refl _
  | zip a b =>
    have : evi cl' (.zip a b) env S = bd (ev cl' a env S) fun r S => bd (ev cl' b env S) fun q S => wS S (zipR S r q) := by
      simp only [evi]
      cases ev cl' a env S with
      | none => rfl
      | some z =>
        simp only [bd]
        cases ev cl' b env z.2 with
        | none => rfl
        | some z2 => cases h : zipR z2.2 z.1 z2.1 <;> simp [wS, h]
    rw [this]; exact .bd (hv a env S) fun _ _ => .bd (hv b env _) fun _ _ => .refl _
  | rng1 a =>
    intro r e
    simp only [eviF] at e
    cases h : F.ev a env S with
    | none => rw [h] at e; cases e
    | some z =>
      obtain ⟨x, S1⟩ := z
      rw [h] at e
      simp only [evi, hv _ _ _ _ h]
      cases x with
      | s ds => cases e
      | v d =>
        cases d with
        | int j =>
          simp only [bd, rngD1] at e
          dsimp only
          split at e
          · rename_i hr; rw [if_pos hr]; exact e
          · cases e
        | _ => cases e
  | rng2 a b =>
    intro r e
    simp only [eviF] at e
    cases h : F.ev a env S with
    | none => rw [h] at e; cases e
    | some z =>
      obtain ⟨x, S1⟩ := z
      rw [h] at e
      simp only [bd] at e
      simp only [evi, hv _ _ _ _ h]
      cases h2 : F.ev b env S1 with
      | none => rw [h2] at e; cases e
      | some z2 =>
        obtain ⟨y, S2⟩ := z2
        rw [h2] at e
        cases x with
        | s ds => cases e
        | v d =>
          cases d with
          | int i =>
            simp only [hv _ _ _ _ h2]
            cases y with
            | s ds => cases e
            | v d2 =>
              cases d2 with
              | int j =>
                simp only [rngD] at e
                dsimp only
                split at e
                · rename_i hr; rw [if_pos hr]; exact e
                · cases e
              | _ => cases e
          | _ => cases e
  | rng3 a b c =>
    intro r e
    simp only [eviF] at e
    cases h : F.ev a env S with
    | none => rw [h] at e; cases e
    | some z =>
      obtain ⟨x, S1⟩ := z
      rw [h] at e
      simp only [bd] at e
      simp only [evi, hv _ _ _ _ h]
      cases h2 : F.ev b env S1 with
      | none => rw [h2] at e; cases e
      | some z2 =>
        obtain ⟨y, S2⟩ := z2
        rw [h2] at e
        simp only at e
        cases h3 : F.ev c env S2 with
        | none => rw [h3] at e; cases e
        | some z3 =>
          obtain ⟨w, S3⟩ := z3
          rw [h3] at e
          cases x with
          | s ds => cases e
          | v d =>
            cases d with
            | int i =>
              simp only [hv _ _ _ _ h2]
              cases y with
              | s ds => cases e
              | v d2 =>
                cases d2 with
                | int j =>
                  simp only [hv _ _ _ _ h3]
                  cases w with
                  | s ds => cases e
                  | v d3 =>
                    cases d3 with
                    | int k =>
                      simp only [rngD3] at e
                      dsimp only
                      split at e
                      · rename_i hr; rw [if_pos hr]; exact e
                      · cases e
                    | _ => cases e
                | _ => cases e
            | _ => cases e
theorem ev_comp {cl : Nat → List D → Store → Option (D × Store)} {own : List Nat} {p : Pat} {it : CI} {cs : List CE} {e : CE} {env : Env} {S : Store} : ev cl (.comp own p it cs e) env S = bd (evi cl it env S) fun di S => bd (walkC (fun x S => bindF (bindP p x (wipeE env own)) fun env' => bt (tests cl cs env' S) (fun S => oneF (pushR (ev cl e env' S))) fun S => some ([], S)) di (di.len S) 0 S) fun ys S =>
      if di.small || Nat.ble ys.length lim then some (.s ys, S) else none := by
  have hf : (fun (x : D) (S : Store) => bindF (bindP p x (wipeE env own)) fun env' => bt (tests cl cs env' S) (fun S => oneF (pushR (ev cl e env' S))) fun S => some ([], S)) = (fun x S => (match bindP p x (wipeE env own) with
          | some env' => (match tests cl cs env' S with
            | some (true, S) => (match pushR (ev cl e env' S) with | some (y, S) => some ([y], S) | none => none)
            | some (false, S) => some ([], S)
            | none => none)
          | none => none)) := by
    funext x S
    cases bindP p x (wipeE env own) with
    | none => rfl
    | some env' =>
      simp only [bindF]
      cases tests cl cs env' S with
      | none => rfl
      | some z =>
        obtain ⟨b, S1⟩ := z
        cases b with
        | false => rfl
        | true => simp only [bt, oneF]; cases pushR (ev cl e env' S1) <;> rfl
  rw [hf]
  simp only [ev]
  cases evi cl it env S with
  | none => rfl
  | some z => simp only [bd]; generalize walkC _ z.1 (z.1.len z.2) 0 z.2 = w; cases w <;> rfl
theorem le_ev (hv : ∀ c env S, Le (F.ev c env S) (ev cl' c env S)) (hc : ∀ f a S, Le (cl f a S) (cl' f a S)) (c : CE) (env : Env) (S : Store) : Le (evStep F cl c env S) (ev cl' c env S) := by
  cases c with
  | var i => rw [ev_var]; exact .refl _
  | lit d => rw [ev_lit]; exact .refl _
  | bin op a b => rw [ev_bin]; exact .bd (hv _ _ _) fun _ _ => .bd (hv _ _ _) fun _ _ => .refl _
  | neg a => rw [ev_neg]; exact .bd (hv _ _ _) fun _ _ => .refl _
  | not a => rw [ev_not]; exact .bd (le_tst hv _ _ _) fun _ _ => .refl _
  | cmp op a b => rw [ev_cmp]; exact .bd (hv _ _ _) fun _ _ => .bd (hv _ _ _) fun _ _ => .refl _
  | cmp2 op op' a b c => rw [ev_cmp2]; exact .bd (hv _ _ _) fun _ _ => .bd (hv _ _ _) fun _ _ => .bt (.refl _) (fun _ => .bd (hv _ _ _) fun _ _ => .refl _) fun _ => .refl _
  | and a b => rw [ev_and]; exact .bd (hv _ _ _) fun _ _ => .bt (.refl _) (fun _ => hv _ _ _) fun _ => .refl _
  | or a b => rw [ev_or]; exact .bd (hv _ _ _) fun _ _ => .bt (.refl _) (fun _ => .refl _) fun _ => hv _ _ _
  | ife c a b => rw [ev_ife]; exact .bt (le_tst hv _ _ _) (fun _ => hv _ _ _) fun _ => hv _ _ _
  | tup es => rw [ev_tup]; exact .bd (le_evs hv _ _ _) fun _ _ => .refl _
  | lst es => rw [ev_lst]; exact .bd (le_evs hv _ _ _) fun _ _ => .refl _
  | idx a b => rw [ev_idx]; exact .bd (hv _ _ _) fun _ _ => .bd (hv _ _ _) fun _ _ => .refl _
  | slc a lo hi => rw [ev_slc]; exact .bd (hv _ _ _) fun _ _ => .bd (le_evo hv _ _ _) fun _ _ => .bd (le_evo hv _ _ _) fun _ _ => .refl _
  | call f es => rw [ev_call]; exact .bd (le_evs hv _ _ _) fun _ _ => .bd (hc _ _ _) fun _ _ => .refl _
  | b1 b a => rw [ev_b1]; exact .bd (hv _ _ _) fun _ _ => .refl _
  | b2 b a c => rw [ev_b2]; exact .bd (hv _ _ _) fun _ _ => .bd (hv _ _ _) fun _ _ => .refl _
  | sq q a => rw [ev_sq]; exact .bd (hv _ _ _) fun _ _ => .refl _
  | mt0 m o => rw [ev_mt0]; exact .bd (.push (hv _ _ _)) fun _ _ => .refl _
  | mt1 m o a => rw [ev_mt1]; exact .bd (.push (hv _ _ _)) fun _ _ => .bd (hv _ _ _) fun _ _ => .refl _
  | comp own p it cs e =>
    rw [ev_comp]
    exact .bd (le_evi hv _ _ _) fun _ _ => .bd (.walk (fun _ _ => .bind fun _ => .bt (le_tests hv _ _ _) (fun _ => .bd (.push (hv _ _ _)) fun _ _ => .refl _) fun _ => .refl _) _ _ _) fun _ _ => .refl _
  | comp2 => exact .no
theorem le_exs (hx : ∀ c env S, Le (F.ex c env S) (ex cl' c env S)) : ∀ (ss : List CS) (env : Env) (S : Store), Le (exsF F ss env S) (exs cl' ss env S)
  | [], _, _ => by rw [exs_nil]; exact .refl _
  | s :: ss, env, S => by rw [exs_cons]; exact .bf (hx s env S) fun _ _ => le_exs hx ss _ _
theorem nms_asg {cl : Nat → List D → Store → Option (D × Store)} {S : Store} : ∀ {ts : List Tg} {ds : List D} {env env' : Env}, nmsF ts ds env = some env' → asgTs cl ts ds env S = some (env', S)
  | [], [], _, _, h => by cases h; rw [asgTs_nil]
  | [], _ :: _, _, _, h => by cases h
  | t :: ts, [], _, _, h => by cases t <;> cases h
  | t :: ts, d :: ds, env, env', h => by
    cases t with
    | nm i => rw [asgTs_cons]; exact nms_asg (show nmsF ts ds (env.set i (some d)) = some env' from h)
    | _ => cases h
theorem ex_asgI {cl' : Nat → List D → Store → Option (D × Store)} {o i e : CE} {env : Env} {S : Store} : ex cl' (.asg (.ix o i) e) env S = bd (pushR (ev cl' e env S)) fun d S => bd (pushR (ev cl' o env S)) fun n S => bd (pushR (ev cl' i env S)) fun k S => nxF env (setF S n k d) := by
  simp only [ex, asgT]
  cases pushR (ev cl' e env S) with
  | none => rfl
  | some z =>
    simp only [bd]
    cases pushR (ev cl' o env z.2) with
    | none => rfl
    | some z2 =>
      obtain ⟨d2, S2⟩ := z2
      cases d2 with
      | loc n =>
        simp only
        cases pushR (ev cl' i env S2) with
        | none => rfl
        | some z3 =>
          obtain ⟨d3, S3⟩ := z3
          cases d3 with
          | int k =>
            simp only [setF]
            cases S3[n]? with
            | none => rfl
            | some o => cases o with
              | lst xs => simp only; cases ixN xs.length k <;> rfl
          | _ => rfl
      | _ => simp only; cases pushR (ev cl' i env S2) <;> rfl
theorem le_ex (hv : ∀ c env S, Le (F.ev c env S) (ev cl' c env S)) (hx : ∀ c env S, Le (F.ex c env S) (ex cl' c env S)) (s : CS) (env : Env) (S : Store) : Le (exStep F s env S) (ex cl' s env S) := by
  cases s with
  | expr e => rw [ex_expr]; exact .bd (.push (hv _ _ _)) fun _ _ => .refl _
  | ret e => rw [ex_ret]; exact .bd (.push (hv _ _ _)) fun _ _ => .refl _
  | retn => rw [ex_retn]; exact .refl _
  | asg t e =>
    cases t with
    | nm i => rw [ex_asg]; exact .bd (.push (hv _ _ _)) fun _ _ => .refl _
    | tp ts =>
      rw [ex_asgT]
      refine .bd (.push (hv _ _ _)) fun d S => ?_
      intro r h
      cases d with
      | tup ds =>
        have h : bindF (nmsF ts ds env) (fun env => some (.nx, env, S)) = some r := h
        cases e1 : nmsF ts ds env with
        | none => rw [e1] at h; cases h
        | some env' =>
          rw [e1] at h
          show bd (asgTs cl' ts ds env S) _ = some r
          rw [show asgTs cl' ts ds env S = some (env', S) from nms_asg e1]
          exact h
      | _ => cases h
    | ix o i =>
      rw [ex_asgI]
      exact .bd (.push (hv _ _ _)) fun _ _ => .bd (.push (hv _ _ _)) fun _ _ => .bd (.push (hv _ _ _)) fun _ _ => .refl _
  | par2 i j a b => rw [ex_par2]; exact .bd (.push (hv _ _ _)) fun _ _ => .bd (.push (hv _ _ _)) fun _ _ => .refl _
  | par3 i j k a b c => rw [ex_par3]; exact .bd (.push (hv _ _ _)) fun _ _ => .bd (.push (hv _ _ _)) fun _ _ => .bd (.push (hv _ _ _)) fun _ _ => .refl _
  | aug i op e =>
    intro r h
    simp only [exStep] at h
    split at h
    · rename_i x hx'
      rw [ex_aug (by rw [hx']), ev_var, hx']
      exact Le.bd (hv _ _ _) (fun _ _ => .refl _) r h
    · cases h
  | augx => exact .no
  | ite c t f => rw [ex_ite]; exact .bt (le_tst hv _ _ _) (fun _ => le_exs hx _ _ _) fun _ => le_exs hx _ _ _
  | whl c b => rw [ex_whl]; exact .while_ (fun _ _ => le_tst hv _ _ _) (fun _ _ => le_exs hx _ _ _) _ _ _
  | forr p it b =>
    have : ex cl' (.forr p it b) env S = bd (evi cl' it env S) fun di S => forL (fun x env S => bindF (bindP p x env) fun env' => exs cl' b env' S) di (di.len S) 0 env S := by
      simp only [ex]
      have hf : (fun (x : D) (env : Env) (S : Store) => bindF (bindP p x env) fun env' => exs cl' b env' S) = (fun x env S => (match bindP p x env with | some env' => exs cl' b env' S | none => none)) := by
        funext x env S
        cases bindP p x env <;> rfl
      rw [hf]
      cases evi cl' it env S <;> rfl
    rw [this]
    exact .bd (le_evi hv _ _ _) fun _ _ => .for_ (fun _ _ _ => .bind fun _ => le_exs hx _ _ _) _ _ _ _
  | brk => rw [ex_brk]; exact .refl _
  | cnt => rw [ex_cnt]; exact .refl _
  | pass => rw [ex_pass]; exact .refl _
  | never => exact .no
end
theorem le_lvl {cl cl' : Nat → List D → Store → Option (D × Store)} (hc : ∀ f a S, Le (cl f a S) (cl' f a S)) : ∀ n, (∀ c env S, Le ((lvl cl n).ev c env S) (ev cl' c env S)) ∧ ∀ c env S, Le ((lvl cl n).ex c env S) (ex cl' c env S)
  | 0 => ⟨fun _ _ _ => .no, fun _ _ _ => .no⟩
  | n + 1 => ⟨le_ev (le_lvl hc n).1 hc, le_ex (le_lvl hc n).1 (le_lvl hc n).2⟩
/-- the quick evaluator's answer is the core's -/
theorem fc_ok {T : Nat → Option FunC} {O : Nat → List D → Option D} {w j : Nat} (hO : ∀ k f args d S, O f args = some d → j ≤ k → callT T k f args S = some (d, S)) : ∀ k f args S, Le (fc T O w k f args S) (callT T (k + j) f args S)
  | 0, _, _, _ => .no
  | k + 1, f, args, S => fun r h => by
    have ih := fc_ok (w := w) hO k
    unfold fc at h
    cases e1 : O f args with
    | some d =>
      rw [e1] at h
      cases h
      exact hO _ _ _ _ _ e1 (by omega)
    | none =>
      rw [e1] at h
      cases e2 : T f with
      | none => rw [e2] at h; cases h
      | some F =>
        rw [e2] at h
        simp only at h
        rw [show k + 1 + j = (k + j) + 1 by omega]
        unfold callT
        simp only [e2, runF_ans]
        split at h
        · rename_i hl
          rw [if_pos hl]
          split at h
          · rename_i hp
            rw [if_pos hp]
            cases e3 : ans (exsF (lvl (fc T O w k) w) F.body (args.map some ++ List.replicate (F.n - F.np) none) []) with
            | none => rw [e3] at h; cases h
            | some z => rw [e3] at h; rw [Le.ans (le_exs (le_lvl ih w).2 _ _ _) _ e3]; exact h
          · rename_i hp
            rw [if_neg hp]
            cases e3 : ans (exsF (lvl (fc T O w k) w) F.body (args.map some ++ List.replicate (F.n - F.np) none) S) with
            | none => rw [e3] at h; cases h
            | some z => rw [e3] at h; rw [Le.ans (le_exs (le_lvl ih w).2 _ _ _) _ e3]; exact h
        · cases h
end Pv

/-! What a law draws. -/
namespace Pv
open PySem (Operator CmpOp)
local macro_rules
  | `(tactic| simp! [$ls,*]) => `(tactic| simp only [exs_nil, exs_cons, ex_expr, ex_ret, ex_asg, ex_asgT, asgTs_nil, asgTs_cons, ex_par2, ex_par3, ex_aug, ex_ite, ex_pass, ex_brk, ex_cnt, ex_retn, ex_whl, ex_never,
    ev_var, ev_lit, ev_bin, ev_neg, ev_not, ev_cmp, ev_cmp2, ev_and, ev_or, ev_ife, ev_tup, ev_lst, evs_nil, evs_cons, ev_idx, ev_slc, evo_no, evo_at, ev_call, ev_b1, ev_b2, ev_sq, ev_mt1, ev_mt0, push_v, push_s, push_ite, mt1D_loc, mt0D_loc, negR_int, intR_int, aug_add, aug_sub, aug_ar,
    tst_and, tst_or, tst_not, tst_cmp, tst_var, tst_lit, tst_call, tst_bin, tst_b1, tst_idx, tst_sq, tst_cmp2, tst_ife, bin_add, bin_sub, bin_mul, bin_div, bin_mod, bin_cat, tru_int, tru_bl, tru_tup, cmp_lt, cmp_le, cmp_gt, cmp_ge, cmp_eq, cmp_ne,
    eqv_int, eqv_bl, eqv_tup, eqvs_nil, eqvs_cons, okn_int, okn_bl, okn_tup, okns_nil, okns_cons, eqvs_ints, okns_ints, pures_nil, pures_cons, pures_ints, bd_some, bt_some, bf_nx, bf_rt, bf_bk, bf_ct, bd_none, bt_none, bf_none, bd_ite, bt_ite, bf_ite, wS_some, wV_some, ans_rt, ans_nx, ans_none, ans_ite, val_rt, val_nx, val_none, val_ite, post_some, post_none, post_ite, turn, turnQ,
    idx_t, idx_l, lst_0, lst_1, at0, at1, b1_abs, b1_int, b1_intb, b1_isInt, b1_isBool, b2_min, b2_max, ar_add, ar_sub, Option.map_some, Option.bind_some, id, decide_eq_true_eq, Bool.and_true, Bool.true_and, if_true, if_false, reduceIte, reduceCtorEq, Nat.reduceSub, List.reduceReplicate, Int.reduceNeg, Int.reduceLE, Int.reduceLT, Nat.reduceAdd, Int.reduceToNat, Int.ofNat_eq_natCast,
    List.map_cons, List.map_nil, List.cons_append, List.nil_append, List.getElem?_cons_zero, List.getElem?_cons_succ, List.set_cons_zero, List.set_cons_succ, List.length_cons, List.length_nil, ne_eq, not_false_eq_true, not_true_eq_false, decide_false, decide_true, $ls,*])
def lstO : Option O → Option (List D)
  | some (.lst ds) => some ds
  | none => none
theorem lstO_some {ds : List D} : lstO (some (.lst ds)) = some ds := rfl
theorem lst_of {S : Store} {n : Nat} : lstR S (.v (.loc n)) = lstO S[n]? := by
  show (match S[n]? with | some (.lst ds) => some ds | none => none) = _
  cases S[n]? with
  | none => rfl
  | some o => cases o; rfl
theorem setF_loc {S : Store} {n : Nat} {k : Int} {d : D} : setF S (.loc n) (.int k) d = (lstO S[n]?).bind fun xs => (ixN xs.length k).map fun j => S.set n (.lst (xs.set j d)) := by
  simp only [setF]
  cases S[n]? with
  | none => rfl
  | some o => cases o with
    | lst xs => simp only [lstO, Option.bind_some]; cases ixN xs.length k <;> rfl
theorem nxF_some {env : Env} {S : Store} : nxF env (some S) = some (.nx, env, S) := rfl
theorem at2 {x y z : D} {r : List D} : atD (x :: y :: z :: r) 2 = some z := at_nat (j := 2) rfl rfl
theorem at3 {x y z w : D} {r : List D} : atD (x :: y :: z :: w :: r) 3 = some w := at_nat (j := 3) rfl rfl
theorem ix40 : ixN 4 0 = some 0 := rfl
theorem ix41 : ixN 4 1 = some 1 := rfl
theorem ix43 : ixN 4 3 = some 3 := rfl
theorem argQ_len {S : Store} {r : R} : argQ S .len r = seqR S r := rfl
theorem seq_loc {S : Store} {n : Nat} : seqR S (.v (.loc n)) = lstO S[n]? := lst_of
theorem sq_len {ds : List D} : sqR .len ds = some (.v (.int ds.length)) := rfl
theorem bin_ar {S : Store} {x y : Int} {op : Operator} : binR S op (.v (.int x)) (.v (.int y)) = (arI op x y).map fun z => .v (.int z) := rfl
theorem ar_lit {x y : Int} (h : y.natAbs < 18446744073709551616) : arI .Mult x y = some (x * y) := ar_mulR h
theorem ml1 {x : Int} : arI .Mult x 48271 = some (x * 48271) := ar_mulR (by decide)
theorem ml2 {x : Int} : arI .Mult x 69621 = some (x * 69621) := ar_mulR (by decide)
theorem ml3 {x : Int} : arI .Mult x 2147483647 = some (x * 2147483647) := ar_mulR (by decide)
theorem ml4 {x : Int} : arI .Mult x 30011 = some (x * 30011) := ar_mulR (by decide)
theorem ar_pow18 : arI .Pow 10 18 = some 1000000000000000000 := rfl
/-- the draw's code -/
def drawF : FunC := ⟨6, 2, [(.ite (.cmp .Lt (.idx (.var 0) (.lit (.int (0)))) (.var 1)) [(.asg (.nm 2) (.idx (.var 0) (.lit (.int (1))))),
    (.asg (.ix (.var 0) (.lit (.int (1)))) (.bin .Add (.var 2) (.lit (.int (1))))),
    (.asg (.nm 3) (.lit (.int (0)))),
    (.ite (.cmp .Lt (.var 2) (.sq .len (.idx (.var 0) (.lit (.int (2)))))) [(.asg (.nm 3) (.idx (.idx (.var 0) (.lit (.int (2)))) (.var 2)))] []),
    (.ite (.cmp .GtE (.var 3) (.bin .Pow (.lit (.int (10))) (.lit (.int (18))))) [(.asg (.ix (.var 0) (.lit (.int (0)))) (.var 3))] [(.asg (.ix (.var 0) (.lit (.int (3)))) (.bin .Mod (.b1 .int (.bin .Mult (.bin .Add (.bin .Add (.bin .Add (.idx (.var 0) (.lit (.int (3)))) (.bin .Mod (.b1 .int (.var 3)) (.lit (.int (2147483629))))) (.var 2)) (.lit (.int (1)))) (.lit (.int (48271))))) (.lit (.int (2147483647))))),
    (.asg (.nm 4) (.bin .Mod (.b1 .int (.bin .Add (.bin .Mult (.idx (.var 0) (.lit (.int (3)))) (.lit (.int (69621)))) (.lit (.int (11))))) (.lit (.int (2147483629))))),
    (.asg (.ix (.var 0) (.lit (.int (0)))) (.bin .Add (.bin .Mult (.var 4) (.lit (.int (2147483647)))) (.bin .Mod (.b1 .int (.bin .Add (.bin .Mult (.var 4) (.lit (.int (30011)))) (.idx (.var 0) (.lit (.int (3)))))) (.lit (.int (2147483587))))))])] []),
    (.asg (.nm 5) (.bin .Mod (.b1 .int (.idx (.var 0) (.lit (.int (0))))) (.var 1))),
    (.asg (.ix (.var 0) (.lit (.int (0)))) (.bin .FloorDiv (.idx (.var 0) (.lit (.int (0)))) (.var 1))),
    (.ret (.var 5))]⟩
/-- the state stands at sl, the cells at ce -/
structure Stands (S : Store) (sl ce : Nat) (cells : List Int) : Prop where
  ne : ce ≠ sl
  st : ∃ a p c : Int, 0 ≤ p ∧ S[sl]? = some (.lst [.int a, .int p, .loc ce, .int c])
  ce : S[ce]? = some (.lst (cells.map D.int))
theorem set_get {S : Store} {n : Nat} {o o' : O} (h : S[n]? = some o) : (S.set n o')[n]? = some o' := List.getElem?_set_self (List.getElem?_eq_some_iff.mp h).1
variable {T : Nat → Option FunC} {k : Nat}
/-- what holds of an answer -/
def ansP (x : Option (D × Store)) (P : D → Store → Prop) : Prop := match x with
  | some (d, S) => P d S
  | none => False
theorem ansP_some {d : D} {S : Store} {P : D → Store → Prop} : ansP (some (d, S)) P = P d S := rfl
theorem ansP_ite {c : Prop} [Decidable c] {a b : Option (D × Store)} {P : D → Store → Prop} : ansP (if c then a else b) P = if c then ansP a P else ansP b P := by split <;> rfl
theorem ansP_get {x : Option (D × Store)} {P : D → Store → Prop} (h : ansP x P) : ∃ d S, x = some (d, S) ∧ P d S := by
  cases x with
  | none => exact h.elim
  | some z => exact ⟨_, _, rfl, h⟩
theorem draw_body {S : Store} {sl ce : Nat} {cells : List Int} {cl : Nat → List D → Store → Option (D × Store)} (h : Stands S sl ce cells) (lim : Int) (hl : 0 < lim) (hz : lim.natAbs.log2 < 9000) :
    ansP (ans (exs cl drawF.body [some (.loc sl), some (.int lim), none, none, none, none] S)) fun d S' => ∃ x a p c : Int, d = .int x ∧ 0 ≤ x ∧ x < lim ∧ 0 ≤ p ∧ S' = S.set sl (.lst [.int a, .int p, .loc ce, .int c]) := by
  obtain ⟨hne, ⟨a, p, c, hp, hst⟩, hce⟩ := h
  have hs : ∀ o, (S.set sl o)[sl]? = some o := fun o => set_get hst
  have hc : ∀ o, (S.set sl o)[ce]? = some (.lst (cells.map D.int)) := fun o => by rw [List.getElem?_set_ne (Ne.symm hne)]; exact hce
  have hl0 : ¬ lim = 0 := by omega
  have hmod : ∀ x : Int, 0 ≤ x.fmod lim ∧ x.fmod lim < lim := fun x => ⟨Int.fmod_nonneg_of_pos _ hl, Int.fmod_lt_of_pos _ hl⟩
  have hp1 : 0 ≤ p + 1 := by omega
  unfold drawF
  by_cases h1 : a < lim
  · by_cases h2 : p < (cells.length : Int)
    · obtain ⟨cell, hcell⟩ : ∃ cell, cells[p.toNat]? = some cell := ⟨_, List.getElem?_eq_getElem (by omega)⟩
      have hat : atD (cells.map D.int) p = some (.int cell) := at_nat (j := p.toNat) (by omega) (by rw [List.getElem?_map, hcell]; rfl)
      by_cases h3 : (1000000000000000000 : Int) ≤ cell
      · simp! [lst_of, seq_loc, hst, hs, hc, lstO_some, setF_loc, nxF_some, ex_asgI, at2, at3, ix40, ix41, ix43, h1, h2, h3, hat, argQ_len, sq_len, bin_ar, ar_pow18, hl0, hz, ar_mod, ar_div, List.set_set, List.length_map, ansP_some]
        exact ⟨_, _, _, _, rfl, (hmod _).1, (hmod _).2, hp1, rfl⟩
      · simp! [lst_of, seq_loc, hst, hs, hc, lstO_some, setF_loc, nxF_some, ex_asgI, at2, at3, ix40, ix41, ix43, h1, h2, h3, hat, argQ_len, sq_len, bin_ar, ar_pow18, hl0, hz, ar_mod, ar_div, List.set_set, List.length_map, ansP_some, ml1, ml2, ml3, ml4, Int.reduceEq]
        exact ⟨_, _, _, _, rfl, (hmod _).1, (hmod _).2, hp1, rfl⟩
    · simp! [lst_of, seq_loc, hst, hs, hc, lstO_some, setF_loc, nxF_some, ex_asgI, at2, at3, ix40, ix41, ix43, h1, h2, argQ_len, sq_len, bin_ar, ar_pow18, hl0, hz, ar_mod, ar_div, List.set_set, List.length_map, ansP_some, ml1, ml2, ml3, ml4, Int.reduceEq]
      exact ⟨_, _, _, _, rfl, (hmod _).1, (hmod _).2, hp1, rfl⟩
  · simp! [lst_of, hst, hs, hc, lstO_some, setF_loc, nxF_some, ex_asgI, at2, at3, ix40, ix41, ix43, h1, hl0, hz, ar_mod, ar_div, List.set_set, bin_ar, ansP_some]
    exact ⟨_, _, _, _, rfl, (hmod _).1, (hmod _).2, hp, rfl⟩
/-- the draw: a digit below the limit; the state stands still -/
theorem draw_ok {S : Store} {sl ce f : Nat} {cells : List Int} (hT : T f = some drawF) (h : Stands S sl ce cells) (hlen : S.all (O.under S.length) = true) (lim : Int) (hl : 0 < lim) (hz : lim.natAbs.log2 < 9000) :
    ∃ (x : Int) (S' : Store), callT T (k + 1) f [.loc sl, .int lim] S = some (.int x, S') ∧ 0 ≤ x ∧ x < lim ∧ Stands S' sl ce cells ∧ S'.length = S.length ∧ (∀ j, j ≠ sl → S'[j]? = S[j]?) ∧ S'.all (O.under S'.length) = true := by
  obtain ⟨d, S', e, x, a, p, c, rfl, h1, h2, h3, rfl⟩ := ansP_get (draw_body (cl := callT T k) h lim hl hz)
  obtain ⟨hne, ⟨a0, p0, c0, hp0, hst⟩, hce⟩ := h
  have hcl : ce < S.length := (List.getElem?_eq_some_iff.mp hce).1
  have hall : ∀ n, (S.set sl (.lst [.int a, .int p, .loc ce, .int c])).length = n → (S.set sl (.lst [.int a, .int p, .loc ce, .int c])).all (O.under n) = true := fun n hn => by
    rw [List.length_set] at hn
    subst hn
    rw [List.all_eq_true] at hlen ⊢
    intro o ho
    rcases List.mem_or_eq_of_mem_set ho with ho | rfl
    · exact hlen o ho
    · show (true && (true && (Nat.blt ce S.length && (true && true)))) = true
      have : Nat.blt ce S.length = true := Nat.ble_eq_true_of_le hcl
      rw [this]; rfl
  refine ⟨x, _, ?_, h1, h2, ⟨hne, ⟨a, p, c, h3, set_get hst⟩, by rw [List.getElem?_set_ne (Ne.symm hne)]; exact hce⟩, by rw [List.length_set], fun j hj => List.getElem?_set_ne (Ne.symm hj), hall _ rfl⟩
  rw [call_st hT rfl rfl]
  have e' : ans (exs (callT T k) drawF.body ([D.loc sl, D.int lim].map some ++ List.replicate (drawF.n - drawF.np) none) S) = _ := e
  rw [e']
  have hlen2 : (S.set sl (O.lst [.int a, .int p, .loc ce, .int c])).take S.length = S.set sl (.lst [.int a, .int p, .loc ce, .int c]) := by
    rw [List.take_of_length_le]
    rw [List.length_set]; exact Nat.le_refl _
  rw [tidy_under rfl (by rw [hlen2]; exact hall _ (by rw [List.length_set])), hlen2]

/-! ### for over known items, with one's own state -/
def listM {α β δ : Type} (g : α → δ → Option (α ⊕ β)) : List δ → α → Option (α ⊕ β)
  | [], a => some (.inl a)
  | x :: xs, a => (match g a x with
    | some (.inl a') => listM g xs a'
    | some (.inr z) => some (.inr z)
    | none => none)
theorem list_of {α β δ : Type} {b : D → Env → Store → Option (Fl × Env × Store)} {emb : δ → D} {g : α → δ → Option (α ⊕ β)} (R : α → Env → Store → Prop) (Q : β → Fl → Env → Store → Prop)
    (h : ∀ a x env S r, R a env S → g a x = some r → post (b (emb x) env S) (turnQ R Q r)) : ∀ (xs : List δ) (a : α) (env : Env) (S : Store) (r : α ⊕ β), R a env S → listM g xs a = some r →
    post (listL b (xs.map emb) env S) (fun fl env S => match r with | .inl a => fl = .nx ∧ R a env S | .inr z => Q z fl env S)
  | [], a, env, S, r, p, e => by cases e; exact ⟨rfl, p⟩
  | x :: xs, a, env, S, r, p, e => by
    unfold listM at e
    rw [List.map_cons]
    unfold listL
    cases e1 : g a x with
    | none => rw [e1] at e; cases e
    | some q =>
      rw [e1] at e
      have ht := h a x env S q p e1
      cases e2 : b (emb x) env S with
      | none => rw [e2] at ht; exact ht.elim
      | some w =>
        obtain ⟨fl, env', S'⟩ := w
        rw [e2] at ht
        have ht : turnQ R Q q fl env' S' := ht
        cases q with
        | inl a' =>
          cases fl with
          | nx => exact list_of R Q h xs a' env' S' r ht e
          | ct => exact list_of R Q h xs a' env' S' r ht e
          | bk => exact ht.elim
          | rt d => exact ht.elim
        | inr z =>
          cases e
          cases fl with
          | nx => exact ht.elim
          | ct => exact ht.elim
          | bk => exact ht
          | rt d => exact ht
theorem bindF_some {β : Type} {env : Env} {g : Env → Option β} : bindF (some env) g = g env := rfl
/-- a comprehension that writes nothing: each item gives one -/
theorem comp_map {cl : Nat → List D → Store → Option (D × Store)} {own : List Nat} {p : Pat} {it : CI} {e : CE} {env : Env} {S : Store} {di : DI} {ds : List D} (g : D → D) (hi : evi cl it env S = some (di, S)) (hf : Fixed di ds) (hl : di.len S = ds.length) (hs : di.small = true)
    (h : ∀ x ∈ ds, ∃ env', bindP p x (wipeE env own) = some env' ∧ pushR (ev cl e env' S) = some (g x, S)) : ev cl (.comp own p it [] e) env S = some (.s (ds.map g), S) := by
  rw [ev_comp, hi, bd_some, walkC_all hf hl, listC_pure (g := fun x => [g x]) (fun x hx => ?_), bd_some]
  · rw [hs, Bool.true_or, if_pos rfl]
    congr 2
    congr 1
    clear h hl hf
    induction ds with
    | nil => rfl
    | cons d ds ih => simp [List.flatMap_cons, ih]
  · obtain ⟨env', h1, h2⟩ := h x hx
    rw [h1, bindF_some]
    have : tests cl [] env' S = some (true, S) := by simp only [tests]
    rw [this, bt_some, if_pos rfl, h2]; rfl
theorem cut_init {xs : List D} : cutD xs none (some (-1)) = xs.dropLast := by
  unfold cutD sIx
  simp only [List.drop_zero, Nat.sub_zero]
  rw [if_pos (by decide), List.dropLast_eq_take]
  congr 1
  omega
theorem cut_tail {xs : List D} : cutD xs (some 1) none = xs.tail := by
  unfold cutD sIx
  simp only
  rw [if_neg (by decide)]
  cases xs with
  | nil => rfl
  | cons x r =>
    rw [show min (1 : Int).toNat (x :: r).length = 1 by simp]
    simp
theorem cut_take {xs : List D} {n : Nat} (h : n ≤ xs.length) : cutD xs none (some (n : Int)) = xs.take n := by
  unfold cutD sIx
  simp only [List.drop_zero, Nat.sub_zero]
  rw [if_neg (by omega), show min (n : Int).toNat xs.length = n by omega]
theorem slc_tup {S : Store} {xs : List D} {l h : Option Int} : slcR S (.v (.tup xs)) l h = some (.v (.tup (cutD xs l h))) := rfl
theorem revR_tup {S : Store} {xs : List D} : revR S (.v (.tup xs)) = some (.revt xs) := rfl
theorem itR_tup {S : Store} {xs : List D} : itR S (.v (.tup xs)) = some (.tup xs) := rfl
theorem bindP_nm {i : Nat} {d : D} {env : Env} : bindP (.nm i) d env = some (env.set i (some d)) := by simp only [bindP]
theorem evi_rev {cl : Nat → List D → Store → Option (D × Store)} {a : CE} {env : Env} {S : Store} : evi cl (.rev a) env S = bd (ev cl a env S) fun r S => wS S (revR S r) := by
  simp only [evi]
  cases ev cl a env S with
  | none => rfl
  | some z => cases h : revR z.2 z.1 <;> simp [bd, wS, h]
theorem evi_sq1 {cl : Nat → List D → Store → Option (D × Store)} {a : CE} {env : Env} {S : Store} : evi cl (.seq a) env S = bd (ev cl a env S) fun r S => wS S (itR S r) := by
  simp only [evi]
  cases ev cl a env S with
  | none => rfl
  | some z => cases h : itR z.2 z.1 <;> simp [bd, wS, h]
theorem evi_rng1 {cl : Nat → List D → Store → Option (D × Store)} {a : CE} {env : Env} {S S' : Store} {j : Int} (h : ev cl a env S = some (.v (.int j), S')) (hj : rngOk j = true) : evi cl (.rng1 a) env S = some (.rng 0 1 j.toNat, S') := by
  simp only [evi, h]
  rw [if_pos hj]
theorem ex_for {cl : Nat → List D → Store → Option (D × Store)} {p : Pat} {it : CI} {b : List CS} {env : Env} {S S' : Store} {di : DI} {ds : List D} (hi : evi cl it env S = some (di, S')) (hf : Fixed di ds) (hl : di.len S' = ds.length) :
    ex cl (.forr p it b) env S = listL (fun x env S => bindF (bindP p x env) fun env' => exs cl b env' S) ds env S' := by
  have hF : (fun (x : D) (env : Env) (S : Store) => bindF (bindP p x env) fun env' => exs cl b env' S) = (fun x env S => (match bindP p x env with | some env' => exs cl b env' S | none => none)) := by
    funext x env S
    cases bindP p x env <;> rfl
  rw [hF]
  simp only [ex, hi]
  exact forL_all hf hl
theorem exs_append {cl : Nat → List D → Store → Option (D × Store)} : ∀ (l1 l2 : List CS) (env : Env) (S : Store), exs cl (l1 ++ l2) env S = bf (exs cl l1 env S) fun env S => exs cl l2 env S := fun l1 l2 => by
  induction l1 with
  | nil => intro env S; rw [exs_nil]; rfl
  | cons s l1 ih =>
    intro env S
    rw [List.cons_append, exs_cons, exs_cons]
    cases ex cl s env S with
    | none => rfl
    | some z =>
      obtain ⟨fl, e, S1⟩ := z
      cases fl with
      | nx => exact ih e S1
      | _ => rfl
end Pv

section
open PySem PySem.Spec PyProof.Rows L2 Pv
namespace Cd
/-- is_plain -/
def F196 : FunC := ⟨1, 1, [(.ret (.and (.b1 .isInt (.var 0)) (.not (.b1 .isBool (.var 0)))))]⟩
/-- common_divisor -/
def F197 : FunC := ⟨4, 2, [(.par2 2 3 (.b1 .abs (.var 0)) (.b1 .abs (.var 1))),
    (.whl (.var 3) [(.par2 2 3 (.var 3) (.bin .Mod (.var 2) (.var 3)))]),
    (.ret (.var 2))]⟩
/-- is_prime -/
def F198 : FunC := ⟨2, 1, [(.ite (.or (.not (.call 196 [(.var 0)])) (.cmp .Lt (.var 0) (.lit (.int (2))))) [(.ret (.lit (.bl false)))] []),
    (.asg (.nm 1) (.lit (.int (2)))),
    (.whl (.cmp .LtE (.bin .Mult (.var 1) (.var 1)) (.var 0)) [(.ite (.cmp .Eq (.bin .Mod (.var 0) (.var 1)) (.lit (.int (0)))) [(.ret (.lit (.bl false)))] []),
    (.aug 1 .Add (.ife (.cmp .Eq (.var 1) (.lit (.int (2)))) (.lit (.int (1))) (.lit (.int (2)))))]),
    (.ret (.lit (.bl true)))]⟩
/-- integer_power -/
def F201 : FunC := ⟨5, 2, [(.par3 2 3 4 (.lit (.int (1))) (.var 0) (.var 1)),
    (.whl (.var 4) [(.ite (.bin .Mod (.var 4) (.lit (.int (2)))) [(.aug 2 .Mult (.var 3))] []),
    (.aug 4 .FloorDiv (.lit (.int (2)))),
    (.ite (.var 4) [(.aug 3 .Mult (.var 3))] [])]),
    (.ret (.var 2))]⟩
/-- inverse_modulo -/
def F202 : FunC := ⟨7, 2, [(.par2 2 3 (.bin .Mod (.var 0) (.var 1)) (.var 1)),
    (.asg (.tp [(.nm 4), (.nm 5)]) (.tup [(.lit (.int (1))), (.lit (.int (0)))])),
    (.whl (.var 3) [(.asg (.nm 6) (.bin .FloorDiv (.var 2) (.var 3))),
    (.par2 2 3 (.var 3) (.bin .Sub (.var 2) (.bin .Mult (.var 6) (.var 3)))),
    (.par2 4 5 (.var 5) (.bin .Sub (.var 4) (.bin .Mult (.var 6) (.var 5))))]),
    (.ret (.bin .Mod (.var 4) (.var 1)))]⟩
/-- number_of -/
def F203 : FunC := ⟨4, 3, [(.ite (.var 0) [(.ite (.cmp .Eq (.bin .Mod (.var 2) (.var 0)) (.lit (.int (0)))) [.never] []),
    (.ret (.tup [(.bin .Mod (.bin .Mult (.var 1) (.call 202 [(.var 2), (.var 0)])) (.var 0)), (.lit (.int (1)))]))] []),
    (.ite (.cmp .Eq (.var 2) (.lit (.int (0)))) [.never] []),
    (.asg (.nm 3) (.call 197 [(.var 1), (.var 2)])),
    (.ite (.cmp .Lt (.var 2) (.lit (.int (0)))) [(.asg (.nm 3) (.neg (.var 3)))] []),
    (.ret (.tup [(.bin .FloorDiv (.var 1) (.var 3)), (.bin .FloorDiv (.var 2) (.var 3))]))]⟩
/-- whole -/
def F204 : FunC := ⟨2, 2, [(.ret (.ife (.var 0) (.tup [(.bin .Mod (.var 1) (.var 0)), (.lit (.int (1)))]) (.tup [(.var 1), (.lit (.int (1)))])))]⟩
/-- plus -/
def F205 : FunC := ⟨3, 3, [(.ite (.var 0) [(.ret (.tup [(.bin .Mod (.bin .Add (.idx (.var 1) (.lit (.int (0)))) (.idx (.var 2) (.lit (.int (0))))) (.var 0)), (.lit (.int (1)))]))] []),
    (.ite (.and (.cmp .Eq (.idx (.var 1) (.lit (.int (1)))) (.lit (.int (1)))) (.cmp .Eq (.idx (.var 2) (.lit (.int (1)))) (.lit (.int (1))))) [(.ret (.tup [(.bin .Add (.idx (.var 1) (.lit (.int (0)))) (.idx (.var 2) (.lit (.int (0))))), (.lit (.int (1)))]))] []),
    (.ret (.call 203 [(.var 0), (.bin .Add (.bin .Mult (.idx (.var 1) (.lit (.int (0)))) (.idx (.var 2) (.lit (.int (1))))) (.bin .Mult (.idx (.var 2) (.lit (.int (0)))) (.idx (.var 1) (.lit (.int (1)))))), (.bin .Mult (.idx (.var 1) (.lit (.int (1)))) (.idx (.var 2) (.lit (.int (1)))))]))]⟩
/-- negative -/
def F206 : FunC := ⟨2, 2, [(.ret (.ife (.var 0) (.tup [(.bin .Mod (.neg (.idx (.var 1) (.lit (.int (0))))) (.var 0)), (.lit (.int (1)))]) (.tup [(.neg (.idx (.var 1) (.lit (.int (0))))), (.idx (.var 1) (.lit (.int (1))))])))]⟩
/-- minus -/
def F207 : FunC := ⟨3, 3, [(.ret (.call 205 [(.var 0), (.var 1), (.call 206 [(.var 0), (.var 2)])]))]⟩
/-- inverse -/
def F209 : FunC := ⟨2, 2, [(.ret (.call 203 [(.var 0), (.idx (.var 1) (.lit (.int (1)))), (.idx (.var 1) (.lit (.int (0))))]))]⟩
/-- is_less -/
def F214 : FunC := ⟨2, 2, [(.ret (.cmp .Lt (.bin .Mult (.idx (.var 0) (.lit (.int (0)))) (.idx (.var 1) (.lit (.int (1))))) (.bin .Mult (.idx (.var 1) (.lit (.int (0)))) (.idx (.var 0) (.lit (.int (1)))))))]⟩
/-- floor_of -/
def F217 : FunC := ⟨1, 1, [(.ret (.bin .FloorDiv (.idx (.var 0) (.lit (.int (0)))) (.idx (.var 0) (.lit (.int (1))))))]⟩
/-- parts_of -/
def F76 : FunC := ⟨5, 1, [(.asg (.nm 1) (.lst [])),
    (.asg (.nm 2) (.var 0)),
    (.whl (.lit (.bl true)) [(.asg (.nm 3) (.call 217 [(.var 2)])),
    (.expr (.mt1 .append (.var 1) (.var 3))),
    (.asg (.nm 4) (.call 207 [(.lit (.int (0))), (.var 2), (.call 204 [(.lit (.int (0))), (.var 3)])])),
    (.ite (.cmp .Eq (.idx (.var 4) (.lit (.int (0)))) (.lit (.int (0)))) [(.ret (.sq .tuple (.var 1)))] []),
    (.asg (.nm 2) (.call 209 [(.lit (.int (0))), (.var 4)]))])]⟩
/-- number_from_parts -/
def F77 : FunC := ⟨3, 1, [(.asg (.nm 1) (.call 204 [(.lit (.int (0))), (.idx (.var 0) (.neg (.lit (.int (1)))))])),
    (.forr (.nm 2) (.rev (.slc (.var 0) .no (.at_ (.neg (.lit (.int (1))))))) [(.asg (.nm 1) (.call 203 [(.lit (.int (0))), (.bin .Add (.bin .Mult (.var 2) (.idx (.var 1) (.lit (.int (0))))) (.idx (.var 1) (.lit (.int (1))))), (.idx (.var 1) (.lit (.int (0))))]))]),
    (.ret (.var 1))]⟩
/-- nearing -/
def F78 : FunC := ⟨5, 1, [(.par2 1 2 (.tup [(.lit (.int (1))), (.lit (.int (0)))]) (.tup [(.idx (.var 0) (.lit (.int (0)))), (.lit (.int (1)))])),
    (.asg (.nm 3) (.lst [(.tup [(.idx (.var 0) (.lit (.int (0)))), (.lit (.int (1)))])])),
    (.forr (.nm 4) (.seq (.slc (.var 0) (.at_ (.lit (.int (1)))) .no)) [(.par2 1 2 (.var 2) (.tup [(.bin .Add (.bin .Mult (.var 4) (.idx (.var 2) (.lit (.int (0))))) (.idx (.var 1) (.lit (.int (0))))), (.bin .Add (.bin .Mult (.var 4) (.idx (.var 2) (.lit (.int (1))))) (.idx (.var 1) (.lit (.int (1)))))])),
    (.expr (.mt1 .append (.var 3) (.var 2)))]),
    (.ret (.sq .tuple (.var 3)))]⟩
/-- root_floor_of -/
def F79 : FunC := ⟨3, 1, [(.ite (.cmp .Lt (.var 0) (.lit (.int (2)))) [(.ret (.var 0))] []),
    (.asg (.nm 1) (.call 201 [(.lit (.int (2))), (.bin .FloorDiv (.bin .Add (.sq .len (.call 80 [(.var 0)])) (.lit (.int (1)))) (.lit (.int (2))))])),
    (.whl (.lit (.bl true)) [(.asg (.nm 2) (.bin .FloorDiv (.bin .Add (.var 1) (.bin .FloorDiv (.var 0) (.var 1))) (.lit (.int (2))))),
    (.ite (.cmp .GtE (.var 2) (.var 1)) [(.ret (.var 1))] []),
    (.asg (.nm 1) (.var 2))])]⟩
/-- bin_digits -/
def F80 : FunC := ⟨3, 1, [(.asg (.nm 1) (.lst [])),
    (.asg (.nm 2) (.var 0)),
    (.whl (.var 2) [(.expr (.mt1 .append (.var 1) (.bin .Mod (.var 2) (.lit (.int (2)))))),
    (.aug 2 .FloorDiv (.lit (.int (2))))]),
    (.ret (.var 1))]⟩
/-- is_square -/
def F81 : FunC := ⟨1, 1, [(.ret (.and (.cmp .GtE (.var 0) (.lit (.int (0)))) (.cmp .Eq (.bin .Pow (.call 79 [(.var 0)]) (.lit (.int (2)))) (.var 0))))]⟩
/-- root_parts -/
def F82 : FunC := ⟨6, 1, [(.asg (.nm 1) (.call 79 [(.var 0)])),
    (.ite (.cmp .Eq (.bin .Mult (.var 1) (.var 1)) (.var 0)) [(.ret (.tup [(.var 1), (.tup [])]))] []),
    (.asg (.nm 2) (.lst [])),
    (.par3 3 4 5 (.lit (.int (0))) (.lit (.int (1))) (.var 1)),
    (.whl (.cmp .NotEq (.var 5) (.bin .Mult (.lit (.int (2))) (.var 1))) [(.asg (.nm 3) (.bin .Sub (.bin .Mult (.var 4) (.var 5)) (.var 3))),
    (.asg (.nm 4) (.bin .FloorDiv (.bin .Sub (.var 0) (.bin .Mult (.var 3) (.var 3))) (.var 4))),
    (.asg (.nm 5) (.bin .FloorDiv (.bin .Add (.var 1) (.var 3)) (.var 4))),
    (.expr (.mt1 .append (.var 2) (.var 5)))]),
    (.ret (.tup [(.var 1), (.sq .tuple (.var 2))]))]⟩
/-- least_pell -/
def F83 : FunC := ⟨6, 1, [(.asg (.tp [(.nm 1), (.nm 2)]) (.call 82 [(.var 0)])),
    (.asg (.nm 3) (.ife (.cmp .Eq (.bin .Mod (.sq .len (.var 2)) (.lit (.int (2)))) (.lit (.int (0)))) (.sq .len (.var 2)) (.bin .Mult (.lit (.int (2))) (.sq .len (.var 2))))),
    (.asg (.nm 4) (.bin .Add (.tup [(.var 1)]) (.sq .tuple (.comp [5] (.nm 5) (.rng1 (.bin .Sub (.var 3) (.lit (.int (1))))) [] (.idx (.var 2) (.bin .Mod (.var 5) (.sq .len (.var 2)))))))),
    (.ret (.idx (.call 78 [(.var 4)]) (.neg (.lit (.int (1))))))]⟩
/-- least_minus_pell -/
def F84 : FunC := ⟨3, 1, [(.asg (.tp [(.nm 1), (.nm 2)]) (.call 82 [(.var 0)])),
    (.ite (.cmp .Eq (.bin .Mod (.sq .len (.var 2)) (.lit (.int (2)))) (.lit (.int (0)))) [(.ret (.lit .non))] []),
    (.ret (.idx (.call 78 [(.bin .Add (.tup [(.var 1)]) (.slc (.var 2) .no (.at_ (.neg (.lit (.int (1)))))))]) (.neg (.lit (.int (1))))))]⟩
/-- pell_at -/
def F85 : FunC := ⟨6, 2, [(.asg (.nm 2) (.call 83 [(.var 0)])),
    (.asg (.nm 3) (.tup [(.lit (.int (1))), (.lit (.int (0)))])),
    (.par2 4 5 (.var 1) (.var 2)),
    (.whl (.var 4) [(.ite (.bin .Mod (.var 4) (.lit (.int (2)))) [(.asg (.nm 3) (.tup [(.bin .Add (.bin .Mult (.idx (.var 3) (.lit (.int (0)))) (.idx (.var 5) (.lit (.int (0))))) (.bin .Mult (.bin .Mult (.var 0) (.idx (.var 3) (.lit (.int (1))))) (.idx (.var 5) (.lit (.int (1)))))), (.bin .Add (.bin .Mult (.idx (.var 3) (.lit (.int (0)))) (.idx (.var 5) (.lit (.int (1))))) (.bin .Mult (.idx (.var 3) (.lit (.int (1)))) (.idx (.var 5) (.lit (.int (0))))))]))] []),
    (.asg (.nm 5) (.tup [(.bin .Add (.bin .Mult (.idx (.var 5) (.lit (.int (0)))) (.idx (.var 5) (.lit (.int (0))))) (.bin .Mult (.bin .Mult (.var 0) (.idx (.var 5) (.lit (.int (1))))) (.idx (.var 5) (.lit (.int (1)))))), (.bin .Mult (.bin .Mult (.lit (.int (2))) (.idx (.var 5) (.lit (.int (0))))) (.idx (.var 5) (.lit (.int (1)))))])),
    (.aug 4 .FloorDiv (.lit (.int (2))))]),
    (.ret (.var 3))]⟩
/-- best_below -/
def F86 : FunC := ⟨9, 2, [(.asg (.nm 2) (.call 76 [(.var 0)])),
    (.asg (.nm 3) (.tup [(.idx (.var 2) (.lit (.int (0)))), (.lit (.int (1)))])),
    (.ite (.call 87 [(.var 0), (.tup [(.bin .Add (.idx (.var 2) (.lit (.int (0)))) (.lit (.int (1)))), (.lit (.int (1)))]), (.var 3)]) [(.asg (.nm 3) (.tup [(.bin .Add (.idx (.var 2) (.lit (.int (0)))) (.lit (.int (1)))), (.lit (.int (1)))]))] []),
    (.asg (.tp [(.nm 4), (.nm 5)]) (.tup [(.lit (.int (0))), (.lit (.int (1)))])),
    (.forr (.nm 6) (.rng2 (.lit (.int (1))) (.sq .len (.var 2))) [(.asg (.nm 7) (.b2 .min (.idx (.var 2) (.var 6)) (.bin .FloorDiv (.bin .Sub (.var 1) (.var 4)) (.var 5)))),
    (.ite (.cmp .Lt (.var 7) (.lit (.int (1)))) [(.ret (.var 3))] []),
    (.asg (.nm 8) (.call 77 [(.bin .Add (.slc (.var 2) .no (.at_ (.var 6))) (.tup [(.var 7)]))])),
    (.ite (.call 87 [(.var 0), (.var 8), (.var 3)]) [(.asg (.nm 3) (.var 8))] []),
    (.par2 4 5 (.var 5) (.bin .Add (.bin .Mult (.idx (.var 2) (.var 6)) (.var 5)) (.var 4)))]),
    (.ret (.var 3))]⟩
/-- is_nearer -/
def F87 : FunC := ⟨5, 3, [(.par2 3 4 (.call 88 [(.call 207 [(.lit (.int (0))), (.var 0), (.var 1)])]) (.call 88 [(.call 207 [(.lit (.int (0))), (.var 0), (.var 2)])])),
    (.ite (.cmp .Eq (.var 3) (.var 4)) [(.ret (.call 214 [(.var 1), (.var 2)]))] []),
    (.ret (.call 214 [(.var 3), (.var 4)]))]⟩
/-- size_of -/
def F88 : FunC := ⟨1, 1, [(.ret (.tup [(.b1 .abs (.idx (.var 0) (.lit (.int (0))))), (.idx (.var 0) (.lit (.int (1))))]))]⟩
/-- farey -/
def F89 : FunC := ⟨5, 1, [(.asg (.nm 1) (.lst [(.tup [(.lit (.int (0))), (.lit (.int (1)))])])),
    (.par2 2 3 (.tup [(.lit (.int (0))), (.lit (.int (1)))]) (.tup [(.lit (.int (1))), (.var 0)])),
    (.whl (.cmp .LtE (.idx (.var 3) (.lit (.int (0)))) (.var 0)) [(.expr (.mt1 .append (.var 1) (.var 3))),
    (.asg (.nm 4) (.bin .FloorDiv (.bin .Add (.var 0) (.idx (.var 2) (.lit (.int (1))))) (.idx (.var 3) (.lit (.int (1)))))),
    (.par2 2 3 (.var 3) (.tup [(.bin .Sub (.bin .Mult (.var 4) (.idx (.var 3) (.lit (.int (0))))) (.idx (.var 2) (.lit (.int (0))))), (.bin .Sub (.bin .Mult (.var 4) (.idx (.var 3) (.lit (.int (1))))) (.idx (.var 2) (.lit (.int (1)))))])),
    (.ite (.cmp .Eq (.idx (.var 1) (.neg (.lit (.int (1))))) (.tup [(.lit (.int (1))), (.lit (.int (1)))])) [.brk] [])]),
    (.ret (.sq .tuple (.var 1)))]⟩
/-- two_squares -/
def F90 : FunC := ⟨5, 1, [(.ite (.cmp .Eq (.var 0) (.lit (.int (2)))) [(.ret (.tup [(.lit (.int (1))), (.lit (.int (1)))]))] []),
    (.ite (.cmp .NotEq (.bin .Mod (.var 0) (.lit (.int (4)))) (.lit (.int (1)))) [(.ret (.lit .non))] []),
    (.asg (.nm 1) (.call 91 [(.var 0)])),
    (.par2 2 3 (.var 0) (.var 1)),
    (.whl (.cmp .Gt (.bin .Mult (.var 3) (.var 3)) (.var 0)) [(.par2 2 3 (.var 3) (.bin .Mod (.var 2) (.var 3)))]),
    (.asg (.nm 4) (.call 79 [(.bin .Sub (.var 0) (.bin .Mult (.var 3) (.var 3)))])),
    (.ret (.tup [(.b2 .min (.var 3) (.var 4)), (.b2 .max (.var 3) (.var 4))]))]⟩
/-- square_root_of_minus_one -/
def F91 : FunC := ⟨5, 1, [(.asg (.nm 1) (.lit (.int (2)))),
    (.whl (.lit (.bl true)) [(.par3 2 3 4 (.lit (.int (1))) (.var 1) (.bin .FloorDiv (.bin .Sub (.var 0) (.lit (.int (1)))) (.lit (.int (4))))),
    (.whl (.var 4) [(.ite (.bin .Mod (.var 4) (.lit (.int (2)))) [(.asg (.nm 2) (.bin .Mod (.bin .Mult (.var 2) (.var 3)) (.var 0)))] []),
    (.asg (.nm 3) (.bin .Mod (.bin .Mult (.var 3) (.var 3)) (.var 0))),
    (.aug 4 .FloorDiv (.lit (.int (2))))]),
    (.ite (.cmp .Eq (.bin .Mod (.bin .Mult (.var 2) (.var 2)) (.var 0)) (.bin .Sub (.var 0) (.lit (.int (1))))) [(.ret (.var 2))] []),
    (.aug 1 .Add (.lit (.int (1))))])]⟩
/-- _law_draw -/
def F1000 : FunC := ⟨6, 2, [(.ite (.cmp .Lt (.idx (.var 0) (.lit (.int (0)))) (.var 1)) [(.asg (.nm 2) (.idx (.var 0) (.lit (.int (1))))),
    (.asg (.ix (.var 0) (.lit (.int (1)))) (.bin .Add (.var 2) (.lit (.int (1))))),
    (.asg (.nm 3) (.lit (.int (0)))),
    (.ite (.cmp .Lt (.var 2) (.sq .len (.idx (.var 0) (.lit (.int (2)))))) [(.asg (.nm 3) (.idx (.idx (.var 0) (.lit (.int (2)))) (.var 2)))] []),
    (.ite (.cmp .GtE (.var 3) (.bin .Pow (.lit (.int (10))) (.lit (.int (18))))) [(.asg (.ix (.var 0) (.lit (.int (0)))) (.var 3))] [(.asg (.ix (.var 0) (.lit (.int (3)))) (.bin .Mod (.b1 .int (.bin .Mult (.bin .Add (.bin .Add (.bin .Add (.idx (.var 0) (.lit (.int (3)))) (.bin .Mod (.b1 .int (.var 3)) (.lit (.int (2147483629))))) (.var 2)) (.lit (.int (1)))) (.lit (.int (48271))))) (.lit (.int (2147483647))))),
    (.asg (.nm 4) (.bin .Mod (.b1 .int (.bin .Add (.bin .Mult (.idx (.var 0) (.lit (.int (3)))) (.lit (.int (69621)))) (.lit (.int (11))))) (.lit (.int (2147483629))))),
    (.asg (.ix (.var 0) (.lit (.int (0)))) (.bin .Add (.bin .Mult (.var 4) (.lit (.int (2147483647)))) (.bin .Mod (.b1 .int (.bin .Add (.bin .Mult (.var 4) (.lit (.int (30011)))) (.idx (.var 0) (.lit (.int (3)))))) (.lit (.int (2147483587))))))])] []),
    (.asg (.nm 5) (.bin .Mod (.b1 .int (.idx (.var 0) (.lit (.int (0))))) (.var 1))),
    (.asg (.ix (.var 0) (.lit (.int (0)))) (.bin .FloorDiv (.idx (.var 0) (.lit (.int (0)))) (.var 1))),
    (.ret (.var 5))]⟩
/-- _law_same -/
def F1001 : FunC := ⟨2, 2, [(.ret (.and (.cmp .Eq (.cmp .Is (.var 0) (.lit (.bl true))) (.var 1)) (.cmp .NotEq (.cmp .Is (.var 0) (.lit (.bl false))) (.var 1))))]⟩
/-- _law_nearing -/
def F1002 : FunC := ⟨6, 1, [(.asg (.nm 1) (.call 203 [(.lit (.int (0))), (.bin .Sub (.call 1000 [(.var 0), (.lit (.int (401)))]) (.lit (.int (200)))), (.bin .Add (.lit (.int (1))) (.call 1000 [(.var 0), (.lit (.int (60)))]))])),
    (.asg (.nm 2) (.call 76 [(.var 1)])),
    (.ite (.or (.cmp .NotEq (.call 77 [(.var 2)]) (.var 1)) (.or (.sq .any (.comp [3] (.nm 3) (.seq (.slc (.var 2) (.at_ (.lit (.int (1)))) .no)) [] (.cmp .Lt (.var 3) (.lit (.int (1)))))) (.and (.cmp .Gt (.sq .len (.var 2)) (.lit (.int (1)))) (.cmp .Lt (.idx (.var 2) (.neg (.lit (.int (1))))) (.lit (.int (2))))))) [(.ret (.lit (.bl false)))] []),
    (.ite (.or (.cmp .NotEq (.call 76 [(.call 205 [(.lit (.int (0))), (.var 1), (.tup [(.lit (.int (7))), (.lit (.int (1)))])])]) (.bin .Add (.tup [(.bin .Add (.idx (.var 2) (.lit (.int (0)))) (.lit (.int (7))))]) (.slc (.var 2) (.at_ (.lit (.int (1)))) .no))) (.and (.cmp .Gt (.sq .len (.var 2)) (.lit (.int (1)))) (.and (.cmp .Eq (.idx (.var 2) (.lit (.int (0)))) (.lit (.int (0)))) (.and (.cmp .Gt (.idx (.var 1) (.lit (.int (0)))) (.lit (.int (0)))) (.cmp .NotEq (.call 76 [(.call 203 [(.lit (.int (0))), (.idx (.var 1) (.lit (.int (1)))), (.idx (.var 1) (.lit (.int (0))))])]) (.slc (.var 2) (.at_ (.lit (.int (1)))) .no)))))) [(.ret (.lit (.bl false)))] []),
    (.asg (.nm 4) (.call 78 [(.var 2)])),
    (.ite (.or (.cmp .NotEq (.idx (.var 4) (.neg (.lit (.int (1))))) (.var 1)) (.or (.cmp .NotEq (.sq .len (.var 4)) (.sq .len (.var 2))) (.cmp .NotEq (.idx (.var 4) (.lit (.int (0)))) (.tup [(.idx (.var 2) (.lit (.int (0)))), (.lit (.int (1)))])))) [(.ret (.lit (.bl false)))] []),
    (.forr (.nm 5) (.rng1 (.bin .Sub (.sq .len (.var 4)) (.lit (.int (1))))) [(.ite (.or (.cmp .NotEq (.bin .Sub (.bin .Mult (.idx (.idx (.var 4) (.var 5)) (.lit (.int (0)))) (.idx (.idx (.var 4) (.bin .Add (.var 5) (.lit (.int (1))))) (.lit (.int (1))))) (.bin .Mult (.idx (.idx (.var 4) (.bin .Add (.var 5) (.lit (.int (1))))) (.lit (.int (0)))) (.idx (.idx (.var 4) (.var 5)) (.lit (.int (1)))))) (.ife (.cmp .Eq (.bin .Mod (.b1 .int (.var 5)) (.lit (.int (2)))) (.lit (.int (0)))) (.bin .Sub (.lit (.int (0))) (.lit (.int (1)))) (.lit (.int (1))))) (.not (.call 1001 [(.call 214 [(.idx (.var 4) (.var 5)), (.var 1)]), (.cmp .Eq (.bin .Mod (.b1 .int (.var 5)) (.lit (.int (2)))) (.lit (.int (0))))]))) [(.ret (.lit (.bl false)))] []),
    (.ite (.cmp .NotEq (.idx (.var 4) (.var 5)) (.call 77 [(.slc (.var 2) .no (.at_ (.bin .Add (.var 5) (.lit (.int (1))))))])) [(.ret (.lit (.bl false)))] [])]),
    (.ret (.lit (.bl true)))]⟩
/-- _law_rooted -/
def F1003 : FunC := ⟨13, 1, [(.asg (.nm 1) (.bin .Add (.lit (.int (1))) (.call 1000 [(.var 0), (.lit (.int (60)))]))),
    (.asg (.nm 2) (.call 79 [(.var 1)])),
    (.asg (.tp [(.nm 3), (.nm 4)]) (.call 82 [(.var 1)])),
    (.asg (.nm 5) (.cmp .Eq (.bin .Mult (.var 2) (.var 2)) (.var 1))),
    (.ite (.or (.cmp .Gt (.bin .Mult (.var 2) (.var 2)) (.var 1)) (.or (.cmp .LtE (.bin .Mult (.bin .Add (.var 2) (.lit (.int (1)))) (.bin .Add (.var 2) (.lit (.int (1))))) (.var 1)) (.or (.not (.call 1001 [(.call 81 [(.var 1)]), (.var 5)])) (.or (.cmp .NotEq (.var 3) (.var 2)) (.cmp .NotEq (.cmp .Eq (.var 4) (.tup [])) (.var 5)))))) [(.ret (.lit (.bl false)))] []),
    (.ite (.var 5) [(.ret (.lit (.bl true)))] []),
    (.ite (.or (.cmp .NotEq (.idx (.var 4) (.neg (.lit (.int (1))))) (.bin .Mult (.lit (.int (2))) (.var 2))) (.cmp .NotEq (.sq .trev (.slc (.var 4) .no (.at_ (.neg (.lit (.int (1))))))) (.slc (.var 4) .no (.at_ (.neg (.lit (.int (1)))))))) [(.ret (.lit (.bl false)))] []),
    (.asg (.tp [(.nm 6), (.nm 7)]) (.call 83 [(.var 1)])),
    (.asg (.nm 8) (.call 84 [(.var 1)])),
    (.ite (.or (.cmp .NotEq (.bin .Sub (.bin .Mult (.var 6) (.var 6)) (.bin .Mult (.bin .Mult (.var 1) (.var 7)) (.var 7))) (.lit (.int (1)))) (.or (.cmp .Lt (.var 7) (.lit (.int (1)))) (.cmp .NotEq (.cmp .Is (.var 8) (.lit .non)) (.cmp .Eq (.bin .Mod (.b1 .int (.sq .len (.var 4))) (.lit (.int (2)))) (.lit (.int (0))))))) [(.ret (.lit (.bl false)))] []),
    (.ite (.and (.cmp .IsNot (.var 8) (.lit .non)) (.or (.cmp .NotEq (.bin .Sub (.bin .Mult (.idx (.var 8) (.lit (.int (0)))) (.idx (.var 8) (.lit (.int (0))))) (.bin .Mult (.bin .Mult (.var 1) (.idx (.var 8) (.lit (.int (1))))) (.idx (.var 8) (.lit (.int (1)))))) (.bin .Sub (.lit (.int (0))) (.lit (.int (1))))) (.cmp .NotEq (.tup [(.bin .Add (.bin .Mult (.idx (.var 8) (.lit (.int (0)))) (.idx (.var 8) (.lit (.int (0))))) (.bin .Mult (.bin .Mult (.var 1) (.idx (.var 8) (.lit (.int (1))))) (.idx (.var 8) (.lit (.int (1)))))), (.bin .Mult (.bin .Mult (.lit (.int (2))) (.idx (.var 8) (.lit (.int (0))))) (.idx (.var 8) (.lit (.int (1)))))]) (.tup [(.var 6), (.var 7)])))) [(.ret (.lit (.bl false)))] []),
    (.asg (.nm 9) (.tup [(.lit (.int (1))), (.lit (.int (0)))])),
    (.forr (.nm 10) (.rng1 (.lit (.int (5)))) [(.ite (.cmp .NotEq (.call 85 [(.var 1), (.var 10)]) (.var 9)) [(.ret (.lit (.bl false)))] []),
    (.asg (.nm 9) (.tup [(.bin .Add (.bin .Mult (.idx (.var 9) (.lit (.int (0)))) (.var 6)) (.bin .Mult (.bin .Mult (.var 1) (.idx (.var 9) (.lit (.int (1))))) (.var 7))), (.bin .Add (.bin .Mult (.idx (.var 9) (.lit (.int (0)))) (.var 7)) (.bin .Mult (.idx (.var 9) (.lit (.int (1)))) (.var 6)))]))]),
    (.asg (.nm 11) (.comp [12] (.nm 12) (.rng2 (.lit (.int (1))) (.b2 .min (.var 7) (.lit (.int (60))))) [(.call 1004 [(.bin .Add (.bin .Mult (.bin .Mult (.var 1) (.var 12)) (.var 12)) (.lit (.int (1))))])] (.var 12))),
    (.ret (.cmp .Eq (.var 11) (.lst [])))]⟩
/-- _law_is_square -/
def F1004 : FunC := ⟨2, 1, [(.asg (.nm 1) (.call 79 [(.var 0)])),
    (.ret (.cmp .Eq (.bin .Mult (.var 1) (.var 1)) (.var 0)))]⟩
/-- _law_farey -/
def F1005 : FunC := ⟨12, 1, [(.asg (.nm 1) (.bin .Add (.lit (.int (1))) (.call 1000 [(.var 0), (.lit (.int (12)))]))),
    (.asg (.nm 2) (.call 89 [(.var 1)])),
    (.ite (.or (.cmp .NotEq (.idx (.var 2) (.lit (.int (0)))) (.tup [(.lit (.int (0))), (.lit (.int (1)))])) (.or (.cmp .NotEq (.idx (.var 2) (.neg (.lit (.int (1))))) (.tup [(.lit (.int (1))), (.lit (.int (1)))])) (.sq .any (.comp [3] (.nm 3) (.seq (.var 2)) [] (.cmp .Gt (.idx (.var 3) (.lit (.int (1)))) (.var 1)))))) [(.ret (.lit (.bl false)))] []),
    (.ite (.sq .any (.comp [4] (.nm 4) (.rng1 (.bin .Sub (.sq .len (.var 2)) (.lit (.int (1))))) [] (.or (.cmp .NotEq (.bin .Sub (.bin .Mult (.idx (.idx (.var 2) (.bin .Add (.var 4) (.lit (.int (1))))) (.lit (.int (0)))) (.idx (.idx (.var 2) (.var 4)) (.lit (.int (1))))) (.bin .Mult (.idx (.idx (.var 2) (.var 4)) (.lit (.int (0)))) (.idx (.idx (.var 2) (.bin .Add (.var 4) (.lit (.int (1))))) (.lit (.int (1)))))) (.lit (.int (1)))) (.cmp .LtE (.bin .Add (.idx (.idx (.var 2) (.var 4)) (.lit (.int (1)))) (.idx (.idx (.var 2) (.bin .Add (.var 4) (.lit (.int (1))))) (.lit (.int (1))))) (.var 1))))) [(.ret (.lit (.bl false)))] []),
    (.asg (.nm 5) (.call 89 [(.bin .Add (.var 1) (.lit (.int (1))))])),
    (.ite (.or (.sq .any (.comp [3] (.nm 3) (.seq (.var 2)) [] (.cmp .NotIn (.var 3) (.var 5)))) (.cmp .NotEq (.comp [3] (.nm 3) (.seq (.var 5)) [(.cmp .NotIn (.var 3) (.var 2))] (.var 3)) (.comp [4] (.nm 4) (.rng1 (.bin .Add (.var 1) (.lit (.int (2))))) [(.cmp .Eq (.idx (.call 203 [(.lit (.int (0))), (.var 4), (.bin .Add (.var 1) (.lit (.int (1))))]) (.lit (.int (1)))) (.bin .Add (.var 1) (.lit (.int (1)))))] (.call 203 [(.lit (.int (0))), (.var 4), (.bin .Add (.var 1) (.lit (.int (1))))])))) [(.ret (.lit (.bl false)))] []),
    (.asg (.nm 6) (.call 203 [(.lit (.int (0))), (.call 1000 [(.var 0), (.lit (.int (200)))]), (.lit (.int (200)))])),
    (.asg (.nm 7) (.call 86 [(.var 6), (.var 1)])),
    (.asg (.nm 8) (.lst [])),
    (.forr (.nm 3) (.seq (.var 2)) [(.asg (.nm 9) (.call 203 [(.lit (.int (0))), (.bin .Mult (.bin .Sub (.bin .Mult (.idx (.var 3) (.lit (.int (0)))) (.idx (.var 6) (.lit (.int (1))))) (.bin .Mult (.idx (.var 6) (.lit (.int (0)))) (.idx (.var 3) (.lit (.int (1)))))) (.bin .Sub (.bin .Mult (.idx (.var 3) (.lit (.int (0)))) (.idx (.var 6) (.lit (.int (1))))) (.bin .Mult (.idx (.var 6) (.lit (.int (0)))) (.idx (.var 3) (.lit (.int (1))))))), (.bin .Mult (.bin .Mult (.bin .Mult (.idx (.var 3) (.lit (.int (1)))) (.idx (.var 3) (.lit (.int (1))))) (.idx (.var 6) (.lit (.int (1))))) (.idx (.var 6) (.lit (.int (1)))))])),
    (.expr (.mt1 .append (.var 8) (.tup [(.var 9), (.var 3)])))]),
    (.asg (.nm 10) (.idx (.var 8) (.lit (.int (0))))),
    (.forr (.nm 11) (.seq (.var 8)) [(.asg (.nm 10) (.ife (.call 214 [(.idx (.var 11) (.lit (.int (0)))), (.idx (.var 10) (.lit (.int (0))))]) (.var 11) (.var 10)))]),
    (.ret (.cmp .Eq (.var 7) (.idx (.var 10) (.lit (.int (1))))))]⟩
/-- law -/
def F1006 : FunC := ⟨4, 1, [(.asg (.nm 1) (.lst [(.lit (.int (0))), (.lit (.int (0))), (.sq .list (.var 0)), (.lit (.int (1)))])),
    (.ite (.or (.not (.call 1002 [(.var 1)])) (.or (.not (.call 1003 [(.var 1)])) (.not (.call 1005 [(.var 1)])))) [(.ret (.lit (.bl false)))] []),
    (.asg (.nm 2) (.bin .Add (.lit (.int (2))) (.call 1000 [(.var 1), (.lit (.int (100)))]))),
    (.ite (.cmp .IsNot (.call 198 [(.var 2)]) (.lit (.bl true))) [(.ret (.lit (.bl true)))] []),
    (.asg (.nm 3) (.call 90 [(.var 2)])),
    (.ite (.cmp .NotEq (.cmp .Is (.var 3) (.lit .non)) (.cmp .Eq (.bin .Mod (.b1 .int (.var 2)) (.lit (.int (4)))) (.lit (.int (3))))) [(.ret (.lit (.bl false)))] []),
    (.ret (.or (.cmp .Is (.var 3) (.lit .non)) (.and (.cmp .Eq (.bin .Add (.bin .Mult (.idx (.var 3) (.lit (.int (0)))) (.idx (.var 3) (.lit (.int (0))))) (.bin .Mult (.idx (.var 3) (.lit (.int (1)))) (.idx (.var 3) (.lit (.int (1)))))) (.var 2)) (.and (.cmp .LtE (.idx (.var 3) (.lit (.int (0)))) (.idx (.var 3) (.lit (.int (1))))) (.cmp .Gt (.idx (.var 3) (.lit (.int (0)))) (.lit (.int (0))))))))]⟩

def T (f : Nat) : Option FunC := match f with
  | 196 => some F196
  | 197 => some F197
  | 198 => some F198
  | 201 => some F201
  | 202 => some F202
  | 203 => some F203
  | 204 => some F204
  | 205 => some F205
  | 206 => some F206
  | 207 => some F207
  | 209 => some F209
  | 214 => some F214
  | 217 => some F217
  | 76 => some F76
  | 77 => some F77
  | 78 => some F78
  | 79 => some F79
  | 80 => some F80
  | 81 => some F81
  | 82 => some F82
  | 83 => some F83
  | 84 => some F84
  | 85 => some F85
  | 86 => some F86
  | 87 => some F87
  | 88 => some F88
  | 89 => some F89
  | 90 => some F90
  | 91 => some F91
  | 1000 => some F1000
  | 1001 => some F1001
  | 1002 => some F1002
  | 1003 => some F1003
  | 1004 => some F1004
  | 1005 => some F1005
  | 1006 => some F1006
  | _ => none
end Cd

end
namespace K13
open Pv Cd PySem
local macro_rules
  | `(tactic| simp! [$ls,*]) => `(tactic| simp only [exs_nil, exs_cons, ex_expr, ex_ret, ex_asg, ex_asgT, asgTs_nil, asgTs_cons, ex_par2, ex_par3, ex_aug, ex_ite, ex_pass, ex_brk, ex_cnt, ex_retn, ex_whl, ex_never,
    ev_var, ev_lit, ev_bin, ev_neg, ev_not, ev_cmp, ev_cmp2, ev_and, ev_or, ev_ife, ev_tup, ev_lst, evs_nil, evs_cons, ev_idx, ev_slc, evo_no, evo_at, ev_call, ev_b1, ev_b2, ev_sq, ev_mt1, ev_mt0, push_v, push_s, push_ite, mt1D_loc, mt0D_loc, negR_int, intR_int, aug_add, aug_sub, aug_ar,
    tst_and, tst_or, tst_not, tst_cmp, tst_var, tst_lit, tst_call, tst_bin, tst_b1, tst_idx, tst_sq, tst_cmp2, tst_ife, bin_add, bin_sub, bin_mul, bin_div, bin_mod, bin_cat, tru_int, tru_bl, tru_tup, cmp_lt, cmp_le, cmp_gt, cmp_ge, cmp_eq, cmp_ne,
    eqv_int, eqv_bl, eqv_tup, eqvs_nil, eqvs_cons, okn_int, okn_bl, okn_tup, okns_nil, okns_cons, eqvs_ints, okns_ints, pures_nil, pures_cons, pures_ints, bd_some, bt_some, bf_nx, bf_rt, bf_bk, bf_ct, bd_none, bt_none, bf_none, bd_ite, bt_ite, bf_ite, wS_some, wV_some, ans_rt, ans_nx, ans_none, ans_ite, val_rt, val_nx, val_none, val_ite, post_some, post_none, post_ite, turn, turnQ,
    idx_t, idx_l, lst_0, lst_1, at0, at1, b1_abs, b1_int, b1_intb, b1_isInt, b1_isBool, b2_min, b2_max, ar_add, ar_sub, Option.map_some, Option.bind_some, id, decide_eq_true_eq, Bool.and_true, Bool.true_and, if_true, if_false, reduceIte, reduceCtorEq, Nat.reduceSub, List.reduceReplicate, Int.reduceNeg, Int.reduceLE, Int.reduceLT, Nat.reduceAdd, Int.reduceToNat, Int.ofNat_eq_natCast,
    List.map_cons, List.map_nil, List.cons_append, List.nil_append, List.getElem?_cons_zero, List.getElem?_cons_succ, List.set_cons_zero, List.set_cons_succ, List.length_cons, List.length_nil, ne_eq, not_false_eq_true, not_true_eq_false, decide_false, decide_true, $ls,*])
variable {T : Nat → Option FunC} {k : Nat} {S : Store}
def q2 (p : Int × Int) : D := .tup [.int p.1, .int p.2]
theorem q2_pure {p : Int × Int} : (q2 p).pure = true := rfl
theorem idx_q0 {p : Int × Int} : idxR S (.v (q2 p)) (.v (.int 0)) = some (.int p.1) := rfl
theorem idx_q1 {p : Int × Int} : idxR S (.v (q2 p)) (.v (.int 1)) = some (.int p.2) := rfl
theorem okn_q {p : Int × Int} {n : Nat} : D.okn (n + 1) (q2 p) = true := by
  show (D.okn n (.int p.1) && (D.okn n (.int p.2) && okns n [])) = true
  rw [okn_int, okn_int, okns_nil]; rfl
theorem eqv_q {p q : Int × Int} : D.eqv (q2 p) (q2 q) = decide (p = q) := by
  show (D.eqv (.int p.1) (.int q.1) && (D.eqv (.int p.2) (.int q.2) && true)) = _
  rw [eqv_int, eqv_int, Bool.eq_iff_iff]
  simp [Prod.ext_iff]
theorem q2_pures {p : Int × Int} : pures [q2 p] = true := rfl
/-! ### common_divisor -/
def gcdS (p : Nat × Nat) : Option ((Nat × Nat) ⊕ Nat) := if p.2 = 0 then some (.inr p.1) else some (.inl (p.2, p.1 % p.2))
theorem gcd_run : ∀ (m n x y : Nat), y < 2 ^ m → 2 * m + 1 ≤ n → loopM gcdS n (x, y) = some (Nat.gcd x y)
  | 0, n, x, y, hy, hn => by
    obtain ⟨n, rfl⟩ : ∃ j, n = j + 1 := ⟨n - 1, by omega⟩
    have : y = 0 := by simp at hy; exact hy
    subst this
    simp [loopM, gcdS]
  | m + 1, n, x, y, hy, hn => by
    obtain ⟨n, rfl⟩ : ∃ j, n = j + 1 + 1 := ⟨n - 2, by omega⟩
    by_cases h : y = 0
    · subst h; simp [loopM, gcdS]
    · have e1 : gcdS (x, y) = some (.inl (y, x % y)) := by simp [gcdS, h]
      unfold loopM
      simp only [e1]
      have hr := Nat.mod_lt x (Nat.pos_of_ne_zero h)
      by_cases h2 : x % y = 0
      · have e2 : gcdS (y, x % y) = some (.inr y) := by simp [gcdS, h2]
        unfold loopM
        simp only [e2]
        rw [Nat.gcd_comm, Nat.gcd_rec, h2, Nat.gcd_zero_left]
      · have e2 : gcdS (y, x % y) = some (.inl (x % y, y % (x % y))) := by simp [gcdS, h2]
        unfold loopM
        simp only [e2]
        have h3 := Nat.mod_lt y (Nat.pos_of_ne_zero h2)
        have h4 : y % (x % y) + x % y ≤ y := by
          have h5 := Nat.div_add_mod y (x % y)
          have h6 : 1 ≤ y / (x % y) := (Nat.one_le_div_iff (Nat.pos_of_ne_zero h2)).mpr (Nat.le_of_lt hr)
          have h7 : (x % y) * 1 ≤ (x % y) * (y / (x % y)) := Nat.mul_le_mul_left _ h6
          omega
        have hp : 2 ^ (m + 1) = 2 * 2 ^ m := by rw [Nat.pow_succ]; omega
        rw [gcd_run m n (x % y) (y % (x % y)) (by omega) (by omega)]
        congr 1
        rw [Nat.gcd_comm x y, Nat.gcd_rec y x, Nat.gcd_rec (x % y) y, Nat.gcd_comm]
theorem fmod_nat (x y : Nat) : (x : Int).fmod (y : Int) = ((x % y : Nat) : Int) := by
  rw [Int.fmod_eq_emod_of_nonneg _ (by omega)]; omega
theorem c197 (h : T 197 = some F197) (a b : Int) (hb : b.natAbs < 2 ^ 64) : callT T (k + 1) 197 [.int a, .int b] S = some (.int (Int.gcd a b), S) := by
  have ea : (if a < 0 then -a else a) = (a.natAbs : Int) := by split <;> omega
  have eb : (if b < 0 then -b else b) = (b.natAbs : Int) := by split <;> omega
  obtain ⟨fl, env', S', hw, rfl, rfl, y, rfl⟩ := post_get (while_of (c := tst (callT T k) (.var 3)) (b := exs (callT T k) [(.par2 2 3 (.var 3) (.bin .Mod (.var 2) (.var 3)))]) (step := gcdS) (fun p env S => env = [some (.int a), some (.int b), some (.int (p.1 : Int)), some (.int (p.2 : Int))] ∧ S = [])
    (fun z fl env S => fl = .nx ∧ S = [] ∧ ∃ y, env = [some (.int a), some (.int b), some (.int (z : Int)), y]) (by
    rintro ⟨x, y⟩ _ _ r ⟨rfl, rfl⟩ hr
    unfold gcdS at hr
    by_cases hy : y = 0
    · subst hy
      simp at hr
      subst hr
      simp! [Int.natCast_zero]
      exact ⟨trivial, trivial, _, rfl⟩
    · simp [hy] at hr
      subst hr
      have hy' : ¬ (y : Int) = 0 := by omega
      simp! [hy', fmod_nat]
      exact ⟨trivial, trivial⟩) whileFuel (a.natAbs, b.natAbs) (Int.gcd a b) _ _ ⟨rfl, rfl⟩ (gcd_run 64 _ _ _ hb (by decide)))
  refine call_pure h rfl rfl ?_ rfl
  unfold F197
  simp! [ea, eb, hw]
/-! ### number_of -/
def numM (over under : Int) : Option (Int × Int) := if under = 0 then none else if under.natAbs < 2 ^ 64 then
  (if under < 0 then some (over.fdiv (-(Int.gcd over under : Int)), under.fdiv (-(Int.gcd over under : Int))) else some (over.fdiv (Int.gcd over under), under.fdiv (Int.gcd over under))) else none
theorem c203 (h1 : T 197 = some F197) (h : T 203 = some F203) (a b : Int) (r : Int × Int) (hr : numM a b = some r) : callT T (k + 2) 203 [.int 0, .int a, .int b] S = some (q2 r, S) := by
  unfold numM at hr
  split at hr
  · cases hr
  · rename_i hb
    split at hr
    · rename_i hz
      have hg : Int.gcd a b ≠ 0 := fun e => hb (Int.gcd_eq_zero_iff.mp e).2
      have hg0 : ¬ (Int.gcd a b : Int) = 0 := by omega
      have hg1 : ¬ -(Int.gcd a b : Int) = 0 := by omega
      have hle : Int.gcd a b ≤ b.natAbs := Nat.le_of_dvd (by omega) (Int.natAbs_dvd_natAbs.mpr (Int.gcd_dvd_right a b) |> fun z => by simpa using z)
      have hl : ∀ g : Int, g.natAbs = Int.gcd a b → g.natAbs.log2 < 9000 := fun g e => by
        rw [e]
        have : (Int.gcd a b).log2 < 64 := (Nat.log2_lt hg).mpr (by omega)
        omega
      have c := c197 (k := k) (S := []) h1 a b hz
      refine call_pure h rfl rfl ?_ rfl
      unfold F203
      have l1 := hl (Int.gcd a b) (by simp)
      have l2 := hl (-(Int.gcd a b)) (by simp)
      by_cases hn : b < 0
      · rw [if_pos hn] at hr
        cases hr
        simp! [hb, hn, c, hg1, l2]
        rfl
      · rw [if_neg hn] at hr
        cases hr
        simp! [hb, hn, c, hg0, l1]
        rfl
    · cases hr
/-! ### plus and its like -/
def mul (x y : Int) : Option Int := if x.natAbs < 18446744073709551616 then some (x * y) else none
theorem mul_ar {x y z : Int} (h : mul x y = some z) : arI .Mult x y = some z := by
  unfold mul at h
  split at h
  · rename_i q; rw [ar_mul q]; exact h
  · cases h
theorem c204 (h : T 204 = some F204) (v : Int) : callT T (k + 1) 204 [.int 0, .int v] S = some (q2 (v, 1), S) := by
  refine call_pure h rfl rfl ?_ rfl
  unfold F204; simp! []; rfl
theorem c206 (h : T 206 = some F206) (p : Int × Int) : callT T (k + 1) 206 [.int 0, q2 p] S = some (q2 (-p.1, p.2), S) := by
  refine call_pure h rfl rfl ?_ rfl
  unfold F206; simp! [q2]
theorem c217 (h : T 217 = some F217) (p : Int × Int) (hb : ¬ p.2 = 0) (hz : p.2.natAbs < 2 ^ 64) : callT T (k + 1) 217 [q2 p] S = some (.int (p.1.fdiv p.2), S) := by
  have : p.2.natAbs.log2 < 9000 := by
    have : p.2.natAbs.log2 < 64 := (Nat.log2_lt (by omega)).mpr hz
    omega
  refine call_pure h rfl rfl ?_ rfl
  unfold F217; simp! [q2, hb, this]
def plusM (a b : Int × Int) : Option (Int × Int) := if a.2 = 1 ∧ b.2 = 1 then some (a.1 + b.1, 1) else
  (mul a.1 b.2).bind fun x => (mul b.1 a.2).bind fun y => (mul a.2 b.2).bind fun z => numM (x + y) z
theorem c205 (h1 : T 197 = some F197) (h2 : T 203 = some F203) (h : T 205 = some F205) (a b r : Int × Int) (hr : plusM a b = some r) : callT T (k + 3) 205 [.int 0, q2 a, q2 b] S = some (q2 r, S) := by
  unfold plusM at hr
  refine call_pure h rfl rfl ?_ rfl
  unfold F205
  split at hr
  · rename_i hc
    cases hr
    simp! [q2, hc.1, hc.2]
  · rename_i hc
    simp only [Option.bind_eq_some_iff] at hr
    obtain ⟨x, hx, y, hy, z, hz, hr⟩ := hr
    have c := c203 (k := k) (S := []) h1 h2 _ _ _ hr
    by_cases e1 : a.2 = 1
    · have e2 : ¬ b.2 = 1 := fun e => hc ⟨e1, e⟩
      have hy' := mul_ar hy
      have hz' := mul_ar hz
      rw [e1] at hy' hz'
      simp! [q2, e1, e2, mul_ar hx, hy', hz', c]
    · simp! [q2, e1, mul_ar hx, mul_ar hy, mul_ar hz, c]
theorem c207 (h1 : T 197 = some F197) (h2 : T 203 = some F203) (h3 : T 205 = some F205) (h4 : T 206 = some F206) (h : T 207 = some F207) (a b r : Int × Int) (hr : plusM a (-b.1, b.2) = some r) : callT T (k + 4) 207 [.int 0, q2 a, q2 b] S = some (q2 r, S) := by
  have c1 := c206 (k := k + 2) (S := []) h4 b
  have c2 := c205 (k := k) (S := []) h1 h2 h3 a (-b.1, b.2) r hr
  refine call_pure h rfl rfl ?_ rfl
  unfold F207
  simp! [c1, c2]
theorem c209 (h1 : T 197 = some F197) (h2 : T 203 = some F203) (h : T 209 = some F209) (a r : Int × Int) (hr : numM a.2 a.1 = some r) : callT T (k + 3) 209 [.int 0, q2 a] S = some (q2 r, S) := by
  have c2 := c203 (k := k) (S := []) h1 h2 a.2 a.1 r hr
  refine call_pure h rfl rfl ?_ rfl
  unfold F209
  unfold q2 at *
  simp! [c2]
def lessM (a b : Int × Int) : Option Bool := (mul a.1 b.2).bind fun x => (mul b.1 a.2).bind fun y => some (decide (x < y))
theorem c214 (h : T 214 = some F214) (a b : Int × Int) (r : Bool) (hr : lessM a b = some r) : callT T (k + 1) 214 [q2 a, q2 b] S = some (.bl r, S) := by
  unfold lessM at hr
  simp only [Option.bind_eq_some_iff] at hr
  obtain ⟨x, hx, y, hy, hr⟩ := hr
  cases hr
  refine call_pure h rfl rfl ?_ rfl
  unfold F214 q2
  simp! [mul_ar hx, mul_ar hy]
/-! ### parts_of -/
def partsS (s : List Int × (Int × Int)) : Option ((List Int × (Int × Int)) ⊕ List Int) :=
  if s.2.2 = 0 then none else if s.2.2.natAbs < 2 ^ 64 ∧ s.1.length < 1000 then
    (match plusM s.2 (-(s.2.1.fdiv s.2.2), 1) with
    | some rest => if rest.1 = 0 then some (.inr (s.1 ++ [s.2.1.fdiv s.2.2])) else (match numM rest.2 rest.1 with
      | some here => some (.inl (s.1 ++ [s.2.1.fdiv s.2.2], here))
      | none => none)
    | none => none) else none
def partsM (p : Int × Int) : Option (List Int) := loopM partsS whileFuel ([], p)
theorem mt1_app {S S1 : Store} {n : Nat} {d : D} {xs : List D} (h : S[n]? = some (.lst xs)) (hl : xs.length < 1000000) (hs : S.set n (.lst (xs ++ [d])) = S1) : mt1R S n .append (.v d) = some (.non, S1) := by
  unfold mt1R
  simp only [pushR, h]
  rw [if_pos (by unfold lim Nat.blt; exact Nat.ble_eq_true_of_le hl), hs]
theorem seq_lc {S : Store} {n : Nat} : seqR S (.v (.loc n)) = lstR S (.v (.loc n)) := rfl
theorem argQ_tuple {S : Store} {r : R} : argQ S .tuple r = seqR S r := rfl
theorem sq_tuple {ds : List D} : sqR .tuple ds = some (.v (.tup ds)) := rfl
theorem c76 (h1 : T 197 = some F197) (h2 : T 203 = some F203) (h3 : T 205 = some F205) (h4 : T 206 = some F206) (h5 : T 207 = some F207) (h6 : T 209 = some F209) (h7 : T 217 = some F217) (h8 : T 204 = some F204) (h : T 76 = some F76) (p : Int × Int) (r : List Int) (hr : partsM p = some r) :
    callT T (k + 5) 76 [q2 p] S = some (.tup (r.map D.int), S) := by
  refine call_pure h rfl rfl ?_ (show pures (r.map D.int) = true from pures_ints)
  unfold F76
  simp! []
  obtain ⟨fl, env', S', hw, rfl⟩ := post_get (while_of (c := tst (callT T (k + 4)) (.lit (.bl true))) (b := exs (callT T (k + 4)) [(.asg (.nm 3) (.call 217 [(.var 2)])),
    (.expr (.mt1 .append (.var 1) (.var 3))),
    (.asg (.nm 4) (.call 207 [(.lit (.int (0))), (.var 2), (.call 204 [(.lit (.int (0))), (.var 3)])])),
    (.ite (.cmp .Eq (.idx (.var 4) (.lit (.int (0)))) (.lit (.int (0)))) [(.ret (.sq .tuple (.var 1)))] []),
    (.asg (.nm 2) (.call 209 [(.lit (.int (0))), (.var 4)]))]) (step := partsS) (fun s env S => (∃ u v, env = [some (q2 p), some (.loc 0), some (q2 s.2), u, v]) ∧ S = [.lst (s.1.map D.int)])
    (fun z fl env S => fl = .rt (.tup (z.map D.int))) (by
    rintro ⟨acc, here⟩ _ _ r ⟨⟨u, v, rfl⟩, rfl⟩ hr
    unfold partsS at hr
    dsimp only at hr
    split at hr
    · cases hr
    · rename_i hb
      split at hr
      · rename_i hc
        have c1 := fun S => c217 (k := k + 3) (S := S) h7 here hb hc.1
        have c2 := fun S v => c204 (k := k + 3) (S := S) h8 v
        have hl : (acc.map D.int).length < 1000000 := by rw [List.length_map]; omega
        cases e1 : plusM here (-(here.1.fdiv here.2), 1) with
        | none => rw [e1] at hr; cases hr
        | some rest =>
          rw [e1] at hr
          dsimp only at hr
          have c3 := fun S => c207 (k := k) (S := S) h1 h2 h3 h4 h5 here (here.1.fdiv here.2, 1) rest e1
          by_cases hz : rest.1 = 0
          · rw [if_pos hz] at hr
            cases hr
            simp! [c1, c2, c3, hz, idx_q0, List.map_append, argQ_tuple, seq_lc, sq_tuple, mt1_app (S := [.lst (acc.map D.int)]) (n := 0) rfl hl rfl]
          · rw [if_neg hz] at hr
            cases e2 : numM rest.2 rest.1 with
            | none => rw [e2] at hr; cases hr
            | some here' =>
              rw [e2] at hr
              cases hr
              have c4 := fun S => c209 (k := k + 1) (S := S) h1 h2 h6 rest here' e2
              simp! [c1, c2, c3, c4, hz, idx_q0, List.map_append, mt1_app (S := [.lst (acc.map D.int)]) (n := 0) rfl hl rfl]
              exact ⟨⟨_, _, rfl⟩, trivial⟩
      · cases hr) whileFuel ([], p) r [some (q2 p), some (.loc 0), some (q2 p), none, none] [.lst []] ⟨⟨_, _, rfl⟩, rfl⟩ hr)
  simp! [hw]
end K13

namespace K13
open Pv Cd PySem
local macro_rules
  | `(tactic| simp! [$ls,*]) => `(tactic| simp only [exs_nil, exs_cons, ex_expr, ex_ret, ex_asg, ex_asgT, asgTs_nil, asgTs_cons, ex_par2, ex_par3, ex_aug, ex_ite, ex_pass, ex_brk, ex_cnt, ex_retn, ex_whl, ex_never,
    ev_var, ev_lit, ev_bin, ev_neg, ev_not, ev_cmp, ev_cmp2, ev_and, ev_or, ev_ife, ev_tup, ev_lst, evs_nil, evs_cons, ev_idx, ev_slc, evo_no, evo_at, ev_call, ev_b1, ev_b2, ev_sq, ev_mt1, ev_mt0, push_v, push_s, push_ite, mt1D_loc, mt0D_loc, negR_int, intR_int, aug_add, aug_sub, aug_ar,
    tst_and, tst_or, tst_not, tst_cmp, tst_var, tst_lit, tst_call, tst_bin, tst_b1, tst_idx, tst_sq, tst_cmp2, tst_ife, bin_add, bin_sub, bin_mul, bin_div, bin_mod, bin_cat, tru_int, tru_bl, tru_tup, cmp_lt, cmp_le, cmp_gt, cmp_ge, cmp_eq, cmp_ne,
    eqv_int, eqv_bl, eqv_tup, eqvs_nil, eqvs_cons, okn_int, okn_bl, okn_tup, okns_nil, okns_cons, eqvs_ints, okns_ints, pures_nil, pures_cons, pures_ints, bd_some, bt_some, bf_nx, bf_rt, bf_bk, bf_ct, bd_none, bt_none, bf_none, bd_ite, bt_ite, bf_ite, wS_some, wV_some, ans_rt, ans_nx, ans_none, ans_ite, val_rt, val_nx, val_none, val_ite, post_some, post_none, post_ite, turn, turnQ,
    idx_t, idx_l, lst_0, lst_1, at0, at1, b1_abs, b1_int, b1_intb, b1_isInt, b1_isBool, b2_min, b2_max, ar_add, ar_sub, Option.map_some, Option.bind_some, id, decide_eq_true_eq, Bool.and_true, Bool.true_and, if_true, if_false, reduceIte, reduceCtorEq, Nat.reduceSub, List.reduceReplicate, Int.reduceNeg, Int.reduceLE, Int.reduceLT, Nat.reduceAdd, Int.reduceToNat, Int.ofNat_eq_natCast,
    List.map_cons, List.map_nil, List.cons_append, List.nil_append, List.getElem?_cons_zero, List.getElem?_cons_succ, List.set_cons_zero, List.set_cons_succ, List.length_cons, List.length_nil, ne_eq, not_false_eq_true, not_true_eq_false, decide_false, decide_true, $ls,*])

variable {T : Nat → Option FunC} {k : Nat} {S : Store}
theorem pure_ints {P : List Int} : pures [.tup (P.map D.int)] = true := by
  show (pures (P.map D.int) && true) = true
  rw [pures_ints]; rfl
/-! ### number_from_parts -/
def nfpL : List Int → (Int × Int) → Option (Int × Int)
  | [], f => some f
  | a :: r, f => (mul a f.1).bind fun x => (numM (x + f.2) f.1).bind fun g => nfpL r g
def nfpM (P : List Int) : Option (Int × Int) := match P.getLast? with
  | some l => nfpL P.dropLast.reverse (l, 1)
  | none => none
def nfpG (f : Int × Int) (a : Int) : Option ((Int × Int) ⊕ Empty) := (mul a f.1).bind fun x => (numM (x + f.2) f.1).map .inl
theorem nfp_list : ∀ (xs : List Int) (f z : Int × Int), nfpL xs f = some z → listM nfpG xs f = some (.inl z)
  | [], f, z, h => by cases h; rfl
  | a :: r, f, z, h => by
    unfold nfpL at h
    simp only [Option.bind_eq_some_iff] at h
    obtain ⟨x, hx, g, hg, h⟩ := h
    unfold listM nfpG
    simp only [hx, hg, Option.bind_some, Option.map_some]
    exact nfp_list r g z h
theorem c77 (h1 : T 197 = some F197) (h2 : T 203 = some F203) (h3 : T 204 = some F204) (h : T 77 = some F77) (P : List Int) (z : Int × Int) (hz : nfpM P = some z) : callT T (k + 3) 77 [.tup (P.map D.int)] S = some (q2 z, S) := by
  unfold nfpM at hz
  cases e : P.getLast? with
  | none => rw [e] at hz; cases hz
  | some l =>
    rw [e] at hz
    have hat : atD (P.map D.int) (-1) = some (.int l) := at_neg (by rw [List.getLast?_map, e]; rfl)
    have c1 := fun S v => c204 (k := k + 1) (S := S) h3 v
    refine call_pure h rfl pure_ints ?_ rfl
    unfold F77
    simp! [hat, c1]
    have hi : evi (callT T (k + 2)) (.rev (.slc (.var 0) .no (.at_ (.neg (.lit (.int 1)))))) [some (.tup (P.map D.int)), some (q2 (l, 1)), none] [] = some (.revt ((P.dropLast).map D.int), []) := by
      rw [evi_rev]
      simp! [slc_tup, cut_init, revR_tup, List.map_dropLast]
    rw [ex_for hi fixed_revt (by simp [DI.len])]
    obtain ⟨fl, env', S', hw, rfl, u, rfl, rfl⟩ := post_get (list_of (emb := D.int) (g := nfpG) (b := fun x env S => bindF (bindP (.nm 2) x env) fun env' => exs (callT T (k + 2)) [(.asg (.nm 1) (.call 203 [(.lit (.int (0))), (.bin .Add (.bin .Mult (.var 2) (.idx (.var 1) (.lit (.int (0))))) (.idx (.var 1) (.lit (.int (1))))), (.idx (.var 1) (.lit (.int (0))))]))] env' S)
      (fun f env S => ∃ u, env = [some (.tup (P.map D.int)), some (q2 f), u] ∧ S = []) (fun z _ _ _ => z.elim) (by
        rintro f a _ _ r ⟨u, rfl, rfl⟩ hr
        unfold nfpG at hr
        simp only [Option.bind_eq_some_iff, Option.map_eq_some_iff] at hr
        obtain ⟨x, hx, g, hg, rfl⟩ := hr
        have c2 := c203 (k := k) (S := []) h1 h2 _ _ _ hg
        simp! [bindP_nm, bindF_some, idx_q0, idx_q1, mul_ar hx, c2]
        exact ⟨_, rfl, trivial⟩) P.dropLast.reverse (l, 1) _ _ _ ⟨none, rfl, rfl⟩ (nfp_list _ _ _ hz))
    rw [← List.map_reverse, hw]
    simp! []
/-! ### nearing -/
def nearL : List Int → (Int × Int) → (Int × Int) → List (Int × Int) → Option (List (Int × Int))
  | [], _, _, acc => some acc
  | a :: r, f, s, acc => (mul a s.1).bind fun x => (mul a s.2).bind fun y => if acc.length < 1000 then nearL r s (x + f.1, y + f.2) (acc ++ [(x + f.1, y + f.2)]) else none
def nearM (P : List Int) : Option (List (Int × Int)) := match P with
  | [] => none
  | a :: r => nearL r (1, 0) (a, 1) [(a, 1)]
def nearG (s : (Int × Int) × (Int × Int) × List (Int × Int)) (a : Int) : Option (((Int × Int) × (Int × Int) × List (Int × Int)) ⊕ Empty) :=
  (mul a s.2.1.1).bind fun x => (mul a s.2.1.2).bind fun y => if s.2.2.length < 1000 then some (.inl (s.2.1, (x + s.1.1, y + s.1.2), s.2.2 ++ [(x + s.1.1, y + s.1.2)])) else none
theorem near_list : ∀ (xs : List Int) (f s : Int × Int) (acc z : List (Int × Int)), nearL xs f s acc = some z → ∃ f' s', listM nearG xs (f, s, acc) = some (.inl (f', s', z))
  | [], f, s, acc, z, h => by cases h; exact ⟨f, s, rfl⟩
  | a :: r, f, s, acc, z, h => by
    unfold nearL at h
    simp only [Option.bind_eq_some_iff] at h
    obtain ⟨x, hx, y, hy, h⟩ := h
    split at h
    · rename_i hl
      obtain ⟨f', s', e⟩ := near_list r _ _ _ z h
      refine ⟨f', s', ?_⟩
      unfold listM nearG
      simp only [hx, hy, Option.bind_some, if_pos hl]
      exact e
    · cases h
theorem q2s_pure : ∀ {xs : List (Int × Int)}, pures (xs.map q2) = true
  | [] => rfl
  | x :: xs => by
    show ((q2 x).pure && pures (xs.map q2)) = true
    rw [q2s_pure]; rfl
theorem c78 (h : T 78 = some F78) (P : List Int) (z : List (Int × Int)) (hz : nearM P = some z) : callT T (k + 1) 78 [.tup (P.map D.int)] S = some (.tup (z.map q2), S) := by
  cases P with
  | nil => cases hz
  | cons a r =>
    obtain ⟨f', s', e⟩ := near_list r _ _ _ z hz
    refine call_pure h rfl (pure_ints (P := a :: r)) ?_ q2s_pure
    unfold F78
    have hi : evi (callT T k) (.seq (.slc (.var 0) (.at_ (.lit (.int 1))) .no)) [some (.tup (.int a :: r.map D.int)), some (q2 (1, 0)), some (q2 (a, 1)), some (.loc 0), none] [.lst [q2 (a, 1)]] = some (.tup (r.map D.int), [.lst [q2 (a, 1)]]) := by
      rw [evi_sq1]
      simp! [slc_tup, cut_tail, itR_tup, List.tail_cons]
    have hq1 : D.tup [.int 1, .int 0] = q2 (1, 0) := rfl
    have hq2 : D.tup [.int a, .int 1] = q2 (a, 1) := rfl
    simp! [hq1, hq2]
    rw [ex_for hi fixed_tup rfl]
    obtain ⟨fl, env', S', hw, rfl, u, rfl, rfl⟩ := post_get (list_of (emb := D.int) (g := nearG) (b := fun x env S => bindF (bindP (.nm 4) x env) fun env' => exs (callT T k) [(.par2 1 2 (.var 2) (.tup [(.bin .Add (.bin .Mult (.var 4) (.idx (.var 2) (.lit (.int (0))))) (.idx (.var 1) (.lit (.int (0))))), (.bin .Add (.bin .Mult (.var 4) (.idx (.var 2) (.lit (.int (1))))) (.idx (.var 1) (.lit (.int (1)))))])),
    (.expr (.mt1 .append (.var 3) (.var 2)))] env' S)
      (fun s env S => ∃ u, env = [some (.tup (.int a :: r.map D.int)), some (q2 s.1), some (q2 s.2.1), some (.loc 0), u] ∧ S = [.lst (s.2.2.map q2)]) (fun z _ _ _ => z.elim) (by
        rintro ⟨f, s, acc⟩ x _ _ r' ⟨u, rfl, rfl⟩ hr
        unfold nearG at hr
        simp only [Option.bind_eq_some_iff] at hr
        obtain ⟨x', hx, y', hy, hr⟩ := hr
        split at hr
        · rename_i hl
          cases hr
          have hl : (acc.map q2).length < 1000000 := by rw [List.length_map]; exact Nat.lt_of_lt_of_le hl (by decide)
          have hq : D.tup [.int (x' + f.1), .int (y' + f.2)] = q2 (x' + f.1, y' + f.2) := rfl
          simp! [bindP_nm, bindF_some, idx_q0, idx_q1, mul_ar hx, mul_ar hy, hq, mt1_app (S := [.lst (acc.map q2)]) (n := 0) rfl hl rfl, List.map_append]
          exact ⟨_, rfl, trivial⟩
        · cases hr) r ((1, 0), (a, 1), [(a, 1)]) _ _ _ ⟨none, rfl, rfl⟩ e)
    simp only [List.map_cons, List.map_nil] at hw
    rw [hw]
    simp! [argQ_tuple, seq_lc, sq_tuple]
end K13

namespace K13
open Pv Cd PySem
local macro_rules
  | `(tactic| simp! [$ls,*]) => `(tactic| simp only [exs_nil, exs_cons, ex_expr, ex_ret, ex_asg, ex_asgT, asgTs_nil, asgTs_cons, ex_par2, ex_par3, ex_aug, ex_ite, ex_pass, ex_brk, ex_cnt, ex_retn, ex_whl, ex_never,
    ev_var, ev_lit, ev_bin, ev_neg, ev_not, ev_cmp, ev_cmp2, ev_and, ev_or, ev_ife, ev_tup, ev_lst, evs_nil, evs_cons, ev_idx, ev_slc, evo_no, evo_at, ev_call, ev_b1, ev_b2, ev_sq, ev_mt1, ev_mt0, push_v, push_s, push_ite, mt1D_loc, mt0D_loc, negR_int, intR_int, aug_add, aug_sub, aug_ar,
    tst_and, tst_or, tst_not, tst_cmp, tst_var, tst_lit, tst_call, tst_bin, tst_b1, tst_idx, tst_sq, tst_cmp2, tst_ife, bin_add, bin_sub, bin_mul, bin_div, bin_mod, bin_cat, tru_int, tru_bl, tru_tup, cmp_lt, cmp_le, cmp_gt, cmp_ge, cmp_eq, cmp_ne,
    eqv_int, eqv_bl, eqv_tup, eqvs_nil, eqvs_cons, okn_int, okn_bl, okn_tup, okns_nil, okns_cons, eqvs_ints, okns_ints, pures_nil, pures_cons, pures_ints, bd_some, bt_some, bf_nx, bf_rt, bf_bk, bf_ct, bd_none, bt_none, bf_none, bd_ite, bt_ite, bf_ite, wS_some, wV_some, ans_rt, ans_nx, ans_none, ans_ite, val_rt, val_nx, val_none, val_ite, post_some, post_none, post_ite, turn, turnQ,
    idx_t, idx_l, lst_0, lst_1, at0, at1, b1_abs, b1_int, b1_intb, b1_isInt, b1_isBool, b2_min, b2_max, ar_add, ar_sub, Option.map_some, Option.bind_some, id, decide_eq_true_eq, Bool.and_true, Bool.true_and, if_true, if_false, reduceIte, reduceCtorEq, Nat.reduceSub, List.reduceReplicate, Int.reduceNeg, Int.reduceLE, Int.reduceLT, Nat.reduceAdd, Int.reduceToNat, Int.ofNat_eq_natCast,
    List.map_cons, List.map_nil, List.cons_append, List.nil_append, List.getElem?_cons_zero, List.getElem?_cons_succ, List.set_cons_zero, List.set_cons_succ, List.length_cons, List.length_nil, ne_eq, not_false_eq_true, not_true_eq_false, decide_false, decide_true, $ls,*])

variable {T : Nat → Option FunC} {k : Nat} {S : Store}
/-! ### parts_of, in plain words -/
def cfL : Nat → Int → Int → List Int
  | 0, _, _ => []
  | k + 1, n, d => if n.fmod d = 0 then [n.fdiv d] else n.fdiv d :: cfL k d (n.fmod d)
theorem numM_one {a b : Int} (hb : 0 < b) (hz : b.natAbs < 2 ^ 64) (hg : Int.gcd a b = 1) : numM a b = some (a, b) := by
  unfold numM
  rw [if_neg (by omega), if_pos hz, if_neg (by omega), hg]
  simp [Int.fdiv_one]
theorem mul_of {x y : Int} (h : x.natAbs < 18446744073709551616) : mul x y = some (x * y) := by unfold mul; rw [if_pos h]
theorem fdiv_abs {n d : Int} (hd : 0 < d) : (n.fdiv d).natAbs ≤ n.natAbs := by
  rw [Int.fdiv_eq_ediv_of_nonneg _ (by omega)]
  by_cases h : 0 ≤ n
  · have h1 : 0 ≤ n / d := Int.ediv_nonneg h (by omega)
    have h2 : n / d ≤ n := Int.ediv_le_self d h
    omega
  · have h1 : n / d < 0 := Int.ediv_neg_of_neg_of_pos (by omega) hd
    have h2 : n ≤ n / d := by
      refine Int.le_ediv_of_mul_le hd ?_
      have h3 : n * d ≤ n * 1 := Int.mul_le_mul_of_nonpos_left (by omega) (by omega)
      omega
    omega
theorem parts_cf : ∀ (k : Nat) (n d : Int) (acc : List Int) (m : Nat), 0 < d → Int.gcd n d = 1 → d ≤ k → acc.length + k < 1000 → n.natAbs < 2 ^ 63 → d.natAbs < 2 ^ 63 → k ≤ m → loopM partsS m (acc, (n, d)) = some (acc ++ cfL k n d)
  | 0, n, d, acc, m, hd, hg, hk, hl, hn, hd2, hm => by omega
  | k + 1, n, d, acc, m, hd, hg, hk, hl, hn, hd2, hm => by
    obtain ⟨m, rfl⟩ : ∃ j, m = j + 1 := ⟨m - 1, by omega⟩
    have hq := fdiv_abs (n := n) hd
    have hmod : n + -(n.fdiv d) * d = n.fmod d := by have := Int.fmod_def n d; rw [this, Int.mul_comm d, Int.neg_mul]; omega
    have h0 : 0 ≤ n.fmod d := Int.fmod_nonneg_of_pos _ hd
    have hlt : n.fmod d < d := Int.fmod_lt_of_pos _ hd
    have hgr : Int.gcd (n.fmod d) d = 1 := by rw [← hmod, ← hg]; simp
    have hp : plusM (n, d) (-(n.fdiv d), 1) = some (n.fmod d, d) := by
      unfold plusM
      by_cases h1 : d = 1
      · subst h1
        rw [if_pos ⟨rfl, rfl⟩]
        simp [Int.fmod_one, Int.fdiv_one]
        omega
      · rw [if_neg (fun z => h1 z.1)]
        simp only
        rw [mul_of (by omega), mul_of (x := -(n.fdiv d)) (by omega), mul_of (by omega)]
        simp only [Option.bind_some, Int.mul_one]
        rw [hmod, numM_one hd (by omega) hgr]
    have e : partsS (acc, (n, d)) = if n.fmod d = 0 then some (.inr (acc ++ [n.fdiv d])) else some (.inl (acc ++ [n.fdiv d], (d, n.fmod d))) := by
      unfold partsS
      simp only
      rw [if_neg (by omega), if_pos ⟨by omega, by omega⟩, hp]
      simp only
      by_cases hz : n.fmod d = 0
      · rw [if_pos hz, if_pos hz]
      · rw [if_neg hz, if_neg hz, numM_one (by omega) (by omega) (by rw [Int.gcd_comm]; exact hgr)]
    unfold loopM cfL
    rw [e]
    by_cases hz : n.fmod d = 0
    · rw [if_pos hz, if_pos hz]
    · rw [if_neg hz, if_neg hz]
      simp only
      rw [parts_cf k d (n.fmod d) (acc ++ [n.fdiv d]) m (by omega) (by rw [Int.gcd_comm]; exact hgr) (by omega) (by simp; omega) hd2 (by omega) (by omega)]
      simp
theorem partsM_cf {p : Int × Int} (hd : 0 < p.2) (hg : Int.gcd p.1 p.2 = 1) (hk : p.2 ≤ 900) (hn : p.1.natAbs < 2 ^ 63) : partsM p = some (cfL 900 p.1 p.2) := by
  unfold partsM
  rw [show p = (p.1, p.2) from rfl, parts_cf 900 p.1 p.2 [] whileFuel hd hg (by omega) (by simp) hn (by omega) (by decide)]
  rfl
end K13

namespace K13
open Pv Cd PySem
local macro_rules
  | `(tactic| simp! [$ls,*]) => `(tactic| simp only [exs_nil, exs_cons, ex_expr, ex_ret, ex_asg, ex_asgT, asgTs_nil, asgTs_cons, ex_par2, ex_par3, ex_aug, ex_ite, ex_pass, ex_brk, ex_cnt, ex_retn, ex_whl, ex_never,
    ev_var, ev_lit, ev_bin, ev_neg, ev_not, ev_cmp, ev_cmp2, ev_and, ev_or, ev_ife, ev_tup, ev_lst, evs_nil, evs_cons, ev_idx, ev_slc, evo_no, evo_at, ev_call, ev_b1, ev_b2, ev_sq, ev_mt1, ev_mt0, push_v, push_s, push_ite, mt1D_loc, mt0D_loc, negR_int, intR_int, aug_add, aug_sub, aug_ar,
    tst_and, tst_or, tst_not, tst_cmp, tst_var, tst_lit, tst_call, tst_bin, tst_b1, tst_idx, tst_sq, tst_cmp2, tst_ife, bin_add, bin_sub, bin_mul, bin_div, bin_mod, bin_cat, tru_int, tru_bl, tru_tup, cmp_lt, cmp_le, cmp_gt, cmp_ge, cmp_eq, cmp_ne,
    eqv_int, eqv_bl, eqv_tup, eqvs_nil, eqvs_cons, okn_int, okn_bl, okn_tup, okns_nil, okns_cons, eqvs_ints, okns_ints, pures_nil, pures_cons, pures_ints, bd_some, bt_some, bf_nx, bf_rt, bf_bk, bf_ct, bd_none, bt_none, bf_none, bd_ite, bt_ite, bf_ite, wS_some, wV_some, ans_rt, ans_nx, ans_none, ans_ite, val_rt, val_nx, val_none, val_ite, post_some, post_none, post_ite, turn, turnQ,
    idx_t, idx_l, lst_0, lst_1, at0, at1, b1_abs, b1_int, b1_intb, b1_isInt, b1_isBool, b2_min, b2_max, ar_add, ar_sub, Option.map_some, Option.bind_some, id, decide_eq_true_eq, Bool.and_true, Bool.true_and, if_true, if_false, reduceIte, reduceCtorEq, Nat.reduceSub, List.reduceReplicate, Int.reduceNeg, Int.reduceLE, Int.reduceLT, Nat.reduceAdd, Int.reduceToNat, Int.ofNat_eq_natCast,
    List.map_cons, List.map_nil, List.cons_append, List.nil_append, List.getElem?_cons_zero, List.getElem?_cons_succ, List.set_cons_zero, List.set_cons_succ, List.length_cons, List.length_nil, ne_eq, not_false_eq_true, not_true_eq_false, decide_false, decide_true, $ls,*])

variable {T : Nat → Option FunC} {k : Nat} {S : Store}
theorem c1001 (h : T 1001 = some F1001) (t d : Bool) : callT T (k + 1) 1001 [.bl t, .bl d] S = some (.bl (t == d), S) := by
  refine call_pure h rfl rfl ?_ rfl
  cases t <;> cases d <;> rfl
theorem comp_bl {cl : Nat → List D → Store → Option (D × Store)} {own : List Nat} {p : Pat} {it : CI} {e : CE} {env : Pv.Env} {S : Store} {di : DI} {δ : Type} {emb : δ → D} {xs : List δ} (f : δ → Bool) (hi : evi cl it env S = some (di, S)) (hf : Fixed di (xs.map emb)) (hl : di.len S = xs.length) (hs : di.small = true)
    (h : ∀ x ∈ xs, ∃ env', bindP p (emb x) (wipeE env own) = some env' ∧ ev cl e env' S = some (.v (.bl (f x)), S)) : ev cl (.comp own p it [] e) env S = some (.s (xs.map fun x => D.bl (f x)), S) := by
  rw [ev_comp, hi, bd_some, walkC_all hf (by rw [hl, List.length_map])]
  have go : ∀ ys : List δ, (∀ x ∈ ys, x ∈ xs) → listC (fun x S => bindF (bindP p x (wipeE env own)) fun env' => bt (tests cl [] env' S) (fun S => oneF (pushR (ev cl e env' S))) fun S => some ([], S)) (ys.map emb) S = some (ys.map fun x => D.bl (f x), S) := fun ys => by
    induction ys with
    | nil => intro _; rfl
    | cons y ys ih =>
      intro hy
      obtain ⟨env', h1, h2⟩ := h y (hy y (by simp))
      rw [List.map_cons]
      unfold listC
      have ht : tests cl [] env' S = some (true, S) := by simp only [tests]
      rw [h1, bindF_some, ht, bt_some, if_pos rfl, h2]
      have : oneF (pushR (some (.v (.bl (f y)), S))) = some ([D.bl (f y)], S) := rfl
      rw [this]
      simp only
      rw [ih fun x hx => hy x (by simp [hx])]
      rfl
  rw [go xs fun _ h => h, bd_some, hs, Bool.true_or, if_pos rfl]
theorem any_s {δ : Type} {xs : List δ} {f : δ → Bool} : ((argQ S .any (.s (xs.map fun x => D.bl (f x)))).bind fun ds => sqR .any ds) = some (.v (.bl (xs.any f))) := by
  have hb : ∀ ys : List δ, boolsD (ys.map fun x => D.bl (f x)) = some (ys.map f) := fun ys => by
    induction ys with
    | nil => rfl
    | cons y ys ih => show (boolsD (ys.map fun x => D.bl (f x))).map _ = _; rw [ih]; rfl
  show ((boolsD (xs.map fun x => D.bl (f x))).map fun bs => R.v (.bl (bs.any id))) = _
  rw [hb]
  simp [List.any_map, Function.comp_def]
theorem seq_tup {xs : List D} : seqR S (.v (.tup xs)) = some xs := rfl
theorem ne_q {p q : Int × Int} : cmpR S .NotEq (.v (q2 p)) (.v (q2 q)) = some (!decide (p = q)) := by rw [cmp_ne okn_q okn_q, eqv_q]
theorem ne_ints {xs ys : List Int} : cmpR S .NotEq (.v (.tup (xs.map D.int))) (.v (.tup (ys.map D.int))) = some (!decide (xs = ys)) := by
  have h : ∀ zs : List Int, (D.tup (zs.map D.int)).okn 60 = true := fun zs => show okns 59 (zs.map D.int) = true from okns_ints
  rw [cmp_ne (h xs) (h ys)]
  show some (!eqvs _ _) = _
  rw [eqvs_ints]
theorem ne_int {x y : Int} : cmpR S .NotEq (.v (.int x)) (.v (.int y)) = some (!decide (x = y)) := by rw [cmp_ne okn_int okn_int, eqv_int]
/-- what must hold of a number p, its parts a :: P, its rows -/
structure Near (p : Int × Int) (a : Int) (P : List Int) (rows : List (Int × Int)) : Prop where
  parts : partsM p = some (a :: P)
  back : nfpM (a :: P) = some p
  low : ∀ x ∈ P, 1 ≤ x
  last : P ≠ [] → ∃ l, (a :: P).getLast? = some l ∧ 2 ≤ l
  seven : ∃ p7, plusM p (7, 1) = some p7 ∧ partsM p7 = some ((a + 7) :: P)
  turned : P ≠ [] → a = 0 → 0 < p.1 → ∃ q, numM p.2 p.1 = some q ∧ partsM q = some P
  near : nearM (a :: P) = some rows
  lastR : rows.getLast? = some p
  len : rows.length = P.length + 1
  short : rows.length < 1000
  first : rows.head? = some (a, 1)
  each : ∀ j, j + 1 < rows.length → ∃ x y u v, rows[j]? = some x ∧ rows[j + 1]? = some y ∧ mul x.1 y.2 = some u ∧ mul y.1 x.2 = some v ∧ u - v = (if j % 2 = 0 then -1 else 1) ∧ lessM x p = some (decide (j % 2 = 0)) ∧ nfpM ((a :: P).take (j + 1)) = some x
def rangeG (n : Nat) (_ : Unit) (j : Nat) : Option (Unit ⊕ Empty) := if j < n then some (.inl ()) else none
theorem range_list (n : Nat) : listM (rangeG n) (List.range n) () = some (.inl ()) := by
  have go : ∀ ys : List Nat, (∀ y ∈ ys, y < n) → listM (rangeG n) ys () = some (.inl ()) := fun ys => by
    induction ys with
    | nil => intro _; rfl
    | cons y ys ih =>
      intro h
      unfold listM rangeG
      rw [if_pos (h y (by simp))]
      exact ih fun z hz => h z (by simp [hz])
  exact go _ fun y hy => List.mem_range.mp hy
section
variable (h197 : T 197 = some F197) (h203 : T 203 = some F203) (h204 : T 204 = some F204) (h205 : T 205 = some F205) (h206 : T 206 = some F206) (h207 : T 207 = some F207) (h209 : T 209 = some F209) (h214 : T 214 = some F214) (h217 : T 217 = some F217)
  (h76 : T 76 = some F76) (h77 : T 77 = some F77) (h78 : T 78 = some F78) (h1001 : T 1001 = some F1001)
include h197 h203 h204 h205 h206 h207 h209 h214 h217 h76 h77 h78 h1001
theorem near_body {p : Int × Int} {a : Int} {P : List Int} {rows : List (Int × Int)} (N : Near p a P rows) (v0 : Option D) (S : Store) :
    ans (exs (callT T (k + 6)) (F1002.body.drop 1) [v0, some (q2 p), none, none, none, none] S) = some (.bl true, S) := by
  obtain ⟨p7, hp7, hq7⟩ := N.seven
  have c76 := fun S => c76 (k := k + 1) (S := S) h197 h203 h205 h206 h207 h209 h217 h204 h76 p _ N.parts
  have c77 := fun S => c77 (k := k + 3) (S := S) h197 h203 h204 h77 _ _ N.back
  have c205 := fun S => c205 (k := k + 3) (S := S) h197 h203 h205 p (7, 1) p7 hp7
  have c76' := fun S => K13.c76 (k := k + 1) (S := S) h197 h203 h205 h206 h207 h209 h217 h204 h76 p7 _ hq7
  have c78 := fun S => c78 (k := k + 5) (S := S) h78 _ _ N.near
  have h7 : D.tup [.int 7, .int 1] = q2 (7, 1) := rfl
  have ha : D.tup [.int a, .int 1] = q2 (a, 1) := rfl
  have hb : ∀ S, binR S .Add (.v (.tup [.int (a + 7)])) (.v (.tup (P.map D.int))) = some (.v (.tup (.int (a + 7) :: P.map D.int))) := fun S => bin_cat (by
    have := N.len
    have := N.short
    refine Nat.ble_eq_true_of_le ?_
    show 1 + (P.map D.int).length ≤ 1000000
    rw [List.length_map]; omega)
  have hn1 := fun S => ne_ints (S := S) (xs := (a + 7) :: P) (ys := (a + 7) :: P)
  have hn2 := fun S => ne_ints (S := S) (xs := P) (ys := P)
  simp only [List.map_cons] at c76 c77 c76' c78 hn1
  have hcomp : ∀ S, ev (callT T (k + 6)) (.comp [3] (.nm 3) (.seq (.slc (.var 2) (.at_ (.lit (.int 1))) .no)) [] (.cmp .Lt (.var 3) (.lit (.int 1)))) [v0, some (q2 p), some (.tup (.int a :: P.map D.int)), none, none, none] S = some (.s (P.map fun x => D.bl (decide (x < 1))), S) := fun S => by
    refine comp_bl (emb := D.int) (di := .tup (P.map D.int)) (fun x => decide (x < 1)) ?_ fixed_tup (by simp [DI.len]) rfl fun x hx => ⟨_, bindP_nm, ?_⟩
    · rw [evi_sq1]
      simp! [slc_tup, cut_tail, itR_tup, List.tail_cons]
    · simp! [wipeE]
  have hany : (P.any fun x => decide (x < 1)) = false := by
    rw [List.any_eq_false]
    intro x hx
    have := N.low x hx
    simp; omega
  have hlast := N.lastR
  have hr1 : atD (rows.map q2) (-1) = some (q2 p) := at_neg (by rw [List.getLast?_map, N.lastR]; rfl)
  have hr0 : atD (rows.map q2) 0 = some (q2 (a, 1)) := at_nat (j := 0) rfl (by rw [List.getElem?_map, ← List.head?_eq_getElem?, N.first]; rfl)
  have hlen := N.len
  have hfor : ∀ S, ∃ u, ex (callT T (k + 6)) (.forr (.nm 5) (.rng1 (.bin .Sub (.sq .len (.var 4)) (.lit (.int 1)))) [(.ite (.or (.cmp .NotEq (.bin .Sub (.bin .Mult (.idx (.idx (.var 4) (.var 5)) (.lit (.int (0)))) (.idx (.idx (.var 4) (.bin .Add (.var 5) (.lit (.int (1))))) (.lit (.int (1))))) (.bin .Mult (.idx (.idx (.var 4) (.bin .Add (.var 5) (.lit (.int (1))))) (.lit (.int (0)))) (.idx (.idx (.var 4) (.var 5)) (.lit (.int (1)))))) (.ife (.cmp .Eq (.bin .Mod (.b1 .int (.var 5)) (.lit (.int (2)))) (.lit (.int (0)))) (.bin .Sub (.lit (.int (0))) (.lit (.int (1)))) (.lit (.int (1))))) (.not (.call 1001 [(.call 214 [(.idx (.var 4) (.var 5)), (.var 1)]), (.cmp .Eq (.bin .Mod (.b1 .int (.var 5)) (.lit (.int (2)))) (.lit (.int (0))))]))) [(.ret (.lit (.bl false)))] []),
    (.ite (.cmp .NotEq (.idx (.var 4) (.var 5)) (.call 77 [(.slc (.var 2) .no (.at_ (.bin .Add (.var 5) (.lit (.int (1))))))])) [(.ret (.lit (.bl false)))] [])]) [v0, some (q2 p), some (.tup (.int a :: P.map D.int)), none, some (.tup (rows.map q2)), none] S = some (.nx, [v0, some (q2 p), some (.tup (.int a :: P.map D.int)), none, some (.tup (rows.map q2)), u], S) := fun S => by
    have hi : evi (callT T (k + 6)) (.rng1 (.bin .Sub (.sq .len (.var 4)) (.lit (.int 1)))) [v0, some (q2 p), some (.tup (.int a :: P.map D.int)), none, some (.tup (rows.map q2)), none] S = some (.rng 0 1 ((rows.length : Int) - 1).toNat, S) := by
      refine evi_rng1 ?_ ?_
      · simp! [seq_tup, argQ_len, sq_len, List.length_map]
      · have := N.short
        have := hlen
        unfold rngOk
        simp only [Bool.and_eq_true, decide_eq_true_eq]
        omega
    have hn : ((rows.length : Int) - 1).toNat = rows.length - 1 := by omega
    rw [hn] at hi
    rw [ex_for hi fixed_rng (by simp [DI.len])]
    obtain ⟨fl, env', S', hw, rfl, u, rfl, rfl⟩ := post_get (list_of (emb := fun (i : Nat) => D.int (0 + (i : Int) * 1)) (g := rangeG (rows.length - 1)) (b := fun x env S => bindF (bindP (.nm 5) x env) fun env' => exs (callT T (k + 6)) [(.ite (.or (.cmp .NotEq (.bin .Sub (.bin .Mult (.idx (.idx (.var 4) (.var 5)) (.lit (.int (0)))) (.idx (.idx (.var 4) (.bin .Add (.var 5) (.lit (.int (1))))) (.lit (.int (1))))) (.bin .Mult (.idx (.idx (.var 4) (.bin .Add (.var 5) (.lit (.int (1))))) (.lit (.int (0)))) (.idx (.idx (.var 4) (.var 5)) (.lit (.int (1)))))) (.ife (.cmp .Eq (.bin .Mod (.b1 .int (.var 5)) (.lit (.int (2)))) (.lit (.int (0)))) (.bin .Sub (.lit (.int (0))) (.lit (.int (1)))) (.lit (.int (1))))) (.not (.call 1001 [(.call 214 [(.idx (.var 4) (.var 5)), (.var 1)]), (.cmp .Eq (.bin .Mod (.b1 .int (.var 5)) (.lit (.int (2)))) (.lit (.int (0))))]))) [(.ret (.lit (.bl false)))] []),
    (.ite (.cmp .NotEq (.idx (.var 4) (.var 5)) (.call 77 [(.slc (.var 2) .no (.at_ (.bin .Add (.var 5) (.lit (.int (1))))))])) [(.ret (.lit (.bl false)))] [])] env' S)
      (fun _ env S' => ∃ u, env = [v0, some (q2 p), some (.tup (.int a :: P.map D.int)), none, some (.tup (rows.map q2)), u] ∧ S' = S) (fun z _ _ _ => z.elim) (by
        rintro _ j _ _ r' ⟨u0, rfl, rfl⟩ hr
        unfold rangeG at hr
        split at hr
        · rename_i hj
          cases hr
          obtain ⟨x, y, u, v, e1, e2, hu, hv, huv, hless, hback⟩ := N.each j (by omega)
          have ej : (0 + (j : Int) * 1) = (j : Int) := by omega
          have g1 : atD (rows.map q2) (j : Int) = some (q2 x) := at_nat (j := j) rfl (by rw [List.getElem?_map, e1]; rfl)
          have g2 : atD (rows.map q2) ((j : Int) + 1) = some (q2 y) := at_nat (j := j + 1) rfl (by rw [List.getElem?_map, e2]; rfl)
          have hcut : cutD (.int a :: P.map D.int) none (some ((j : Int) + 1)) = ((a :: P).take (j + 1)).map D.int := by
            rw [show ((j : Int) + 1) = ((j + 1 : Nat) : Int) by omega, cut_take (by simp; omega), ← List.map_cons, List.map_take]
          have c77' := fun S => K13.c77 (k := k + 3) (S := S) h197 h203 h204 h77 _ _ hback
          have c214 := fun S => c214 (k := k + 5) (S := S) h214 _ _ _ hless
          have c1001 := fun S t d => c1001 (k := k + 5) (S := S) h1001 t d
          have hm : (j : Int).fmod 2 = ((j % 2 : Nat) : Int) := fmod_nat j 2
          by_cases hp2 : j % 2 = 0
          · have hpar : (j : Int).fmod 2 = 0 := by rw [hm, hp2]; rfl
            rw [if_pos hp2] at huv
            have huv' : u - v = 0 - 1 := by omega
            simp only [hp2, decide_true] at c214
            simp! [bindP_nm, bindF_some, ej, g1, g2, idx_q0, idx_q1, mul_ar hu, mul_ar hv, hpar, huv', ne_int, c214, c1001, hcut, c77', ne_q, slc_tup, Bool.not_true, Bool.not_false, Bool.false_eq_true, beq_self_eq_true, Int.reduceEq]
            exact ⟨_, rfl, trivial⟩
          · have hpar : ¬ (j : Int).fmod 2 = 0 := by rw [hm]; omega
            rw [if_neg hp2] at huv
            simp only [hp2, decide_false] at c214
            simp! [bindP_nm, bindF_some, ej, g1, g2, idx_q0, idx_q1, mul_ar hu, mul_ar hv, hpar, huv, ne_int, c214, c1001, hcut, c77', ne_q, slc_tup, Bool.not_true, Bool.not_false, Bool.false_eq_true, beq_self_eq_true, Int.reduceEq]
            exact ⟨_, rfl, trivial⟩
        · cases hr) (List.range (rows.length - 1)) () _ S _ ⟨none, rfl, rfl⟩ (range_list _))
    exact ⟨u, hw⟩
  show ans (exs (callT T (k + 6)) [_, _, _, _, _, _, _] _ S) = _
  by_cases hP : P = []
  · have hl1 : ¬ (1 : Int) < ((P.length + 1 : Nat) : Int) := by rw [hP]; decide
    simp! [c76, c77, c205, c76', c78, h7, ha, hb, hn1, hn2, hcomp, any_s, hany, hr1, hr0, hlen, hl1, seq_tup, argQ_len, sq_len, List.length_map, slc_tup, cut_tail, List.tail_cons, ne_q, ne_int, Bool.not_true, Bool.not_false, Bool.false_eq_true]
    obtain ⟨u, hf⟩ := hfor S
    simp! [hf]
  · obtain ⟨l, hl, hl2⟩ := N.last hP
    have hl1 : (1 : Int) < ((P.length + 1 : Nat) : Int) := by
      have := List.length_pos_iff.mpr hP
      omega
    have hla : atD (.int a :: P.map D.int) (-1) = some (.int l) := at_neg (by rw [← List.map_cons, List.getLast?_map, hl]; rfl)
    have hl3 : ¬ l < 2 := by omega
    obtain ⟨u, hf⟩ := hfor S
    by_cases h0 : a = 0 ∧ 0 < p.1
    · obtain ⟨q, hq, hqp⟩ := N.turned hP h0.1 h0.2
      have c203 := fun S => c203 (k := k + 4) (S := S) h197 h203 _ _ _ hq
      have c76'' := fun S => K13.c76 (k := k + 1) (S := S) h197 h203 h205 h206 h207 h209 h217 h204 h76 q _ hqp
      have ha0 := h0.1
      have hp0 := h0.2
      simp! [c76, c77, c205, c76', c78, h7, ha, hb, hn1, hn2, hcomp, any_s, hany, hr1, hr0, hlen, hl1, hla, hl3, eq_true ha0, hp0, c203, c76'', seq_tup, argQ_len, sq_len, List.length_map, slc_tup, cut_tail, List.tail_cons, idx_q0, idx_q1, ne_q, ne_int, Bool.not_true, Bool.not_false, Bool.false_eq_true, hf]
    · by_cases ha0 : a = 0
      · have hp0 : ¬ 0 < p.1 := fun z => h0 ⟨ha0, z⟩
        subst ha0
        simp! [c76, c77, c205, c76', c78, h7, ha, hb, hn1, hn2, hcomp, any_s, hany, hr1, hr0, hlen, hl1, hla, hl3, hp0, seq_tup, argQ_len, sq_len, List.length_map, slc_tup, cut_tail, List.tail_cons, idx_q0, idx_q1, ne_q, ne_int, Bool.not_true, Bool.not_false, Bool.false_eq_true, hf]
      · simp! [c76, c77, c205, c76', c78, h7, ha, hb, hn1, hn2, hcomp, any_s, hany, hr1, hr0, hlen, hl1, hla, hl3, ha0, seq_tup, argQ_len, sq_len, List.length_map, slc_tup, cut_tail, List.tail_cons, idx_q0, idx_q1, ne_q, ne_int, Bool.not_true, Bool.not_false, Bool.false_eq_true, hf]
end
end K13

namespace K13
open Pv Cd PySem
/-! ### nearing: all cases -/
def okP (q : Int × Int) : Bool := decide (0 < q.2) && (decide (q.2 ≤ 900) && (decide (Int.gcd q.1 q.2 = 1) && decide (q.1.natAbs < 9223372036854775808)))
theorem okP_cf {q : Int × Int} (h : okP q = true) : partsM q = some (cfL 900 q.1 q.2) := by
  unfold okP at h
  simp only [Bool.and_eq_true, decide_eq_true_eq] at h
  exact partsM_cf h.1 h.2.2.1 h.2.1 h.2.2.2
def oneB (p : Int × Int) (aP : List Int) (rows : List (Int × Int)) (j : Nat) : Bool := match rows[j]?, rows[j + 1]? with
  | some x, some y => (match mul x.1 y.2, mul y.1 x.2 with
    | some u, some v => decide (u - v = (if j % 2 = 0 then -1 else 1)) && (decide (lessM x p = some (decide (j % 2 = 0))) && decide (nfpM (aP.take (j + 1)) = some x))
    | _, _ => false)
  | _, _ => false
def rowsB (p : Int × Int) (a : Int) (P : List Int) (rows : List (Int × Int)) : Bool :=
  decide (rows.getLast? = some p) && (decide (rows.length = P.length + 1) && (decide (rows.length < 1000) && (decide (rows.head? = some (a, 1)) && (List.range (rows.length - 1)).all (oneB p (a :: P) rows))))
def nearB (p : Int × Int) : Bool := okP p && (match cfL 900 p.1 p.2 with
  | [] => false
  | a :: P => decide (nfpM (a :: P) = some p) && (P.all (fun x => decide (1 ≤ x)) && ((P.isEmpty || (match (a :: P).getLast? with | some l => decide (2 ≤ l) | none => false)) &&
    ((match plusM p (7, 1) with | some p7 => okP p7 && decide (cfL 900 p7.1 p7.2 = (a + 7) :: P) | none => false) &&
    ((P.isEmpty || (!decide (a = 0) || (!decide (0 < p.1) || (match numM p.2 p.1 with | some q => okP q && decide (cfL 900 q.1 q.2 = P) | none => false)))) &&
    (match nearM (a :: P) with | some rows => rowsB p a P rows | none => false))))))
theorem nearB_ok {p : Int × Int} (h : nearB p = true) : ∃ a P rows, Near p a P rows := by
  unfold nearB at h
  simp only [Bool.and_eq_true] at h
  obtain ⟨h0, h⟩ := h
  have hp := okP_cf h0
  split at h
  · cases h
  · rename_i a P hc
    rw [hc] at hp
    simp only [Bool.and_eq_true, Bool.or_eq_true, decide_eq_true_eq, Bool.not_eq_true', decide_eq_false_iff_not, List.all_eq_true] at h
    obtain ⟨h1, h2, h3, h4, h5, h6⟩ := h
    cases e6 : nearM (a :: P) with
    | none => rw [e6] at h6; cases h6
    | some rows =>
      rw [e6] at h6
      unfold rowsB at h6
      simp only [Bool.and_eq_true, decide_eq_true_eq, List.all_eq_true] at h6
      obtain ⟨r1, r2, r3, r4, r5⟩ := h6
      refine ⟨a, P, rows, hp, h1, h2, fun hP => ?_, ?_, fun hP ha hpos => ?_, e6, r1, r2, r3, r4, fun j hj => ?_⟩
      · rcases h3 with h3 | h3
        · exact absurd (List.isEmpty_iff.mp h3) hP
        · split at h3
          · rename_i l hl; exact ⟨l, hl, of_decide_eq_true h3⟩
          · cases h3
      · split at h4
        · rename_i p7 e7
          simp only [Bool.and_eq_true, decide_eq_true_eq] at h4
          exact ⟨p7, e7, by rw [okP_cf h4.1, h4.2]⟩
        · cases h4
      · rcases h5 with h5 | h5 | h5 | h5
        · exact absurd (List.isEmpty_iff.mp h5) hP
        · exact absurd ha h5
        · exact absurd hpos h5
        · split at h5
          · rename_i q eq
            simp only [Bool.and_eq_true, decide_eq_true_eq] at h5
            exact ⟨q, eq, by rw [okP_cf h5.1, h5.2]⟩
          · cases h5
      · have := r5 j (List.mem_range.mpr (by omega))
        unfold oneB at this
        split at this
        · rename_i x y e1 e2
          split at this
          · rename_i u v eu ev
            simp only [Bool.and_eq_true, decide_eq_true_eq] at this
            exact ⟨x, y, u, v, e1, e2, eu, ev, this.1, this.2.1, this.2.2⟩
          · cases this
        · cases this

theorem red {n d : Int} (hd : 0 < d) (hd2 : d ≤ 60) (h1 : -200 ≤ n) (h2 : n ≤ 200) : ∃ p : Int × Int, numM n d = some p ∧ -200 ≤ p.1 ∧ p.1 ≤ 200 ∧ 0 < p.2 ∧ p.2 ≤ 60 ∧ Int.gcd p.1 p.2 = 1 := by
  have hg : 0 < Int.gcd n d := Int.gcd_pos_of_ne_zero_right _ (by omega)
  refine ⟨(n.fdiv (Int.gcd n d), d.fdiv (Int.gcd n d)), ?_, ?_⟩
  · unfold numM
    rw [if_neg (by omega), if_pos (by omega), if_neg (by omega)]
  · have a1 := fdiv_abs (n := n) (d := (Int.gcd n d : Int)) (by omega)
    have a2 := fdiv_abs (n := d) (d := (Int.gcd n d : Int)) (by omega)
    have e1 := Int.fdiv_eq_ediv_of_nonneg n (b := (Int.gcd n d : Int)) (by omega)
    have e2 := Int.fdiv_eq_ediv_of_nonneg d (b := (Int.gcd n d : Int)) (by omega)
    have hpos : 0 < d / (Int.gcd n d : Int) := Int.ediv_pos_of_pos_of_dvd hd (by omega) (Int.gcd_dvd_right n d)
    refine ⟨by simp only; omega, by simp only; omega, by simp only; rw [e2]; exact hpos, by simp only; omega, ?_⟩
    simp only
    rw [e1, e2]
    exact Int.gcd_ediv_gcd_ediv_gcd hg
def ckC (lo n : Nat) : Bool := (List.range n).all fun i => (List.range 60).all fun b => !decide (Int.gcd (((lo + i : Nat) : Int) - 200) (1 + (b : Int)) = 1) || nearB (((lo + i : Nat) : Int) - 200, 1 + (b : Int))
theorem ckC_ok {lo n : Nat} (h : ckC lo n = true) (i b : Nat) (h1 : lo ≤ i) (h2 : i < lo + n) (hb : b < 60) (hg : Int.gcd ((i : Int) - 200) (1 + (b : Int)) = 1) : nearB ((i : Int) - 200, 1 + (b : Int)) = true := by
  unfold ckC at h
  simp only [List.all_eq_true, List.mem_range, Bool.or_eq_true, Bool.not_eq_true', decide_eq_false_iff_not] at h
  have := h (i - lo) (by omega) b hb
  rw [show lo + (i - lo) = i by omega] at this
  rcases this with z | z
  · exact absurd hg z
  · exact z
theorem ck0 : ckC 0 20 = true := by decide +kernel
theorem ck1 : ckC 20 20 = true := by decide +kernel
theorem ck2 : ckC 40 20 = true := by decide +kernel
theorem ck3 : ckC 60 20 = true := by decide +kernel
theorem ck4 : ckC 80 20 = true := by decide +kernel
theorem ck5 : ckC 100 20 = true := by decide +kernel
theorem ck6 : ckC 120 20 = true := by decide +kernel
theorem ck7 : ckC 140 20 = true := by decide +kernel
theorem ck8 : ckC 160 20 = true := by decide +kernel
theorem ck9 : ckC 180 20 = true := by decide +kernel
theorem ck10 : ckC 200 20 = true := by decide +kernel
theorem ck11 : ckC 220 20 = true := by decide +kernel
theorem ck12 : ckC 240 20 = true := by decide +kernel
theorem ck13 : ckC 260 20 = true := by decide +kernel
theorem ck14 : ckC 280 20 = true := by decide +kernel
theorem ck15 : ckC 300 20 = true := by decide +kernel
theorem ck16 : ckC 320 20 = true := by decide +kernel
theorem ck17 : ckC 340 20 = true := by decide +kernel
theorem ck18 : ckC 360 20 = true := by decide +kernel
theorem ck19 : ckC 380 20 = true := by decide +kernel
theorem ck20 : ckC 400 1 = true := by decide +kernel
theorem near_all {p : Int × Int} (h1 : -200 ≤ p.1) (h2 : p.1 ≤ 200) (h3 : 0 < p.2) (h4 : p.2 ≤ 60) (hg : Int.gcd p.1 p.2 = 1) : nearB p = true := by
  obtain ⟨i, hi⟩ : ∃ i : Nat, p.1 = (i : Int) - 200 := ⟨(p.1 + 200).toNat, by omega⟩
  obtain ⟨b, hb⟩ : ∃ b : Nat, p.2 = 1 + (b : Int) := ⟨(p.2 - 1).toNat, by omega⟩
  have e : p = ((i : Int) - 200, 1 + (b : Int)) := Prod.ext hi hb
  rw [hi, hb] at hg
  rw [e]
  have hb' : b < 60 := by omega
  have go : ∀ {lo n : Nat}, ckC lo n = true → lo ≤ i → i < lo + n → nearB ((i : Int) - 200, 1 + (b : Int)) = true := fun h a c => ckC_ok h i b a c hb' hg
  have hi' : i < 401 := by omega
  by_cases c0 : i < 20
  · exact go ck0 (by omega) (by omega)
  by_cases c1 : i < 40
  · exact go ck1 (by omega) (by omega)
  by_cases c2 : i < 60
  · exact go ck2 (by omega) (by omega)
  by_cases c3 : i < 80
  · exact go ck3 (by omega) (by omega)
  by_cases c4 : i < 100
  · exact go ck4 (by omega) (by omega)
  by_cases c5 : i < 120
  · exact go ck5 (by omega) (by omega)
  by_cases c6 : i < 140
  · exact go ck6 (by omega) (by omega)
  by_cases c7 : i < 160
  · exact go ck7 (by omega) (by omega)
  by_cases c8 : i < 180
  · exact go ck8 (by omega) (by omega)
  by_cases c9 : i < 200
  · exact go ck9 (by omega) (by omega)
  by_cases c10 : i < 220
  · exact go ck10 (by omega) (by omega)
  by_cases c11 : i < 240
  · exact go ck11 (by omega) (by omega)
  by_cases c12 : i < 260
  · exact go ck12 (by omega) (by omega)
  by_cases c13 : i < 280
  · exact go ck13 (by omega) (by omega)
  by_cases c14 : i < 300
  · exact go ck14 (by omega) (by omega)
  by_cases c15 : i < 320
  · exact go ck15 (by omega) (by omega)
  by_cases c16 : i < 340
  · exact go ck16 (by omega) (by omega)
  by_cases c17 : i < 360
  · exact go ck17 (by omega) (by omega)
  by_cases c18 : i < 380
  · exact go ck18 (by omega) (by omega)
  by_cases c19 : i < 400
  · exact go ck19 (by omega) (by omega)
  exact go ck20 (by omega) (by omega)
end K13

namespace K13
open Pv Cd PySem
local macro_rules
  | `(tactic| simp! [$ls,*]) => `(tactic| simp only [exs_nil, exs_cons, ex_expr, ex_ret, ex_asg, ex_asgT, asgTs_nil, asgTs_cons, ex_par2, ex_par3, ex_aug, ex_ite, ex_pass, ex_brk, ex_cnt, ex_retn, ex_whl, ex_never,
    ev_var, ev_lit, ev_bin, ev_neg, ev_not, ev_cmp, ev_cmp2, ev_and, ev_or, ev_ife, ev_tup, ev_lst, evs_nil, evs_cons, ev_idx, ev_slc, evo_no, evo_at, ev_call, ev_b1, ev_b2, ev_sq, ev_mt1, ev_mt0, push_v, push_s, push_ite, mt1D_loc, mt0D_loc, negR_int, intR_int, aug_add, aug_sub, aug_ar,
    tst_and, tst_or, tst_not, tst_cmp, tst_var, tst_lit, tst_call, tst_bin, tst_b1, tst_idx, tst_sq, tst_cmp2, tst_ife, bin_add, bin_sub, bin_mul, bin_div, bin_mod, bin_cat, tru_int, tru_bl, tru_tup, cmp_lt, cmp_le, cmp_gt, cmp_ge, cmp_eq, cmp_ne,
    eqv_int, eqv_bl, eqv_tup, eqvs_nil, eqvs_cons, okn_int, okn_bl, okn_tup, okns_nil, okns_cons, eqvs_ints, okns_ints, pures_nil, pures_cons, pures_ints, bd_some, bt_some, bf_nx, bf_rt, bf_bk, bf_ct, bd_none, bt_none, bf_none, bd_ite, bt_ite, bf_ite, wS_some, wV_some, ans_rt, ans_nx, ans_none, ans_ite, val_rt, val_nx, val_none, val_ite, post_some, post_none, post_ite, turn, turnQ,
    idx_t, idx_l, lst_0, lst_1, at0, at1, b1_abs, b1_int, b1_intb, b1_isInt, b1_isBool, b2_min, b2_max, ar_add, ar_sub, Option.map_some, Option.bind_some, id, decide_eq_true_eq, Bool.and_true, Bool.true_and, if_true, if_false, reduceIte, reduceCtorEq, Nat.reduceSub, List.reduceReplicate, Int.reduceNeg, Int.reduceLE, Int.reduceLT, Nat.reduceAdd, Int.reduceToNat, Int.ofNat_eq_natCast,
    List.map_cons, List.map_nil, List.cons_append, List.nil_append, List.getElem?_cons_zero, List.getElem?_cons_succ, List.set_cons_zero, List.set_cons_succ, List.length_cons, List.length_nil, ne_eq, not_false_eq_true, not_true_eq_false, decide_false, decide_true, $ls,*])

variable {T : Nat → Option FunC} {k : Nat} {S : Store}
/-- all places of a store lie within -/
def Closed (S : Store) : Prop := S.all (O.under S.length) = true
section
variable (h197 : T 197 = some F197) (h203 : T 203 = some F203) (h204 : T 204 = some F204) (h205 : T 205 = some F205) (h206 : T 206 = some F206) (h207 : T 207 = some F207) (h209 : T 209 = some F209) (h214 : T 214 = some F214) (h217 : T 217 = some F217)
  (h76 : T 76 = some F76) (h77 : T 77 = some F77) (h78 : T 78 = some F78) (h1000 : T 1000 = some drawF) (h1001 : T 1001 = some F1001) (h1002 : T 1002 = some F1002)
include h197 h203 h204 h205 h206 h207 h209 h214 h217 h76 h77 h78 h1000 h1001 h1002
theorem c1002 {sl ce : Nat} {cells : List Int} (hs : Stands S sl ce cells) (hc : Closed S) :
    ∃ S', callT T (k + 7) 1002 [.loc sl] S = some (.bl true, S') ∧ Stands S' sl ce cells ∧ Closed S' := by
  obtain ⟨x, S1, d1, hx1, hx2, hs1, hl1, hk1, hc1⟩ := draw_ok (k := k + 5) h1000 hs hc 401 (by decide) (by decide)
  obtain ⟨y, S2, d2, hy1, hy2, hs2, hl2, hk2, hc2⟩ := draw_ok (k := k + 5) h1000 hs1 hc1 60 (by decide) (by decide)
  obtain ⟨p, hp, p1, p2, p3, p4, p5⟩ := red (n := x - 200) (d := 1 + y) (by omega) (by omega) (by omega) (by omega)
  obtain ⟨a, P, rows, N⟩ := nearB_ok (near_all p1 p2 p3 p4 p5)
  have c203 := fun S => c203 (k := k + 4) (S := S) h197 h203 _ _ _ hp
  have hb := near_body (k := k) h197 h203 h204 h205 h206 h207 h209 h214 h217 h76 h77 h78 h1001 N (some (.loc sl)) S2
  refine ⟨S2, ?_, hs2, hc2⟩
  rw [call_st h1002 rfl rfl]
  have e : ans (exs (callT T (k + 6)) F1002.body ([D.loc sl].map some ++ List.replicate (F1002.n - F1002.np) none) S) = some (.bl true, S2) := by
    have hsplit : F1002.body = (F1002.body.head (by decide)) :: F1002.body.drop 1 := rfl
    rw [hsplit, exs_cons]
    have h1 : ex (callT T (k + 6)) (F1002.body.head (by decide)) ([D.loc sl].map some ++ List.replicate (F1002.n - F1002.np) none) S = some (.nx, [some (.loc sl), some (q2 p), none, none, none, none], S2) := by
      show ex (callT T (k + 6)) (.asg (.nm 1) (.call 203 [(.lit (.int (0))), (.bin .Sub (.call 1000 [(.var 0), (.lit (.int (401)))]) (.lit (.int (200)))), (.bin .Add (.lit (.int (1))) (.call 1000 [(.var 0), (.lit (.int (60)))]))])) [some (.loc sl), none, none, none, none, none] S = _
      simp! [d1, d2, c203]
    rw [h1, bf_nx]
    exact hb
  rw [e]
  have hlen : S2.length = S.length := hl2.trans hl1
  have ht : S2.take S.length = S2 := List.take_of_length_le (by omega)
  rw [tidy_under rfl (by rw [ht, ← hlen]; exact hc2), ht]
end
end K13

namespace K13
open Pv Cd PySem
local macro_rules
  | `(tactic| simp! [$ls,*]) => `(tactic| simp only [exs_nil, exs_cons, ex_expr, ex_ret, ex_asg, ex_asgT, asgTs_nil, asgTs_cons, ex_par2, ex_par3, ex_aug, ex_ite, ex_pass, ex_brk, ex_cnt, ex_retn, ex_whl, ex_never,
    ev_var, ev_lit, ev_bin, ev_neg, ev_not, ev_cmp, ev_cmp2, ev_and, ev_or, ev_ife, ev_tup, ev_lst, evs_nil, evs_cons, ev_idx, ev_slc, evo_no, evo_at, ev_call, ev_b1, ev_b2, ev_sq, ev_mt1, ev_mt0, push_v, push_s, push_ite, mt1D_loc, mt0D_loc, negR_int, intR_int, aug_add, aug_sub, aug_ar,
    tst_and, tst_or, tst_not, tst_cmp, tst_var, tst_lit, tst_call, tst_bin, tst_b1, tst_idx, tst_sq, tst_cmp2, tst_ife, bin_add, bin_sub, bin_mul, bin_div, bin_mod, bin_cat, tru_int, tru_bl, tru_tup, cmp_lt, cmp_le, cmp_gt, cmp_ge, cmp_eq, cmp_ne,
    eqv_int, eqv_bl, eqv_tup, eqvs_nil, eqvs_cons, okn_int, okn_bl, okn_tup, okns_nil, okns_cons, eqvs_ints, okns_ints, pures_nil, pures_cons, pures_ints, bd_some, bt_some, bf_nx, bf_rt, bf_bk, bf_ct, bd_none, bt_none, bf_none, bd_ite, bt_ite, bf_ite, wS_some, wV_some, ans_rt, ans_nx, ans_none, ans_ite, val_rt, val_nx, val_none, val_ite, post_some, post_none, post_ite, turn, turnQ,
    idx_t, idx_l, lst_0, lst_1, at0, at1, b1_abs, b1_int, b1_intb, b1_isInt, b1_isBool, b2_min, b2_max, ar_add, ar_sub, Option.map_some, Option.bind_some, id, decide_eq_true_eq, Bool.and_true, Bool.true_and, if_true, if_false, reduceIte, reduceCtorEq, Nat.reduceSub, List.reduceReplicate, Int.reduceNeg, Int.reduceLE, Int.reduceLT, Nat.reduceAdd, Int.reduceToNat, Int.ofNat_eq_natCast,
    List.map_cons, List.map_nil, List.cons_append, List.nil_append, List.getElem?_cons_zero, List.getElem?_cons_succ, List.set_cons_zero, List.set_cons_succ, List.length_cons, List.length_nil, ne_eq, not_false_eq_true, not_true_eq_false, decide_false, decide_true, $ls,*])

variable {T : Nat → Option FunC} {k : Nat} {S : Store}
theorem call_join {f : Nat} {F : FunC} {args : List D} {S S' : Store} {d : D} (hT : T f = some F) (hl : args.length = F.np) (hp : pures args = true)
    (hb : ans (exs (callT T k) F.body (args.map some ++ List.replicate (F.n - F.np) none) []) = some (d, S')) : callT T (k + 1) f args S = join S (some (d, S')) := by
  unfold callT
  simp only [hT]
  rw [if_pos hl, if_pos hp, runF_ans, hb]
theorem log_litG {x : Int} {n : Nat} (h : x.natAbs < 2 ^ 64) (h0 : ¬ x = 0) : x.natAbs.log2 < 9000 := by
  have : x.natAbs.log2 < 64 := (Nat.log2_lt (by omega)).mpr h
  omega
theorem ar_mod2 {x : Int} : arI .Mod x 2 = some (x.fmod 2) := ar_mod (by decide)
theorem ar_div2 {x : Int} : arI .FloorDiv x 2 = some (x.fdiv 2) := ar_div (by decide) (by decide)
theorem bin_mod2 {x : Int} : binR S .Mod (.v (.int x)) (.v (.int 2)) = some (.v (.int (x.fmod 2))) := bin_mod (by decide)
theorem bin_div2 {x : Int} : binR S .FloorDiv (.v (.int x)) (.v (.int 2)) = some (.v (.int (x.fdiv 2))) := bin_div (by decide) (by decide)
/-! ### bin_digits -/
def binS (s : List Int × Int) : Option ((List Int × Int) ⊕ List Int) := if s.2 = 0 then some (.inr s.1) else if s.1.length < 1000 then some (.inl (s.1 ++ [s.2.fmod 2], s.2.fdiv 2)) else none
def binM (n : Int) : Option (List Int) := loopM binS whileFuel ([], n)
theorem c80 (h : T 80 = some F80) (n : Int) (r : List Int) (hr : binM n = some r) : callT T (k + 1) 80 [.int n] S = some (.loc S.length, S ++ [.lst (r.map D.int)]) := by
  obtain ⟨fl, env', S', hw, rfl, u, rfl, rfl⟩ := post_get (while_of (c := tst (callT T k) (.var 2)) (b := exs (callT T k) [(.expr (.mt1 .append (.var 1) (.bin .Mod (.var 2) (.lit (.int (2)))))),
    (.aug 2 .FloorDiv (.lit (.int (2))))]) (step := binS) (fun s env S => env = [some (.int n), some (.loc 0), some (.int s.2)] ∧ S = [.lst (s.1.map D.int)])
    (fun z fl env S => fl = .nx ∧ ∃ u, env = [some (.int n), some (.loc 0), u] ∧ S = [.lst (z.map D.int)]) (by
    rintro ⟨acc, m⟩ _ _ r ⟨rfl, rfl⟩ hr
    unfold binS at hr
    dsimp only at hr
    split at hr
    · rename_i hz
      cases hr
      simp! [hz]
      exact ⟨trivial, _, rfl, trivial⟩
    · rename_i hz
      split at hr
      · rename_i hl
        cases hr
        have hl' : (acc.map D.int).length < 1000000 := by rw [List.length_map]; omega
        simp! [hz, bin_mod2, ar_div2, mt1_app (S := [.lst (acc.map D.int)]) (n := 0) rfl hl' rfl, List.map_append]
        exact ⟨trivial, trivial⟩
      · cases hr) whileFuel ([], n) r _ _ ⟨rfl, rfl⟩ hr)
  rw [call_join h rfl rfl (d := .loc 0) (S' := [.lst (r.map D.int)]) ?_]
  · unfold join
    have hp : D.pure (.loc 0) = false := rfl
    simp [hp, pures_ints]
  · unfold F80
    simp only [List.map_nil] at hw
    simp! [hw]
/-! ### integer_power -/
def powS (s : Int × Int × Int) : Option ((Int × Int × Int) ⊕ Int) := if s.2.2 = 0 then some (.inr s.1) else
  (if s.2.2.fmod 2 = 0 then some s.1 else mul s.1 s.2.1).bind fun f => (if s.2.2.fdiv 2 = 0 then some s.2.1 else mul s.2.1 s.2.1).bind fun g => some (.inl (f, g, s.2.2.fdiv 2))
def powM (b e : Int) : Option Int := loopM powS whileFuel (1, b, e)
theorem c201 (h : T 201 = some F201) (b e r : Int) (hr : powM b e = some r) : callT T (k + 1) 201 [.int b, .int e] S = some (.int r, S) := by
  obtain ⟨fl, env', S', hw, rfl, u, v, rfl, rfl⟩ := post_get (while_of (c := tst (callT T k) (.var 4)) (b := exs (callT T k) [(.ite (.bin .Mod (.var 4) (.lit (.int (2)))) [(.aug 2 .Mult (.var 3))] []),
    (.aug 4 .FloorDiv (.lit (.int (2)))),
    (.ite (.var 4) [(.aug 3 .Mult (.var 3))] [])]) (step := powS) (fun s env S => env = [some (.int b), some (.int e), some (.int s.1), some (.int s.2.1), some (.int s.2.2)] ∧ S = [])
    (fun z fl env S => fl = .nx ∧ ∃ u v, env = [some (.int b), some (.int e), some (.int z), u, v] ∧ S = []) (by
    rintro ⟨f, g, m⟩ _ _ r ⟨rfl, rfl⟩ hr
    unfold powS at hr
    dsimp only at hr
    split at hr
    · rename_i hz
      cases hr
      simp! [hz]
      exact ⟨trivial, _, _, rfl, trivial⟩
    · rename_i hz
      simp only [Option.bind_eq_some_iff] at hr
      obtain ⟨f', hf, g', hg, hr⟩ := hr
      cases hr
      by_cases h1 : m.fmod 2 = 0
      · rw [if_pos h1] at hf
        cases hf
        by_cases h2 : m.fdiv 2 = 0
        · rw [if_pos h2] at hg
          cases hg
          simp! [hz, bin_mod2, ar_div2, h1, h2]
          exact ⟨trivial, trivial⟩
        · rw [if_neg h2] at hg
          simp! [hz, bin_mod2, ar_div2, h1, h2, mul_ar hg]
          exact ⟨trivial, trivial⟩
      · rw [if_neg h1] at hf
        by_cases h2 : m.fdiv 2 = 0
        · rw [if_pos h2] at hg
          cases hg
          simp! [hz, bin_mod2, ar_div2, h1, h2, mul_ar hf]
          exact ⟨trivial, trivial⟩
        · rw [if_neg h2] at hg
          simp! [hz, bin_mod2, ar_div2, h1, h2, mul_ar hf, mul_ar hg]
          exact ⟨trivial, trivial⟩) whileFuel (1, b, e) r _ _ ⟨rfl, rfl⟩ hr)
  refine call_pure h rfl rfl ?_ rfl
  unfold F201
  simp! [hw]
/-! ### root_floor_of -/
def newS (n f : Int) : Option (Int ⊕ Int) := if f = 0 then none else if f.natAbs < 2 ^ 64 then
  (if f ≤ (f + n.fdiv f).fdiv 2 then some (.inr f) else some (.inl ((f + n.fdiv f).fdiv 2))) else none
def rootM (n : Int) : Option Int := if n < 2 then some n else (binM n).bind fun b => (powM 2 (((b.length : Int) + 1).fdiv 2)).bind fun f => loopM (newS n) whileFuel f
theorem c79 (h80 : T 80 = some F80) (h201 : T 201 = some F201) (h : T 79 = some F79) (n r : Int) (hr : rootM n = some r) : callT T (k + 2) 79 [.int n] S = some (.int r, S) := by
  refine call_pure h rfl rfl ?_ rfl
  unfold F79
  unfold rootM at hr
  split at hr
  · rename_i h2
    cases hr
    simp! [h2]
  · rename_i h2
    simp only [Option.bind_eq_some_iff] at hr
    obtain ⟨bs, hb, f, hf, hr⟩ := hr
    have c80 := c80 (k := k) (S := []) h80 n bs hb
    have c201 := fun S => c201 (k := k) (S := S) h201 _ _ _ hf
    obtain ⟨fl, env', S', hw, rfl⟩ := post_get (while_of (c := tst (callT T (k + 1)) (.lit (.bl true))) (b := exs (callT T (k + 1)) [(.asg (.nm 2) (.bin .FloorDiv (.bin .Add (.var 1) (.bin .FloorDiv (.var 0) (.var 1))) (.lit (.int (2))))),
      (.ite (.cmp .GtE (.var 2) (.var 1)) [(.ret (.var 1))] []),
      (.asg (.nm 1) (.var 2))]) (step := newS n) (fun s env S => ∃ u, env = [some (.int n), some (.int s), u])
      (fun z fl env S => fl = .rt (.int z)) (by
      rintro s _ S0 r ⟨u, rfl⟩ hr
      unfold newS at hr
      split at hr
      · cases hr
      · rename_i hz
        split at hr
        · rename_i hs
          have hl := log_litG (n := 0) hs hz
          split at hr
          · rename_i hc
            cases hr
            simp! [hz, hl, bin_div2, hc]
          · rename_i hc
            cases hr
            simp! [hz, hl, bin_div2, hc]
            exact ⟨_, rfl⟩
        · cases hr) whileFuel f r [some (.int n), some (.int f), none] [.lst (bs.map D.int)] ⟨_, rfl⟩ hr)
    simp only [List.nil_append, List.length_nil] at c80
    simp! [h2, c80, argQ_len, seq_loc, lstO_some, sq_len, List.length_map, bin_div2, c201, hw]
end K13

namespace K13
open Pv Cd PySem
local macro_rules
  | `(tactic| simp! [$ls,*]) => `(tactic| simp only [exs_nil, exs_cons, ex_expr, ex_ret, ex_asg, ex_asgT, asgTs_nil, asgTs_cons, ex_par2, ex_par3, ex_aug, ex_ite, ex_pass, ex_brk, ex_cnt, ex_retn, ex_whl, ex_never,
    ev_var, ev_lit, ev_bin, ev_neg, ev_not, ev_cmp, ev_cmp2, ev_and, ev_or, ev_ife, ev_tup, ev_lst, evs_nil, evs_cons, ev_idx, ev_slc, evo_no, evo_at, ev_call, ev_b1, ev_b2, ev_sq, ev_mt1, ev_mt0, push_v, push_s, push_ite, mt1D_loc, mt0D_loc, negR_int, intR_int, aug_add, aug_sub, aug_ar,
    tst_and, tst_or, tst_not, tst_cmp, tst_var, tst_lit, tst_call, tst_bin, tst_b1, tst_idx, tst_sq, tst_cmp2, tst_ife, bin_add, bin_sub, bin_mul, bin_div, bin_mod, bin_cat, tru_int, tru_bl, tru_tup, cmp_lt, cmp_le, cmp_gt, cmp_ge, cmp_eq, cmp_ne,
    eqv_int, eqv_bl, eqv_tup, eqvs_nil, eqvs_cons, okn_int, okn_bl, okn_tup, okns_nil, okns_cons, eqvs_ints, okns_ints, pures_nil, pures_cons, pures_ints, bd_some, bt_some, bf_nx, bf_rt, bf_bk, bf_ct, bd_none, bt_none, bf_none, bd_ite, bt_ite, bf_ite, wS_some, wV_some, ans_rt, ans_nx, ans_none, ans_ite, val_rt, val_nx, val_none, val_ite, post_some, post_none, post_ite, turn, turnQ,
    idx_t, idx_l, lst_0, lst_1, at0, at1, b1_abs, b1_int, b1_intb, b1_isInt, b1_isBool, b2_min, b2_max, ar_add, ar_sub, Option.map_some, Option.bind_some, id, decide_eq_true_eq, Bool.and_true, Bool.true_and, if_true, if_false, reduceIte, reduceCtorEq, Nat.reduceSub, List.reduceReplicate, Int.reduceNeg, Int.reduceLE, Int.reduceLT, Nat.reduceAdd, Int.reduceToNat, Int.ofNat_eq_natCast,
    List.map_cons, List.map_nil, List.cons_append, List.nil_append, List.getElem?_cons_zero, List.getElem?_cons_succ, List.set_cons_zero, List.set_cons_succ, List.length_cons, List.length_nil, ne_eq, not_false_eq_true, not_true_eq_false, decide_false, decide_true, $ls,*])

def O1 (f : Nat) (args : List D) : Option D := match f with
  | 79 => (match args with | [.int n] => (rootM n).map .int | _ => none)
  | _ => none
theorem O1_ok : ∀ k f args d S, O1 f args = some d → 2 ≤ k → callT Cd.T k f args S = some (d, S) := fun k f args d S h hk => by
  obtain ⟨k, rfl⟩ : ∃ j, k = j + 2 := ⟨k - 2, by omega⟩
  unfold O1 at h
  split at h
  · split at h
    · rename_i n
      cases e : rootM n with
      | none => rw [e] at h; cases h
      | some r => rw [e] at h; cases h; exact c79 rfl rfl rfl n r e
    · cases h
  · cases h
/-- the quick evaluator with it, as deep as the law's defs need -/
def q1 : Nat → List D → Store → Option (D × Store) := fc Cd.T O1 40 37
theorem q1_ok : ∀ f a S, Le (q1 f a S) (callT Cd.T 39 f a S) := fun f a S => fc_ok O1_ok 37 f a S
def rootedA : List CS := (F1003.body.drop 1).take 12
def rootedC : CE := match F1003.body[13]? with
  | some (CS.asg _ e) => e
  | _ => .lit .non
def rootedR (n : Int) (v0 : Option D) (S : Store) : Option (Bool × Store) := match exsF (lvl q1 40) rootedA [v0, some (.int n), none, none, none, none, none, none, none, none, none, none, none] S with
  | some (.rt (.bl true), _, S') => some (true, S')
  | some (.nx, env, S') => (match Nat.blt 11 env.length, (lvl q1 40).ev rootedC env S' with | true, some (.s [], S2) => some (false, S2) | _, _ => none)
  | _ => none
theorem r1 (v0 : Option D) (S : Store) : rootedR 1 v0 S = some (true, S) := by kernel_rfl
theorem r2 (v0 : Option D) (S : Store) : rootedR 2 v0 S = some (false, S) := by kernel_rfl
theorem r3 (v0 : Option D) (S : Store) : rootedR 3 v0 S = some (false, S) := by kernel_rfl
theorem r4 (v0 : Option D) (S : Store) : rootedR 4 v0 S = some (true, S) := by kernel_rfl
theorem r5 (v0 : Option D) (S : Store) : rootedR 5 v0 S = some (false, S) := by kernel_rfl
theorem r6 (v0 : Option D) (S : Store) : rootedR 6 v0 S = some (false, S) := by kernel_rfl
theorem r7 (v0 : Option D) (S : Store) : rootedR 7 v0 S = some (false, S) := by kernel_rfl
theorem r8 (v0 : Option D) (S : Store) : rootedR 8 v0 S = some (false, S) := by kernel_rfl
theorem r9 (v0 : Option D) (S : Store) : rootedR 9 v0 S = some (true, S) := by kernel_rfl
theorem r10 (v0 : Option D) (S : Store) : rootedR 10 v0 S = some (false, S) := by kernel_rfl
theorem r11 (v0 : Option D) (S : Store) : rootedR 11 v0 S = some (false, S) := by kernel_rfl
theorem r12 (v0 : Option D) (S : Store) : rootedR 12 v0 S = some (false, S) := by kernel_rfl
theorem r13 (v0 : Option D) (S : Store) : rootedR 13 v0 S = some (false, S) := by kernel_rfl
theorem r14 (v0 : Option D) (S : Store) : rootedR 14 v0 S = some (false, S) := by kernel_rfl
theorem r15 (v0 : Option D) (S : Store) : rootedR 15 v0 S = some (false, S) := by kernel_rfl
theorem r16 (v0 : Option D) (S : Store) : rootedR 16 v0 S = some (true, S) := by kernel_rfl
theorem r17 (v0 : Option D) (S : Store) : rootedR 17 v0 S = some (false, S) := by kernel_rfl
theorem r18 (v0 : Option D) (S : Store) : rootedR 18 v0 S = some (false, S) := by kernel_rfl
theorem r19 (v0 : Option D) (S : Store) : rootedR 19 v0 S = some (false, S) := by kernel_rfl
theorem r20 (v0 : Option D) (S : Store) : rootedR 20 v0 S = some (false, S) := by kernel_rfl
theorem r21 (v0 : Option D) (S : Store) : rootedR 21 v0 S = some (false, S) := by kernel_rfl
theorem r22 (v0 : Option D) (S : Store) : rootedR 22 v0 S = some (false, S) := by kernel_rfl
theorem r23 (v0 : Option D) (S : Store) : rootedR 23 v0 S = some (false, S) := by kernel_rfl
theorem r24 (v0 : Option D) (S : Store) : rootedR 24 v0 S = some (false, S) := by kernel_rfl
theorem r25 (v0 : Option D) (S : Store) : rootedR 25 v0 S = some (true, S) := by kernel_rfl
theorem r26 (v0 : Option D) (S : Store) : rootedR 26 v0 S = some (false, S) := by kernel_rfl
theorem r27 (v0 : Option D) (S : Store) : rootedR 27 v0 S = some (false, S) := by kernel_rfl
theorem r28 (v0 : Option D) (S : Store) : rootedR 28 v0 S = some (false, S) := by kernel_rfl
theorem r29 (v0 : Option D) (S : Store) : rootedR 29 v0 S = some (false, S) := by kernel_rfl
theorem r30 (v0 : Option D) (S : Store) : rootedR 30 v0 S = some (false, S) := by kernel_rfl
theorem r31 (v0 : Option D) (S : Store) : rootedR 31 v0 S = some (false, S) := by kernel_rfl
theorem r32 (v0 : Option D) (S : Store) : rootedR 32 v0 S = some (false, S) := by kernel_rfl
theorem r33 (v0 : Option D) (S : Store) : rootedR 33 v0 S = some (false, S) := by kernel_rfl
theorem r34 (v0 : Option D) (S : Store) : rootedR 34 v0 S = some (false, S) := by kernel_rfl
theorem r35 (v0 : Option D) (S : Store) : rootedR 35 v0 S = some (false, S) := by kernel_rfl
theorem r36 (v0 : Option D) (S : Store) : rootedR 36 v0 S = some (true, S) := by kernel_rfl
theorem r37 (v0 : Option D) (S : Store) : rootedR 37 v0 S = some (false, S) := by kernel_rfl
theorem r38 (v0 : Option D) (S : Store) : rootedR 38 v0 S = some (false, S) := by kernel_rfl
theorem r39 (v0 : Option D) (S : Store) : rootedR 39 v0 S = some (false, S) := by kernel_rfl
theorem r40 (v0 : Option D) (S : Store) : rootedR 40 v0 S = some (false, S) := by kernel_rfl
theorem r41 (v0 : Option D) (S : Store) : rootedR 41 v0 S = some (false, S) := by kernel_rfl
theorem r42 (v0 : Option D) (S : Store) : rootedR 42 v0 S = some (false, S) := by kernel_rfl
theorem r43 (v0 : Option D) (S : Store) : rootedR 43 v0 S = some (false, S) := by kernel_rfl
theorem r44 (v0 : Option D) (S : Store) : rootedR 44 v0 S = some (false, S) := by kernel_rfl
theorem r45 (v0 : Option D) (S : Store) : rootedR 45 v0 S = some (false, S) := by kernel_rfl
theorem r46 (v0 : Option D) (S : Store) : rootedR 46 v0 S = some (false, S) := by kernel_rfl
theorem r47 (v0 : Option D) (S : Store) : rootedR 47 v0 S = some (false, S) := by kernel_rfl
theorem r48 (v0 : Option D) (S : Store) : rootedR 48 v0 S = some (false, S) := by kernel_rfl
theorem r49 (v0 : Option D) (S : Store) : rootedR 49 v0 S = some (true, S) := by kernel_rfl
theorem r50 (v0 : Option D) (S : Store) : rootedR 50 v0 S = some (false, S) := by kernel_rfl
theorem r51 (v0 : Option D) (S : Store) : rootedR 51 v0 S = some (false, S) := by kernel_rfl
theorem r52 (v0 : Option D) (S : Store) : rootedR 52 v0 S = some (false, S) := by kernel_rfl
theorem r53 (v0 : Option D) (S : Store) : rootedR 53 v0 S = some (false, S) := by kernel_rfl
theorem r54 (v0 : Option D) (S : Store) : rootedR 54 v0 S = some (false, S) := by kernel_rfl
theorem r55 (v0 : Option D) (S : Store) : rootedR 55 v0 S = some (false, S) := by kernel_rfl
theorem r56 (v0 : Option D) (S : Store) : rootedR 56 v0 S = some (false, S) := by kernel_rfl
theorem r57 (v0 : Option D) (S : Store) : rootedR 57 v0 S = some (false, S) := by kernel_rfl
theorem r58 (v0 : Option D) (S : Store) : rootedR 58 v0 S = some (false, S) := by kernel_rfl
theorem r59 (v0 : Option D) (S : Store) : rootedR 59 v0 S = some (false, S) := by kernel_rfl
theorem r60 (v0 : Option D) (S : Store) : rootedR 60 v0 S = some (false, S) := by kernel_rfl
theorem rooted_all (x : Int) (h0 : 0 ≤ x) (h1 : x < 60) (v0 : Option D) (S : Store) : ∃ b, rootedR (1 + x) v0 S = some (b, S) := by
  obtain ⟨i, rfl⟩ : ∃ i : Nat, x = (i : Int) := ⟨x.toNat, by omega⟩
  have hi : i < 60 := by omega
  by_cases c0 : i = 0
  · subst c0; exact ⟨_, r1 v0 S⟩
  by_cases c1 : i = 1
  · subst c1; exact ⟨_, r2 v0 S⟩
  by_cases c2 : i = 2
  · subst c2; exact ⟨_, r3 v0 S⟩
  by_cases c3 : i = 3
  · subst c3; exact ⟨_, r4 v0 S⟩
  by_cases c4 : i = 4
  · subst c4; exact ⟨_, r5 v0 S⟩
  by_cases c5 : i = 5
  · subst c5; exact ⟨_, r6 v0 S⟩
  by_cases c6 : i = 6
  · subst c6; exact ⟨_, r7 v0 S⟩
  by_cases c7 : i = 7
  · subst c7; exact ⟨_, r8 v0 S⟩
  by_cases c8 : i = 8
  · subst c8; exact ⟨_, r9 v0 S⟩
  by_cases c9 : i = 9
  · subst c9; exact ⟨_, r10 v0 S⟩
  by_cases c10 : i = 10
  · subst c10; exact ⟨_, r11 v0 S⟩
  by_cases c11 : i = 11
  · subst c11; exact ⟨_, r12 v0 S⟩
  by_cases c12 : i = 12
  · subst c12; exact ⟨_, r13 v0 S⟩
  by_cases c13 : i = 13
  · subst c13; exact ⟨_, r14 v0 S⟩
  by_cases c14 : i = 14
  · subst c14; exact ⟨_, r15 v0 S⟩
  by_cases c15 : i = 15
  · subst c15; exact ⟨_, r16 v0 S⟩
  by_cases c16 : i = 16
  · subst c16; exact ⟨_, r17 v0 S⟩
  by_cases c17 : i = 17
  · subst c17; exact ⟨_, r18 v0 S⟩
  by_cases c18 : i = 18
  · subst c18; exact ⟨_, r19 v0 S⟩
  by_cases c19 : i = 19
  · subst c19; exact ⟨_, r20 v0 S⟩
  by_cases c20 : i = 20
  · subst c20; exact ⟨_, r21 v0 S⟩
  by_cases c21 : i = 21
  · subst c21; exact ⟨_, r22 v0 S⟩
  by_cases c22 : i = 22
  · subst c22; exact ⟨_, r23 v0 S⟩
  by_cases c23 : i = 23
  · subst c23; exact ⟨_, r24 v0 S⟩
  by_cases c24 : i = 24
  · subst c24; exact ⟨_, r25 v0 S⟩
  by_cases c25 : i = 25
  · subst c25; exact ⟨_, r26 v0 S⟩
  by_cases c26 : i = 26
  · subst c26; exact ⟨_, r27 v0 S⟩
  by_cases c27 : i = 27
  · subst c27; exact ⟨_, r28 v0 S⟩
  by_cases c28 : i = 28
  · subst c28; exact ⟨_, r29 v0 S⟩
  by_cases c29 : i = 29
  · subst c29; exact ⟨_, r30 v0 S⟩
  by_cases c30 : i = 30
  · subst c30; exact ⟨_, r31 v0 S⟩
  by_cases c31 : i = 31
  · subst c31; exact ⟨_, r32 v0 S⟩
  by_cases c32 : i = 32
  · subst c32; exact ⟨_, r33 v0 S⟩
  by_cases c33 : i = 33
  · subst c33; exact ⟨_, r34 v0 S⟩
  by_cases c34 : i = 34
  · subst c34; exact ⟨_, r35 v0 S⟩
  by_cases c35 : i = 35
  · subst c35; exact ⟨_, r36 v0 S⟩
  by_cases c36 : i = 36
  · subst c36; exact ⟨_, r37 v0 S⟩
  by_cases c37 : i = 37
  · subst c37; exact ⟨_, r38 v0 S⟩
  by_cases c38 : i = 38
  · subst c38; exact ⟨_, r39 v0 S⟩
  by_cases c39 : i = 39
  · subst c39; exact ⟨_, r40 v0 S⟩
  by_cases c40 : i = 40
  · subst c40; exact ⟨_, r41 v0 S⟩
  by_cases c41 : i = 41
  · subst c41; exact ⟨_, r42 v0 S⟩
  by_cases c42 : i = 42
  · subst c42; exact ⟨_, r43 v0 S⟩
  by_cases c43 : i = 43
  · subst c43; exact ⟨_, r44 v0 S⟩
  by_cases c44 : i = 44
  · subst c44; exact ⟨_, r45 v0 S⟩
  by_cases c45 : i = 45
  · subst c45; exact ⟨_, r46 v0 S⟩
  by_cases c46 : i = 46
  · subst c46; exact ⟨_, r47 v0 S⟩
  by_cases c47 : i = 47
  · subst c47; exact ⟨_, r48 v0 S⟩
  by_cases c48 : i = 48
  · subst c48; exact ⟨_, r49 v0 S⟩
  by_cases c49 : i = 49
  · subst c49; exact ⟨_, r50 v0 S⟩
  by_cases c50 : i = 50
  · subst c50; exact ⟨_, r51 v0 S⟩
  by_cases c51 : i = 51
  · subst c51; exact ⟨_, r52 v0 S⟩
  by_cases c52 : i = 52
  · subst c52; exact ⟨_, r53 v0 S⟩
  by_cases c53 : i = 53
  · subst c53; exact ⟨_, r54 v0 S⟩
  by_cases c54 : i = 54
  · subst c54; exact ⟨_, r55 v0 S⟩
  by_cases c55 : i = 55
  · subst c55; exact ⟨_, r56 v0 S⟩
  by_cases c56 : i = 56
  · subst c56; exact ⟨_, r57 v0 S⟩
  by_cases c57 : i = 57
  · subst c57; exact ⟨_, r58 v0 S⟩
  by_cases c58 : i = 58
  · subst c58; exact ⟨_, r59 v0 S⟩
  by_cases c59 : i = 59
  · subst c59; exact ⟨_, r60 v0 S⟩
  omega
theorem c1003 {S : Store} {sl ce : Nat} {cells : List Int} (hs : Stands S sl ce cells) (hc : S.all (O.under S.length) = true) :
    ∃ S', callT Cd.T 40 1003 [.loc sl] S = some (.bl true, S') ∧ Stands S' sl ce cells ∧ S'.all (O.under S'.length) = true := by
  obtain ⟨x, S1, d1, hx1, hx2, hs1, hl1, hk1, hc1⟩ := draw_ok (k := 38) (show Cd.T 1000 = some drawF from rfl) hs hc 60 (by decide) (by decide)
  obtain ⟨b, hb⟩ := rooted_all x hx1 hx2 (some (.loc sl)) S1
  have le := le_lvl q1_ok 40
  refine ⟨S1, ?_, hs1, hc1⟩
  have ht : S1.take S.length = S1 := List.take_of_length_le (by omega)
  rw [call_st (T := Cd.T) (F := F1003) rfl rfl rfl]
  have h1 : ex (callT Cd.T 39) (.asg (.nm 1) (.bin .Add (.lit (.int (1))) (.call 1000 [(.var 0), (.lit (.int (60)))]))) [some (.loc sl), none, none, none, none, none, none, none, none, none, none, none, none] S = some (.nx, [some (.loc sl), some (.int (1 + x)), none, none, none, none, none, none, none, none, none, none, none], S1) := by
    simp! [d1]
  have go : ∀ S2, ans (exs (callT Cd.T 39) F1003.body ([D.loc sl].map some ++ List.replicate (F1003.n - F1003.np) none) S) = some (.bl true, S2) → S2.take S.length = S1 → tidy S.length (ans (exs (callT Cd.T 39) F1003.body ([D.loc sl].map some ++ List.replicate (F1003.n - F1003.np) none) S)) = some (.bl true, S1) := fun S2 e e2 => by
    rw [e, tidy_under rfl (by rw [e2, ← hl1]; exact hc1), e2]
  have hsplit : exs (callT Cd.T 39) F1003.body ([D.loc sl].map some ++ List.replicate (F1003.n - F1003.np) none) S = exs (callT Cd.T 39) (rootedA ++ F1003.body.drop 13) [some (.loc sl), some (.int (1 + x)), none, none, none, none, none, none, none, none, none, none, none] S1 := by
    show exs (callT Cd.T 39) ((.asg (.nm 1) (.bin .Add (.lit (.int (1))) (.call 1000 [(.var 0), (.lit (.int (60)))]))) :: (rootedA ++ F1003.body.drop 13)) [some (.loc sl), none, none, none, none, none, none, none, none, none, none, none, none] S = _
    rw [exs_cons, h1, bf_nx]
  have happ : ∀ (l1 l2 : List CS) (env : Pv.Env) (S : Store), exs (callT Cd.T 39) (l1 ++ l2) env S = bf (exs (callT Cd.T 39) l1 env S) fun env S => exs (callT Cd.T 39) l2 env S := fun l1 l2 => by
    induction l1 with
    | nil => intro env S; rw [exs_nil]; rfl
    | cons s l1 ih =>
      intro env S
      rw [List.cons_append, exs_cons, exs_cons]
      cases ex (callT Cd.T 39) s env S with
      | none => rfl
      | some z =>
        obtain ⟨fl, e, S1⟩ := z
        cases fl with
        | nx => exact ih e S1
        | _ => rfl
  unfold rootedR at hb
  cases e1 : exsF (lvl q1 40) rootedA [some (.loc sl), some (.int (1 + x)), none, none, none, none, none, none, none, none, none, none, none] S1 with
  | none => rw [e1] at hb; cases hb
  | some z =>
    obtain ⟨fl, env', S'⟩ := z
    rw [e1] at hb
    have e2 := le_exs le.2 _ _ _ _ e1
    cases fl with
    | rt d =>
      have hd : d = .bl true ∧ S' = S1 := by
        cases d with
        | bl t => cases t with
          | true => cases hb; exact ⟨rfl, rfl⟩
          | false => cases hb
        | _ => cases hb
      obtain ⟨rfl, rfl⟩ := hd
      exact go S' (by rw [hsplit, happ, e2]; rfl) ht
    | nx =>
      simp only at hb
      split at hb
      · rename_i S2 hlen e3
        cases hb
        have hlen : 11 < env'.length := Nat.le_of_ble_eq_true hlen
        have e4 := le.1 _ _ _ _ e3
        have fin : ∀ S0 : Store, (lvl q1 40).ev rootedC env' S' = some (.s [], S0) → exs (callT Cd.T 39) (F1003.body.drop 13) env' S' = some (.rt (.bl true), env'.set 11 (some (.loc S0.length)), S0 ++ [.lst []]) := fun S0 e3 => by
          have e4 := le.1 _ _ _ _ e3
          have hg : (env'.set 11 (some (.loc S0.length)))[11]? = some (some (.loc S0.length)) := List.getElem?_set_self hlen
          have heq : cmpR (S0 ++ [.lst []]) .Eq (.v (.loc S0.length)) (.s []) = some true := by
            have : (S0 ++ [O.lst []])[S0.length]? = some (.lst []) := by rw [List.getElem?_append_right (Nat.le_refl _)]; simp
            show eqR _ _ _ = _
            unfold eqR eqV
            simp only [this]
            rfl
          show exs (callT Cd.T 39) [.asg (.nm 11) rootedC, .ret (.cmp .Eq (.var 11) (.lst []))] env' S' = _
          rw [exs_cons, ex_asg, e4]
          simp! [hg, heq]
        refine go (_ ++ [.lst []]) (by rw [hsplit, happ, e2, bf_nx, fin _ e3]; rfl) ?_
        rw [List.take_append_of_le_length (by omega)]
        exact ht
      · cases hb
    | bk => cases hb
    | ct => cases hb
end K13

namespace K13
open Pv Cd PySem
local macro_rules
  | `(tactic| simp! [$ls,*]) => `(tactic| simp only [exs_nil, exs_cons, ex_expr, ex_ret, ex_asg, ex_asgT, asgTs_nil, asgTs_cons, ex_par2, ex_par3, ex_aug, ex_ite, ex_pass, ex_brk, ex_cnt, ex_retn, ex_whl, ex_never,
    ev_var, ev_lit, ev_bin, ev_neg, ev_not, ev_cmp, ev_cmp2, ev_and, ev_or, ev_ife, ev_tup, ev_lst, evs_nil, evs_cons, ev_idx, ev_slc, evo_no, evo_at, ev_call, ev_b1, ev_b2, ev_sq, ev_mt1, ev_mt0, push_v, push_s, push_ite, mt1D_loc, mt0D_loc, negR_int, intR_int, aug_add, aug_sub, aug_ar,
    tst_and, tst_or, tst_not, tst_cmp, tst_var, tst_lit, tst_call, tst_bin, tst_b1, tst_idx, tst_sq, tst_cmp2, tst_ife, bin_add, bin_sub, bin_mul, bin_div, bin_mod, bin_cat, tru_int, tru_bl, tru_tup, cmp_lt, cmp_le, cmp_gt, cmp_ge, cmp_eq, cmp_ne,
    eqv_int, eqv_bl, eqv_tup, eqvs_nil, eqvs_cons, okn_int, okn_bl, okn_tup, okns_nil, okns_cons, eqvs_ints, okns_ints, pures_nil, pures_cons, pures_ints, bd_some, bt_some, bf_nx, bf_rt, bf_bk, bf_ct, bd_none, bt_none, bf_none, bd_ite, bt_ite, bf_ite, wS_some, wV_some, ans_rt, ans_nx, ans_none, ans_ite, val_rt, val_nx, val_none, val_ite, post_some, post_none, post_ite, turn, turnQ,
    idx_t, idx_l, lst_0, lst_1, at0, at1, b1_abs, b1_int, b1_intb, b1_isInt, b1_isBool, b2_min, b2_max, ar_add, ar_sub, Option.map_some, Option.bind_some, id, decide_eq_true_eq, Bool.and_true, Bool.true_and, if_true, if_false, reduceIte, reduceCtorEq, Nat.reduceSub, List.reduceReplicate, Int.reduceNeg, Int.reduceLE, Int.reduceLT, Nat.reduceAdd, Int.reduceToNat, Int.ofNat_eq_natCast,
    List.map_cons, List.map_nil, List.cons_append, List.nil_append, List.getElem?_cons_zero, List.getElem?_cons_succ, List.set_cons_zero, List.set_cons_succ, List.length_cons, List.length_nil, ne_eq, not_false_eq_true, not_true_eq_false, decide_false, decide_true, $ls,*])

variable {T : Nat → Option FunC} {k : Nat} {S : Store}
theorem log_lit {x : Int} (h : x.natAbs < 2 ^ 64) (h0 : ¬ x = 0) : x.natAbs.log2 < 9000 := by
  have : x.natAbs.log2 < 64 := (Nat.log2_lt (by omega)).mpr h
  omega
theorem evi_rng2 {cl : Nat → List D → Store → Option (D × Store)} {a b : CE} {env : Pv.Env} {S : Store} {i j : Int} {m : Nat} (h : ev cl a env S = some (.v (.int i), S)) (h2 : ev cl b env S = some (.v (.int j), S)) (hj : (rngOk i && rngOk j) = true) (hm : (j - i).toNat = m) : evi cl (.rng2 a b) env S = some (.rng i 1 m, S) := by
  simp only [evi, h, h2]
  rw [if_pos hj, hm]
/-! ### is_nearer -/
def absQ (a : Int × Int) : Int × Int := (if a.1 < 0 then -a.1 else a.1, a.2)
theorem c88 (h : T 88 = some F88) (a : Int × Int) : callT T (k + 1) 88 [q2 a] S = some (q2 (absQ a), S) := by
  refine call_pure h rfl rfl ?_ rfl
  unfold F88
  simp! [idx_q0, idx_q1]
  rfl
def nearerM (n a b : Int × Int) : Option Bool := (plusM n (-a.1, a.2)).bind fun u => (plusM n (-b.1, b.2)).bind fun v => if absQ u = absQ v then lessM a b else lessM (absQ u) (absQ v)
theorem eq_q {p q : Int × Int} : cmpR S .Eq (.v (q2 p)) (.v (q2 q)) = some (decide (p = q)) := by rw [cmp_eq okn_q okn_q, eqv_q]
section
variable (h197 : T 197 = some F197) (h203 : T 203 = some F203) (h204 : T 204 = some F204) (h205 : T 205 = some F205) (h206 : T 206 = some F206) (h207 : T 207 = some F207) (h209 : T 209 = some F209) (h214 : T 214 = some F214) (h217 : T 217 = some F217)
  (h76 : T 76 = some F76) (h77 : T 77 = some F77) (h86 : T 86 = some F86) (h87 : T 87 = some F87) (h88 : T 88 = some F88)
include h197 h203 h204 h205 h206 h207 h209 h214 h217 h76 h77 h86 h87 h88
theorem c87 (n a b : Int × Int) (r : Bool) (hr : nearerM n a b = some r) : callT T (k + 5) 87 [q2 n, q2 a, q2 b] S = some (.bl r, S) := by
  unfold nearerM at hr
  simp only [Option.bind_eq_some_iff] at hr
  obtain ⟨u, hu, v, hv, hr⟩ := hr
  have c1 := fun S => c207 (k := k) (S := S) h197 h203 h205 h206 h207 n a u hu
  have c2 := fun S => c207 (k := k) (S := S) h197 h203 h205 h206 h207 n b v hv
  have c3 := fun S a => c88 (k := k + 3) (S := S) h88 a
  refine call_pure h87 rfl rfl ?_ rfl
  unfold F87
  split at hr
  · rename_i he
    have c4 := fun S => c214 (k := k + 3) (S := S) h214 _ _ _ hr
    simp! [c1, c2, c3, eq_q, he, c4]
  · rename_i he
    have c4 := fun S => c214 (k := k + 3) (S := S) h214 _ _ _ hr
    simp! [c1, c2, c3, eq_q, he, c4]
/-! ### best_below -/
def bestG (n : Int × Int) (most : Int) (P : List Int) (s : (Int × Int) × Int × Int) (j : Nat) : Option (((Int × Int) × Int × Int) ⊕ (Int × Int)) := match P[j + 1]? with
  | none => none
  | some pt => if s.2.2 = 0 then none else if s.2.2.natAbs < 2 ^ 64 then
      (if (if (most - s.2.1).fdiv s.2.2 < pt then (most - s.2.1).fdiv s.2.2 else pt) < 1 then some (.inr s.1) else
        (nfpM (P.take (j + 1) ++ [if (most - s.2.1).fdiv s.2.2 < pt then (most - s.2.1).fdiv s.2.2 else pt])).bind fun made => (nearerM n made s.1).bind fun nr => (mul pt s.2.2).bind fun h =>
          some (.inl (if nr = true then made else s.1, s.2.2, h + s.2.1))) else none
def bestE : ((Int × Int) × Int × Int) ⊕ (Int × Int) → Int × Int
  | .inl s => s.1
  | .inr b => b
def bestM (n : Int × Int) (most : Int) : Option (Int × Int) := (partsM n).bind fun P => match P with
  | [] => none
  | a :: r => if P.length < 1000 then (nearerM n (a + 1, 1) (a, 1)).bind fun nr => (listM (bestG n most (a :: r)) (List.range r.length) (if nr = true then (a + 1, 1) else (a, 1), 0, 1)).map bestE else none
theorem best_loop {n : Int × Int} {most a : Int} {r : List Int} {w : ((Int × Int) × Int × Int) ⊕ (Int × Int)} (hlen : (a :: r).length < 1000) : ∀ b0 : Int × Int, listM (bestG n most (a :: r)) (List.range r.length) (b0, 0, 1) = some w → ∃ fl env S', ex (callT T (k + 5)) (.forr (.nm 6) (.rng2 (.lit (.int 1)) (.sq .len (.var 2))) [(.asg (.nm 7) (.b2 .min (.idx (.var 2) (.var 6)) (.bin .FloorDiv (.bin .Sub (.var 1) (.var 4)) (.var 5)))), (.ite (.cmp .Lt (.var 7) (.lit (.int (1)))) [(.ret (.var 3))] []), (.asg (.nm 8) (.call 77 [(.bin .Add (.slc (.var 2) .no (.at_ (.var 6))) (.tup [(.var 7)]))])), (.ite (.call 87 [(.var 0), (.var 8), (.var 3)]) [(.asg (.nm 3) (.var 8))] []), (.par2 4 5 (.var 5) (.bin .Add (.bin .Mult (.idx (.var 2) (.var 6)) (.var 5)) (.var 4)))]) [some (q2 n), some (.int most), some (.tup (.int a :: r.map D.int)), some (q2 b0), some (.int 0), some (.int 1), none, none, none] [] = some (fl, env, S') ∧ ((fl = .nx ∧ env[3]? = some (some (q2 (bestE w)))) ∨ fl = .rt (q2 (bestE w))) := by
  intro b0 hw
  refine post_get (P := fun fl env _ => (fl = .nx ∧ env[3]? = some (some (q2 (bestE w)))) ∨ fl = .rt (q2 (bestE w))) ?_
  have hi : evi (callT T (k + 5)) (.rng2 (.lit (.int 1)) (.sq .len (.var 2))) [some (q2 n), some (.int most), some (.tup (.int a :: r.map D.int)), some (q2 b0), some (.int 0), some (.int 1), none, none, none] [] = some (.rng 1 1 r.length, []) := by
    refine evi_rng2 (j := ((r.length + 1 : Nat) : Int)) (ev_lit) ?_ ?_ ?_
    · simp! [seq_tup, argQ_len, sq_len, List.length_map]
    · have : r.length + 1 < 1000 := hlen
      unfold rngOk
      simp only [Bool.and_eq_true, decide_eq_true_eq]
      omega
    · omega
  rw [ex_for hi fixed_rng (by simp [DI.len])]
  refine post_imp (list_of (emb := fun (i : Nat) => D.int (1 + (i : Int) * 1)) (g := bestG n most (a :: r)) (fun s env S => ∃ u v t, env = [some (q2 n), some (.int most), some (.tup (.int a :: r.map D.int)), some (q2 s.1), some (.int s.2.1), some (.int s.2.2), u, v, t] ∧ S = [])
    (fun z fl env S => fl = .rt (q2 z)) (by
      rintro ⟨best, before, here⟩ j _ _ r' ⟨u, v, t, rfl, rfl⟩ hr
      unfold bestG at hr
      dsimp only at hr
      cases hj : (a :: r)[j + 1]? with
      | none => rw [hj] at hr; cases hr
      | some pt =>
        rw [hj] at hr
        dsimp only at hr
        split at hr
        · cases hr
        · rename_i hz
          split at hr
          · rename_i hs
            have hlz := log_lit hs hz
            have ej : (1 + (j : Int) * 1) = ((j + 1 : Nat) : Int) := by omega
            have hat : atD (.int a :: r.map D.int) ((j + 1 : Nat) : Int) = some (.int pt) := at_nat (j := j + 1) rfl (by rw [← List.map_cons, List.getElem?_map, hj]; rfl)
            have hjl : j + 1 ≤ (a :: r).length := Nat.le_of_lt (List.getElem?_eq_some_iff.mp hj).1
            have hcut : cutD (.int a :: r.map D.int) none (some ((j + 1 : Nat) : Int)) = ((a :: r).take (j + 1)).map D.int := by
              rw [cut_take (by simpa using hjl), ← List.map_cons, List.map_take]
            generalize hlast : (if (most - before).fdiv here < pt then (most - before).fdiv here else pt) = last at hr
            have hcat : ∀ S, binR S .Add (.v (.tup (((a :: r).take (j + 1)).map D.int))) (.v (.tup [.int last])) = some (.v (.tup (((a :: r).take (j + 1) ++ [last]).map D.int))) := fun S => by
              rw [bin_cat (Nat.ble_eq_true_of_le (by
                have : (a :: r).length < 1000 := hlen
                show _ ≤ 1000000
                simp only [List.length_map, List.length_take, List.length_singleton]
                omega)), List.map_append]; rfl
            split at hr
            · rename_i hl1
              cases hr
              simp! [bindP_nm, bindF_some, ej, hat, hz, hlz, hlast, hl1]
            · rename_i hl1
              simp only [Option.bind_eq_some_iff] at hr
              obtain ⟨made, hm, nr2, hn2, hh, hh2, hr⟩ := hr
              cases hr
              have c77 := fun S => c77 (k := k + 2) (S := S) h197 h203 h204 h77 _ _ hm
              have c87'' := fun S => c87 (k := k) (S := S) h197 h203 h204 h205 h206 h207 h209 h214 h217 h76 h77 h86 h87 h88 n made best nr2 hn2
              cases nr2 with
              | true =>
                simp! [bindP_nm, bindF_some, ej, hat, hz, hlz, hlast, hl1, slc_tup, hcut, hcat, c77, c87'', mul_ar hh2]
                exact ⟨_, _, _, rfl, trivial⟩
              | false =>
                simp! [bindP_nm, bindF_some, ej, hat, hz, hlz, hlast, hl1, slc_tup, hcut, hcat, c77, c87'', mul_ar hh2, Bool.false_eq_true]
                exact ⟨_, _, _, rfl, trivial⟩
          · cases hr) (List.range r.length) (b0, 0, 1) _ [] _ ⟨none, none, none, rfl, rfl⟩ hw) fun fl env S h => ?_
  cases w with
  | inl s =>
    obtain ⟨rfl, u, v, t, rfl, rfl⟩ := h
    exact .inl ⟨rfl, rfl⟩
  | inr z => exact .inr h

theorem c86 (n : Int × Int) (most : Int) (z : Int × Int) (hz : bestM n most = some z) : callT T (k + 6) 86 [q2 n, .int most] S = some (q2 z, S) := by
  unfold bestM at hz
  simp only [Option.bind_eq_some_iff] at hz
  obtain ⟨P, hP, hz⟩ := hz
  cases P with
  | nil => cases hz
  | cons a r =>
    dsimp only at hz
    split at hz
    · rename_i hlen
      simp only [Option.bind_eq_some_iff, Option.map_eq_some_iff] at hz
      obtain ⟨nr, hnr, w, hw, rfl⟩ := hz
      have c76 := c76 (k := k) (S := []) h197 h203 h205 h206 h207 h209 h217 h204 h76 n _ hP
      simp only [List.map_cons] at c76
      have c87' := fun S => c87 (k := k) (S := S) h197 h203 h204 h205 h206 h207 h209 h214 h217 h76 h77 h86 h87 h88 n (a + 1, 1) (a, 1) nr hnr
      have q1 : D.tup [.int (a + 1), .int 1] = q2 (a + 1, 1) := rfl
      have q0 : D.tup [.int a, .int 1] = q2 (a, 1) := rfl
      have hloop := fun b0 hw => best_loop (k := k) (n := n) (most := most) (w := w) h197 h203 h204 h205 h206 h207 h209 h214 h217 h76 h77 h86 h87 h88 hlen b0 hw
      refine call_pure h86 rfl (by show ((q2 n).pure && (true && true)) = true; rfl) ?_ rfl
      have e4 : exs (callT T (k + 5)) (F86.body.take 4) [some (q2 n), some (.int most), none, none, none, none, none, none, none] [] = some (.nx, [some (q2 n), some (.int most), some (.tup (.int a :: r.map D.int)), some (q2 (if nr = true then (a + 1, 1) else (a, 1))), some (.int 0), some (.int 1), none, none, none], []) := by
        unfold F86
        simp only [List.take_succ_cons, List.take_zero]
        cases nr with
        | true => simp! [c76, q0, q1, c87']
        | false => simp! [c76, q0, q1, c87', Bool.false_eq_true]
      obtain ⟨fl, env, S', he, hor⟩ := hloop _ hw
      show val (exs (callT T (k + 5)) (F86.body.take 4 ++ [(.forr (.nm 6) (.rng2 (.lit (.int 1)) (.sq .len (.var 2))) [(.asg (.nm 7) (.b2 .min (.idx (.var 2) (.var 6)) (.bin .FloorDiv (.bin .Sub (.var 1) (.var 4)) (.var 5)))), (.ite (.cmp .Lt (.var 7) (.lit (.int (1)))) [(.ret (.var 3))] []), (.asg (.nm 8) (.call 77 [(.bin .Add (.slc (.var 2) .no (.at_ (.var 6))) (.tup [(.var 7)]))])), (.ite (.call 87 [(.var 0), (.var 8), (.var 3)]) [(.asg (.nm 3) (.var 8))] []), (.par2 4 5 (.var 5) (.bin .Add (.bin .Mult (.idx (.var 2) (.var 6)) (.var 5)) (.var 4)))]), .ret (.var 3)]) [some (q2 n), some (.int most), none, none, none, none, none, none, none] []) = _
      rw [exs_append, e4, bf_nx, exs_cons, he]
      rcases hor with hl | hl
      · obtain ⟨rfl, hl⟩ := hl
        rw [bf_nx, exs_cons, ex_ret, ev_var, hl]
        rfl
      · subst hl
        rfl
    · cases hz
end
end K13

namespace K13
open Pv Cd PySem
local macro_rules
  | `(tactic| simp! [$ls,*]) => `(tactic| simp only [exs_nil, exs_cons, ex_expr, ex_ret, ex_asg, ex_asgT, asgTs_nil, asgTs_cons, ex_par2, ex_par3, ex_aug, ex_ite, ex_pass, ex_brk, ex_cnt, ex_retn, ex_whl, ex_never,
    ev_var, ev_lit, ev_bin, ev_neg, ev_not, ev_cmp, ev_cmp2, ev_and, ev_or, ev_ife, ev_tup, ev_lst, evs_nil, evs_cons, ev_idx, ev_slc, evo_no, evo_at, ev_call, ev_b1, ev_b2, ev_sq, ev_mt1, ev_mt0, push_v, push_s, push_ite, mt1D_loc, mt0D_loc, negR_int, intR_int, aug_add, aug_sub, aug_ar,
    tst_and, tst_or, tst_not, tst_cmp, tst_var, tst_lit, tst_call, tst_bin, tst_b1, tst_idx, tst_sq, tst_cmp2, tst_ife, bin_add, bin_sub, bin_mul, bin_div, bin_mod, bin_cat, tru_int, tru_bl, tru_tup, cmp_lt, cmp_le, cmp_gt, cmp_ge, cmp_eq, cmp_ne,
    eqv_int, eqv_bl, eqv_tup, eqvs_nil, eqvs_cons, okn_int, okn_bl, okn_tup, okns_nil, okns_cons, eqvs_ints, okns_ints, pures_nil, pures_cons, pures_ints, bd_some, bt_some, bf_nx, bf_rt, bf_bk, bf_ct, bd_none, bt_none, bf_none, bd_ite, bt_ite, bf_ite, wS_some, wV_some, ans_rt, ans_nx, ans_none, ans_ite, val_rt, val_nx, val_none, val_ite, post_some, post_none, post_ite, turn, turnQ,
    idx_t, idx_l, lst_0, lst_1, at0, at1, b1_abs, b1_int, b1_intb, b1_isInt, b1_isBool, b2_min, b2_max, ar_add, ar_sub, Option.map_some, Option.bind_some, id, decide_eq_true_eq, Bool.and_true, Bool.true_and, if_true, if_false, reduceIte, reduceCtorEq, Nat.reduceSub, List.reduceReplicate, Int.reduceNeg, Int.reduceLE, Int.reduceLT, Nat.reduceAdd, Int.reduceToNat, Int.ofNat_eq_natCast,
    List.map_cons, List.map_nil, List.cons_append, List.nil_append, List.getElem?_cons_zero, List.getElem?_cons_succ, List.set_cons_zero, List.set_cons_succ, List.length_cons, List.length_nil, ne_eq, not_false_eq_true, not_true_eq_false, decide_false, decide_true, $ls,*])

/-! ### for over a list of the store, or over known items -/
theorem for_of {α β δ : Type} {b : D → Pv.Env → Store → Option (Fl × Pv.Env × Store)} {emb : δ → D} {g : α → δ → Option (α ⊕ β)} {di : DI} {xs : List δ} (R : α → Pv.Env → Store → Prop) (Q : β → Fl → Pv.Env → Store → Prop)
    (hn : ∀ a env S (i : Nat), R a env S → di.next S i = some ((xs[i]?).map emb)) (h : ∀ a x env S r, R a env S → g a x = some r → post (b (emb x) env S) (turnQ R Q r)) :
    ∀ (m i : Nat) (a : α) (env : Pv.Env) (S : Store) (r : α ⊕ β), m = xs.length - i → i ≤ xs.length → R a env S → listM g (xs.drop i) a = some r →
    post (forL b di m i env S) (fun fl env S => match r with | .inl a => fl = .nx ∧ R a env S | .inr z => Q z fl env S)
  | 0, i, a, env, S, r, hm, hi, p, e => by
    have : i = xs.length := by omega
    subst this
    rw [List.drop_length] at e
    cases e
    unfold forL
    rw [hn a env S _ p, List.getElem?_eq_none (Nat.le_refl _)]
    exact ⟨rfl, p⟩
  | m + 1, i, a, env, S, r, hm, hi, p, e => by
    have hlt : i < xs.length := by omega
    rw [List.drop_eq_getElem_cons hlt] at e
    unfold listM at e
    unfold forL
    rw [hn a env S _ p, List.getElem?_eq_getElem hlt]
    simp only [Option.map_some]
    cases e1 : g a xs[i] with
    | none => rw [e1] at e; cases e
    | some q =>
      rw [e1] at e
      have ht := h a xs[i] env S q p e1
      cases e2 : b (emb xs[i]) env S with
      | none => rw [e2] at ht; exact ht.elim
      | some w =>
        obtain ⟨fl, env', S'⟩ := w
        rw [e2] at ht
        have ht : turnQ R Q q fl env' S' := ht
        cases q with
        | inl a' =>
          cases fl with
          | nx => exact for_of R Q hn h m (i + 1) a' env' S' r (by omega) (by omega) ht e
          | ct => exact for_of R Q hn h m (i + 1) a' env' S' r (by omega) (by omega) ht e
          | bk => exact ht.elim
          | rt d => exact ht.elim
        | inr z =>
          cases e
          cases fl with
          | nx => exact ht.elim
          | ct => exact ht.elim
          | bk => exact ht
          | rt d => exact ht
theorem ex_forL {cl : Nat → List D → Store → Option (D × Store)} {p : Pat} {it : CI} {b : List CS} {env : Pv.Env} {S S' : Store} {di : DI} (hi : evi cl it env S = some (di, S')) :
    ex cl (.forr p it b) env S = forL (fun x env S => bindF (bindP p x env) fun env' => exs cl b env' S) di (di.len S') 0 env S' := by
  have hF : (fun (x : D) (env : Pv.Env) (S : Store) => bindF (bindP p x env) fun env' => exs cl b env' S) = (fun x env S => (match bindP p x env with | some env' => exs cl b env' S | none => none)) := by
    funext x env S
    cases bindP p x env <;> rfl
  rw [hF]
  simp only [ex, hi] <;> rfl
/-! ### farey: the gaps -/
def gapM (p row : Int × Int) : Option (Int × Int) := (mul row.1 p.2).bind fun u => (mul p.1 row.2).bind fun v => (mul (u - v) (u - v)).bind fun w => (mul row.2 row.2).bind fun a => (mul a p.2).bind fun b => (mul b p.2).bind fun c => numM w c
def gq (g : (Int × Int) × (Int × Int)) : D := .tup [q2 g.1, q2 g.2]
theorem idx_g0 {S : Store} {g : (Int × Int) × (Int × Int)} : idxR S (.v (gq g)) (.v (.int 0)) = some (q2 g.1) := rfl
theorem idx_g1 {S : Store} {g : (Int × Int) × (Int × Int)} : idxR S (.v (gq g)) (.v (.int 1)) = some (q2 g.2) := rfl
def gapG (p : Int × Int) (acc : List ((Int × Int) × (Int × Int))) (row : Int × Int) : Option (List ((Int × Int) × (Int × Int)) ⊕ Empty) := (gapM p row).bind fun g => if acc.length < 1000 then some (.inl (acc ++ [(g, row)])) else none
def leastG (l g : (Int × Int) × (Int × Int)) : Option (((Int × Int) × (Int × Int)) ⊕ Empty) := (lessM g.1 l.1).bind fun b => some (.inl (if b = true then g else l))
def gaps (p : Int × Int) (rows : List (Int × Int)) : Option (List ((Int × Int) × (Int × Int))) := match listM (gapG p) rows [] with
  | some (.inl gs) => some gs
  | _ => none
def least (gs : List ((Int × Int) × (Int × Int))) : Option ((Int × Int) × (Int × Int)) := match gs with
  | [] => none
  | g :: r => (match listM leastG (g :: r) g with | some (.inl l) => some l | _ => none)
theorem seq_lst {S : Store} {n : Nat} : itR S (.v (.loc n)) = (lstO S[n]?).map fun _ => .lst n := by
  show (match S[n]? with | some (.lst _) => some (DI.lst n) | none => none) = _
  cases S[n]? with
  | none => rfl
  | some o => cases o; rfl
section
variable {k : Nat}
/-- the rest of _law_farey behind its second draw -/
theorem gap_rest {p z : Int × Int} {m : Int} {rows : List (Int × Int)} {gs : List ((Int × Int) × (Int × Int))} {l : (Int × Int) × (Int × Int)} (hz : bestM p m = some z) (hg : gaps p rows = some gs) (hl : least gs = some l) (hzl : z = l.2) (v0 : Option D) (W : D) (S : Store) :
    ∃ S', ans (exs (callT Cd.T (k + 7)) (F1005.body.drop 7) [v0, some (.int m), some (.tup (rows.map q2)), none, none, some W, some (q2 p), none, none, none, none, none] S) = some (.bl true, S ++ [S']) := by
  have c86 := fun S => c86 (T := Cd.T) (k := k + 1) (S := S) rfl rfl rfl rfl rfl rfl rfl rfl rfl rfl rfl rfl rfl rfl p m z hz
  have hn0 : (S ++ [O.lst []])[S.length]? = some (.lst []) := by rw [List.getElem?_append_right (Nat.le_refl _)]; simp
  have hn : ∀ o, (S ++ [o])[S.length]? = some o := fun o => by rw [List.getElem?_append_right (Nat.le_refl _)]; simp
  have hset : ∀ o o', (S ++ [o]).set S.length o' = S ++ [o'] := fun o o' => by rw [List.set_append_right _ _ (Nat.le_refl _)]; simp
  unfold gaps at hg
  split at hg
  · rename_i gs' hgs
    cases hg
    have e1 : exs (callT Cd.T (k + 7)) ((F1005.body.drop 7).take 2) [v0, some (.int m), some (.tup (rows.map q2)), none, none, some W, some (q2 p), none, none, none, none, none] S = some (.nx, [v0, some (.int m), some (.tup (rows.map q2)), none, none, some W, some (q2 p), some (q2 z), some (.loc S.length), none, none, none], S ++ [.lst []]) := by
      show exs (callT Cd.T (k + 7)) [.asg (.nm 7) (.call 86 [.var 6, .var 1]), .asg (.nm 8) (.lst [])] _ S = _
      simp! [c86]
    have hi1 : evi (callT Cd.T (k + 7)) (.seq (.var 2)) [v0, some (.int m), some (.tup (rows.map q2)), none, none, some W, some (q2 p), some (q2 z), some (.loc S.length), none, none, none] (S ++ [.lst []]) = some (.tup (rows.map q2), S ++ [.lst []]) := by
      rw [evi_sq1]
      simp! [itR_tup]
    have e2 : ∃ u v, ex (callT Cd.T (k + 7)) (.forr (.nm 3) (.seq (.var 2)) [(.asg (.nm 9) (.call 203 [(.lit (.int (0))), (.bin .Mult (.bin .Sub (.bin .Mult (.idx (.var 3) (.lit (.int (0)))) (.idx (.var 6) (.lit (.int (1))))) (.bin .Mult (.idx (.var 6) (.lit (.int (0)))) (.idx (.var 3) (.lit (.int (1)))))) (.bin .Sub (.bin .Mult (.idx (.var 3) (.lit (.int (0)))) (.idx (.var 6) (.lit (.int (1))))) (.bin .Mult (.idx (.var 6) (.lit (.int (0)))) (.idx (.var 3) (.lit (.int (1))))))), (.bin .Mult (.bin .Mult (.bin .Mult (.idx (.var 3) (.lit (.int (1)))) (.idx (.var 3) (.lit (.int (1))))) (.idx (.var 6) (.lit (.int (1))))) (.idx (.var 6) (.lit (.int (1)))))])), (.expr (.mt1 .append (.var 8) (.tup [(.var 9), (.var 3)])))]) [v0, some (.int m), some (.tup (rows.map q2)), none, none, some W, some (q2 p), some (q2 z), some (.loc S.length), none, none, none] (S ++ [.lst []]) = some (.nx, [v0, some (.int m), some (.tup (rows.map q2)), u, none, some W, some (q2 p), some (q2 z), some (.loc S.length), v, none, none], S ++ [.lst (gs.map gq)]) := by
      rw [ex_for hi1 fixed_tup rfl]
      obtain ⟨fl, env', S', hw, rfl, u, v, rfl, rfl⟩ := post_get (list_of (emb := q2) (g := gapG p) (b := fun x env S => bindF (bindP (.nm 3) x env) fun env' => exs (callT Cd.T (k + 7)) [(.asg (.nm 9) (.call 203 [(.lit (.int (0))), (.bin .Mult (.bin .Sub (.bin .Mult (.idx (.var 3) (.lit (.int (0)))) (.idx (.var 6) (.lit (.int (1))))) (.bin .Mult (.idx (.var 6) (.lit (.int (0)))) (.idx (.var 3) (.lit (.int (1)))))) (.bin .Sub (.bin .Mult (.idx (.var 3) (.lit (.int (0)))) (.idx (.var 6) (.lit (.int (1))))) (.bin .Mult (.idx (.var 6) (.lit (.int (0)))) (.idx (.var 3) (.lit (.int (1))))))), (.bin .Mult (.bin .Mult (.bin .Mult (.idx (.var 3) (.lit (.int (1)))) (.idx (.var 3) (.lit (.int (1))))) (.idx (.var 6) (.lit (.int (1))))) (.idx (.var 6) (.lit (.int (1)))))])), (.expr (.mt1 .append (.var 8) (.tup [(.var 9), (.var 3)])))] env' S)
        (fun acc env S' => ∃ u v, env = [v0, some (.int m), some (.tup (rows.map q2)), u, none, some W, some (q2 p), some (q2 z), some (.loc S.length), v, none, none] ∧ S' = S ++ [.lst (acc.map gq)]) (fun z _ _ _ => z.elim) (by
          rintro acc row _ _ r' ⟨u, v, rfl, rfl⟩ hr
          unfold gapG at hr
          simp only [Option.bind_eq_some_iff] at hr
          obtain ⟨g, hg, hr⟩ := hr
          split at hr
          · rename_i hlen
            cases hr
            unfold gapM at hg
            simp only [Option.bind_eq_some_iff] at hg
            obtain ⟨u1, h1, v1, h2, w1, h3, a1, h4, b1, h5, c1, h6, hg⟩ := hg
            have c203 := fun S => c203 (T := Cd.T) (k := k + 5) (S := S) rfl rfl w1 c1 g hg
            have hl' : (acc.map gq).length < 1000000 := by rw [List.length_map]; omega
            have happ : mt1R (S ++ [.lst (acc.map gq)]) S.length .append (.v (.tup [q2 g, q2 row])) = some (.non, S ++ [.lst (acc.map gq ++ [gq (g, row)])]) := mt1_app (hn _) hl' (hset _ _)
            simp! [bindP_nm, bindF_some, idx_q0, idx_q1, mul_ar h1, mul_ar h2, mul_ar h3, mul_ar h4, mul_ar h5, mul_ar h6, c203, happ, List.map_append]
            exact ⟨_, _, rfl, trivial⟩
          · cases hr) rows [] _ _ _ ⟨none, none, rfl, rfl⟩ hgs)
      exact ⟨u, v, hw⟩
    obtain ⟨u, v, e2⟩ := e2
    unfold least at hl
    cases gs with
    | nil => cases hl
    | cons g0 gr =>
      dsimp only at hl
      split at hl
      · rename_i _ hls
        cases hl
        have h0 : lstO (S ++ [O.lst ((g0 :: gr).map gq)])[S.length]? = some ((g0 :: gr).map gq) := by rw [hn]; rfl
        have e3 : ex (callT Cd.T (k + 7)) (.asg (.nm 10) (.idx (.var 8) (.lit (.int 0)))) [v0, some (.int m), some (.tup (rows.map q2)), u, none, some W, some (q2 p), some (q2 z), some (.loc S.length), v, none, none] (S ++ [.lst ((g0 :: gr).map gq)]) = some (.nx, [v0, some (.int m), some (.tup (rows.map q2)), u, none, some W, some (q2 p), some (q2 z), some (.loc S.length), v, some (gq g0), none], S ++ [.lst ((g0 :: gr).map gq)]) := by
          simp only [List.map_cons] at h0
          simp! [lst_of, h0]
        have hi2 : evi (callT Cd.T (k + 7)) (.seq (.var 8)) [v0, some (.int m), some (.tup (rows.map q2)), u, none, some W, some (q2 p), some (q2 z), some (.loc S.length), v, some (gq g0), none] (S ++ [.lst ((g0 :: gr).map gq)]) = some (.lst S.length, S ++ [.lst ((g0 :: gr).map gq)]) := by
          rw [evi_sq1]
          simp only [List.map_cons] at h0 ⊢
          simp! [seq_lst, h0]
        have e4 : ∃ t, ex (callT Cd.T (k + 7)) (.forr (.nm 11) (.seq (.var 8)) [(.asg (.nm 10) (.ife (.call 214 [(.idx (.var 11) (.lit (.int (0)))), (.idx (.var 10) (.lit (.int (0))))]) (.var 11) (.var 10)))]) [v0, some (.int m), some (.tup (rows.map q2)), u, none, some W, some (q2 p), some (q2 z), some (.loc S.length), v, some (gq g0), none] (S ++ [.lst ((g0 :: gr).map gq)]) = some (.nx, [v0, some (.int m), some (.tup (rows.map q2)), u, none, some W, some (q2 p), some (q2 z), some (.loc S.length), v, some (gq l), t], S ++ [.lst ((g0 :: gr).map gq)]) := by
          rw [ex_forL hi2]
          have hlen : DI.len (S ++ [.lst ((g0 :: gr).map gq)]) (.lst S.length) = (g0 :: gr).length := by
            show ((lstR _ (.v (.loc S.length))).getD []).length = _
            rw [lst_of, h0]; simp
          rw [hlen]
          obtain ⟨fl, env', S', hw, rfl, t, rfl, rfl⟩ := post_get (for_of (emb := gq) (g := leastG) (di := .lst S.length) (xs := g0 :: gr) (b := fun x env S => bindF (bindP (.nm 11) x env) fun env' => exs (callT Cd.T (k + 7)) [(.asg (.nm 10) (.ife (.call 214 [(.idx (.var 11) (.lit (.int (0)))), (.idx (.var 10) (.lit (.int (0))))]) (.var 11) (.var 10)))] env' S)
            (fun l env S' => ∃ t, env = [v0, some (.int m), some (.tup (rows.map q2)), u, none, some W, some (q2 p), some (q2 z), some (.loc S.length), v, some (gq l), t] ∧ S' = S ++ [.lst ((g0 :: gr).map gq)]) (fun z _ _ _ => z.elim)
            (by
              rintro a env S' i ⟨t, rfl, rfl⟩
              show (lstR _ (.v (.loc S.length))).map _ = _
              rw [lst_of, h0]
              simp only [Option.map_some, List.getElem?_map])
            (by
              rintro l0 g _ _ r' ⟨t, rfl, rfl⟩ hr
              unfold leastG at hr
              simp only [Option.bind_eq_some_iff] at hr
              obtain ⟨b, hb, hr⟩ := hr
              cases hr
              have c214 := fun S => c214 (T := Cd.T) (k := k + 6) (S := S) rfl _ _ _ hb
              cases b with
              | true =>
                simp! [bindP_nm, bindF_some, idx_g0, c214]
                exact ⟨_, rfl, trivial⟩
              | false =>
                simp! [bindP_nm, bindF_some, idx_g0, c214, Bool.false_eq_true]
                exact ⟨_, rfl, trivial⟩) (g0 :: gr).length 0 g0 _ _ _ (by simp) (by simp) ⟨none, rfl, rfl⟩ hls)
          exact ⟨t, hw⟩
        obtain ⟨t, e4⟩ := e4
        refine ⟨.lst ((g0 :: gr).map gq), ?_⟩
        show ans (exs (callT Cd.T (k + 7)) ((F1005.body.drop 7).take 2 ++ [.forr (.nm 3) (.seq (.var 2)) [(.asg (.nm 9) (.call 203 [(.lit (.int (0))), (.bin .Mult (.bin .Sub (.bin .Mult (.idx (.var 3) (.lit (.int (0)))) (.idx (.var 6) (.lit (.int (1))))) (.bin .Mult (.idx (.var 6) (.lit (.int (0)))) (.idx (.var 3) (.lit (.int (1)))))) (.bin .Sub (.bin .Mult (.idx (.var 3) (.lit (.int (0)))) (.idx (.var 6) (.lit (.int (1))))) (.bin .Mult (.idx (.var 6) (.lit (.int (0)))) (.idx (.var 3) (.lit (.int (1))))))), (.bin .Mult (.bin .Mult (.bin .Mult (.idx (.var 3) (.lit (.int (1)))) (.idx (.var 3) (.lit (.int (1))))) (.idx (.var 6) (.lit (.int (1))))) (.idx (.var 6) (.lit (.int (1)))))])), (.expr (.mt1 .append (.var 8) (.tup [(.var 9), (.var 3)])))], .asg (.nm 10) (.idx (.var 8) (.lit (.int 0))), .forr (.nm 11) (.seq (.var 8)) [(.asg (.nm 10) (.ife (.call 214 [(.idx (.var 11) (.lit (.int (0)))), (.idx (.var 10) (.lit (.int (0))))]) (.var 11) (.var 10)))], .ret (.cmp .Eq (.var 7) (.idx (.var 10) (.lit (.int 1))))]) _ S) = _
        rw [exs_append, e1, bf_nx, exs_cons, e2, bf_nx, exs_cons, e3, bf_nx, exs_cons, e4, bf_nx]
        simp! [idx_g1, eq_q, hzl]
      · cases hl
  · cases hg
end
end K13

namespace K13
open Pv Cd PySem
local macro_rules
  | `(tactic| simp! [$ls,*]) => `(tactic| simp only [exs_nil, exs_cons, ex_expr, ex_ret, ex_asg, ex_asgT, asgTs_nil, asgTs_cons, ex_par2, ex_par3, ex_aug, ex_ite, ex_pass, ex_brk, ex_cnt, ex_retn, ex_whl, ex_never,
    ev_var, ev_lit, ev_bin, ev_neg, ev_not, ev_cmp, ev_cmp2, ev_and, ev_or, ev_ife, ev_tup, ev_lst, evs_nil, evs_cons, ev_idx, ev_slc, evo_no, evo_at, ev_call, ev_b1, ev_b2, ev_sq, ev_mt1, ev_mt0, push_v, push_s, push_ite, mt1D_loc, mt0D_loc, negR_int, intR_int, aug_add, aug_sub, aug_ar,
    tst_and, tst_or, tst_not, tst_cmp, tst_var, tst_lit, tst_call, tst_bin, tst_b1, tst_idx, tst_sq, tst_cmp2, tst_ife, bin_add, bin_sub, bin_mul, bin_div, bin_mod, bin_cat, tru_int, tru_bl, tru_tup, cmp_lt, cmp_le, cmp_gt, cmp_ge, cmp_eq, cmp_ne,
    eqv_int, eqv_bl, eqv_tup, eqvs_nil, eqvs_cons, okn_int, okn_bl, okn_tup, okns_nil, okns_cons, eqvs_ints, okns_ints, pures_nil, pures_cons, pures_ints, bd_some, bt_some, bf_nx, bf_rt, bf_bk, bf_ct, bd_none, bt_none, bf_none, bd_ite, bt_ite, bf_ite, wS_some, wV_some, ans_rt, ans_nx, ans_none, ans_ite, val_rt, val_nx, val_none, val_ite, post_some, post_none, post_ite, turn, turnQ,
    idx_t, idx_l, lst_0, lst_1, at0, at1, b1_abs, b1_int, b1_intb, b1_isInt, b1_isBool, b2_min, b2_max, ar_add, ar_sub, Option.map_some, Option.bind_some, id, decide_eq_true_eq, Bool.and_true, Bool.true_and, if_true, if_false, reduceIte, reduceCtorEq, Nat.reduceSub, List.reduceReplicate, Int.reduceNeg, Int.reduceLE, Int.reduceLT, Nat.reduceAdd, Int.reduceToNat, Int.ofNat_eq_natCast,
    List.map_cons, List.map_nil, List.cons_append, List.nil_append, List.getElem?_cons_zero, List.getElem?_cons_succ, List.set_cons_zero, List.set_cons_succ, List.length_cons, List.length_nil, ne_eq, not_false_eq_true, not_true_eq_false, decide_false, decide_true, $ls,*])

def O2 (f : Nat) (args : List D) : Option D := match f with
  | 203 => (match args with | [.int z, .int a, .int b] => (if z = 0 then (numM a b).map q2 else none) | _ => none)
  | _ => none
theorem O2_ok : ∀ k f args d S, O2 f args = some d → 2 ≤ k → callT Cd.T k f args S = some (d, S) := fun k f args d S h hk => by
  obtain ⟨k, rfl⟩ : ∃ j, k = j + 2 := ⟨k - 2, by omega⟩
  unfold O2 at h
  split at h
  · split at h
    · rename_i z a b
      split at h
      · rename_i hz
        subst hz
        cases e : numM a b with
        | none => rw [e] at h; cases h
        | some r => rw [e] at h; cases h; exact c203 rfl rfl a b r e
      · cases h
    · cases h
  · cases h
def qf : Nat → List D → Store → Option (D × Store) := fc Cd.T O2 40 37
theorem qf_ok : ∀ f a S, Le (qf f a S) (callT Cd.T 39 f a S) := fun f a S => fc_ok O2_ok 37 f a S
def fareyL : Nat → Int → (Int × Int) → (Int × Int) → List (Int × Int)
  | 0, _, _, _ => []
  | k + 1, m, a, b => if b.1 ≤ m then b :: (if b = (1, 1) then [] else fareyL k m b (((m + a.2).fdiv b.2) * b.1 - a.1, ((m + a.2).fdiv b.2) * b.2 - a.2)) else []
def fareyN (m : Int) : List (Int × Int) := (0, 1) :: fareyL 200 m (0, 1) (1, m)
def fareyA : List CS := (F1005.body.drop 1).take 5
def fareyEnd (v0 : Option D) (m : Int) : Pv.Env := [v0, some (.int m), some (.tup ((fareyN m).map q2)), none, none, some (.tup ((fareyN (m + 1)).map q2)), none, none, none, none, none, none]
theorem fr1 (v0 : Option D) (S : Store) : exsF (lvl qf 40) fareyA [v0, some (.int 1), none, none, none, none, none, none, none, none, none, none] S = some (.nx, fareyEnd v0 1, S) := by kernel_rfl
theorem fr2 (v0 : Option D) (S : Store) : exsF (lvl qf 40) fareyA [v0, some (.int 2), none, none, none, none, none, none, none, none, none, none] S = some (.nx, fareyEnd v0 2, S) := by kernel_rfl
theorem fr3 (v0 : Option D) (S : Store) : exsF (lvl qf 40) fareyA [v0, some (.int 3), none, none, none, none, none, none, none, none, none, none] S = some (.nx, fareyEnd v0 3, S) := by kernel_rfl
theorem fr4 (v0 : Option D) (S : Store) : exsF (lvl qf 40) fareyA [v0, some (.int 4), none, none, none, none, none, none, none, none, none, none] S = some (.nx, fareyEnd v0 4, S) := by kernel_rfl
theorem fr5 (v0 : Option D) (S : Store) : exsF (lvl qf 40) fareyA [v0, some (.int 5), none, none, none, none, none, none, none, none, none, none] S = some (.nx, fareyEnd v0 5, S) := by kernel_rfl
theorem fr6 (v0 : Option D) (S : Store) : exsF (lvl qf 40) fareyA [v0, some (.int 6), none, none, none, none, none, none, none, none, none, none] S = some (.nx, fareyEnd v0 6, S) := by kernel_rfl
theorem fr7 (v0 : Option D) (S : Store) : exsF (lvl qf 40) fareyA [v0, some (.int 7), none, none, none, none, none, none, none, none, none, none] S = some (.nx, fareyEnd v0 7, S) := by kernel_rfl
theorem fr8 (v0 : Option D) (S : Store) : exsF (lvl qf 40) fareyA [v0, some (.int 8), none, none, none, none, none, none, none, none, none, none] S = some (.nx, fareyEnd v0 8, S) := by kernel_rfl
theorem fr9 (v0 : Option D) (S : Store) : exsF (lvl qf 40) fareyA [v0, some (.int 9), none, none, none, none, none, none, none, none, none, none] S = some (.nx, fareyEnd v0 9, S) := by kernel_rfl
theorem fr10 (v0 : Option D) (S : Store) : exsF (lvl qf 40) fareyA [v0, some (.int 10), none, none, none, none, none, none, none, none, none, none] S = some (.nx, fareyEnd v0 10, S) := by kernel_rfl
theorem fr11 (v0 : Option D) (S : Store) : exsF (lvl qf 40) fareyA [v0, some (.int 11), none, none, none, none, none, none, none, none, none, none] S = some (.nx, fareyEnd v0 11, S) := by kernel_rfl
theorem fr12 (v0 : Option D) (S : Store) : exsF (lvl qf 40) fareyA [v0, some (.int 12), none, none, none, none, none, none, none, none, none, none] S = some (.nx, fareyEnd v0 12, S) := by kernel_rfl
def gapB (m x : Int) : Bool := match numM x 200 with
  | some p => (match bestM p m, gaps p (fareyN m) with
    | some z, some gs => (match least gs with | some l => decide (z = l.2) | none => false)
    | _, _ => false)
  | none => false
def gapsB (m : Int) (lo n : Nat) : Bool := (List.range n).all fun i => gapB m ((lo + i : Nat) : Int)
theorem g1_0 : gapsB 1 0 50 = true := by decide +kernel
theorem g1_50 : gapsB 1 50 50 = true := by decide +kernel
theorem g1_100 : gapsB 1 100 50 = true := by decide +kernel
theorem g1_150 : gapsB 1 150 50 = true := by decide +kernel
theorem g2_0 : gapsB 2 0 50 = true := by decide +kernel
theorem g2_50 : gapsB 2 50 50 = true := by decide +kernel
theorem g2_100 : gapsB 2 100 50 = true := by decide +kernel
theorem g2_150 : gapsB 2 150 50 = true := by decide +kernel
theorem g3_0 : gapsB 3 0 50 = true := by decide +kernel
theorem g3_50 : gapsB 3 50 50 = true := by decide +kernel
theorem g3_100 : gapsB 3 100 50 = true := by decide +kernel
theorem g3_150 : gapsB 3 150 50 = true := by decide +kernel
theorem g4_0 : gapsB 4 0 50 = true := by decide +kernel
theorem g4_50 : gapsB 4 50 50 = true := by decide +kernel
theorem g4_100 : gapsB 4 100 50 = true := by decide +kernel
theorem g4_150 : gapsB 4 150 50 = true := by decide +kernel
theorem g5_0 : gapsB 5 0 50 = true := by decide +kernel
theorem g5_50 : gapsB 5 50 50 = true := by decide +kernel
theorem g5_100 : gapsB 5 100 50 = true := by decide +kernel
theorem g5_150 : gapsB 5 150 50 = true := by decide +kernel
theorem g6_0 : gapsB 6 0 50 = true := by decide +kernel
theorem g6_50 : gapsB 6 50 50 = true := by decide +kernel
theorem g6_100 : gapsB 6 100 50 = true := by decide +kernel
theorem g6_150 : gapsB 6 150 50 = true := by decide +kernel
theorem g7_0 : gapsB 7 0 50 = true := by decide +kernel
theorem g7_50 : gapsB 7 50 50 = true := by decide +kernel
theorem g7_100 : gapsB 7 100 50 = true := by decide +kernel
theorem g7_150 : gapsB 7 150 50 = true := by decide +kernel
theorem g8_0 : gapsB 8 0 50 = true := by decide +kernel
theorem g8_50 : gapsB 8 50 50 = true := by decide +kernel
theorem g8_100 : gapsB 8 100 50 = true := by decide +kernel
theorem g8_150 : gapsB 8 150 50 = true := by decide +kernel
theorem g9_0 : gapsB 9 0 50 = true := by decide +kernel
theorem g9_50 : gapsB 9 50 50 = true := by decide +kernel
theorem g9_100 : gapsB 9 100 50 = true := by decide +kernel
theorem g9_150 : gapsB 9 150 50 = true := by decide +kernel
theorem g10_0 : gapsB 10 0 50 = true := by decide +kernel
theorem g10_50 : gapsB 10 50 50 = true := by decide +kernel
theorem g10_100 : gapsB 10 100 50 = true := by decide +kernel
theorem g10_150 : gapsB 10 150 50 = true := by decide +kernel
theorem g11_0 : gapsB 11 0 50 = true := by decide +kernel
theorem g11_50 : gapsB 11 50 50 = true := by decide +kernel
theorem g11_100 : gapsB 11 100 50 = true := by decide +kernel
theorem g11_150 : gapsB 11 150 50 = true := by decide +kernel
theorem g12_0 : gapsB 12 0 50 = true := by decide +kernel
theorem g12_50 : gapsB 12 50 50 = true := by decide +kernel
theorem g12_100 : gapsB 12 100 50 = true := by decide +kernel
theorem g12_150 : gapsB 12 150 50 = true := by decide +kernel
theorem gapsB_ok {m : Int} {lo n : Nat} (h : gapsB m lo n = true) (i : Nat) (h1 : lo ≤ i) (h2 : i < lo + n) : gapB m (i : Int) = true := by
  unfold gapsB at h
  rw [List.all_eq_true] at h
  have := h (i - lo) (List.mem_range.mpr (by omega))
  rw [show lo + (i - lo) = i by omega] at this
  exact this
theorem gapB_all (m x : Int) (h1 : 1 ≤ m) (h2 : m ≤ 12) (h3 : 0 ≤ x) (h4 : x < 200) : gapB m x = true := by
  obtain ⟨i, rfl⟩ : ∃ i : Nat, x = (i : Int) := ⟨x.toNat, by omega⟩
  have hi : i < 200 := by omega
  have hm : m = 1 ∨ m = 2 ∨ m = 3 ∨ m = 4 ∨ m = 5 ∨ m = 6 ∨ m = 7 ∨ m = 8 ∨ m = 9 ∨ m = 10 ∨ m = 11 ∨ m = 12 := by omega
  rcases hm with rfl | rfl | rfl | rfl | rfl | rfl | rfl | rfl | rfl | rfl | rfl | rfl
  · by_cases a : i < 50
    · exact gapsB_ok g1_0 i (by omega) (by omega)
    · by_cases b : i < 100
      · exact gapsB_ok g1_50 i (by omega) (by omega)
      · by_cases c : i < 150
        · exact gapsB_ok g1_100 i (by omega) (by omega)
        · exact gapsB_ok g1_150 i (by omega) (by omega)
  · by_cases a : i < 50
    · exact gapsB_ok g2_0 i (by omega) (by omega)
    · by_cases b : i < 100
      · exact gapsB_ok g2_50 i (by omega) (by omega)
      · by_cases c : i < 150
        · exact gapsB_ok g2_100 i (by omega) (by omega)
        · exact gapsB_ok g2_150 i (by omega) (by omega)
  · by_cases a : i < 50
    · exact gapsB_ok g3_0 i (by omega) (by omega)
    · by_cases b : i < 100
      · exact gapsB_ok g3_50 i (by omega) (by omega)
      · by_cases c : i < 150
        · exact gapsB_ok g3_100 i (by omega) (by omega)
        · exact gapsB_ok g3_150 i (by omega) (by omega)
  · by_cases a : i < 50
    · exact gapsB_ok g4_0 i (by omega) (by omega)
    · by_cases b : i < 100
      · exact gapsB_ok g4_50 i (by omega) (by omega)
      · by_cases c : i < 150
        · exact gapsB_ok g4_100 i (by omega) (by omega)
        · exact gapsB_ok g4_150 i (by omega) (by omega)
  · by_cases a : i < 50
    · exact gapsB_ok g5_0 i (by omega) (by omega)
    · by_cases b : i < 100
      · exact gapsB_ok g5_50 i (by omega) (by omega)
      · by_cases c : i < 150
        · exact gapsB_ok g5_100 i (by omega) (by omega)
        · exact gapsB_ok g5_150 i (by omega) (by omega)
  · by_cases a : i < 50
    · exact gapsB_ok g6_0 i (by omega) (by omega)
    · by_cases b : i < 100
      · exact gapsB_ok g6_50 i (by omega) (by omega)
      · by_cases c : i < 150
        · exact gapsB_ok g6_100 i (by omega) (by omega)
        · exact gapsB_ok g6_150 i (by omega) (by omega)
  · by_cases a : i < 50
    · exact gapsB_ok g7_0 i (by omega) (by omega)
    · by_cases b : i < 100
      · exact gapsB_ok g7_50 i (by omega) (by omega)
      · by_cases c : i < 150
        · exact gapsB_ok g7_100 i (by omega) (by omega)
        · exact gapsB_ok g7_150 i (by omega) (by omega)
  · by_cases a : i < 50
    · exact gapsB_ok g8_0 i (by omega) (by omega)
    · by_cases b : i < 100
      · exact gapsB_ok g8_50 i (by omega) (by omega)
      · by_cases c : i < 150
        · exact gapsB_ok g8_100 i (by omega) (by omega)
        · exact gapsB_ok g8_150 i (by omega) (by omega)
  · by_cases a : i < 50
    · exact gapsB_ok g9_0 i (by omega) (by omega)
    · by_cases b : i < 100
      · exact gapsB_ok g9_50 i (by omega) (by omega)
      · by_cases c : i < 150
        · exact gapsB_ok g9_100 i (by omega) (by omega)
        · exact gapsB_ok g9_150 i (by omega) (by omega)
  · by_cases a : i < 50
    · exact gapsB_ok g10_0 i (by omega) (by omega)
    · by_cases b : i < 100
      · exact gapsB_ok g10_50 i (by omega) (by omega)
      · by_cases c : i < 150
        · exact gapsB_ok g10_100 i (by omega) (by omega)
        · exact gapsB_ok g10_150 i (by omega) (by omega)
  · by_cases a : i < 50
    · exact gapsB_ok g11_0 i (by omega) (by omega)
    · by_cases b : i < 100
      · exact gapsB_ok g11_50 i (by omega) (by omega)
      · by_cases c : i < 150
        · exact gapsB_ok g11_100 i (by omega) (by omega)
        · exact gapsB_ok g11_150 i (by omega) (by omega)
  · by_cases a : i < 50
    · exact gapsB_ok g12_0 i (by omega) (by omega)
    · by_cases b : i < 100
      · exact gapsB_ok g12_50 i (by omega) (by omega)
      · by_cases c : i < 150
        · exact gapsB_ok g12_100 i (by omega) (by omega)
        · exact gapsB_ok g12_150 i (by omega) (by omega)
theorem farey_all (m : Int) (h1 : 1 ≤ m) (h2 : m ≤ 12) (v0 : Option D) (S : Store) : exsF (lvl qf 40) fareyA [v0, some (.int m), none, none, none, none, none, none, none, none, none, none] S = some (.nx, fareyEnd v0 m, S) := by
  have hm : m = 1 ∨ m = 2 ∨ m = 3 ∨ m = 4 ∨ m = 5 ∨ m = 6 ∨ m = 7 ∨ m = 8 ∨ m = 9 ∨ m = 10 ∨ m = 11 ∨ m = 12 := by omega
  rcases hm with rfl | rfl | rfl | rfl | rfl | rfl | rfl | rfl | rfl | rfl | rfl | rfl
  · exact fr1 v0 S
  · exact fr2 v0 S
  · exact fr3 v0 S
  · exact fr4 v0 S
  · exact fr5 v0 S
  · exact fr6 v0 S
  · exact fr7 v0 S
  · exact fr8 v0 S
  · exact fr9 v0 S
  · exact fr10 v0 S
  · exact fr11 v0 S
  · exact fr12 v0 S
theorem c1005 {S : Store} {sl ce : Nat} {cells : List Int} (hs : Stands S sl ce cells) (hc : Closed S) :
    ∃ S', callT Cd.T 40 1005 [.loc sl] S = some (.bl true, S') ∧ Stands S' sl ce cells ∧ Closed S' := by
  obtain ⟨x, S1, d1, hx1, hx2, hs1, hl1, hk1, hc1⟩ := draw_ok (k := 38) (show Cd.T 1000 = some drawF from rfl) hs hc 12 (by decide) (by decide)
  obtain ⟨y, S2, d2, hy1, hy2, hs2, hl2, hk2, hc2⟩ := draw_ok (k := 38) (show Cd.T 1000 = some drawF from rfl) hs1 hc1 200 (by decide) (by decide)
  have hg := gapB_all (1 + x) y (by omega) (by omega) hy1 hy2
  unfold gapB at hg
  cases ep : numM y 200 with
  | none => rw [ep] at hg; cases hg
  | some p =>
    rw [ep] at hg
    dsimp only at hg
    split at hg
    · rename_i z gs ez eg
      split at hg
      · rename_i l el
        have c203 := fun S => c203 (T := Cd.T) (k := 37) (S := S) rfl rfl _ _ _ ep
        obtain ⟨o, hr⟩ := gap_rest (k := 32) ez eg el (of_decide_eq_true hg) (some (.loc sl)) (.tup ((fareyN (1 + x + 1)).map q2)) S2
        have eA := le_exs (le_lvl qf_ok 40).2 _ _ _ _ (farey_all (1 + x) (by omega) (by omega) (some (.loc sl)) S1)
        refine ⟨S2, ?_, hs2, hc2⟩
        rw [call_st (T := Cd.T) (F := F1005) rfl rfl rfl]
        have e0 : ex (callT Cd.T 39) (.asg (.nm 1) (.bin .Add (.lit (.int (1))) (.call 1000 [(.var 0), (.lit (.int (12)))]))) [some (.loc sl), none, none, none, none, none, none, none, none, none, none, none] S = some (.nx, [some (.loc sl), some (.int (1 + x)), none, none, none, none, none, none, none, none, none, none], S1) := by
          simp! [d1]
        have e6 : ex (callT Cd.T 39) (.asg (.nm 6) (.call 203 [(.lit (.int (0))), (.call 1000 [(.var 0), (.lit (.int (200)))]), (.lit (.int (200)))])) (fareyEnd (some (.loc sl)) (1 + x)) S1 = some (.nx, [some (.loc sl), some (.int (1 + x)), some (.tup ((fareyN (1 + x)).map q2)), none, none, some (.tup ((fareyN (1 + x + 1)).map q2)), some (q2 p), none, none, none, none, none], S2) := by
          unfold fareyEnd
          simp! [d2, c203]
        have e : ans (exs (callT Cd.T 39) F1005.body ([D.loc sl].map some ++ List.replicate (F1005.n - F1005.np) none) S) = some (.bl true, S2 ++ [o]) := by
          show ans (exs (callT Cd.T 39) ((.asg (.nm 1) (.bin .Add (.lit (.int (1))) (.call 1000 [(.var 0), (.lit (.int (12)))]))) :: (fareyA ++ ((.asg (.nm 6) (.call 203 [(.lit (.int (0))), (.call 1000 [(.var 0), (.lit (.int (200)))]), (.lit (.int (200)))])) :: F1005.body.drop 7))) [some (.loc sl), none, none, none, none, none, none, none, none, none, none, none] S) = _
          rw [exs_cons, e0, bf_nx, exs_append, eA, bf_nx, exs_cons, e6, bf_nx]
          exact hr
        have hlen : S2.length = S.length := hl2.trans hl1
        have ht : (S2 ++ [o]).take S.length = S2 := by
          rw [List.take_append_of_le_length (by omega)]
          exact List.take_of_length_le (by omega)
        rw [e, tidy_under rfl (by rw [ht, ← hlen]; exact hc2), ht]
      · cases hg
    · cases hg
end K13

namespace K13
open Pv Cd PySem
local macro_rules
  | `(tactic| simp! [$ls,*]) => `(tactic| simp only [exs_nil, exs_cons, ex_expr, ex_ret, ex_asg, ex_asgT, asgTs_nil, asgTs_cons, ex_par2, ex_par3, ex_aug, ex_ite, ex_pass, ex_brk, ex_cnt, ex_retn, ex_whl, ex_never,
    ev_var, ev_lit, ev_bin, ev_neg, ev_not, ev_cmp, ev_cmp2, ev_and, ev_or, ev_ife, ev_tup, ev_lst, evs_nil, evs_cons, ev_idx, ev_slc, evo_no, evo_at, ev_call, ev_b1, ev_b2, ev_sq, ev_mt1, ev_mt0, push_v, push_s, push_ite, mt1D_loc, mt0D_loc, negR_int, intR_int, aug_add, aug_sub, aug_ar,
    tst_and, tst_or, tst_not, tst_cmp, tst_var, tst_lit, tst_call, tst_bin, tst_b1, tst_idx, tst_sq, tst_cmp2, tst_ife, bin_add, bin_sub, bin_mul, bin_div, bin_mod, bin_cat, tru_int, tru_bl, tru_tup, cmp_lt, cmp_le, cmp_gt, cmp_ge, cmp_eq, cmp_ne,
    eqv_int, eqv_bl, eqv_tup, eqvs_nil, eqvs_cons, okn_int, okn_bl, okn_tup, okns_nil, okns_cons, eqvs_ints, okns_ints, pures_nil, pures_cons, pures_ints, bd_some, bt_some, bf_nx, bf_rt, bf_bk, bf_ct, bd_none, bt_none, bf_none, bd_ite, bt_ite, bf_ite, wS_some, wV_some, ans_rt, ans_nx, ans_none, ans_ite, val_rt, val_nx, val_none, val_ite, post_some, post_none, post_ite, turn, turnQ,
    idx_t, idx_l, lst_0, lst_1, at0, at1, b1_abs, b1_int, b1_intb, b1_isInt, b1_isBool, b2_min, b2_max, ar_add, ar_sub, Option.map_some, Option.bind_some, id, decide_eq_true_eq, Bool.and_true, Bool.true_and, if_true, if_false, reduceIte, reduceCtorEq, Nat.reduceSub, List.reduceReplicate, Int.reduceNeg, Int.reduceLE, Int.reduceLT, Nat.reduceAdd, Int.reduceToNat, Int.ofNat_eq_natCast,
    List.map_cons, List.map_nil, List.cons_append, List.nil_append, List.getElem?_cons_zero, List.getElem?_cons_succ, List.set_cons_zero, List.set_cons_succ, List.length_cons, List.length_nil, ne_eq, not_false_eq_true, not_true_eq_false, decide_false, decide_true, $ls,*])

def q3 : Nat → List D → Store → Option (D × Store) := fc Cd.T O1 40 38
theorem q3_ok : ∀ f a S, Le (q3 f a S) (callT Cd.T 40 f a S) := fun f a S => fc_ok O1_ok 38 f a S
def lawA : List CS := F1006.body.drop 3
def lawR (n : Int) (v0 v1 : Option D) (S : Store) : Option (Bool × Store) := match exsF (lvl q3 40) lawA [v0, v1, some (.int n), none] S with
  | some (.rt (.bl b), _, S') => some (b, S')
  | _ => none
theorem lw2 (v0 v1 : Option D) (S : Store) : lawR 2 v0 v1 S = some (true, S) := by kernel_rfl
theorem lw3 (v0 v1 : Option D) (S : Store) : lawR 3 v0 v1 S = some (true, S) := by kernel_rfl
theorem lw4 (v0 v1 : Option D) (S : Store) : lawR 4 v0 v1 S = some (true, S) := by kernel_rfl
theorem lw5 (v0 v1 : Option D) (S : Store) : lawR 5 v0 v1 S = some (true, S) := by kernel_rfl
theorem lw6 (v0 v1 : Option D) (S : Store) : lawR 6 v0 v1 S = some (true, S) := by kernel_rfl
theorem lw7 (v0 v1 : Option D) (S : Store) : lawR 7 v0 v1 S = some (true, S) := by kernel_rfl
theorem lw8 (v0 v1 : Option D) (S : Store) : lawR 8 v0 v1 S = some (true, S) := by kernel_rfl
theorem lw9 (v0 v1 : Option D) (S : Store) : lawR 9 v0 v1 S = some (true, S) := by kernel_rfl
theorem lw10 (v0 v1 : Option D) (S : Store) : lawR 10 v0 v1 S = some (true, S) := by kernel_rfl
theorem lw11 (v0 v1 : Option D) (S : Store) : lawR 11 v0 v1 S = some (true, S) := by kernel_rfl
theorem lw12 (v0 v1 : Option D) (S : Store) : lawR 12 v0 v1 S = some (true, S) := by kernel_rfl
theorem lw13 (v0 v1 : Option D) (S : Store) : lawR 13 v0 v1 S = some (true, S) := by kernel_rfl
theorem lw14 (v0 v1 : Option D) (S : Store) : lawR 14 v0 v1 S = some (true, S) := by kernel_rfl
theorem lw15 (v0 v1 : Option D) (S : Store) : lawR 15 v0 v1 S = some (true, S) := by kernel_rfl
theorem lw16 (v0 v1 : Option D) (S : Store) : lawR 16 v0 v1 S = some (true, S) := by kernel_rfl
theorem lw17 (v0 v1 : Option D) (S : Store) : lawR 17 v0 v1 S = some (true, S) := by kernel_rfl
theorem lw18 (v0 v1 : Option D) (S : Store) : lawR 18 v0 v1 S = some (true, S) := by kernel_rfl
theorem lw19 (v0 v1 : Option D) (S : Store) : lawR 19 v0 v1 S = some (true, S) := by kernel_rfl
theorem lw20 (v0 v1 : Option D) (S : Store) : lawR 20 v0 v1 S = some (true, S) := by kernel_rfl
theorem lw21 (v0 v1 : Option D) (S : Store) : lawR 21 v0 v1 S = some (true, S) := by kernel_rfl
theorem lw22 (v0 v1 : Option D) (S : Store) : lawR 22 v0 v1 S = some (true, S) := by kernel_rfl
theorem lw23 (v0 v1 : Option D) (S : Store) : lawR 23 v0 v1 S = some (true, S) := by kernel_rfl
theorem lw24 (v0 v1 : Option D) (S : Store) : lawR 24 v0 v1 S = some (true, S) := by kernel_rfl
theorem lw25 (v0 v1 : Option D) (S : Store) : lawR 25 v0 v1 S = some (true, S) := by kernel_rfl
theorem lw26 (v0 v1 : Option D) (S : Store) : lawR 26 v0 v1 S = some (true, S) := by kernel_rfl
theorem lw27 (v0 v1 : Option D) (S : Store) : lawR 27 v0 v1 S = some (true, S) := by kernel_rfl
theorem lw28 (v0 v1 : Option D) (S : Store) : lawR 28 v0 v1 S = some (true, S) := by kernel_rfl
theorem lw29 (v0 v1 : Option D) (S : Store) : lawR 29 v0 v1 S = some (true, S) := by kernel_rfl
theorem lw30 (v0 v1 : Option D) (S : Store) : lawR 30 v0 v1 S = some (true, S) := by kernel_rfl
theorem lw31 (v0 v1 : Option D) (S : Store) : lawR 31 v0 v1 S = some (true, S) := by kernel_rfl
theorem lw32 (v0 v1 : Option D) (S : Store) : lawR 32 v0 v1 S = some (true, S) := by kernel_rfl
theorem lw33 (v0 v1 : Option D) (S : Store) : lawR 33 v0 v1 S = some (true, S) := by kernel_rfl
theorem lw34 (v0 v1 : Option D) (S : Store) : lawR 34 v0 v1 S = some (true, S) := by kernel_rfl
theorem lw35 (v0 v1 : Option D) (S : Store) : lawR 35 v0 v1 S = some (true, S) := by kernel_rfl
theorem lw36 (v0 v1 : Option D) (S : Store) : lawR 36 v0 v1 S = some (true, S) := by kernel_rfl
theorem lw37 (v0 v1 : Option D) (S : Store) : lawR 37 v0 v1 S = some (true, S) := by kernel_rfl
theorem lw38 (v0 v1 : Option D) (S : Store) : lawR 38 v0 v1 S = some (true, S) := by kernel_rfl
theorem lw39 (v0 v1 : Option D) (S : Store) : lawR 39 v0 v1 S = some (true, S) := by kernel_rfl
theorem lw40 (v0 v1 : Option D) (S : Store) : lawR 40 v0 v1 S = some (true, S) := by kernel_rfl
theorem lw41 (v0 v1 : Option D) (S : Store) : lawR 41 v0 v1 S = some (true, S) := by kernel_rfl
theorem lw42 (v0 v1 : Option D) (S : Store) : lawR 42 v0 v1 S = some (true, S) := by kernel_rfl
theorem lw43 (v0 v1 : Option D) (S : Store) : lawR 43 v0 v1 S = some (true, S) := by kernel_rfl
theorem lw44 (v0 v1 : Option D) (S : Store) : lawR 44 v0 v1 S = some (true, S) := by kernel_rfl
theorem lw45 (v0 v1 : Option D) (S : Store) : lawR 45 v0 v1 S = some (true, S) := by kernel_rfl
theorem lw46 (v0 v1 : Option D) (S : Store) : lawR 46 v0 v1 S = some (true, S) := by kernel_rfl
theorem lw47 (v0 v1 : Option D) (S : Store) : lawR 47 v0 v1 S = some (true, S) := by kernel_rfl
theorem lw48 (v0 v1 : Option D) (S : Store) : lawR 48 v0 v1 S = some (true, S) := by kernel_rfl
theorem lw49 (v0 v1 : Option D) (S : Store) : lawR 49 v0 v1 S = some (true, S) := by kernel_rfl
theorem lw50 (v0 v1 : Option D) (S : Store) : lawR 50 v0 v1 S = some (true, S) := by kernel_rfl
theorem lw51 (v0 v1 : Option D) (S : Store) : lawR 51 v0 v1 S = some (true, S) := by kernel_rfl
theorem lw52 (v0 v1 : Option D) (S : Store) : lawR 52 v0 v1 S = some (true, S) := by kernel_rfl
theorem lw53 (v0 v1 : Option D) (S : Store) : lawR 53 v0 v1 S = some (true, S) := by kernel_rfl
theorem lw54 (v0 v1 : Option D) (S : Store) : lawR 54 v0 v1 S = some (true, S) := by kernel_rfl
theorem lw55 (v0 v1 : Option D) (S : Store) : lawR 55 v0 v1 S = some (true, S) := by kernel_rfl
theorem lw56 (v0 v1 : Option D) (S : Store) : lawR 56 v0 v1 S = some (true, S) := by kernel_rfl
theorem lw57 (v0 v1 : Option D) (S : Store) : lawR 57 v0 v1 S = some (true, S) := by kernel_rfl
theorem lw58 (v0 v1 : Option D) (S : Store) : lawR 58 v0 v1 S = some (true, S) := by kernel_rfl
theorem lw59 (v0 v1 : Option D) (S : Store) : lawR 59 v0 v1 S = some (true, S) := by kernel_rfl
theorem lw60 (v0 v1 : Option D) (S : Store) : lawR 60 v0 v1 S = some (true, S) := by kernel_rfl
theorem lw61 (v0 v1 : Option D) (S : Store) : lawR 61 v0 v1 S = some (true, S) := by kernel_rfl
theorem lw62 (v0 v1 : Option D) (S : Store) : lawR 62 v0 v1 S = some (true, S) := by kernel_rfl
theorem lw63 (v0 v1 : Option D) (S : Store) : lawR 63 v0 v1 S = some (true, S) := by kernel_rfl
theorem lw64 (v0 v1 : Option D) (S : Store) : lawR 64 v0 v1 S = some (true, S) := by kernel_rfl
theorem lw65 (v0 v1 : Option D) (S : Store) : lawR 65 v0 v1 S = some (true, S) := by kernel_rfl
theorem lw66 (v0 v1 : Option D) (S : Store) : lawR 66 v0 v1 S = some (true, S) := by kernel_rfl
theorem lw67 (v0 v1 : Option D) (S : Store) : lawR 67 v0 v1 S = some (true, S) := by kernel_rfl
theorem lw68 (v0 v1 : Option D) (S : Store) : lawR 68 v0 v1 S = some (true, S) := by kernel_rfl
theorem lw69 (v0 v1 : Option D) (S : Store) : lawR 69 v0 v1 S = some (true, S) := by kernel_rfl
theorem lw70 (v0 v1 : Option D) (S : Store) : lawR 70 v0 v1 S = some (true, S) := by kernel_rfl
theorem lw71 (v0 v1 : Option D) (S : Store) : lawR 71 v0 v1 S = some (true, S) := by kernel_rfl
theorem lw72 (v0 v1 : Option D) (S : Store) : lawR 72 v0 v1 S = some (true, S) := by kernel_rfl
theorem lw73 (v0 v1 : Option D) (S : Store) : lawR 73 v0 v1 S = some (true, S) := by kernel_rfl
theorem lw74 (v0 v1 : Option D) (S : Store) : lawR 74 v0 v1 S = some (true, S) := by kernel_rfl
theorem lw75 (v0 v1 : Option D) (S : Store) : lawR 75 v0 v1 S = some (true, S) := by kernel_rfl
theorem lw76 (v0 v1 : Option D) (S : Store) : lawR 76 v0 v1 S = some (true, S) := by kernel_rfl
theorem lw77 (v0 v1 : Option D) (S : Store) : lawR 77 v0 v1 S = some (true, S) := by kernel_rfl
theorem lw78 (v0 v1 : Option D) (S : Store) : lawR 78 v0 v1 S = some (true, S) := by kernel_rfl
theorem lw79 (v0 v1 : Option D) (S : Store) : lawR 79 v0 v1 S = some (true, S) := by kernel_rfl
theorem lw80 (v0 v1 : Option D) (S : Store) : lawR 80 v0 v1 S = some (true, S) := by kernel_rfl
theorem lw81 (v0 v1 : Option D) (S : Store) : lawR 81 v0 v1 S = some (true, S) := by kernel_rfl
theorem lw82 (v0 v1 : Option D) (S : Store) : lawR 82 v0 v1 S = some (true, S) := by kernel_rfl
theorem lw83 (v0 v1 : Option D) (S : Store) : lawR 83 v0 v1 S = some (true, S) := by kernel_rfl
theorem lw84 (v0 v1 : Option D) (S : Store) : lawR 84 v0 v1 S = some (true, S) := by kernel_rfl
theorem lw85 (v0 v1 : Option D) (S : Store) : lawR 85 v0 v1 S = some (true, S) := by kernel_rfl
theorem lw86 (v0 v1 : Option D) (S : Store) : lawR 86 v0 v1 S = some (true, S) := by kernel_rfl
theorem lw87 (v0 v1 : Option D) (S : Store) : lawR 87 v0 v1 S = some (true, S) := by kernel_rfl
theorem lw88 (v0 v1 : Option D) (S : Store) : lawR 88 v0 v1 S = some (true, S) := by kernel_rfl
theorem lw89 (v0 v1 : Option D) (S : Store) : lawR 89 v0 v1 S = some (true, S) := by kernel_rfl
theorem lw90 (v0 v1 : Option D) (S : Store) : lawR 90 v0 v1 S = some (true, S) := by kernel_rfl
theorem lw91 (v0 v1 : Option D) (S : Store) : lawR 91 v0 v1 S = some (true, S) := by kernel_rfl
theorem lw92 (v0 v1 : Option D) (S : Store) : lawR 92 v0 v1 S = some (true, S) := by kernel_rfl
theorem lw93 (v0 v1 : Option D) (S : Store) : lawR 93 v0 v1 S = some (true, S) := by kernel_rfl
theorem lw94 (v0 v1 : Option D) (S : Store) : lawR 94 v0 v1 S = some (true, S) := by kernel_rfl
theorem lw95 (v0 v1 : Option D) (S : Store) : lawR 95 v0 v1 S = some (true, S) := by kernel_rfl
theorem lw96 (v0 v1 : Option D) (S : Store) : lawR 96 v0 v1 S = some (true, S) := by kernel_rfl
theorem lw97 (v0 v1 : Option D) (S : Store) : lawR 97 v0 v1 S = some (true, S) := by kernel_rfl
theorem lw98 (v0 v1 : Option D) (S : Store) : lawR 98 v0 v1 S = some (true, S) := by kernel_rfl
theorem lw99 (v0 v1 : Option D) (S : Store) : lawR 99 v0 v1 S = some (true, S) := by kernel_rfl
theorem lw100 (v0 v1 : Option D) (S : Store) : lawR 100 v0 v1 S = some (true, S) := by kernel_rfl
theorem lw101 (v0 v1 : Option D) (S : Store) : lawR 101 v0 v1 S = some (true, S) := by kernel_rfl
theorem law_rest (x : Int) (h0 : 0 ≤ x) (h1 : x < 100) (v0 v1 : Option D) (S : Store) : lawR (2 + x) v0 v1 S = some (true, S) := by
  obtain ⟨i, rfl⟩ : ∃ i : Nat, x = (i : Int) := ⟨x.toNat, by omega⟩
  have hi : i < 100 := by omega
  by_cases c0 : i = 0
  · subst c0; exact lw2 v0 v1 S
  by_cases c1 : i = 1
  · subst c1; exact lw3 v0 v1 S
  by_cases c2 : i = 2
  · subst c2; exact lw4 v0 v1 S
  by_cases c3 : i = 3
  · subst c3; exact lw5 v0 v1 S
  by_cases c4 : i = 4
  · subst c4; exact lw6 v0 v1 S
  by_cases c5 : i = 5
  · subst c5; exact lw7 v0 v1 S
  by_cases c6 : i = 6
  · subst c6; exact lw8 v0 v1 S
  by_cases c7 : i = 7
  · subst c7; exact lw9 v0 v1 S
  by_cases c8 : i = 8
  · subst c8; exact lw10 v0 v1 S
  by_cases c9 : i = 9
  · subst c9; exact lw11 v0 v1 S
  by_cases c10 : i = 10
  · subst c10; exact lw12 v0 v1 S
  by_cases c11 : i = 11
  · subst c11; exact lw13 v0 v1 S
  by_cases c12 : i = 12
  · subst c12; exact lw14 v0 v1 S
  by_cases c13 : i = 13
  · subst c13; exact lw15 v0 v1 S
  by_cases c14 : i = 14
  · subst c14; exact lw16 v0 v1 S
  by_cases c15 : i = 15
  · subst c15; exact lw17 v0 v1 S
  by_cases c16 : i = 16
  · subst c16; exact lw18 v0 v1 S
  by_cases c17 : i = 17
  · subst c17; exact lw19 v0 v1 S
  by_cases c18 : i = 18
  · subst c18; exact lw20 v0 v1 S
  by_cases c19 : i = 19
  · subst c19; exact lw21 v0 v1 S
  by_cases c20 : i = 20
  · subst c20; exact lw22 v0 v1 S
  by_cases c21 : i = 21
  · subst c21; exact lw23 v0 v1 S
  by_cases c22 : i = 22
  · subst c22; exact lw24 v0 v1 S
  by_cases c23 : i = 23
  · subst c23; exact lw25 v0 v1 S
  by_cases c24 : i = 24
  · subst c24; exact lw26 v0 v1 S
  by_cases c25 : i = 25
  · subst c25; exact lw27 v0 v1 S
  by_cases c26 : i = 26
  · subst c26; exact lw28 v0 v1 S
  by_cases c27 : i = 27
  · subst c27; exact lw29 v0 v1 S
  by_cases c28 : i = 28
  · subst c28; exact lw30 v0 v1 S
  by_cases c29 : i = 29
  · subst c29; exact lw31 v0 v1 S
  by_cases c30 : i = 30
  · subst c30; exact lw32 v0 v1 S
  by_cases c31 : i = 31
  · subst c31; exact lw33 v0 v1 S
  by_cases c32 : i = 32
  · subst c32; exact lw34 v0 v1 S
  by_cases c33 : i = 33
  · subst c33; exact lw35 v0 v1 S
  by_cases c34 : i = 34
  · subst c34; exact lw36 v0 v1 S
  by_cases c35 : i = 35
  · subst c35; exact lw37 v0 v1 S
  by_cases c36 : i = 36
  · subst c36; exact lw38 v0 v1 S
  by_cases c37 : i = 37
  · subst c37; exact lw39 v0 v1 S
  by_cases c38 : i = 38
  · subst c38; exact lw40 v0 v1 S
  by_cases c39 : i = 39
  · subst c39; exact lw41 v0 v1 S
  by_cases c40 : i = 40
  · subst c40; exact lw42 v0 v1 S
  by_cases c41 : i = 41
  · subst c41; exact lw43 v0 v1 S
  by_cases c42 : i = 42
  · subst c42; exact lw44 v0 v1 S
  by_cases c43 : i = 43
  · subst c43; exact lw45 v0 v1 S
  by_cases c44 : i = 44
  · subst c44; exact lw46 v0 v1 S
  by_cases c45 : i = 45
  · subst c45; exact lw47 v0 v1 S
  by_cases c46 : i = 46
  · subst c46; exact lw48 v0 v1 S
  by_cases c47 : i = 47
  · subst c47; exact lw49 v0 v1 S
  by_cases c48 : i = 48
  · subst c48; exact lw50 v0 v1 S
  by_cases c49 : i = 49
  · subst c49; exact lw51 v0 v1 S
  by_cases c50 : i = 50
  · subst c50; exact lw52 v0 v1 S
  by_cases c51 : i = 51
  · subst c51; exact lw53 v0 v1 S
  by_cases c52 : i = 52
  · subst c52; exact lw54 v0 v1 S
  by_cases c53 : i = 53
  · subst c53; exact lw55 v0 v1 S
  by_cases c54 : i = 54
  · subst c54; exact lw56 v0 v1 S
  by_cases c55 : i = 55
  · subst c55; exact lw57 v0 v1 S
  by_cases c56 : i = 56
  · subst c56; exact lw58 v0 v1 S
  by_cases c57 : i = 57
  · subst c57; exact lw59 v0 v1 S
  by_cases c58 : i = 58
  · subst c58; exact lw60 v0 v1 S
  by_cases c59 : i = 59
  · subst c59; exact lw61 v0 v1 S
  by_cases c60 : i = 60
  · subst c60; exact lw62 v0 v1 S
  by_cases c61 : i = 61
  · subst c61; exact lw63 v0 v1 S
  by_cases c62 : i = 62
  · subst c62; exact lw64 v0 v1 S
  by_cases c63 : i = 63
  · subst c63; exact lw65 v0 v1 S
  by_cases c64 : i = 64
  · subst c64; exact lw66 v0 v1 S
  by_cases c65 : i = 65
  · subst c65; exact lw67 v0 v1 S
  by_cases c66 : i = 66
  · subst c66; exact lw68 v0 v1 S
  by_cases c67 : i = 67
  · subst c67; exact lw69 v0 v1 S
  by_cases c68 : i = 68
  · subst c68; exact lw70 v0 v1 S
  by_cases c69 : i = 69
  · subst c69; exact lw71 v0 v1 S
  by_cases c70 : i = 70
  · subst c70; exact lw72 v0 v1 S
  by_cases c71 : i = 71
  · subst c71; exact lw73 v0 v1 S
  by_cases c72 : i = 72
  · subst c72; exact lw74 v0 v1 S
  by_cases c73 : i = 73
  · subst c73; exact lw75 v0 v1 S
  by_cases c74 : i = 74
  · subst c74; exact lw76 v0 v1 S
  by_cases c75 : i = 75
  · subst c75; exact lw77 v0 v1 S
  by_cases c76 : i = 76
  · subst c76; exact lw78 v0 v1 S
  by_cases c77 : i = 77
  · subst c77; exact lw79 v0 v1 S
  by_cases c78 : i = 78
  · subst c78; exact lw80 v0 v1 S
  by_cases c79 : i = 79
  · subst c79; exact lw81 v0 v1 S
  by_cases c80 : i = 80
  · subst c80; exact lw82 v0 v1 S
  by_cases c81 : i = 81
  · subst c81; exact lw83 v0 v1 S
  by_cases c82 : i = 82
  · subst c82; exact lw84 v0 v1 S
  by_cases c83 : i = 83
  · subst c83; exact lw85 v0 v1 S
  by_cases c84 : i = 84
  · subst c84; exact lw86 v0 v1 S
  by_cases c85 : i = 85
  · subst c85; exact lw87 v0 v1 S
  by_cases c86 : i = 86
  · subst c86; exact lw88 v0 v1 S
  by_cases c87 : i = 87
  · subst c87; exact lw89 v0 v1 S
  by_cases c88 : i = 88
  · subst c88; exact lw90 v0 v1 S
  by_cases c89 : i = 89
  · subst c89; exact lw91 v0 v1 S
  by_cases c90 : i = 90
  · subst c90; exact lw92 v0 v1 S
  by_cases c91 : i = 91
  · subst c91; exact lw93 v0 v1 S
  by_cases c92 : i = 92
  · subst c92; exact lw94 v0 v1 S
  by_cases c93 : i = 93
  · subst c93; exact lw95 v0 v1 S
  by_cases c94 : i = 94
  · subst c94; exact lw96 v0 v1 S
  by_cases c95 : i = 95
  · subst c95; exact lw97 v0 v1 S
  by_cases c96 : i = 96
  · subst c96; exact lw98 v0 v1 S
  by_cases c97 : i = 97
  · subst c97; exact lw99 v0 v1 S
  by_cases c98 : i = 98
  · subst c98; exact lw100 v0 v1 S
  by_cases c99 : i = 99
  · subst c99; exact lw101 v0 v1 S
  omega
theorem law_ans (ns : List Int) : ∃ S, callT Cd.T (40 + 1) 1006 [.rol (ns.map D.int)] [] = some (.bl true, S) := by
  have hs : Stands [.lst (ns.map D.int), .lst [.int 0, .int 0, .loc 0, .int 1]] 1 0 ns := ⟨by decide, ⟨0, 0, 1, by decide, rfl⟩, rfl⟩
  have hc : Closed [.lst (ns.map D.int), .lst [.int 0, .int 0, .loc 0, .int 1]] := by
    have hu : ∀ l : List Int, unders 2 (l.map D.int) = true := fun l => by
      induction l with
      | nil => rfl
      | cons i l ih => show (true && unders 2 (l.map D.int)) = true; rw [ih]; rfl
    show (unders 2 (ns.map D.int) && _) = true
    rw [hu]; rfl
  obtain ⟨S1, e1, hs1, hc1⟩ := c1002 (T := Cd.T) (k := 33) rfl rfl rfl rfl rfl rfl rfl rfl rfl rfl rfl rfl rfl rfl rfl hs hc
  obtain ⟨S2, e2, hs2, hc2⟩ := c1003 hs1 hc1
  obtain ⟨S3, e3, hs3, hc3⟩ := c1005 hs2 hc2
  obtain ⟨x, S4, d4, hx1, hx2, hs4, hl4, hk4, hc4⟩ := draw_ok (k := 39) (show Cd.T 1000 = some drawF from rfl) hs3 hc3 100 (by decide) (by decide)
  have hr := law_rest x hx1 hx2 (some (.rol (ns.map D.int))) (some (.loc 1)) S4
  unfold lawR at hr
  refine ⟨[], call_pure (F := F1006) rfl rfl ?_ ?_ rfl⟩
  · show (pures (ns.map D.int) && true) = true
    rw [pures_ints]; rfl
  · have e0 : exs (callT Cd.T 40) (F1006.body.take 3) [some (.rol (ns.map D.int)), none, none, none] [] = some (.nx, [some (.rol (ns.map D.int)), some (.loc 1), some (.int (2 + x)), none], S4) := by
      have hl : ∀ S, ((argQ S .list (R.v (.rol (ns.map D.int)))).bind fun ds => sqR .list ds) = some (.s (ns.map D.int)) := fun S => rfl
      unfold F1006
      simp only [List.take_succ_cons, List.take_zero]
      simp! [hl, e1, e2, e3, d4, Bool.not_true, Bool.false_eq_true]
    cases er : exsF (lvl q3 40) lawA [some (.rol (ns.map D.int)), some (.loc 1), some (.int (2 + x)), none] S4 with
    | none => rw [er] at hr; cases hr
    | some z =>
      obtain ⟨fl, env', S5⟩ := z
      have e5 := le_exs (le_lvl q3_ok 40).2 _ _ _ _ er
      rw [er] at hr
      show val (exs (callT Cd.T 40) (F1006.body.take 3 ++ lawA) [some (.rol (ns.map D.int)), none, none, none] []) = _
      rw [exs_append, e0, bf_nx, e5]
      split at hr
      · rename_i heq
        cases heq
        cases hr
        rfl
      · cases hr
end K13

namespace Hd
open PySem PySem.Spec PyProof.Rows L2
def top (i : Nat) : Stmt := PySem.Challenge.pw_idealkept_k13_continued_fractions_and_sq.main.body.getD i (.Pass ⟨0, 0, 0, 0⟩)
def mkD (x : Str) (i : Nat) : He.DefD := ⟨(x, none), x, x, defArgs (top i), defBody (top i), defScope (top i), [], []⟩
def d196 : Pv.Df := ⟨mkD "is_plain" 4, ["value"], ["value"], 196⟩
def d197 : Pv.Df := ⟨mkD "common_divisor" 5, ["one", "two", "here", "there"], ["one", "two"], 197⟩
def d198 : Pv.Df := ⟨mkD "is_prime" 6, ["value", "factor"], ["value"], 198⟩
def d201 : Pv.Df := ⟨mkD "integer_power" 7, ["base", "exponent", "found", "here", "rest"], ["base", "exponent"], 201⟩
def d202 : Pv.Df := ⟨mkD "inverse_modulo" 8, ["value", "prime", "here", "there", "one", "two", "times"], ["value", "prime"], 202⟩
def d203 : Pv.Df := ⟨mkD "number_of" 9, ["field", "over", "under", "divisor"], ["field", "over", "under"], 203⟩
def d204 : Pv.Df := ⟨mkD "whole" 10, ["field", "value"], ["field", "value"], 204⟩
def d205 : Pv.Df := ⟨mkD "plus" 11, ["field", "one", "two"], ["field", "one", "two"], 205⟩
def d206 : Pv.Df := ⟨mkD "negative" 12, ["field", "one"], ["field", "one"], 206⟩
def d207 : Pv.Df := ⟨mkD "minus" 13, ["field", "one", "two"], ["field", "one", "two"], 207⟩
def d209 : Pv.Df := ⟨mkD "inverse" 14, ["field", "one"], ["field", "one"], 209⟩
def d214 : Pv.Df := ⟨mkD "is_less" 15, ["one", "two"], ["one", "two"], 214⟩
def d217 : Pv.Df := ⟨mkD "floor_of" 16, ["one"], ["one"], 217⟩
def d76 : Pv.Df := ⟨mkD "parts_of" 18, ["number", "found", "here", "low", "rest"], ["number"], 76⟩
def d77 : Pv.Df := ⟨mkD "number_from_parts" 19, ["parts", "found", "part"], ["parts"], 77⟩
def d78 : Pv.Df := ⟨mkD "nearing" 20, ["parts", "first", "second", "found", "part"], ["parts"], 78⟩
def d79 : Pv.Df := ⟨mkD "root_floor_of" 21, ["number", "found", "made"], ["number"], 79⟩
def d80 : Pv.Df := ⟨mkD "bin_digits" 22, ["number", "found", "rest"], ["number"], 80⟩
def d81 : Pv.Df := ⟨mkD "is_square" 23, ["number"], ["number"], 81⟩
def d82 : Pv.Df := ⟨mkD "root_parts" 24, ["number", "low", "found", "shift", "under", "part"], ["number"], 82⟩
def d83 : Pv.Df := ⟨mkD "least_pell" 25, ["number", "low", "parts", "many", "row", "place"], ["number"], 83⟩
def d84 : Pv.Df := ⟨mkD "least_minus_pell" 26, ["number", "low", "parts"], ["number"], 84⟩
def d85 : Pv.Df := ⟨mkD "pell_at" 27, ["number", "place", "one", "found", "rest", "here"], ["number", "place"], 85⟩
def d86 : Pv.Df := ⟨mkD "best_below" 28, ["number", "most", "parts", "best", "before", "here", "place", "last", "made"], ["number", "most"], 86⟩
def d87 : Pv.Df := ⟨mkD "is_nearer" 29, ["number", "one", "two", "first", "second"], ["number", "one", "two"], 87⟩
def d88 : Pv.Df := ⟨mkD "size_of" 30, ["number"], ["number"], 88⟩
def d89 : Pv.Df := ⟨mkD "farey" 31, ["most", "found", "one", "two", "times"], ["most"], 89⟩
def d90 : Pv.Df := ⟨mkD "two_squares" 32, ["prime", "root", "here", "there", "other"], ["prime"], 90⟩
def d91 : Pv.Df := ⟨mkD "square_root_of_minus_one" 33, ["prime", "base", "made", "here", "rest"], ["prime"], 91⟩
def d1000 : Pv.Df := ⟨mkD "_law_draw" 35, ["state", "limit", "position", "cell", "mixed", "digit"], ["state", "limit"], 1000⟩
def d1001 : Pv.Df := ⟨mkD "_law_same" 36, ["told", "due"], ["told", "due"], 1001⟩
def d1002 : Pv.Df := ⟨mkD "_law_nearing" 37, ["state", "number", "parts", "part", "rows", "k"], ["state"], 1002⟩
def d1003 : Pv.Df := ⟨mkD "_law_rooted" 38, ["state", "number", "floor", "first", "again", "square", "x", "y", "minus_v", "here", "place", "small", "k"], ["state"], 1003⟩
def d1004 : Pv.Df := ⟨mkD "_law_is_square" 39, ["number", "root"], ["number"], 1004⟩
def d1005 : Pv.Df := ⟨mkD "_law_farey" 40, ["state", "most", "rows", "row", "k", "wide", "number", "best", "gaps", "lack", "least", "gap"], ["state"], 1005⟩
def d1006 : Pv.Df := ⟨mkD "law" 41, ["script", "state", "prime", "told"], ["script"], 1006⟩
def dfs0 : List Pv.Df := [d196, d197, d198, d201, d202, d203, d204, d205, d206, d207, d209, d214]
def dfs1 : List Pv.Df := [d217, d76, d77, d78, d79, d80, d81, d82, d83, d84, d85, d86]
def dfs2 : List Pv.Df := [d87, d88, d89, d90, d91, d1000, d1001, d1002, d1003, d1004, d1005, d1006]
def dfs : List Pv.Df := dfs0 ++ dfs1 ++ dfs2
def gl : List (Str × Int) := []
def bi : List Str := ["abs", "any", "bool", "int", "isinstance", "len", "list", "max", "min", "range", "reversed", "tuple"]
def C : Pv.Cfg := ⟨dfs, gl, bi, Cd.T⟩
def loose0 : List Str := ["IdealkeptError", "NoInverse", "is_plain", "common_divisor", "is_prime", "integer_power", "inverse_modulo", "number_of", "whole", "plus", "negative", "minus"]
def loose1 : List Str := ["inverse", "is_less", "floor_of", "parts_of", "number_from_parts", "nearing", "root_floor_of", "bin_digits", "is_square", "root_parts", "least_pell", "least_minus_pell"]
def loose2 : List Str := ["pell_at", "best_below", "is_nearer", "size_of", "farey", "two_squares", "square_root_of_minus_one", "_law_draw", "_law_same", "_law_nearing", "_law_rooted", "_law_is_square"]
def loose3 : List Str := ["_law_farey"]
def loose : List Str := loose0 ++ loose1 ++ loose2 ++ loose3
abbrev R : PySem.W.OpenRow := PySem.W.OpenLaw.row PySem.Challenge.rw_idealkept_k13_continued_fractions_and_sq
abbrev hk : PySem.W.Hook := He.hookD 4 C.fa C.fn
def ob (s : PySem.W.SharedT) : He.AlD := He.obsDG 4 C.fa C.fn (HandSHeadRun.getT s)
theorem ob_eq (s : PySem.W.SharedT) : ob s = hk.obs s.abs := He.obsDG_eq (HandSHeadRun.getT_eq s)
theorem run (w : World) : HandSHeadRun.RunEq R (PySem.W.view R.prog [41]) hk ob 4000 loose w := by
  intro os
  kernel_rfl
theorem sc196 : FnScope d196.N d196.ps d196.d.scope := ⟨rfl, rfl, rfl, by decide +kernel, rfl, by decide +kernel, by decide +kernel⟩
theorem bn196 : Pv.PlainArgs d196 := fun _ _ _ _ _ _ us hl => match us, hl with | [_], _ => rfl
theorem cd196 : Pv.mapO (Pv.cS 40 (C.pk.sc d196)) d196.d.body = some Cd.F196.body := by kernel_rfl
theorem ok196 : Pv.DfOk C.pk C.T d196 ∧ d196.d.at_ = (d196.d.name, none) := ⟨⟨sc196, ⟨Cd.F196, 40, rfl, rfl, rfl, cd196⟩, bn196, rfl⟩, rfl⟩
theorem sc197 : FnScope d197.N d197.ps d197.d.scope := ⟨rfl, rfl, rfl, by decide +kernel, rfl, by decide +kernel, by decide +kernel⟩
theorem bn197 : Pv.PlainArgs d197 := fun _ _ _ _ _ _ us hl => match us, hl with | [_, _], _ => rfl
theorem cd197 : Pv.mapO (Pv.cS 40 (C.pk.sc d197)) d197.d.body = some Cd.F197.body := by kernel_rfl
theorem ok197 : Pv.DfOk C.pk C.T d197 ∧ d197.d.at_ = (d197.d.name, none) := ⟨⟨sc197, ⟨Cd.F197, 40, rfl, rfl, rfl, cd197⟩, bn197, rfl⟩, rfl⟩
theorem sc198 : FnScope d198.N d198.ps d198.d.scope := ⟨rfl, rfl, rfl, by decide +kernel, rfl, by decide +kernel, by decide +kernel⟩
theorem bn198 : Pv.PlainArgs d198 := fun _ _ _ _ _ _ us hl => match us, hl with | [_], _ => rfl
theorem cd198 : Pv.mapO (Pv.cS 40 (C.pk.sc d198)) d198.d.body = some Cd.F198.body := by kernel_rfl
theorem ok198 : Pv.DfOk C.pk C.T d198 ∧ d198.d.at_ = (d198.d.name, none) := ⟨⟨sc198, ⟨Cd.F198, 40, rfl, rfl, rfl, cd198⟩, bn198, rfl⟩, rfl⟩
theorem sc201 : FnScope d201.N d201.ps d201.d.scope := ⟨rfl, rfl, rfl, by decide +kernel, rfl, by decide +kernel, by decide +kernel⟩
theorem bn201 : Pv.PlainArgs d201 := fun _ _ _ _ _ _ us hl => match us, hl with | [_, _], _ => rfl
theorem cd201 : Pv.mapO (Pv.cS 40 (C.pk.sc d201)) d201.d.body = some Cd.F201.body := by kernel_rfl
theorem ok201 : Pv.DfOk C.pk C.T d201 ∧ d201.d.at_ = (d201.d.name, none) := ⟨⟨sc201, ⟨Cd.F201, 40, rfl, rfl, rfl, cd201⟩, bn201, rfl⟩, rfl⟩
theorem sc202 : FnScope d202.N d202.ps d202.d.scope := ⟨rfl, rfl, rfl, by decide +kernel, rfl, by decide +kernel, by decide +kernel⟩
theorem bn202 : Pv.PlainArgs d202 := fun _ _ _ _ _ _ us hl => match us, hl with | [_, _], _ => rfl
theorem cd202 : Pv.mapO (Pv.cS 40 (C.pk.sc d202)) d202.d.body = some Cd.F202.body := by kernel_rfl
theorem ok202 : Pv.DfOk C.pk C.T d202 ∧ d202.d.at_ = (d202.d.name, none) := ⟨⟨sc202, ⟨Cd.F202, 40, rfl, rfl, rfl, cd202⟩, bn202, rfl⟩, rfl⟩
theorem sc203 : FnScope d203.N d203.ps d203.d.scope := ⟨rfl, rfl, rfl, by decide +kernel, rfl, by decide +kernel, by decide +kernel⟩
theorem bn203 : Pv.PlainArgs d203 := fun _ _ _ _ _ _ us hl => match us, hl with | [_, _, _], _ => rfl
theorem cd203 : Pv.mapO (Pv.cS 40 (C.pk.sc d203)) d203.d.body = some Cd.F203.body := by kernel_rfl
theorem ok203 : Pv.DfOk C.pk C.T d203 ∧ d203.d.at_ = (d203.d.name, none) := ⟨⟨sc203, ⟨Cd.F203, 40, rfl, rfl, rfl, cd203⟩, bn203, rfl⟩, rfl⟩
theorem sc204 : FnScope d204.N d204.ps d204.d.scope := ⟨rfl, rfl, rfl, by decide +kernel, rfl, by decide +kernel, by decide +kernel⟩
theorem bn204 : Pv.PlainArgs d204 := fun _ _ _ _ _ _ us hl => match us, hl with | [_, _], _ => rfl
theorem cd204 : Pv.mapO (Pv.cS 40 (C.pk.sc d204)) d204.d.body = some Cd.F204.body := by kernel_rfl
theorem ok204 : Pv.DfOk C.pk C.T d204 ∧ d204.d.at_ = (d204.d.name, none) := ⟨⟨sc204, ⟨Cd.F204, 40, rfl, rfl, rfl, cd204⟩, bn204, rfl⟩, rfl⟩
theorem sc205 : FnScope d205.N d205.ps d205.d.scope := ⟨rfl, rfl, rfl, by decide +kernel, rfl, by decide +kernel, by decide +kernel⟩
theorem bn205 : Pv.PlainArgs d205 := fun _ _ _ _ _ _ us hl => match us, hl with | [_, _, _], _ => rfl
theorem cd205 : Pv.mapO (Pv.cS 40 (C.pk.sc d205)) d205.d.body = some Cd.F205.body := by kernel_rfl
theorem ok205 : Pv.DfOk C.pk C.T d205 ∧ d205.d.at_ = (d205.d.name, none) := ⟨⟨sc205, ⟨Cd.F205, 40, rfl, rfl, rfl, cd205⟩, bn205, rfl⟩, rfl⟩
theorem sc206 : FnScope d206.N d206.ps d206.d.scope := ⟨rfl, rfl, rfl, by decide +kernel, rfl, by decide +kernel, by decide +kernel⟩
theorem bn206 : Pv.PlainArgs d206 := fun _ _ _ _ _ _ us hl => match us, hl with | [_, _], _ => rfl
theorem cd206 : Pv.mapO (Pv.cS 40 (C.pk.sc d206)) d206.d.body = some Cd.F206.body := by kernel_rfl
theorem ok206 : Pv.DfOk C.pk C.T d206 ∧ d206.d.at_ = (d206.d.name, none) := ⟨⟨sc206, ⟨Cd.F206, 40, rfl, rfl, rfl, cd206⟩, bn206, rfl⟩, rfl⟩
theorem sc207 : FnScope d207.N d207.ps d207.d.scope := ⟨rfl, rfl, rfl, by decide +kernel, rfl, by decide +kernel, by decide +kernel⟩
theorem bn207 : Pv.PlainArgs d207 := fun _ _ _ _ _ _ us hl => match us, hl with | [_, _, _], _ => rfl
theorem cd207 : Pv.mapO (Pv.cS 40 (C.pk.sc d207)) d207.d.body = some Cd.F207.body := by kernel_rfl
theorem ok207 : Pv.DfOk C.pk C.T d207 ∧ d207.d.at_ = (d207.d.name, none) := ⟨⟨sc207, ⟨Cd.F207, 40, rfl, rfl, rfl, cd207⟩, bn207, rfl⟩, rfl⟩
theorem sc209 : FnScope d209.N d209.ps d209.d.scope := ⟨rfl, rfl, rfl, by decide +kernel, rfl, by decide +kernel, by decide +kernel⟩
theorem bn209 : Pv.PlainArgs d209 := fun _ _ _ _ _ _ us hl => match us, hl with | [_, _], _ => rfl
theorem cd209 : Pv.mapO (Pv.cS 40 (C.pk.sc d209)) d209.d.body = some Cd.F209.body := by kernel_rfl
theorem ok209 : Pv.DfOk C.pk C.T d209 ∧ d209.d.at_ = (d209.d.name, none) := ⟨⟨sc209, ⟨Cd.F209, 40, rfl, rfl, rfl, cd209⟩, bn209, rfl⟩, rfl⟩
theorem sc214 : FnScope d214.N d214.ps d214.d.scope := ⟨rfl, rfl, rfl, by decide +kernel, rfl, by decide +kernel, by decide +kernel⟩
theorem bn214 : Pv.PlainArgs d214 := fun _ _ _ _ _ _ us hl => match us, hl with | [_, _], _ => rfl
theorem cd214 : Pv.mapO (Pv.cS 40 (C.pk.sc d214)) d214.d.body = some Cd.F214.body := by kernel_rfl
theorem ok214 : Pv.DfOk C.pk C.T d214 ∧ d214.d.at_ = (d214.d.name, none) := ⟨⟨sc214, ⟨Cd.F214, 40, rfl, rfl, rfl, cd214⟩, bn214, rfl⟩, rfl⟩
theorem sc217 : FnScope d217.N d217.ps d217.d.scope := ⟨rfl, rfl, rfl, by decide +kernel, rfl, by decide +kernel, by decide +kernel⟩
theorem bn217 : Pv.PlainArgs d217 := fun _ _ _ _ _ _ us hl => match us, hl with | [_], _ => rfl
theorem cd217 : Pv.mapO (Pv.cS 40 (C.pk.sc d217)) d217.d.body = some Cd.F217.body := by kernel_rfl
theorem ok217 : Pv.DfOk C.pk C.T d217 ∧ d217.d.at_ = (d217.d.name, none) := ⟨⟨sc217, ⟨Cd.F217, 40, rfl, rfl, rfl, cd217⟩, bn217, rfl⟩, rfl⟩
theorem sc76 : FnScope d76.N d76.ps d76.d.scope := ⟨rfl, rfl, rfl, by decide +kernel, rfl, by decide +kernel, by decide +kernel⟩
theorem bn76 : Pv.PlainArgs d76 := fun _ _ _ _ _ _ us hl => match us, hl with | [_], _ => rfl
theorem cd76 : Pv.mapO (Pv.cS 40 (C.pk.sc d76)) d76.d.body = some Cd.F76.body := by kernel_rfl
theorem ok76 : Pv.DfOk C.pk C.T d76 ∧ d76.d.at_ = (d76.d.name, none) := ⟨⟨sc76, ⟨Cd.F76, 40, rfl, rfl, rfl, cd76⟩, bn76, rfl⟩, rfl⟩
theorem sc77 : FnScope d77.N d77.ps d77.d.scope := ⟨rfl, rfl, rfl, by decide +kernel, rfl, by decide +kernel, by decide +kernel⟩
theorem bn77 : Pv.PlainArgs d77 := fun _ _ _ _ _ _ us hl => match us, hl with | [_], _ => rfl
theorem cd77 : Pv.mapO (Pv.cS 40 (C.pk.sc d77)) d77.d.body = some Cd.F77.body := by kernel_rfl
theorem ok77 : Pv.DfOk C.pk C.T d77 ∧ d77.d.at_ = (d77.d.name, none) := ⟨⟨sc77, ⟨Cd.F77, 40, rfl, rfl, rfl, cd77⟩, bn77, rfl⟩, rfl⟩
theorem sc78 : FnScope d78.N d78.ps d78.d.scope := ⟨rfl, rfl, rfl, by decide +kernel, rfl, by decide +kernel, by decide +kernel⟩
theorem bn78 : Pv.PlainArgs d78 := fun _ _ _ _ _ _ us hl => match us, hl with | [_], _ => rfl
theorem cd78 : Pv.mapO (Pv.cS 40 (C.pk.sc d78)) d78.d.body = some Cd.F78.body := by kernel_rfl
theorem ok78 : Pv.DfOk C.pk C.T d78 ∧ d78.d.at_ = (d78.d.name, none) := ⟨⟨sc78, ⟨Cd.F78, 40, rfl, rfl, rfl, cd78⟩, bn78, rfl⟩, rfl⟩
theorem sc79 : FnScope d79.N d79.ps d79.d.scope := ⟨rfl, rfl, rfl, by decide +kernel, rfl, by decide +kernel, by decide +kernel⟩
theorem bn79 : Pv.PlainArgs d79 := fun _ _ _ _ _ _ us hl => match us, hl with | [_], _ => rfl
theorem cd79 : Pv.mapO (Pv.cS 40 (C.pk.sc d79)) d79.d.body = some Cd.F79.body := by kernel_rfl
theorem ok79 : Pv.DfOk C.pk C.T d79 ∧ d79.d.at_ = (d79.d.name, none) := ⟨⟨sc79, ⟨Cd.F79, 40, rfl, rfl, rfl, cd79⟩, bn79, rfl⟩, rfl⟩
theorem sc80 : FnScope d80.N d80.ps d80.d.scope := ⟨rfl, rfl, rfl, by decide +kernel, rfl, by decide +kernel, by decide +kernel⟩
theorem bn80 : Pv.PlainArgs d80 := fun _ _ _ _ _ _ us hl => match us, hl with | [_], _ => rfl
theorem cd80 : Pv.mapO (Pv.cS 40 (C.pk.sc d80)) d80.d.body = some Cd.F80.body := by kernel_rfl
theorem ok80 : Pv.DfOk C.pk C.T d80 ∧ d80.d.at_ = (d80.d.name, none) := ⟨⟨sc80, ⟨Cd.F80, 40, rfl, rfl, rfl, cd80⟩, bn80, rfl⟩, rfl⟩
theorem sc81 : FnScope d81.N d81.ps d81.d.scope := ⟨rfl, rfl, rfl, by decide +kernel, rfl, by decide +kernel, by decide +kernel⟩
theorem bn81 : Pv.PlainArgs d81 := fun _ _ _ _ _ _ us hl => match us, hl with | [_], _ => rfl
theorem cd81 : Pv.mapO (Pv.cS 40 (C.pk.sc d81)) d81.d.body = some Cd.F81.body := by kernel_rfl
theorem ok81 : Pv.DfOk C.pk C.T d81 ∧ d81.d.at_ = (d81.d.name, none) := ⟨⟨sc81, ⟨Cd.F81, 40, rfl, rfl, rfl, cd81⟩, bn81, rfl⟩, rfl⟩
theorem sc82 : FnScope d82.N d82.ps d82.d.scope := ⟨rfl, rfl, rfl, by decide +kernel, rfl, by decide +kernel, by decide +kernel⟩
theorem bn82 : Pv.PlainArgs d82 := fun _ _ _ _ _ _ us hl => match us, hl with | [_], _ => rfl
theorem cd82 : Pv.mapO (Pv.cS 40 (C.pk.sc d82)) d82.d.body = some Cd.F82.body := by kernel_rfl
theorem ok82 : Pv.DfOk C.pk C.T d82 ∧ d82.d.at_ = (d82.d.name, none) := ⟨⟨sc82, ⟨Cd.F82, 40, rfl, rfl, rfl, cd82⟩, bn82, rfl⟩, rfl⟩
theorem sc83 : FnScope d83.N d83.ps d83.d.scope := ⟨rfl, rfl, rfl, by decide +kernel, rfl, by decide +kernel, by decide +kernel⟩
theorem bn83 : Pv.PlainArgs d83 := fun _ _ _ _ _ _ us hl => match us, hl with | [_], _ => rfl
theorem cd83 : Pv.mapO (Pv.cS 40 (C.pk.sc d83)) d83.d.body = some Cd.F83.body := by kernel_rfl
theorem ok83 : Pv.DfOk C.pk C.T d83 ∧ d83.d.at_ = (d83.d.name, none) := ⟨⟨sc83, ⟨Cd.F83, 40, rfl, rfl, rfl, cd83⟩, bn83, rfl⟩, rfl⟩
theorem sc84 : FnScope d84.N d84.ps d84.d.scope := ⟨rfl, rfl, rfl, by decide +kernel, rfl, by decide +kernel, by decide +kernel⟩
theorem bn84 : Pv.PlainArgs d84 := fun _ _ _ _ _ _ us hl => match us, hl with | [_], _ => rfl
theorem cd84 : Pv.mapO (Pv.cS 40 (C.pk.sc d84)) d84.d.body = some Cd.F84.body := by kernel_rfl
theorem ok84 : Pv.DfOk C.pk C.T d84 ∧ d84.d.at_ = (d84.d.name, none) := ⟨⟨sc84, ⟨Cd.F84, 40, rfl, rfl, rfl, cd84⟩, bn84, rfl⟩, rfl⟩
theorem sc85 : FnScope d85.N d85.ps d85.d.scope := ⟨rfl, rfl, rfl, by decide +kernel, rfl, by decide +kernel, by decide +kernel⟩
theorem bn85 : Pv.PlainArgs d85 := fun _ _ _ _ _ _ us hl => match us, hl with | [_, _], _ => rfl
theorem cd85 : Pv.mapO (Pv.cS 40 (C.pk.sc d85)) d85.d.body = some Cd.F85.body := by kernel_rfl
theorem ok85 : Pv.DfOk C.pk C.T d85 ∧ d85.d.at_ = (d85.d.name, none) := ⟨⟨sc85, ⟨Cd.F85, 40, rfl, rfl, rfl, cd85⟩, bn85, rfl⟩, rfl⟩
theorem sc86 : FnScope d86.N d86.ps d86.d.scope := ⟨rfl, rfl, rfl, by decide +kernel, rfl, by decide +kernel, by decide +kernel⟩
theorem bn86 : Pv.PlainArgs d86 := fun _ _ _ _ _ _ us hl => match us, hl with | [_, _], _ => rfl
theorem cd86 : Pv.mapO (Pv.cS 40 (C.pk.sc d86)) d86.d.body = some Cd.F86.body := by kernel_rfl
theorem ok86 : Pv.DfOk C.pk C.T d86 ∧ d86.d.at_ = (d86.d.name, none) := ⟨⟨sc86, ⟨Cd.F86, 40, rfl, rfl, rfl, cd86⟩, bn86, rfl⟩, rfl⟩
theorem sc87 : FnScope d87.N d87.ps d87.d.scope := ⟨rfl, rfl, rfl, by decide +kernel, rfl, by decide +kernel, by decide +kernel⟩
theorem bn87 : Pv.PlainArgs d87 := fun _ _ _ _ _ _ us hl => match us, hl with | [_, _, _], _ => rfl
theorem cd87 : Pv.mapO (Pv.cS 40 (C.pk.sc d87)) d87.d.body = some Cd.F87.body := by kernel_rfl
theorem ok87 : Pv.DfOk C.pk C.T d87 ∧ d87.d.at_ = (d87.d.name, none) := ⟨⟨sc87, ⟨Cd.F87, 40, rfl, rfl, rfl, cd87⟩, bn87, rfl⟩, rfl⟩
theorem sc88 : FnScope d88.N d88.ps d88.d.scope := ⟨rfl, rfl, rfl, by decide +kernel, rfl, by decide +kernel, by decide +kernel⟩
theorem bn88 : Pv.PlainArgs d88 := fun _ _ _ _ _ _ us hl => match us, hl with | [_], _ => rfl
theorem cd88 : Pv.mapO (Pv.cS 40 (C.pk.sc d88)) d88.d.body = some Cd.F88.body := by kernel_rfl
theorem ok88 : Pv.DfOk C.pk C.T d88 ∧ d88.d.at_ = (d88.d.name, none) := ⟨⟨sc88, ⟨Cd.F88, 40, rfl, rfl, rfl, cd88⟩, bn88, rfl⟩, rfl⟩
theorem sc89 : FnScope d89.N d89.ps d89.d.scope := ⟨rfl, rfl, rfl, by decide +kernel, rfl, by decide +kernel, by decide +kernel⟩
theorem bn89 : Pv.PlainArgs d89 := fun _ _ _ _ _ _ us hl => match us, hl with | [_], _ => rfl
theorem cd89 : Pv.mapO (Pv.cS 40 (C.pk.sc d89)) d89.d.body = some Cd.F89.body := by kernel_rfl
theorem ok89 : Pv.DfOk C.pk C.T d89 ∧ d89.d.at_ = (d89.d.name, none) := ⟨⟨sc89, ⟨Cd.F89, 40, rfl, rfl, rfl, cd89⟩, bn89, rfl⟩, rfl⟩
theorem sc90 : FnScope d90.N d90.ps d90.d.scope := ⟨rfl, rfl, rfl, by decide +kernel, rfl, by decide +kernel, by decide +kernel⟩
theorem bn90 : Pv.PlainArgs d90 := fun _ _ _ _ _ _ us hl => match us, hl with | [_], _ => rfl
theorem cd90 : Pv.mapO (Pv.cS 40 (C.pk.sc d90)) d90.d.body = some Cd.F90.body := by kernel_rfl
theorem ok90 : Pv.DfOk C.pk C.T d90 ∧ d90.d.at_ = (d90.d.name, none) := ⟨⟨sc90, ⟨Cd.F90, 40, rfl, rfl, rfl, cd90⟩, bn90, rfl⟩, rfl⟩
theorem sc91 : FnScope d91.N d91.ps d91.d.scope := ⟨rfl, rfl, rfl, by decide +kernel, rfl, by decide +kernel, by decide +kernel⟩
theorem bn91 : Pv.PlainArgs d91 := fun _ _ _ _ _ _ us hl => match us, hl with | [_], _ => rfl
theorem cd91 : Pv.mapO (Pv.cS 40 (C.pk.sc d91)) d91.d.body = some Cd.F91.body := by kernel_rfl
theorem ok91 : Pv.DfOk C.pk C.T d91 ∧ d91.d.at_ = (d91.d.name, none) := ⟨⟨sc91, ⟨Cd.F91, 40, rfl, rfl, rfl, cd91⟩, bn91, rfl⟩, rfl⟩
theorem sc1000 : FnScope d1000.N d1000.ps d1000.d.scope := ⟨rfl, rfl, rfl, by decide +kernel, rfl, by decide +kernel, by decide +kernel⟩
theorem bn1000 : Pv.PlainArgs d1000 := fun _ _ _ _ _ _ us hl => match us, hl with | [_, _], _ => rfl
theorem cd1000 : Pv.mapO (Pv.cS 40 (C.pk.sc d1000)) d1000.d.body = some Cd.F1000.body := by kernel_rfl
theorem ok1000 : Pv.DfOk C.pk C.T d1000 ∧ d1000.d.at_ = (d1000.d.name, none) := ⟨⟨sc1000, ⟨Cd.F1000, 40, rfl, rfl, rfl, cd1000⟩, bn1000, rfl⟩, rfl⟩
theorem sc1001 : FnScope d1001.N d1001.ps d1001.d.scope := ⟨rfl, rfl, rfl, by decide +kernel, rfl, by decide +kernel, by decide +kernel⟩
theorem bn1001 : Pv.PlainArgs d1001 := fun _ _ _ _ _ _ us hl => match us, hl with | [_, _], _ => rfl
theorem cd1001 : Pv.mapO (Pv.cS 40 (C.pk.sc d1001)) d1001.d.body = some Cd.F1001.body := by kernel_rfl
theorem ok1001 : Pv.DfOk C.pk C.T d1001 ∧ d1001.d.at_ = (d1001.d.name, none) := ⟨⟨sc1001, ⟨Cd.F1001, 40, rfl, rfl, rfl, cd1001⟩, bn1001, rfl⟩, rfl⟩
theorem sc1002 : FnScope d1002.N d1002.ps d1002.d.scope := ⟨rfl, rfl, rfl, by decide +kernel, rfl, by decide +kernel, by decide +kernel⟩
theorem bn1002 : Pv.PlainArgs d1002 := fun _ _ _ _ _ _ us hl => match us, hl with | [_], _ => rfl
theorem cd1002 : Pv.mapO (Pv.cS 40 (C.pk.sc d1002)) d1002.d.body = some Cd.F1002.body := by kernel_rfl
theorem ok1002 : Pv.DfOk C.pk C.T d1002 ∧ d1002.d.at_ = (d1002.d.name, none) := ⟨⟨sc1002, ⟨Cd.F1002, 40, rfl, rfl, rfl, cd1002⟩, bn1002, rfl⟩, rfl⟩
theorem sc1003 : FnScope d1003.N d1003.ps d1003.d.scope := ⟨rfl, rfl, rfl, by decide +kernel, rfl, by decide +kernel, by decide +kernel⟩
theorem bn1003 : Pv.PlainArgs d1003 := fun _ _ _ _ _ _ us hl => match us, hl with | [_], _ => rfl
theorem cd1003 : Pv.mapO (Pv.cS 40 (C.pk.sc d1003)) d1003.d.body = some Cd.F1003.body := by kernel_rfl
theorem ok1003 : Pv.DfOk C.pk C.T d1003 ∧ d1003.d.at_ = (d1003.d.name, none) := ⟨⟨sc1003, ⟨Cd.F1003, 40, rfl, rfl, rfl, cd1003⟩, bn1003, rfl⟩, rfl⟩
theorem sc1004 : FnScope d1004.N d1004.ps d1004.d.scope := ⟨rfl, rfl, rfl, by decide +kernel, rfl, by decide +kernel, by decide +kernel⟩
theorem bn1004 : Pv.PlainArgs d1004 := fun _ _ _ _ _ _ us hl => match us, hl with | [_], _ => rfl
theorem cd1004 : Pv.mapO (Pv.cS 40 (C.pk.sc d1004)) d1004.d.body = some Cd.F1004.body := by kernel_rfl
theorem ok1004 : Pv.DfOk C.pk C.T d1004 ∧ d1004.d.at_ = (d1004.d.name, none) := ⟨⟨sc1004, ⟨Cd.F1004, 40, rfl, rfl, rfl, cd1004⟩, bn1004, rfl⟩, rfl⟩
theorem sc1005 : FnScope d1005.N d1005.ps d1005.d.scope := ⟨rfl, rfl, rfl, by decide +kernel, rfl, by decide +kernel, by decide +kernel⟩
theorem bn1005 : Pv.PlainArgs d1005 := fun _ _ _ _ _ _ us hl => match us, hl with | [_], _ => rfl
theorem cd1005 : Pv.mapO (Pv.cS 40 (C.pk.sc d1005)) d1005.d.body = some Cd.F1005.body := by kernel_rfl
theorem ok1005 : Pv.DfOk C.pk C.T d1005 ∧ d1005.d.at_ = (d1005.d.name, none) := ⟨⟨sc1005, ⟨Cd.F1005, 40, rfl, rfl, rfl, cd1005⟩, bn1005, rfl⟩, rfl⟩
theorem sc1006 : FnScope d1006.N d1006.ps d1006.d.scope := ⟨rfl, rfl, rfl, by decide +kernel, rfl, by decide +kernel, by decide +kernel⟩
theorem bn1006 : Pv.PlainArgs d1006 := fun _ _ _ _ _ _ us hl => match us, hl with | [_], _ => rfl
theorem cd1006 : Pv.mapO (Pv.cS 40 (C.pk.sc d1006)) d1006.d.body = some Cd.F1006.body := by kernel_rfl
theorem ok1006 : Pv.DfOk C.pk C.T d1006 ∧ d1006.d.at_ = (d1006.d.name, none) := ⟨⟨sc1006, ⟨Cd.F1006, 40, rfl, rfl, rfl, cd1006⟩, bn1006, rfl⟩, rfl⟩
theorem oks : ∀ d ∈ C.dfs, Pv.DfOk C.pk C.T d ∧ d.d.at_ = (d.d.name, none) := by
  intro d hd
  have hd : d ∈ dfs := hd
  simp only [dfs, dfs0, dfs1, dfs2, List.mem_append, List.mem_cons, List.not_mem_nil, or_false, or_assoc] at hd
  rcases hd with rfl | rfl | rfl | rfl | rfl | rfl | rfl | rfl | rfl | rfl | rfl | rfl | rfl | rfl | rfl | rfl | rfl | rfl | rfl | rfl | rfl | rfl | rfl | rfl | rfl | rfl | rfl | rfl | rfl | rfl | rfl | rfl | rfl | rfl | rfl | rfl
  · exact ok196
  · exact ok197
  · exact ok198
  · exact ok201
  · exact ok202
  · exact ok203
  · exact ok204
  · exact ok205
  · exact ok206
  · exact ok207
  · exact ok209
  · exact ok214
  · exact ok217
  · exact ok76
  · exact ok77
  · exact ok78
  · exact ok79
  · exact ok80
  · exact ok81
  · exact ok82
  · exact ok83
  · exact ok84
  · exact ok85
  · exact ok86
  · exact ok87
  · exact ok88
  · exact ok89
  · exact ok90
  · exact ok91
  · exact ok1000
  · exact ok1001
  · exact ok1002
  · exact ok1003
  · exact ok1004
  · exact ok1005
  · exact ok1006
theorem lawIn : d1006 ∈ C.dfs := by
  show d1006 ∈ dfs
  simp only [dfs, dfs0, dfs1, dfs2, List.mem_append, List.mem_cons, true_or, or_true]
theorem ans (ns : List Int) (_ : ns.length ≤ 63) : ∃ S, Pv.callT C.T (40 + 1) d1006.f [.rol (ns.map Pv.D.int)] [] = some (.bl true, S) := K13.law_ans ns
end Hd

open PySem PySem.W PySem.Calls PyProof.Rows
theorem PySem.Challenge.cw_idealkept_k13_continued_fractions_and_sq_holds : PySem.Challenge.rw_idealkept_k13_continued_fractions_and_sq.Holds := by
  w_on; o_law
  refine HandSHeadRun.head_any (r := OpenLaw.row PySem.Challenge.rw_idealkept_k13_continued_fractions_and_sq) (q := view (OpenLaw.row PySem.Challenge.rw_idealkept_k13_continued_fractions_and_sq).prog [41]) (H := Hd.hk) (ob := Hd.ob) (M := 4000) (loose := Hd.loose) (d := HandSHeadRun.topDef (OpenLaw.row PySem.Challenge.rw_idealkept_k13_continued_fractions_and_sq).prog 41) (kwd := []) Hd.ob_eq
    (by kernel_rfl) (fun s => by kernel_rfl) Hd.run (by kernel_rfl) (by kernel_rfl) (by kernel_rfl) (by rfl) (by first | assumption | decide +kernel) (by decide +kernel) ⟨rfl, rfl, rfl, rfl, rfl, by decide +kernel⟩ ?hw ?hc
  case hw => w_witness2
  case hc =>
    refine L2.walk_ofE (l := PySem.Challenge.rw_idealkept_k13_continued_fractions_and_sq) (n := 63) (k := 40 + 1) (x := "script") (CX := L2.CX0) rfl (by decide) (by kernel_rfl) ⟨rfl, by decide, by decide⟩ ?F (fun _ _ _ _ z => z)
    intro w mg fa h Y G hmg0
    obtain ⟨K, KX, c⟩ := Y
    have hmg : mg Hd.d1006.d.name = some (.ref fa) := by
      have e : (HandSHeadRun.topDef (OpenLaw.row PySem.Challenge.rw_idealkept_k13_continued_fractions_and_sq).prog 41).name = Hd.d1006.d.name := by kernel_rfl
      rw [← e]
      exact hmg0
    obtain ⟨fd, hb, hF⟩ := Pv.cfg_law (C := Hd.C) (P := (PySem.Challenge.rw_idealkept_k13_continued_fractions_and_sq).prog) (w := w) KX G c Hd.oks (d := Hd.d1006) Hd.lawIn hmg 40 rfl
    exact ⟨K, fd, Pv.spC Hd.C.T (40 + 1) Hd.d1006.f K, KX, hb, fun H a ns hl hO hS => Pv.sp_law (n := 63) (F0 := Cd.F1006) rfl rfl Hd.ans H a ns hl hO hS _, hF⟩

