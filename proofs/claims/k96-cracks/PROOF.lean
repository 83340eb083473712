import PyProof.Rows.All
import Wide.All
import OpenK.AllK
import Wide.FinOn
import HandS.ForMost
import HandS.Rev
import HandS.Exc
import HandS.Defaults
import HandS.TupAny
import HandS.IsInst
import HandS.OwnEq
import HandS.Style
import KE.KTupSum
import KE.DataMinMax
import KE.GoesEnum
import HandS.Head0
import HandS.Head1
import HandS.Head2
import HandS.HeadEnd
import HandS.HeadHook1
import HandS.HeadHook2
import KE.KStateDown
import PySem.Challenge.RW_jointsapart_k96_whole_cracks_turned_pile
set_option Elab.async false
set_option linter.all false
set_option maxRecDepth 100000
set_option maxHeartbeats 2000000
namespace RT
open PySem PySem.Calls PyProof.Rows PyProof.V PySem.Spec PySem.W
theorem nolen_rt : typeLookup (.type "reversed") "__len__" = pure none := by rw [typeLookup_type, builtinLookup_eq_fast]; kernel_rfl
theorem hint_rt : typeLookup (.type "reversed") "__length_hint__" = pure (some (.builtin "reversed.__length_hint__")) := by rw [typeLookup_type, builtinLookup_eq_fast]; kernel_rfl
theorem IsTup.at' {h h' : Heap} {t : Addr} {items : Array Value} (x : IsTup h t items) (e : ∀ o, h.get? t = some o → h'.get? t = some o) : IsTup h' t items := let ⟨o, ho, r⟩ := x; ⟨o, e _ ho, r⟩
theorem slot_rt_hint : Slot "reversed" "__length_hint__" "reversed.__length_hint__" :=
  .of (owner := "reversed") (n := "__length_hint__") (by rw [typeLookup_type, builtinLookup_eq_fast]; kernel_rfl) (by decide +kernel) (by decide +kernel) (by decide +kernel)
    (by first | exact .inl (by decide +kernel) | exact .inr (by decide +kernel)) (by rw [isSubtype_type]; kernel_rfl)
theorem entry_rt_hint : entryFor table "reversed.__length_hint__" = some Builtin.«reversed.__length_hint__» := entryFor_of_tree (by kernel_rfl)
theorem args_rt_hint (a : Value) : argsOk "reversed.__length_hint__" ⟨[a], []⟩ := by
  unfold argsOk; rw [signature?_of (id := "reversed.__length_hint__") (n := ['_', '_', 't', 'n', 'i', 'h', '_', 'h', 't', 'g', 'n', 'e', 'l', '_', '_']) (o := ['d', 'e', 's', 'r', 'e', 'v', 'e', 'r']) (by kernel_rfl) owner_rt]; kernel_rfl
theorem type_rt_hint : typeOf (.builtin "reversed.__length_hint__") = pure (.type "method_descriptor") := by show builtinType _ = _; rw [builtinType_eq_fast]; kernel_rfl
theorem walks_rt {prog : Program} {w : World} {A : Around} (hh : A.handled = none) (I t : Addr) (hne : t ≠ I) (items : Array Value) (hsz : items.size ≤ sizeLine) :
    Walks prog w A I [I, t] [I] items.size (fun i v => items[items.size - 1 - i]? = some v) (fun i h => i ≤ items.size ∧ IsRt h I t ((items.size : Int) - 1 - (i : Int)) ∧ IsTup h t items) where
  sub := fun b hb => by simp at hb; simp [hb]
  frame := fun _ _ _ x hk => ⟨x.1, x.2.1.at fun o e => hk I (by simp) o e, IsTup.at' x.2.2 fun o e => hk t (by simp) o e⟩
  item := fun i s Q E hi x hQ => by
    have e : (items.size : Int) - 1 - (i : Int) = ((items.size - 1 - i : Nat) : Int) := by omega
    have hit := x.2.1
    rw [e] at hit
    have hx : items[items.size - 1 - i]? = some (items[items.size - 1 - i]'(by omega)) := Array.getElem?_eq_getElem (by omega)
    refine next_rt_item hit x.2.2 hx hsz fun h' hit' hs' => ?_
    have e2 : ((items.size - 1 - i : Nat) : Int) - 1 = (items.size : Int) - 1 - ((i + 1 : Nat) : Int) := by omega
    rw [e2] at hit'
    exact hQ _ h' (s.toks + 1) hx ⟨hi, hit', IsTup.at' x.2.2 fun o eo => (hs'.2 t hne).trans eo⟩ fun b o hb eo => hs'.extBut b o (fun h => hb (by simp [h])) eo
  done := fun s Q E x hQ => by
    have e : (items.size : Int) - 1 - (items.size : Int) = -1 := by omega
    have hit := x.2.1
    rw [e] at hit
    exact next_rt_end hh hit fun h' he' => hQ h' s.toks fun b o hb eo => he' b o (fun h => hb (by simp [h])) eo
  self := fun _ _ _ _ x hQ => iter_rt x.2.1 hQ
section
variable {prog : Program} {w : World} {A : Around} {E : Value → Shared → Prop} {s : Shared}
theorem call_rt_hint {it t : Addr} {items : Array Value} {Q : Value → Shared → Prop} (hit : IsRt s.heap it t ((items.size : Int) - 1)) (ht : IsTup s.heap t items) (hn : items.size ≤ sizeLine)
    (h : ∀ tk u, Q (.int (items.size : Int) u) { s with toks := tk }) : wpAny (model prog w) A (call (.builtin "reversed.__length_hint__") [.ref it]) Q E s := by
  obtain ⟨o, ho, hc, hd⟩ := id hit
  rw [sizeLine_eq] at hn
  refine wpAny_call_entry slot_rt_hint hit.typeIs entry_rt_hint ?_ (args_rt_hint _)
  unfold Builtin.«reversed.__length_hint__»
  refine wpAny_bind (wpAny_of_eq (a := Value.ref it) rfl ?_)
  refine wpAny_bind (wpAny_field ho hd (x := .ref t) rfl ?_)
  rw [if_neg (by intro z; cases z)]
  refine wpAny_bind (len_tuple ht (by omega) ?_)
  refine wpAny_bind (wpAny_pure ?_)
  show wpAny _ _ (field (.ref it) 1 >>= _) _ _ _
  refine wpAny_bind (wpAny_field ho hd (x := rawInt ((items.size : Int) - 1)) rfl ?_)
  show wpAny _ _ (if (items.size : Int) < ((items.size : Int) - 1) + 1 then _ else retInt (((items.size : Int) - 1) + 1)) _ _ _
  rw [if_neg (by omega)]
  have e1 : ((items.size : Int) - 1) + 1 = (items.size : Int) := by omega
  rw [e1]
  refine wpAny_bind (wpAny_mkInt (wpAny_pure ⟨_, rfl, h _ _⟩))
theorem length_hint_rt {it t : Addr} {items : Array Value} {Q : Bool → Shared → Prop} (hit : IsRt s.heap it t ((items.size : Int) - 1)) (ht : IsTup s.heap t items) (hn : items.size ≤ sizeLine)
    (h : ∀ tk b, Q b { s with toks := tk }) : wpAny (model prog w) A (Builtin.List.listLengthHint (.ref it)) Q E s := by
  have hT := hit.typeIs
  have hn' := hn
  rw [sizeLine_eq] at hn'
  unfold Builtin.List.listLengthHint
  refine wpAny_bind (wpAny_specialOf hT nolen_rt ?_)
  show wpAny _ A (specialOf (Value.ref it) (Str.ofString "__length_hint__") >>= _) _ _ _
  refine wpAny_bind (wpAny_specialOf hT hint_rt ?_)
  generalize hid : ("reversed.__length_hint__" : String) = id0
  wp_delta
  rw [show splitId id0 = some ("reversed", "__length_hint__") from by subst hid; decide +kernel]
  subst hid
  refine wpAny_bind (wpAny_isInstance (b := true) hT (by rw [isSubtype_type]; kernel_rfl) ?_)
  rw [if_neg (by decide), if_neg (by decide +kernel)]
  refine wpAny_bind (wpAny_rule ?_)
  unfold bindSpecial
  rw [type_rt_hint]
  refine wpAny_bind (wpAny_bind (wpAny_pure ?_))
  rw [if_pos (by decide +kernel)]
  refine wpAny_pure ?_
  refine wpAny_bind (wpAny_attempt (call_rt_hint hit ht hn fun tk u => ?_))
  dsimp only
  have ea : asInt? (.int (items.size : Int) u) = pure (some (items.size : Int)) := by simp only [asInt?]
  rw [ea, pure_bind]
  dsimp only
  show wpAny _ _ (if (!Builtin.List.listFitsIndex (items.size : Int)) = true then _ else _) _ _ _
  rw [if_neg (by
    unfold Builtin.List.listFitsIndex
    simp only [Bool.not_eq_true', Bool.and_eq_false_iff, decide_eq_false_iff_not, not_or, Decidable.not_not]
    omega)]
  show wpAny _ _ (if (items.size : Int) < 0 then _ else _) _ _ _
  rw [if_neg (by omega)]
  show wpAny _ _ (if Builtin.List.listTooLong (items.size : Int).toNat = true then _ else _) _ _ _
  have e9 : Builtin.List.listTooLong (items.size : Int).toNat = false := by
    have q : ¬ ((items.size : Int).toNat > sizeLine) := by
      have q2 : (items.size : Int).toNat = items.size := rfl
      rw [q2]
      exact Nat.not_lt.mpr hn
    exact decide_eq_false q
  rw [e9]
  show wpAny _ _ (pure _) _ _ _
  exact wpAny_pure (h _ _)
end
section
variable {prog : Program} {w : World} {A : Around} {E : Value → Shared → Prop} {s : Shared}
theorem collect_rt {it l : Addr} {items : Array Value} {Q : List Value → Shared → Prop} (hh : A.handled = none) (hit : IsRt s.heap it l ((items.size : Int) - 1)) (hl : IsTup s.heap l items) (hne : l ≠ it) (hn : items.size ≤ sizeLine)
    (hQ : ∀ (h' : Heap) (tk : Nat) (acc : Array Value), (∀ b o, b ≠ it → s.heap.get? b = some o → h'.get? b = some o) → ItemsOf (fun i v => items[items.size - 1 - i]? = some v) acc items.size → Q acc.toList { s with heap := h', toks := tk }) :
    wpAny (model prog w) A (collect (.ref it)) Q E s := by
  have W := (walks_rt (prog := prog) (w := w) (A := A.in1) hh it l hne items hn).toS
  obtain ⟨oi, hoi, _⟩ := id hit
  obtain ⟨ol, hol, _⟩ := id hl
  have hSi : s.heap.objs.size ≠ it := Nat.ne_of_gt (Heap.lt_size hoi)
  have hSl : s.heap.objs.size ≠ l := Nat.ne_of_gt (Heap.lt_size hol)
  have hSf : s.heap.objs.size ∉ [it, l] := by simp only [List.mem_cons, List.not_mem_nil, or_false, not_or]; exact ⟨hSi, hSl⟩
  unfold collect
  refine wpAny_bind (wpAny_runValue (codeAny_builtin F.entry_proto_collect ?_))
  rw [Around.under_plainId F.plain_proto_collect _]
  show wpAny _ A.in1 (newList [] >>= fun l' => again (.builtin "list.__iadd__" ⟨[l', .ref it], []⟩)) _ _ s
  refine wpAny_bind (wpAny_newObj_type ?_)
  refine wpAny_pure ⟨plainId_quiet F.plain_list_iadd _, codeAny_builtin F.entry_list_iadd ?_⟩
  rw [Around.under_plainId F.plain_list_iadd _]
  have hS₁ : (s.heap.push { cls := .type "list", data := .seq ([] : List Value).toArray }).get? s.heap.objs.size = some { cls := .type "list", data := .seq ([] : List Value).toArray } := Heap.get?_push_size _ rfl
  have hit1 : IsRt (s.heap.push { cls := .type "list", data := .seq ([] : List Value).toArray }) it l ((items.size : Int) - 1) := hit.at fun o e => Heap.get?_push_of_some _ e
  have hl1 : IsTup (s.heap.push { cls := .type "list", data := .seq ([] : List Value).toArray }) l items := IsTup.at' hl fun o e => Heap.get?_push_of_some _ e
  have hT : ({ s with heap := s.heap.push { cls := .type "list", data := .seq ([] : List Value).toArray } } : Shared).TypeIs (.ref it) "reversed" := IsRt.typeIs (s := { s with heap := s.heap.push { cls := .type "list", data := .seq ([] : List Value).toArray } }) hit1
  have h1 : Builtin.List.listSameRef (.ref s.heap.objs.size) (.ref it) = false := by simp [Builtin.List.listSameRef, hSi]
  show wpAny _ A.in1 (Builtin.List.listExtendWith (.ref s.heap.objs.size) (.ref it) (.ref s.heap.objs.size)) _ _ _
  unfold Builtin.List.listExtendWith
  refine wpAny_bind (wpAny_typeOf hT ?_)
  rw [if_neg (by rw [h1]; decide)]
  refine wpAny_bind (iter_rt (s := { s with heap := s.heap.push { cls := .type "list", data := .seq ([] : List Value).toArray } }) hit1 ?_)
  refine wpAny_bind (wpAny_holding ?_)
  refine length_hint_rt (s := { s with heap := s.heap.push { cls := .type "list", data := .seq ([] : List Value).toArray } }) hit1 hl1 hn fun tk b => ?_
  have e0 : ((items.size : Nat) : Int) - 1 - ((0 : Nat) : Int) = (items.size : Int) - 1 := by omega
  cases b with
  | false =>
    rw [if_neg (by decide +kernel)]
    refine wpAny_pure ⟨plainId_quiet F.plain_extend_loop _, codeAny_extend_loopS W hn _ hSf _ items.size 0 _ _ _ rfl (Nat.zero_le _) ⟨Nat.zero_le _, by rw [e0]; exact hit1, hl1⟩ hS₁ (ItemsOf.nil _) fun s' acc' c' hm hS' hacc => ?_⟩
    show wpAny _ A (load s.heap.objs.size >>= _) _ _ s'
    refine wpAny_bind (wpAny_load hS' ?_)
    refine wpAny_pure ?_
    rw [Moved.eq_with hm]
    refine hQ s'.heap s'.toks acc' (fun b o hb e => hm.heap b o (fun hmem => ?_) (Heap.get?_push_of_some _ e)) hacc
    rcases List.mem_cons.mp hmem with e' | hmem
    · exact absurd (Heap.lt_size e) (by rw [e']; exact Nat.lt_irrefl _)
    · exact hb (List.mem_singleton.mp hmem)
  | true =>
    rw [if_pos (by decide +kernel)]
    refine wpAny_bind (wpAny_rule ?_)
    unfold Builtin.List.listTouch
    refine wpAny_bind (wpAny_bind (listUpdate_at hS₁ rfl ?_ (Nat.zero_le _) (by show 1 ≤ sizeLine + 1; exact Nat.le_add_left _ _)))
    have hS2 := Heap.get?_update_self (Obj.mapSeq fun x => x.push Value.none) hS₁ rfl
    refine listUpdate_at (s := { s with heap := (s.heap.push { cls := .type "list", data := .seq ([] : List Value).toArray }).update s.heap.objs.size (Obj.mapSeq fun x => x.push Value.none), toks := tk }) hS2 rfl ?_ (by show 1 ≤ sizeLine; decide) (Nat.zero_le _)
    have hS3 := Heap.get?_update_self (Obj.mapSeq fun x => x.pop) hS2 rfl
    have k2 : ∀ b o, b ≠ s.heap.objs.size → (s.heap.push { cls := .type "list", data := .seq ([] : List Value).toArray }).get? b = some o → (((s.heap.push { cls := .type "list", data := .seq ([] : List Value).toArray }).update s.heap.objs.size (Obj.mapSeq fun x => x.push Value.none)).update s.heap.objs.size (Obj.mapSeq fun x => x.pop)).get? b = some o := fun b o hb e =>
      (Heap.get?_update_other _ _ (Ne.symm hb)).trans ((Heap.get?_update_other _ _ (Ne.symm hb)).trans e)
    refine wpAny_pure ⟨plainId_quiet F.plain_extend_loop _, codeAny_extend_loopS W hn _ hSf _ items.size 0 _ _ _ rfl (Nat.zero_le _) ⟨Nat.zero_le _, by rw [e0]; exact (hit1.at fun o e => k2 it o (Ne.symm hSi) e), IsTup.at' hl1 fun o e => k2 l o (Ne.symm hSl) e⟩ hS3 (ItemsOf.nil _) fun s' acc' c' hm hS' hacc => ?_⟩
    show wpAny _ A (load s.heap.objs.size >>= _) _ _ s'
    refine wpAny_bind (wpAny_load hS' ?_)
    refine wpAny_pure ?_
    rw [Moved.eq_with hm]
    refine hQ s'.heap s'.toks acc' (fun b o hb e => hm.heap b o (fun hmem => ?_) (k2 b o (Nat.ne_of_lt (Heap.lt_size e)) (Heap.get?_push_of_some _ e))) hacc
    rcases List.mem_cons.mp hmem with e' | hmem
    · exact absurd (Heap.lt_size e) (by rw [e']; exact Nat.lt_irrefl _)
    · exact hb (List.mem_singleton.mp hmem)
theorem code_tuple_new_rt {it l : Addr} {items : Array Value} {Q₁ : Value → Shared → Prop} (hh : A.handled = none) (hit : IsRt s.heap it l ((items.size : Int) - 1)) (hl : IsTup s.heap l items) (hne : l ≠ it) (hn : items.size ≤ sizeLine)
    (h : ∀ (h' : Heap) (tk : Nat) (acc : Array Value), (∀ b o, b ≠ it → s.heap.get? b = some o → h'.get? b = some o) → ItemsOf (fun i v => items[items.size - 1 - i]? = some v) acc items.size →
      Q₁ (.ref h'.objs.size) { s with heap := h'.push { cls := .type "tuple", data := .seq acc }, toks := tk }) :
    codeAny (model prog w) A (.call (.builtin "tuple.__new__") ⟨[.type "tuple", .ref it], []⟩) (wants Q₁ E) s := by
  refine codeAny_of_tree ?_
  show wpAny _ A.in1 (do checkBuiltinCall "tuple.__new__" ⟨[.type "tuple", .ref it], []⟩; again (.builtin "tuple.__new__" ⟨[.type "tuple", .ref it], []⟩)) _ _ s
  refine wpAny_bind (wpAny_of_eq (F.newCall_tuple_1 _) (wpAny_pure ⟨plainId_quiet F.plain_tuple_new _, codeAny_builtin F.entry_tuple_new ?_⟩))
  rw [Around.under_plainId F.plain_tuple_new _]
  have hsub := sub_tuple_self
  have hinit := init_tuple_lookup
  have hmh := madeHere_tuple
  have hTI : s.TypeIs (.ref it) "reversed" := hit.typeIs
  have hh1 : A.in1.handled = none := hh
  wp_walk using wpAny_typeOf hTI, collect_rt (A := A.in1) hh1 hit hl hne hn
  intro h' tk acc hk hacc
  show wpAny _ _ (Builtin.Tuple.tupleExact acc.toList.toArray >>= fun v => ret v) _ _ _
  unfold Builtin.Tuple.tupleExact
  refine wpAny_bind (wpAny_newObj_type ?_ (by show acc.toList.toArray.size ≤ sizeLine; simp only [Array.toArray_toList]; rw [hacc.1]; exact hn))
  refine wpAny_pure ?_
  have e : acc.toList.toArray = acc := by simp
  rw [e]
  exact h h' tk acc hk hacc
theorem call_tuple_rt {it l : Addr} {items : Array Value} {Q : Value → Shared → Prop} (hh : A.handled = none) (hit : IsRt s.heap it l ((items.size : Int) - 1)) (hl : IsTup s.heap l items) (hne : l ≠ it) (hn : items.size ≤ sizeLine)
    (hQ : ∀ (h' : Heap) (tk : Nat) (acc : Array Value), (∀ b o, b ≠ it → s.heap.get? b = some o → h'.get? b = some o) → ItemsOf (fun i v => items[items.size - 1 - i]? = some v) acc items.size →
      Q (.ref h'.objs.size) { s with heap := h'.push { cls := .type "tuple", data := .seq acc }, toks := tk }) :
    wpAny (model prog w) A (call (.type "tuple") [.ref it]) Q E s := by
  refine callType_codes (Q₁ := fun obj s₁ => s₁.TypeIs obj "tuple" ∧ Q obj s₁) F.called_tuple (F.typeCall_tuple_1 _) F.entry_object_init
    (code_tuple_new_rt (A := A.in1) hh hit hl hne hn fun h' tk acc hk hacc => ⟨⟨_, Heap.get?_push_size _ rfl, rfl⟩, hQ h' tk acc hk hacc⟩) fun obj s₁ h₁ => ?_
  exact ⟨h₁.1, F.args_object_init_2 obj _, object_init_meets F.called_tuple.init.lookup F.called_tuple.made (by decide) prog w A.in1 _ s₁ ⟨h₁.1, rfl, h₁.2⟩⟩
end
end RT
namespace L2R
open PySem PySem.Spec L2 RT
open PyProof.Rows hiding St
section
variable {X : Cx}
/-- tuple(reversed(x)), x a list or a tuple: a new tuple -/
def tTupRevA (K : PySem.W.Frag) (te : TE) : TE := fun σ H Q => te σ H fun v H1 => ∃ (a : Addr) (xs : List V), v = .ref a ∧ (SqL K H1 a xs ∨ SqT K H1 a xs) ∧ ∀ q, H1 q = none → Q (.ref q) (upd H1 q (.tup xs.reverse))
theorem pe_tupRevA {e : Expr} {te : TE} {p p2 pos pos2 : Pos} (hc : X.calm = true) (hg : Gl X "tuple") (hm : X.mg "tuple" = none) (hg2 : Gl X "reversed") (hm2 : X.mg "reversed" = none) (he : PE X e te)
    (hs : starEach [e] X.env = (false, eval e X.env) :: starEach [] X.env := by rfl)
    (hs2 : starEach [.Call (.Name "reversed" p2) [e] [] pos2] X.env = (false, eval (.Call (.Name "reversed" p2) [e] [] pos2) X.env) :: starEach [] X.env := by rfl) :
    PE X (.Call (.Name "tuple" p) [.Call (.Name "reversed" p2) [e] [] pos2] [] pos) (tTupRevA X.K te) := by
  refine ⟨fun pins s σ H Q I h => ?_⟩
  refine Call_ (ld_blt I hg hm boot_tuple (PyProof.Rows.callWith_type1 (args_cons (Call_ (ld_blt I hg2 hm2 PyProof.Rows.boot_reversed (PyProof.Rows.callWith_type1 (args_cons (thn (he.run pins s σ H _ I h) fun u s1 ⟨v, H1, I1, r1, q1⟩ => args_nil ?_) hs) hs rfl))) hs2) hs2 rfl))
  obtain ⟨a, xs, ev, hq, q⟩ := q1
  subst ev
  obtain rfl : u = Value.ref a := r1
  obtain ⟨f0, f1, f2, f3, f4, f5⟩ := I1.fpOk (H' := H1) (b := s1.heap.objs.size) (Nat.le_refl _) (I1.hok.fresh (Nat.le_refl _))
  rcases hq with hq | hq
  · obtain ⟨its, rv, p', hz⟩ := I1.list hq
    refine call_reversed_list p'.isList (args_nil ?_)
    have k0 : ∀ b o, s1.heap.get? b = some o → (s1.heap.push (revObj a ((its.toArray.size : Int) - 1))).get? b = some o := fun b o e => Heap.get?_push_of_some _ e
    have I2 : L2.Inv X pins σ H1 { s1 with heap := s1.heap.push (revObj a ((its.toArray.size : Int) - 1)) } := I1.kept (t' := s1.toks) k0
    have hl := p'.isList
    obtain ⟨ol, hol, _⟩ := id hl
    have hne : a ≠ s1.heap.objs.size := Nat.ne_of_lt (Heap.lt_size hol)
    have hn : its.toArray.size ≤ sizeLine := by rw [List.size_toArray, ← rv.length]; exact hz
    refine call_tuple_rev (s := { s1 with heap := s1.heap.push (revObj a ((its.toArray.size : Int) - 1)) }) (I1.ok.hd hc) ⟨_, Heap.get?_push_size _ rfl, rfl, rfl⟩ (hl.push _) hne hn fun h' tk acc hk hi => ?_
    have I3 : L2.Inv X pins σ H1 { s1 with heap := h', toks := tk } := I2.turned (t' := tk) (fun b o hb e => hk b o hb e) f0 f1 f3 f4 f5
    refine ⟨.ref h'.objs.size, upd H1 h'.objs.size (.tup xs.reverse), I3.laid (t' := tk) (fun c o e => Heap.get?_push_of_some _ e) (Nat.le_refl _) (show ObjOk X.prog X.w _ _ _ (.tup xs.reverse) from ⟨by rw [List.length_reverse]; exact hz, acc.toList, vals_rev rv hi, ?_⟩), rfl, q _ (I3.hok.fresh (Nat.le_refl _))⟩
    rw [Array.toArray_toList]
    exact IsTup.new _ _
  · obtain ⟨its, rv, p', hz⟩ := I1.tuple hq
    have hlen := rv.length
    have hn63 := line63
    have hn : its.toArray.size ≤ sizeLine := by rw [List.size_toArray, ← rv.length]; exact hz
    refine call_reversed_tup p' (fun A E Q k => len_tuple p' (by simp only [List.size_toArray] <;> omega) k) (args_nil ?_)
    have k0 : ∀ b o, s1.heap.get? b = some o → (s1.heap.push (rtObj a ((its.toArray.size : Int) - 1))).get? b = some o := fun b o e => Heap.get?_push_of_some _ e
    have I2 : L2.Inv X pins σ H1 { s1 with heap := s1.heap.push (rtObj a ((its.toArray.size : Int) - 1)), toks := s1.toks + 1 + 1 } := I1.kept (t' := s1.toks + 1 + 1) k0
    obtain ⟨ol, hol, _⟩ := id p'
    have hne : a ≠ s1.heap.objs.size := Nat.ne_of_lt (Heap.lt_size hol)
    refine call_tuple_rt (s := { s1 with heap := s1.heap.push (rtObj a ((its.toArray.size : Int) - 1)), toks := s1.toks + 1 + 1 }) (I1.ok.hd hc) ⟨_, Heap.get?_push_size _ rfl, rfl, rfl⟩ (IsTup.at' p' fun o e => Heap.get?_push_of_some _ e) hne hn fun h' tk acc hk hi => ?_
    have I3 : L2.Inv X pins σ H1 { s1 with heap := h', toks := tk } := I2.turned (t' := tk) (fun b o hb e => hk b o hb e) f0 f1 f3 f4 f5
    refine ⟨.ref h'.objs.size, upd H1 h'.objs.size (.tup xs.reverse), I3.laid (t' := tk) (fun c o e => Heap.get?_push_of_some _ e) (Nat.le_refl _) (show ObjOk X.prog X.w _ _ _ (.tup xs.reverse) from ⟨by rw [List.length_reverse]; exact hz, acc.toList, vals_rev rv hi, ?_⟩), rfl, q _ (I3.hok.fresh (Nat.le_refl _))⟩
    rw [Array.toArray_toList]
    exact IsTup.new _ _
end
end L2R
set_option Elab.async false
set_option linter.all false
set_option maxRecDepth 100000
set_option maxHeartbeats 2000000
namespace L2R
open PySem PySem.Spec L2
open PyProof.Rows hiding St
/-! sum, max of a tuple of ints -/
section
variable {X : Cx}
def rSumT (K : PySem.W.Frag) : List V → Hp → VK → Prop := fun vs H Q => ∃ (a : Addr) (ns : List Int), vs = [V.ref a] ∧ SqT K H a (ns.map V.int) ∧ Q (.int ns.sum) H
theorem cr_sumT (hc : X.calm = true) : CallR X (.builtin "sum") (rSumT X.K) := by
  intro pins s σ H vs us Q I r h
  obtain ⟨a, ns, rfl, hs, q⟩ := h
  obtain ⟨its, rv, ht, _⟩ := I.tuple hs
  rw [Vals.ref1 r]
  have hi := rv.ints
  obtain ⟨xs, e⟩ := hi.allInts.items
  have hn : numsOf (intItems xs).toList = ns := by rw [← e]; exact hi.numsOf
  rw [nums_intItems] at hn
  have ht' : s.heap.IsTuple a its.toArray := ht
  rw [e] at ht'
  refine PySem.W.ktm_sumG (I.ok.hd hc) ht' fun h' tk t' hk => ?_
  rw [preSum_eq, List.take_of_length_le (by simp), hn]
  exact ⟨.int _, H, I.kept hk, ⟨_, rfl⟩, q⟩
/-- max of a tuple of ints -/
theorem foldl_max_mem : ∀ (ns : List Int) (n : Int), ns.foldl max n ∈ n :: ns
  | [], n => List.mem_cons_self
  | k :: r, n => by
    rw [List.foldl_cons]
    have h := foldl_max_mem r (max n k)
    rcases List.mem_cons.mp h with h | h
    · rw [h]
      by_cases c : n ≤ k
      · rw [Int.max_eq_right c]
        exact List.mem_cons_of_mem _ List.mem_cons_self
      · rw [Int.max_eq_left (by omega)]
        exact List.mem_cons_self
    · exact List.mem_cons_of_mem _ (List.mem_cons_of_mem _ h)
theorem foldl_max_ge : ∀ (ns : List Int) (n : Int), ∀ y ∈ n :: ns, y ≤ ns.foldl max n
  | [], n, y, h => by
    rw [List.mem_singleton.mp h]
    exact Int.le_refl _
  | k :: r, n, y, h => by
    rw [List.foldl_cons]
    have ge := foldl_max_ge r (max n k)
    rcases List.mem_cons.mp h with h | h
    · subst h
      exact Int.le_trans (Int.le_max_left _ _) (ge _ List.mem_cons_self)
    · rcases List.mem_cons.mp h with h | h
      · subst h
        exact Int.le_trans (Int.le_max_right _ _) (ge _ List.mem_cons_self)
      · exact ge y (List.mem_cons_of_mem _ h)
def rMaxT (K : PySem.W.Frag) : List V → Hp → VK → Prop := fun vs H Q => ∃ (a : Addr) (ns : List Int), vs = [V.ref a] ∧ SqT K H a (ns.map V.int) ∧ 0 < ns.length ∧ ∀ m, m ∈ ns → (∀ y, y ∈ ns → y ≤ m) → Q (.int m) H
theorem reads_ints {h : Heap} : ∀ {us : List Value} {ns : List Int}, IntsAre us ns → ∃ as, ReadsAll h us (ns.map PyData.int) as
  | [], ns, i => by
    cases i
    exact ⟨_, ReadsAll.nil⟩
  | u :: us, ns, i => by
    cases i with
    | cons n k t =>
      obtain ⟨as, ha⟩ := reads_ints t
      exact ⟨_, ReadsAll.cons (Reads.int _ _) ha⟩
theorem depth_ints : ∀ ns : List Int, PyData.depthAll (ns.map PyData.int) ≤ 1
  | [] => by
    show PyData.depthAll [] ≤ 1
    unfold PyData.depthAll
    omega
  | n :: ns => by
    have h := depth_ints ns
    show PyData.depthAll (PyData.int n :: ns.map PyData.int) ≤ 1
    unfold PyData.depthAll PyData.depth
    omega
theorem alike_ints (ns : List Int) : PySem.W.AlikeAll (ns.map PyData.int) := by
  refine ⟨fun x hx y hy => ?_, fun x hx => ?_⟩
  · obtain ⟨i, _, rfl⟩ := List.mem_map.mp hx
    obtain ⟨j, _, rfl⟩ := List.mem_map.mp hy
    rfl
  · obtain ⟨i, _, rfl⟩ := List.mem_map.mp hx
    exact fun z => nomatch z
theorem cr_maxT (hc : X.calm = true) (hu : X.A.units + 64 < cLine) : CallR X (.builtin "max") (rMaxT X.K) := by
  intro pins s σ H vs us Q I r h
  obtain ⟨a, ns, rfl, hs, hne, q⟩ := h
  obtain ⟨its, rv, ht, _⟩ := I.tuple hs
  rw [Vals.ref1 r]
  cases ns with
  | nil => exact absurd hne (by simp)
  | cons n ns =>
    have hi := rv.ints
    obtain ⟨as, hr⟩ := reads_ints (h := s.heap) hi
    have hr' : ReadsAll s.heap its.toArray.toList (PyData.int n :: ns.map PyData.int) as := by simpa using hr
    refine PySem.W.max_tuple_data (I.ok.hd hc) ht hr' (alike_ints (n :: ns)) (by have := depth_ints (n :: ns); rw [List.map_cons] at this; omega) fun i v h' tk bs hv rd hk => ?_
    rw [PySem.W.maxD_ints] at rd
    cases rd with
    | int _ t => exact ⟨.int _, H, I.kept hk, ⟨t, rfl⟩, q _ (foldl_max_mem ns n) (foldl_max_ge ns n)⟩
end
/-! t[::-1], t a tuple -/
section
variable {prog : Program} {w : World} {A : Around} {E : Value → Shared → Prop} {s : Shared}
theorem slicePart_neg {v : Value} {Q : Option Int → Shared → Prop} (p : PySem.IsPart v (some (-1))) (h : Q (some (-1)) s) : wpAny (model prog w) A (Builtin.Slice.slicePartIndex v) Q E s := HT.slicePart_ p h
theorem sliceApplied_back {sl : Addr} {vs : Value} {n : Nat} {Q : Int × Int × Nat → Shared → Prop} (hs : s.heap.IsSliceOf sl .none .none vs) (ps : PySem.IsPart vs (some (-1)))
    (h : Q ((n : Int) - 1, -1, n) s) : wpAny (model prog w) A (Builtin.Slice.sliceApplied (.ref sl) (pure (n : Int))) Q E s := by
  obtain ⟨os, hos, hcs, hds⟩ := id hs
  unfold Builtin.Slice.sliceApplied Builtin.Slice.sliceFields
  refine wpAny_bind (wpAny_bind (wpAny_field hos hds (x := .none) rfl (wpAny_bind (wpAny_field hos hds (x := .none) rfl (wpAny_bind (wpAny_field hos hds (x := vs) rfl (wpAny_pure ?_)))))))
  refine wpAny_bind (slicePart_neg ps ?_)
  show wpAny _ _ (if ((-1 : Int) == 0) = true then _ else _) _ _ s
  rw [if_neg (by decide)]
  refine wpAny_bind (HT.slicePart_ .none (wpAny_bind (HT.slicePart_ .none (wpAny_bind (wpAny_pure ?_)))))
  show wpAny _ _ (match Builtin.Slice.sliceAdjust none none (-1) (n : Int) with | (lo, hi) => pure (lo, (-1 : Int), Builtin.Slice.slicePlaces lo hi (-1))) _ _ s
  have e1 : Builtin.Slice.sliceAdjust none none (-1) (n : Int) = ((n : Int) - 1, -1) := rfl
  rw [e1]
  show wpAny _ _ (pure ((n : Int) - 1, (-1 : Int), Builtin.Slice.slicePlaces ((n : Int) - 1) (-1) (-1))) _ _ s
  have e2 : Builtin.Slice.slicePlaces ((n : Int) - 1) (-1) (-1) = n := by
    unfold Builtin.Slice.slicePlaces
    have h1 : ¬ ((-1 : Int) > 0) := by omega
    rw [if_neg h1]
    split
    · have e3 : (-(-1) : Int) = 1 := by omega
      rw [e3, Int.ediv_one]
      omega
    · omega
  rw [e2]
  exact wpAny_pure h
theorem fm_congr {α β : Type} {f g : α → Option β} : ∀ {l : List α}, (∀ x ∈ l, f x = g x) → l.filterMap f = l.filterMap g
  | [], _ => rfl
  | x :: r, h => by
    rw [List.filterMap_cons, List.filterMap_cons, h x List.mem_cons_self, fm_congr fun y hy => h y (List.mem_cons_of_mem _ hy)]
theorem fm_all {α : Type} : ∀ l : List α, (List.range l.length).filterMap (fun k => l[k]?) = l
  | [] => rfl
  | x :: r => by
    rw [List.length_cons, List.range_succ_eq_map, List.filterMap_cons, List.filterMap_map]
    have e : (fun k => (x :: r)[k]?) ∘ Nat.succ = fun k => r[k]? := rfl
    rw [e, fm_all r]
    rfl
theorem pick_back (xs : Array Value) : ((List.range xs.size).filterMap fun (k : Nat) => xs[((xs.size : Int) - 1 + (k : Int) * (-1)).toNat]?).toArray = xs.toList.reverse.toArray := by
  congr 1
  have e : ∀ k, k < xs.size → xs[((xs.size : Int) - 1 + (k : Int) * (-1)).toNat]? = xs.toList.reverse[k]? := fun k hk => by
    have e2 : ((xs.size : Int) - 1 + (k : Int) * (-1)).toNat = xs.size - 1 - k := by omega
    rw [e2, List.getElem?_reverse (by simpa using hk)]
    simp
  have hl : xs.size = xs.toList.reverse.length := by simp
  rw [← fm_all xs.toList.reverse, ← hl]
  exact fm_congr fun k hk => e k (List.mem_range.mp hk)
theorem getItem_tuple_back {t sl : Addr} {items : Array Value} {vs : Value} {Q : Value → Shared → Prop} (ht : IsTup s.heap t items) (hs : s.heap.IsSliceOf sl .none .none vs) (ps : PySem.IsPart vs (some (-1)))
    (h : Q (.ref s.heap.objs.size) { s with heap := s.heap.push { cls := .type "tuple", data := .seq items.toList.reverse.toArray } })
    (hsz : items.size ≤ sizeLine) : wpAny (model prog w) A (getItem (.ref t) (.ref sl)) Q E s := by
  have htake : sizeOk (.seq items.toList.reverse.toArray) := by
    show items.toList.reverse.toArray.size ≤ sizeLine
    rw [List.size_toArray, List.length_reverse, Array.length_toList]
    exact hsz
  obtain ⟨os, hos, hcs, hds⟩ := id hs
  have hTs : s.TypeIs (.ref sl) "slice" := ⟨os, hos, hcs⟩
  unfold getItem
  try with_reducible refine wpAny_holding ?_
  first | refine wpAny_bind (wpAny_pure ?_) | skip
  refine wpAny_bind (wpAny_sequenceKey ht.typeIs (by decide) ?_)
  refine wpAny_bind (wpAny_callSpecial?_slot (name := Str.ofString "__getitem__") ht.typeIs PyProof.Rows.slot_tuple_getitem
    (wpAny_call_entry PyProof.Rows.slot_tuple_getitem ht.typeIs entry_tuple_getitem ?_ (args_tuple_getitem _ _)))
  show wpAny _ _ (Builtin.Tuple.tupleItemsOf (.ref t) >>= _) _ _ s
  refine wpAny_bind (tupleItemsOf_ ht ?_)
  refine wpAny_bind (wpAny_typeOf hTs ?_)
  rw [if_pos (by decide)]
  refine wpAny_bind (sliceApplied_back hs ps ?_)
  show wpAny _ _ (if ((((items.size : Nat) : Int) - 1 == 0) && ((-1 : Int) == 1) && (items.size == items.size)) = true then _ else _) _ _ s
  rw [if_neg (by simp), pick_back]
  first
    | exact wpAny_bind (m := Builtin.Tuple.tupleExact _) (wpAny_newObj_type (wpAny_pure ⟨_, rfl, wpAny_pure h⟩) htake)
    | exact wpAny_bind (m := Builtin.Tuple.tupleExact _) (wpAny_newObj_type (wpAny_bind (wpAny_pure (wpAny_pure ⟨_, rfl, wpAny_pure h⟩))) htake)
    | exact wpAny_bind (wpAny_bind (m := Builtin.Tuple.tupleExact _) (wpAny_newObj_type (wpAny_pure (wpAny_pure ⟨_, rfl, wpAny_pure h⟩)) htake))
    | exact wpAny_bind (wpAny_bind (m := Builtin.Tuple.tupleExact _) (wpAny_newObj_type (wpAny_pure ⟨_, rfl, wpAny_pure h⟩) htake))
end
section
variable {X : Cx}
/-- x[::-1], x a list or a tuple -/
def tRevA (K : PySem.W.Frag) (te : TE) : TE := fun σ H Q => te σ H fun x H1 => ∃ a xs, x = .ref a ∧ ((SqL K H1 a xs ∧ ∀ p, H1 p = none → Q (.ref p) (upd H1 p (.lst xs.reverse))) ∨ (SqT K H1 a xs ∧ ∀ p, H1 p = none → Q (.ref p) (upd H1 p (.tup xs.reverse))))
theorem pe_revA {e : Expr} {te : TE} {k : Nat} {p1 p2 p3 pos : Pos} (he : PE X e te) : PE X (.Subscript e (.Slice none none (some (.UnaryOp .USub (.Constant (.int 1) k p1) p2)) p3) pos) (tRevA X.K te) := by
  refine ⟨fun pins s σ H Q I h => ?_⟩
  refine Subscript_ (thn (he.run pins s σ H _ I h) fun v s1 ⟨x, H1, I1, r1, q1⟩ => ?_)
  obtain ⟨a, xs, ex, q⟩ := q1
  subst ex
  cases r1
  have hst : PO X (some (.UnaryOp .USub (.Constant (.int 1) k p1) p2)) (tPart (tUn (rU fun i => .int (-i)) (tC (.int 1)))) := po_some (pe_un un_neg pe_int)
  refine wpAny_Slice (thn (po_none.run pins s1 σ H1 (fun o H2 => o = none ∧ H2 = H1) I1 ⟨rfl, rfl⟩) fun vl s2 ⟨l, H2, I2, pl, el, e2⟩ => ?_)
  subst el e2
  refine thn (po_none.run pins s2 σ H2 (fun o H3 => o = none ∧ H3 = H2) I2 ⟨rfl, rfl⟩) fun vu s3 ⟨u, H3, I3, pu, eu, e3⟩ => ?_
  subst eu e3
  refine thn (hst.run pins s3 σ H3 (fun o H4 => o = some (-1) ∧ H4 = H3) I3 ⟨1, rfl, -1, rfl, rfl, rfl⟩) fun vs s4 ⟨o, H4, I4, ps, eo, e4⟩ => ?_
  subst eo e4
  have I5 : L2.Inv X pins σ H4 { s4 with heap := s4.heap.push { cls := .type "slice", data := .fields #[vl, vu, vs] } } := I4.kept (t' := s4.toks) fun b ob q => Heap.get?_push_of_some _ q
  show wpAny (model X.prog X.w) X.A (subscriptTail e (.Slice none none (some (.UnaryOp .USub (.Constant (.int 1) k p1) p2)) p3) (.ref a) (.ref s4.heap.objs.size)) (EP X pins σ Q) X.xe { s4 with heap := s4.heap.push { cls := .type "slice", data := .fields #[vl, vu, vs] } }
  rcases q with ⟨hx, q⟩ | ⟨hx, q⟩
  · obtain ⟨its, r, ht, hz⟩ := I5.list hx
    have hlen := r.length
    refine tail_any (ops := [.ref a, .ref s4.heap.objs.size]) ht.isList.typeIs (PySem.slot_list_getitem.lookup) ?_ (by with_unfolding_all rfl)
    refine wpAny_getItem_list_slice ht.isList (Heap.IsSliceOf.new _ vl vu vs) pl pu ps (by decide) ?_ (by rw [List.size_toArray]; omega)
    rw [PySem.W.krv_pick]
    refine ⟨.ref _, _, I5.laid (t' := s4.toks) (o := .lst xs.reverse) (fun b ob q => Heap.get?_push_of_some _ q) (Nat.le_refl _) ?_, rfl, q _ (I5.hok.fresh (Nat.le_refl _))⟩
    exact ⟨by rw [List.length_reverse]; exact hz, _, 0, r.reverse, Heap.get?_push_size _ rfl⟩
  · obtain ⟨its, r, ht, hz⟩ := I5.tuple hx
    have hlen := r.length
    cases pl
    cases pu
    refine tail_any (ops := [.ref a, .ref s4.heap.objs.size]) ht.typeIs PyProof.Rows.slot_tuple_getitem.lookup ?_ (by with_unfolding_all rfl)
    refine getItem_tuple_back ht (Heap.IsSliceOf.new _ .none .none vs) ps ?_ (by rw [List.size_toArray, ← hlen]; exact hz)
    refine ⟨.ref _, _, I5.laid (t' := s4.toks) (o := .tup xs.reverse) (fun b ob q => Heap.get?_push_of_some _ q) (Nat.le_refl _) ?_, rfl, q _ (I5.hok.fresh (Nat.le_refl _))⟩
    exact ⟨by rw [List.length_reverse]; exact hz, _, r.reverse, IsTup.new _ _⟩
end
/-! enumerate of a tuple -/
open AutoSeq1 (wpAny_loadPart') in
theorem meets_enumerate_new1 {v : Value} {o : Obj} {H : Heap → Prop} (B : Begins v o H) :
    Meets (Builtin.«enumerate.__new__» ⟨[.type "enumerate", v], []⟩) (fun _ R s => H s.heap ∧
      R (.ok (.ret (.ref (s.heap.push o).objs.size))) { s with heap := (s.heap.push o).push { cls := .type "enumerate", data := .fields #[.none, .bool false, .ref s.heap.objs.size, rawInt 0, .none, .none] } }) :=
  .of_wp fun prog w A R s h => by
    obtain ⟨hp, g, d, tk, os⟩ := s; obtain ⟨h1, h⟩ := h
    have hsub := sub_enumerate
    have q1 : ∀ {A' : Around} {E : Value → Shared → Prop} {Q : Value → Shared → Prop}, Q (.ref hp.objs.size) ⟨hp.push o, g, d, tk, os⟩ → wpAny (model prog w) A' (pyIter v) Q E ⟨hp, g, d, tk, os⟩ :=
      fun q => B.iter prog w _ _ ⟨hp, g, d, tk, os⟩ _ h1 q
    wp_walk using q1
    refine wpAny_stack_any fun st => wpAny_pure ?_
    split
    · rename_i c _ _ _ _ _
      cases (c == Value.type "enumerate")
      · wp_walk using q1
        exact ⟨_, rfl, h⟩
      · wp_walk using q1
        exact ⟨_, rfl, h⟩
    · wp_walk using q1
      exact ⟨_, rfl, h⟩
section
variable {prog : Program} {w : World} {A : Around} {E : Value → Shared → Prop} {s : Shared}
theorem enum_begins1 {v : Value} {o : Obj} {H : Heap → Prop} {Q : Value → Shared → Prop} (B : Begins v o H) (h1 : H s.heap)
    (h : ∀ h', IsEnum h' (s.heap.objs.size + 1) s.heap.objs.size 0 .none → h'.get? s.heap.objs.size = some o → h'.objs.size = s.heap.objs.size + 2 →
      (∀ b o, s.heap.get? b = some o → h'.get? b = some o) → Q (.ref (s.heap.objs.size + 1)) { s with heap := h' }) :
    wpAny (model prog w) A (call (.type "enumerate") [v]) Q E s := by
  refine callType_new F.called_enumerate (by decide) (F.typeCall_enumerate_1 _) (F.newCall_enumerate_1 _) (fun obj => F.args_object_init_2 obj _) F.entry_enumerate_new
    (meets_enumerate_new1 B) ⟨h1, ?_⟩
  have hz : (s.heap.push o).objs.size = s.heap.objs.size + 1 := Heap.size_push ..
  show _ ∧ _
  rw [hz]
  have he : IsEnum ((s.heap.push o).push { cls := .type "enumerate", data := .fields #[.none, .bool false, .ref s.heap.objs.size, rawInt 0, .none, .none] }) (s.heap.objs.size + 1) s.heap.objs.size 0 .none := by
    have := Heap.get?_push_size (s.heap.push o) (o := { cls := .type "enumerate", data := .fields #[.none, .bool false, .ref s.heap.objs.size, rawInt 0, .none, .none] }) rfl
    rw [hz] at this; exact this
  refine ⟨⟨_, he, rfl⟩, h _ he (Heap.get?_push_of_some _ (Heap.get?_push_size _ B.free)) (by rw [Heap.size_push, hz]) fun b o x => Heap.get?_push_of_some _ (Heap.get?_push_of_some _ x)⟩
end
/-- the tuple at a, each item in a new pair -/
def IteT (K : PySem.W.Frag) (a : Addr) : It :=
  ⟨fun i H => ∃ (xs : List V) (x : V), SqT K H a xs ∧ xs[i]? = some x, fun i H v H' => ∃ T x, v = .ref T ∧ H T = none ∧ H' = upd H T (.tup [.int (i : Nat), x]) ∧ ∀ xs, SqT K H a xs → xs[i]? = some x, fun i H => ∃ xs : List V, SqT K H a xs ∧ xs.length ≤ i⟩
theorem turn_enumT {P : Program} {w : World} {K : PySem.W.Frag} {elts : List Expr} {kk : Nat} {tpos : Pos} (a e it : Addr) :
    Turn P w K (.Tuple elts kk tpos) (IteT K a) [e, it] e (fun i h => (∃ old, IsEnum h e it ((i : Nat) : Int) old) ∧ h.IsTupleIter it a i ∧ e ≠ it) where
  mem := by simp
  obj := fun i h st b hb => by
    obtain ⟨⟨old, he⟩, ⟨o, ho, hc, hd⟩, _⟩ := st
    have e' : b = e ∨ b = it := by simpa using hb
    rcases e' with z | z
    · rw [z]; exact ⟨_, he, fun v q => nomatch q⟩
    · rw [z]; exact ⟨o, ho, fun v q => by rw [hd] at q; cases q⟩
  keep := fun i h h' st k => let ⟨⟨old, he⟩, hi, hne⟩ := st; ⟨⟨old, k e (by simp) _ he⟩, hi.at fun o q => k it (by simp) o q, hne⟩
  item := by
    intro X hP hw hK hc i pins s σ H E I hf st hg
    subst hP hw hK
    obtain ⟨⟨old, he⟩, hit, hne⟩ := st
    obtain ⟨xs, x, hq, hx⟩ := hg
    obtain ⟨its, rv, p, hz⟩ := I.tuple hq
    obtain ⟨u, hu, ru⟩ := rv.get hx
    have hp : s.heap.IsTuple a its.toArray := p
    have hel : e < s.heap.objs.size := Heap.lt_size he
    have hil : it < s.heap.objs.size := by obtain ⟨_, q, _⟩ := hit; exact Heap.lt_size q
    have hne_at : a ≠ it := fun z => by
      obtain ⟨o1, q1, c1, _⟩ := hit
      obtain ⟨o2, q2, c2, _⟩ := hp
      rw [z, q1] at q2
      cases (Option.some.inj q2)
      rw [c1] at c2
      injection c2 with c3
      exact absurd c3 (by decide)
    have hea : e ≠ a := fun z => by
      obtain ⟨o2, q2, c2, _⟩ := hp
      have q1 := he
      rw [z] at q1
      have q1' : s.heap.get? a = some _ := q1
      rw [q2] at q1'
      rw [Option.some.inj q1'] at c2
      injection c2 with c3
      exact absurd c3 (by decide)
    have hil2 : i < its.toArray.size := by
      have := (List.getElem?_eq_some_iff.mp hu).1
      simpa using this
    refine wpAny_pyNext_enum_itemD (fp := [it, a]) (n := its.toArray.size) (Draws.tuple (prog := X.prog) (w := X.w) (A := X.A.in1) (I.ok.hd hc) it a hne_at its.toArray) he ⟨hit, hp⟩ hil2 hne (by simp [hne, hea]) fun x' h' tk hPx ho hit' hT hsz hk => ?_
    have ex : x' = u := by
      have h1 : its.toArray[i]? = some u := by simpa using hu
      have h2 : its.toArray[i]? = some x' := hPx
      rw [h1] at h2
      exact (Option.some.inj h2).symm
    subst ex
    refine ⟨_, rfl, wpAny_letOwnedTupleGo_enum (s := { s with heap := h', toks := tk + 1 }) ho fun h'' he' sb => ?_⟩
    have hT2 : h''.get? s.heap.objs.size = some { cls := .type "tuple", data := .seq #[.int i tk, x'] } := (sb.2 _ (Nat.ne_of_gt hel)).trans hT
    have new : ObjOk X.prog X.w (upd H s.heap.objs.size (.tup [.int (i : Nat), x])) h'' s.heap.objs.size (.tup [.int (i : Nat), x]) :=
      ⟨by show 2 ≤ sizeLine; decide, [.int i tk, x'], .cons ⟨_, rfl⟩ (.cons ru .nil), ⟨_, hT2, rfl, _, rfl⟩⟩
    have I1 : L2.Inv X pins σ (upd H s.heap.objs.size (.tup [.int (i : Nat), x])) { s with heap := h'', toks := tk + 1 } :=
      I.turnedNew (ch := [e, it]) (fun b ob hb q => (sb.2 b (fun z => hb (by simp [z]))).trans (hk b ob (fun z => hb (by simp [z])) (fun z => hb (by simp [z])) q)) hf (Nat.le_refl _) new
    refine ⟨.ref s.heap.objs.size, _, I1, rfl, ⟨_, x, rfl, I.hok.fresh (Nat.le_refl _), rfl, fun ys hy => by rw [I.tuple_inj hy hq]; exact hx⟩, ⟨⟨x', ?_⟩, hit'.1.at fun o q => (sb.2 it (Ne.symm hne)).trans q, hne⟩, fun b hb => ?_⟩
    · have e1 : ((i + 1 : Nat) : Int) = (i : Int) + 1 := by omega
      rw [e1]; exact he'
    · have hb' : b < s.heap.objs.size := by
        have e' : b = e ∨ b = it := by simpa using hb
        rcases e' with z | z
        · rw [z]; exact hel
        · rw [z]; exact hil
      rw [upd_ne (Nat.ne_of_lt hb')]
      exact (hf b hb).1
  done := by
    intro X hP hw hK hc i pins s σ H E I hf st hg
    subst hP hw hK
    obtain ⟨⟨old, he⟩, hit, hne⟩ := st
    obtain ⟨xs, hq, hx⟩ := hg
    obtain ⟨its, rv, p, hz⟩ := I.tuple hq
    obtain ⟨f0, f1, f2, f3, f4, f5⟩ := hf it (by simp)
    have hl := rv.length
    have hT : s.TypeIs (.ref e) "enumerate" := ⟨_, he, rfl⟩
    unfold pyNext
    refine wpAny_bind (wpAny_attempt (wpAny_callSpecial?_slot (name := Str.ofString "__next__") hT F.slot_enumerate_next
      (wpAny_call_entry F.slot_enumerate_next hT F.entry_enumerate_next ?_ (F.args_enumerate_next_1 _))))
    show wpAny _ _ (field (.ref e) 2 >>= _) _ _ _
    refine wpAny_bind (wpAny_field he rfl (x := .ref it) rfl ?_)
    refine wpAny_bind (wpAny_nextOf_tuple_end (I.ok.hd hc) hit (show s.heap.IsTuple a its.toArray from p) (by simp; omega) fun h' x he' hx' => ?_)
    obtain ⟨o, ho, hcc⟩ := hx'
    refine wpAny_bind (wpAny_isInstance (T := "StopIteration") (b := true) ⟨o, ho, hcc⟩ isSubtype_stop ?_)
    exact wpAny_pure ⟨rfl, I.turned (t' := s.toks) (fun b o hb q => he' b o hb q) f0 f1 f3 f4 f5⟩
  self := fun A i s Q E st h => let ⟨⟨_, he⟩, _⟩ := st; wpAny_pyIter_enum he h
/-- enumerate(x), x a list or a tuple -/
def iEnumA (K : PySem.W.Frag) (ta : TA) : TI := fun σ H R => ta σ H fun vs H1 => ∃ a xs, vs = [.ref a] ∧ ((SqL K H1 a xs ∧ R (Ite K a) H1) ∨ (SqT K H1 a xs ∧ R (IteT K a) H1))
theorem pi_enumA {X : Cx} {e : Expr} {ta : TA} {p pos tpos : Pos} {elts : List Expr} {kk : Nat} (hg : Gl X "enumerate") (hm : X.mg "enumerate" = none) (ha : PA X [e] ta) (hs : starEach [e] X.env = [(false, eval e X.env)] := by rfl) :
    PI X (.Tuple elts kk tpos) (.Call (.Name "enumerate" p) [e] [] pos) (iEnumA X.K ta) := by
  refine ⟨fun pins s σ H R I h => ?_⟩
  refine Call_ (ld_blt I hg hm PyProof.Rows.boot_enumerate (PyProof.Rows.callWith_type1 (thn (ha.run pos pins s σ H _ I h) fun us s1 ⟨vs, H1, I1, r1, q1⟩ => ?_) hs rfl))
  obtain ⟨a, xs, ex, q⟩ := q1
  subst ex
  cases r1 with
  | cons r rr =>
    cases rr
    cases r
    have lo : ∀ b ∈ [s1.heap.objs.size + 1, s1.heap.objs.size], FpOk X pins H1 b := fun b hb => by
      have e' : b = s1.heap.objs.size + 1 ∨ b = s1.heap.objs.size := by simpa using hb
      have hle : s1.heap.objs.size ≤ b := by
        rcases e' with z | z
        · rw [z]; exact Nat.le_add_right _ _
        · rw [z]; exact Nat.le_refl _
      exact I1.fpOk hle (I1.hok.fresh hle)
    rcases q with ⟨hq, q⟩ | ⟨hq, q⟩
    · obtain ⟨its, rv, p', hz⟩ := I1.list hq
      refine call_enumerate_list p'.isList fun h' he hit hsz hk => wpAny_pyIter_enum he ?_
      have I2 : L2.Inv X pins σ H1 { s1 with heap := h' } := I1.kept (t' := s1.toks) hk
      exact ⟨s1.heap.objs.size + 1, [s1.heap.objs.size + 1, s1.heap.objs.size], _, _, H1, rfl, I2, turn_enum a (s1.heap.objs.size + 1) s1.heap.objs.size, ⟨⟨.none, he⟩, hit, Nat.succ_ne_self _⟩, lo, q⟩
    · obtain ⟨its, rv, p', hz⟩ := I1.tuple hq
      refine enum_begins1 (begins_tuple a its.toArray) p' fun h' he hit hsz hk => wpAny_pyIter_enum he ?_
      have I2 : L2.Inv X pins σ H1 { s1 with heap := h' } := I1.kept (t' := s1.toks) hk
      exact ⟨s1.heap.objs.size + 1, [s1.heap.objs.size + 1, s1.heap.objs.size], _, _, H1, rfl, I2, turn_enumT a (s1.heap.objs.size + 1) s1.heap.objs.size, ⟨⟨.none, he⟩, ⟨_, hit, rfl, rfl⟩, Nat.succ_ne_self _⟩, lo, q⟩
/-! len of an own instance -/
section
variable {X : Cx}
def rLenO (C : Addr) (sp : Sp) (E : XK) : List V → Hp → VK → Prop := fun xs H Q => ∃ a dx fs, xs = [.ref a] ∧ H a = some (.ins C dx fs) ∧ sp [.ref a] H (fun v H' => ∃ n : Int, v = .int n ∧ 0 ≤ n ∧ n < 2 ^ 63 ∧ Q (.int n) H') E
theorem call_lenO {CX : CXT} {C f : Addr} {fd : FuncData} {k : Nat} {ps : List Str} {sp : Sp} {E : XK} (F : FnOk X.prog X.w X.K X.mg X.base CX k f fd ps sp) (hr : Room (k + 1) X.A) (hm : Meth X.K C "__len__" f) (hb : Binds X.K fd ps []) (hx : Passes CX X E) :
    CallR X (.builtin "len") (rLenO C sp E) := by
  intro pins s σ H xs us Q I r h
  obtain ⟨a, dx, fs, rfl, ha, hsp⟩ := h
  obtain ⟨u, rfl, ru⟩ := vals1 r
  cases ru
  obtain ⟨mA, J, _⟩ := ins_get I.hok ha
  obtain ⟨od, J, _⟩ := J.look
  obtain ⟨m, hF⟩ := I.fr
  refine PySem.W.len_K hF I.ok.mod.kin J hm.at_ hm.fn ?_
  have r2 : Vals [V.ref a] [Value.ref a] := .cons rfl .nil
  have hl := F.len _ _ _ _ hsp
  refine wpAny_call (codeAny_mono (F.run X.A.in1 X.stack s H ⟨[.ref a], []⟩ [.ref a] [.ref a] _ E hr.in1 I.env0.in1 (by
    have := hb s [.ref a] I.kIn (by simpa using hl)
    simpa using this) r2 hsp) fun r s' hq => ?_)
  cases r with
  | error e => exact hx pins σ H s e s' I hq
  | ok fl =>
    cases fl with
    | ret w =>
      obtain ⟨z, H', I', rz, n, ez, h0, h1, q⟩ := I.after hq
      subst ez
      obtain ⟨t, rfl⟩ := rz
      exact ⟨⟨h0, h1⟩, .int n, H', I'.tok _, ⟨_, rfl⟩, q⟩
    | next => exact False.elim hq
    | brk => exact False.elim hq
    | cont => exact False.elim hq
end
end L2R
set_option Elab.async false
set_option linter.all false
set_option maxRecDepth 100000
set_option maxHeartbeats 1000000
/-! D-logic: plain data over the abstract heap; a def's reading is brought to a statement about plain data. -/
namespace DL
open PySem PySem.Spec L2
open PyProof.Rows hiding St

/-- plain data -/
inductive D where
  | non | bl (b : Bool) | int (i : Int) | str (x : Str) | ty (n : String) | cls (a : Addr)
  | lst (xs : List D) | tup (xs : List D) | obj (C : Addr) (ns : List Str) (xs : List D)

mutual
/-- v stands for d, by the heap's part F -/
def Rep (K : PySem.W.Frag) : D → V → Hp → Prop
  | .non, v, _ => v = .non
  | .bl b, v, _ => v = .bl b
  | .int i, v, _ => v = .int i
  | .str x, v, _ => v = .str x
  | .ty n, v, _ => v = .ty n
  | .cls a, v, _ => v = .ref a
  | .lst xs, v, F => ∃ a vs, v = .ref a ∧ SqL K F a vs ∧ Reps K xs vs F
  | .tup xs, v, F => ∃ a vs, v = .ref a ∧ SqT K F a vs ∧ Reps K xs vs F
  | .obj C ns xs, v, F => ∃ a dx vs, v = .ref a ∧ F a = some (.ins C dx (ns.zip vs)) ∧ ns.length = xs.length ∧ Reps K xs vs F
def Reps (K : PySem.W.Frag) : List D → List V → Hp → Prop
  | [], vs, _ => vs = []
  | d :: ds, vs, F => ∃ v vr, vs = v :: vr ∧ Rep K d v F ∧ Reps K ds vr F
end

theorem sqT_same {K : PySem.W.Frag} {H H' : Hp} {a : Addr} {xs : List V} (e : Same H H') (h : SqT K H a xs) : SqT K H' a xs := by
  rcases h with (h | ⟨o, h⟩) | h
  · exact .inl (.inl (e _ _ h))
  · exact .inl (.inr ⟨o, e _ _ h⟩)
  · exact .inr h
section
variable {K : PySem.W.Frag} {F F' : Hp}
mutual
theorem Rep.mono (e : Same F F') : ∀ (d : D) (v : V), Rep K d v F → Rep K d v F'
  | .non, _, h => h
  | .bl _, _, h => h
  | .int _, _, h => h
  | .str _, _, h => h
  | .ty _, _, h => h
  | .cls _, _, h => h
  | .lst xs, v, h => by
    unfold Rep at h ⊢
    obtain ⟨a, vs, h1, h2, h3⟩ := h
    exact ⟨a, vs, h1, e.seq h2, Reps.mono e xs vs h3⟩
  | .tup xs, v, h => by
    unfold Rep at h ⊢
    obtain ⟨a, vs, h1, h2, h3⟩ := h
    exact ⟨a, vs, h1, sqT_same e h2, Reps.mono e xs vs h3⟩
  | .obj C ns xs, v, h => by
    unfold Rep at h ⊢
    obtain ⟨a, dx, vs, h1, h2, h3, h4⟩ := h
    exact ⟨a, dx, vs, h1, e _ _ h2, h3, Reps.mono e xs vs h4⟩
theorem Reps.mono (e : Same F F') : ∀ (ds : List D) (vs : List V), Reps K ds vs F → Reps K ds vs F'
  | [], _, h => by
    unfold Reps at h ⊢
    exact h
  | d :: ds, vs, h => by
    unfold Reps at h ⊢
    obtain ⟨v, vr, h1, h2, h3⟩ := h
    exact ⟨v, vr, h1, Rep.mono e d v h2, Reps.mono e ds vr h3⟩
end
theorem Reps.nil : Reps K [] [] F := by
  unfold Reps
  rfl
theorem Reps.cons {d : D} {v : V} {ds : List D} {vs : List V} (h : Rep K d v F) (t : Reps K ds vs F) : Reps K (d :: ds) (v :: vs) F := by
  unfold Reps
  exact ⟨v, vs, rfl, h, t⟩
theorem Reps.of_nil {vs : List V} (h : Reps K [] vs F) : vs = [] := by
  unfold Reps at h
  exact h
theorem Reps.of_cons {d : D} {ds : List D} {vs : List V} (h : Reps K (d :: ds) vs F) : ∃ v vr, vs = v :: vr ∧ Rep K d v F ∧ Reps K ds vr F := by
  unfold Reps at h
  exact h
theorem Reps.length : ∀ {ds : List D} {vs : List V}, Reps K ds vs F → vs.length = ds.length
  | [], _, h => by
    rw [h.of_nil]
    rfl
  | _ :: ds, _, h => by
    obtain ⟨v, vr, rfl, _, t⟩ := h.of_cons
    rw [List.length_cons, List.length_cons, t.length]
theorem Reps.get : ∀ {ds : List D} {vs : List V} {i : Nat} {d : D}, Reps K ds vs F → ds[i]? = some d → ∃ v, vs[i]? = some v ∧ Rep K d v F
  | [], _, _, _, _, e => by simp at e
  | _ :: _, _, 0, _, h, e => by
    obtain ⟨v, vr, rfl, r, t⟩ := h.of_cons
    cases (Option.some.inj e)
    exact ⟨v, rfl, r⟩
  | _ :: ds, _, i + 1, d, h, e => by
    obtain ⟨v, vr, rfl, r, t⟩ := h.of_cons
    exact t.get (i := i) (d := d) (by simpa using e)
theorem Reps.got : ∀ {ds : List D} {vs : List V} {i : Nat} {v : V}, Reps K ds vs F → vs[i]? = some v → ∃ d, ds[i]? = some d ∧ Rep K d v F
  | [], _, _, _, h, e => by
    rw [h.of_nil] at e
    simp at e
  | d :: _, _, 0, _, h, e => by
    obtain ⟨v, vr, rfl, r, t⟩ := h.of_cons
    cases (Option.some.inj e)
    exact ⟨d, rfl, r⟩
  | _ :: ds, _, i + 1, v, h, e => by
    obtain ⟨v', vr, rfl, r, t⟩ := h.of_cons
    exact t.got (i := i) (v := v) (by simpa using e)
theorem Reps.append : ∀ {ds es : List D} {vs ws : List V}, Reps K ds vs F → Reps K es ws F → Reps K (ds ++ es) (vs ++ ws) F
  | [], _, _, _, h, t => by
    rw [h.of_nil]
    exact t
  | _ :: _, _, _, _, h, t => by
    obtain ⟨v, vr, rfl, r, q⟩ := h.of_cons
    exact .cons r (q.append t)
theorem Reps.take : ∀ {ds : List D} {vs : List V} (n : Nat), Reps K ds vs F → Reps K (ds.take n) (vs.take n) F
  | _, _, 0, _ => .nil
  | [], _, _ + 1, h => by
    rw [h.of_nil]
    exact .nil
  | _ :: _, _, n + 1, h => by
    obtain ⟨v, vr, rfl, r, q⟩ := h.of_cons
    exact .cons r (q.take n)
theorem Reps.drop : ∀ {ds : List D} {vs : List V} (n : Nat), Reps K ds vs F → Reps K (ds.drop n) (vs.drop n) F
  | _, _, 0, h => h
  | [], _, _ + 1, h => by
    rw [h.of_nil]
    exact .nil
  | _ :: _, _, n + 1, h => by
    obtain ⟨v, vr, rfl, r, q⟩ := h.of_cons
    exact q.drop n
theorem Reps.set {d : D} {v : V} (r : Rep K d v F) : ∀ {ds : List D} {vs : List V} (i : Nat), Reps K ds vs F → Reps K (ds.set i d) (vs.set i v) F
  | [], _, _, h => by
    rw [h.of_nil]
    exact .nil
  | _ :: _, _, 0, h => by
    obtain ⟨v, vr, rfl, _, q⟩ := h.of_cons
    exact .cons r q
  | _ :: _, _, i + 1, h => by
    obtain ⟨v, vr, rfl, r', q⟩ := h.of_cons
    exact .cons r' (Reps.set r i q)
theorem Reps.eraseIdx : ∀ {ds : List D} {vs : List V} (i : Nat), Reps K ds vs F → Reps K (ds.eraseIdx i) (vs.eraseIdx i) F
  | [], _, _, h => by
    rw [h.of_nil]
    exact .nil
  | _ :: _, _, 0, h => by
    obtain ⟨v, vr, rfl, _, q⟩ := h.of_cons
    exact q
  | _ :: _, _, i + 1, h => by
    obtain ⟨v, vr, rfl, r', q⟩ := h.of_cons
    exact .cons r' (Reps.eraseIdx i q)
theorem Reps.rev : ∀ {ds : List D} {vs : List V}, Reps K ds vs F → Reps K ds.reverse vs.reverse F
  | [], _, h => by
    rw [h.of_nil]
    exact .nil
  | _ :: _, _, h => by
    obtain ⟨v, vr, rfl, r', q⟩ := h.of_cons
    rw [List.reverse_cons, List.reverse_cons]
    exact q.rev.append (.cons r' .nil)
theorem Reps.atI {ds : List D} {vs : List V} {i : Int} {d : D} (h : Reps K ds vs F) (e : L2.atI ds i = some d) : ∃ v, L2.atI vs i = some v ∧ Rep K d v F := by
  unfold L2.atI at e ⊢
  rw [h.length]
  cases q : ixN ds.length i with
  | none =>
    rw [q] at e
    cases e
  | some j =>
    rw [q] at e
    exact h.get e
theorem Reps.ints : ∀ {ns : List Int} {vs : List V}, Reps K (ns.map D.int) vs F → vs = ns.map V.int
  | [], _, h => h.of_nil
  | n :: ns, _, h => by
    obtain ⟨v, vr, rfl, r, q⟩ := h.of_cons
    unfold Rep at r
    rw [r, q.ints] <;> rfl
theorem Reps.ints_mk : ∀ {ns : List Int}, Reps K (ns.map D.int) (ns.map V.int) F
  | [] => .nil
  | n :: ns => .cons (by unfold Rep; rfl) Reps.ints_mk
theorem Reps.bls : ∀ {ns : List Bool} {vs : List V}, Reps K (ns.map D.bl) vs F → vs = ns.map V.bl
  | [], _, h => h.of_nil
  | n :: ns, _, h => by
    obtain ⟨v, vr, rfl, r, q⟩ := h.of_cons
    unfold Rep at r
    rw [r, q.bls] <;> rfl
theorem rep_int {i : Int} : Rep K (.int i) (.int i) F := by unfold Rep; rfl
theorem rep_bl {i : Bool} : Rep K (.bl i) (.bl i) F := by unfold Rep; rfl
theorem rep_non : Rep K .non .non F := by unfold Rep; rfl
theorem rep_str {x : Str} : Rep K (.str x) (.str x) F := by unfold Rep; rfl
theorem rep_ty {x : String} : Rep K (.ty x) (.ty x) F := by unfold Rep; rfl
theorem rep_cls {x : Addr} : Rep K (.cls x) (.ref x) F := by unfold Rep; rfl
theorem Rep.int {i : Int} {v : V} (h : Rep K (.int i) v F) : v = .int i := by unfold Rep at h; exact h
theorem Rep.bl {i : Bool} {v : V} (h : Rep K (.bl i) v F) : v = .bl i := by unfold Rep at h; exact h
theorem Rep.non {v : V} (h : Rep K .non v F) : v = .non := by unfold Rep at h; exact h
theorem Rep.str {x : Str} {v : V} (h : Rep K (.str x) v F) : v = .str x := by unfold Rep at h; exact h
theorem Rep.ty {x : String} {v : V} (h : Rep K (.ty x) v F) : v = .ty x := by unfold Rep at h; exact h
theorem Rep.cls {x : Addr} {v : V} (h : Rep K (.cls x) v F) : v = .ref x := by unfold Rep at h; exact h
theorem Rep.lst {xs : List D} {v : V} (h : Rep K (.lst xs) v F) : ∃ a vs, v = .ref a ∧ SqL K F a vs ∧ Reps K xs vs F := by unfold Rep at h; exact h
theorem Rep.tup {xs : List D} {v : V} (h : Rep K (.tup xs) v F) : ∃ a vs, v = .ref a ∧ SqT K F a vs ∧ Reps K xs vs F := by unfold Rep at h; exact h
theorem Rep.obj {C : Addr} {ns : List Str} {xs : List D} {v : V} (h : Rep K (.obj C ns xs) v F) : ∃ a dx vs, v = .ref a ∧ F a = some (.ins C dx (ns.zip vs)) ∧ ns.length = xs.length ∧ Reps K xs vs F := by unfold Rep at h; exact h
theorem rep_lst {xs : List D} {a : Addr} {vs : List V} (h : SqL K F a vs) (r : Reps K xs vs F) : Rep K (.lst xs) (.ref a) F := by unfold Rep; exact ⟨a, vs, rfl, h, r⟩
theorem rep_tup {xs : List D} {a : Addr} {vs : List V} (h : SqT K F a vs) (r : Reps K xs vs F) : Rep K (.tup xs) (.ref a) F := by unfold Rep; exact ⟨a, vs, rfl, h, r⟩
theorem rep_obj {C : Addr} {ns : List Str} {xs : List D} {a dx : Addr} {vs : List V} (h : F a = some (.ins C dx (ns.zip vs))) (hl : ns.length = xs.length) (r : Reps K xs vs F) : Rep K (.obj C ns xs) (.ref a) F := by unfold Rep; exact ⟨a, dx, vs, rfl, h, hl, r⟩
end

/-! ### slots, what may change -/
inductive Sl where
  | un | val (d : D) | own (xs : List D) | hand | self (C : Addr) (ns : List Str) (xs : List D)
/-- a thing that calls change: what is true of it -/
structure HandP where
  J : Hp → Hp → Addr → Prop
  stay : ∀ F H F' H' a, J F H a → Same F F' → H' a = H a → J F' H' a
  there : ∀ F H a, J F H a → H a ≠ none
/-- the law's hand: its cells, the place, the rest, the total -/
def handX (xs : List D) : Prop := ∃ (ns : List Int) (i r t : Int), xs = [.lst (ns.map D.int), .int i, .int r, .int t] ∧ (∀ n ∈ ns, 0 ≤ n) ∧ 0 ≤ i ∧ 0 ≤ r
def handP (K : PySem.W.Frag) : HandP where
  J := fun F H a => ∃ xs vs, handX xs ∧ H a = some (.lst vs) ∧ Reps K xs vs F
  stay := fun F H F' H' a j e h => by
    obtain ⟨xs, vs, h1, h2, h3⟩ := j
    exact ⟨xs, vs, h1, by rw [h]; exact h2, h3.mono e⟩
  there := fun F H a j => by
    obtain ⟨xs, vs, _, h1, _⟩ := j
    rw [h1]
    exact fun z => nomatch z
/-- the entry: the frozen part F0 of the heap H0; m: the thing that may change (a hand), sf: the instance that is being made -/
structure C0 where
  m : Option Addr
  sf : Option Addr
  F0 : Hp
  H0 : Hp
  /-- the list in slot 0, where it is a list of one's own -/
  wf : Option Addr
def SlOk (K : PySem.W.Frag) (c : C0) (F H : Hp) : Sl → Option V → Prop
  | .un, _ => True
  | .val d, o => ∃ v, o = some v ∧ Rep K d v F
  | .own xs, o => ∃ p vs, o = some (.ref p) ∧ c.H0 p = none ∧ F p = none ∧ H p = some (.lst vs) ∧ Reps K xs vs F
  | .hand, o => ∃ p, o = some (.ref p) ∧ c.m = some p
  | .self C ns xs, o => ∃ x dx vs, o = some (.ref x) ∧ c.sf = some x ∧ H x = some (.ins C dx (ns.zip vs)) ∧ ns.length = xs.length ∧ Reps K xs vs F
def OwnA (Γ : List Sl) (σ : St) (b : Addr) : Prop := ∃ (i : Nat) (xs : List D), Γ[i]? = some (.own xs) ∧ σ[i]? = some (some (.ref b))
structure EnvR (K : PySem.W.Frag) (c : C0) (Γ : List Sl) (σ : St) (F H : Hp) : Prop where
  len : σ.length = Γ.length
  sl : ∀ (i : Nat) (s : Sl), Γ[i]? = some s → ∃ o, σ[i]? = some o ∧ SlOk K c F H s o
  fx : Same c.F0 F
  fr : ∀ b, c.H0 b ≠ none → F b = c.F0 b
  le : Same F H
  ex : ∀ b o, c.H0 b = some o → c.m ≠ some b → c.sf ≠ some b → H b = some o
  hm : ∀ a, c.m = some a → (handP K).J F H a ∧ c.F0 a = none ∧ c.H0 a ≠ none ∧ c.sf ≠ some a
  hs : ∀ x, c.sf = some x → c.F0 x = none ∧ c.H0 x ≠ none ∧ H x ≠ none
  dis : ∀ (i j : Nat) (xs ys : List D) (p : Addr), i ≠ j → Γ[i]? = some (.own xs) → Γ[j]? = some (.own ys) → σ[i]? = some (some (.ref p)) → σ[j]? = some (some (.ref p)) → False
  s0 : ∀ (i : Nat) (C : Addr) (ns : List Str) (xs : List D), Γ[i]? = some (.self C ns xs) → i = 0
  w0 : ∀ (a : Addr) (xs : List D), c.wf = some a → Γ[0]? = some (.own xs) → σ[0]? = some (some (.ref a))
structure Post (K : PySem.W.Frag) (c : C0) (Γ : List Sl) (σ : St) (F H : Hp) (Γ' : List Sl) (F' H' : Hp) : Prop where
  env : EnvR K c Γ' σ F' H'
  fx : Same F F'
  fr : ∀ b, H b ≠ none → ¬ OwnA Γ σ b → F' b = F b
  keep : ∀ b o, H b = some o → ¬ OwnA Γ σ b → c.m ≠ some b → c.sf ≠ some b → H' b = some o
  own : ∀ b, OwnA Γ' σ b → OwnA Γ σ b
  th : ∀ b, H b ≠ none → H' b ≠ none
theorem upd_there {H : Hp} {p b : Addr} {o : HO} (h : H b ≠ none) : upd H p o b ≠ none := by
  by_cases z : b = p
  · subst z
    rw [upd_same]
    exact fun z => nomatch z
  · rw [upd_ne z]
    exact h
theorem same_there {H H' : Hp} {b : Addr} (s : Same H H') (h : H b ≠ none) : H' b ≠ none := fun z => h (s.free z)
section
variable {K : PySem.W.Frag} {c : C0} {Γ Γ1 Γ2 : List Sl} {σ : St} {F H F1 H1 F2 H2 : Hp}
theorem Post.refl (e : EnvR K c Γ σ F H) : Post K c Γ σ F H Γ F H := ⟨e, Same.refl _, fun _ _ _ => rfl, fun _ _ h _ _ _ => h, fun _ h => h, fun _ h => h⟩
theorem EnvR.m_there (e : EnvR K c Γ σ F H) {a : Addr} (h : c.m = some a) : H a ≠ none := (handP K).there _ _ _ (e.hm a h).1
theorem EnvR.m_free (e : EnvR K c Γ σ F H) {a : Addr} (h : c.m = some a) : F a = none := by rw [e.fr a (e.hm a h).2.2.1, (e.hm a h).2.1]
theorem EnvR.s_free (e : EnvR K c Γ σ F H) {a : Addr} (h : c.sf = some a) : F a = none := by rw [e.fr a (e.hs a h).2.1, (e.hs a h).1]
theorem EnvR.own_ok (e : EnvR K c Γ σ F H) {b : Addr} (h : OwnA Γ σ b) : c.H0 b = none ∧ F b = none ∧ ∃ vs, H b = some (.lst vs) := by
  obtain ⟨i, xs, h1, h2⟩ := h
  obtain ⟨o, h3, p, vs, h4, h5, h6, h7, h8⟩ := e.sl i _ h1
  rw [h2] at h3
  cases (Option.some.inj h3)
  cases h4
  exact ⟨h5, h6, vs, h7⟩
theorem Post.trans (a : Post K c Γ σ F H Γ1 F1 H1) (b : Post K c Γ1 σ F1 H1 Γ2 F2 H2) : Post K c Γ σ F H Γ2 F2 H2 where
  env := b.env
  fx := a.fx.trans b.fx
  fr := fun x hx ho => by
    rw [b.fr x ?_ fun z => ho (a.own x z), a.fr x hx ho]
    by_cases hm : c.m = some x
    · exact a.env.m_there hm
    · by_cases hs : c.sf = some x
      · exact (a.env.hs x hs).2.2
      · cases q : H x with
        | none => exact absurd q hx
        | some o =>
          rw [a.keep x o q ho hm hs]
          exact fun z => nomatch z
  keep := fun x o hx ho hm hs => b.keep x o (a.keep x o hx ho hm hs) (fun z => ho (a.own x z)) hm hs
  own := fun x h => a.own x (b.own x h)
  th := fun x h => b.th x (a.th x h)
/-- things are made, nothing changes -/
structure UpN (F H F' H' : Hp) : Prop where
  ex : Same H H'
  fx : Same F F'
  fr : ∀ b, H b ≠ none → F' b = F b
  le : Same F' H'
theorem UpN.refl (h : Same F H) : UpN F H F H := ⟨Same.refl _, Same.refl _, fun _ _ => rfl, h⟩
theorem UpN.trans (a : UpN F H F1 H1) (b : UpN F1 H1 F2 H2) : UpN F H F2 H2 where
  ex := a.ex.trans b.ex
  fx := a.fx.trans b.fx
  fr := fun x hx => by
    rw [b.fr x ?_, a.fr x hx]
    cases q : H x with
    | none => exact absurd q hx
    | some o =>
      rw [a.ex x o q]
      exact fun z => nomatch z
  le := b.le
theorem same_new {p : Addr} {o : HO} (h : H p = none) : Same H (upd H p o) := fun b x e => by
  rw [upd_ne (ne_of_none e h)]
  exact e
theorem free_le (le : Same F H) {p : Addr} (h : H p = none) : F p = none := le.free h
theorem UpN.new {p : Addr} {o : HO} (le : Same F H) (h : H p = none) : UpN F H (upd F p o) (upd H p o) := ⟨same_new h, same_new (free_le le h), fun b hb => by
  rw [upd_ne (fun q => hb (by rw [q]; exact h))], fun b x e => by
    by_cases hb : b = p
    · subst hb
      rw [upd_same] at e ⊢
      exact e
    · rw [upd_ne hb] at e ⊢
      exact le _ _ e⟩
/-- .. the new thing is not frozen -/
theorem UpN.lay {p : Addr} {o : HO} (le : Same F H) (h : H p = none) : UpN F H F (upd H p o) := ⟨same_new h, Same.refl _, fun _ _ => rfl, le.trans (same_new h)⟩
theorem EnvR.up (e : EnvR K c Γ σ F H) (u : UpN F H F1 H1) : EnvR K c Γ σ F1 H1 where
  len := e.len
  sl := fun i s hs => by
    obtain ⟨o, h1, h2⟩ := e.sl i s hs
    refine ⟨o, h1, ?_⟩
    cases s with
    | un => exact True.intro
    | val d =>
      obtain ⟨v, q1, q2⟩ := h2
      exact ⟨v, q1, q2.mono u.fx⟩
    | own xs =>
      obtain ⟨p, vs, q1, q2, q3, q4, q5⟩ := h2
      refine ⟨p, vs, q1, q2, ?_, u.ex _ _ q4, q5.mono u.fx⟩
      rw [u.fr p (by rw [q4]; exact fun z => nomatch z)]
      exact q3
    | hand => exact h2
    | self C ns xs =>
      obtain ⟨x, dx, vs, q1, q2, q3, q4, q5⟩ := h2
      exact ⟨x, dx, vs, q1, q2, u.ex _ _ q3, q4, q5.mono u.fx⟩
  fx := e.fx.trans u.fx
  fr := fun b hb => by
    rw [← e.fr b hb]
    by_cases hm : c.m = some b
    · exact u.fr b (e.m_there hm)
    · by_cases hs : c.sf = some b
      · exact u.fr b (e.hs b hs).2.2
      · cases q : c.H0 b with
        | none => exact absurd q hb
        | some o => exact u.fr b (by rw [e.ex b o q hm hs]; exact fun z => nomatch z)
  le := u.le
  ex := fun b o h1 h2 h3 => u.ex _ _ (e.ex b o h1 h2 h3)
  hm := fun a ha => by
    obtain ⟨j, r⟩ := e.hm a ha
    refine ⟨(handP K).stay _ _ _ _ _ j u.fx ?_, r⟩
    cases q : H a with
    | none => exact absurd q ((handP K).there _ _ _ j)
    | some o => exact u.ex _ _ q
  hs := fun x hx => by
    obtain ⟨h1, h2, h3⟩ := e.hs x hx
    refine ⟨h1, h2, fun z => h3 ?_⟩
    exact u.ex.free z
  dis := e.dis
  s0 := e.s0
  w0 := e.w0
theorem EnvR.upP (e : EnvR K c Γ σ F H) (u : UpN F H F1 H1) : Post K c Γ σ F H Γ F1 H1 :=
  ⟨e.up u, u.fx, fun b hb _ => u.fr b hb, fun b o h _ _ _ => u.ex b o h, fun _ h => h, fun b h => same_there u.ex h⟩
end
end DL
set_option Elab.async false
set_option linter.all false
set_option maxRecDepth 100000
set_option maxHeartbeats 1000000
namespace DL
open PySem PySem.Spec L2
open PyProof.Rows hiding St
/-! ### expressions, tests, argument lists -/
abbrev TD := List Sl → (D → List Sl → Prop) → Prop
abbrev TDT := List Sl → (Bool → List Sl → Prop) → Prop
abbrev TDA := List Sl → (List D → List Sl → Prop) → Prop
abbrev ROp := D → D → (D → Prop) → Prop
abbrev RCl := List D → (D → Prop) → Prop
def Ev (K : PySem.W.Frag) (te : TE) (td : TD) : Prop := ∀ (c : C0) (Γ : List Sl) (σ : St) (F H : Hp) (Qd : D → List Sl → Prop) (Q : VK), EnvR K c Γ σ F H → td Γ Qd →
  (∀ d v Γ' F' H', Qd d Γ' → Post K c Γ σ F H Γ' F' H' → Rep K d v F' → Q v H') → te σ H Q
def EvT (K : PySem.W.Frag) (te : TT) (td : TDT) : Prop := ∀ (c : C0) (Γ : List Sl) (σ : St) (F H : Hp) (Qd : Bool → List Sl → Prop) (Q : Bool → Hp → Prop), EnvR K c Γ σ F H → td Γ Qd →
  (∀ d Γ' F' H', Qd d Γ' → Post K c Γ σ F H Γ' F' H' → Q d H') → te σ H Q
def EvA (K : PySem.W.Frag) (te : TA) (td : TDA) : Prop := ∀ (c : C0) (Γ : List Sl) (σ : St) (F H : Hp) (Qd : List D → List Sl → Prop) (Q : List V → Hp → Prop), EnvR K c Γ σ F H → td Γ Qd →
  (∀ d v Γ' F' H', Qd d Γ' → Post K c Γ σ F H Γ' F' H' → Reps K d v F' → Q v H') → te σ H Q
/-- .. a list that the def itself has may stand for it, too -/
def RepB (K : PySem.W.Frag) (d : D) (v : V) (F H : Hp) : Prop := Rep K d v F ∨ ∃ xs p vs, d = .lst xs ∧ v = .ref p ∧ H p = some (.lst vs) ∧ Reps K xs vs F
def EvB (K : PySem.W.Frag) (te : TE) (td : TD) : Prop := ∀ (c : C0) (Γ : List Sl) (σ : St) (F H : Hp) (Qd : D → List Sl → Prop) (Q : VK), EnvR K c Γ σ F H → td Γ Qd →
  (∀ d v Γ' F' H', Qd d Γ' → Post K c Γ σ F H Γ' F' H' → RepB K d v F' H' → Q v H') → te σ H Q
section
variable {K : PySem.W.Frag} {c : C0} {Γ Γ1 Γ2 : List Sl} {σ : St} {F H F1 H1 F2 H2 : Hp} {te ta tb tc : TE} {da db dc td : TD} {tt tu : TT} {dt du : TDT} {tas : TA} {das : TDA}
theorem Ev.b (h : Ev K te td) : EvB K te td := fun c Γ σ F H Qd Q e t k => h c Γ σ F H Qd Q e t fun d v Γ' F' H' q p r => k d v Γ' F' H' q p (.inl r)
theorem RepB.lst {xs : List D} {v : V} (le : Same F H) (h : RepB K (.lst xs) v F H) : ∃ p vs, v = .ref p ∧ SqL K H p vs ∧ Reps K xs vs F := by
  rcases h with h | ⟨ys, p, vs, e, h1, h2, h3⟩
  · obtain ⟨a, vs, h1, h2, h3⟩ := h.lst
    exact ⟨a, vs, h1, le.seq h2, h3⟩
  · cases e
    exact ⟨p, vs, h1, .inl (.inl h2), h3⟩
theorem RepB.tup {xs : List D} {v : V} (le : Same F H) (h : RepB K (.tup xs) v F H) : ∃ p vs, v = .ref p ∧ SqT K H p vs ∧ Reps K xs vs F := by
  rcases h with h | ⟨ys, p, vs, e, h1, h2, h3⟩
  · obtain ⟨a, vs, h1, h2, h3⟩ := h.tup
    exact ⟨a, vs, h1, sqT_same le h2, h3⟩
  · cases e
theorem RepB.nl {d : D} {v : V} (h : RepB K d v F H) (n : ∀ xs, d ≠ .lst xs) : Rep K d v F := by
  rcases h with h | ⟨ys, p, vs, e, _⟩
  · exact h
  · exact absurd e (n ys)
theorem RepB.int {i : Int} {v : V} (h : RepB K (.int i) v F H) : v = .int i := (h.nl fun _ z => nomatch z).int
theorem RepB.bl {i : Bool} {v : V} (h : RepB K (.bl i) v F H) : v = .bl i := (h.nl fun _ z => nomatch z).bl
theorem RepB.non {v : V} (h : RepB K .non v F H) : v = .non := (h.nl fun _ z => nomatch z).non
theorem RepB.str {x : Str} {v : V} (h : RepB K (.str x) v F H) : v = .str x := (h.nl fun _ z => nomatch z).str
/-! constants, names -/
def dC (d : D) : TD := fun Γ Q => Q d Γ
def dVar (i : Nat) : TD := fun Γ Q => ∃ d, Γ[i]? = some (.val d) ∧ Q d Γ
def dOwn (i : Nat) : TD := fun Γ Q => ∃ xs, Γ[i]? = some (.own xs) ∧ Q (.lst xs) Γ
theorem ev_c {d : D} {v : V} (h : ∀ F, Rep K d v F) : Ev K (tC v) (dC d) := fun c Γ σ F H Qd Q e t k => k d v Γ F H t (Post.refl e) (h F)
theorem ev_int {i : Int} : Ev K (tC (.int i)) (dC (.int i)) := ev_c fun _ => rep_int
theorem ev_bl {i : Bool} : Ev K (tC (.bl i)) (dC (.bl i)) := ev_c fun _ => rep_bl
theorem ev_non : Ev K (tC .non) (dC .non) := ev_c fun _ => rep_non
theorem ev_str {i : Str} : Ev K (tC (.str i)) (dC (.str i)) := ev_c fun _ => rep_str
theorem ev_ty {i : String} : Ev K (tC (.ty i)) (dC (.ty i)) := ev_c fun _ => rep_ty
theorem ev_cls {a : Addr} : Ev K (tC (.ref a)) (dC (.cls a)) := ev_c fun _ => rep_cls
theorem ev_var {i : Nat} : Ev K (tVar i) (dVar i) := fun c Γ σ F H Qd Q e t k => by
  obtain ⟨d, h1, h2⟩ := t
  obtain ⟨o, h3, v, h4, h5⟩ := e.sl i _ h1
  subst h4
  exact ⟨v, h3, k d v Γ F H h2 (Post.refl e) h5⟩
theorem ev_own {i : Nat} : EvB K (tVar i) (dOwn i) := fun c Γ σ F H Qd Q e t k => by
  obtain ⟨xs, h1, h2⟩ := t
  obtain ⟨o, h3, p, vs, h4, h5, h6, h7, h8⟩ := e.sl i _ h1
  subst h4
  exact ⟨_, h3, k _ _ Γ F H h2 (Post.refl e) (.inr ⟨xs, p, vs, rfl, rfl, h7, h8⟩)⟩
/-! two-place operations -/
def OpD (K : PySem.W.Frag) (r : R2) (rd : ROp) : Prop := ∀ (F H : Hp) (a b : D) (va vb : V) (Qd : D → Prop) (Q : VK), Same F H → RepB K a va F H → RepB K b vb F H → rd a b Qd →
  (∀ d v F' H', Qd d → UpN F H F' H' → Rep K d v F' → Q v H') → r va vb H Q
def d2 (rd : ROp) (da db : TD) : TD := fun Γ Q => da Γ fun a Γ1 => db Γ1 fun b Γ2 => rd a b fun d => Q d Γ2
theorem ev_op {r : R2} {rd : ROp} (ha : Ev K ta da) (hb : Ev K tb db) (hr : OpD K r rd) : Ev K (tOp r ta tb) (d2 rd da db) := fun c Γ σ F H Qd Q e t k =>
  ha c Γ σ F H _ _ e t fun a va Γ1 F1 H1 t1 p1 r1 => hb c Γ1 σ F1 H1 _ _ p1.env t1 fun b vb Γ2 F2 H2 t2 p2 r2 =>
    hr F2 H2 a b va vb _ Q p2.env.le (.inl (r1.mono p2.fx)) (.inl r2) t2 fun d v F3 H3 q u r3 => k d v Γ2 F3 H3 q ((p1.trans p2).trans (p2.env.upP u)) r3
/-- the second one a list that the def itself has -/
theorem ev_opR {r : R2} {rd : ROp} (ha : Ev K ta da) (hb : EvB K tb db) (hr : OpD K r rd) : Ev K (tOp r ta tb) (d2 rd da db) := fun c Γ σ F H Qd Q e t k =>
  ha c Γ σ F H _ _ e t fun a va Γ1 F1 H1 t1 p1 r1 => hb c Γ1 σ F1 H1 _ _ p1.env t1 fun b vb Γ2 F2 H2 t2 p2 r2 =>
    hr F2 H2 a b va vb _ Q p2.env.le (.inl (r1.mono p2.fx)) r2 t2 fun d v F3 H3 q u r3 => k d v Γ2 F3 H3 q ((p1.trans p2).trans (p2.env.upP u)) r3
/-- the first one -/
def d2O (rd : ROp) (i : Nat) (db : TD) : TD := fun Γ Q => (∃ xs, Γ[i]? = some (.own xs)) ∧ db Γ fun b Γ1 => ∃ xs, Γ1[i]? = some (.own xs) ∧ rd (.lst xs) b fun d => Q d Γ1
theorem ev_opO {r : R2} {rd : ROp} {i : Nat} (hb : Ev K tb db) (hr : OpD K r rd) : Ev K (tOp r (tVar i) tb) (d2O rd i db) := fun c Γ σ F H Qd Q e t k => by
  obtain ⟨⟨xs, h1⟩, t⟩ := t
  obtain ⟨o, h3, p, vs, h4, h5, h6, h7, h8⟩ := e.sl i _ h1
  subst h4
  refine ⟨_, h3, hb c Γ σ F H _ _ e t fun b vb Γ2 F2 H2 t2 p2 r2 => ?_⟩
  obtain ⟨ys, g1, t2⟩ := t2
  obtain ⟨o, g3, p', vs', g4, g5, g6, g7, g8⟩ := p2.env.sl i _ g1
  rw [h3] at g3
  have g3 := Option.some.inj g3
  subst g3
  cases g4
  exact hr F2 H2 _ b _ vb _ Q p2.env.le (.inr ⟨ys, p, vs', rfl, rfl, g7, g8⟩) (.inl r2) t2 fun d v F3 H3 q u r3 => k d v Γ2 F3 H3 q (p2.trans (p2.env.upP u)) r3
/-! their kinds -/
def oI (g : Int → Int → D) : ROp := fun a b q => ∃ i j, a = .int i ∧ b = .int j ∧ q (g i j)
def oIC (C : Int → Int → Prop) (g : Int → Int → D) : ROp := fun a b q => ∃ i j, a = .int i ∧ b = .int j ∧ C i j ∧ q (g i j)
theorem opd_i {g : Int → Int → V} {gd : Int → Int → D} (h : ∀ i j F, Rep K (gd i j) (g i j) F) : OpD K (rI0 g) (oI gd) := fun F H a b va vb Qd Q le ra rb t k => by
  obtain ⟨i, j, rfl, rfl, q⟩ := t
  exact ⟨i, j, ra.int, rb.int, k _ _ F H q (UpN.refl le) (h i j F)⟩
theorem opd_iC {C : Int → Int → Prop} {g : Int → Int → V} {gd : Int → Int → D} (h : ∀ i j F, Rep K (gd i j) (g i j) F) : OpD K (rI C g) (oIC C gd) := fun F H a b va vb Qd Q le ra rb t k => by
  obtain ⟨i, j, rfl, rfl, hc, q⟩ := t
  exact ⟨i, j, ra.int, rb.int, hc, k _ _ F H q (UpN.refl le) (h i j F)⟩
abbrev oAdd : ROp := oI fun i j => .int (i + j)
abbrev oSub : ROp := oI fun i j => .int (i - j)
abbrev oMul : ROp := oIC CMul fun i j => .int (i * j)
abbrev oFdiv : ROp := oIC CDivN fun i j => .int (i.fdiv j)
abbrev oMod : ROp := oIC (fun _ j => j ≠ 0) fun i j => .int (i.fmod j)
abbrev oPow : ROp := oIC CPow fun i j => .int (i ^ j.toNat)
abbrev oLt : ROp := oI fun i j => .bl (decide (i < j))
abbrev oLe : ROp := oI fun i j => .bl (decide (i ≤ j))
abbrev oGt : ROp := oI fun i j => .bl (decide (j < i))
abbrev oGe : ROp := oI fun i j => .bl (decide (j ≤ i))
theorem od_add : OpD K (rI0 fun i j => .int (i + j)) oAdd := opd_i fun _ _ _ => rep_int
theorem od_sub : OpD K (rI0 fun i j => .int (i - j)) oSub := opd_i fun _ _ _ => rep_int
theorem od_mul : OpD K (rI CMul fun i j => .int (i * j)) oMul := opd_iC fun _ _ _ => rep_int
theorem od_fdiv : OpD K (rI CDivN fun i j => .int (i.fdiv j)) oFdiv := opd_iC fun _ _ _ => rep_int
theorem od_mod : OpD K (rI (fun _ j => j ≠ 0) fun i j => .int (i.fmod j)) oMod := opd_iC fun _ _ _ => rep_int
theorem od_pow : OpD K (rI CPow fun i j => .int (i ^ j.toNat)) oPow := opd_iC fun _ _ _ => rep_int
theorem od_lt : OpD K (rI0 fun i j => .bl (decide (i < j))) oLt := opd_i fun _ _ _ => rep_bl
theorem od_le : OpD K (rI0 fun i j => .bl (decide (i ≤ j))) oLe := opd_i fun _ _ _ => rep_bl
theorem od_gt : OpD K (rI0 fun i j => .bl (decide (j < i))) oGt := opd_i fun _ _ _ => rep_bl
theorem od_ge : OpD K (rI0 fun i j => .bl (decide (j ≤ i))) oGe := opd_i fun _ _ _ => rep_bl
/-! is None -/
def D.isN : D → Bool
  | .non => true
  | _ => false
theorem isN_rep {d : D} {v : V} (h : RepB K d v F H) : decide (v = .non) = d.isN := by
  cases d with
  | non => rw [h.non]; rfl
  | int i => rw [h.int]; rfl
  | bl i => rw [h.bl]; rfl
  | str i => rw [h.str]; rfl
  | ty i => rw [(h.nl fun _ z => nomatch z).ty]; rfl
  | cls i => rw [(h.nl fun _ z => nomatch z).cls]; rfl
  | lst xs =>
    rcases h with h | ⟨ys, p, vs, e, h1, h2, h3⟩
    · obtain ⟨a, vs, h1, _⟩ := h.lst
      rw [h1]; rfl
    · rw [h1]; rfl
  | tup xs =>
    obtain ⟨a, vs, h1, _⟩ := (h.nl fun _ z => nomatch z).tup
    rw [h1]; rfl
  | obj C ns xs =>
    obtain ⟨a, dx, vs, h1, _⟩ := (h.nl fun _ z => nomatch z).obj
    rw [h1]; rfl
def oIsN : ROp := fun a b q => b = .non ∧ q (.bl a.isN)
def oNotN : ROp := fun a b q => b = .non ∧ q (.bl (!a.isN))
theorem od_isN : OpD K (fun x y H Q => y = .non ∧ Q (.bl (decide (x = .non))) H) oIsN := fun F H a b va vb Qd Q le ra rb t k => by
  obtain ⟨rfl, q⟩ := t
  refine ⟨rb.non, ?_⟩
  rw [isN_rep ra]
  exact k _ _ F H q (UpN.refl le) rep_bl
theorem od_notN : OpD K (fun x y H Q => y = .non ∧ Q (.bl (!decide (x = .non))) H) oNotN := fun F H a b va vb Qd Q le ra rb t k => by
  obtain ⟨rfl, q⟩ := t
  refine ⟨rb.non, ?_⟩
  rw [isN_rep ra]
  exact k _ _ F H q (UpN.refl le) rep_bl
/-! == of data -/
mutual
def toP : D → PyData
  | .non => .none
  | .bl b => .bool b
  | .int i => .int i
  | .str x => .str x
  | .lst xs => .list (toPs xs)
  | .tup xs => .tuple (toPs xs)
  | _ => .none
def toPs : List D → List PyData
  | [] => []
  | d :: ds => toP d :: toPs ds
end
mutual
/-- nothing but None, truths, numbers, lists, tuples -/
def plain : D → Bool
  | .non => true
  | .bl _ => true
  | .int _ => true
  | .lst xs => plains xs
  | .tup xs => plains xs
  | _ => false
def plains : List D → Bool
  | [] => true
  | d :: ds => plain d && plains ds
end
mutual
theorem dp_of (le : Same F H) : ∀ (d : D) (v : V), plain d = true → RepB K d v F H → Dp K H v (toP d)
  | .non, _, _, h => by
    rw [h.non]
    unfold toP
    exact .non
  | .bl b, _, _, h => by
    rw [h.bl]
    unfold toP
    exact .bl b
  | .int i, _, _, h => by
    rw [h.int]
    unfold toP
    exact .int i
  | .str _, _, p, _ => by
    unfold plain at p
    cases p
  | .ty _, _, p, _ => by
    unfold plain at p
    cases p
  | .cls _, _, p, _ => by
    unfold plain at p
    cases p
  | .obj _ _ _, _, p, _ => by
    unfold plain at p
    cases p
  | .lst xs, v, p, h => by
    unfold plain at p
    obtain ⟨a, vs, h1, h2, h3⟩ := h.lst le
    rw [h1]
    unfold toP
    exact .lst h2 (dps_of le xs vs p h3)
  | .tup xs, v, p, h => by
    unfold plain at p
    obtain ⟨a, vs, h1, h2, h3⟩ := h.tup le
    rw [h1]
    unfold toP
    exact .tup h2 (dps_of le xs vs p h3)
theorem dps_of (le : Same F H) : ∀ (ds : List D) (vs : List V), plains ds = true → Reps K ds vs F → DpAll K H vs (toPs ds)
  | [], _, _, h => by
    rw [h.of_nil]
    unfold toPs
    exact .nil
  | d :: ds, _, p, h => by
    obtain ⟨v, vr, e, r, t⟩ := h.of_cons
    rw [e]
    unfold plains at p
    obtain ⟨p1, p2⟩ := Bool.and_eq_true_iff.mp p
    unfold toPs
    exact .cons (dp_of le d v p1 (.inl r)) (dps_of le ds vr p2 t)
end
def eqD (a b : D) : Bool := PyData.eqv (toP a) (toP b)
/-- plain, and not too deep -/
def shp (d : D) : Prop := plain d = true ∧ SeqAt.shaped (toP d) = true
def oEq : ROp := fun a b q => shp a ∧ shp b ∧ q (.bl (eqD a b))
def oNe : ROp := fun a b q => shp a ∧ shp b ∧ q (.bl (!eqD a b))
theorem od_eq : OpD K (rEqD K) oEq := fun F H a b va vb Qd Q le ra rb t k => by
  obtain ⟨h1, h2, q⟩ := t
  exact ⟨toP a, toP b, dp_of le a va h1.1 ra, dp_of le b vb h2.1 rb, h1.2, h2.2, k _ _ F H q (UpN.refl le) rep_bl⟩
theorem od_ne : OpD K (rNeD K) oNe := fun F H a b va vb Qd Q le ra rb t k => by
  obtain ⟨h1, h2, q⟩ := t
  exact ⟨toP a, toP b, dp_of le a va h1.1 ra, dp_of le b vb h2.1 rb, h1.2, h2.2, k _ _ F H q (UpN.refl le) rep_bl⟩
/-! a number in a list, a tuple of numbers -/
def items : D → Option (List D)
  | .lst xs => some xs
  | .tup xs => some xs
  | _ => none
theorem items_seq {d : D} {v : V} {xs : List D} (le : Same F H) (h : RepB K d v F H) (e : items d = some xs) : ∃ p vs, v = .ref p ∧ (SqL K H p vs ∨ SqT K H p vs) ∧ Reps K xs vs F := by
  cases d with
  | lst ys =>
    cases (Option.some.inj e)
    obtain ⟨p, vs, h1, h2, h3⟩ := h.lst le
    exact ⟨p, vs, h1, .inl h2, h3⟩
  | tup ys =>
    cases (Option.some.inj e)
    obtain ⟨p, vs, h1, h2, h3⟩ := h.tup le
    exact ⟨p, vs, h1, .inr h2, h3⟩
  | _ => cases e
theorem flat_ints : ∀ ns : List Int, (ns.map V.int).all flatV = true
  | [] => rfl
  | n :: ns => by
    rw [List.map_cons, List.all_cons, flat_ints ns]
    rfl
theorem inV_ints (i : Int) : ∀ ns : List Int, inV (.int i) (ns.map V.int) = decide (i ∈ ns)
  | [] => rfl
  | n :: ns => by
    show (eqV (.int n) (.int i) || inV (.int i) (ns.map V.int)) = _
    rw [inV_ints i ns]
    show ((n == i) || decide (i ∈ ns)) = _
    by_cases h : n = i
    · subst h
      simp
    · have h' : ¬ i = n := fun z => h z.symm
      simp [h, h']
def oIn : ROp := fun a b q => ∃ (i : Int) (ns : List Int), a = .int i ∧ items b = some (ns.map D.int) ∧ q (.bl (decide (i ∈ ns)))
def oNin : ROp := fun a b q => ∃ (i : Int) (ns : List Int), a = .int i ∧ items b = some (ns.map D.int) ∧ q (.bl (!decide (i ∈ ns)))
theorem od_in : OpD K (rIn K false) oIn := fun F H a b va vb Qd Q le ra rb t k => by
  obtain ⟨i, ns, rfl, hb, q⟩ := t
  obtain ⟨p, vs, h1, h2, h3⟩ := items_seq le rb hb
  have e := h3.ints
  subst e
  rw [ra.int]
  refine ⟨p, _, h1, h2, rfl, flat_ints ns, ?_⟩
  show Q (.bl (inV (.int i) (ns.map V.int))) H
  rw [inV_ints]
  exact k _ _ F H q (UpN.refl le) rep_bl
theorem od_nin : OpD K (rIn K true) oNin := fun F H a b va vb Qd Q le ra rb t k => by
  obtain ⟨i, ns, rfl, hb, q⟩ := t
  obtain ⟨p, vs, h1, h2, h3⟩ := items_seq le rb hb
  have e := h3.ints
  subst e
  rw [ra.int]
  refine ⟨p, _, h1, h2, rfl, flat_ints ns, ?_⟩
  show Q (.bl (!inV (.int i) (ns.map V.int))) H
  rw [inV_ints]
  exact k _ _ F H q (UpN.refl le) rep_bl
/-! xs[i] -/
def rIx2 (K : PySem.W.Frag) : R2 := fun x y H Q => rIxL K x y H Q ∨ rIxT K x y H Q
theorem ix_any {X : Cx} : IxR X (rIx2 X.K) := ix_list.or ix_tup
def oIx : ROp := fun a b q => ∃ xs i d, items a = some xs ∧ b = .int i ∧ atI xs i = some d ∧ q d
theorem od_ix : OpD K (rIx2 K) oIx := fun F H a b va vb Qd Q le ra rb t k => by
  obtain ⟨xs, i, d, ha, rfl, hd, q⟩ := t
  obtain ⟨p, vs, h1, h2, h3⟩ := items_seq le ra ha
  obtain ⟨v, hv, rv⟩ := h3.atI hd
  rcases h2 with h2 | h2
  · exact .inl ⟨p, vs, i, v, h1, rb.int, h2, hv, k d v F H q (UpN.refl le) rv⟩
  · exact .inr ⟨p, vs, i, v, h1, rb.int, h2, hv, k d v F H q (UpN.refl le) rv⟩
/-! t + u of tuples -/
def oCatT : ROp := fun a b q => ∃ xs ys, a = .tup xs ∧ b = .tup ys ∧ xs.length + ys.length ≤ 16000000 ∧ q (.tup (xs ++ ys))
theorem line16 : (16000000 : Nat) ≤ sizeLine := by decide
theorem od_catT : OpD K (rCatA K) oCatT := fun F H a b va vb Qd Q le ra rb t k => by
  obtain ⟨xs, ys, rfl, rfl, hl, q⟩ := t
  obtain ⟨p, vs, h1, h2, h3⟩ := ra.tup le
  obtain ⟨p', ws, g1, g2, g3⟩ := rb.tup le
  have e1 := h3.length
  have e2 := g3.length
  refine ⟨p, p', vs, ws, h1, g1, h2, g2, Nat.le_trans (by omega) line16, fun z => ?_, fun z z' => ?_, fun _ _ n hn => ?_⟩
  · subst z
    have z : xs = [] := List.length_eq_zero_iff.mp e1.symm
    subst z
    obtain r := rb.nl fun _ z => nomatch z
    rw [g1] at r
    exact k _ _ F H q (UpN.refl le) r
  · subst z'
    have z : ys = [] := List.length_eq_zero_iff.mp e2.symm
    subst z
    obtain r := ra.nl fun _ z => nomatch z
    rw [h1] at r
    rw [List.append_nil] at q
    exact k _ _ F H q (UpN.refl le) r
  · refine k _ _ (upd F n (.tup (vs ++ ws))) _ q (UpN.new le hn) (rep_tup (.inl (.inl upd_same)) ?_)
    exact (h3.append g3).mono (same_new (le.free hn))
/-! tests -/
def dTest (td : TD) : TDT := fun Γ Q => td Γ fun d Γ' => ∃ b, d = .bl b ∧ Q b Γ'
def dAnd (dt du : TDT) : TDT := fun Γ Q => dt Γ fun b Γ1 => if b = true then du Γ1 Q else Q false Γ1
def dOr (dt du : TDT) : TDT := fun Γ Q => dt Γ fun b Γ1 => if b = true then Q true Γ1 else du Γ1 Q
def dNot (dt : TDT) : TDT := fun Γ Q => dt Γ fun b Γ1 => Q (!b) Γ1
def dAndV (da db : TD) : TD := fun Γ Q => da Γ fun x Γ1 => ∃ b, x = .bl b ∧ if b = true then db Γ1 Q else Q (.bl false) Γ1
def dOrV (da db : TD) : TD := fun Γ Q => da Γ fun x Γ1 => ∃ b, x = .bl b ∧ if b = true then Q (.bl true) Γ1 else db Γ1 Q
def dNotV (da : TD) : TD := fun Γ Q => da Γ fun x Γ1 => ∃ b, x = .bl b ∧ Q (.bl (!b)) Γ1
def dIfE (dt : TDT) (da db : TD) : TD := fun Γ Q => dt Γ fun b Γ1 => if b = true then da Γ1 Q else db Γ1 Q
theorem et_test (h : Ev K te td) : EvT K (tTest te) (dTest td) := fun c Γ σ F H Qd Q e t k => h c Γ σ F H _ _ e t fun d v Γ' F' H' q p r => by
  obtain ⟨b, rfl, q⟩ := q
  exact ⟨b, r.bl, k b Γ' F' H' q p⟩
theorem et_B (h : Ev K te td) : EvT K (tB te) (dTest td) := fun c Γ σ F H Qd Q e t k => h c Γ σ F H _ _ e t fun d v Γ' F' H' q p r => by
  obtain ⟨b, rfl, q⟩ := q
  exact ⟨b, r.bl, k b Γ' F' H' q p⟩
theorem et_and (h1 : EvT K tt dt) (h2 : EvT K tu du) : EvT K (tAnd tt tu) (dAnd dt du) := fun c Γ σ F H Qd Q e t k => h1 c Γ σ F H _ _ e t fun b Γ1 F1 H1 q p => by
  cases b with
  | true =>
    show tu σ H1 Q
    exact h2 c Γ1 σ F1 H1 _ _ p.env q fun d Γ2 F2 H2 q2 p2 => k d Γ2 F2 H2 q2 (p.trans p2)
  | false =>
    show Q false H1
    exact k false Γ1 F1 H1 q p
theorem et_or (h1 : EvT K tt dt) (h2 : EvT K tu du) : EvT K (tOr tt tu) (dOr dt du) := fun c Γ σ F H Qd Q e t k => h1 c Γ σ F H _ _ e t fun b Γ1 F1 H1 q p => by
  cases b with
  | true =>
    show Q true H1
    exact k true Γ1 F1 H1 q p
  | false =>
    show tu σ H1 Q
    exact h2 c Γ1 σ F1 H1 _ _ p.env q fun d Γ2 F2 H2 q2 p2 => k d Γ2 F2 H2 q2 (p.trans p2)
theorem et_not (h : EvT K tt dt) : EvT K (tNot tt) (dNot dt) := fun c Γ σ F H Qd Q e t k => h c Γ σ F H _ _ e t fun b Γ1 F1 H1 q p => k (!b) Γ1 F1 H1 q p
theorem ev_andV (h1 : Ev K ta da) (h2 : Ev K tb db) : Ev K (tAndV ta tb) (dAndV da db) := fun c Γ σ F H Qd Q e t k => h1 c Γ σ F H _ _ e t fun x v Γ1 F1 H1 q p r => by
  obtain ⟨b, rfl, q⟩ := q
  refine ⟨b, r.bl, ?_⟩
  cases b with
  | true =>
    show tb σ H1 Q
    exact h2 c Γ1 σ F1 H1 _ _ p.env q fun d v Γ2 F2 H2 q2 p2 r2 => k d v Γ2 F2 H2 q2 (p.trans p2) r2
  | false =>
    show Q (.bl false) H1
    exact k _ _ Γ1 F1 H1 q p rep_bl
theorem ev_orV (h1 : Ev K ta da) (h2 : Ev K tb db) : Ev K (tOrV ta tb) (dOrV da db) := fun c Γ σ F H Qd Q e t k => h1 c Γ σ F H _ _ e t fun x v Γ1 F1 H1 q p r => by
  obtain ⟨b, rfl, q⟩ := q
  refine ⟨b, r.bl, ?_⟩
  cases b with
  | true =>
    show Q (.bl true) H1
    exact k _ _ Γ1 F1 H1 q p rep_bl
  | false =>
    show tb σ H1 Q
    exact h2 c Γ1 σ F1 H1 _ _ p.env q fun d v Γ2 F2 H2 q2 p2 r2 => k d v Γ2 F2 H2 q2 (p.trans p2) r2
theorem ev_notV (h1 : Ev K ta da) : Ev K (tNotV ta) (dNotV da) := fun c Γ σ F H Qd Q e t k => h1 c Γ σ F H _ _ e t fun x v Γ1 F1 H1 q p r => by
  obtain ⟨b, rfl, q⟩ := q
  exact ⟨b, r.bl, k _ _ Γ1 F1 H1 q p rep_bl⟩
theorem ev_if (h : EvT K tt dt) (h1 : Ev K ta da) (h2 : Ev K tb db) : Ev K (tIf tt ta tb) (dIfE dt da db) := fun c Γ σ F H Qd Q e t k => h c Γ σ F H _ _ e t fun b Γ1 F1 H1 q p => by
  cases b with
  | true =>
    show ta σ H1 Q
    exact h1 c Γ1 σ F1 H1 _ _ p.env q fun d v Γ2 F2 H2 q2 p2 r2 => k d v Γ2 F2 H2 q2 (p.trans p2) r2
  | false =>
    show tb σ H1 Q
    exact h2 c Γ1 σ F1 H1 _ _ p.env q fun d v Γ2 F2 H2 q2 p2 r2 => k d v Γ2 F2 H2 q2 (p.trans p2) r2
/-- a list's, a tuple's truth, None's, a number's -/
def dTru (td : TD) : TDT := fun Γ Q => td Γ fun d Γ' => (∃ b, d = .bl b ∧ Q b Γ') ∨ (d = .non ∧ Q false Γ') ∨ (∃ i, d = .int i ∧ Q (i != 0) Γ') ∨ ∃ xs, items d = some xs ∧ Q (!xs.isEmpty) Γ'
theorem reps_empty {xs : List D} {vs : List V} (h : Reps K xs vs F) : (!vs.isEmpty) = !xs.isEmpty := by
  cases xs with
  | nil =>
    rw [h.of_nil]
    rfl
  | cons d ds =>
    obtain ⟨v, vr, e, _⟩ := h.of_cons
    rw [e]
    rfl
theorem et_tru (h : EvB K te td) : EvT K (fun σ H Q => te σ H fun x H' => ∃ k, TruV K x H' k ∧ Q k H') (dTru td) := fun c Γ σ F H Qd Q e t k => h c Γ σ F H _ _ e t fun d v Γ' F' H' q p r => by
  rcases q with ⟨b, rfl, q⟩ | ⟨rfl, q⟩ | ⟨i, rfl, q⟩ | ⟨xs, hx, q⟩
  · rw [r.bl]
    exact ⟨b, rfl, k b Γ' F' H' q p⟩
  · rw [r.non]
    exact ⟨false, rfl, k _ Γ' F' H' q p⟩
  · rw [r.int]
    exact ⟨_, rfl, k _ Γ' F' H' q p⟩
  · obtain ⟨a, vs, h1, h2, h3⟩ := items_seq p.env.le r hx
    rw [h1]
    refine ⟨!vs.isEmpty, ?_, ?_⟩
    · rcases h2 with h2 | h2
      · exact .inl ⟨vs, h2, rfl⟩
      · exact .inr (.inl ⟨vs, h2, rfl⟩)
    · rw [reps_empty h3]
      exact k _ Γ' F' H' q p
/-! arguments -/
def dNil : TDA := fun Γ Q => Q [] Γ
def dCons (da : TD) (dr : TDA) : TDA := fun Γ Q => da Γ fun a Γ1 => dr Γ1 fun as Γ2 => Q (a :: as) Γ2
theorem ea_nil : EvA K tNil dNil := fun c Γ σ F H Qd Q e t k => k [] [] Γ F H t (Post.refl e) .nil
theorem ea_cons (h : Ev K ta da) (hr : EvA K tas das) : EvA K (tCons ta tas) (dCons da das) := fun c Γ σ F H Qd Q e t k => h c Γ σ F H _ _ e t fun a va Γ1 F1 H1 t1 p1 r1 =>
  hr c Γ1 σ F1 H1 _ _ p1.env t1 fun b vb Γ2 F2 H2 t2 p2 r2 => k _ _ Γ2 F2 H2 t2 (p1.trans p2) (.cons (r1.mono p2.fx) r2)
def dTup (da : TDA) : TD := fun Γ Q => da Γ fun ds Γ' => ds.length ≤ 16000000 ∧ Q (.tup ds) Γ'
def dLst (da : TDA) : TD := fun Γ Q => da Γ fun ds Γ' => ds.length ≤ 16000000 ∧ Q (.lst ds) Γ'
theorem ev_tup (h : EvA K tas das) : Ev K (tTup tas) (dTup das) := fun c Γ σ F H Qd Q e t k => h c Γ σ F H _ _ e t fun ds vs Γ1 F1 H1 t1 p1 r1 => by
  refine ⟨Nat.le_trans (by rw [r1.length]; exact t1.1) line16, fun p hp => ?_⟩
  refine k _ _ Γ1 (upd F1 p (.tup vs)) _ t1.2 (p1.trans (p1.env.upP (UpN.new p1.env.le hp))) (rep_tup (.inl (.inl upd_same)) (r1.mono (same_new (p1.env.le.free hp))))
theorem ev_lst (h : EvA K tas das) : Ev K (tLst tas) (dLst das) := fun c Γ σ F H Qd Q e t k => h c Γ σ F H _ _ e t fun ds vs Γ1 F1 H1 t1 p1 r1 => by
  refine ⟨Nat.le_trans (by rw [r1.length]; exact t1.1) line16, fun p hp => ?_⟩
  refine k _ _ Γ1 (upd F1 p (.lst vs)) _ t1.2 (p1.trans (p1.env.upP (UpN.new p1.env.le hp))) (rep_lst (.inl (.inl upd_same)) (r1.mono (same_new (p1.env.le.free hp))))
/-! fields -/
def oFld (K : PySem.W.Frag) (f : Str) (a : D) (q : D → Prop) : Prop := ∃ C ns ds d, a = .obj C ns ds ∧ Cls K C ∧ NoAttr K C f ∧ (ns.zip ds).lookup f = some d ∧ q d
theorem lookup_zip {f : Str} {d : D} : ∀ {ns : List Str} {ds : List D} {vs : List V}, ns.length = ds.length → Reps K ds vs F → (ns.zip ds).lookup f = some d → ∃ v, (ns.zip vs).lookup f = some v ∧ Rep K d v F
  | [], _, _, _, _, e => by simp at e
  | _ :: _, [], _, _, _, e => by simp at e
  | n :: ns, x :: ds, _, hl, h, e => by
    obtain ⟨v, vr, e1, r, t⟩ := h.of_cons
    subst e1
    rw [List.zip_cons_cons, List.lookup_cons] at e ⊢
    cases q : (f == n) with
    | true =>
      rw [q] at e
      cases (Option.some.inj e)
      exact ⟨v, rfl, r⟩
    | false =>
      rw [q] at e
      exact lookup_zip (by simpa using hl) t e
def dFld (K : PySem.W.Frag) (f : Str) (da : TD) : TD := fun Γ Q => da Γ fun a Γ' => oFld K f a fun d => Q d Γ'
theorem ev_fld {f : Str} (h : Ev K ta da) : Ev K (tFld K ta f) (dFld K f da) := fun c Γ σ F H Qd Q e t k => h c Γ σ F H _ _ e t fun a va Γ1 F1 H1 t1 p1 r1 => by
  obtain ⟨C, ns, ds, d, rfl, h1, h2, h3, q⟩ := t1
  obtain ⟨p, dx, vs, g1, g2, g3, g4⟩ := r1.obj
  obtain ⟨v, hv, rv⟩ := lookup_zip g3 g4 h3
  exact ⟨p, C, dx, _, v, g1, p1.env.le _ _ g2, h1, h2, hv, k d v Γ1 F1 H1 q p1 rv⟩
end
end DL
set_option Elab.async false
set_option linter.all false
set_option maxRecDepth 100000
set_option maxHeartbeats 1000000
namespace DL
open PySem PySem.Spec L2 L2R
open PyProof.Rows hiding St
/-! ### calls of built-ins -/
abbrev RepBs (K : PySem.W.Frag) (ds : List D) (vs : List V) (F H : Hp) : Prop := Paired (fun d v => RepB K d v F H) ds vs
def ClD (K : PySem.W.Frag) (r : List V → Hp → VK → Prop) (rd : RCl) : Prop := ∀ (F H : Hp) (ds : List D) (vs : List V) (Qd : D → Prop) (Q : VK), Same F H → RepBs K ds vs F H → rd ds Qd →
  (∀ d v F' H', Qd d → UpN F H F' H' → Rep K d v F' → Q v H') → r vs H Q
def dCB (rd : RCl) (das : TDA) : TD := fun Γ Q => das Γ fun ds Γ' => rd ds fun d => Q d Γ'
def dCB1 (rd : RCl) (da : TD) : TD := fun Γ Q => da Γ fun d Γ' => rd [d] fun e => Q e Γ'
section
variable {K : PySem.W.Frag} {c : C0} {Γ Γ1 Γ2 : List Sl} {σ : St} {F H F1 H1 F2 H2 : Hp} {te ta tb tc : TE} {da db dc td : TD} {tt tu : TT} {dt du : TDT} {tas : TA} {das : TDA}
theorem Reps.bs : ∀ {ds : List D} {vs : List V}, Reps K ds vs F → RepBs K ds vs F H
  | [], _, h => by
    rw [h.of_nil]
    exact .nil
  | _ :: _, _, h => by
    obtain ⟨v, vr, rfl, r, t⟩ := h.of_cons
    exact .cons (.inl r) t.bs
theorem ev_cb {r : List V → Hp → VK → Prop} {rd : RCl} (hr : ClD K r rd) (h : EvA K tas das) : Ev K (tCB r tas) (dCB rd das) := fun c Γ σ F H Qd Q e t k =>
  h c Γ σ F H _ _ e t fun ds vs Γ1 F1 H1 t1 p1 r1 => hr F1 H1 ds vs _ Q p1.env.le r1.bs t1 fun d v F2 H2 q u r2 => k d v Γ1 F2 H2 q (p1.trans (p1.env.upP u)) r2
theorem ev_cb1 {r : List V → Hp → VK → Prop} {rd : RCl} (hr : ClD K r rd) (h : EvB K ta da) : Ev K (tCB r (tCons ta tNil)) (dCB1 rd da) := fun c Γ σ F H Qd Q e t k =>
  h c Γ σ F H _ _ e t fun d v Γ1 F1 H1 t1 p1 r1 => hr F1 H1 [d] [v] _ Q p1.env.le (.cons r1 .nil) t1 fun d v F2 H2 q u r2 => k d v Γ1 F2 H2 q (p1.trans (p1.env.upP u)) r2
theorem bs_one {d : D} {vs : List V} (h : RepBs K [d] vs F H) : ∃ v, vs = [v] ∧ RepB K d v F H := by
  cases h with
  | cons r t =>
    cases t
    exact ⟨_, rfl, r⟩
theorem bs_two {d e : D} {vs : List V} (h : RepBs K [d, e] vs F H) : ∃ v w, vs = [v, w] ∧ RepB K d v F H ∧ RepB K e w F H := by
  cases h with
  | cons r t =>
    cases t with
    | cons r2 t2 =>
      cases t2
      exact ⟨_, _, rfl, r, r2⟩
def cLen : RCl := fun ds q => ∃ d xs, ds = [d] ∧ items d = some xs ∧ q (.int xs.length)
def cAbs : RCl := fun ds q => ∃ i, ds = [.int i] ∧ q (.int (if i < 0 then -i else i))
def cInt : RCl := fun ds q => ∃ i, ds = [.int i] ∧ q (.int i)
def cMax2 : RCl := fun ds q => ∃ i j, ds = [.int i, .int j] ∧ q (.int (if j > i then j else i))
def cMin2 : RCl := fun ds q => ∃ i j, ds = [.int i, .int j] ∧ q (.int (if j < i then j else i))
def cSum : RCl := fun ds q => ∃ (d : D) (ns : List Int), ds = [d] ∧ items d = some (ns.map D.int) ∧ q (.int ns.sum)
def cMaxL : RCl := fun ds q => ∃ (d : D) (ns : List Int), ds = [d] ∧ items d = some (ns.map D.int) ∧ 0 < ns.length ∧ ∀ m, m ∈ ns → (∀ y, y ∈ ns → y ≤ m) → q (.int m)
def cMinL : RCl := fun ds q => ∃ (ns : List Int), ds = [.lst (ns.map D.int)] ∧ 0 < ns.length ∧ ∀ m, m ∈ ns → (∀ y, y ∈ ns → m ≤ y) → q (.int m)
def cList : RCl := fun ds q => ∃ d xs, ds = [d] ∧ items d = some xs ∧ q (.lst xs)
def cTuple : RCl := fun ds q => ∃ d xs, ds = [d] ∧ items d = some xs ∧ q (.tup xs)
def cSorted : RCl := fun ds q => ∃ (ns : List Int), ds = [.lst (ns.map D.int)] ∧ ns.length < 64 ∧ ∀ ns' : List Int, ns'.Perm ns → ns'.Pairwise (· ≤ ·) → q (.lst (ns'.map D.int))
def cAny : RCl := fun ds q => ∃ (bs : List Bool), ds = [.lst (bs.map D.bl)] ∧ q (.bl (bs.any id))
def cAll : RCl := fun ds q => ∃ (bs : List Bool), ds = [.lst (bs.map D.bl)] ∧ q (.bl (bs.all id))
theorem cl_len : ClD K (fun xs H Q => ∃ p ys, xs = [.ref p] ∧ (SqL K H p ys ∨ SqT K H p ys) ∧ Q (.int ys.length) H) cLen := fun F H ds vs Qd Q le rr t k => by
  obtain ⟨d, xs, rfl, hx, q⟩ := t
  obtain ⟨v, rfl, r⟩ := bs_one rr
  obtain ⟨p, ys, h1, h2, h3⟩ := items_seq le r hx
  rw [h1]
  refine ⟨p, ys, rfl, h2, ?_⟩
  rw [h3.length]
  exact k _ _ F H q (UpN.refl le) rep_int
theorem cl_abs : ClD K (fun xs H Q => ∃ i, xs = [.int i] ∧ Q (.int (if i < 0 then -i else i)) H) cAbs := fun F H ds vs Qd Q le rr t k => by
  obtain ⟨i, rfl, q⟩ := t
  obtain ⟨v, rfl, r⟩ := bs_one rr
  rw [r.int]
  exact ⟨i, rfl, k _ _ F H q (UpN.refl le) rep_int⟩
theorem cl_int : ClD K (fun xs H Q => (∃ i, xs = [.int i] ∧ Q (.int i) H) ∨ ∃ k, xs = [.bl k] ∧ Q (.int (if k then 1 else 0)) H) cInt := fun F H ds vs Qd Q le rr t k => by
  obtain ⟨i, rfl, q⟩ := t
  obtain ⟨v, rfl, r⟩ := bs_one rr
  rw [r.int]
  exact .inl ⟨i, rfl, k _ _ F H q (UpN.refl le) rep_int⟩
theorem cl_max2 : ClD K (fun xs H Q => ∃ i j, xs = [.int i, .int j] ∧ Q (.int (if j > i then j else i)) H) cMax2 := fun F H ds vs Qd Q le rr t k => by
  obtain ⟨i, j, rfl, q⟩ := t
  obtain ⟨v, w, rfl, r, r2⟩ := bs_two rr
  rw [r.int, r2.int]
  exact ⟨i, j, rfl, k _ _ F H q (UpN.refl le) rep_int⟩
theorem cl_min2 : ClD K (fun xs H Q => ∃ i j, xs = [.int i, .int j] ∧ Q (.int (if j < i then j else i)) H) cMin2 := fun F H ds vs Qd Q le rr t k => by
  obtain ⟨i, j, rfl, q⟩ := t
  obtain ⟨v, w, rfl, r, r2⟩ := bs_two rr
  rw [r.int, r2.int]
  exact ⟨i, j, rfl, k _ _ F H q (UpN.refl le) rep_int⟩
/-- either of two -/
def clOr (r r' : List V → Hp → VK → Prop) : List V → Hp → VK → Prop := fun vs H Q => r vs H Q ∨ r' vs H Q
theorem call_or {X : Cx} {f : Value} {r r' : List V → Hp → VK → Prop} (h : CallR X f r) (h' : CallR X f r') : CallR X f (clOr r r') := fun pins s σ H xs us Q I rx q => by
  rcases q with q | q
  · exact h pins s σ H xs us Q I rx q
  · exact h' pins s σ H xs us Q I rx q
theorem cl_sum : ClD K (clOr (rSum K) (rSumT K)) cSum := fun F H ds vs Qd Q le rr t k => by
  obtain ⟨d, ns, rfl, hx, q⟩ := t
  obtain ⟨v, rfl, r⟩ := bs_one rr
  obtain ⟨p, ys, h1, h2, h3⟩ := items_seq le r hx
  have e := h3.ints
  subst e
  rw [h1]
  rcases h2 with h2 | h2
  · exact .inl ⟨p, ns, rfl, h2, k _ _ F H q (UpN.refl le) rep_int⟩
  · exact .inr ⟨p, ns, rfl, h2, k _ _ F H q (UpN.refl le) rep_int⟩
theorem cl_maxL : ClD K (clOr (rMax K) (rMaxT K)) cMaxL := fun F H ds vs Qd Q le rr t k => by
  obtain ⟨d, ns, rfl, hx, hl, q⟩ := t
  obtain ⟨v, rfl, r⟩ := bs_one rr
  obtain ⟨p, ys, h1, h2, h3⟩ := items_seq le r hx
  have e := h3.ints
  subst e
  rw [h1]
  rcases h2 with h2 | h2
  · exact .inl ⟨p, ns, rfl, h2, hl, fun m h1 h2 => k _ _ F H (q m h1 h2) (UpN.refl le) rep_int⟩
  · exact .inr ⟨p, ns, rfl, h2, hl, fun m h1 h2 => k _ _ F H (q m h1 h2) (UpN.refl le) rep_int⟩
theorem cl_minL : ClD K (rMin K) cMinL := fun F H ds vs Qd Q le rr t k => by
  obtain ⟨ns, rfl, hl, q⟩ := t
  obtain ⟨v, rfl, r⟩ := bs_one rr
  obtain ⟨p, ys, h1, h2, h3⟩ := r.lst le
  have e := h3.ints
  subst e
  rw [h1]
  exact ⟨p, ns, rfl, h2, hl, fun m h1 h2 => k _ _ F H (q m h1 h2) (UpN.refl le) rep_int⟩
theorem rep_new {xs : List D} {vs : List V} {p : Addr} (le : Same F H) (hp : H p = none) (h : Reps K xs vs F) : UpN F H (upd F p (.lst vs)) (upd H p (.lst vs)) ∧ Rep K (.lst xs) (.ref p) (upd F p (.lst vs)) :=
  ⟨UpN.new le hp, rep_lst (.inl (.inl upd_same)) (h.mono (same_new (le.free hp)))⟩
theorem rep_newT {xs : List D} {vs : List V} {p : Addr} (le : Same F H) (hp : H p = none) (h : Reps K xs vs F) : UpN F H (upd F p (.tup vs)) (upd H p (.tup vs)) ∧ Rep K (.tup xs) (.ref p) (upd F p (.tup vs)) :=
  ⟨UpN.new le hp, rep_tup (.inl (.inl upd_same)) (h.mono (same_new (le.free hp)))⟩
theorem cl_list : ClD K (fun xs H Q => ∃ p ys, xs = [.ref p] ∧ (SqL K H p ys ∨ SqT K H p ys) ∧ ∀ l, H l = none → Q (.ref l) (upd H l (.lst ys))) cList := fun F H ds vs Qd Q le rr t k => by
  obtain ⟨d, xs, rfl, hx, q⟩ := t
  obtain ⟨v, rfl, r⟩ := bs_one rr
  obtain ⟨p, ys, h1, h2, h3⟩ := items_seq le r hx
  rw [h1]
  refine ⟨p, ys, rfl, h2, fun l hl => ?_⟩
  obtain ⟨u, r⟩ := rep_new le hl h3
  exact k _ _ _ _ q u r
theorem cl_tuple : ClD K (fun xs H Q => ∃ p ys, xs = [.ref p] ∧ ((SqL K H p ys ∧ ∀ l, H l = none → Q (.ref l) (upd H l (.tup ys))) ∨ (SqT K H p ys ∧ Q (.ref p) H))) cTuple := fun F H ds vs Qd Q le rr t k => by
  obtain ⟨d, xs, rfl, hx, q⟩ := t
  obtain ⟨v, rfl, r⟩ := bs_one rr
  cases d with
  | lst zs =>
    cases (Option.some.inj hx)
    obtain ⟨p, ys, h1, h2, h3⟩ := r.lst le
    rw [h1]
    refine ⟨p, ys, rfl, .inl ⟨h2, fun l hl => ?_⟩⟩
    obtain ⟨u, r⟩ := rep_newT le hl h3
    exact k _ _ _ _ q u r
  | tup zs =>
    cases (Option.some.inj hx)
    obtain ⟨p, ys, h1, h2, h3⟩ := r.tup le
    rw [h1]
    refine ⟨p, ys, rfl, .inr ⟨h2, ?_⟩⟩
    rw [← h1]
    exact k _ _ F H q (UpN.refl le) (r.nl fun _ z => nomatch z)
  | _ => cases hx
theorem cl_sorted : ClD K (rSorted K) cSorted := fun F H ds vs Qd Q le rr t k => by
  obtain ⟨ns, rfl, hl, q⟩ := t
  obtain ⟨v, rfl, r⟩ := bs_one rr
  obtain ⟨p, ys, h1, h2, h3⟩ := r.lst le
  have e := h3.ints
  subst e
  rw [h1]
  refine ⟨p, ns, rfl, h2, hl, fun ns' l a1 a2 hp => ?_⟩
  obtain ⟨u, r⟩ := rep_new (K := K) (xs := ns'.map D.int) le hp Reps.ints_mk
  exact k _ _ _ _ (q ns' a1 a2) u r
theorem cl_any : ClD K (rAny K) cAny := fun F H ds vs Qd Q le rr t k => by
  obtain ⟨ns, rfl, q⟩ := t
  obtain ⟨v, rfl, r⟩ := bs_one rr
  obtain ⟨p, ys, h1, h2, h3⟩ := r.lst le
  have e := h3.bls
  subst e
  rw [h1]
  exact ⟨p, ns, rfl, h2, k _ _ F H q (UpN.refl le) rep_bl⟩
theorem cl_all : ClD K (rAll K) cAll := fun F H ds vs Qd Q le rr t k => by
  obtain ⟨ns, rfl, q⟩ := t
  obtain ⟨v, rfl, r⟩ := bs_one rr
  obtain ⟨p, ys, h1, h2, h3⟩ := r.lst le
  have e := h3.bls
  subst e
  rw [h1]
  exact ⟨p, ns, rfl, h2, k _ _ F H q (UpN.refl le) rep_bl⟩
/-! isinstance -/
/-- what K must say of a class for isinstance of its instances -/
structure IsC (K : PySem.W.Frag) (C : Addr) : Prop where
  cl : Cls K C
  ha : PySem.W.findIn K (.ref C) "__class__" = some (some (.builtin "object.__class__"))
  hn : PySem.W.specialIn K (.builtin "object.__class__") "__get__" = some (some (.builtin "getset_descriptor.__get__"))
  htk : PySem.W.takesIn K (.builtin "object.__class__") = some true
  hm : PySem.W.mroIn K C (.type "object") = some true
def tyOf (K : PySem.W.Frag) : D → Value → Prop
  | .non, t => t = .type "NoneType"
  | .bl _, t => t = .type "bool"
  | .int _, t => t = .type "int"
  | .str _, t => t = .type "str"
  | .lst _, t => t = .type "list"
  | .tup _, t => t = .type "tuple"
  | .obj C _ _, t => IsC K C ∧ t = .ref C
  | _, _ => False
theorem sq_tyL {a : Addr} {xs : List V} (h : SqL K H a xs) : TyX K H (.ref a) (.type "list") := by
  rcases h with (h | ⟨o, h⟩) | ⟨o, _, _, h1, h2, _⟩
  · exact .base (.lst h)
  · exact .base (.frz h)
  · exact .kList h1 h2
theorem sq_tyT {a : Addr} {xs : List V} (h : SqT K H a xs) : TyX K H (.ref a) (.type "tuple") := by
  rcases h with (h | ⟨o, h⟩) | ⟨o, _, _, h1, h2, _⟩
  · exact .base (.tup h)
  · exact .fTuple h
  · exact .kTuple h1 h2
theorem tyX_of {d : D} {v : V} {t : Value} (le : Same F H) (r : RepB K d v F H) (h : tyOf K d t) : TyX K H v t := by
  cases d with
  | non =>
    rw [r.non, show t = _ from h]
    exact .base .non
  | bl b =>
    rw [r.bl, show t = _ from h]
    exact .base (.bl b)
  | int b =>
    rw [r.int, show t = _ from h]
    exact .base (.int b)
  | str b =>
    rw [r.str, show t = _ from h]
    exact .base (.str b)
  | ty n => exact False.elim h
  | cls n => exact False.elim h
  | lst xs =>
    rw [show t = _ from h]
    obtain ⟨p, vs, h1, h2, _⟩ := r.lst le
    rw [h1]
    exact sq_tyL h2
  | tup xs =>
    rw [show t = _ from h]
    obtain ⟨p, vs, h1, h2, _⟩ := r.tup le
    rw [h1]
    exact sq_tyT h2
  | obj C ns xs =>
    obtain ⟨i, e⟩ := h
    rw [e]
    obtain ⟨p, dx, vs, h1, h2, _⟩ := (r.nl fun _ z => nomatch z).obj
    rw [h1]
    exact .base (.ins (le _ _ h2) i.cl i.ha i.hn i.htk i.hm)
/-- isinstance(d, c) gives b -/
inductive Isi (K : PySem.W.Frag) : D → D → Bool → Prop where
  | ty {d : D} {t : Value} {n : String} {b : Bool} (h : tyOf K d t) (e : PySem.W.kitOne K t (.type n) = some b) : Isi K d (.ty n) b
  | cls {d : D} {t : Value} {C : Addr} {b : Bool} (h : tyOf K d t) (e : PySem.W.kitOne K t (.ref C) = some b) : Isi K d (.cls C) b
def cIsi (K : PySem.W.Frag) : RCl := fun ds q => ∃ d e b, ds = [d, e] ∧ Isi K d e b ∧ q (.bl b)
theorem cl_isi : ClD K (rIsi K) (cIsi K) := fun F H ds vs Qd Q le rr t k => by
  obtain ⟨d, e, b, rfl, i, q⟩ := t
  obtain ⟨v, w, rfl, r, r2⟩ := bs_two rr
  cases i with
  | ty h hk =>
    rw [(r2.nl fun _ z => nomatch z).ty]
    exact ⟨v, _, _, _, b, rfl, .ty _, tyX_of le r h, hk, k _ _ F H q (UpN.refl le) rep_bl⟩
  | cls h hk =>
    rw [(r2.nl fun _ z => nomatch z).cls]
    exact ⟨v, _, _, _, b, rfl, .own _, tyX_of le r h, hk, k _ _ F H q (UpN.refl le) rep_bl⟩
/-- isinstance(x, (T, ..)), built-in types -/
def tTys : List String → TA
  | [] => tNil
  | n :: ns => tCons (tC (.ty n)) (tTys ns)
def IsiT (K : PySem.W.Frag) (ns : List String) (d : D) (b : Bool) : Prop := ∃ t, tyOf K d t ∧ PySem.W.kitAny K t (ns.map Value.type) = some b
def dIsiT (K : PySem.W.Frag) (ns : List String) (da : TD) : TD := fun Γ Q => da Γ fun d Γ' => ∃ b, IsiT K ns d b ∧ Q (.bl b) Γ'
theorem tTys_run {Q : List V → Hp → Prop} : ∀ {ns : List String}, Q (ns.map V.ty) H → tTys ns σ H Q
  | [], h => h
  | n :: ns, h => tTys_run (ns := ns) (Q := fun vs H => Q (.ty n :: vs) H) h
theorem clsV_tys : ∀ ns : List String, Paired ClsV (ns.map V.ty) (ns.map Value.type)
  | [] => .nil
  | n :: ns => .cons (.ty n) (clsV_tys ns)
theorem ev_isiT {ns : List String} (hn : ns.length ≤ 16000000) (h : EvB K ta da) : Ev K (tCB (rIsiT K) (tCons ta (tCons (tTup (tTys ns)) tNil))) (dIsiT K ns da) := fun c Γ σ F H Qd Q e t k =>
  h c Γ σ F H _ _ e t fun d v Γ1 F1 H1 t1 p1 r1 => by
    obtain ⟨b, ⟨ty, h1, h2⟩, q⟩ := t1
    refine tTys_run ⟨Nat.le_trans (by rw [List.length_map]; exact hn) line16, fun p hp => ?_⟩
    have u : UpN F1 H1 F1 (upd H1 p (.tup (ns.map V.ty))) := UpN.lay p1.env.le hp
    refine ⟨v, p, ns.map V.ty, ty, ns.map Value.type, b, rfl, upd_same, clsV_tys ns, ?_, h2, ?_⟩
    · refine tyX_of u.le ?_ h1
      rcases r1 with r1 | ⟨xs, p', vs, a1, a2, a3, a4⟩
      · exact .inl r1
      · exact .inr ⟨xs, p', vs, a1, a2, u.ex _ _ a3, a4⟩
    · exact k _ _ Γ1 F1 _ q (p1.trans (p1.env.upP u)) rep_bl
/-! ### slices, reversals -/
def EvO (K : PySem.W.Frag) (to : TO) (td : List Sl → (Option Int → List Sl → Prop) → Prop) : Prop := ∀ (c : C0) (Γ : List Sl) (σ : St) (F H : Hp) (Qd : Option Int → List Sl → Prop) (Q : Option Int → Hp → Prop), EnvR K c Γ σ F H → td Γ Qd →
  (∀ d Γ' F' H', Qd d Γ' → Post K c Γ σ F H Γ' F' H' → Q d H') → to σ H Q
abbrev TDO := List Sl → (Option Int → List Sl → Prop) → Prop
def dNoPart : TDO := fun Γ Q => Q none Γ
def dPart (da : TD) : TDO := fun Γ Q => da Γ fun d Γ' => ∃ i, d = .int i ∧ Q (some i) Γ'
theorem eo_no : EvO K tNoPart dNoPart := fun c Γ σ F H Qd Q e t k => k none Γ F H t (Post.refl e)
theorem eo_part (h : Ev K ta da) : EvO K (tPart ta) (dPart da) := fun c Γ σ F H Qd Q e t k => h c Γ σ F H _ _ e t fun d v Γ' F' H' q p r => by
  obtain ⟨i, rfl, q⟩ := q
  exact ⟨i, r.int, k _ Γ' F' H' q p⟩
def cutD (xs : List D) (lo hi : Option Int) : List D := (xs.drop (HT.sIx xs.length 0 lo)).take (HT.sIx xs.length xs.length hi - HT.sIx xs.length 0 lo)
theorem Reps.cut {xs : List D} {vs : List V} {lo hi : Option Int} (h : Reps K xs vs F) : Reps K (cutD xs lo hi) (cutV vs lo hi) F := by
  unfold cutD cutV
  rw [h.length]
  exact (h.drop _).take _
theorem cut_all {α : Type} {xs : List α} {a b : Nat} (h1 : a = 0) (h2 : b = xs.length) : (xs.drop a).take (b - a) = xs := by
  subst h1 h2
  simp
def rSl2 (K : PySem.W.Frag) : V → Option Int → Option Int → Hp → VK → Prop := fun x lo hi H Q => rSlL K x lo hi H Q ∨ rSlA K x lo hi H Q
theorem sl_any {X : Cx} : SlR X (rSl2 X.K) := SlR.or sl_list sl_tupA
def dSl (da : TD) (dl dh : TDO) : TD := fun Γ Q => da Γ fun d Γ1 => dl Γ1 fun lo Γ2 => dh Γ2 fun hi Γ3 => (∃ xs, d = .lst xs ∧ Q (.lst (cutD xs lo hi)) Γ3) ∨ ∃ xs, d = .tup xs ∧ Q (.tup (cutD xs lo hi)) Γ3
theorem ev_sl {tl th : TO} {dl dh : TDO} (h : Ev K ta da) (h1 : EvO K tl dl) (h2 : EvO K th dh) : Ev K (tSl (rSl2 K) ta tl th) (dSl da dl dh) := fun c Γ σ F H Qd Q e t k =>
  h c Γ σ F H _ _ e t fun d v Γ1 F1 H1 t1 p1 r1 => h1 c Γ1 σ F1 H1 _ _ p1.env t1 fun lo Γ2 F2 H2 t2 p2 => h2 c Γ2 σ F2 H2 _ _ p2.env t2 fun hi Γ3 F3 H3 t3 p3 => by
    have r : Rep K d v F3 := (r1.mono p2.fx).mono p3.fx
    have le := p3.env.le
    have P := (p1.trans p2).trans p3
    rcases t3 with ⟨xs, rfl, q⟩ | ⟨xs, rfl, q⟩
    · obtain ⟨p, vs, a1, a2, a3⟩ := RepB.lst le (Or.inl r)
      rw [a1]
      refine .inl ⟨p, vs, rfl, a2, fun l hl => ?_⟩
      obtain ⟨u, r⟩ := rep_new (K := K) le hl (a3.cut (lo := lo) (hi := hi))
      exact k _ _ Γ3 _ _ q (P.trans (p3.env.upP u)) r
    · obtain ⟨p, vs, a1, a2, a3⟩ := RepB.tup le (Or.inl r)
      rw [a1] at r ⊢
      refine .inr ⟨p, vs, rfl, a2, fun w => ?_, fun _ l hl => ?_⟩
      · have e1 : cutD xs lo hi = xs := by
          unfold cutD
          rw [← a3.length]
          exact cut_all w.1 (by rw [w.2, a3.length])
        rw [e1] at q
        exact k _ _ Γ3 F3 H3 q P r
      · obtain ⟨u, r⟩ := rep_newT (K := K) le hl (a3.cut (lo := lo) (hi := hi))
        exact k _ _ Γ3 _ _ q (P.trans (p3.env.upP u)) r
def dRev (da : TD) : TD := fun Γ Q => da Γ fun d Γ1 => (∃ xs, d = .lst xs ∧ Q (.lst xs.reverse) Γ1) ∨ ∃ xs, d = .tup xs ∧ Q (.tup xs.reverse) Γ1
theorem ev_rev (h : EvB K ta da) : Ev K (tRevA K ta) (dRev da) := fun c Γ σ F H Qd Q e t k => h c Γ σ F H _ _ e t fun d v Γ1 F1 H1 t1 p1 r => by
  have le := p1.env.le
  rcases t1 with ⟨xs, rfl, q⟩ | ⟨xs, rfl, q⟩
  · obtain ⟨p, vs, a1, a2, a3⟩ := r.lst le
    rw [a1]
    refine ⟨p, vs, rfl, .inl ⟨a2, fun l hl => ?_⟩⟩
    obtain ⟨u, r⟩ := rep_new (K := K) le hl a3.rev
    exact k _ _ Γ1 _ _ q (p1.trans (p1.env.upP u)) r
  · obtain ⟨p, vs, a1, a2, a3⟩ := r.tup le
    rw [a1]
    refine ⟨p, vs, rfl, .inr ⟨a2, fun l hl => ?_⟩⟩
    obtain ⟨u, r⟩ := rep_newT (K := K) le hl a3.rev
    exact k _ _ Γ1 _ _ q (p1.trans (p1.env.upP u)) r
def dTupRev (da : TD) : TD := fun Γ Q => da Γ fun d Γ1 => ∃ xs, items d = some xs ∧ Q (.tup xs.reverse) Γ1
theorem ev_tupRev (h : EvB K ta da) : Ev K (tTupRevA K ta) (dTupRev da) := fun c Γ σ F H Qd Q e t k => h c Γ σ F H _ _ e t fun d v Γ1 F1 H1 t1 p1 r => by
  have le := p1.env.le
  obtain ⟨xs, hx, q⟩ := t1
  obtain ⟨p, vs, a1, a2, a3⟩ := items_seq le r hx
  rw [a1]
  refine ⟨p, vs, rfl, a2, fun l hl => ?_⟩
  obtain ⟨u, r⟩ := rep_newT (K := K) le hl a3.rev
  exact k _ _ Γ1 _ _ q (p1.trans (p1.env.upP u)) r
/-! xs.index(n) -/
def dIndex (da db : TD) : TD := fun Γ Q => da Γ fun d Γ1 => ∃ ns : List Int, d = .lst (ns.map D.int) ∧ db Γ1 fun e Γ2 => ∃ (n : Int) (j : Nat), e = .int n ∧ ns[j]? = some n ∧ (∀ m, m < j → ns[m]? ≠ some n) ∧ Q (.int (j : Nat)) Γ2
theorem eqV_int {i j : Int} : eqV (.int i) (.int j) = (i == j) := rfl
theorem ev_index (ha : Ev K ta da) (hb : Ev K tb db) : Ev K (tBM K "list" (rIndex K) ta (tCons tb tNil)) (dIndex da db) := fun c Γ σ F H Qd Q e t k =>
  ha c Γ σ F H _ _ e t fun d v Γ1 F1 H1 t1 p1 r1 => by
    obtain ⟨ns, rfl, t1⟩ := t1
    obtain ⟨p, vs, h1, h2, h3⟩ := RepB.lst p1.env.le (Or.inl r1)
    rw [h1]
    refine ⟨.inl ⟨rfl, vs, h2⟩, hb c Γ1 σ F1 H1 _ _ p1.env t1 fun d2 v2 Γ2 F2 H2 t2 p2 r2 => ?_⟩
    obtain ⟨n, j, rfl, hj, hm, q⟩ := t2
    rw [r2.int]
    have r3 := r1.mono p2.fx
    obtain ⟨p', vs', g1, g2, g3⟩ := RepB.lst p2.env.le (Or.inl r3)
    rw [h1] at g1
    cases g1
    have e1 := g3.ints
    subst e1
    refine ⟨p, ns.map V.int, .int n, j, .int n, rfl, rfl, g2, rfl, flat_ints ns, ?_, ?_, ?_, ?_⟩
    · rw [List.getElem?_map, hj]
      rfl
    · rw [eqV_int]
      exact beq_iff_eq.mpr rfl
    · intro m z' hmj hz
      rw [List.getElem?_map] at hz
      cases hq : ns[m]? with
      | none =>
        rw [hq] at hz
        cases hz
      | some a =>
        rw [hq] at hz
        cases (Option.some.inj hz)
        rw [eqV_int]
        refine beq_eq_false_iff_ne.mpr fun z => hm m hmj ?_
        rw [hq, z]
    · exact k _ _ Γ2 F2 H2 q (p1.trans p2) rep_int
end
end DL
set_option Elab.async false
set_option linter.all false
set_option maxRecDepth 100000
set_option maxHeartbeats 1000000
namespace DL
open PySem PySem.Spec L2 L2R
open PyProof.Rows hiding St
section
variable {K : PySem.W.Frag} {c : C0} {Γ Γ1 Γ2 : List Sl} {σ σ1 : St} {F H F1 H1 F2 H2 : Hp} {te ta tb tc : TE} {da db dc td : TD} {tt tu : TT} {dt du : TDT} {tas : TA} {das : TDA}
/-! ### EnvR: what may be done -/
theorem EnvR.fresh0 (e : EnvR K c Γ σ F H) {p : Addr} (h : H p = none) : c.H0 p = none := by
  cases q : c.H0 p with
  | none => rfl
  | some o =>
    by_cases hm : c.m = some p
    · exact absurd h (e.m_there hm)
    · by_cases hs : c.sf = some p
      · exact absurd h (e.hs p hs).2.2
      · rw [e.ex p o q hm hs] at h
        cases h
theorem EnvR.not_m (e : EnvR K c Γ σ F H) {p : Addr} (h : c.H0 p = none) : c.m ≠ some p := fun z => (e.hm p z).2.2.1 h
theorem EnvR.not_s (e : EnvR K c Γ σ F H) {p : Addr} (h : c.H0 p = none) : c.sf ≠ some p := fun z => (e.hs p z).2.1 h
/-- a thing that is ours, not frozen, in no slot, is written -/
theorem EnvR.poke (e : EnvR K c Γ σ F H) {p : Addr} {o : HO} (h0 : c.H0 p = none) (hF : F p = none) (hn : ¬ OwnA Γ σ p) : EnvR K c Γ σ F (upd H p o) where
  len := e.len
  sl := fun i s hs => by
    obtain ⟨x, h1, h2⟩ := e.sl i s hs
    refine ⟨x, h1, ?_⟩
    cases s with
    | un => exact h2
    | val d => exact h2
    | own xs =>
      obtain ⟨q, vs, a1, a2, a3, a4, a5⟩ := h2
      refine ⟨q, vs, a1, a2, a3, ?_, a5⟩
      rw [upd_ne]
      · exact a4
      · intro z
        exact hn ⟨i, xs, hs, by rw [h1, a1, z]⟩
    | hand => exact h2
    | self C ns xs =>
      obtain ⟨x', dx, vs, a1, a2, a3, a4⟩ := h2
      refine ⟨x', dx, vs, a1, a2, ?_, a4⟩
      rw [upd_ne]
      · exact a3
      · intro z
        exact e.not_s h0 (by rw [a2, z])
  fx := e.fx
  fr := e.fr
  le := fun b x hb => by
    rw [upd_ne (fun z => by rw [z, hF] at hb; cases hb)]
    exact e.le b x hb
  ex := fun b x h1 h2 h3 => by
    rw [upd_ne (fun z => by rw [z, h0] at h1; cases h1)]
    exact e.ex b x h1 h2 h3
  hm := fun a ha => by
    obtain ⟨j, r⟩ := e.hm a ha
    exact ⟨(handP K).stay _ _ _ _ _ j (Same.refl _) (upd_ne fun z => e.not_m h0 (by rw [ha, z])), r⟩
  hs := fun x hx => by
    obtain ⟨h1, h2, h3⟩ := e.hs x hx
    refine ⟨h1, h2, ?_⟩
    rw [upd_ne fun z => e.not_s h0 (by rw [hx, z])]
    exact h3
  dis := e.dis
  s0 := e.s0
  w0 := e.w0
theorem get_set {α : Type} {l : List α} {i j : Nat} {x y : α} (h : (l.set i x)[j]? = some y) : (i = j ∧ y = x ∧ i < l.length) ∨ (i ≠ j ∧ l[j]? = some y) := by
  by_cases e : i = j
  · subst e
    by_cases hl : i < l.length
    · rw [List.getElem?_set_self hl] at h
      exact .inl ⟨rfl, (Option.some.inj h).symm, hl⟩
    · rw [List.getElem?_eq_none (by simpa using hl)] at h
      cases h
  · rw [List.getElem?_set_ne e] at h
    exact .inr ⟨e, h⟩
/-- the list in an own slot is written -/
theorem EnvR.put (e : EnvR K c Γ σ F H) {i : Nat} {xs ys : List D} {p : Addr} {vs : List V} (hi : Γ[i]? = some (.own xs)) (hp : σ[i]? = some (some (.ref p))) (h : Reps K ys vs F) : EnvR K c (Γ.set i (.own ys)) σ F (upd H p (.lst vs)) := by
  obtain ⟨o, h1, p', vs', h2, h0, hF, h4, h5⟩ := e.sl i _ hi
  rw [hp] at h1
  cases (Option.some.inj h1)
  cases h2
  have hil : i < Γ.length := (List.getElem?_eq_some_iff.mp hi).1
  have ow : ∀ (j : Nat) (zs : List D), (Γ.set i (Sl.own ys))[j]? = some (Sl.own zs) → ∃ zs', Γ[j]? = some (Sl.own zs') := fun j zs hj => by
    rcases get_set hj with ⟨rfl, _, _⟩ | ⟨_, hj⟩
    · exact ⟨xs, hi⟩
    · exact ⟨zs, hj⟩
  refine ⟨by rw [List.length_set]; exact e.len, fun j s hs => ?_, e.fx, e.fr, fun b x hb => ?_, fun b x a1 a2 a3 => ?_, fun a ha => ?_, fun x hx => ?_, fun j k zs ws q hjk hj hk => ?_, fun j C ns zs hj => ?_, fun a zs ha hj => (by obtain ⟨zs', hj⟩ := ow 0 zs hj; exact e.w0 a zs' ha hj)⟩
  · rcases get_set hs with ⟨rfl, rfl, _⟩ | ⟨hij, hs⟩
    · exact ⟨_, hp, p, vs, rfl, h0, hF, upd_same, h⟩
    · obtain ⟨x, a1, a2⟩ := e.sl j s hs
      refine ⟨x, a1, ?_⟩
      cases s with
      | un => exact a2
      | val d => exact a2
      | own zs =>
        obtain ⟨q, ws, b1, b2, b3, b4, b5⟩ := a2
        refine ⟨q, ws, b1, b2, b3, ?_, b5⟩
        rw [upd_ne]
        · exact b4
        · intro z
          subst z
          exact e.dis i j xs zs q hij hi hs hp (by rw [a1, b1])
      | hand => exact a2
      | self C ns zs =>
        obtain ⟨x', dx, ws, b1, b2, b3, b4⟩ := a2
        refine ⟨x', dx, ws, b1, b2, ?_, b4⟩
        rw [upd_ne]
        · exact b3
        · intro z
          exact e.not_s h0 (by rw [b2, z])
  · rw [upd_ne (fun z => by rw [z, hF] at hb; cases hb)]
    exact e.le b x hb
  · rw [upd_ne (fun z => by rw [z, h0] at a1; cases a1)]
    exact e.ex b x a1 a2 a3
  · obtain ⟨j, r⟩ := e.hm a ha
    exact ⟨(handP K).stay _ _ _ _ _ j (Same.refl _) (upd_ne fun z => e.not_m h0 (by rw [ha, z])), r⟩
  · obtain ⟨a1, a2, a3⟩ := e.hs x hx
    refine ⟨a1, a2, ?_⟩
    rw [upd_ne fun z => e.not_s h0 (by rw [hx, z])]
    exact a3
  · obtain ⟨zs', hj⟩ := ow j zs hj
    obtain ⟨ws', hk⟩ := ow k ws hk
    exact e.dis j k zs' ws' q hjk hj hk
  · rcases get_set hj with ⟨_, z, _⟩ | ⟨_, hj⟩
    · cases z
    · exact e.s0 j C ns zs hj
theorem EnvR.putP (e : EnvR K c Γ σ F H) {i : Nat} {xs ys : List D} {p : Addr} {vs : List V} (hi : Γ[i]? = some (.own xs)) (hp : σ[i]? = some (some (.ref p))) (h : Reps K ys vs F) : Post K c Γ σ F H (Γ.set i (.own ys)) F (upd H p (.lst vs)) := by
  have ow : OwnA Γ σ p := ⟨i, xs, hi, hp⟩
  refine ⟨e.put hi hp h, Same.refl _, fun _ _ _ => rfl, fun b o hb hn _ _ => ?_, fun b hb => ?_, fun b hb => upd_there hb⟩
  · rw [upd_ne (fun z => hn (by rw [z]; exact ow))]
    exact hb
  · obtain ⟨j, zs, h1, h2⟩ := hb
    rcases get_set h1 with ⟨rfl, _, _⟩ | ⟨_, h1⟩
    · exact ⟨i, xs, hi, h2⟩
    · exact ⟨j, zs, h1, h2⟩
/-- a slot is stored -/
theorem EnvR.setV (e : EnvR K c Γ σ F H) {i : Nat} {d : D} {v : V} (r : Rep K d v F) : EnvR K c (Γ.set i (.val d)) (σ.set i (some v)) F H := by
  have ow : ∀ (j : Nat) (zs : List D), (Γ.set i (Sl.val d))[j]? = some (Sl.own zs) → i ≠ j ∧ Γ[j]? = some (Sl.own zs) := fun j zs hj => by
    rcases get_set hj with ⟨_, z, _⟩ | h
    · cases z
    · exact h
  refine ⟨by rw [List.length_set, List.length_set]; exact e.len, fun j s hs => ?_, e.fx, e.fr, e.le, e.ex, e.hm, e.hs, fun j k zs ws q hjk hj hk a1 a2 => ?_, fun j C ns zs hj => ?_, fun a zs ha hj => (by obtain ⟨n, hj⟩ := ow 0 zs hj; rw [List.getElem?_set_ne n]; exact e.w0 a zs ha hj)⟩
  · rcases get_set hs with ⟨rfl, rfl, hl⟩ | ⟨hij, hs⟩
    · exact ⟨some v, List.getElem?_set_self (by rw [e.len]; exact hl), v, rfl, r⟩
    · obtain ⟨x, a1, a2⟩ := e.sl j s hs
      exact ⟨x, by rw [List.getElem?_set_ne hij]; exact a1, a2⟩
  · obtain ⟨n1, hj⟩ := ow j zs hj
    obtain ⟨n2, hk⟩ := ow k ws hk
    rw [List.getElem?_set_ne n1] at a1
    rw [List.getElem?_set_ne n2] at a2
    exact e.dis j k zs ws q hjk hj hk a1 a2
  · rcases get_set hj with ⟨_, z, _⟩ | ⟨_, hj⟩
    · cases z
    · exact e.s0 j C ns zs hj
theorem EnvR.setO (e : EnvR K c Γ σ F H) {i : Nat} (hi0 : i ≠ 0) {xs : List D} {p : Addr} {vs : List V} (h0 : c.H0 p = none) (hF : F p = none) (hp : H p = some (.lst vs)) (hn : ¬ OwnA Γ σ p) (r : Reps K xs vs F) : EnvR K c (Γ.set i (.own xs)) (σ.set i (some (.ref p))) F H := by
  refine ⟨by rw [List.length_set, List.length_set]; exact e.len, fun j s hs => ?_, e.fx, e.fr, e.le, e.ex, e.hm, e.hs, fun j k zs ws q hjk hj hk a1 a2 => ?_, fun j C ns zs hj => ?_, fun a zs ha hj => (by rw [List.getElem?_set_ne hi0] at hj; rw [List.getElem?_set_ne hi0]; exact e.w0 a zs ha hj)⟩
  · rcases get_set hs with ⟨rfl, rfl, hl⟩ | ⟨hij, hs⟩
    · exact ⟨_, List.getElem?_set_self (by rw [e.len]; exact hl), p, vs, rfl, h0, hF, hp, r⟩
    · obtain ⟨x, a1, a2⟩ := e.sl j s hs
      exact ⟨x, by rw [List.getElem?_set_ne hij]; exact a1, a2⟩
  · rcases get_set hj with ⟨rfl, _, hl⟩ | ⟨n1, hj⟩
    · rcases get_set hk with ⟨z, _, _⟩ | ⟨n2, hk⟩
      · exact hjk z
      · rw [List.getElem?_set_self (by rw [e.len]; exact hl)] at a1
        cases (Option.some.inj (Option.some.inj a1))
        rw [List.getElem?_set_ne n2] at a2
        exact hn ⟨k, ws, hk, a2⟩
    · rw [List.getElem?_set_ne n1] at a1
      rcases get_set hk with ⟨rfl, _, hl⟩ | ⟨n2, hk⟩
      · rw [List.getElem?_set_self (by rw [e.len]; exact hl)] at a2
        cases (Option.some.inj (Option.some.inj a2))
        exact hn ⟨j, zs, hj, a1⟩
      · rw [List.getElem?_set_ne n2] at a2
        exact e.dis j k zs ws q hjk hj hk a1 a2
  · rcases get_set hj with ⟨_, z, _⟩ | ⟨_, hj⟩
    · cases z
    · exact e.s0 j C ns zs hj
/-- an own list is frozen -/
theorem EnvR.frz (e : EnvR K c Γ σ F H) {i : Nat} {xs : List D} {p : Addr} {vs : List V} (hi : Γ[i]? = some (.own xs)) (hp : σ[i]? = some (some (.ref p))) (h4 : H p = some (.lst vs)) (hF : F p = none) (h0 : c.H0 p = none) (r : Reps K xs vs F) :
    EnvR K c (Γ.set i (.val (.lst xs))) σ (upd F p (.lst vs)) H := by
  have sm : Same F (upd F p (.lst vs)) := same_new hF
  have ow : ∀ (j : Nat) (zs : List D), (Γ.set i (Sl.val (.lst xs)))[j]? = some (Sl.own zs) → i ≠ j ∧ Γ[j]? = some (Sl.own zs) := fun j zs hj => by
    rcases get_set hj with ⟨_, z, _⟩ | h
    · cases z
    · exact h
  refine ⟨by rw [List.length_set]; exact e.len, fun j s hs => ?_, e.fx.trans sm, fun b hb => ?_, fun b x hb => ?_, e.ex, fun a ha => ?_, e.hs, fun j k zs ws q hjk hj hk a1 a2 => ?_, fun j C ns zs hj => ?_, fun a zs ha hj => (by obtain ⟨_, hj⟩ := ow 0 zs hj; exact e.w0 a zs ha hj)⟩
  · rcases get_set hs with ⟨rfl, rfl, hl⟩ | ⟨hij, hs⟩
    · exact ⟨_, hp, _, rfl, rep_lst (.inl (.inl upd_same)) (r.mono sm)⟩
    · obtain ⟨x, a1, a2⟩ := e.sl j s hs
      refine ⟨x, a1, ?_⟩
      cases s with
      | un => exact a2
      | val d =>
        obtain ⟨v, b1, b2⟩ := a2
        exact ⟨v, b1, b2.mono sm⟩
      | own zs =>
        obtain ⟨q, ws, b1, b2, b3, b4, b5⟩ := a2
        refine ⟨q, ws, b1, b2, ?_, b4, b5.mono sm⟩
        rw [upd_ne]
        · exact b3
        · intro z
          subst z
          exact e.dis i j xs zs q hij hi hs hp (by rw [a1, b1])
      | hand => exact a2
      | self C ns zs =>
        obtain ⟨x', dx, ws, b1, b2, b3, b4, b5⟩ := a2
        exact ⟨x', dx, ws, b1, b2, b3, b4, b5.mono sm⟩
  · rw [upd_ne (fun z => hb (by rw [z]; exact h0))]
    exact e.fr b hb
  · by_cases z : b = p
    · subst z
      rw [upd_same] at hb
      cases hb
      exact h4
    · rw [upd_ne z] at hb
      exact e.le b x hb
  · obtain ⟨j, w⟩ := e.hm a ha
    exact ⟨(handP K).stay _ _ _ _ _ j sm rfl, w⟩
  · obtain ⟨n1, hj⟩ := ow j zs hj
    obtain ⟨n2, hk⟩ := ow k ws hk
    exact e.dis j k zs ws q hjk hj hk a1 a2
  · rcases get_set hj with ⟨_, z, _⟩ | ⟨_, hj⟩
    · cases z
    · exact e.s0 j C ns zs hj
def dFrz (i : Nat) : TD := fun Γ Q => ∃ xs, Γ[i]? = some (.own xs) ∧ Q (.lst xs) (Γ.set i (.val (.lst xs)))
theorem ev_frz {i : Nat} : Ev K (tVar i) (dFrz i) := fun c Γ σ F H Qd Q e t k => by
  obtain ⟨xs, h1, h2⟩ := t
  obtain ⟨o, h3, p, vs, h4, h5, h6, h7, h8⟩ := e.sl i _ h1
  subst h4
  have ow : OwnA Γ σ p := ⟨i, xs, h1, h3⟩
  refine ⟨_, h3, k _ _ _ (upd F p (.lst vs)) H h2 ⟨e.frz h1 h3 h7 h6 h5 h8, same_new h6, fun b hb hn => ?_, fun b o hb _ _ _ => hb, fun b hb => ?_, fun _ h => h⟩ (rep_lst (.inl (.inl upd_same)) (h8.mono (same_new h6)))⟩
  · rw [upd_ne (fun z => hn (by rw [z]; exact ow))]
  · obtain ⟨j, zs, a1, a2⟩ := hb
    rcases get_set a1 with ⟨_, z, _⟩ | ⟨_, a1⟩
    · cases z
    · exact ⟨j, zs, a1, a2⟩
/-! ### expressions that make a list of one's own -/
structure NewL (K : PySem.W.Frag) (c : C0) (Γ : List Sl) (σ : St) (F H : Hp) (xs : List D) (p : Addr) : Prop where
  ok : ∃ vs, H p = some (.lst vs) ∧ Reps K xs vs F
  h0 : c.H0 p = none
  hF : F p = none
  hn : ¬ OwnA Γ σ p
def EvN (K : PySem.W.Frag) (te : TE) (td : TDA) : Prop := ∀ (c : C0) (Γ : List Sl) (σ : St) (F H : Hp) (Qd : List D → List Sl → Prop) (Q : VK), EnvR K c Γ σ F H → td Γ Qd →
  (∀ xs p Γ' F' H', H p = none → Qd xs Γ' → Post K c Γ σ F H Γ' F' H' → NewL K c Γ' σ F' H' xs p → Q (.ref p) H') → te σ H Q
theorem Post.new (P : Post K c Γ σ F H Γ1 F1 H1) {p : Addr} (h : H1 p = none) : H p = none := by
  cases q : H p with
  | none => rfl
  | some o => exact absurd h (P.th p (by rw [q]; exact fun z => nomatch z))
theorem EnvR.newL (e : EnvR K c Γ σ F H) {p : Addr} {xs : List D} {vs : List V} (hp : H p = none) (r : Reps K xs vs F) : Post K c Γ σ F H Γ F (upd H p (.lst vs)) ∧ NewL K c Γ σ F (upd H p (.lst vs)) xs p := by
  have u : UpN F H F (upd H p (.lst vs)) := UpN.lay e.le hp
  refine ⟨e.upP u, ⟨vs, upd_same, r⟩, e.fresh0 hp, e.le.free hp, fun z => ?_⟩
  obtain ⟨_, _, ws, h⟩ := e.own_ok z
  rw [hp] at h
  cases h
def dLstN (das : TDA) : TDA := fun Γ Q => das Γ fun ds Γ' => ds.length ≤ 16000000 ∧ Q ds Γ'
theorem en_lst (h : EvA K tas das) : EvN K (tLst tas) (dLstN das) := fun c Γ σ F H Qd Q e t k => h c Γ σ F H _ _ e t fun ds vs Γ1 F1 H1 t1 p1 r1 => by
  refine ⟨Nat.le_trans (by rw [r1.length]; exact t1.1) line16, fun p hp => ?_⟩
  obtain ⟨a, b⟩ := p1.env.newL hp r1
  exact k _ p Γ1 F1 _ (p1.new hp) t1.2 (p1.trans a) b
def dListN (da : TD) : TDA := fun Γ Q => da Γ fun d Γ' => ∃ xs, items d = some xs ∧ Q xs Γ'
theorem en_list (h : EvB K ta da) : EvN K (tCB (fun xs H Q => ∃ p ys, xs = [.ref p] ∧ (SqL K H p ys ∨ SqT K H p ys) ∧ ∀ l, H l = none → Q (.ref l) (upd H l (.lst ys))) (tCons ta tNil)) (dListN da) := fun c Γ σ F H Qd Q e t k =>
  h c Γ σ F H _ _ e t fun d v Γ1 F1 H1 t1 p1 r1 => by
    obtain ⟨xs, hx, q⟩ := t1
    obtain ⟨p, ys, h1, h2, h3⟩ := items_seq p1.env.le r1 hx
    rw [h1]
    refine ⟨p, ys, rfl, h2, fun l hl => ?_⟩
    obtain ⟨a, b⟩ := p1.env.newL hl h3
    exact k _ l Γ1 F1 _ (p1.new hl) q (p1.trans a) b
/-! ### own lists change -/
/-- the address and the values behind an own slot -/
theorem EnvR.get_own (e : EnvR K c Γ σ F H) {i : Nat} {xs : List D} (h : Γ[i]? = some (.own xs)) : ∃ p vs, σ[i]? = some (some (.ref p)) ∧ H p = some (.lst vs) ∧ Reps K xs vs F := by
  obtain ⟨o, h3, p, vs, h4, h5, h6, h7, h8⟩ := e.sl i _ h
  subst h4
  exact ⟨p, vs, h3, h7, h8⟩
def dPop (i : Nat) (da : TD) : TD := fun Γ Q => (∃ xs, Γ[i]? = some (.own xs)) ∧ da Γ fun d Γ1 => ∃ (xs : List D) (k : Nat) (y : D), Γ1[i]? = some (.own xs) ∧ d = .int (k : Int) ∧ k < 1000000 ∧ xs[k]? = some y ∧ Q y (Γ1.set i (.own (xs.eraseIdx k)))
theorem seqIx_nat {n k : Nat} (h : k < n) : seqIndex? (k : Int) n = some k := by
  unfold seqIndex?
  simp <;> omega
theorem ev_pop {i : Nat} (ha : Ev K ta da) : Ev K (tBM K "list" rPopAt (tVar i) (tCons ta tNil)) (dPop i da) := fun c Γ σ F H Qd Q e t k => by
  obtain ⟨⟨xs, h1⟩, t⟩ := t
  obtain ⟨p, vs, h3, h7, h8⟩ := e.get_own h1
  refine ⟨_, h3, .inl ⟨rfl, vs, .inl (.inl h7)⟩, ha c Γ σ F H _ _ e t fun d v Γ2 F2 H2 t2 p2 r2 => ?_⟩
  obtain ⟨ys, m, y, g1, rfl, hm, gy, q⟩ := t2
  obtain ⟨p', ws, g3, g7, g8⟩ := p2.env.get_own g1
  rw [h3] at g3
  cases (Option.some.inj (Option.some.inj g3))
  obtain ⟨w, gw, rw'⟩ := g8.get gy
  have hl : m < ws.length := (List.getElem?_eq_some_iff.mp gw).1
  rw [r2.int]
  refine ⟨p, ws, (m : Int), m, w, rfl, rfl, g7, by omega, by omega, seqIx_nat hl, gw, ?_⟩
  exact k y w _ F2 _ q (p2.trans (p2.env.putP g1 h3 (g8.eraseIdx m))) rw'
end
/-! ### targets -/
abbrev TGD := D → List Sl → (List Sl → Prop) → Prop
abbrev TGsD := List D → List Sl → (List Sl → Prop) → Prop
def EG (K : PySem.W.Frag) (g : TG) (gd : TGD) : Prop := ∀ (c : C0) (Γ : List Sl) (σ : St) (F H : Hp) (d : D) (v : V) (Qd : List Sl → Prop) (Q : St → Hp → Prop), EnvR K c Γ σ F H → Rep K d v F → gd d Γ Qd →
  (∀ Γ' σ' F' H', Same F F' → Qd Γ' → EnvR K c Γ' σ' F' H' → Q σ' H') → g v σ H Q
/-- .. the heap stays -/
def EGx (K : PySem.W.Frag) (g : TG) (gd : TGD) : Prop := ∀ (c : C0) (Γ : List Sl) (σ : St) (F H : Hp) (d : D) (v : V) (Qd : List Sl → Prop) (Q : St → Hp → Prop), EnvR K c Γ σ F H → Rep K d v F → gd d Γ Qd →
  (∀ Γ' σ', Qd Γ' → EnvR K c Γ' σ' F H → Q σ' H) → g v σ H Q
def EGsx (K : PySem.W.Frag) (g : TGs) (gd : TGsD) : Prop := ∀ (c : C0) (Γ : List Sl) (σ : St) (F H : Hp) (d : List D) (v : List V) (Qd : List Sl → Prop) (Q : St → Hp → Prop), EnvR K c Γ σ F H → Reps K d v F → gd d Γ Qd →
  (∀ Γ' σ', Qd Γ' → EnvR K c Γ' σ' F H → Q σ' H) → g v σ H Q
def gdName (i : Nat) : TGD := fun d Γ Q => Q (Γ.set i (.val d))
def gdNil : TGsD := fun ds Γ Q => ds = [] ∧ Q Γ
def gdCons (g : TGD) (gs : TGsD) : TGsD := fun ds Γ Q => ∃ d r, ds = d :: r ∧ g d Γ fun Γ' => gs r Γ' Q
def gdTup (n : Nat) (gs : TGsD) : TGD := fun d Γ Q => ∃ xs, d = .tup xs ∧ xs.length = n ∧ gs xs Γ Q
section
variable {K : PySem.W.Frag} {c : C0} {Γ Γ1 Γ2 : List Sl} {σ σ1 : St} {F H F1 H1 F2 H2 : Hp} {te ta tb tc : TE} {da db dc td : TD} {tt tu : TT} {dt du : TDT} {tas : TA} {das : TDA} {g : TG} {gd : TGD} {gs : TGs} {gds : TGsD}
theorem EGx.eg (h : EGx K g gd) : EG K g gd := fun c Γ σ F H d v Qd Q e r t k => h c Γ σ F H d v Qd Q e r t fun Γ' σ' q e' => k Γ' σ' F H (Same.refl _) q e'
theorem eg_name {i : Nat} : EGx K (gName i) (gdName i) := fun c Γ σ F H d v Qd Q e r t k => k _ _ t (e.setV r)
theorem egs_nil : EGsx K gNil gdNil := fun c Γ σ F H d v Qd Q e r t k => by
  obtain ⟨rfl, q⟩ := t
  exact ⟨r.of_nil, k _ _ q e⟩
theorem egs_cons (h : EGx K g gd) (hs : EGsx K gs gds) : EGsx K (gCons g gs) (gdCons gd gds) := fun c Γ σ F H d v Qd Q e r t k => by
  obtain ⟨d, r', rfl, q⟩ := t
  obtain ⟨v, vr, rfl, r1, r2⟩ := r.of_cons
  exact ⟨v, vr, rfl, h c Γ σ F H d v _ _ e r1 q fun Γ' σ' q e' => hs c Γ' σ' F H r' vr _ _ e' r2 q k⟩
theorem eg_tup {n : Nat} (hs : EGsx K gs gds) : EGx K (gTup K n gs) (gdTup n gds) := fun c Γ σ F H d v Qd Q e r t k => by
  obtain ⟨xs, rfl, hl, q⟩ := t
  obtain ⟨p, vs, h1, h2, h3⟩ := RepB.tup e.le (Or.inl r)
  exact ⟨p, vs, h1, h2, by rw [h3.length]; exact hl, hs c Γ σ F H xs vs _ _ e h3 q k⟩
def gdSub (i : Nat) (da : TD) : TGD := fun d Γ Q => (∃ xs, Γ[i]? = some (.own xs)) ∧ da Γ fun e Γ1 => ∃ (xs : List D) (k : Int) (j : Nat), Γ1[i]? = some (.own xs) ∧ e = .int k ∧ ixN xs.length k = some j ∧ Q (Γ1.set i (.own (xs.set j d)))
theorem eg_sub {i : Nat} (ha : Ev K ta da) : EG K (gSub (tVar i) ta rSetL) (gdSub i da) := fun c Γ σ F H d v Qd Q e r t k => by
  obtain ⟨⟨xs, h1⟩, t⟩ := t
  obtain ⟨p, vs, h3, h7, h8⟩ := e.get_own h1
  refine ⟨_, h3, ha c Γ σ F H _ _ e t fun d2 v2 Γ2 F2 H2 t2 p2 r2 => ?_⟩
  obtain ⟨ys, m, j, g1, rfl, hm, q⟩ := t2
  obtain ⟨p', ws, g3, g7, g8⟩ := p2.env.get_own g1
  rw [h3] at g3
  cases (Option.some.inj (Option.some.inj g3))
  rw [r2.int]
  refine ⟨p, ws, m, j, rfl, rfl, g7, by rw [g8.length]; exact hm, ?_⟩
  exact k _ _ F2 _ p2.fx q (p2.env.put g1 h3 (Reps.set (r.mono p2.fx) j g8))
/-- a target that stores nothing but the slots vs -/
def GIn (g : TG) (vs : List Nat) : Prop := ∀ v σ H (Q Q' : St → Hp → Prop), g v σ H Q → (∀ σ' H', wipe σ' vs = wipe σ vs → Q σ' H' → Q' σ' H') → g v σ H Q'
def GsIn (g : TGs) (vs : List Nat) : Prop := ∀ v σ H (Q Q' : St → Hp → Prop), g v σ H Q → (∀ σ' H', wipe σ' vs = wipe σ vs → Q σ' H' → Q' σ' H') → g v σ H Q'
theorem wipe_at {i : Nat} : ∀ {vs : List Nat} {σ : St} {o : Option V}, i ∈ vs → wipe (σ.set i o) vs = wipe σ vs
  | [], _, _, h => by simp at h
  | v :: vs, σ, o, h => by
    unfold wipe
    by_cases z : i ∈ vs
    · rw [wipe_at z]
    · rcases List.mem_cons.mp h with e | e
      · subst e
        have : ∀ (vs : List Nat), i ∉ vs → wipe (σ.set i o) vs = (wipe σ vs).set i o := by
          intro ws
          induction ws with
          | nil => intro _; rfl
          | cons w ws ih =>
            intro hw
            unfold wipe
            rw [ih (fun q => hw (List.mem_cons_of_mem _ q)), List.set_comm]
            intro q
            exact hw (by rw [q]; exact List.mem_cons_self ..)
        rw [this vs z, List.set_set]
      · exact absurd e z
theorem wipe_wipe (vs : List Nat) (σ : St) : wipe (wipe σ vs) vs = wipe σ vs := by
  have : ∀ (ws : List Nat), (∀ w ∈ ws, w ∈ vs) → wipe (wipe σ ws) vs = wipe σ vs := by
    intro ws
    induction ws with
    | nil => intro _; rfl
    | cons w ws ih =>
      intro h
      show wipe ((wipe σ ws).set w none) vs = _
      rw [wipe_at (h w (List.mem_cons_self ..)), ih (fun q hq => h q (List.mem_cons_of_mem _ hq))]
  exact this vs fun _ h => h
theorem gin_name {i : Nat} {vs : List Nat} (h : i ∈ vs) : GIn (gName i) vs := fun v σ H Q Q' q k => k _ _ (wipe_at h) q
theorem gsin_nil {vs : List Nat} : GsIn gNil vs := fun v σ H Q Q' q k => ⟨q.1, k _ _ rfl q.2⟩
theorem gsin_cons {vs : List Nat} (h : GIn g vs) (hs : GsIn gs vs) : GsIn (gCons g gs) vs := fun v σ H Q Q' q k => by
  obtain ⟨x, r, rfl, q⟩ := q
  exact ⟨x, r, rfl, h _ _ _ _ _ q fun σ1 H1 e1 q1 => hs _ _ _ _ _ q1 fun σ2 H2 e2 q2 => k _ _ (e2.trans e1) q2⟩
theorem gin_tup {vs : List Nat} {n : Nat} (hs : GsIn gs vs) : GIn (gTup K n gs) vs := fun v σ H Q Q' q k => by
  obtain ⟨a, xs, h1, h2, h3, q⟩ := q
  exact ⟨a, xs, h1, h2, h3, hs _ _ _ _ _ q k⟩
end
end DL
set_option Elab.async false
set_option linter.all false
set_option maxRecDepth 100000
set_option maxHeartbeats 1000000
namespace DL
open PySem PySem.Spec L2 L2R
open PyProof.Rows hiding St
/-! ### promises -/
/-- a def that takes data and gives data -/
def spD (K : PySem.W.Frag) (n : Nat) (p : RCl) : Sp := fun vs H Q _ => ∃ (F : Hp) (ds : List D) (Qd : D → Prop), ds.length = n ∧ Same F H ∧ Reps K ds vs F ∧ p ds Qd ∧ ∀ d v F' H', Qd d → UpN F H F' H' → Rep K d v F' → Q v H'
/-- .. that changes the thing at its first parameter -/
structure UpH (a : Addr) (F H F' H' : Hp) : Prop where
  ex : ∀ b o, b ≠ a → H b = some o → H' b = some o
  fx : Same F F'
  fr : ∀ b, H b ≠ none → F' b = F b
  le : Same F' H'
def spH (K : PySem.W.Frag) (n : Nat) (p : RCl) : Sp := fun vs H Q _ => ∃ (a : Addr) (vr : List V) (F : Hp) (ds : List D) (Qd : D → Prop), vs = .ref a :: vr ∧ ds.length = n ∧ Same F H ∧ F a = none ∧ (handP K).J F H a ∧ Reps K ds vr F ∧ p ds Qd ∧
  ∀ d v F' H', Qd d → UpH a F H F' H' → (handP K).J F' H' a → Rep K d v F' → Q v H'
/-- an __init__ -/
def spI (K : PySem.W.Frag) (C : Addr) (n : Nat) (p : RCl) : Sp := fun vs H Q _ => ∃ (x dx : Addr) (vr : List V) (F : Hp) (ds : List D) (Qd : D → Prop), vs = .ref x :: vr ∧ ds.length = n ∧ Same F H ∧ F x = none ∧ H x = some (.ins C dx []) ∧ Reps K ds vr F ∧ p ds Qd ∧
  ∀ ns xs ws dx' F' H', Qd (.obj C ns xs) → UpH x F H F' H' → H' x = some (.ins C dx' (ns.zip ws)) → ns.length = xs.length → Reps K xs ws F' → F' x = none → Q .non H'
section
variable {K : PySem.W.Frag} {c : C0} {Γ Γ1 Γ2 : List Sl} {σ : St} {F H F1 H1 F2 H2 : Hp} {te ta tb tc : TE} {da db dc td : TD} {tt tu : TT} {dt du : TDT} {tas : TA} {das : TDA}
def dCall (p : RCl) (dds : List D) (das : TDA) : TD := fun Γ Q => das Γ fun ds Γ' => p (ds ++ dds) fun d => Q d Γ'
theorem spD_len {n : Nat} {p : RCl} {vs : List V} {Q : VK} {E : XK} (h : spD K n p vs H Q E) : vs.length = n := by
  obtain ⟨F, ds, Qd, hl, _, r, _⟩ := h
  rw [r.length, hl]
theorem ev_call {n : Nat} {p : RCl} {dds : List D} {dvs : List V} {E : XK} (hd : ∀ F, Reps K dds dvs F) (hl : ∀ ds Qd, p ds Qd → ds.length = n) (h : EvA K tas das) : Ev K (tCall (spD K n p) dvs E tas) (dCall p dds das) := fun c Γ σ F H Qd Q e t k =>
  h c Γ σ F H _ _ e t fun ds vs Γ1 F1 H1 t1 p1 r1 => ⟨F1, ds ++ dds, _, hl _ _ t1, p1.env.le, r1.append (hd F1), t1, fun d v F2 H2 q u r2 => k d v Γ1 F2 H2 q (p1.trans (p1.env.upP u)) r2⟩
/-- the thing that may change, handed on -/
def dCallH (p : RCl) (h : Nat) (das : TDA) : TD := fun Γ Q => Γ[h]? = some .hand ∧ das Γ fun ds Γ' => p ds fun d => Q d Γ'
theorem EnvR.upH (e : EnvR K c Γ σ F H) {a : Addr} (ha : c.m = some a) (u : UpH a F H F1 H1) (j : (handP K).J F1 H1 a) : Post K c Γ σ F H Γ F1 H1 := by
  obtain ⟨j0, hF0, hH0, hsf⟩ := e.hm a ha
  refine ⟨⟨e.len, fun i s hs => ?_, e.fx.trans u.fx, fun b hb => ?_, u.le, fun b o h1 h2 h3 => ?_, fun a' ha' => ?_, fun x hx => ?_, e.dis, e.s0, e.w0⟩, u.fx, fun b hb _ => u.fr b hb, fun b o hb _ hm _ => u.ex b o (fun z => hm (by rw [z]; exact ha)) hb, fun b hb => hb, fun b hb => ?_⟩
  · obtain ⟨o, h1, h2⟩ := e.sl i s hs
    refine ⟨o, h1, ?_⟩
    cases s with
    | un => exact True.intro
    | val d =>
      obtain ⟨v, q1, q2⟩ := h2
      exact ⟨v, q1, q2.mono u.fx⟩
    | own xs =>
      obtain ⟨p, vs, q1, q2, q3, q4, q5⟩ := h2
      refine ⟨p, vs, q1, q2, ?_, u.ex _ _ (fun z => hH0 (by rw [← z]; exact q2)) q4, q5.mono u.fx⟩
      rw [u.fr p (by rw [q4]; exact fun z => nomatch z)]
      exact q3
    | hand => exact h2
    | self C ns xs =>
      obtain ⟨x, dx, vs, q1, q2, q3, q4, q5⟩ := h2
      exact ⟨x, dx, vs, q1, q2, u.ex _ _ (fun z => hsf (by rw [← z]; exact q2)) q3, q4, q5.mono u.fx⟩
  · rw [← e.fr b hb]
    by_cases hm : c.m = some b
    · exact u.fr b (e.m_there hm)
    · by_cases hs : c.sf = some b
      · exact u.fr b (e.hs b hs).2.2
      · cases q : c.H0 b with
        | none => exact absurd q hb
        | some o => exact u.fr b (by rw [e.ex b o q hm hs]; exact fun z => nomatch z)
  · exact u.ex _ _ (fun z => h2 (by rw [z]; exact ha)) (e.ex b o h1 h2 h3)
  · rw [ha] at ha'
    cases ha'
    exact ⟨j, hF0, hH0, hsf⟩
  · obtain ⟨h1, h2, h3⟩ := e.hs x hx
    refine ⟨h1, h2, ?_⟩
    cases q : H x with
    | none => exact absurd q h3
    | some o =>
      rw [u.ex x o (fun z => hsf (by rw [← z]; exact hx)) q]
      exact fun z => nomatch z
  · by_cases z : b = a
    · rw [z]
      exact (handP K).there _ _ _ j
    · cases q : H b with
      | none => exact absurd q hb
      | some o =>
        rw [u.ex b o z q]
        exact fun z => nomatch z
theorem ev_callH {n h : Nat} {p : RCl} {E : XK} (hl : ∀ ds Qd, p ds Qd → ds.length = n) (ht : EvA K tas das) : Ev K (tCall (spH K n p) [] E (tCons (tVar h) tas)) (dCallH p h das) := fun c Γ σ F H Qd Q e t k => by
  obtain ⟨h1, t⟩ := t
  obtain ⟨o, h2, a, h3, h4⟩ := e.sl h _ h1
  subst h3
  refine ⟨_, h2, ht c Γ σ F H _ _ e t fun ds vs Γ1 F1 H1 t1 p1 r1 => ?_⟩
  show spH K n p ((.ref a :: vs) ++ []) H1 Q E
  rw [List.append_nil]
  exact ⟨a, vs, F1, ds, _, rfl, hl _ _ t1, p1.env.le, p1.env.m_free h4, (p1.env.hm a h4).1, r1, t1, fun d v F2 H2 q u j r2 => k d v Γ1 F2 H2 q (p1.trans (p1.env.upH h4 u j)) r2⟩
/-- C(..) -/
theorem ev_make {n : Nat} {p : RCl} {C : Addr} {dds : List D} {dvs : List V} {E : XK} (hd : ∀ F, Reps K dds dvs F) (hl : ∀ ds Qd, p ds Qd → ds.length = n) (h : EvA K tas das) : Ev K (tMake C (spI K C n p) dvs E tas) (dCall p dds das) := fun c Γ σ F H Qd Q e t k =>
  h c Γ σ F H _ _ e t fun ds vs Γ1 F1 H1 t1 p1 r1 => by
    intro x dx hx hdx hne
    have le := p1.env.le
    have hx' : upd H1 dx (.own x) x = none := by rw [upd_ne hne.symm]; exact hx
    have s1 : Same F1 (upd (upd H1 dx (.own x)) x (.ins C dx [])) := (le.trans (same_new hdx)).trans (same_new hx')
    refine ⟨x, dx, vs ++ dvs, F1, ds ++ dds, _, rfl, hl _ _ t1, s1, le.free hx, upd_same, r1.append (hd F1), t1, fun ns xs ws dx' F2 H2 q u hx2 hn r2 hF2 => ⟨rfl, ?_⟩⟩
    have sx : Same F2 (upd F2 x (.ins C dx' (ns.zip ws))) := same_new hF2
    have U : UpN F1 H1 (upd F2 x (.ins C dx' (ns.zip ws))) H2 := by
      refine ⟨fun b o hb => ?_, u.fx.trans sx, fun b hb => ?_, fun b o hb => ?_⟩
      · have bx : b ≠ x := ne_of_none hb hx
        refine u.ex b o bx ?_
        rw [upd_ne bx, upd_ne (ne_of_none hb hdx)]
        exact hb
      · have bx : b ≠ x := fun z => hb (by rw [z]; exact hx)
        have bdx : b ≠ dx := fun z => hb (by rw [z]; exact hdx)
        rw [upd_ne bx]
        refine u.fr b ?_
        rw [upd_ne bx, upd_ne bdx]
        exact hb
      · by_cases z : b = x
        · subst z
          rw [upd_same] at hb
          cases hb
          exact hx2
        · rw [upd_ne z] at hb
          exact u.le b o hb
    exact k _ _ Γ1 _ _ q (p1.trans (p1.env.upP U)) (rep_obj upd_same hn (r2.mono sx))
/-- o.m(..) -/
def dMeth (C : Addr) (m : Str) (p : RCl) (dds : List D) (da : TD) (das : TDA) : TD := fun Γ Q => da Γ fun d Γ1 => ∃ ns xs, d = .obj C ns xs ∧ ns.contains m = false ∧ das Γ1 fun ds Γ2 => p (d :: (ds ++ dds)) fun e => Q e Γ2
theorem lookup_zip_none {f : Str} : ∀ {ns : List Str} {vs : List V}, ns.contains f = false → (ns.zip vs).lookup f = none
  | [], _, _ => rfl
  | _ :: _, [], _ => rfl
  | n :: ns, v :: vs, h => by
    rw [List.contains_cons, Bool.or_eq_false_iff] at h
    rw [List.zip_cons_cons, List.lookup_cons, h.1]
    exact lookup_zip_none h.2
theorem ev_meth {n : Nat} {p : RCl} {C : Addr} {m : Str} {dds : List D} {dvs : List V} {E : XK} (hd : ∀ F, Reps K dds dvs F) (hl : ∀ ds Qd, p ds Qd → ds.length = n) (ha : Ev K ta da) (h : EvA K tas das) : Ev K (tMeth C m (spD K n p) dvs E ta tas) (dMeth C m p dds da das) := fun c Γ σ F H Qd Q e t k =>
  ha c Γ σ F H _ _ e t fun d v Γ1 F1 H1 t1 p1 r1 => by
    obtain ⟨ns, xs, rfl, hm, t1⟩ := t1
    obtain ⟨a, dx, ws, h1, h2, h3, h4⟩ := r1.obj
    refine ⟨a, dx, _, h1, p1.env.le _ _ h2, lookup_zip_none hm, h c Γ1 σ F1 H1 _ _ p1.env t1 fun ds vs Γ2 F2 H2 t2 p2 r2 => ?_⟩
    exact ⟨F2, _, _, hl _ _ t2, p2.env.le, .cons (r1.mono p2.fx) (r2.append (hd F2)), t2, fun d v F3 H3 q u r3 => k d v Γ2 F3 H3 q ((p1.trans p2).trans (p2.env.upP u)) r3⟩
/-- len(o), an own __len__ -/
def cLenO (C : Addr) (p : RCl) : RCl := fun ds q => ∃ ns xs, ds = [.obj C ns xs] ∧ p ds fun e => ∃ n : Int, e = .int n ∧ 0 ≤ n ∧ n < 2 ^ 63 ∧ q (.int n)
theorem cl_lenO {p : RCl} {C : Addr} {E : XK} : ClD K (rLenO C (spD K 1 p) E) (cLenO C p) := fun F H ds vs Qd Q le rr t k => by
  obtain ⟨ns, xs, rfl, q⟩ := t
  obtain ⟨v, rfl, r⟩ := bs_one rr
  have r := r.nl fun _ z => nomatch z
  obtain ⟨a, dx, ws, h1, h2, h3, h4⟩ := r.obj
  rw [h1] at r ⊢
  refine ⟨a, dx, _, rfl, le _ _ h2, F, _, _, rfl, le, .cons r .nil, q, fun d v F' H' q u r' => ?_⟩
  obtain ⟨n, rfl, n1, n2, q⟩ := q
  exact ⟨n, r'.int, n1, n2, k _ _ F' H' q u rep_int⟩
/-- == of instances with an own __eq__ that says True -/
def oEqO (C : Addr) (p : RCl) : ROp := fun a b q => ∃ ns xs ns' xs', a = .obj C ns xs ∧ b = .obj C ns' xs' ∧ p [a, b] (fun r => r = .bl true) ∧ q (.bl true)
def eqR (K : PySem.W.Frag) (p : RCl) : Addr → Addr → Hp → Prop := fun a b H => ∃ F d e, Same F H ∧ Rep K d (.ref a) F ∧ Rep K e (.ref b) F ∧ p [d, e] fun r => r = .bl true
theorem spEq_of {p : RCl} {vs : List V} {Q : VK} {E : XK} (h : spEq (eqR K p) vs H Q E) : spD K 2 p vs H Q E := by
  obtain ⟨a, b, rfl, ⟨F, d, e, le, r1, r2, q⟩, hQ⟩ := h
  refine ⟨F, [d, e], _, rfl, le, .cons r1 (.cons r2 .nil), q, fun x v F' H' hx u r => ?_⟩
  subst hx
  rw [r.bl]
  exact hQ H' u.ex
theorem od_eqO {p : RCl} {C : Addr} : OpD K (rEqG (DIns C (eqR K p))) (oEqO C p) := fun F H a b va vb Qd Q le ra rb t k => by
  obtain ⟨ns, xs, ns', xs', rfl, rfl, t, q⟩ := t
  have ra := ra.nl fun _ z => nomatch z
  have rb := rb.nl fun _ z => nomatch z
  obtain ⟨a, dx, ws, h1, h2, h3, h4⟩ := ra.obj
  obtain ⟨b, dy, ws', g1, g2, g3, g4⟩ := rb.obj
  rw [h1] at ra ⊢
  rw [g1] at rb ⊢
  refine ⟨⟨a, b, dx, dy, _, _, rfl, rfl, le _ _ h2, le _ _ g2, F, _, _, le, ra, rb, t⟩, fun H' ex => ?_⟩
  exact k _ _ F H' q ⟨ex, Same.refl _, fun _ _ => rfl, le.trans ex⟩ rep_bl
end
/-! ### statements -/
structure EndsD where
  nx : List Sl → Prop
  rt : D → List Sl → Prop
  bk : List Sl → Prop
  ct : List Sl → Prop
abbrev TSD := EndsD → List Sl → Prop
structure EndsOk (K : PySem.W.Frag) (c : C0) (F0 : Hp) (E : Ends) (D : EndsD) : Prop where
  nx : ∀ Γ σ F H, Same F0 F → D.nx Γ → EnvR K c Γ σ F H → E.nx σ H
  rt : ∀ d v Γ σ F H, Same F0 F → D.rt d Γ → EnvR K c Γ σ F H → Rep K d v F → E.rt v H
  bk : ∀ Γ σ F H, Same F0 F → D.bk Γ → EnvR K c Γ σ F H → E.bk σ H
  ct : ∀ Γ σ F H, Same F0 F → D.ct Γ → EnvR K c Γ σ F H → E.ct σ H
theorem EndsOk.mono {K : PySem.W.Frag} {c : C0} {F0 F1 : Hp} {E : Ends} {D : EndsD} (k : EndsOk K c F0 E D) (s : Same F0 F1) : EndsOk K c F1 E D :=
  ⟨fun Γ σ F H e => k.nx Γ σ F H (s.trans e), fun d v Γ σ F H e => k.rt d v Γ σ F H (s.trans e), fun Γ σ F H e => k.bk Γ σ F H (s.trans e), fun Γ σ F H e => k.ct Γ σ F H (s.trans e)⟩
def Sd (K : PySem.W.Frag) (ts : TS) (td : TSD) : Prop := ∀ (c : C0) (Γ : List Sl) (σ : St) (F H : Hp) (E : Ends) (D : EndsD), EnvR K c Γ σ F H → td D Γ → EndsOk K c F E D → ts E σ H
end DL
set_option Elab.async false
set_option linter.all false
set_option maxRecDepth 100000
set_option maxHeartbeats 1000000
namespace DL
open PySem PySem.Spec L2 L2R
open PyProof.Rows hiding St
section
variable {K : PySem.W.Frag} {c : C0} {Γ Γ1 Γ2 : List Sl} {σ : St} {F H F1 H1 F2 H2 : Hp} {te ta tb tc : TE} {da db dc td : TD} {tt tu : TT} {dt du : TDT} {tas : TA} {das : TDA} {g : TG} {gd : TGD} {ts us : TS} {sd ud : TSD}
def sNext : TSD := fun D Γ => D.nx Γ
def sSeq (s u : TSD) : TSD := fun D Γ => s { D with nx := u D } Γ
def sBrk : TSD := fun D Γ => D.bk Γ
def sCnt : TSD := fun D Γ => D.ct Γ
def sDrop (td : TD) : TSD := fun D Γ => td Γ fun _ Γ' => D.nx Γ'
def sRet (td : TD) : TSD := fun D Γ => td Γ fun d Γ' => D.rt d Γ'
def sRetN : TSD := fun D Γ => D.rt .non Γ
def sIf (dt : TDT) (s u : TSD) : TSD := fun D Γ => dt Γ fun b Γ' => if b = true then s D Γ' else u D Γ'
def sNever : TSD := fun _ _ => False
def sAsg (td : TD) (gd : TGD) : TSD := fun D Γ => td Γ fun d Γ' => gd d Γ' D.nx
def sAsgN (i : Nat) (td : TDA) : TSD := fun D Γ => td Γ fun xs Γ' => D.nx (Γ'.set i (.own xs))
def sPar (i j : Nat) (das : TDA) : TSD := fun D Γ => das Γ fun ds Γ' => ∃ a b, ds = [a, b] ∧ D.nx ((Γ'.set i (.val a)).set j (.val b))
def sAug (i : Nat) (f : Int → Int → Int) (td : TD) : TSD := fun D Γ => ∃ n : Int, Γ[i]? = some (.val (.int n)) ∧ td Γ fun d Γ' => ∃ m : Int, d = .int m ∧ D.nx (Γ'.set i (.val (.int (f n m))))
def sApp (i : Nat) (td : TD) : TSD := fun D Γ => (∃ xs, Γ[i]? = some (.own xs)) ∧ td Γ fun d Γ' => ∃ xs, Γ'[i]? = some (.own xs) ∧ xs.length < 16000000 ∧ D.nx (Γ'.set i (.own (xs ++ [d])))
def sFldS (K : PySem.W.Frag) (f : Str) (td : TD) : TSD := fun D Γ => td Γ fun d Γ' => ∃ C ns xs, Γ'[0]? = some (.self C ns xs) ∧ Cls K C ∧ NoAttr K C f ∧ ns.length < 1000 ∧ ns.contains f = false ∧ D.nx (Γ'.set 0 (.self C (ns ++ [f]) (xs ++ [d])))
theorem sd_next : Sd K tNext sNext := fun c Γ σ F H E D e t k => k.nx Γ σ F H (Same.refl _) t e
theorem sd_seq (h : Sd K ts sd) (h' : Sd K us ud) : Sd K (tSeq ts us) (sSeq sd ud) := fun c Γ σ F H E D e t k =>
  h c Γ σ F H _ _ e t ⟨fun Γ σ F H s t e => h' c Γ σ F H _ _ e t (k.mono s), k.rt, k.bk, k.ct⟩
theorem sd_brk : Sd K tBreak sBrk := fun c Γ σ F H E D e t k => k.bk Γ σ F H (Same.refl _) t e
theorem sd_cnt : Sd K tCont sCnt := fun c Γ σ F H E D e t k => k.ct Γ σ F H (Same.refl _) t e
theorem sd_drop (h : Ev K te td) : Sd K (tDrop te) (sDrop td) := fun c Γ σ F H E D e t k => h c Γ σ F H _ _ e t fun d v Γ' F' H' q p r => k.nx Γ' σ F' H' p.fx q p.env
theorem sd_ret (h : Ev K te td) : Sd K (tRet te) (sRet td) := fun c Γ σ F H E D e t k => h c Γ σ F H _ _ e t fun d v Γ' F' H' q p r => k.rt d v Γ' σ F' H' p.fx q p.env r
theorem sd_retN : Sd K tRetN sRetN := fun c Γ σ F H E D e t k => k.rt _ _ Γ σ F H (Same.refl _) t e rep_non
theorem sd_if (h : EvT K tt dt) (h1 : Sd K ts sd) (h2 : Sd K us ud) : Sd K (tIfS tt ts us) (sIf dt sd ud) := fun c Γ σ F H E D e t k => h c Γ σ F H _ _ e t fun b Γ' F' H' q p => by
  cases b with
  | true => exact h1 c Γ' σ F' H' _ _ p.env q (k.mono p.fx)
  | false => exact h2 c Γ' σ F' H' _ _ p.env q (k.mono p.fx)
theorem sd_never : Sd K tNever sNever := fun c Γ σ F H E D e t k => t
theorem sd_asg (h : Ev K te td) (hg : EG K g gd) : Sd K (tAsg te g) (sAsg td gd) := fun c Γ σ F H E D e t k => h c Γ σ F H _ _ e t fun d v Γ' F' H' q p r => hg c Γ' σ F' H' d v _ _ p.env r q fun Γ σ F H s => k.nx Γ σ F H (p.fx.trans s)
theorem sd_asgN {i : Nat} {td : TDA} (hi0 : i ≠ 0) (h : EvN K te td) : Sd K (tAsg te (gName i)) (sAsgN i td) := fun c Γ σ F H E D e t k => h c Γ σ F H _ _ e t fun xs p Γ' F' H' _ q P n => by
  obtain ⟨vs, h1, h2⟩ := n.ok
  exact k.nx _ _ F' H' P.fx q (P.env.setO hi0 n.h0 n.hF h1 n.hn h2)
theorem sd_par {i j : Nat} (h : EvA K tas das) : Sd K (tPar i j tas) (sPar i j das) := fun c Γ σ F H E D e t k => h c Γ σ F H _ _ e t fun ds vs Γ' F' H' q p r => by
  obtain ⟨a, b, rfl, q⟩ := q
  obtain ⟨v, vr, rfl, r1, r⟩ := r.of_cons
  obtain ⟨w, vr, rfl, r2, r⟩ := r.of_cons
  cases r.of_nil
  exact ⟨v, w, rfl, k.nx _ _ F' H' p.fx q ((p.env.setV r1).setV r2)⟩
theorem sd_aug {i : Nat} {f : Int → Int → Int} (h : Ev K te td) : Sd K (tAug i te (ipI f)) (sAug i f td) := fun c Γ σ F H E D e t k => by
  obtain ⟨n, h1, t⟩ := t
  obtain ⟨o, h2, v, h3, h4⟩ := e.sl i _ h1
  subst h3
  rw [h4.int] at h2
  refine ⟨.int n, h2, h c Γ σ F H _ _ e t fun d v Γ' F' H' q p r => ?_⟩
  obtain ⟨m, rfl, q⟩ := q
  exact ⟨n, m, rfl, r.int, k.nx _ _ F' H' p.fx q (p.env.setV rep_int)⟩
theorem sd_app {i : Nat} (h : Ev K te td) : Sd K (tDrop (tBM K "list" rAppend (tVar i) (tCons te tNil))) (sApp i td) := fun c Γ σ F H E D e t k => by
  obtain ⟨⟨xs, h1⟩, t⟩ := t
  obtain ⟨p, vs, h3, h7, h8⟩ := e.get_own h1
  refine ⟨_, h3, .inl ⟨rfl, vs, .inl (.inl h7)⟩, h c Γ σ F H _ _ e t fun d v Γ2 F2 H2 t2 p2 r2 => ?_⟩
  obtain ⟨ys, g1, hl, q⟩ := t2
  obtain ⟨p', ws, g3, g7, g8⟩ := p2.env.get_own g1
  rw [h3] at g3
  cases (Option.some.inj (Option.some.inj g3))
  refine ⟨p, ws, v, rfl, rfl, g7, Nat.lt_of_lt_of_le (by rw [g8.length]; exact hl) line16, ?_⟩
  exact k.nx _ σ F2 _ p2.fx q (p2.env.put g1 h3 (g8.append (.cons r2 .nil)))
/-- an attribute of the instance that is being made -/
theorem putF_new {f : Str} {y : V} : ∀ {ns : List Str} {ws : List V}, ns.length = ws.length → ns.contains f = false → putF f y (ns.zip ws) = (ns ++ [f]).zip (ws ++ [y])
  | [], [], _, _ => rfl
  | [], _ :: _, h, _ => by simp at h
  | _ :: _, [], h, _ => by simp at h
  | n :: ns, w :: ws, h, hc => by
    rw [List.contains_cons, Bool.or_eq_false_iff] at hc
    rw [List.zip_cons_cons, List.cons_append, List.cons_append, List.zip_cons_cons, ← putF_new (by simpa using h) hc.2]
    show (if n = f then _ else _) = _
    rw [if_neg fun z => by subst z; simp at hc]
theorem EnvR.fld (e : EnvR K c Γ σ F H) {C : Addr} {ns : List Str} {xs : List D} {f : Str} {d : D} {v : V} {x dx : Addr} {ws : List V} (h0 : Γ[0]? = some (.self C ns xs)) (hx : c.sf = some x) (hH : H x = some (.ins C dx (ns.zip ws))) (hl : ns.length = xs.length) (rs : Reps K xs ws F) (r : Rep K d v F) (hn : ns.contains f = false) :
    EnvR K c (Γ.set 0 (.self C (ns ++ [f]) (xs ++ [d]))) σ F (upd H x (.ins C dx (putF f v (ns.zip ws)))) := by
  obtain ⟨hF0, hH0, _⟩ := e.hs x hx
  have hF : F x = none := e.s_free hx
  have ow : ∀ (j : Nat) (zs : List D), (Γ.set 0 (Sl.self C (ns ++ [f]) (xs ++ [d])))[j]? = some (Sl.own zs) → Γ[j]? = some (Sl.own zs) := fun j zs hj => by
    rcases get_set hj with ⟨_, z, _⟩ | h
    · cases z
    · exact h.2
  refine ⟨by rw [List.length_set]; exact e.len, fun j s hs => ?_, e.fx, e.fr, fun b o hb => ?_, fun b o a1 a2 a3 => ?_, fun a ha => ?_, fun y hy => ?_, fun j k zs ws q hjk hj hk => e.dis j k zs ws q hjk (ow j zs hj) (ow k ws hk), fun j C ns zs hj => ?_, fun a zs ha hj => e.w0 a zs ha (ow 0 zs hj)⟩
  · rcases get_set hs with ⟨rfl, rfl, hl0⟩ | ⟨hij, hs⟩
    · obtain ⟨o, a1, x', dx', ws', a2, a3, a4, a5⟩ := e.sl 0 _ h0
      rw [hx] at a3
      cases a3
      refine ⟨o, a1, x, dx, ws ++ [v], a2, hx, ?_, by simp [hl], rs.append (.cons r .nil)⟩
      rw [upd_same, putF_new (by rw [rs.length]; exact hl) hn]
    · obtain ⟨o, a1, a2⟩ := e.sl j s hs
      refine ⟨o, a1, ?_⟩
      cases s with
      | un => exact a2
      | val d => exact a2
      | own zs =>
        obtain ⟨q, vs, b1, b2, b3, b4, b5⟩ := a2
        refine ⟨q, vs, b1, b2, b3, ?_, b5⟩
        rw [upd_ne fun z => hH0 (by rw [← z]; exact b2)]
        exact b4
      | hand => exact a2
      | self C' ns' zs => exact absurd (e.s0 j _ _ _ hs) (Ne.symm hij)
  · rw [upd_ne fun z => by rw [z, hF] at hb; cases hb]
    exact e.le b o hb
  · rw [upd_ne fun z => a3 (by rw [z]; exact hx)]
    exact e.ex b o a1 a2 a3
  · obtain ⟨j, r1, r2, r3⟩ := e.hm a ha
    exact ⟨(handP K).stay _ _ _ _ _ j (Same.refl _) (upd_ne fun z => r3 (by rw [z]; exact hx)), r1, r2, r3⟩
  · rw [hx] at hy
    cases hy
    exact ⟨hF0, hH0, by rw [upd_same]; exact fun z => nomatch z⟩
  · rcases get_set hj with ⟨z, _, _⟩ | ⟨_, hj⟩
    · exact z.symm
    · exact e.s0 j C ns zs hj
theorem sd_fld {f : Str} (h : Ev K te td) : Sd K (sFld K (tVar 0) te f) (sFldS K f td) := fun c Γ σ F H E D e t k => h c Γ σ F H _ _ e t fun d v Γ' F' H' q p r => by
  obtain ⟨C, ns, xs, h0, cl, na, hl, hc, q⟩ := q
  obtain ⟨o, a1, x, dx, ws, a2, a3, a4, a5, a6⟩ := p.env.sl 0 _ h0
  subst a2
  refine ⟨_, a1, x, C, dx, _, rfl, a4, cl, na, ?_, k.nx _ σ F' _ p.fx q (p.env.fld h0 a3 a4 a5 a6 r hc)⟩
  rw [List.length_zip]
  omega
/-! ### what a loop goes over -/
structure ItR (K : PySem.W.Frag) (J : It) (items : List D) (F1 : Hp) : Prop where
  go : ∀ i d, items[i]? = some d → ∀ F H, Same F1 F → Same F H → J.go i H ∧ ∀ x H', J.yld i H x H' → ∃ F', UpN F H F' H' ∧ Rep K d x F'
  stop : ∀ F H, Same F1 F → Same F H → J.stop items.length H
def EI (K : PySem.W.Frag) (wi : TI) (di : TDA) : Prop := ∀ (c : C0) (Γ : List Sl) (σ : St) (F H : Hp) (Qd : List D → List Sl → Prop) (R : It → Hp → Prop), EnvR K c Γ σ F H → di Γ Qd →
  (∀ items J Γ' F' H', Qd items Γ' → Post K c Γ σ F H Γ' F' H' → ItR K J items F' → R J H') → wi σ H R
def iAny (K : PySem.W.Frag) (tl : TE) : TI := fun σ H R => tl σ H fun x H1 => ∃ a xs, x = .ref a ∧ ((SqL K H1 a xs ∧ R (Itl K a) H1) ∨ (SqT K H1 a xs ∧ R (Itt K a) H1))
end
theorem pi_any {X : Cx} {tg l : Expr} {tl : TE} (hl : PE X l tl) : PI X tg l (iAny X.K tl) := by
  refine ⟨fun pins s σ H R I h => ?_⟩
  refine thn (hl.run pins s σ H _ I h) fun v s1 ⟨x, H1, I1, r1, q1⟩ => ?_
  obtain ⟨a, xs, e, q⟩ := q1
  subst e
  cases r1
  rcases q with ⟨hq, q⟩ | ⟨hq, q⟩
  · obtain ⟨its, rv, p, hz⟩ := I1.list hq
    refine wpAny_pyIter_list p.isList ?_
    refine ⟨s1.heap.objs.size, [s1.heap.objs.size], _, _, H1, rfl, I1.kept (t' := s1.toks) fun b o e => Heap.get?_push_of_some _ e, turn_list a _, ⟨_, Heap.get?_push_size _ rfl, rfl, rfl⟩, fun b hb => ?_, q⟩
    have e : b = s1.heap.objs.size := by simpa using hb
    subst e
    exact I1.fpOk (Nat.le_refl _) (I1.hok.fresh (Nat.le_refl _))
  · obtain ⟨its, rv, p, hz⟩ := I1.tuple hq
    refine wpAny_pyIter_tuple (show s1.heap.IsTuple a its.toArray from p) ?_
    refine ⟨s1.heap.objs.size, [s1.heap.objs.size], _, _, H1, rfl, I1.kept (t' := s1.toks) fun b o e => Heap.get?_push_of_some _ e, turn_tuple a _, ⟨_, Heap.get?_push_size _ rfl, rfl, rfl⟩, fun b hb => ?_, q⟩
    have e : b = s1.heap.objs.size := by simpa using hb
    subst e
    exact I1.fpOk (Nat.le_refl _) (I1.hok.fresh (Nat.le_refl _))
section
variable {K : PySem.W.Frag} {c : C0} {Γ Γ1 Γ2 : List Sl} {σ : St} {F H F1 H1 F2 H2 : Hp} {te ta tb tc : TE} {da db dc td : TD} {tt tu : TT} {dt du : TDT} {tas : TA} {das : TDA} {g : TG} {gd : TGD} {ts us : TS} {sd ud : TSD}
def iSeq (da : TD) : TDA := fun Γ Q => da Γ fun d Γ' => ∃ xs, items d = some xs ∧ Q xs Γ'
theorem itr_seq {d : D} {v : V} {xs : List D} (h : Rep K d v F) (hx : items d = some xs) : ∃ a vs, v = .ref a ∧ ((SqL K F a vs ∧ ItR K (Itl K a) xs F ∧ ItR K (Ite K a) (xs.zipIdx.map fun p => .tup [.int (p.2 : Nat), p.1]) F) ∨ (SqT K F a vs ∧ ItR K (Itt K a) xs F ∧ ItR K (IteT K a) (xs.zipIdx.map fun p => .tup [.int (p.2 : Nat), p.1]) F)) := by
  have zi : ∀ (i : Nat) (d : D), (xs.zipIdx.map fun p => D.tup [.int (p.2 : Nat), p.1])[i]? = some d → ∃ x, xs[i]? = some x ∧ d = .tup [.int (i : Nat), x] := fun i d hi => by
    rw [List.getElem?_map, List.getElem?_zipIdx] at hi
    cases q : xs[i]? with
    | none =>
      rw [q] at hi
      cases hi
    | some x =>
      rw [q] at hi
      refine ⟨x, rfl, ?_⟩
      have := (Option.some.inj hi).symm
      simpa using this
  have zl : (xs.zipIdx.map fun p => D.tup [.int (p.2 : Nat), p.1]).length = xs.length := by rw [List.length_map, List.length_zipIdx]
  have new : ∀ (F' H : Hp) (T : Addr) (i : Nat) (x : V) (d : D), Same F' H → H T = none → Rep K d x F' → UpN F' H (upd F' T (.tup [.int (i : Nat), x])) (upd H T (.tup [.int (i : Nat), x])) ∧ Rep K (.tup [.int (i : Nat), d]) (.ref T) (upd F' T (.tup [.int (i : Nat), x])) := fun F' H T i x d le hT r => by
    obtain ⟨u, r⟩ := rep_newT (K := K) le hT (Reps.cons (rep_int (i := (i : Nat))) (Reps.cons r Reps.nil))
    exact ⟨u, r⟩
  cases d with
  | lst ys =>
    cases (Option.some.inj hx)
    obtain ⟨a, vs, h1, h2, h3⟩ := h.lst
    refine ⟨a, vs, h1, .inl ⟨h2, ⟨fun i d hi F' H e1 e2 => ?_, fun F' H e1 e2 => ⟨vs, (e1.trans e2).seq h2, Nat.le_of_eq h3.length⟩⟩, ⟨fun i d hi F' H e1 e2 => ?_, fun F' H e1 e2 => ⟨vs, (e1.trans e2).seq h2, by rw [zl, h3.length]; exact Nat.le_refl _⟩⟩⟩⟩
    · obtain ⟨w, hw, rw'⟩ := h3.get hi
      refine ⟨⟨vs, w, (e1.trans e2).seq h2, hw⟩, fun x H' y => ?_⟩
      obtain ⟨rfl, y⟩ := y
      have := y vs ((e1.trans e2).seq h2)
      rw [hw] at this
      cases (Option.some.inj this)
      exact ⟨F', UpN.refl e2, rw'.mono e1⟩
    · obtain ⟨z, hz, rfl⟩ := zi i d hi
      obtain ⟨w, hw, rw'⟩ := h3.get hz
      refine ⟨⟨vs, w, (e1.trans e2).seq h2, hw⟩, fun x H' y => ?_⟩
      obtain ⟨T, w', rfl, hT, rfl, y⟩ := y
      have := y vs ((e1.trans e2).seq h2)
      rw [hw] at this
      cases (Option.some.inj this)
      exact ⟨_, new F' H T i w z e2 hT (rw'.mono e1)⟩
  | tup ys =>
    cases (Option.some.inj hx)
    obtain ⟨a, vs, h1, h2, h3⟩ := h.tup
    refine ⟨a, vs, h1, .inr ⟨h2, ⟨fun i d hi F' H e1 e2 => ?_, fun F' H e1 e2 => ⟨vs, sqT_same (e1.trans e2) h2, Nat.le_of_eq h3.length⟩⟩, ⟨fun i d hi F' H e1 e2 => ?_, fun F' H e1 e2 => ⟨vs, sqT_same (e1.trans e2) h2, by rw [zl, h3.length]; exact Nat.le_refl _⟩⟩⟩⟩
    · obtain ⟨w, hw, rw'⟩ := h3.get hi
      refine ⟨⟨vs, w, sqT_same (e1.trans e2) h2, hw⟩, fun x H' y => ?_⟩
      obtain ⟨rfl, y⟩ := y
      have := y vs (sqT_same (e1.trans e2) h2)
      rw [hw] at this
      cases (Option.some.inj this)
      exact ⟨F', UpN.refl e2, rw'.mono e1⟩
    · obtain ⟨z, hz, rfl⟩ := zi i d hi
      obtain ⟨w, hw, rw'⟩ := h3.get hz
      refine ⟨⟨vs, w, sqT_same (e1.trans e2) h2, hw⟩, fun x H' y => ?_⟩
      obtain ⟨T, w', rfl, hT, rfl, y⟩ := y
      have := y vs (sqT_same (e1.trans e2) h2)
      rw [hw] at this
      cases (Option.some.inj this)
      exact ⟨_, new F' H T i w z e2 hT (rw'.mono e1)⟩
  | _ => cases hx
theorem ei_any (h : Ev K te td) : EI K (iAny K te) (iSeq td) := fun c Γ σ F H Qd R e t k => h c Γ σ F H _ _ e t fun d v Γ' F' H' q p r => by
  obtain ⟨xs, hx, q⟩ := q
  obtain ⟨a, vs, h1, h2⟩ := itr_seq r hx
  refine ⟨a, vs, h1, ?_⟩
  rcases h2 with ⟨h2, i, _⟩ | ⟨h2, i, _⟩
  · exact .inl ⟨p.env.le.seq h2, k _ _ Γ' F' H' q p i⟩
  · exact .inr ⟨sqT_same p.env.le h2, k _ _ Γ' F' H' q p i⟩
def iEnumD (da : TD) : TDA := fun Γ Q => da Γ fun d Γ' => ∃ xs, items d = some xs ∧ Q (xs.zipIdx.map fun p => .tup [.int (p.2 : Nat), p.1]) Γ'
theorem ei_enum (h : Ev K te td) : EI K (iEnumA K (tCons te tNil)) (iEnumD td) := fun c Γ σ F H Qd R e t k => h c Γ σ F H _ _ e t fun d v Γ' F' H' q p r => by
  obtain ⟨xs, hx, q⟩ := q
  obtain ⟨a, vs, h1, h2⟩ := itr_seq r hx
  rw [h1]
  refine ⟨a, vs, rfl, ?_⟩
  rcases h2 with ⟨h2, _, i⟩ | ⟨h2, _, i⟩
  · exact .inl ⟨p.env.le.seq h2, k _ _ Γ' F' H' q p i⟩
  · exact .inr ⟨sqT_same p.env.le h2, k _ _ Γ' F' H' q p i⟩
def rngD (lo : Int) (n : Nat) : List D := (List.range n).map fun k => .int (lo + (k : Nat))
def rngC (lo st : Int) (n : Nat) : List D := (List.range n).map fun k => .int (lo + (k : Nat) * st)
theorem map_range_get {α : Type} {n i : Nat} {f : Nat → α} {d : α} (h : ((List.range n).map f)[i]? = some d) : i < n ∧ d = f i := by
  rw [List.getElem?_map] at h
  by_cases hi : i < n
  · rw [List.getElem?_range hi] at h
    exact ⟨hi, (Option.some.inj h).symm⟩
  · rw [List.getElem?_eq_none (by simpa using hi)] at h
    cases h
theorem itr_rng {lo : Int} {n : Nat} : ItR K (Itr lo n) (rngD lo n) F := ⟨fun i d hi F' H e1 e2 => by
  obtain ⟨h1, rfl⟩ := map_range_get hi
  refine ⟨h1, fun x H' y => ?_⟩
  obtain ⟨rfl, rfl⟩ := y
  exact ⟨F', UpN.refl e2, rep_int⟩, fun F' H _ _ => by unfold rngD; rw [List.length_map, List.length_range]; exact Nat.le_refl _⟩
theorem itr_rngC {lo st : Int} {n : Nat} : ItR K (Itc lo st n) (rngC lo st n) F := ⟨fun i d hi F' H e1 e2 => by
  obtain ⟨h1, rfl⟩ := map_range_get hi
  refine ⟨h1, fun x H' y => ?_⟩
  obtain ⟨rfl, rfl⟩ := y
  exact ⟨F', UpN.refl e2, rep_int⟩, fun F' H _ _ => by unfold rngC; rw [List.length_map, List.length_range]; exact Nat.le_refl _⟩
def iR1 (das : TDA) : TDA := fun Γ Q => das Γ fun ds Γ' => ∃ j : Int, ds = [.int j] ∧ -(2 ^ 62) ≤ j ∧ j < 2 ^ 62 ∧ Q (rngD 0 j.toNat) Γ'
def iR2 (das : TDA) : TDA := fun Γ Q => das Γ fun ds Γ' => ∃ i j : Int, ds = [.int i, .int j] ∧ (-(2 ^ 62) ≤ i ∧ i < 2 ^ 62 ∧ -(2 ^ 62) ≤ j ∧ j < 2 ^ 62) ∧ Q (rngD i (j - i).toNat) Γ'
def iR3 (das : TDA) : TDA := fun Γ Q => das Γ fun ds Γ' => ∃ (i j s : Int) (n : Nat), ds = [.int i, .int j, .int s] ∧ RgC i j s n ∧ Q (rngC i s n) Γ'
theorem ei_rng1 (h : EvA K tas das) : EI K (iRng1 tas) (iR1 das) := fun c Γ σ F H Qd R e t k => h c Γ σ F H _ _ e t fun ds vs Γ' F' H' q p r => by
  obtain ⟨j, rfl, h1, h2, q⟩ := q
  obtain ⟨v, vr, rfl, r1, r⟩ := r.of_cons
  cases r.of_nil
  rw [r1.int]
  exact ⟨j, rfl, h1, h2, k _ _ Γ' F' H' q p itr_rng⟩
theorem ei_rng2 (h : EvA K tas das) : EI K (iRng2 tas) (iR2 das) := fun c Γ σ F H Qd R e t k => h c Γ σ F H _ _ e t fun ds vs Γ' F' H' q p r => by
  obtain ⟨i, j, rfl, h1, q⟩ := q
  obtain ⟨v, vr, rfl, r1, r⟩ := r.of_cons
  obtain ⟨w, vr, rfl, r2, r⟩ := r.of_cons
  cases r.of_nil
  rw [r1.int, r2.int]
  exact ⟨i, j, rfl, h1, k _ _ Γ' F' H' q p itr_rng⟩
theorem ei_rng3 (h : EvA K tas das) : EI K (iRng3 tas) (iR3 das) := fun c Γ σ F H Qd R e t k => h c Γ σ F H _ _ e t fun ds vs Γ' F' H' q p r => by
  obtain ⟨i, j, s, n, rfl, h1, q⟩ := q
  obtain ⟨v, vr, rfl, r1, r⟩ := r.of_cons
  obtain ⟨w, vr, rfl, r2, r⟩ := r.of_cons
  obtain ⟨z, vr, rfl, r3, r⟩ := r.of_cons
  cases r.of_nil
  rw [r1.int, r2.int, r3.int]
  exact ⟨i, j, s, n, rfl, h1, k _ _ Γ' F' H' q p itr_rngC⟩
/-! ### for -/
def forL (gd : TGD) (tb : TSD) (W : EndsD) : List D → List Sl → Prop
  | [], Γ => W.nx Γ
  | x :: xs, Γ => gd x Γ fun Γ' => tb ⟨forL gd tb W xs, W.rt, W.nx, forL gd tb W xs⟩ Γ'
def sFor (di : TDA) (gd : TGD) (tb : TSD) : TSD := fun D Γ => di Γ fun items Γ' => forL gd tb D items Γ'
theorem sd_for {wi : TI} {di : TDA} (hi : EI K wi di) (hg : EG K g gd) (hb : Sd K ts sd) : Sd K (tFor wi g ts) (sFor di gd sd) := fun c Γ σ F H E D e t k => hi c Γ σ F H _ _ e t fun items J Γ1 F1 H1 q p it => by
  refine ⟨fun i m σ H => i ≤ items.length ∧ m = items.length - i ∧ ∃ Γ F, Same F1 F ∧ EnvR K c Γ σ F H ∧ forL gd sd D (items.drop i) Γ, ⟨_, Nat.zero_le _, rfl, Γ1, F1, Same.refl _, p.env, q⟩, ?_⟩
  rintro i m σ H ⟨hi, rfl, Γ, F, s1, e, q⟩
  by_cases hl : i < items.length
  · have hd : items.drop i = items[i] :: items.drop (i + 1) := List.drop_eq_getElem_cons hl
    rw [hd] at q
    obtain ⟨g1, y1⟩ := it.go i _ (List.getElem?_eq_getElem hl) F H s1 e.le
    refine .inr ⟨g1, fun σ' H' => ∃ Γ' F', Same F1 F' ∧ EnvR K c Γ' σ' F' H' ∧ forL gd sd D (items.drop (i + 1)) Γ', fun σ' H' n => ⟨items.length - (i + 1), by omega, hl, rfl, n⟩, fun x H' y => ?_⟩
    obtain ⟨F', u, r⟩ := y1 x H' y
    refine hg c Γ σ F' H' _ x _ _ (e.up u) r q fun Γ2 σ2 F2 H2 s2 q2 e2 => ?_
    have s3 : Same F1 F2 := (s1.trans u.fx).trans s2
    have s4 : Same F F2 := u.fx.trans s2
    refine hb c Γ2 σ2 F2 H2 _ _ e2 q2 ⟨fun Γ σ F H s q e => ⟨Γ, F, s3.trans s, e, q⟩, fun d v Γ σ F H s => k.rt d v Γ σ F H ((p.fx.trans s3).trans s), fun Γ σ F H s => k.nx Γ σ F H ((p.fx.trans s3).trans s), fun Γ σ F H s q e => ⟨Γ, F, s3.trans s, e, q⟩⟩
  · have e0 : i = items.length := by omega
    subst e0
    rw [List.drop_length] at q
    exact .inl ⟨it.stop F H s1 e.le, k.nx Γ σ F H (p.fx.trans s1) q e⟩
/-! ### list comprehensions -/
def wipS (Γ : List Sl) : List Nat → List Sl
  | [] => Γ
  | v :: vs => (wipS Γ vs).set v .un
/-- the names of the block are no lists of the def's own -/
def wipOk (Γ : List Sl) (vs : List Nat) : Bool := vs.all fun i => match Γ[i]? with
  | some (.own _) => false
  | some (.self _ _ _) => false
  | _ => true
def lcL (gd : TGD) (dt : TDT) (td : TD) (Γ : List Sl) (Q : List D → Prop) : List D → List D → Prop
  | [], acc => Q acc
  | x :: xs, acc => gd x Γ fun Γ2 => dt Γ2 fun b Γ3 => Γ3 = Γ2 ∧ if b = true then td Γ2 fun y Γ4 => Γ4 = Γ2 ∧ acc.length < 16000000 ∧ lcL gd dt td Γ Q xs (acc ++ [y]) else lcL gd dt td Γ Q xs acc
def dLcN (di : TDA) (gd : TGD) (dt : TDT) (td : TD) (vs : List Nat) : TDA := fun Γ Q => di Γ fun items Γ1 => wipOk Γ1 vs = true ∧ lcL gd dt td (wipS Γ1 vs) (fun acc => Q acc Γ1) items []
def dLc (di : TDA) (gd : TGD) (dt : TDT) (td : TD) (vs : List Nat) : TD := fun Γ Q => dLcN di gd dt td vs Γ fun acc Γ' => Q (.lst acc) Γ'
end
end DL
set_option Elab.async false
set_option linter.all false
set_option maxRecDepth 100000
set_option maxHeartbeats 1000000
namespace DL
open PySem PySem.Spec L2 L2R
open PyProof.Rows hiding St
section
variable {K : PySem.W.Frag} {c : C0} {Γ Γ1 Γ2 : List Sl} {σ σ2 : St} {F H F1 H1 F2 H2 : Hp} {te ta tb tc : TE} {da db dc td : TD} {tt tu : TT} {dt du : TDT} {tas : TA} {das : TDA} {g : TG} {gd : TGD} {gs : TGs} {gds : TGsD} {ts us : TS} {sd ud : TSD}
theorem EnvR.setU (e : EnvR K c Γ σ F H) {i : Nat} {o : Option V} : EnvR K c (Γ.set i .un) (σ.set i o) F H := by
  have ow : ∀ (j : Nat) (zs : List D), (Γ.set i Sl.un)[j]? = some (Sl.own zs) → i ≠ j ∧ Γ[j]? = some (Sl.own zs) := fun j zs hj => by
    rcases get_set hj with ⟨_, z, _⟩ | h
    · cases z
    · exact h
  refine ⟨by rw [List.length_set, List.length_set]; exact e.len, fun j s hs => ?_, e.fx, e.fr, e.le, e.ex, e.hm, e.hs, fun j k zs ws q hjk hj hk a1 a2 => ?_, fun j C ns zs hj => ?_, fun a zs ha hj => (by obtain ⟨n, hj⟩ := ow 0 zs hj; rw [List.getElem?_set_ne n]; exact e.w0 a zs ha hj)⟩
  · rcases get_set hs with ⟨rfl, rfl, hl⟩ | ⟨hij, hs⟩
    · exact ⟨o, List.getElem?_set_self (by rw [e.len]; exact hl), True.intro⟩
    · obtain ⟨x, a1, a2⟩ := e.sl j s hs
      exact ⟨x, by rw [List.getElem?_set_ne hij]; exact a1, a2⟩
  · obtain ⟨n1, hj⟩ := ow j zs hj
    obtain ⟨n2, hk⟩ := ow k ws hk
    rw [List.getElem?_set_ne n1] at a1
    rw [List.getElem?_set_ne n2] at a2
    exact e.dis j k zs ws q hjk hj hk a1 a2
  · rcases get_set hj with ⟨_, z, _⟩ | ⟨_, hj⟩
    · cases z
    · exact e.s0 j C ns zs hj
theorem EnvR.wip (e : EnvR K c Γ σ F H) : ∀ vs : List Nat, EnvR K c (wipS Γ vs) (wipe σ vs) F H
  | [] => e
  | v :: vs => (e.wip vs).setU
theorem wipS_out {i : Nat} : ∀ {vs : List Nat} {Γ : List Sl}, i ∉ vs → (wipS Γ vs)[i]? = Γ[i]?
  | [], _, _ => rfl
  | v :: vs, Γ, h => by
    show ((wipS Γ vs).set v .un)[i]? = _
    rw [List.getElem?_set_ne fun z => h (by rw [z]; exact List.mem_cons_self ..)]
    exact wipS_out fun z => h (List.mem_cons_of_mem _ z)
theorem wipS_in {i : Nat} {s : Sl} : ∀ {vs : List Nat} {Γ : List Sl}, i ∈ vs → (wipS Γ vs)[i]? = some s → s = .un
  | [], _, h, _ => by simp at h
  | v :: vs, Γ, h, q => by
    rcases get_set (show ((wipS Γ vs).set v .un)[i]? = some s from q) with ⟨_, z, _⟩ | ⟨n, q⟩
    · exact z
    · rcases List.mem_cons.mp h with e | e
      · exact absurd e.symm n
      · exact wipS_in e q
theorem wipe_out {i : Nat} : ∀ {vs : List Nat} {σ : St}, i ∉ vs → (wipe σ vs)[i]? = σ[i]?
  | [], _, _ => rfl
  | v :: vs, σ, h => by
    show ((wipe σ vs).set v none)[i]? = _
    rw [List.getElem?_set_ne fun z => h (by rw [z]; exact List.mem_cons_self ..)]
    exact wipe_out fun z => h (List.mem_cons_of_mem _ z)
theorem wipS_at {i : Nat} : ∀ {vs : List Nat} {Γ : List Sl} {o : Sl}, i ∈ vs → wipS (Γ.set i o) vs = wipS Γ vs
  | [], _, _, h => by simp at h
  | v :: vs, Γ, o, h => by
    unfold wipS
    by_cases z : i ∈ vs
    · rw [wipS_at z]
    · rcases List.mem_cons.mp h with e | e
      · subst e
        have : ∀ (vs : List Nat), i ∉ vs → wipS (Γ.set i o) vs = (wipS Γ vs).set i o := by
          intro ws
          induction ws with
          | nil => intro _; rfl
          | cons w ws ih =>
            intro hw
            unfold wipS
            rw [ih (fun q => hw (List.mem_cons_of_mem _ q)), List.set_comm]
            intro q
            exact hw (by rw [q]; exact List.mem_cons_self ..)
        rw [this vs z, List.set_set]
      · exact absurd e z
/-- a target's store over data: nothing but the slots vs, and no list of one's own comes -/
def GdIn (gd : TGD) (vs : List Nat) : Prop := ∀ d Γ (Q Q' : List Sl → Prop), gd d Γ Q → (∀ Γ', wipS Γ' vs = wipS Γ vs → (∀ (i : Nat) xs, Γ'[i]? = some (.own xs) → Γ[i]? = some (.own xs)) → Q Γ' → Q' Γ') → gd d Γ Q'
def GdsIn (gd : TGsD) (vs : List Nat) : Prop := ∀ d Γ (Q Q' : List Sl → Prop), gd d Γ Q → (∀ Γ', wipS Γ' vs = wipS Γ vs → (∀ (i : Nat) xs, Γ'[i]? = some (.own xs) → Γ[i]? = some (.own xs)) → Q Γ' → Q' Γ') → gd d Γ Q'
theorem gdin_name {i : Nat} {vs : List Nat} (h : i ∈ vs) : GdIn (gdName i) vs := fun d Γ Q Q' q k => k _ (wipS_at h) (fun j xs hj => by
  rcases get_set hj with ⟨_, z, _⟩ | ⟨_, hj⟩
  · cases z
  · exact hj) q
theorem gdsin_nil {vs : List Nat} : GdsIn gdNil vs := fun d Γ Q Q' q k => ⟨q.1, k _ rfl (fun _ _ h => h) q.2⟩
theorem gdsin_cons {vs : List Nat} (h : GdIn gd vs) (hs : GdsIn gds vs) : GdsIn (gdCons gd gds) vs := fun d Γ Q Q' q k => by
  obtain ⟨x, r, rfl, q⟩ := q
  exact ⟨x, r, rfl, h _ _ _ _ q fun Γ1 e1 o1 q1 => hs _ _ _ _ q1 fun Γ2 e2 o2 q2 => k _ (e2.trans e1) (fun i xs h => o1 i xs (o2 i xs h)) q2⟩
theorem gdin_tup {vs : List Nat} {n : Nat} (hs : GdsIn gds vs) : GdIn (gdTup n gds) vs := fun d Γ Q Q' q k => by
  obtain ⟨xs, h1, h2, q⟩ := q
  exact ⟨xs, h1, h2, hs _ _ _ _ q k⟩
/-- a step below other slots, seen from the def's own -/
theorem EnvR.lift (e : EnvR K c Γ σ F H) (P : Post K c Γ2 σ2 F H Γ2 F1 H1) (ho : ∀ (i : Nat) xs, Γ[i]? = some (.own xs) → Γ2[i]? = some (.own xs) ∧ σ2[i]? = σ[i]?) (hs : ∀ C ns xs, Γ[0]? = some (.self C ns xs) → Γ2[0]? = some (.self C ns xs) ∧ σ2[0]? = σ[0]?) : EnvR K c Γ σ F1 H1 where
  len := e.len
  sl := fun i s h => by
    obtain ⟨o, h1, h2⟩ := e.sl i s h
    refine ⟨o, h1, ?_⟩
    cases s with
    | un => exact True.intro
    | val d =>
      obtain ⟨v, q1, q2⟩ := h2
      exact ⟨v, q1, q2.mono P.fx⟩
    | own xs =>
      obtain ⟨g1, g2⟩ := ho i xs h
      obtain ⟨o', g3, g4⟩ := P.env.sl i _ g1
      rw [g2, h1] at g3
      cases (Option.some.inj g3)
      exact g4
    | hand => exact h2
    | self C ns xs =>
      cases e.s0 i _ _ _ h
      obtain ⟨g1, g2⟩ := hs C ns xs h
      obtain ⟨o', g3, g4⟩ := P.env.sl 0 _ g1
      rw [g2, h1] at g3
      cases (Option.some.inj g3)
      exact g4
  fx := P.env.fx
  fr := P.env.fr
  le := P.env.le
  ex := P.env.ex
  hm := P.env.hm
  hs := P.env.hs
  dis := e.dis
  s0 := e.s0
  w0 := e.w0
theorem NewL.up {xs : List D} {p : Addr} (n : NewL K c Γ σ F H xs p) (u : UpN F H F1 H1) : NewL K c Γ σ F1 H1 xs p := by
  obtain ⟨vs, h1, h2⟩ := n.ok
  exact ⟨⟨vs, u.ex _ _ h1, h2.mono u.fx⟩, n.h0, by rw [u.fr p (by rw [h1]; exact fun z => nomatch z)]; exact n.hF, n.hn⟩
theorem NewL.post {xs : List D} {p : Addr} (n : NewL K c Γ σ F H xs p) (e : EnvR K c Γ σ F H) (P : Post K c Γ2 σ2 F H Γ2 F1 H1) (ho : ∀ b, OwnA Γ2 σ2 b → OwnA Γ σ b) : NewL K c Γ σ F1 H1 xs p := by
  obtain ⟨vs, h1, h2⟩ := n.ok
  have hn : ¬ OwnA Γ2 σ2 p := fun z => n.hn (ho p z)
  exact ⟨⟨vs, P.keep p _ h1 hn (e.not_m n.h0) (e.not_s n.h0), h2.mono P.fx⟩, n.h0, by rw [P.fr p (by rw [h1]; exact fun z => nomatch z) hn]; exact n.hF, n.hn⟩
theorem Post.lift (e : EnvR K c Γ σ F H) (P : Post K c Γ2 σ2 F H Γ2 F1 H1) (ho : ∀ (i : Nat) xs, Γ[i]? = some (.own xs) → Γ2[i]? = some (.own xs) ∧ σ2[i]? = σ[i]?) (hs : ∀ C ns xs, Γ[0]? = some (.self C ns xs) → Γ2[0]? = some (.self C ns xs) ∧ σ2[0]? = σ[0]?) (hb : ∀ b, OwnA Γ2 σ2 b → OwnA Γ σ b) : Post K c Γ σ F H Γ F1 H1 :=
  ⟨e.lift P ho hs, P.fx, fun b h1 h2 => P.fr b h1 fun z => h2 (hb b z), fun b o h1 h2 => P.keep b o h1 fun z => h2 (hb b z), fun _ h => h, P.th⟩
theorem Post.poke (P : Post K c Γ σ F H Γ F1 H1) {p : Addr} {o : HO} (h : H p = none) (e : EnvR K c Γ σ F1 (upd H1 p o)) : Post K c Γ σ F H Γ F1 (upd H1 p o) :=
  ⟨e, P.fx, P.fr, fun b o h1 h2 h3 h4 => by
    rw [upd_ne fun z => by rw [z, h] at h1; cases h1]
    exact P.keep b o h1 h2 h3 h4, P.own, fun b hb => upd_there (P.th b hb)⟩
theorem en_lc {wi : TI} {di : TDA} {vs : List Nat} (hi : EI K wi di) (hg : EGx K g gd) (g1 : GIn g vs) (g2 : GdIn gd vs) (ht : EvT K tt dt) (he : Ev K te td) : EvN K (tLc wi g tt te vs) (dLcN di gd dt td vs) := fun c Γ σ F H Qd Q e t k =>
  hi c Γ σ F H _ _ e t fun items J Γ1 F1 H1 q P it => by
    obtain ⟨hw, q⟩ := q
    intro D hD
    obtain ⟨P1, n1⟩ := P.env.newL (xs := []) hD Reps.nil
    refine ⟨fun i m H => i ≤ items.length ∧ m = items.length - i ∧ ∃ F acc, Same F1 F ∧ Post K c Γ1 σ F1 H1 Γ1 F H ∧ NewL K c Γ1 σ F H acc D ∧ lcL gd dt td (wipS Γ1 vs) (fun acc => Qd acc Γ1) (items.drop i) acc, ⟨_, Nat.zero_le _, rfl, F1, [], Same.refl _, P1, n1, q⟩, ?_⟩
    rintro i m H ⟨hi, rfl, F, acc, s1, P2, n2, q⟩
    have wo : ∀ (i : Nat) xs, Γ1[i]? = some (.own xs) → i ∉ vs := fun i xs h z => by
      have := List.all_eq_true.mp hw i z
      rw [h] at this
      cases this
    have ws : ∀ C ns xs, Γ1[0]? = some (.self C ns xs) → 0 ∉ vs := fun C ns xs h z => by
      have := List.all_eq_true.mp hw 0 z
      rw [h] at this
      cases this
    by_cases hl : i < items.length
    · have hd : items.drop i = items[i] :: items.drop (i + 1) := List.drop_eq_getElem_cons hl
      rw [hd] at q
      obtain ⟨go1, y1⟩ := it.go i _ (List.getElem?_eq_getElem hl) F H s1 P2.env.le
      refine .inr ⟨go1, fun H' => ∃ F acc, Same F1 F ∧ Post K c Γ1 σ F1 H1 Γ1 F H' ∧ NewL K c Γ1 σ F H' acc D ∧ lcL gd dt td (wipS Γ1 vs) (fun acc => Qd acc Γ1) (items.drop (i + 1)) acc, fun H' n => ⟨items.length - (i + 1), by omega, hl, rfl, n⟩, fun x H' y => ?_⟩
      obtain ⟨F', u, r⟩ := y1 x H' y
      have e3 : EnvR K c Γ1 σ F' H' := P2.env.up u
      have P3 : Post K c Γ1 σ F1 H1 Γ1 F' H' := P2.trans (P2.env.upP u)
      have n3 := n2.up u
      have ew := e3.wip vs
      have q' := g2 _ _ _ (fun Γ' => _ ∧ wipS Γ' vs = wipS (wipS Γ1 vs) vs ∧ ∀ (i : Nat) xs, Γ'[i]? = some (.own xs) → (wipS Γ1 vs)[i]? = some (.own xs)) q fun Γ' a1 a2 a3 => ⟨a3, a1, a2⟩
      have st := hg c (wipS Γ1 vs) (wipe σ vs) F' H' _ x _ (fun σ2 H2 => H2 = H' ∧ ∃ Γ2, ((dt Γ2 fun b Γ3 => Γ3 = Γ2 ∧ if b = true then td Γ2 fun y Γ4 => Γ4 = Γ2 ∧ acc.length < 16000000 ∧ lcL gd dt td (wipS Γ1 vs) (fun acc => Qd acc Γ1) (items.drop (i + 1)) (acc ++ [y])
        else lcL gd dt td (wipS Γ1 vs) (fun acc => Qd acc Γ1) (items.drop (i + 1)) acc) ∧ wipS Γ2 vs = wipS (wipS Γ1 vs) vs ∧ ∀ (i : Nat) xs, Γ2[i]? = some (.own xs) → (wipS Γ1 vs)[i]? = some (.own xs)) ∧ EnvR K c Γ2 σ2 F' H') ew r q' fun Γ2 σ2 q2 e2 => ⟨rfl, Γ2, q2, e2⟩
      refine g1 _ _ _ _ _ st fun σ2 H2 w1 w2 => ?_
      obtain ⟨rfl, Γ2, ⟨q2, w3, w4⟩, e2⟩ := w2
      refine ⟨by rw [w1, wipe_wipe], ?_⟩
      -- the def's own slots stand among those of the block
      have wS : wipS (wipS Γ1 vs) vs = wipS Γ1 vs := by
        have : ∀ (ws : List Nat), (∀ w ∈ ws, w ∈ vs) → wipS (wipS Γ1 ws) vs = wipS Γ1 vs := by
          intro ws
          induction ws with
          | nil => intro _; rfl
          | cons w ws ih =>
            intro h
            show wipS ((wipS Γ1 ws).set w .un) vs = _
            rw [wipS_at (h w (List.mem_cons_self ..)), ih (fun q hq => h q (List.mem_cons_of_mem _ hq))]
        exact this vs fun _ h => h
      have same : ∀ i, i ∉ vs → Γ2[i]? = Γ1[i]? ∧ σ2[i]? = σ[i]? := fun i hi => by
        constructor
        · rw [← wipS_out (Γ := Γ2) hi, w3, wS, wipS_out hi]
        · rw [← wipe_out (σ := σ2) hi, w1, wipe_wipe, wipe_out hi]
      have hO : ∀ (i : Nat) xs, Γ1[i]? = some (.own xs) → Γ2[i]? = some (.own xs) ∧ σ2[i]? = σ[i]? := fun i xs h => by
        obtain ⟨a1, a2⟩ := same i (wo i xs h)
        exact ⟨by rw [a1]; exact h, a2⟩
      have hS : ∀ C ns xs, Γ1[0]? = some (.self C ns xs) → Γ2[0]? = some (.self C ns xs) ∧ σ2[0]? = σ[0]? := fun C ns xs h => by
        obtain ⟨a1, a2⟩ := same 0 (ws C ns xs h)
        exact ⟨by rw [a1]; exact h, a2⟩
      have hB : ∀ b, OwnA Γ2 σ2 b → OwnA Γ1 σ b := fun b hb => by
        obtain ⟨j, xs, h1, h2⟩ := hb
        have h3 := w4 j xs h1
        by_cases z : j ∈ vs
        · cases wipS_in z h3
        · rw [wipS_out z] at h3
          exact ⟨j, xs, h3, by rw [← (same j z).2]; exact h2⟩
      refine ht c Γ2 σ2 F' H2 _ _ e2 q2 fun b Γ3 F3 H3 q3 P4 => ?_
      obtain ⟨rfl, q3⟩ := q3
      have L4 := Post.lift e3 P4 hO hS hB
      have n4 := n3.post e3 P4 hB
      cases b with
      | false =>
        exact ⟨F3, acc, (s1.trans u.fx).trans P4.fx, P3.trans L4, n4, q3⟩
      | true =>
        refine he c Γ3 σ2 F3 H3 _ _ P4.env q3 fun y v Γ4 F4 H4 q4 P5 r5 => ?_
        obtain ⟨rfl, hlen, q4⟩ := q4
        have L5 := Post.lift L4.env P5 hO hS hB
        have n5 := n4.post L4.env P5 hB
        obtain ⟨wv, b1, b2⟩ := n5.ok
        refine ⟨wv, b1, Nat.lt_of_lt_of_le (by rw [b2.length]; exact hlen) line16, F4, acc ++ [y], ((s1.trans u.fx).trans P4.fx).trans P5.fx, ?_, ?_, q4⟩
        · exact ((P3.trans L4).trans L5).poke hD (L5.env.poke n5.h0 n5.hF n5.hn)
        · exact ⟨⟨_, upd_same, b2.append (.cons r5 .nil)⟩, n5.h0, n5.hF, n5.hn⟩
    · have e0 : i = items.length := by omega
      subst e0
      rw [List.drop_length] at q
      exact .inl ⟨it.stop F H s1 P2.env.le, k acc D Γ1 F H (P.new hD) q (P.trans P2) n2⟩
theorem EnvR.frzN (e : EnvR K c Γ σ F H) {p : Addr} {xs : List D} {vs : List V} (n : NewL K c Γ σ F H xs p) (hp : H p = some (.lst vs)) : EnvR K c Γ σ (upd F p (.lst vs)) H := by
  have sm : Same F (upd F p (.lst vs)) := same_new n.hF
  refine ⟨e.len, fun j s hs => ?_, e.fx.trans sm, fun b hb => ?_, fun b x hb => ?_, e.ex, fun a ha => ?_, e.hs, e.dis, e.s0, e.w0⟩
  · obtain ⟨x, a1, a2⟩ := e.sl j s hs
    refine ⟨x, a1, ?_⟩
    cases s with
    | un => exact a2
    | val d =>
      obtain ⟨v, b1, b2⟩ := a2
      exact ⟨v, b1, b2.mono sm⟩
    | own zs =>
      obtain ⟨q, ws, b1, b2, b3, b4, b5⟩ := a2
      refine ⟨q, ws, b1, b2, ?_, b4, b5.mono sm⟩
      rw [upd_ne]
      · exact b3
      · intro z
        exact n.hn ⟨j, zs, hs, by rw [a1, b1, z]⟩
    | hand => exact a2
    | self C ns zs =>
      obtain ⟨x', dx, ws, b1, b2, b3, b4, b5⟩ := a2
      exact ⟨x', dx, ws, b1, b2, b3, b4, b5.mono sm⟩
  · rw [upd_ne (fun z => hb (by rw [z]; exact n.h0))]
    exact e.fr b hb
  · by_cases z : b = p
    · subst z
      rw [upd_same] at hb
      cases hb
      exact hp
    · rw [upd_ne z] at hb
      exact e.le b x hb
  · obtain ⟨j, w⟩ := e.hm a ha
    exact ⟨(handP K).stay _ _ _ _ _ j sm rfl, w⟩
/-- .. looked at as data -/
theorem EvN.ev {td : TDA} (h : EvN K te td) : Ev K te (fun Γ Q => td Γ fun xs Γ' => Q (.lst xs) Γ') := fun c Γ σ F H Qd Q e t k => h c Γ σ F H _ _ e t fun xs p Γ' F' H' h0 q P n => by
  obtain ⟨vs, h1, h2⟩ := n.ok
  have sm : Same F' (upd F' p (.lst vs)) := same_new n.hF
  refine k _ _ Γ' (upd F' p (.lst vs)) H' q ⟨P.env.frzN n h1, P.fx.trans sm, fun b hb ho => ?_, P.keep, P.own, P.th⟩ (rep_lst (.inl (.inl upd_same)) (h2.mono sm))
  rw [upd_ne fun z => hb (by rw [z]; exact h0)]
  exact P.fr b hb ho
theorem ev_lc {wi : TI} {di : TDA} {vs : List Nat} (hi : EI K wi di) (hg : EGx K g gd) (g1 : GIn g vs) (g2 : GdIn gd vs) (ht : EvT K tt dt) (he : Ev K te td) : Ev K (tLc wi g tt te vs) (dLc di gd dt td vs) := (en_lc hi hg g1 g2 ht he).ev
def dYes : TDT := fun Γ Q => Q true Γ
theorem et_yes : EvT K tYes dYes := fun c Γ σ F H Qd Q e t k => k true Γ F H t (Post.refl e)
end
/-! ### defs -/
def startG (n : Nat) (ds : List D) : List Sl := ds.map Sl.val ++ List.replicate (n - ds.length) Sl.un
section
variable {K : PySem.W.Frag} {F H : Hp}
theorem env_start {c : C0} (hw : c.wf = none := by rfl) {N : List Str} {ds : List D} {vs : List V} (h1 : c.m = none) (h2 : c.sf = none) (h3 : c.F0 = F) (h4 : c.H0 = H) (le : Same F H) (r : Reps K ds vs F) : EnvR K c (startG N.length ds) (L2.start N vs) F H := by
  have hl := r.length
  have nov : ∀ (i : Nat) (s : Sl), (startG N.length ds)[i]? = some s → s = .un ∨ ∃ d, ds[i]? = some d ∧ s = .val d := fun i s h => by
    unfold startG at h
    by_cases z : i < ds.length
    · rw [List.getElem?_append_left (by simpa using z), List.getElem?_map, List.getElem?_eq_getElem z] at h
      exact .inr ⟨ds[i], List.getElem?_eq_getElem z, (Option.some.inj h).symm⟩
    · rw [List.getElem?_append_right (by simpa using z), List.getElem?_replicate] at h
      split at h
      · exact .inl (Option.some.inj h).symm
      · cases h
  have len : (L2.start N vs).length = (startG N.length ds).length := by
    unfold L2.start startG
    simp [hl]
  refine ⟨len, fun i s h => ?_, by rw [h3]; exact Same.refl _, fun b _ => by rw [h3], le, fun b o hb _ _ => by rw [← h4]; exact hb, fun a ha => (by rw [h1] at ha; cases ha), fun x hx => (by rw [h2] at hx; cases hx), fun i j xs ys p _ h => ?_, fun i C ns xs h => ?_, fun a xs ha => (by rw [hw] at ha; cases ha)⟩
  · have hil : i < (L2.start N vs).length := by rw [len]; exact (List.getElem?_eq_some_iff.mp h).1
    rcases nov i s h with rfl | ⟨d, hd, rfl⟩
    · exact ⟨_, List.getElem?_eq_getElem hil, True.intro⟩
    · obtain ⟨v, hv, rv⟩ := r.get hd
      refine ⟨some v, ?_, v, rfl, rv⟩
      unfold L2.start
      have z : i < vs.length := (List.getElem?_eq_some_iff.mp hv).1
      rw [List.getElem?_append_left (by simpa using z), List.getElem?_map, hv]
      rfl
  · rcases nov i _ h with z | ⟨d, _, z⟩ <;> cases z
  · rcases nov i _ h with z | ⟨d, _, z⟩ <;> cases z
/-- a def's promise by its body's reading over data -/
def pD (n : Nat) (td : TSD) : RCl := fun ds Q => td ⟨fun _ => Q .non, fun d _ => Q d, fun _ => False, fun _ => False⟩ (startG n ds)
theorem fn_D {P : Program} {w : World} {mg : Str → Option Value} {base : Heap} {x qual : Str} {params : Arguments} {body : List Stmt} {scope : Scope} {dvs : List V} {kws : List (Str × V)} {f : Addr} {fd : FuncData} {N ps : List Str} {k : Nat} {p : RCl} {td : TSD}
    (D : FunD K x qual params body scope dvs kws f fd) (S : FnScope N ps scope) (hp : ∀ ds Q, p ds Q → pD N.length td ds Q)
    (hbody : ∀ (cdv : Value) (A : Around) (outer : List Env) (s : Shared) (H : Hp) (E : XK), Room k (A.deeper (envOfC qual scope s.heap.objs.size f cdv)) → ∃ ts, PSs (cxOf CX0 P w K mg base N qual scope f cdv A outer s H E) body ts ∧ Sd K ts td) :
    FnOk P w K mg base CX0 (k + 1) f fd ps (spD K ps.length p) := by
  refine D.ok S (fun vs H Q E h => spD_len h) fun cdv A outer s H vs Q E hr h => ?_
  obtain ⟨ts, h1, h2⟩ := hbody cdv A outer s H E hr
  refine ⟨ts, h1, ?_⟩
  obtain ⟨F, ds, Qd, hl, le, r, q, kk⟩ := h
  refine h2 ⟨none, none, F, H, none⟩ _ _ F H _ _ (env_start rfl rfl rfl rfl rfl le r) (hp ds Qd q) ⟨fun Γ σ F' H' s q e => ?_, fun d v Γ σ F' H' s q e r => ?_, fun _ _ _ _ _ q => q.elim, fun _ _ _ _ _ q => q.elim⟩
  · exact kk _ _ F' H' q ⟨fun b o hb => e.ex b o hb (fun z => nomatch z) (fun z => nomatch z), e.fx, e.fr, e.le⟩ rep_non
  · exact kk _ _ F' H' q ⟨fun b o hb => e.ex b o hb (fun z => nomatch z) (fun z => nomatch z), e.fx, e.fr, e.le⟩ r
/-- .. with the thing that may change at its first parameter -/
def startH (n : Nat) (ds : List D) : List Sl := .hand :: startG (n - 1) ds
def pH (n : Nat) (td : TSD) : RCl := fun ds Q => td ⟨fun _ => Q .non, fun d _ => Q d, fun _ => False, fun _ => False⟩ (startH n ds)
theorem env_startH {c : C0} (hw : c.wf = none := by rfl) {N : List Str} {ds : List D} {vs : List V} {a : Addr} (h1 : c.m = some a) (h2 : c.sf = none) (h3 : c.F0 = F) (h4 : c.H0 = H) (le : Same F H) (hF : F a = none) (j : (handP K).J F H a) (hN : N ≠ []) (r : Reps K ds vs F) : EnvR K c (startH N.length ds) (L2.start N (.ref a :: vs)) F H := by
  obtain ⟨n0, N', rfl⟩ : ∃ n0 N', N = n0 :: N' := by
    cases N with
    | nil => exact absurd rfl hN
    | cons a b => exact ⟨a, b, rfl⟩
  have e := env_start (K := K) (c := ⟨none, none, F, H, none⟩) (N := N') rfl rfl rfl rfl rfl le r
  have e1 : L2.start (n0 :: N') (V.ref a :: vs) = some (V.ref a) :: L2.start N' vs := by
    unfold L2.start
    simp
  have e2 : startH (n0 :: N').length ds = .hand :: startG N'.length ds := by
    unfold startH
    simp
  rw [e1, e2]
  refine ⟨by simp [e.len], fun i s h => ?_, by rw [h3]; exact Same.refl _, fun b _ => by rw [h3], le, fun b o hb _ _ => by rw [← h4]; exact hb, fun b hb => ?_, fun x hx => (by rw [h2] at hx; cases hx), fun i k xs ys p hik hi hk h5 h6 => ?_, fun i C ns xs h => ?_, fun a xs ha => (by rw [hw] at ha; cases ha)⟩
  · cases i with
    | zero =>
      cases (Option.some.inj h)
      exact ⟨_, rfl, a, rfl, h1⟩
    | succ i =>
      obtain ⟨o, g1, g2⟩ := e.sl i s (by simpa using h)
      refine ⟨o, by simpa using g1, ?_⟩
      cases s with
      | un => exact True.intro
      | val d => exact g2
      | own zs =>
        obtain ⟨p, ws, b1, b2, b3⟩ := g2
        exact ⟨p, ws, b1, by rw [h4]; exact b2, b3⟩
      | hand =>
        obtain ⟨p, b1, b2⟩ := g2
        cases b2
      | self C ns zs =>
        obtain ⟨x, dx, ws, b1, b2, _⟩ := g2
        cases b2
  · rw [h1] at hb
    cases hb
    exact ⟨j, by rw [h3]; exact hF, by rw [h4]; exact (handP K).there _ _ _ j, by rw [h2]; exact fun z => nomatch z⟩
  · cases i with
    | zero => cases (Option.some.inj hi)
    | succ i =>
      cases k with
      | zero => cases (Option.some.inj hk)
      | succ k => exact e.dis i k xs ys p (fun z => hik (by rw [z])) (by simpa using hi) (by simpa using hk) (by simpa using h5) (by simpa using h6)
  · cases i with
    | zero => rfl
    | succ i => 
      obtain ⟨o, g1, x, dx, ws, b1, b2, _⟩ := e.sl i _ (by simpa using h)
      cases b2
theorem fn_H {P : Program} {w : World} {mg : Str → Option Value} {base : Heap} {x qual : Str} {params : Arguments} {body : List Stmt} {scope : Scope} {dvs : List V} {kws : List (Str × V)} {f : Addr} {fd : FuncData} {N ps : List Str} {k n : Nat} {p : RCl} {td : TSD}
    (D : FunD K x qual params body scope dvs kws f fd) (S : FnScope N ps scope) (hn : ps.length = n + 1) (hp : ∀ ds Q, p ds Q → pH N.length td ds Q)
    (hbody : ∀ (cdv : Value) (A : Around) (outer : List Env) (s : Shared) (H : Hp) (E : XK), Room k (A.deeper (envOfC qual scope s.heap.objs.size f cdv)) → ∃ ts, PSs (cxOf CX0 P w K mg base N qual scope f cdv A outer s H E) body ts ∧ Sd K ts td) :
    FnOk P w K mg base CX0 (k + 1) f fd ps (spH K n p) := by
  have hN : N ≠ [] := fun z => by
    have := S.pre
    rw [z] at this
    have h2 := congrArg List.length this
    simp at h2
    omega
  refine D.ok S (fun vs H Q E h => ?_) fun cdv A outer s H vs Q E hr h => ?_
  · obtain ⟨a, vr, F, ds, Qd, rfl, hl, _, _, _, r, _⟩ := h
    rw [List.length_cons, r.length, hl, hn]
  obtain ⟨ts, h1, h2⟩ := hbody cdv A outer s H E hr
  refine ⟨ts, h1, ?_⟩
  obtain ⟨a, vr, F, ds, Qd, rfl, hl, le, hF, j, r, q, kk⟩ := h
  have up : ∀ {Γ σ F' H'}, EnvR K ⟨some a, none, F, H, none⟩ Γ σ F' H' → UpH a F H F' H' ∧ (handP K).J F' H' a := fun {Γ σ F' H'} e =>
    ⟨⟨fun b o hb hH => e.ex b o hH (fun z => hb (Option.some.inj z).symm) (fun z => nomatch z), e.fx, e.fr, e.le⟩, (e.hm a rfl).1⟩
  refine h2 ⟨some a, none, F, H, none⟩ _ _ F H _ _ (env_startH rfl rfl rfl rfl rfl le hF j hN r) (hp ds Qd q) ⟨fun Γ σ F' H' s q e => ?_, fun d v Γ σ F' H' s q e r => ?_, fun _ _ _ _ _ q => q.elim, fun _ _ _ _ _ q => q.elim⟩
  · obtain ⟨u, j'⟩ := up e
    exact kk _ _ F' H' q u j' rep_non
  · obtain ⟨u, j'⟩ := up e
    exact kk _ _ F' H' q u j' r
/-- an __init__ -/
def startI (n : Nat) (C : Addr) (ds : List D) : List Sl := .self C [] [] :: startG (n - 1) ds
def pI (n : Nat) (C : Addr) (td : TSD) : RCl := fun ds Q => td ⟨fun Γ => ∃ ns xs, Γ[0]? = some (.self C ns xs) ∧ Q (.obj C ns xs), fun _ _ => False, fun _ => False, fun _ => False⟩ (startI n C ds)
theorem env_startI {c : C0} (hw : c.wf = none := by rfl) {N : List Str} {ds : List D} {vs : List V} {x dx C : Addr} (h1 : c.m = none) (h2 : c.sf = some x) (h3 : c.F0 = F) (h4 : c.H0 = H) (le : Same F H) (hF : F x = none) (hx : H x = some (.ins C dx [])) (hN : N ≠ []) (r : Reps K ds vs F) : EnvR K c (startI N.length C ds) (L2.start N (.ref x :: vs)) F H := by
  obtain ⟨n0, N', rfl⟩ : ∃ n0 N', N = n0 :: N' := by
    cases N with
    | nil => exact absurd rfl hN
    | cons a b => exact ⟨a, b, rfl⟩
  have e := env_start (K := K) (c := ⟨none, none, F, H, none⟩) (N := N') rfl rfl rfl rfl rfl le r
  have e1 : L2.start (n0 :: N') (V.ref x :: vs) = some (V.ref x) :: L2.start N' vs := by
    unfold L2.start
    simp
  have e2 : startI (n0 :: N').length C ds = .self C [] [] :: startG N'.length ds := by
    unfold startI
    simp
  rw [e1, e2]
  refine ⟨by simp [e.len], fun i s h => ?_, by rw [h3]; exact Same.refl _, fun b _ => by rw [h3], le, fun b o hb _ _ => by rw [← h4]; exact hb, fun b hb => (by rw [h1] at hb; cases hb), fun y hy => ?_, fun i k xs ys p hik hi hk h5 h6 => ?_, fun i C' ns xs h => ?_, fun a xs ha => (by rw [hw] at ha; cases ha)⟩
  · cases i with
    | zero =>
      cases (Option.some.inj h)
      exact ⟨_, rfl, x, dx, [], rfl, h2, hx, rfl, Reps.nil⟩
    | succ i =>
      obtain ⟨o, g1, g2⟩ := e.sl i s (by simpa using h)
      refine ⟨o, by simpa using g1, ?_⟩
      cases s with
      | un => exact True.intro
      | val d => exact g2
      | own zs =>
        obtain ⟨p, ws, b1, b2, b3⟩ := g2
        exact ⟨p, ws, b1, by rw [h4]; exact b2, b3⟩
      | hand =>
        obtain ⟨p, b1, b2⟩ := g2
        cases b2
      | self C ns zs =>
        obtain ⟨x, dx, ws, b1, b2, _⟩ := g2
        cases b2
  · rw [h2] at hy
    cases hy
    exact ⟨by rw [h3]; exact hF, by rw [h4, hx]; simp, by rw [hx]; simp⟩
  · cases i with
    | zero => cases (Option.some.inj hi)
    | succ i =>
      cases k with
      | zero => cases (Option.some.inj hk)
      | succ k => exact e.dis i k xs ys p (fun z => hik (by rw [z])) (by simpa using hi) (by simpa using hk) (by simpa using h5) (by simpa using h6)
  · cases i with
    | zero => rfl
    | succ i => 
      obtain ⟨o, g1, x, dx, ws, b1, b2, _⟩ := e.sl i _ (by simpa using h)
      cases b2
theorem fn_I {P : Program} {w : World} {mg : Str → Option Value} {base : Heap} {x qual : Str} {params : Arguments} {body : List Stmt} {scope : Scope} {dvs : List V} {kws : List (Str × V)} {f C : Addr} {fd : FuncData} {N ps : List Str} {k n : Nat} {p : RCl} {td : TSD}
    (D : FunD K x qual params body scope dvs kws f fd) (S : FnScope N ps scope) (hn : ps.length = n + 1) (hp : ∀ ds Q, p ds Q → pI N.length C td ds Q)
    (hbody : ∀ (cdv : Value) (A : Around) (outer : List Env) (s : Shared) (H : Hp) (E : XK), Room k (A.deeper (envOfC qual scope s.heap.objs.size f cdv)) → ∃ ts, PSs (cxOf CX0 P w K mg base N qual scope f cdv A outer s H E) body ts ∧ Sd K ts td) :
    FnOk P w K mg base CX0 (k + 1) f fd ps (spI K C n p) := by
  have hN : N ≠ [] := fun z => by
    have := S.pre
    rw [z] at this
    have h2 := congrArg List.length this
    simp at h2
    omega
  refine D.ok S (fun vs H Q E h => ?_) fun cdv A outer s H vs Q E hr h => ?_
  · obtain ⟨a, dx, vr, F, ds, Qd, rfl, hl, _, _, _, r, _⟩ := h
    rw [List.length_cons, r.length, hl, hn]
  obtain ⟨ts, h1, h2⟩ := hbody cdv A outer s H E hr
  refine ⟨ts, h1, ?_⟩
  obtain ⟨a, dx, vr, F, ds, Qd, rfl, hl, le, hF, hx, r, q, kk⟩ := h
  refine h2 ⟨none, some a, F, H, none⟩ _ _ F H _ _ (env_startI rfl rfl rfl rfl rfl le hF hx hN r) (hp ds Qd q) ⟨fun Γ σ F' H' s q e => ?_, fun d v Γ σ F' H' s q e r => q.elim, fun _ _ _ _ _ q => q.elim, fun _ _ _ _ _ q => q.elim⟩
  obtain ⟨ns, xs, h0, q⟩ := q
  obtain ⟨o, g1, x, dx', ws, b1, b2, b3, b4, b5⟩ := e.sl 0 _ h0
  cases b2
  exact kk ns xs ws dx' F' H' q ⟨fun b o hb hH => e.ex b o hH (fun z => nomatch z) (fun z => hb (Option.some.inj z).symm), e.fx, e.fr, e.le⟩ b3 b4 b5 (e.s_free rfl)
/-- a def whose first parameter is the hand, looked into: a list of its own while it runs -/
def pW (n : Nat) (td : TSD) : RCl := fun ds Q => ∀ xs, handX xs → td ⟨fun Γ => ∃ ys, Γ[0]? = some (.own ys) ∧ handX ys ∧ Q .non, fun d Γ => ∃ ys, Γ[0]? = some (.own ys) ∧ handX ys ∧ Q d, fun _ => False, fun _ => False⟩ (.own xs :: startG (n - 1) ds)
theorem env_startW {c : C0} {a : Addr} (hw : c.wf = some a) {N : List Str} {ds xs : List D} {vs ws : List V} (h1 : c.m = none) (h2 : c.sf = none) (h3 : c.F0 = F) (h4 : c.H0 = fun b => if b = a then none else H b) (le : Same F H) (hF : F a = none) (hH : H a = some (.lst ws)) (rx : Reps K xs ws F) (hN : N ≠ []) (r : Reps K ds vs F) : EnvR K c (.own xs :: startG (N.length - 1) ds) (L2.start N (.ref a :: vs)) F H := by
  obtain ⟨n0, N', rfl⟩ : ∃ n0 N', N = n0 :: N' := by
    cases N with
    | nil => exact absurd rfl hN
    | cons a b => exact ⟨a, b, rfl⟩
  have e := env_start (K := K) (c := ⟨none, none, F, H, none⟩) (N := N') rfl rfl rfl rfl rfl le r
  have e1 : L2.start (n0 :: N') (V.ref a :: vs) = some (V.ref a) :: L2.start N' vs := by
    unfold L2.start
    simp
  have e2 : (n0 :: N').length - 1 = N'.length := by simp
  have ez : c.H0 a = none := by rw [h4]; simp
  have nov : ∀ (i : Nat) (ys : List D), (startG N'.length ds)[i]? ≠ some (Sl.own ys) := fun i ys h => by
    unfold startG at h
    have := List.mem_of_getElem? h
    rcases List.mem_append.mp this with z | z
    · obtain ⟨d, _, q⟩ := List.mem_map.mp z
      cases q
    · cases (List.mem_replicate.mp z).2
  rw [e1, e2]
  refine ⟨by simp [e.len], fun i s h => ?_, by rw [h3]; exact Same.refl _, fun b _ => by rw [h3], le, fun b o hb _ _ => ?_, fun b hb => (by rw [h1] at hb; cases hb), fun x hx => (by rw [h2] at hx; cases hx), fun i k xs' ys p hik hi hk h5 h6 => ?_, fun i C ns xs h => ?_, fun a' xs ha _ => (by rw [hw] at ha; cases ha; rfl)⟩
  · cases i with
    | zero =>
      cases (Option.some.inj h)
      exact ⟨_, rfl, a, ws, rfl, ez, hF, hH, rx⟩
    | succ i =>
      obtain ⟨o, g1, g2⟩ := e.sl i s (by simpa using h)
      refine ⟨o, by simpa using g1, ?_⟩
      cases s with
      | un => exact True.intro
      | val d => exact g2
      | own zs => exact absurd (by simpa using h) (nov i zs)
      | hand =>
        obtain ⟨p, b1, b2⟩ := g2
        cases b2
      | self C ns zs =>
        obtain ⟨x, dx, ws, b1, b2, _⟩ := g2
        cases b2
  · rw [h4] at hb
    by_cases z : b = a
    · simp [z] at hb
    · simpa [z] using hb
  · cases i with
    | zero =>
      cases k with
      | zero => exact hik rfl
      | succ k => exact nov k ys (by simpa using hk)
    | succ i => exact nov i xs' (by simpa using hi)
  · cases i with
    | zero => rfl
    | succ i => 
      obtain ⟨o, g1, x, dx, ws, b1, b2, _⟩ := e.sl i _ (by simpa using h)
      cases b2
theorem fn_W {P : Program} {w : World} {mg : Str → Option Value} {base : Heap} {x qual : Str} {params : Arguments} {body : List Stmt} {scope : Scope} {dvs : List V} {kws : List (Str × V)} {f : Addr} {fd : FuncData} {N ps : List Str} {k n : Nat} {p : RCl} {td : TSD}
    (D : FunD K x qual params body scope dvs kws f fd) (S : FnScope N ps scope) (hn : ps.length = n + 1) (hp : ∀ ds Q, p ds Q → pW N.length td ds Q)
    (hbody : ∀ (cdv : Value) (A : Around) (outer : List Env) (s : Shared) (H : Hp) (E : XK), Room k (A.deeper (envOfC qual scope s.heap.objs.size f cdv)) → ∃ ts, PSs (cxOf CX0 P w K mg base N qual scope f cdv A outer s H E) body ts ∧ Sd K ts td) :
    FnOk P w K mg base CX0 (k + 1) f fd ps (spH K n p) := by
  have hN : N ≠ [] := fun z => by
    have := S.pre
    rw [z] at this
    have h2 := congrArg List.length this
    simp at h2
    omega
  refine D.ok S (fun vs H Q E h => ?_) fun cdv A outer s H vs Q E hr h => ?_
  · obtain ⟨a, vr, F, ds, Qd, rfl, hl, _, _, _, r, _⟩ := h
    rw [List.length_cons, r.length, hl, hn]
  obtain ⟨ts, h1, h2⟩ := hbody cdv A outer s H E hr
  refine ⟨ts, h1, ?_⟩
  obtain ⟨a, vr, F, ds, Qd, rfl, hl, le, hF, j, r, q, kk⟩ := h
  obtain ⟨xs, ws, hx, hH, rx⟩ := j
  have up : ∀ {Γ σ F' H' ys}, EnvR K ⟨none, none, F, fun b => if b = a then none else H b, some a⟩ Γ σ F' H' → Γ[0]? = some (.own ys) → handX ys → UpH a F H F' H' ∧ (handP K).J F' H' a := fun {Γ σ F' H' ys} e h1 hy => by
    have h0 := e.w0 a ys rfl h1
    obtain ⟨o, g1, p, vs, g2, g3, g4, g5, g6⟩ := e.sl 0 _ h1
    rw [h0] at g1
    cases (Option.some.inj g1)
    cases g2
    refine ⟨⟨fun b o hb hH => e.ex b o (by simp [hb, hH]) (fun z => nomatch z) (fun z => nomatch z), e.fx, fun b hb => ?_, e.le⟩, ys, vs, hy, g5, g6⟩
    by_cases z : b = a
    · rw [z, g4, hF]
    · exact e.fr b (by simp [z, hb])
  refine h2 ⟨none, none, F, fun b => if b = a then none else H b, some a⟩ _ _ F H _ _ (env_startW rfl rfl rfl rfl rfl le hF hH rx hN r) (hp ds Qd q xs hx) ⟨fun Γ σ F' H' s q e => ?_, fun d v Γ σ F' H' s q e r => ?_, fun _ _ _ _ _ q => q.elim, fun _ _ _ _ _ q => q.elim⟩
  · obtain ⟨ys, h1, hy, q⟩ := q
    obtain ⟨u, j'⟩ := up e h1 hy
    exact kk _ _ F' H' q u j' rep_non
  · obtain ⟨ys, h1, hy, q⟩ := q
    obtain ⟨u, j'⟩ := up e h1 hy
    exact kk _ _ F' H' q u j' r
end
end DL
set_option Elab.async false
set_option linter.all false
set_option maxRecDepth 100000
set_option maxHeartbeats 1000000
namespace DL
open PySem PySem.Spec L2 L2R
open PyProof.Rows hiding St
section
variable {K : PySem.W.Frag} {te ta tb tc : TE} {da db dc td : TD} {r r' : R2} {rd rd' : ROp}
def dNeg (da : TD) : TD := fun Γ Q => da Γ fun d Γ' => ∃ i, d = .int i ∧ Q (.int (-i)) Γ'
theorem ev_neg (h : Ev K ta da) : Ev K (tUn (rU fun i => .int (-i)) ta) (dNeg da) := fun c Γ σ F H Qd Q e t k => h c Γ σ F H _ _ e t fun d v Γ1 F1 H1 t1 p1 r1 => by
  obtain ⟨i, rfl, q⟩ := t1
  exact ⟨i, r1.int, k _ _ Γ1 F1 H1 q p1 rep_int⟩
def dChain (rd rd' : ROp) (da db dc : TD) : TD := fun Γ Q => da Γ fun a Γ1 => db Γ1 fun b Γ2 => rd a b fun z => ∃ k, z = .bl k ∧ if k = true then dc Γ2 fun c Γ3 => rd' b c fun y => Q y Γ3 else Q (.bl false) Γ2
theorem ev_chain (ha : Ev K ta da) (hb : Ev K tb db) (hc : Ev K tc dc) (hr : OpD K r rd) (hr' : OpD K r' rd') : Ev K (tChain r r' ta tb tc) (dChain rd rd' da db dc) := fun c Γ σ F H Qd Q e t k =>
  ha c Γ σ F H _ _ e t fun a va Γ1 F1 H1 t1 p1 r1 => hb c Γ1 σ F1 H1 _ _ p1.env t1 fun b vb Γ2 F2 H2 t2 p2 r2 =>
    hr F2 H2 a b va vb _ _ p2.env.le (.inl (r1.mono p2.fx)) (.inl r2) t2 fun d v F3 H3 q u r3 => by
      obtain ⟨z, rfl, q⟩ := q
      have P := (p1.trans p2).trans (p2.env.upP u)
      refine ⟨z, r3.bl, ?_⟩
      cases z with
      | false => exact k _ _ Γ2 F3 H3 q P rep_bl
      | true =>
        exact hc c Γ2 σ F3 H3 _ _ P.env q fun x vx Γ4 F4 H4 t4 p4 r4 => hr' F4 H4 b x vb vx _ _ p4.env.le (.inl ((r2.mono u.fx).mono p4.fx)) (.inl r4) t4 fun d v F5 H5 q5 u5 r5 => k d v Γ4 F5 H5 q5 ((P.trans p4).trans (p4.env.upP u5)) r5
end
theorem boot_len' : bootBuiltins "len" = some (.builtin "len") := by decide +kernel
theorem boot_abs' : bootBuiltins "abs" = some (.builtin "abs") := by decide +kernel
theorem boot_min' : bootBuiltins "min" = some (.builtin "min") := by decide +kernel
theorem boot_max' : bootBuiltins "max" = some (.builtin "max") := by decide +kernel
theorem boot_sum' : bootBuiltins "sum" = some (.builtin "sum") := by decide +kernel
theorem boot_any' : bootBuiltins "any" = some (.builtin "any") := by decide +kernel
theorem boot_all' : bootBuiltins "all" = some (.builtin "all") := by decide +kernel
theorem boot_sorted' : bootBuiltins "sorted" = some (.builtin "sorted") := by decide +kernel
theorem boot_isinstance' : bootBuiltins "isinstance" = some (.builtin "isinstance") := by decide +kernel
theorem boot_int' : bootBuiltins "int" = some (.type "int") := by decide +kernel
theorem boot_bool' : bootBuiltins "bool" = some (.type "bool") := by decide +kernel
theorem boot_list' : bootBuiltins "list" = some (.type "list") := by decide +kernel
theorem boot_tuple' : bootBuiltins "tuple" = some (.type "tuple") := by decide +kernel
/-- what stands between two texts of mg at an int's name -/
theorem pe_int_of {X : Cx} {x : Str} {i : Int} {pos : Pos} (hg : Gl X x) (h : ∃ t, X.mg x = some (.int i t)) (hd : (x == ("__debug__" : Str)) = false := by decide) : PE X (.Name x pos) (tC (.int i)) := by
  obtain ⟨t, h⟩ := h
  exact pe_glob hg h ⟨t, rfl⟩ hd
/-! ### the hook, with a further word about K -/
def hookE (n : Nat) (fa : List He.Fa) (fn : List He.DefD) (ex : PySem.W.Frag → Bool) : PySem.W.Hook where
  α := He.AlD × Bool
  obs := fun s => (He.obsDG n fa fn s.heap.get?, ex (He.frG s.heap.get? (He.asD s.heap.get? n)))
  val := fun _ => (He.valD fn, true)
  says := fun _ h => ∃ K : PySem.W.Frag, K.In h ∧ He.SaysD fa fn K ∧ ex K = true
  of := fun _ _ e => ⟨_, He.frG_in, congrArg Prod.fst e, congrArg Prod.snd e⟩
  keeps := fun _ _ _ ⟨K, hK, c⟩ k => ⟨K, PySem.W.Frag.In.keeps hK k, c⟩
theorem obsE_eq {n : Nat} {fa : List He.Fa} {fn : List He.DefD} {ex : PySem.W.Frag → Bool} {g : Addr → Option Obj} {s : Shared} (h : ∀ a, g a = s.heap.get? a) : (He.obsDG n fa fn g, ex (He.frG g (He.asD g n))) = (hookE n fa fn ex).obs s := by
  have e : g = s.heap.get? := funext h
  rw [e] <;> rfl
/-- instances of the class may be asked for their class -/
def isB (K : PySem.W.Frag) (x : Str) : Bool := He.eqO (PySem.W.findIn K (.ref (He.ga K x)) "__class__") (some (some (.builtin "object.__class__"))) && (He.eqO (PySem.W.specialIn K (.builtin "object.__class__") "__get__") (some (some (.builtin "getset_descriptor.__get__"))) &&
  (decide (PySem.W.takesIn K (.builtin "object.__class__") = some true) && (decide (PySem.W.mroIn K (He.ga K x) (.type "object") = some true) && decide (PySem.W.kitOne K (.ref (He.ga K x)) (.ref (He.ga K x)) = some true))))
theorem isB_ok {K : PySem.W.Frag} {x : Str} (c : Cls K (He.ga K x)) (h : isB K x = true) : IsC K (He.ga K x) ∧ PySem.W.kitOne K (.ref (He.ga K x)) (.ref (He.ga K x)) = some true := by
  unfold isB at h
  simp only [Bool.and_eq_true, decide_eq_true_eq] at h
  obtain ⟨h1, h2, h3, h4, h5⟩ := h
  exact ⟨⟨c, He.eqO_ok h1, He.eqO_ok h2, h3, h4⟩, h5⟩
end DL
set_option Elab.async false
set_option linter.all false
set_option maxRecDepth 100000
set_option maxHeartbeats 1000000
namespace DL
open PySem PySem.Spec L2 L2R
open PyProof.Rows hiding St
section
variable {K : PySem.W.Frag}
/-! ### the def that makes the hand, the law -/
def spM (K : PySem.W.Frag) : Sp := fun vs H Q _ => ∃ (a : Addr) (ns : List Int) (F : Hp), vs = [.ref a] ∧ Same F H ∧ SqL K F a (ns.map V.int) ∧ ns.length ≤ 1000000 ∧
  ∀ p F' H', UpN F H F' H' → F' p = none → (handP K).J F' H' p → Q (.ref p) H'
theorem fn_M {P : Program} {w : World} {mg : Str → Option Value} {base : Heap} {x qual : Str} {params : Arguments} {body : List Stmt} {scope : Scope} {dvs : List V} {kws : List (Str × V)} {f : Addr} {fd : FuncData} {N ps : List Str} {k : Nat} {td1 td2 : TSD} {tdn : TDA}
    (Fd : FunD K x qual params body scope dvs kws f fd) (S : FnScope N ps scope) (hn : ps.length = 1)
    (hp : ∀ ns : List Int, ns.length ≤ 1000000 → td1 ⟨fun Γ => td2 ⟨fun Γ' => tdn Γ' fun xs _ => handX xs, fun _ _ => False, fun _ => False, fun _ => False⟩ Γ, fun _ _ => False, fun _ => False, fun _ => False⟩ (startG N.length [.lst (ns.map D.int)]))
    (hbody : ∀ (cdv : Value) (A : Around) (outer : List Env) (s : Shared) (H : Hp) (E : XK), Room k (A.deeper (envOfC qual scope s.heap.objs.size f cdv)) → ∃ ts1 ts2 te, PSs (cxOf CX0 P w K mg base N qual scope f cdv A outer s H E) body (tSeq ts1 (tSeq ts2 (tRet te))) ∧ Sd K ts1 td1 ∧ Sd K ts2 td2 ∧ EvN K te tdn) :
    FnOk P w K mg base CX0 (k + 1) f fd ps (spM K) := by
  refine Fd.ok S (fun vs H Q E h => ?_) fun cdv A outer s H vs Q E hr h => ?_
  · obtain ⟨a, ns, F, rfl, _⟩ := h
    rw [hn]
    rfl
  obtain ⟨ts1, ts2, te, h0, h1, h2, h3⟩ := hbody cdv A outer s H E hr
  refine ⟨_, h0, ?_⟩
  obtain ⟨a, ns, F, rfl, le, hs, hl, kk⟩ := h
  have r : Reps K [D.lst (ns.map D.int)] [.ref a] F := .cons (rep_lst hs Reps.ints_mk) .nil
  refine h1 ⟨none, none, F, H, none⟩ _ _ F H _ _ (env_start rfl rfl rfl rfl rfl le r) (hp ns hl) ⟨fun Γ σ F1 H1 _ q e => ?_, fun _ _ _ _ _ _ _ q => q.elim, fun _ _ _ _ _ q => q.elim, fun _ _ _ _ _ q => q.elim⟩
  refine h2 _ Γ σ F1 H1 _ _ e q ⟨fun Γ σ F2 H2 _ q e => ?_, fun _ _ _ _ _ _ _ q => q.elim, fun _ _ _ _ _ q => q.elim, fun _ _ _ _ _ q => q.elim⟩
  refine h3 _ Γ σ F2 H2 _ _ e q fun xs p Γ3 F3 H3 _ hx P n => ?_
  obtain ⟨vs, g1, g2⟩ := n.ok
  exact kk p F3 H3 ⟨fun b o hb => P.env.ex b o hb (fun z => nomatch z) (fun z => nomatch z), P.env.fx, P.env.fr, P.env.le⟩ n.hF ⟨xs, vs, hx, g1, g2⟩
def spL (K : PySem.W.Frag) : Sp := fun vs H Q _ => ∃ (a : Addr) (ns : List Int), vs = [.ref a] ∧ SqL K H a (ns.map V.int) ∧ ns.length ≤ 1000000 ∧ ∀ H', Q (.bl true) H'
theorem fn_L {P : Program} {w : World} {mg : Str → Option Value} {base : Heap} {x qual : Str} {params : Arguments} {body : List Stmt} {scope : Scope} {dvs : List V} {kws : List (Str × V)} {f : Addr} {fd : FuncData} {N ps : List Str} {k m : Nat} {td : TSD}
    (Fd : FunD K x qual params body scope dvs kws f fd) (S : FnScope N ps scope) (hn : ps.length = 1) (hN : N.length = m + 2)
    (hp : ∀ ns : List Int, ns.length ≤ 1000000 → td ⟨fun _ => False, fun d _ => d = .bl true, fun _ => False, fun _ => False⟩ (.val (.lst (ns.map D.int)) :: .hand :: List.replicate m .un))
    (hbody : ∀ (cdv : Value) (A : Around) (outer : List Env) (s : Shared) (H : Hp) (E : XK), Room k (A.deeper (envOfC qual scope s.heap.objs.size f cdv)) → ∃ ts E', PSs (cxOf CX0 P w K mg base N qual scope f cdv A outer s H E) body (tSeq (tAsg (tCall (spM K) [] E' (tCons (tVar 0) tNil)) (gName 1)) ts) ∧ Sd K ts td) :
    FnOk P w K mg base CX0 (k + 1) f fd ps (spL K) := by
  refine Fd.ok S (fun vs H Q E h => ?_) fun cdv A outer s H vs Q E hr h => ?_
  · obtain ⟨a, ns, rfl, _⟩ := h
    rw [hn]
    rfl
  obtain ⟨ts, E', h0, h1⟩ := hbody cdv A outer s H E hr
  refine ⟨_, h0, ?_⟩
  obtain ⟨a, ns, rfl, hs, hl, kk⟩ := h
  have e1 : L2.start N [V.ref a] = some (V.ref a) :: none :: List.replicate m none := by
    unfold L2.start
    rw [hN]
    rfl
  rw [e1]
  refine ⟨_, rfl, a, ns, H, rfl, Same.refl _, hs, hl, fun p F' H' u hF j => ?_⟩
  show ts _ (some (V.ref a) :: some (V.ref p) :: List.replicate m none) H'
  have r : Rep K (D.lst (ns.map D.int)) (.ref a) F' := (rep_lst hs Reps.ints_mk).mono u.fx
  have env : EnvR K ⟨some p, none, F', H', none⟩ (.val (.lst (ns.map D.int)) :: .hand :: List.replicate m .un) (some (V.ref a) :: some (V.ref p) :: List.replicate m none) F' H' := by
    refine ⟨by simp, fun i s hs => ?_, Same.refl _, fun _ _ => rfl, u.le, fun _ _ hb _ _ => hb, fun b hb => ?_, fun x hx => (by cases hx), fun i k xs ys q hik hi hk h5 h6 => ?_, fun i C ns xs h => ?_, fun a xs ha => (by cases ha)⟩
    · match i, hs with
      | 0, hs =>
        cases (Option.some.inj hs)
        exact ⟨_, rfl, _, rfl, r⟩
      | 1, hs =>
        cases (Option.some.inj hs)
        exact ⟨_, rfl, p, rfl, rfl⟩
      | i + 2, hs =>
        have hs : (List.replicate m Sl.un)[i]? = some s := hs
        have hm := (List.getElem?_eq_some_iff.mp hs).1
        rw [List.length_replicate] at hm
        rw [List.getElem?_replicate, if_pos hm] at hs
        cases (Option.some.inj hs)
        exact ⟨none, by show (List.replicate m (none : Option V))[i]? = some none; rw [List.getElem?_replicate, if_pos hm], True.intro⟩
    · cases hb
      exact ⟨j, hF, (handP K).there _ _ _ j, fun z => nomatch z⟩
    · match i, hi with
      | 0, hi => cases (Option.some.inj hi)
      | 1, hi => cases (Option.some.inj hi)
      | i + 2, hi =>
        have hi : (List.replicate m Sl.un)[i]? = some (Sl.own xs) := hi
        have := List.mem_of_getElem? hi
        cases (List.mem_replicate.mp this).2
    · match i, h with
      | 0, hi => rfl
      | 1, hi => cases (Option.some.inj hi)
      | i + 2, hi =>
        have hi : (List.replicate m Sl.un)[i]? = some (Sl.self C ns xs) := hi
        have := List.mem_of_getElem? hi
        cases (List.mem_replicate.mp this).2
  refine h1 ⟨some p, none, F', H', none⟩ _ _ F' H' _ _ env (hp ns hl) ⟨fun _ _ _ _ _ q => q.elim, fun d v Γ σ F2 H2 _ q e rv => ?_, fun _ _ _ _ _ q => q.elim, fun _ _ _ _ _ q => q.elim⟩
  subst q
  rw [rv.bl]
  exact kk H2
end
end DL
namespace CM
/-! least values, walls of costs, paths -/
def ab (i : Int) : Int := if i < 0 then -i else i
theorem ab_nn (i : Int) : 0 ≤ ab i := by unfold ab; split <;> omega
theorem ab_neg (i : Int) : ab (-i) = ab i := by unfold ab; split <;> split <;> omega
theorem ab_sub (i j : Int) : ab (i - j) = ab (j - i) := by unfold ab; split <;> split <;> omega
theorem ab_tri (i j k : Int) : ab (i - k) ≤ ab (i - j) + ab (j - k) := by unfold ab; split <;> split <;> split <;> omega
/-- the least of g 0, .., g n -/
def mn (g : Nat → Int) : Nat → Int
  | 0 => g 0
  | n + 1 => min (mn g n) (g (n + 1))
theorem mn_le (g : Nat → Int) : ∀ {n j : Nat}, j ≤ n → mn g n ≤ g j
  | 0, j, h => by
    have : j = 0 := by omega
    subst this
    exact Int.le_refl _
  | n + 1, j, h => by
    show min (mn g n) (g (n + 1)) ≤ g j
    by_cases e : j = n + 1
    · subst e
      exact Int.min_le_right _ _
    · exact Int.le_trans (Int.min_le_left _ _) (mn_le g (by omega))
theorem mn_get (g : Nat → Int) : ∀ n : Nat, ∃ j, j ≤ n ∧ mn g n = g j
  | 0 => ⟨0, Nat.le_refl _, rfl⟩
  | n + 1 => by
    obtain ⟨j, h1, h2⟩ := mn_get g n
    by_cases h : mn g n ≤ g (n + 1)
    · exact ⟨j, by omega, by show min (mn g n) (g (n + 1)) = _; rw [Int.min_eq_left h, h2]⟩
    · exact ⟨n + 1, Nat.le_refl _, by show min (mn g n) (g (n + 1)) = _; rw [Int.min_eq_right (by omega)]⟩
theorem mn_eq {g : Nat → Int} {n : Nat} {m : Int} (h1 : ∃ j, j ≤ n ∧ g j = m) (h2 : ∀ j, j ≤ n → m ≤ g j) : mn g n = m := by
  obtain ⟨j, a, b⟩ := h1
  obtain ⟨i, c, d⟩ := mn_get g n
  have := mn_le g a
  have := h2 i c
  omega
theorem mn_congr {g h : Nat → Int} {n : Nat} (e : ∀ j, j ≤ n → g j = h j) : mn g n = mn h n := by
  obtain ⟨i, a, b⟩ := mn_get h n
  exact mn_eq ⟨i, a, by rw [e i a, b]⟩ fun j hj => by
    rw [e j hj]
    exact mn_le h hj
theorem mn_mono {g h : Nat → Int} {n : Nat} (e : ∀ j, j ≤ n → g j ≤ h j) : mn g n ≤ mn h n := by
  obtain ⟨i, a, b⟩ := mn_get h n
  rw [b]
  exact Int.le_trans (mn_le g a) (e i a)
/-! the two passes -/
def fw (f : Nat → Int) (b : Int) : Nat → Int
  | 0 => f 0
  | k + 1 => min (f (k + 1)) (fw f b k + b)
/-- the value at n - d -/
def bw (g : Nat → Int) (b : Int) (n : Nat) : Nat → Int
  | 0 => g n
  | d + 1 => min (g (n - (d + 1))) (bw g b n d + b)
theorem fw_le (f : Nat → Int) (b : Int) : ∀ (k j : Nat), j ≤ k → fw f b k ≤ f j + b * ((k : Int) - j)
  | 0, j, h => by
    have : j = 0 := by omega
    subst this
    show f 0 ≤ _
    simp
  | k + 1, j, h => by
    show min (f (k + 1)) (fw f b k + b) ≤ _
    by_cases e : j = k + 1
    · subst e
      refine Int.le_trans (Int.min_le_left _ _) ?_
      simp
    · refine Int.le_trans (Int.min_le_right _ _) ?_
      have h1 := fw_le f b k j (by omega)
      have e1 : b * (((k + 1 : Nat) : Int) - j) = b * ((k : Int) - j) + b := by
        have : ((k + 1 : Nat) : Int) - j = ((k : Int) - j) + 1 := by omega
        rw [this, Int.mul_add, Int.mul_one]
      rw [e1]
      omega
theorem fw_get (f : Nat → Int) (b : Int) : ∀ k : Nat, ∃ j, j ≤ k ∧ fw f b k = f j + b * ((k : Int) - j)
  | 0 => ⟨0, Nat.le_refl _, by show f 0 = _; simp⟩
  | k + 1 => by
    by_cases h : f (k + 1) ≤ fw f b k + b
    · refine ⟨k + 1, Nat.le_refl _, ?_⟩
      show min (f (k + 1)) (fw f b k + b) = _
      rw [Int.min_eq_left h]
      simp
    · obtain ⟨j, h1, h2⟩ := fw_get f b k
      refine ⟨j, by omega, ?_⟩
      show min (f (k + 1)) (fw f b k + b) = _
      rw [Int.min_eq_right (by omega), h2]
      have e1 : b * (((k + 1 : Nat) : Int) - j) = b * ((k : Int) - j) + b := by
        have : ((k + 1 : Nat) : Int) - j = ((k : Int) - j) + 1 := by omega
        rw [this, Int.mul_add, Int.mul_one]
      rw [e1]
      omega
theorem bw_le (g : Nat → Int) (b : Int) (n : Nat) : ∀ (d j : Nat), d ≤ n → n - d ≤ j → j ≤ n → bw g b n d ≤ g j + b * ((j : Int) - ((n - d : Nat) : Int))
  | 0, j, _, h, h2 => by
    have : j = n := by omega
    subst this
    show g j ≤ _
    simp
  | d + 1, j, hd, h, h2 => by
    show min (g (n - (d + 1))) (bw g b n d + b) ≤ _
    by_cases e : j = n - (d + 1)
    · subst e
      refine Int.le_trans (Int.min_le_left _ _) ?_
      simp
    · refine Int.le_trans (Int.min_le_right _ _) ?_
      have h1 := bw_le g b n d j (by omega) (by omega) h2
      have e1 : b * ((j : Int) - ((n - (d + 1) : Nat) : Int)) = b * ((j : Int) - ((n - d : Nat) : Int)) + b := by
        have : (j : Int) - ((n - (d + 1) : Nat) : Int) = ((j : Int) - ((n - d : Nat) : Int)) + 1 := by omega
        rw [this, Int.mul_add, Int.mul_one]
      rw [e1]
      omega
theorem bw_get (g : Nat → Int) (b : Int) (n : Nat) : ∀ d : Nat, d ≤ n → ∃ j, n - d ≤ j ∧ j ≤ n ∧ bw g b n d = g j + b * ((j : Int) - ((n - d : Nat) : Int))
  | 0, _ => ⟨n, by omega, Nat.le_refl _, by show g n = _; simp⟩
  | d + 1, hd => by
    by_cases h : g (n - (d + 1)) ≤ bw g b n d + b
    · refine ⟨n - (d + 1), Nat.le_refl _, by omega, ?_⟩
      show min (g (n - (d + 1))) (bw g b n d + b) = _
      rw [Int.min_eq_left h]
      simp
    · obtain ⟨j, h1, h2, h3⟩ := bw_get g b n d (by omega)
      refine ⟨j, by omega, h2, ?_⟩
      show min (g (n - (d + 1))) (bw g b n d + b) = _
      rw [Int.min_eq_right (by omega), h3]
      have e1 : b * ((j : Int) - ((n - (d + 1) : Nat) : Int)) = b * ((j : Int) - ((n - d : Nat) : Int)) + b := by
        have : (j : Int) - ((n - (d + 1) : Nat) : Int) = ((j : Int) - ((n - d : Nat) : Int)) + 1 := by omega
        rw [this, Int.mul_add, Int.mul_one]
      rw [e1]
      omega
theorem mul_ab_le {b x y : Int} (hb : 0 ≤ b) (h : x ≤ y) : b * x ≤ b * y := Int.mul_le_mul_of_nonneg_left h hb
theorem spread_eq {f : Nat → Int} {b : Int} {n k : Nat} (hb : 0 ≤ b) (hk : k ≤ n) : bw (fw f b) b n (n - k) = mn (fun j => f j + b * ab ((j : Int) - k)) n := by
  have hn : n - (n - k) = k := by omega
  apply Int.le_antisymm
  · obtain ⟨j, h1, h2⟩ := mn_get (fun j => f j + b * ab ((j : Int) - k)) n
    rw [h2]
    by_cases hj : j ≤ k
    · have a1 := bw_le (fw f b) b n (n - k) k (by omega) (by omega) hk
      rw [hn] at a1
      have a2 := fw_le f b k j hj
      have e : ab ((j : Int) - k) = (k : Int) - j := by unfold ab; split <;> omega
      show _ ≤ f j + b * ab ((j : Int) - k)
      rw [e]
      simp at a1
      omega
    · have a1 := bw_le (fw f b) b n (n - k) j (by omega) (by omega) h1
      rw [hn] at a1
      have a2 := fw_le f b j j (Nat.le_refl _)
      have e : ab ((j : Int) - k) = (j : Int) - k := by unfold ab; split <;> omega
      show _ ≤ f j + b * ab ((j : Int) - k)
      rw [e]
      simp at a2
      omega
  · obtain ⟨j, h1, h2, h3⟩ := bw_get (fw f b) b n (n - k) (by omega)
    rw [hn] at h1 h3
    obtain ⟨i, h4, h5⟩ := fw_get f b j
    rw [h3, h5]
    have a := mn_le (fun j => f j + b * ab ((j : Int) - k)) (n := n) (j := i) (by omega)
    refine Int.le_trans a ?_
    show f i + b * ab ((i : Int) - k) ≤ _
    have t : b * ab ((i : Int) - k) ≤ b * ((j : Int) - i) + b * ((j : Int) - k) := by
      rw [← Int.mul_add]
      refine mul_ab_le hb ?_
      unfold ab
      split <;> omega
    omega
/-! sums over the places of all cracks; the head of the list is the course that was laid last -/
def S (b : Int) (n : Nat) : List (Nat → Int) → Nat → Int
  | [] => fun _ => 0
  | [o] => o
  | o :: o' :: L => fun k => mn (fun j => S b n (o' :: L) j + b * ab ((j : Int) - k)) n + o k
def cost (b : Int) : List (Nat → Int) → List Nat → Int
  | [], _ => 0
  | _, [] => 0
  | [o], p :: _ => o p
  | o :: _ :: _, [p] => o p
  | o :: o' :: L, p :: p' :: l => o p + b * ab ((p' : Int) - p) + cost b (o' :: L) (p' :: l)
/-- a path through m courses with the places 0 to n -/
def Path (n m : Nat) (ps : List Nat) : Prop := ps.length = m ∧ ∀ p ∈ ps, p ≤ n
theorem S_le (b : Int) (n : Nat) : ∀ (os : List (Nat → Int)) (k : Nat) (ps : List Nat), Path n os.length (k :: ps) → S b n os k ≤ cost b os (k :: ps)
  | [], _, _, h => by
    have := h.1
    simp at this
  | [o], k, ps, h => Int.le_refl _
  | o :: o' :: L, k, [], h => by
    have := h.1
    simp at this
  | o :: o' :: L, k, p :: ps, h => by
    have h' : Path n (o' :: L).length (p :: ps) := ⟨by have := h.1; simpa using this, fun q hq => h.2 q (List.mem_cons_of_mem _ hq)⟩
    have ih := S_le b n (o' :: L) p ps h'
    have hp : p ≤ n := h'.2 p (List.mem_cons_self ..)
    have a := mn_le (fun j => S b n (o' :: L) j + b * ab ((j : Int) - k)) hp
    show mn (fun j => S b n (o' :: L) j + b * ab ((j : Int) - k)) n + o k ≤ o k + b * ab ((p : Int) - k) + cost b (o' :: L) (p :: ps)
    have a : mn (fun j => S b n (o' :: L) j + b * ab ((j : Int) - k)) n ≤ S b n (o' :: L) p + b * ab ((p : Int) - k) := a
    omega
theorem S_get (b : Int) (n : Nat) : ∀ (os : List (Nat → Int)) (k : Nat), os ≠ [] → k ≤ n → ∃ ps, Path n os.length (k :: ps) ∧ S b n os k = cost b os (k :: ps)
  | [], _, h, _ => absurd rfl h
  | [o], k, _, hk => ⟨[], ⟨rfl, fun p hp => by simp at hp; omega⟩, rfl⟩
  | o :: o' :: L, k, _, hk => by
    obtain ⟨j, h1, h2⟩ := mn_get (fun j => S b n (o' :: L) j + b * ab ((j : Int) - k)) n
    obtain ⟨ps, h3, h4⟩ := S_get b n (o' :: L) j (fun z => nomatch z) h1
    refine ⟨j :: ps, ⟨by have := h3.1; simpa using this, fun q hq => ?_⟩, ?_⟩
    · rcases List.mem_cons.mp hq with e | e
      · omega
      · exact h3.2 q e
    · show mn (fun j => S b n (o' :: L) j + b * ab ((j : Int) - k)) n + o k = o k + b * ab ((j : Int) - k) + cost b (o' :: L) (j :: ps)
      rw [h2, ← h4]
      omega
/-- v is the least cost of a crack through os -/
def IsL (b : Int) (n : Nat) (os : List (Nat → Int)) (v : Int) : Prop := (∃ ps, Path n os.length ps ∧ cost b os ps = v) ∧ ∀ ps, Path n os.length ps → v ≤ cost b os ps
theorem IsL.uniq {b : Int} {n : Nat} {os : List (Nat → Int)} {v w : Int} (h : IsL b n os v) (h' : IsL b n os w) : v = w := by
  obtain ⟨⟨ps, h1, h2⟩, h3⟩ := h
  obtain ⟨⟨qs, g1, g2⟩, g3⟩ := h'
  have := h3 qs g1
  have := g3 ps h1
  omega
theorem isL_S {b : Int} {n : Nat} {os : List (Nat → Int)} (h : os ≠ []) : IsL b n os (mn (S b n os) n) := by
  constructor
  · obtain ⟨k, h1, h2⟩ := mn_get (S b n os) n
    obtain ⟨ps, h3, h4⟩ := S_get b n os k h h1
    exact ⟨k :: ps, h3, by rw [h2, h4]⟩
  · intro ps hp
    cases ps with
    | nil =>
      have := hp.1
      cases os with
      | nil => exact absurd rfl h
      | cons a b => simp at this
    | cons k ps =>
      exact Int.le_trans (mn_le _ (hp.2 k (List.mem_cons_self ..))) (S_le b n os k ps hp)
/-! turning a crack upside down -/
theorem cost_snoc (b : Int) : ∀ (os : List (Nat → Int)) (ps : List Nat) (o o' : Nat → Int) (p p' : Nat), os.length = ps.length → cost b (os ++ [o', o]) (ps ++ [p', p]) = cost b (os ++ [o']) (ps ++ [p']) + b * ab ((p' : Int) - p) + o p
  | [], [], o, o', p, p', _ => by
    show o' p' + b * ab ((p : Int) - p') + o p = _
    rw [ab_sub]
    rfl
  | [], _ :: _, _, _, _, _, h => by simp at h
  | _ :: _, [], _, _, _, _, h => by simp at h
  | [x], [q], o, o', p, p', _ => by
    show x q + b * ab ((p' : Int) - q) + (o' p' + b * ab ((p : Int) - p') + o p) = x q + b * ab ((p' : Int) - q) + o' p' + b * ab ((p' : Int) - p) + o p
    rw [ab_sub p p']
    omega
  | [_], _ :: _ :: _, _, _, _, _, h => by simp at h
  | _ :: _ :: _, [_], _, _, _, _, h => by simp at h
  | x :: y :: os, q :: r :: ps, o, o', p, p', h => by
    have ih := cost_snoc b (y :: os) (r :: ps) o o' p p' (by simpa using h)
    show x q + b * ab ((r : Int) - q) + cost b (y :: os ++ [o', o]) (r :: ps ++ [p', p]) = x q + b * ab ((r : Int) - q) + cost b (y :: os ++ [o']) (r :: ps ++ [p']) + b * ab ((p' : Int) - p) + o p
    rw [ih]
    omega
theorem cost_rev (b : Int) : ∀ (os : List (Nat → Int)) (ps : List Nat), os.length = ps.length → cost b os.reverse ps.reverse = cost b os ps
  | [], [], _ => rfl
  | [], _ :: _, h => by simp at h
  | _ :: _, [], h => by simp at h
  | [o], [p], _ => rfl
  | [_], _ :: _ :: _, h => by simp at h
  | _ :: _ :: _, [_], h => by simp at h
  | o :: o' :: L, p :: p' :: l, h => by
    have ih := cost_rev b (o' :: L) (p' :: l) (by simpa using h)
    have e1 : (o :: o' :: L).reverse = L.reverse ++ [o', o] := by simp
    have e2 : (p :: p' :: l).reverse = l.reverse ++ [p', p] := by simp
    rw [e1, e2, cost_snoc b _ _ _ _ _ _ (by simpa using h)]
    have e3 : L.reverse ++ [o'] = (o' :: L).reverse := by simp
    have e4 : l.reverse ++ [p'] = (p' :: l).reverse := by simp
    rw [e3, e4, ih]
    show _ = o p + b * ab ((p' : Int) - p) + cost b (o' :: L) (p' :: l)
    omega
theorem Path.rev {n m : Nat} {ps : List Nat} (h : Path n m ps) : Path n m ps.reverse := ⟨by rw [List.length_reverse]; exact h.1, fun p hp => h.2 p (List.mem_reverse.mp hp)⟩
theorem IsL.rev {b : Int} {n : Nat} {os : List (Nat → Int)} {v : Int} (h : IsL b n os v) : IsL b n os.reverse v := by
  obtain ⟨⟨ps, h1, h2⟩, h3⟩ := h
  refine ⟨⟨ps.reverse, by rw [List.length_reverse]; exact h1.rev, by rw [cost_rev b _ _ h1.1.symm, h2]⟩, fun qs hq => ?_⟩
  rw [List.length_reverse] at hq
  have := h3 qs.reverse hq.rev
  have e := cost_rev b os qs.reverse hq.rev.1.symm
  rw [List.reverse_reverse] at e
  rw [e]
  exact this
end CM
namespace CM
inductive All2 {α : Type} (R : α → α → Prop) : List α → List α → Prop
  | nil : All2 R [] []
  | cons {a b : α} {l m : List α} (h : R a b) (t : All2 R l m) : All2 R (a :: l) (b :: m)
theorem All2.len {α : Type} {R : α → α → Prop} : ∀ {l m : List α}, All2 R l m → l.length = m.length
  | _, _, .nil => rfl
  | _, _, .cons _ t => by rw [List.length_cons, List.length_cons, t.len]
theorem All2.rev {α : Type} {R : α → α → Prop} {l m : List α} (h : All2 R l m) : All2 R l.reverse m.reverse := by
  have app : ∀ {a b c d : List α}, All2 R a b → All2 R c d → All2 R (a ++ c) (b ++ d) := by
    intro a b c d h1 h2
    induction h1 with
    | nil => exact h2
    | cons r _ ih => exact .cons r ih
  induction h with
  | nil => exact .nil
  | cons r t ih =>
    rw [List.reverse_cons, List.reverse_cons]
    exact app ih (.cons r .nil)
theorem All2.map2 {α β : Type} {R : α → α → Prop} {f g : β → α} : ∀ {l : List β}, (∀ x ∈ l, R (f x) (g x)) → All2 R (l.map f) (l.map g)
  | [], _ => .nil
  | x :: l, h => .cons (h x (List.mem_cons_self ..)) (All2.map2 fun y hy => h y (List.mem_cons_of_mem _ hy))
/-- places renamed, distances kept -/
structure Ren (n : Nat) (s : Nat → Nat) : Prop where
  le : ∀ p, p ≤ n → s p ≤ n
  inv : ∀ p, p ≤ n → s (s p) = p
  ds : ∀ p q, p ≤ n → q ≤ n → ab (((s p : Nat) : Int) - (s q : Nat)) = ab ((p : Int) - q)
theorem ren_id (n : Nat) : Ren n id := ⟨fun _ h => h, fun _ _ => rfl, fun _ _ _ _ => rfl⟩
theorem ren_mir (n : Nat) : Ren n (fun p => n - p) := ⟨fun p h => by show n - p ≤ n; omega, fun p h => by show n - (n - p) = p; omega, fun p q h1 h2 => by
  show ab (((n - p : Nat) : Int) - ((n - q : Nat) : Int)) = _
  unfold ab
  split <;> split <;> omega⟩
def Rn (n : Nat) (s : Nat → Nat) (o o' : Nat → Int) : Prop := ∀ p, p ≤ n → o' p = o (s p)
theorem mn_ren {n : Nat} {s : Nat → Nat} (R : Ren n s) {g h : Nat → Int} (e : ∀ p, p ≤ n → h p = g (s p)) : mn h n = mn g n := by
  obtain ⟨j, h1, h2⟩ := mn_get g n
  refine mn_eq ⟨s j, R.le j h1, ?_⟩ fun i hi => ?_
  · rw [e _ (R.le j h1), R.inv j h1, h2]
  · rw [e i hi]
    exact mn_le g (R.le i hi)
theorem S_ren {b : Int} {n : Nat} {s : Nat → Nat} (R : Ren n s) : ∀ {os os' : List (Nat → Int)}, All2 (Rn n s) os os' → ∀ k, k ≤ n → S b n os' k = S b n os (s k)
  | _, _, .nil, _, _ => rfl
  | _, _, .cons h .nil, k, hk => h k hk
  | _, _, @All2.cons _ _ o u _ _ h (@All2.cons _ _ o' u' L M h' t), k, hk => by
    have ih := S_ren (b := b) R (All2.cons h' t)
    show mn (fun j => S b n (u' :: M) j + b * ab ((j : Int) - k)) n + u k = mn (fun j => S b n (o' :: L) j + b * ab ((j : Int) - (s k : Nat))) n + o (s k)
    rw [h k hk]
    congr 1
    refine mn_ren R fun p hp => ?_
    show S b n (u' :: M) p + b * ab ((p : Int) - k) = S b n (o' :: L) (s p) + b * ab (((s p : Nat) : Int) - (s k : Nat))
    rw [ih p hp, R.ds p k hp hk]
theorem cost_ren {b : Int} {n : Nat} {s : Nat → Nat} (R : Ren n s) : ∀ {os os' : List (Nat → Int)}, All2 (Rn n s) os os' → ∀ ps : List Nat, (∀ p ∈ ps, p ≤ n) → cost b os' (ps.map s) = cost b os ps
  | _, _, .nil, _, _ => rfl
  | _, _, .cons _ .nil, [], _ => rfl
  | _, _, .cons h .nil, p :: ps, hp => by
    show _ = _
    have hp0 := hp p (List.mem_cons_self ..)
    have := h (s p) (R.le p hp0)
    rw [R.inv p hp0] at this
    exact this
  | _, _, .cons _ (.cons _ _), [], _ => rfl
  | _, _, .cons h (.cons _ _), [p], hp => by
    have hp0 := hp p (List.mem_cons_self ..)
    have := h (s p) (R.le p hp0)
    rw [R.inv p hp0] at this
    exact this
  | _, _, @All2.cons _ _ o u _ _ h (@All2.cons _ _ o' u' L M h' t), p :: q :: ps, hp => by
    have hp0 := hp p (List.mem_cons_self ..)
    have hq0 := hp q (List.mem_cons_of_mem _ (List.mem_cons_self ..))
    have ih := cost_ren (b := b) R (All2.cons h' t) (q :: ps) fun x hx => hp x (List.mem_cons_of_mem _ hx)
    have e := h (s p) (R.le p hp0)
    rw [R.inv p hp0] at e
    show u (s p) + b * ab (((s q : Nat) : Int) - (s p : Nat)) + cost b (u' :: M) ((q :: ps).map s) = o p + b * ab ((q : Int) - p) + cost b (o' :: L) (q :: ps)
    rw [e, ih, R.ds q p hq0 hp0]
theorem Path.ren {n m : Nat} {s : Nat → Nat} (R : Ren n s) {ps : List Nat} (h : Path n m ps) : Path n m (ps.map s) := ⟨by rw [List.length_map]; exact h.1, fun p hp => by
  obtain ⟨q, h1, rfl⟩ := List.mem_map.mp hp
  exact R.le q (h.2 q h1)⟩
theorem map_inv {n : Nat} {s : Nat → Nat} (R : Ren n s) : ∀ {ps : List Nat}, (∀ p ∈ ps, p ≤ n) → (ps.map s).map s = ps
  | [], _ => rfl
  | p :: ps, h => by
    rw [List.map_cons, List.map_cons, R.inv p (h p (List.mem_cons_self ..)), map_inv R fun q hq => h q (List.mem_cons_of_mem _ hq)]
theorem IsL.ren {b : Int} {n : Nat} {s : Nat → Nat} (R : Ren n s) {os os' : List (Nat → Int)} (h : All2 (Rn n s) os os') {v : Int} (l : IsL b n os v) : IsL b n os' v := by
  obtain ⟨⟨ps, h1, h2⟩, h3⟩ := l
  refine ⟨⟨ps.map s, by rw [← h.len]; exact h1.ren R, by rw [cost_ren R h ps h1.2, h2]⟩, fun qs hq => ?_⟩
  rw [← h.len] at hq
  have := h3 (qs.map s) (hq.ren R)
  have e := cost_ren (b := b) R h (qs.map s) (hq.ren R).2
  rw [map_inv R hq.2] at e
  rw [e]
  exact this
/-! piles, parts -/
theorem cost_app (b : Int) : ∀ (L : List (Nat → Int)) (l : List Nat) (o : Nat → Int) (p : Nat) (o' : Nat → Int) (L' : List (Nat → Int)) (p' : Nat) (l' : List Nat), L.length = l.length →
    cost b (L ++ o :: o' :: L') (l ++ p :: p' :: l') = cost b (L ++ [o]) (l ++ [p]) + b * ab ((p' : Int) - p) + cost b (o' :: L') (p' :: l')
  | [], [], o, p, o', L', p', l', _ => rfl
  | [], _ :: _, _, _, _, _, _, _, h => by simp at h
  | _ :: _, [], _, _, _, _, _, _, h => by simp at h
  | [x], [q], o, p, o', L', p', l', _ => by
    show x q + b * ab ((p : Int) - q) + (o p + b * ab ((p' : Int) - p) + cost b (o' :: L') (p' :: l')) = x q + b * ab ((p : Int) - q) + o p + b * ab ((p' : Int) - p) + cost b (o' :: L') (p' :: l')
    omega
  | [_], _ :: _ :: _, _, _, _, _, _, _, h => by simp at h
  | _ :: _ :: _, [_], _, _, _, _, _, _, h => by simp at h
  | x :: y :: L, q :: r :: l, o, p, o', L', p', l', h => by
    have ih := cost_app b (y :: L) (r :: l) o p o' L' p' l' (by simpa using h)
    show x q + b * ab ((r : Int) - q) + cost b (y :: L ++ o :: o' :: L') (r :: l ++ p :: p' :: l') = x q + b * ab ((r : Int) - q) + cost b (y :: L ++ [o]) (r :: l ++ [p]) + b * ab ((p' : Int) - p) + cost b (o' :: L') (p' :: l')
    rw [ih]
    omega
/-- costs are not below zero -/
def Nn (n : Nat) (os : List (Nat → Int)) : Prop := ∀ o ∈ os, ∀ p, p ≤ n → 0 ≤ o p
theorem cost_nn {b : Int} {n : Nat} (hb : 0 ≤ b) : ∀ {os : List (Nat → Int)} {ps : List Nat}, Nn n os → (∀ p ∈ ps, p ≤ n) → 0 ≤ cost b os ps
  | [], _, _, _ => Int.le_refl _
  | [_], [], _, _ => Int.le_refl _
  | _ :: _ :: _, [], _, _ => Int.le_refl _
  | [o], p :: ps, h, hp => h o (List.mem_cons_self ..) p (hp p (List.mem_cons_self ..))
  | o :: _ :: _, [p], h, hp => h o (List.mem_cons_self ..) p (hp p (List.mem_cons_self ..))
  | o :: o' :: L, p :: q :: ps, h, hp => by
    have a := h o (List.mem_cons_self ..) p (hp p (List.mem_cons_self ..))
    have ih := cost_nn hb (os := o' :: L) (ps := q :: ps) (fun x hx => h x (List.mem_cons_of_mem _ hx)) fun x hx => hp x (List.mem_cons_of_mem _ hx)
    have m := Int.mul_nonneg hb (ab_nn ((q : Int) - p))
    show 0 ≤ o p + b * ab ((q : Int) - p) + cost b (o' :: L) (q :: ps)
    omega
/-- a split path -/
theorem cost_split (b : Int) {A B : List (Nat → Int)} {as bs : List Nat} (h1 : A.length = as.length) (h2 : B.length = bs.length) (hA : A ≠ []) (hB : B ≠ []) :
    ∃ p q, as.getLast? = some p ∧ bs.head? = some q ∧ cost b (A ++ B) (as ++ bs) = cost b A as + b * ab ((q : Int) - p) + cost b B bs := by
  obtain ⟨L, o, rfl⟩ : ∃ L o, A = L ++ [o] := ⟨A.dropLast, A.getLast hA, (List.dropLast_concat_getLast hA).symm⟩
  have ha : as ≠ [] := fun z => by
    rw [z] at h1
    simp at h1
  obtain ⟨l, p, rfl⟩ : ∃ l p, as = l ++ [p] := ⟨as.dropLast, as.getLast ha, (List.dropLast_concat_getLast ha).symm⟩
  cases B with
  | nil => exact absurd rfl hB
  | cons o' L' =>
    cases bs with
    | nil => simp at h2
    | cons p' l' =>
      refine ⟨p, p', by simp, rfl, ?_⟩
      have := cost_app b L l o p o' L' p' l' (by simpa using h1)
      simpa using this
theorem part_le {b : Int} {n : Nat} (hb : 0 ≤ b) {A B C : List (Nat → Int)} {v w : Int} (hn : Nn n (A ++ B ++ C)) (hB : B ≠ []) (hv : IsL b n B v) (hw : IsL b n (A ++ B ++ C) w) : v ≤ w := by
  obtain ⟨⟨ps, h1, h2⟩, _⟩ := hw
  obtain ⟨_, h3⟩ := hv
  have hl := h1.1
  rw [List.length_append, List.length_append] at hl
  -- the path in three
  have e : ps = (ps.take A.length ++ (ps.drop A.length).take B.length) ++ (ps.drop A.length).drop B.length := by
    rw [List.append_assoc, List.take_append_drop, List.take_append_drop]
  generalize ha : ps.take A.length = as at e
  generalize hbs : (ps.drop A.length).take B.length = bs at e
  generalize hcs : (ps.drop A.length).drop B.length = cs at e
  have la : A.length = as.length := by rw [← ha, List.length_take]; omega
  have lb : B.length = bs.length := by rw [← hbs, List.length_take, List.length_drop]; omega
  have lc : C.length = cs.length := by rw [← hcs, List.length_drop, List.length_drop]; omega
  have inb : ∀ p ∈ bs, p ≤ n := fun p hp => h1.2 p (by rw [e]; simp [hp])
  have ina : ∀ p ∈ as, p ≤ n := fun p hp => h1.2 p (by rw [e]; simp [hp])
  have inc : ∀ p ∈ cs, p ≤ n := fun p hp => h1.2 p (by rw [e]; simp [hp])
  have vb := h3 bs ⟨lb.symm, inb⟩
  have nA : Nn n A := fun o ho => hn o (by simp [ho])
  have nB : Nn n B := fun o ho => hn o (by simp [ho])
  have nC : Nn n C := fun o ho => hn o (by simp [ho])
  have c1 : cost b B bs ≤ cost b (A ++ B) (as ++ bs) := by
    by_cases hA : A = []
    · subst hA
      have : as = [] := List.length_eq_zero_iff.mp la.symm
      subst this
      exact Int.le_refl _
    · obtain ⟨p, q, _, _, e1⟩ := cost_split b la lb hA hB
      have z1 := cost_nn hb nA ina
      have z2 := Int.mul_nonneg hb (ab_nn ((q : Int) - p))
      omega
  have c2 : cost b (A ++ B) (as ++ bs) ≤ cost b (A ++ B ++ C) (as ++ bs ++ cs) := by
    by_cases hC : C = []
    · subst hC
      have : cs = [] := List.length_eq_zero_iff.mp lc.symm
      subst this
      simp
    · obtain ⟨p, q, _, _, e1⟩ := cost_split (A := A ++ B) (B := C) (as := as ++ bs) (bs := cs) b (by simp [la, lb]) lc (by simp [hB]) hC
      have z1 := cost_nn hb nC inc
      have z2 := Int.mul_nonneg hb (ab_nn ((q : Int) - p))
      omega
  rw [← e] at c2
  omega
/-- a pile: not below the two, not above them by more than one step through the whole wall -/
theorem pile_ge {b : Int} {n : Nat} (hb : 0 ≤ b) {A B : List (Nat → Int)} {v w x : Int} (hA : A ≠ []) (hB : B ≠ []) (hv : IsL b n A v) (hw : IsL b n B w) (hx : IsL b n (A ++ B) x) : v + w ≤ x ∧ x ≤ v + w + b * n := by
  constructor
  · obtain ⟨⟨ps, h1, h2⟩, _⟩ := hx
    have hl := h1.1
    rw [List.length_append] at hl
    have e : ps = ps.take A.length ++ ps.drop A.length := (List.take_append_drop _ _).symm
    have la : A.length = (ps.take A.length).length := by rw [List.length_take]; omega
    have lb : B.length = (ps.drop A.length).length := by rw [List.length_drop]; omega
    have a1 := hv.2 (ps.take A.length) ⟨la.symm, fun p hp => h1.2 p (List.mem_of_mem_take hp)⟩
    have a2 := hw.2 (ps.drop A.length) ⟨lb.symm, fun p hp => h1.2 p (List.mem_of_mem_drop hp)⟩
    obtain ⟨p, q, _, _, e1⟩ := cost_split b la lb hA hB
    rw [← e] at e1
    have z2 := Int.mul_nonneg hb (ab_nn ((q : Int) - p))
    omega
  · obtain ⟨⟨ps, h1, h2⟩, _⟩ := hv
    obtain ⟨⟨qs, g1, g2⟩, _⟩ := hw
    have a := hx.2 (ps ++ qs) ⟨by rw [List.length_append, List.length_append, h1.1, g1.1], fun p hp => (List.mem_append.mp hp).elim (h1.2 p) (g1.2 p)⟩
    obtain ⟨p, q, k1, k2, e1⟩ := cost_split b h1.1.symm g1.1.symm hA hB
    have hp : p ≤ n := h1.2 p (List.mem_of_getLast? k1)
    have hq : q ≤ n := g1.2 q (List.mem_of_head? k2)
    have z : b * ab ((q : Int) - p) ≤ b * (n : Int) := mul_ab_le hb (by unfold ab; split <;> omega)
    omega
/-! factors, lower prices -/
def Sc (n : Nat) (f : Int) (o o' : Nat → Int) : Prop := ∀ p, p ≤ n → o' p = f * o p
theorem cost_sc {b : Int} {n : Nat} {f : Int} : ∀ {os os' : List (Nat → Int)}, All2 (Sc n f) os os' → ∀ ps : List Nat, (∀ p ∈ ps, p ≤ n) → cost (f * b) os' ps = f * cost b os ps
  | _, _, .nil, _, _ => (Int.mul_zero _).symm
  | _, _, .cons _ .nil, [], _ => (Int.mul_zero _).symm
  | _, _, .cons h .nil, p :: ps, hp => h p (hp p (List.mem_cons_self ..))
  | _, _, .cons _ (.cons _ _), [], _ => (Int.mul_zero _).symm
  | _, _, .cons h (.cons _ _), [p], hp => h p (hp p (List.mem_cons_self ..))
  | _, _, @All2.cons _ _ o u _ _ h (@All2.cons _ _ o' u' L M h' t), p :: q :: ps, hp => by
    have ih := cost_sc (b := b) (All2.cons h' t) (q :: ps) fun x hx => hp x (List.mem_cons_of_mem _ hx)
    show u p + f * b * ab ((q : Int) - p) + cost (f * b) (u' :: M) (q :: ps) = f * (o p + b * ab ((q : Int) - p) + cost b (o' :: L) (q :: ps))
    rw [ih, h p (hp p (List.mem_cons_self ..)), Int.mul_add, Int.mul_add, Int.mul_assoc]
theorem IsL.sc {b : Int} {n : Nat} {f : Int} (hf : 0 ≤ f) {os os' : List (Nat → Int)} (h : All2 (Sc n f) os os') {v : Int} (l : IsL b n os v) : IsL (f * b) n os' (f * v) := by
  obtain ⟨⟨ps, h1, h2⟩, h3⟩ := l
  refine ⟨⟨ps, by rw [← h.len]; exact h1, by rw [cost_sc h ps h1.2, h2]⟩, fun qs hq => ?_⟩
  rw [← h.len] at hq
  rw [cost_sc h qs hq.2]
  exact mul_ab_le hf (h3 qs hq)
def Lw (n : Nat) (o o' : Nat → Int) : Prop := ∀ p, p ≤ n → o' p ≤ o p
theorem cost_lw {b b' : Int} {n : Nat} (hb : b' ≤ b) : ∀ {os os' : List (Nat → Int)}, All2 (Lw n) os os' → ∀ ps : List Nat, (∀ p ∈ ps, p ≤ n) → cost b' os' ps ≤ cost b os ps
  | _, _, .nil, _, _ => Int.le_refl _
  | _, _, .cons _ .nil, [], _ => Int.le_refl _
  | _, _, .cons h .nil, p :: ps, hp => h p (hp p (List.mem_cons_self ..))
  | _, _, .cons _ (.cons _ _), [], _ => Int.le_refl _
  | _, _, .cons h (.cons _ _), [p], hp => h p (hp p (List.mem_cons_self ..))
  | _, _, @All2.cons _ _ o u _ _ h (@All2.cons _ _ o' u' L M h' t), p :: q :: ps, hp => by
    have ih := cost_lw hb (All2.cons h' t) (q :: ps) fun x hx => hp x (List.mem_cons_of_mem _ hx)
    have a := h p (hp p (List.mem_cons_self ..))
    have z : b' * ab ((q : Int) - p) ≤ b * ab ((q : Int) - p) := Int.mul_le_mul_of_nonneg_right hb (ab_nn _)
    show u p + b' * ab ((q : Int) - p) + cost b' (u' :: M) (q :: ps) ≤ o p + b * ab ((q : Int) - p) + cost b (o' :: L) (q :: ps)
    omega
theorem IsL.lw {b b' : Int} {n : Nat} (hb : b' ≤ b) {os os' : List (Nat → Int)} (h : All2 (Lw n) os os') {v w : Int} (l : IsL b n os v) (l' : IsL b' n os' w) : w ≤ v := by
  obtain ⟨⟨ps, h1, h2⟩, _⟩ := l
  have := l'.2 ps (by rw [← h.len]; exact h1)
  have := cost_lw hb h ps h1.2
  omega
end CM
namespace CM
/-! a finer stock: sums over the offsets -/
def sm (f : Nat → Int) : Nat → Int
  | 0 => 0
  | s + 1 => sm f s + f s
theorem sm_congr {f g : Nat → Int} : ∀ {s : Nat}, (∀ r, r < s → f r = g r) → sm f s = sm g s
  | 0, _ => rfl
  | s + 1, h => by
    show sm f s + f s = sm g s + g s
    rw [sm_congr fun r hr => h r (by omega), h s (by omega)]
theorem sm_add (f g : Nat → Int) : ∀ s, sm (fun r => f r + g r) s = sm f s + sm g s
  | 0 => rfl
  | s + 1 => by
    show sm (fun r => f r + g r) s + (f s + g s) = sm f s + f s + (sm g s + g s)
    rw [sm_add f g s]
    omega
theorem sm_mul (b : Int) (f : Nat → Int) : ∀ s, sm (fun r => b * f r) s = b * sm f s
  | 0 => (Int.mul_zero _).symm
  | s + 1 => by
    show sm (fun r => b * f r) s + b * f s = b * (sm f s + f s)
    rw [sm_mul b f s, Int.mul_add]
theorem sm_const (v : Int) : ∀ s : Nat, sm (fun _ => v) s = s * v
  | 0 => (Int.zero_mul _).symm
  | s + 1 => by
    show sm (fun _ => v) s + v = ((s + 1 : Nat) : Int) * v
    rw [sm_const v s]
    have : ((s + 1 : Nat) : Int) = (s : Int) + 1 := by omega
    rw [this, Int.add_mul, Int.one_mul]
theorem sm_mono {f g : Nat → Int} : ∀ {s : Nat}, (∀ r, r < s → f r ≤ g r) → sm f s ≤ sm g s
  | 0, _ => Int.le_refl _
  | s + 1, h => by
    have a := sm_mono (f := f) (g := g) (s := s) fun r hr => h r (by omega)
    have c := h s (by omega)
    show sm f s + f s ≤ sm g s + g s
    omega
theorem sm_shift (f : Nat → Int) : ∀ s, sm (fun r => f (r + 1)) s + f 0 = sm f s + f s
  | 0 => by show 0 + f 0 = 0 + f 0; rfl
  | s + 1 => by
    have := sm_shift f s
    show sm (fun r => f (r + 1)) s + f (s + 1) + f 0 = sm f s + f s + f (s + 1)
    omega
/-- the parts (x + r) / s make x together -/
theorem sm_div {s : Nat} (hs : 0 < s) : ∀ x : Nat, sm (fun r => (((x + r) / s : Nat) : Int)) s = x
  | 0 => by
    have : sm (fun r => (((0 + r) / s : Nat) : Int)) s = sm (fun _ => 0) s := sm_congr fun r hr => by
      have : (0 + r) / s = 0 := by rw [Nat.zero_add]; exact Nat.div_eq_of_lt hr
      rw [this]
      rfl
    rw [this, sm_const]
    simp
  | x + 1 => by
    have ih := sm_div hs x
    have a := sm_shift (fun r => (((x + r) / s : Nat) : Int)) s
    have e : sm (fun r => (((x + 1 + r) / s : Nat) : Int)) s = sm (fun r => (((x + (r + 1)) / s : Nat) : Int)) s := sm_congr fun r _ => by
      have : x + 1 + r = x + (r + 1) := by omega
      rw [this]
    have d : (x + s) / s = x / s + 1 := Nat.add_div_right x hs
    simp only [Nat.add_zero] at a
    rw [d, ih] at a
    rw [e]
    have : ((x / s + 1 : Nat) : Int) = ((x / s : Nat) : Int) + 1 := by omega
    omega
/-- the place that the fine place p means with the offset r: places are counted from 0, n + 2 is the length -/
def cl (n x : Nat) : Nat := min n (x - 1)
def gp (s n r p : Nat) : Nat := cl n ((p + 1 + r) / s)
theorem gp_le (s n r p : Nat) : gp s n r p ≤ n := Nat.min_le_left _ _
theorem gp_dist {s n : Nat} (hs : 0 < s) (p q : Nat) : sm (fun r => ab (((gp s n r p : Nat) : Int) - (gp s n r q : Nat))) s ≤ ab ((p : Int) - q) := by
  have key : ∀ p q : Nat, q ≤ p → sm (fun r => ab (((gp s n r p : Nat) : Int) - (gp s n r q : Nat))) s ≤ (p : Int) - q := by
    intro p q h
    have a : sm (fun r => ab (((gp s n r p : Nat) : Int) - (gp s n r q : Nat))) s ≤ sm (fun r => (((p + 1 + r) / s : Nat) : Int) + (-1) * (((q + 1 + r) / s : Nat) : Int)) s := by
      refine sm_mono fun r _ => ?_
      have m : (q + 1 + r) / s ≤ (p + 1 + r) / s := Nat.div_le_div_right (by omega)
      unfold gp cl
      generalize (q + 1 + r) / s = y at m ⊢
      generalize (p + 1 + r) / s = z at m ⊢
      unfold ab
      split <;> omega
    rw [sm_add, sm_mul, sm_div hs, sm_div hs] at a
    omega
  by_cases h : q ≤ p
  · have e : ab ((p : Int) - q) = (p : Int) - q := by unfold ab; split <;> omega
    rw [e]
    exact key p q h
  · have e : ab ((p : Int) - q) = (q : Int) - p := by unfold ab; split <;> omega
    rw [e]
    have := key q p (by omega)
    have e2 : sm (fun r => ab (((gp s n r p : Nat) : Int) - (gp s n r q : Nat))) s = sm (fun r => ab (((gp s n r q : Nat) : Int) - (gp s n r p : Nat))) s := sm_congr fun r _ => ab_sub _ _
    rw [e2]
    exact this
/-- o the coarse course, u the fine one, m the last fine place -/
structure Fi (s n m : Nat) (o u : Nat → Int) : Prop where
  up : ∀ p, p ≤ n → u (s * (p + 1) - 1) = s * o p
  lo : ∀ p, p ≤ m → sm (fun r => o (gp s n r p)) s ≤ u p
theorem cost_fi {b : Int} {s n m : Nat} (hb : 0 ≤ b) (hs : 0 < s) : ∀ {os us : List (Nat → Int)}, All2 (Fi s n m) os us → ∀ ps : List Nat, (∀ p ∈ ps, p ≤ m) → sm (fun r => cost b os (ps.map (gp s n r))) s ≤ cost b us ps
  | _, _, .nil, _, _ => by
    show sm (fun _ => 0) s ≤ 0
    rw [sm_const]
    simp
  | _, _, .cons _ .nil, [], _ => by
    show sm (fun _ => 0) s ≤ 0
    rw [sm_const]
    simp
  | _, _, .cons h .nil, p :: ps, hp => h.lo p (hp p (List.mem_cons_self ..))
  | _, _, .cons _ (.cons _ _), [], _ => by
    show sm (fun _ => 0) s ≤ 0
    rw [sm_const]
    simp
  | _, _, .cons h (.cons _ _), [p], hp => h.lo p (hp p (List.mem_cons_self ..))
  | _, _, @All2.cons _ _ o u _ _ h (@All2.cons _ _ o' u' L M h' t), p :: q :: ps, hp => by
    have ih := cost_fi hb hs (All2.cons h' t) (q :: ps) fun x hx => hp x (List.mem_cons_of_mem _ hx)
    have a := h.lo p (hp p (List.mem_cons_self ..))
    have d := gp_dist (n := n) hs q p
    have d2 := mul_ab_le hb d
    show sm (fun r => o (gp s n r p) + b * ab (((gp s n r q : Nat) : Int) - (gp s n r p : Nat)) + cost b (o' :: L) ((q :: ps).map (gp s n r))) s ≤ u p + b * ab ((q : Int) - p) + cost b (u' :: M) (q :: ps)
    rw [sm_add, sm_add, sm_mul]
    omega
theorem cost_up {b : Int} {s n m : Nat} (hs : 0 < s) : ∀ {os us : List (Nat → Int)}, All2 (Fi s n m) os us → ∀ ps : List Nat, (∀ p ∈ ps, p ≤ n) → cost b us (ps.map fun p => s * (p + 1) - 1) = s * cost b os ps
  | _, _, .nil, _, _ => (Int.mul_zero _).symm
  | _, _, .cons _ .nil, [], _ => (Int.mul_zero _).symm
  | _, _, .cons h .nil, p :: ps, hp => h.up p (hp p (List.mem_cons_self ..))
  | _, _, .cons _ (.cons _ _), [], _ => (Int.mul_zero _).symm
  | _, _, .cons h (.cons _ _), [p], hp => h.up p (hp p (List.mem_cons_self ..))
  | _, _, @All2.cons _ _ o u _ _ h (@All2.cons _ _ o' u' L M h' t), p :: q :: ps, hp => by
    have ih := cost_up (b := b) hs (All2.cons h' t) (q :: ps) fun x hx => hp x (List.mem_cons_of_mem _ hx)
    have a := h.up p (hp p (List.mem_cons_self ..))
    have e : ab (((s * (q + 1) - 1 : Nat) : Int) - ((s * (p + 1) - 1 : Nat) : Int)) = s * ab ((q : Int) - p) := by
      have k : ∀ x : Nat, ((s * (x + 1) - 1 : Nat) : Int) = (s : Int) * ((x : Int) + 1) - 1 := fun x => by
        have h1 : 1 ≤ s * (x + 1) := Nat.mul_pos hs (by omega)
        have h2 : ((s * (x + 1) : Nat) : Int) = (s : Int) * ((x : Int) + 1) := by
          rw [Int.natCast_mul]
          rfl
        omega
      rw [k, k]
      have e2 : (s : Int) * ((q : Int) + 1) - 1 - ((s : Int) * ((p : Int) + 1) - 1) = (s : Int) * ((q : Int) - p) := by
        rw [Int.mul_sub, Int.mul_add, Int.mul_add]
        omega
      rw [e2]
      by_cases c : (q : Int) - p < 0
      · have z : (s : Int) * ((q : Int) - p) < 0 := Int.mul_neg_of_pos_of_neg (by omega) c
        unfold ab
        rw [if_pos c, if_pos z, Int.mul_neg]
      · have z : 0 ≤ (s : Int) * ((q : Int) - p) := Int.mul_nonneg (by omega) (by omega)
        unfold ab
        rw [if_neg c, if_neg (by omega)]
    show u (s * (p + 1) - 1) + b * ab (((s * (q + 1) - 1 : Nat) : Int) - ((s * (p + 1) - 1 : Nat) : Int)) + cost b (u' :: M) ((q :: ps).map fun p => s * (p + 1) - 1) = s * (o p + b * ab ((q : Int) - p) + cost b (o' :: L) (q :: ps))
    rw [a, e, ih, Int.mul_add, Int.mul_add]
    have : b * ((s : Int) * ab ((q : Int) - p)) = s * (b * ab ((q : Int) - p)) := by
      rw [← Int.mul_assoc, Int.mul_comm b s, Int.mul_assoc]
    rw [this]
theorem IsL.fi {b : Int} {s n m : Nat} (hb : 0 ≤ b) (hs : 0 < s) (hm : m + 2 = s * (n + 2)) {os us : List (Nat → Int)} (h : All2 (Fi s n m) os us) {v : Int} (l : IsL b n os v) : IsL b m us (s * v) := by
  obtain ⟨⟨ps, h1, h2⟩, h3⟩ := l
  constructor
  · refine ⟨ps.map fun p => s * (p + 1) - 1, ⟨by rw [List.length_map, h1.1, h.len], fun p hp => ?_⟩, by rw [cost_up hs h ps h1.2, h2]⟩
    obtain ⟨q, hq, rfl⟩ := List.mem_map.mp hp
    have hq := h1.2 q hq
    have e1 : s * (q + 1) ≤ s * (n + 1) := Nat.mul_le_mul_left s (by omega)
    have e2 : s * (n + 2) = s * (n + 1) + s := by rw [show n + 2 = n + 1 + 1 from rfl, Nat.mul_add, Nat.mul_one]
    omega
  · intro qs hq
    have a := cost_fi hb hs h qs hq.2
    have c : sm (fun _ => v) s ≤ sm (fun r => cost b os (qs.map (gp s n r))) s := sm_mono fun r _ => h3 _ ⟨by rw [List.length_map, hq.1, h.len], fun p hp => by
      obtain ⟨q, _, rfl⟩ := List.mem_map.mp hp
      exact gp_le ..⟩
    rw [sm_const] at c
    omega
/-- a course by its joints: J among 1 to n + 1 -/
theorem fi_mk {s n m : Nat} {br : Int} (hbr : 0 ≤ br) (hs : 0 < s) (hm : m + 2 = s * (n + 2)) {J J' : Nat → Bool} (hJ : ∀ j, J j = true → 1 ≤ j ∧ j ≤ n + 1) (h1 : ∀ j, J' (s * j) = J j) (h2 : ∀ x, J' x = true → ∃ j, x = s * j) :
    Fi s n m (fun k => if J (k + 1) then 0 else br) (fun k => if J' (k + 1) then 0 else br * s) where
  up := fun p _ => by
    have e : s * (p + 1) - 1 + 1 = s * (p + 1) := by
      have : 1 ≤ s * (p + 1) := Nat.mul_pos hs (by omega)
      omega
    show (if J' (s * (p + 1) - 1 + 1) then 0 else br * s) = (s : Int) * (if J (p + 1) then 0 else br)
    rw [e, h1]
    split
    · simp
    · rw [Int.mul_comm]
  lo := fun p hp => by
    by_cases c : J' (p + 1) = true
    · obtain ⟨j, hj⟩ := h2 _ c
      have cj : J j = true := by rw [← h1, ← hj]; exact c
      obtain ⟨j1, j2⟩ := hJ j cj
      show _ ≤ (if J' (p + 1) then 0 else br * s)
      rw [if_pos c]
      have : sm (fun r => if J (gp s n r p + 1) then 0 else br) s = sm (fun _ => 0) s := sm_congr fun r hr => by
        have e : gp s n r p + 1 = j := by
          unfold gp cl
          rw [hj]
          have : (s * j + r) / s = j := by
            rw [Nat.mul_add_div hs, Nat.div_eq_of_lt hr]
            omega
          rw [this]
          omega
        rw [e, if_pos cj]
      rw [this, sm_const]
      simp
    · show _ ≤ (if J' (p + 1) then 0 else br * s)
      rw [if_neg c]
      have : sm (fun r => if J (gp s n r p + 1) then 0 else br) s ≤ sm (fun _ => br) s := sm_mono fun r _ => by
        split <;> omega
      rw [sm_const, Int.mul_comm] at this
      exact this
end CM
namespace CM
/-! how many least cracks -/
def sp (n : Nat) : Nat → (List Nat → Int) → Int
  | 0, g => g []
  | m + 1, g => sm (fun k => sp n m fun l => g (k :: l)) (n + 1)
theorem sp_congr {n : Nat} : ∀ {m : Nat} {g h : List Nat → Int}, (∀ l, Path n m l → g l = h l) → sp n m g = sp n m h
  | 0, _, _, e => e [] ⟨rfl, fun _ h => by simp at h⟩
  | m + 1, g, h, e => sm_congr fun k hk => sp_congr fun l hl => e (k :: l) ⟨by rw [List.length_cons, hl.1], fun p hp => by
    rcases List.mem_cons.mp hp with z | z
    · omega
    · exact hl.2 p z⟩
theorem sp_zero {n : Nat} : ∀ m : Nat, sp n m (fun _ => 0) = 0
  | 0 => rfl
  | m + 1 => by
    show sm (fun k => sp n m fun l => 0) (n + 1) = 0
    rw [sm_congr (g := fun _ => 0) fun k _ => sp_zero m, sm_const]
    simp
theorem sm_swap (f : Nat → Nat → Int) (s : Nat) : ∀ t : Nat, sm (fun i => sm (fun j => f i j) t) s = sm (fun j => sm (fun i => f i j) s) t
  | 0 => by
    show sm (fun _ => 0) s = 0
    rw [sm_const]
    simp
  | t + 1 => by
    show sm (fun i => sm (fun j => f i j) t + f i t) s = sm (fun j => sm (fun i => f i j) s) t + sm (fun i => f i t) s
    rw [sm_add, sm_swap f s t]
theorem sp_snoc {n : Nat} : ∀ (m : Nat) (g : List Nat → Int), sp n (m + 1) g = sm (fun k => sp n m fun l => g (l ++ [k])) (n + 1)
  | 0, _ => rfl
  | m + 1, g => by
    have swap : ∀ (m : Nat) (h : Nat → List Nat → Int), sm (fun k => sp n m (h k)) (n + 1) = sp n m (fun l => sm (fun k => h k l) (n + 1)) := by
      intro m
      induction m with
      | zero => intro h; rfl
      | succ m ih =>
        intro h
        show sm (fun k => sm (fun i => sp n m fun l => h k (i :: l)) (n + 1)) (n + 1) = sm (fun i => sp n m fun l => sm (fun k => h k (i :: l)) (n + 1)) (n + 1)
        rw [sm_swap]
        exact sm_congr fun i _ => ih fun k l => h k (i :: l)
    show sm (fun i => sp n (m + 1) fun l => g (i :: l)) (n + 1) = sm (fun k => sm (fun i => sp n m fun l => g ((i :: l) ++ [k])) (n + 1)) (n + 1)
    rw [sm_congr fun i _ => sp_snoc m fun l => g (i :: l), sm_swap]
    rfl
theorem sp_rev {n : Nat} : ∀ (m : Nat) (g : List Nat → Int), sp n m (fun l => g l.reverse) = sp n m g
  | 0, _ => rfl
  | m + 1, g => by
    rw [sp_snoc m g]
    show sm (fun k => sp n m fun l => g (k :: l).reverse) (n + 1) = _
    refine sm_congr fun k _ => ?_
    have := sp_rev (n := n) m fun l => g (l ++ [k])
    rw [← this]
    refine sp_congr fun l _ => ?_
    rw [List.reverse_cons]
theorem sm_head (f : Nat → Int) (s : Nat) : sm f (s + 1) = f 0 + sm (fun k => f (k + 1)) s := by
  have := sm_shift f s
  show sm f s + f s = _
  omega
theorem sm_mir : ∀ (n : Nat) (f : Nat → Int), sm (fun k => f (n - k)) (n + 1) = sm f (n + 1)
  | 0, _ => rfl
  | n + 1, f => by
    show sm (fun k => f (n + 1 - k)) (n + 1) + f (n + 1 - (n + 1)) = _
    have ih := sm_mir n fun k => f (k + 1)
    rw [sm_head f (n + 1), ← ih]
    have e : sm (fun k => f (n + 1 - k)) (n + 1) = sm (fun k => f (n - k + 1)) (n + 1) := sm_congr fun k hk => by
      have : n + 1 - k = n - k + 1 := by omega
      rw [this]
    rw [e]
    have : n + 1 - (n + 1) = 0 := by omega
    rw [this]
    omega
theorem sp_mir {n : Nat} : ∀ (m : Nat) (g : List Nat → Int), sp n m (fun l => g (l.map fun p => n - p)) = sp n m g
  | 0, _ => rfl
  | m + 1, g => by
    show sm (fun k => sp n m fun l => g ((n - k) :: l.map fun p => n - p)) (n + 1) = sm (fun k => sp n m fun l => g (k :: l)) (n + 1)
    rw [← sm_mir n fun k => sp n m fun l => g (k :: l)]
    exact sm_congr fun k _ => sp_mir m fun l => g ((n - k) :: l)
def cnt (b : Int) (n : Nat) (os : List (Nat → Int)) (v : Int) : Int := sp n os.length fun ps => if cost b os ps = v then 1 else 0
theorem cnt_rev {b : Int} {n : Nat} {os : List (Nat → Int)} {v : Int} : cnt b n os.reverse v = cnt b n os v := by
  unfold cnt
  rw [List.length_reverse, ← sp_rev]
  refine sp_congr fun l hl => ?_
  rw [cost_rev b os l hl.1.symm]
theorem cnt_mir {b : Int} {n : Nat} {os os' : List (Nat → Int)} {v : Int} (h : All2 (Rn n fun p => n - p) os os') : cnt b n os' v = cnt b n os v := by
  unfold cnt
  rw [← h.len, ← sp_mir]
  refine sp_congr fun l hl => ?_
  rw [cost_ren (ren_mir n) h l hl.2]
/-- the count by the last place, as the table has it -/
def C (b : Int) (n : Nat) : List (Nat → Int) → Nat → Int
  | [] => fun _ => 1
  | [_] => fun _ => 1
  | _ :: o' :: L => fun k => sm (fun j => if S b n (o' :: L) j + b * ab ((j : Int) - k) = mn (fun j => S b n (o' :: L) j + b * ab ((j : Int) - k)) n then C b n (o' :: L) j else 0) (n + 1)
theorem C_eq {b : Int} {n : Nat} : ∀ (L : List (Nat → Int)) (o : Nat → Int) (k : Nat), k ≤ n → C b n (o :: L) k = sp n L.length fun l => if cost b (o :: L) (k :: l) = S b n (o :: L) k then 1 else 0
  | [], o, k, _ => by
    show (1 : Int) = if o k = o k then 1 else 0
    rw [if_pos rfl]
  | o' :: L, o, k, hk => by
    show sm (fun j => if S b n (o' :: L) j + b * ab ((j : Int) - k) = mn (fun j => S b n (o' :: L) j + b * ab ((j : Int) - k)) n then C b n (o' :: L) j else 0) (n + 1) =
      sm (fun j => sp n L.length fun l => if o k + b * ab ((j : Int) - k) + cost b (o' :: L) (j :: l) = mn (fun j => S b n (o' :: L) j + b * ab ((j : Int) - k)) n + o k then 1 else 0) (n + 1)
    refine sm_congr fun j hj => ?_
    have hjn : j ≤ n := by omega
    have low := mn_le (fun j => S b n (o' :: L) j + b * ab ((j : Int) - k)) hjn
    have low : mn (fun j => S b n (o' :: L) j + b * ab ((j : Int) - k)) n ≤ S b n (o' :: L) j + b * ab ((j : Int) - k) := low
    generalize mn (fun j => S b n (o' :: L) j + b * ab ((j : Int) - k)) n = M at low ⊢
    by_cases c : S b n (o' :: L) j + b * ab ((j : Int) - k) = M
    · rw [if_pos c, C_eq L o' j hjn]
      refine sp_congr fun l _ => ?_
      by_cases d : cost b (o' :: L) (j :: l) = S b n (o' :: L) j
      · rw [if_pos d, if_pos (by omega)]
      · rw [if_neg d, if_neg (by omega)]
    · rw [if_neg c]
      symm
      refine Eq.trans (sp_congr (h := fun _ => 0) fun l hl => ?_) (sp_zero L.length)
      have a := S_le b n (o' :: L) j l ⟨by rw [List.length_cons, List.length_cons, hl.1], fun p hp => by
        rcases List.mem_cons.mp hp with z | z
        · omega
        · exact hl.2 p z⟩
      rw [if_neg (by omega)]
theorem cnt_eq {b : Int} {n : Nat} {o : Nat → Int} {L : List (Nat → Int)} : sm (fun k => if S b n (o :: L) k = mn (S b n (o :: L)) n then C b n (o :: L) k else 0) (n + 1) = cnt b n (o :: L) (mn (S b n (o :: L)) n) := by
  show _ = sm (fun k => sp n L.length fun l => if cost b (o :: L) (k :: l) = mn (S b n (o :: L)) n then 1 else 0) (n + 1)
  refine sm_congr fun k hk => ?_
  have hkn : k ≤ n := by omega
  have low := mn_le (S b n (o :: L)) hkn
  generalize mn (S b n (o :: L)) n = M at low ⊢
  by_cases c : S b n (o :: L) k = M
  · rw [if_pos c, C_eq L o k hkn, c]
  · rw [if_neg c]
    symm
    refine Eq.trans (sp_congr (h := fun _ => 0) fun l hl => ?_) (sp_zero L.length)
    have a := S_le b n (o :: L) k l ⟨by rw [List.length_cons, List.length_cons, hl.1], fun p hp => by
      rcases List.mem_cons.mp hp with z | z
      · omega
      · exact hl.2 p z⟩
    rw [if_neg (by omega)]
end CM
set_option Elab.async false
set_option linter.all false
set_option maxRecDepth 100000
set_option maxHeartbeats 1000000
namespace K96
open PySem PySem.Spec L2 L2R DL
open PyProof.Rows hiding St
def top (i : Nat) : Stmt := PySem.Challenge.pw_jointsapart_k96_whole_cracks_turned_pile.main.body.getD i (.Pass ⟨0, 0, 0, 0⟩)
/-- what the walk asks of K and the module -/
structure Fx (K : PySem.W.Frag) (mg : PySem.Str → Option Value) where
  fd_Crack_init : FuncData
  F_Crack_init : FunD K ("__init__" : PySem.Str) ("Crack.__init__" : PySem.Str) (defArgs (inClass (top 23) 0)) (defBody (inClass (top 23) 0)) (defScope (inClass (top 23) 0)) [] [] (He.ma K (He.ga K ("Crack" : PySem.Str)) ("__init__" : PySem.Str)) fd_Crack_init
  fd_check_long : FuncData
  F_check_long : FunD K ("check_long" : PySem.Str) ("check_long" : PySem.Str) (defArgs (top 24)) (defBody (top 24)) (defScope (top 24)) [] [] (He.ga K ("check_long" : PySem.Str)) fd_check_long
  g_check_long : mg ("check_long" : PySem.Str) = some (.ref (He.ga K ("check_long" : PySem.Str)))
  fd_joints_of : FuncData
  F_joints_of : FunD K ("joints_of" : PySem.Str) ("joints_of" : PySem.Str) (defArgs (top 18)) (defBody (top 18)) (defScope (top 18)) [] [] (He.ga K ("joints_of" : PySem.Str)) fd_joints_of
  g_joints_of : mg ("joints_of" : PySem.Str) = some (.ref (He.ga K ("joints_of" : PySem.Str)))
  fd_place_prices : FuncData
  F_place_prices : FunD K ("place_prices" : PySem.Str) ("place_prices" : PySem.Str) (defArgs (top 25)) (defBody (top 25)) (defScope (top 25)) [] [] (He.ga K ("place_prices" : PySem.Str)) fd_place_prices
  g_place_prices : mg ("place_prices" : PySem.Str) = some (.ref (He.ga K ("place_prices" : PySem.Str)))
  fd_spread_sums : FuncData
  F_spread_sums : FunD K ("spread_sums" : PySem.Str) ("spread_sums" : PySem.Str) (defArgs (top 26)) (defBody (top 26)) (defScope (top 26)) [] [] (He.ga K ("spread_sums" : PySem.Str)) fd_spread_sums
  g_spread_sums : mg ("spread_sums" : PySem.Str) = some (.ref (He.ga K ("spread_sums" : PySem.Str)))
  fd_next_sums : FuncData
  F_next_sums : FunD K ("next_sums" : PySem.Str) ("next_sums" : PySem.Str) (defArgs (top 27)) (defBody (top 27)) (defScope (top 27)) [] [] (He.ga K ("next_sums" : PySem.Str)) fd_next_sums
  g_next_sums : mg ("next_sums" : PySem.Str) = some (.ref (He.ga K ("next_sums" : PySem.Str)))
  fd_sums_through : FuncData
  F_sums_through : FunD K ("sums_through" : PySem.Str) ("sums_through" : PySem.Str) (defArgs (top 28)) (defBody (top 28)) (defScope (top 28)) [] [] (He.ga K ("sums_through" : PySem.Str)) fd_sums_through
  g_sums_through : mg ("sums_through" : PySem.Str) = some (.ref (He.ga K ("sums_through" : PySem.Str)))
  fd_floor_numbers : FuncData
  F_floor_numbers : FunD K ("floor_numbers" : PySem.Str) ("floor_numbers" : PySem.Str) (defArgs (top 30)) (defBody (top 30)) (defScope (top 30)) [] [] (He.ga K ("floor_numbers" : PySem.Str)) fd_floor_numbers
  g_floor_numbers : mg ("floor_numbers" : PySem.Str) = some (.ref (He.ga K ("floor_numbers" : PySem.Str)))
  fd_is_whole : FuncData
  F_is_whole : FunD K ("is_whole" : PySem.Str) ("is_whole" : PySem.Str) (defArgs (top 14)) (defBody (top 14)) (defScope (top 14)) [.non, .non] [] (He.ga K ("is_whole" : PySem.Str)) fd_is_whole
  g_is_whole : mg ("is_whole" : PySem.Str) = some (.ref (He.ga K ("is_whole" : PySem.Str)))
  fd_crack_price : FuncData
  F_crack_price : FunD K ("crack_price" : PySem.Str) ("crack_price" : PySem.Str) (defArgs (top 31)) (defBody (top 31)) (defScope (top 31)) [] [] (He.ga K ("crack_price" : PySem.Str)) fd_crack_price
  g_crack_price : mg ("crack_price" : PySem.Str) = some (.ref (He.ga K ("crack_price" : PySem.Str)))
  fd_traced_places : FuncData
  F_traced_places : FunD K ("traced_places" : PySem.Str) ("traced_places" : PySem.Str) (defArgs (top 29)) (defBody (top 29)) (defScope (top 29)) [] [] (He.ga K ("traced_places" : PySem.Str)) fd_traced_places
  g_traced_places : mg ("traced_places" : PySem.Str) = some (.ref (He.ga K ("traced_places" : PySem.Str)))
  fd_least_crack : FuncData
  F_least_crack : FunD K ("least_crack" : PySem.Str) ("least_crack" : PySem.Str) (defArgs (top 32)) (defBody (top 32)) (defScope (top 32)) [] [] (He.ga K ("least_crack" : PySem.Str)) fd_least_crack
  g_least_crack : mg ("least_crack" : PySem.Str) = some (.ref (He.ga K ("least_crack" : PySem.Str)))
  fd_crack_from : FuncData
  F_crack_from : FunD K ("crack_from" : PySem.Str) ("crack_from" : PySem.Str) (defArgs (top 33)) (defBody (top 33)) (defScope (top 33)) [] [] (He.ga K ("crack_from" : PySem.Str)) fd_crack_from
  g_crack_from : mg ("crack_from" : PySem.Str) = some (.ref (He.ga K ("crack_from" : PySem.Str)))
  fd_counted_place : FuncData
  F_counted_place : FunD K ("counted_place" : PySem.Str) ("counted_place" : PySem.Str) (defArgs (top 35)) (defBody (top 35)) (defScope (top 35)) [] [] (He.ga K ("counted_place" : PySem.Str)) fd_counted_place
  g_counted_place : mg ("counted_place" : PySem.Str) = some (.ref (He.ga K ("counted_place" : PySem.Str)))
  fd_count_cracks : FuncData
  F_count_cracks : FunD K ("count_cracks" : PySem.Str) ("count_cracks" : PySem.Str) (defArgs (top 36)) (defBody (top 36)) (defScope (top 36)) [] [] (He.ga K ("count_cracks" : PySem.Str)) fd_count_cracks
  g_count_cracks : mg ("count_cracks" : PySem.Str) = some (.ref (He.ga K ("count_cracks" : PySem.Str)))
  fd_floor_bound : FuncData
  F_floor_bound : FunD K ("floor_bound" : PySem.Str) ("floor_bound" : PySem.Str) (defArgs (top 40)) (defBody (top 40)) (defScope (top 40)) [] [] (He.ga K ("floor_bound" : PySem.Str)) fd_floor_bound
  g_floor_bound : mg ("floor_bound" : PySem.Str) = some (.ref (He.ga K ("floor_bound" : PySem.Str)))
  fd_are_number_rows : FuncData
  F_are_number_rows : FunD K ("are_number_rows" : PySem.Str) ("are_number_rows" : PySem.Str) (defArgs (top 38)) (defBody (top 38)) (defScope (top 38)) [] [] (He.ga K ("are_number_rows" : PySem.Str)) fd_are_number_rows
  g_are_number_rows : mg ("are_number_rows" : PySem.Str) = some (.ref (He.ga K ("are_number_rows" : PySem.Str)))
  fd_is_above : FuncData
  F_is_above : FunD K ("is_above" : PySem.Str) ("is_above" : PySem.Str) (defArgs (top 39)) (defBody (top 39)) (defScope (top 39)) [] [] (He.ga K ("is_above" : PySem.Str)) fd_is_above
  g_is_above : mg ("is_above" : PySem.Str) = some (.ref (He.ga K ("is_above" : PySem.Str)))
  fd_floor_fault : FuncData
  F_floor_fault : FunD K ("floor_fault" : PySem.Str) ("floor_fault" : PySem.Str) (defArgs (top 41)) (defBody (top 41)) (defScope (top 41)) [] [] (He.ga K ("floor_fault" : PySem.Str)) fd_floor_fault
  g_floor_fault : mg ("floor_fault" : PySem.Str) = some (.ref (He.ga K ("floor_fault" : PySem.Str)))
  fd_crack_fault : FuncData
  F_crack_fault : FunD K ("crack_fault" : PySem.Str) ("crack_fault" : PySem.Str) (defArgs (top 42)) (defBody (top 42)) (defScope (top 42)) [] [] (He.ga K ("crack_fault" : PySem.Str)) fd_crack_fault
  g_crack_fault : mg ("crack_fault" : PySem.Str) = some (.ref (He.ga K ("crack_fault" : PySem.Str)))
  fd_least_fault : FuncData
  F_least_fault : FunD K ("least_fault" : PySem.Str) ("least_fault" : PySem.Str) (defArgs (top 43)) (defBody (top 43)) (defScope (top 43)) [] [] (He.ga K ("least_fault" : PySem.Str)) fd_least_fault
  g_least_fault : mg ("least_fault" : PySem.Str) = some (.ref (He.ga K ("least_fault" : PySem.Str)))
  fd_mirrored_course : FuncData
  F_mirrored_course : FunD K ("mirrored_course" : PySem.Str) ("mirrored_course" : PySem.Str) (defArgs (top 19)) (defBody (top 19)) (defScope (top 19)) [] [] (He.ga K ("mirrored_course" : PySem.Str)) fd_mirrored_course
  g_mirrored_course : mg ("mirrored_course" : PySem.Str) = some (.ref (He.ga K ("mirrored_course" : PySem.Str)))
  fd_check_course : FuncData
  F_check_course : FunD K ("check_course" : PySem.Str) ("check_course" : PySem.Str) (defArgs (top 17)) (defBody (top 17)) (defScope (top 17)) [] [] (He.ga K ("check_course" : PySem.Str)) fd_check_course
  g_check_course : mg ("check_course" : PySem.Str) = some (.ref (He.ga K ("check_course" : PySem.Str)))
  fd_Wall_init : FuncData
  F_Wall_init : FunD K ("__init__" : PySem.Str) ("Wall.__init__" : PySem.Str) (defArgs (inClass (top 54) 0)) (defBody (inClass (top 54) 0)) (defScope (inClass (top 54) 0)) [] [] (He.ma K (He.ga K ("Wall" : PySem.Str)) ("__init__" : PySem.Str)) fd_Wall_init
  fd_wall_mirrored : FuncData
  F_wall_mirrored : FunD K ("wall_mirrored" : PySem.Str) ("wall_mirrored" : PySem.Str) (defArgs (top 60)) (defBody (top 60)) (defScope (top 60)) [] [] (He.ga K ("wall_mirrored" : PySem.Str)) fd_wall_mirrored
  g_wall_mirrored : mg ("wall_mirrored" : PySem.Str) = some (.ref (He.ga K ("wall_mirrored" : PySem.Str)))
  fd_upturned : FuncData
  F_upturned : FunD K ("upturned" : PySem.Str) ("upturned" : PySem.Str) (defArgs (top 61)) (defBody (top 61)) (defScope (top 61)) [] [] (He.ga K ("upturned" : PySem.Str)) fd_upturned
  g_upturned : mg ("upturned" : PySem.Str) = some (.ref (He.ga K ("upturned" : PySem.Str)))
  fd__law_turned_alike : FuncData
  F__law_turned_alike : FunD K ("_law_turned_alike" : PySem.Str) ("_law_turned_alike" : PySem.Str) (defArgs (top 77)) (defBody (top 77)) (defScope (top 77)) [] [] (He.ga K ("_law_turned_alike" : PySem.Str)) fd__law_turned_alike
  g__law_turned_alike : mg ("_law_turned_alike" : PySem.Str) = some (.ref (He.ga K ("_law_turned_alike" : PySem.Str)))
  fd_Wall_len_ : FuncData
  F_Wall_len_ : FunD K ("__len__" : PySem.Str) ("Wall.__len__" : PySem.Str) (defArgs (inClass (top 54) 1)) (defBody (inClass (top 54) 1)) (defScope (inClass (top 54) 1)) [] [] (He.ma K (He.ga K ("Wall" : PySem.Str)) ("__len__" : PySem.Str)) fd_Wall_len_
  me_Wall_len_ : Meth K (He.ga K ("Wall" : PySem.Str)) ("__len__" : PySem.Str) (He.ma K (He.ga K ("Wall" : PySem.Str)) ("__len__" : PySem.Str))
  fd_Stock_eq : FuncData
  F_Stock_eq : FunD K ("__eq__" : PySem.Str) ("Stock.__eq__" : PySem.Str) (defArgs (inClass (top 51) 1)) (defBody (inClass (top 51) 1)) (defScope (inClass (top 51) 1)) [] [] (He.ma K (He.ga K ("Stock" : PySem.Str)) ("__eq__" : PySem.Str)) fd_Stock_eq
  me_Stock_eq : Meth K (He.ga K ("Stock" : PySem.Str)) ("__eq__" : PySem.Str) (He.ma K (He.ga K ("Stock" : PySem.Str)) ("__eq__" : PySem.Str))
  fd_check_alike : FuncData
  F_check_alike : FunD K ("check_alike" : PySem.Str) ("check_alike" : PySem.Str) (defArgs (top 57)) (defBody (top 57)) (defScope (top 57)) [] [] (He.ga K ("check_alike" : PySem.Str)) fd_check_alike
  g_check_alike : mg ("check_alike" : PySem.Str) = some (.ref (He.ga K ("check_alike" : PySem.Str)))
  fd_piled : FuncData
  F_piled : FunD K ("piled" : PySem.Str) ("piled" : PySem.Str) (defArgs (top 58)) (defBody (top 58)) (defScope (top 58)) [] [] (He.ga K ("piled" : PySem.Str)) fd_piled
  g_piled : mg ("piled" : PySem.Str) = some (.ref (He.ga K ("piled" : PySem.Str)))
  fd_part_of : FuncData
  F_part_of : FunD K ("part_of" : PySem.Str) ("part_of" : PySem.Str) (defArgs (top 59)) (defBody (top 59)) (defScope (top 59)) [] [] (He.ga K ("part_of" : PySem.Str)) fd_part_of
  g_part_of : mg ("part_of" : PySem.Str) = some (.ref (He.ga K ("part_of" : PySem.Str)))
  fd__law_mix : FuncData
  F__law_mix : FunD K ("_law_mix" : PySem.Str) ("_law_mix" : PySem.Str) (defArgs (top 64)) (defBody (top 64)) (defScope (top 64)) [] [] (He.ga K ("_law_mix" : PySem.Str)) fd__law_mix
  g__law_mix : mg ("_law_mix" : PySem.Str) = some (.ref (He.ga K ("_law_mix" : PySem.Str)))
  fd__law_draw : FuncData
  F__law_draw : FunD K ("_law_draw" : PySem.Str) ("_law_draw" : PySem.Str) (defArgs (top 66)) (defBody (top 66)) (defScope (top 66)) [] [] (He.ga K ("_law_draw" : PySem.Str)) fd__law_draw
  g__law_draw : mg ("_law_draw" : PySem.Str) = some (.ref (He.ga K ("_law_draw" : PySem.Str)))
  fd__law_piled_right : FuncData
  F__law_piled_right : FunD K ("_law_piled_right" : PySem.Str) ("_law_piled_right" : PySem.Str) (defArgs (top 78)) (defBody (top 78)) (defScope (top 78)) [] [] (He.ga K ("_law_piled_right" : PySem.Str)) fd__law_piled_right
  g__law_piled_right : mg ("_law_piled_right" : PySem.Str) = some (.ref (He.ga K ("_law_piled_right" : PySem.Str)))
  fd_Prices_init : FuncData
  F_Prices_init : FunD K ("__init__" : PySem.Str) ("Prices.__init__" : PySem.Str) (defArgs (inClass (top 22) 0)) (defBody (inClass (top 22) 0)) (defScope (inClass (top 22) 0)) [] [] (He.ma K (He.ga K ("Prices" : PySem.Str)) ("__init__" : PySem.Str)) fd_Prices_init
  fd_are_stock_bricks : FuncData
  F_are_stock_bricks : FunD K ("are_stock_bricks" : PySem.Str) ("are_stock_bricks" : PySem.Str) (defArgs (top 50)) (defBody (top 50)) (defScope (top 50)) [] [] (He.ga K ("are_stock_bricks" : PySem.Str)) fd_are_stock_bricks
  g_are_stock_bricks : mg ("are_stock_bricks" : PySem.Str) = some (.ref (He.ga K ("are_stock_bricks" : PySem.Str)))
  fd_Stock_init : FuncData
  F_Stock_init : FunD K ("__init__" : PySem.Str) ("Stock.__init__" : PySem.Str) (defArgs (inClass (top 51) 0)) (defBody (inClass (top 51) 0)) (defScope (inClass (top 51) 0)) [.int 1, .int 1] [] (He.ma K (He.ga K ("Stock" : PySem.Str)) ("__init__" : PySem.Str)) fd_Stock_init
  fd_Stock_finer : FuncData
  F_Stock_finer : FunD K ("finer" : PySem.Str) ("Stock.finer" : PySem.Str) (defArgs (inClass (top 51) 7)) (defBody (inClass (top 51) 7)) (defScope (inClass (top 51) 7)) [] [] (He.ma K (He.ga K ("Stock" : PySem.Str)) ("finer" : PySem.Str)) fd_Stock_finer
  me_Stock_finer : Meth K (He.ga K ("Stock" : PySem.Str)) ("finer" : PySem.Str) (He.ma K (He.ga K ("Stock" : PySem.Str)) ("finer" : PySem.Str))
  fd__law_pick : FuncData
  F__law_pick : FunD K ("_law_pick" : PySem.Str) ("_law_pick" : PySem.Str) (defArgs (top 67)) (defBody (top 67)) (defScope (top 67)) [] [] (He.ga K ("_law_pick" : PySem.Str)) fd__law_pick
  g__law_pick : mg ("_law_pick" : PySem.Str) = some (.ref (He.ga K ("_law_pick" : PySem.Str)))
  fd__law_scaled_right : FuncData
  F__law_scaled_right : FunD K ("_law_scaled_right" : PySem.Str) ("_law_scaled_right" : PySem.Str) (defArgs (top 79)) (defBody (top 79)) (defScope (top 79)) [] [] (He.ga K ("_law_scaled_right" : PySem.Str)) fd__law_scaled_right
  g__law_scaled_right : mg ("_law_scaled_right" : PySem.Str) = some (.ref (He.ga K ("_law_scaled_right" : PySem.Str)))
  fd__law_stock : FuncData
  F__law_stock : FunD K ("_law_stock" : PySem.Str) ("_law_stock" : PySem.Str) (defArgs (top 68)) (defBody (top 68)) (defScope (top 68)) [] [] (He.ga K ("_law_stock" : PySem.Str)) fd__law_stock
  g__law_stock : mg ("_law_stock" : PySem.Str) = some (.ref (He.ga K ("_law_stock" : PySem.Str)))
  fd__law_counts : FuncData
  F__law_counts : FunD K ("_law_counts" : PySem.Str) ("_law_counts" : PySem.Str) (defArgs (top 70)) (defBody (top 70)) (defScope (top 70)) [] [] (He.ga K ("_law_counts" : PySem.Str)) fd__law_counts
  g__law_counts : mg ("_law_counts" : PySem.Str) = some (.ref (He.ga K ("_law_counts" : PySem.Str)))
  fd__law_course : FuncData
  F__law_course : FunD K ("_law_course" : PySem.Str) ("_law_course" : PySem.Str) (defArgs (top 71)) (defBody (top 71)) (defScope (top 71)) [] [] (He.ga K ("_law_course" : PySem.Str)) fd__law_course
  g__law_course : mg ("_law_course" : PySem.Str) = some (.ref (He.ga K ("_law_course" : PySem.Str)))
  fd__law_courses_drawn : FuncData
  F__law_courses_drawn : FunD K ("_law_courses_drawn" : PySem.Str) ("_law_courses_drawn" : PySem.Str) (defArgs (top 76)) (defBody (top 76)) (defScope (top 76)) [] [] (He.ga K ("_law_courses_drawn" : PySem.Str)) fd__law_courses_drawn
  g__law_courses_drawn : mg ("_law_courses_drawn" : PySem.Str) = some (.ref (He.ga K ("_law_courses_drawn" : PySem.Str)))
  fd__law_two_prices : FuncData
  F__law_two_prices : FunD K ("_law_two_prices" : PySem.Str) ("_law_two_prices" : PySem.Str) (defArgs (top 72)) (defBody (top 72)) (defScope (top 72)) [] [] (He.ga K ("_law_two_prices" : PySem.Str)) fd__law_two_prices
  g__law_two_prices : mg ("_law_two_prices" : PySem.Str) = some (.ref (He.ga K ("_law_two_prices" : PySem.Str)))
  fd_check_number : FuncData
  F_check_number : FunD K ("check_number" : PySem.Str) ("check_number" : PySem.Str) (defArgs (top 56)) (defBody (top 56)) (defScope (top 56)) [] [] (He.ga K ("check_number" : PySem.Str)) fd_check_number
  g_check_number : mg ("check_number" : PySem.Str) = some (.ref (He.ga K ("check_number" : PySem.Str)))
  fd_exchanged : FuncData
  F_exchanged : FunD K ("exchanged" : PySem.Str) ("exchanged" : PySem.Str) (defArgs (top 62)) (defBody (top 62)) (defScope (top 62)) [] [] (He.ga K ("exchanged" : PySem.Str)) fd_exchanged
  g_exchanged : mg ("exchanged" : PySem.Str) = some (.ref (He.ga K ("exchanged" : PySem.Str)))
  fd__law_joints : FuncData
  F__law_joints : FunD K ("_law_joints" : PySem.Str) ("_law_joints" : PySem.Str) (defArgs (top 69)) (defBody (top 69)) (defScope (top 69)) [] [] (He.ga K ("_law_joints" : PySem.Str)) fd__law_joints
  g__law_joints : mg ("_law_joints" : PySem.Str) = some (.ref (He.ga K ("_law_joints" : PySem.Str)))
  fd__law_own : FuncData
  F__law_own : FunD K ("_law_own" : PySem.Str) ("_law_own" : PySem.Str) (defArgs (top 73)) (defBody (top 73)) (defScope (top 73)) [] [] (He.ga K ("_law_own" : PySem.Str)) fd__law_own
  g__law_own : mg ("_law_own" : PySem.Str) = some (.ref (He.ga K ("_law_own" : PySem.Str)))
  fd__law_next : FuncData
  F__law_next : FunD K ("_law_next" : PySem.Str) ("_law_next" : PySem.Str) (defArgs (top 74)) (defBody (top 74)) (defScope (top 74)) [] [] (He.ga K ("_law_next" : PySem.Str)) fd__law_next
  g__law_next : mg ("_law_next" : PySem.Str) = some (.ref (He.ga K ("_law_next" : PySem.Str)))
  fd__law_sums : FuncData
  F__law_sums : FunD K ("_law_sums" : PySem.Str) ("_law_sums" : PySem.Str) (defArgs (top 75)) (defBody (top 75)) (defScope (top 75)) [] [] (He.ga K ("_law_sums" : PySem.Str)) fd__law_sums
  g__law_sums : mg ("_law_sums" : PySem.Str) = some (.ref (He.ga K ("_law_sums" : PySem.Str)))
  fd__law_hand : FuncData
  F__law_hand : FunD K ("_law_hand" : PySem.Str) ("_law_hand" : PySem.Str) (defArgs (top 65)) (defBody (top 65)) (defScope (top 65)) [] [] (He.ga K ("_law_hand" : PySem.Str)) fd__law_hand
  g__law_hand : mg ("_law_hand" : PySem.Str) = some (.ref (He.ga K ("_law_hand" : PySem.Str)))
  fd_law : FuncData
  F_law : FunD K ("law" : PySem.Str) ("law" : PySem.Str) (defArgs (top 80)) (defBody (top 80)) (defScope (top 80)) [] [] (He.ga K ("law" : PySem.Str)) fd_law
  g_law : mg ("law" : PySem.Str) = some (.ref (He.ga K ("law" : PySem.Str)))
  n_abs : mg ("abs" : PySem.Str) = none
  n_all : mg ("all" : PySem.Str) = none
  n_any : mg ("any" : PySem.Str) = none
  n_bool : mg ("bool" : PySem.Str) = none
  n_enumerate : mg ("enumerate" : PySem.Str) = none
  n_int : mg ("int" : PySem.Str) = none
  n_isinstance : mg ("isinstance" : PySem.Str) = none
  n_len : mg ("len" : PySem.Str) = none
  n_list : mg ("list" : PySem.Str) = none
  n_max : mg ("max" : PySem.Str) = none
  n_min : mg ("min" : PySem.Str) = none
  n_range : mg ("range" : PySem.Str) = none
  n_reversed : mg ("reversed" : PySem.Str) = none
  n_sorted : mg ("sorted" : PySem.Str) = none
  n_sum : mg ("sum" : PySem.Str) = none
  n_tuple : mg ("tuple" : PySem.Str) = none
  i_LONGEST : ∃ t, mg ("LONGEST" : PySem.Str) = some (.int 8 t)
  i_LONGEST_COURSE : ∃ t, mg ("LONGEST_COURSE" : PySem.Str) = some (.int 400 t)
  i_MOST_BRICKS : ∃ t, mg ("MOST_BRICKS" : PySem.Str) = some (.int 4 t)
  i_MOST_COURSES : ∃ t, mg ("MOST_COURSES" : PySem.Str) = some (.int 60 t)
  i_MOST_LAP : ∃ t, mg ("MOST_LAP" : PySem.Str) = some (.int 4 t)
  i_MOST_PRICE : ∃ t, mg ("MOST_PRICE" : PySem.Str) = some (.int 1000000 t)
  i_MOST_REACH : ∃ t, mg ("MOST_REACH" : PySem.Str) = some (.int 2 t)
  i_MOST_SIZE : ∃ t, mg ("MOST_SIZE" : PySem.Str) = some (.int 4 t)
  g_Crack : mg ("Crack" : PySem.Str) = some (.ref (He.ga K ("Crack" : PySem.Str)))
  c_Crack : Cls K (He.ga K ("Crack" : PySem.Str))
  M_Crack : Mk K (He.ga K ("Crack" : PySem.Str)) (He.ma K (He.ga K ("Crack" : PySem.Str)) "__init__")
  g_Prices : mg ("Prices" : PySem.Str) = some (.ref (He.ga K ("Prices" : PySem.Str)))
  c_Prices : Cls K (He.ga K ("Prices" : PySem.Str))
  M_Prices : Mk K (He.ga K ("Prices" : PySem.Str)) (He.ma K (He.ga K ("Prices" : PySem.Str)) "__init__")
  g_Stock : mg ("Stock" : PySem.Str) = some (.ref (He.ga K ("Stock" : PySem.Str)))
  c_Stock : Cls K (He.ga K ("Stock" : PySem.Str))
  M_Stock : Mk K (He.ga K ("Stock" : PySem.Str)) (He.ma K (He.ga K ("Stock" : PySem.Str)) "__init__")
  g_Wall : mg ("Wall" : PySem.Str) = some (.ref (He.ga K ("Wall" : PySem.Str)))
  c_Wall : Cls K (He.ga K ("Wall" : PySem.Str))
  M_Wall : Mk K (He.ga K ("Wall" : PySem.Str)) (He.ma K (He.ga K ("Wall" : PySem.Str)) "__init__")
  na_Crack_places : NoAttr K (He.ga K ("Crack" : PySem.Str)) ("places" : PySem.Str)
  na_Crack_price : NoAttr K (He.ga K ("Crack" : PySem.Str)) ("price" : PySem.Str)
  na_Prices_bed : NoAttr K (He.ga K ("Prices" : PySem.Str)) ("bed" : PySem.Str)
  na_Prices_brick : NoAttr K (He.ga K ("Prices" : PySem.Str)) ("brick" : PySem.Str)
  na_Stock_bricks : NoAttr K (He.ga K ("Stock" : PySem.Str)) ("bricks" : PySem.Str)
  na_Stock_lap : NoAttr K (He.ga K ("Stock" : PySem.Str)) ("lap" : PySem.Str)
  na_Stock_reach : NoAttr K (He.ga K ("Stock" : PySem.Str)) ("reach" : PySem.Str)
  na_Wall_courses : NoAttr K (He.ga K ("Wall" : PySem.Str)) ("courses" : PySem.Str)
  na_Wall_length : NoAttr K (He.ga K ("Wall" : PySem.Str)) ("length" : PySem.Str)
  na_Wall_stock : NoAttr K (He.ga K ("Wall" : PySem.Str)) ("stock" : PySem.Str)
section
variable {P : Program} {w : World} {K : PySem.W.Frag} {mg : PySem.Str → Option Value} {base : Heap}
/-! Crack.__init__ -/
theorem sc_Crack_init : FnScope (["self", "price", "places"] : List PySem.Str) (["self", "price", "places"] : List PySem.Str) (defScope (inClass (top 23) 0)) := ⟨rfl, rfl, rfl, by decide +kernel, rfl, by decide +kernel, by decide +kernel⟩
theorem b_Crack_init (e : Fx K mg) : Binds K e.fd_Crack_init (["self", "price", "places"] : List PySem.Str) [] := e.F_Crack_init.bindsN fun _ _ _ _ _ _ us hl => match us, hl with | [_, _, _], _ => rfl
def td_Crack_init (K : PySem.W.Frag) : TSD := (sSeq (sFldS K ("price" : PySem.Str) (dVar 1))
      (sFldS K ("places" : PySem.Str) (dVar 2)))
def p_Crack_init (K : PySem.W.Frag) : RCl := fun ds Q => ds.length = 2 ∧ pI 3 (He.ga K ("Crack" : PySem.Str)) (td_Crack_init K) ds Q
theorem p_Crack_init_len {K : PySem.W.Frag} : ∀ ds Q, p_Crack_init K ds Q → ds.length = 2 := fun _ _ h => h.1
theorem p_Crack_init_td {K : PySem.W.Frag} : ∀ ds Q, p_Crack_init K ds Q → pI 3 (He.ga K ("Crack" : PySem.Str)) (td_Crack_init K) ds Q := fun _ _ h => h.2
theorem ok_Crack_init (e : Fx K mg) : FnOk P w K mg base CX0 1 (He.ma K (He.ga K ("Crack" : PySem.Str)) ("__init__" : PySem.Str)) e.fd_Crack_init (["self", "price", "places"] : List PySem.Str) (spI K (He.ga K ("Crack" : PySem.Str)) 2 (p_Crack_init K)) := by
  have nd := sc_Crack_init.nd
  refine fn_I e.F_Crack_init sc_Crack_init rfl p_Crack_init_td ?_
  intro cdv A outer s H E hr
  exact ⟨_, PSs.nox (pss_cons (ps_fld (pv 0) (pv 1) rfl)
      (pss_one (ps_fld (pv 0) (pv 2) rfl))),
    (sd_seq (sd_fld ev_var)
      (sd_fld ev_var))⟩
/-! check_long -/
theorem sc_check_long : FnScope (["length"] : List PySem.Str) (["length"] : List PySem.Str) (defScope (top 24)) := ⟨rfl, rfl, rfl, by decide +kernel, rfl, by decide +kernel, by decide +kernel⟩
theorem b_check_long (e : Fx K mg) : Binds K e.fd_check_long (["length"] : List PySem.Str) [] := e.F_check_long.bindsN fun _ _ _ _ _ _ us hl => match us, hl with | [_], _ => rfl
def td_check_long (K : PySem.W.Frag) : TSD := (sIf (dTest (d2 oLt (dVar 0) (dC (.int 2)))) sNever sNext)
def p_check_long (K : PySem.W.Frag) : RCl := fun ds Q => ds.length = 1 ∧ pD 1 (td_check_long K) ds Q
theorem p_check_long_len {K : PySem.W.Frag} : ∀ ds Q, p_check_long K ds Q → ds.length = 1 := fun _ _ h => h.1
theorem p_check_long_td {K : PySem.W.Frag} : ∀ ds Q, p_check_long K ds Q → pD 1 (td_check_long K) ds Q := fun _ _ h => h.2
theorem ok_check_long (e : Fx K mg) : FnOk P w K mg base CX0 1 (He.ga K ("check_long" : PySem.Str)) e.fd_check_long (["length"] : List PySem.Str) (spD K 1 (p_check_long K)) := by
  have nd := sc_check_long.nd
  refine fn_D e.F_check_long sc_check_long p_check_long_td ?_
  intro cdv A outer s H E hr
  exact ⟨_, PSs.nox (pss_one (ps_if (pt_cmpR op_lt (pv 0) pe_int (nomark _)) (pss_one ps_never) pss_nil)),
    (sd_if (et_test (ev_op ev_var ev_int od_lt)) sd_never sd_next)⟩
/-! joints_of -/
theorem sc_joints_of : FnScope (["course", "places", "place", "brick"] : List PySem.Str) (["course"] : List PySem.Str) (defScope (top 18)) := ⟨rfl, rfl, rfl, by decide +kernel, rfl, by decide +kernel, by decide +kernel⟩
theorem b_joints_of (e : Fx K mg) : Binds K e.fd_joints_of (["course"] : List PySem.Str) [] := e.F_joints_of.bindsN fun _ _ _ _ _ _ us hl => match us, hl with | [_], _ => rfl
def lb_joints_of_0 (K : PySem.W.Frag) : TSD := (sSeq (sAug 2 (fun i j => i + j) (dVar 3)) (sApp 1 (dVar 2)))
def td_joints_of (K : PySem.W.Frag) : TSD := (sSeq (sAsgN 1 (dLstN dNil))
      (sSeq (sAsg (dC (.int 0)) (gdName 2))
      (sSeq (sFor (iSeq (dSl (dVar 0) dNoPart (dPart (dNeg (dC (.int 1)))))) (gdName 3) (lb_joints_of_0 K))
      (sRet (dCB1 cTuple (dOwn 1))))))
def p_joints_of (K : PySem.W.Frag) : RCl := fun ds Q => ds.length = 1 ∧ pD 4 (td_joints_of K) ds Q
theorem p_joints_of_len {K : PySem.W.Frag} : ∀ ds Q, p_joints_of K ds Q → ds.length = 1 := fun _ _ h => h.1
theorem p_joints_of_td {K : PySem.W.Frag} : ∀ ds Q, p_joints_of K ds Q → pD 4 (td_joints_of K) ds Q := fun _ _ h => h.2
theorem ok_joints_of (e : Fx K mg) : FnOk P w K mg base CX0 1 (He.ga K ("joints_of" : PySem.Str)) e.fd_joints_of (["course"] : List PySem.Str) (spD K 1 (p_joints_of K)) := by
  have nd := sc_joints_of.nd
  refine fn_D e.F_joints_of sc_joints_of p_joints_of_td ?_
  intro cdv A outer s H E hr
  exact ⟨_, PSs.nox (pss_cons (ps_set (i := 1) nd rfl (Or.inl rfl) (pe_lst pa_nil))
      (pss_cons (ps_set (i := 2) nd rfl (Or.inl rfl) pe_int)
      (pss_cons (ps_for PassesOwn.never rfl (pi_any (pe_slice sl_any (pv 0) po_none (po_some (pe_un un_neg pe_int)))) (pg_name (i := 3) nd rfl (Or.inl rfl)) (pss_cons (ps_aug (i := 2) nd rfl (Or.inl rfl) (pv 3) ip_add) (pss_one (ps_expr (pe_bm PySem.F.plainAttrs_list PySem.F.slot_list_append PySem.F.type_list_append mt_append (pv 1) (pa_cons (pv 2) pa_nil))))))
      (pss_one (ps_ret (pe_callTy call_tuple_of rfl e.n_tuple boot_tuple' (pa_cons (pv 1) pa_nil))))))),
    (sd_seq (sd_asgN (by decide) (en_lst ea_nil))
      (sd_seq (sd_asg ev_int eg_name.eg)
      (sd_seq (sd_for (ei_any (ev_sl ev_var eo_no (eo_part (ev_neg ev_int)))) (EGx.eg eg_name) (sd_seq (sd_aug ev_var) (sd_app ev_var)))
      (sd_ret (ev_cb1 cl_tuple ev_own)))))⟩
/-! place_prices -/
theorem sc_place_prices : FnScope (["course", "prices", "length", "joints", "spot"] : List PySem.Str) (["course", "prices", "length"] : List PySem.Str) (defScope (top 25)) := ⟨rfl, rfl, rfl, by decide +kernel, rfl, by decide +kernel, by decide +kernel⟩
theorem b_place_prices (e : Fx K mg) : Binds K e.fd_place_prices (["course", "prices", "length"] : List PySem.Str) [] := e.F_place_prices.bindsN fun _ _ _ _ _ _ us hl => match us, hl with | [_, _, _], _ => rfl
def td_place_prices (K : PySem.W.Frag) : TSD := (sSeq (sAsg (dCall (p_joints_of K) [] (dCons (dVar 0) dNil)) (gdName 3))
      (sRet (dLc (iR2 (dCons (dC (.int 1)) (dCons (dVar 2) dNil))) (gdName 4) dYes (dIfE (dTest (d2 oIn (dVar 4) (dVar 3))) (dC (.int 0)) (dFld K ("brick" : PySem.Str) (dVar 1))) [4])))
def p_place_prices (K : PySem.W.Frag) : RCl := fun ds Q => ds.length = 3 ∧ pD 5 (td_place_prices K) ds Q
theorem p_place_prices_len {K : PySem.W.Frag} : ∀ ds Q, p_place_prices K ds Q → ds.length = 3 := fun _ _ h => h.1
theorem p_place_prices_td {K : PySem.W.Frag} : ∀ ds Q, p_place_prices K ds Q → pD 5 (td_place_prices K) ds Q := fun _ _ h => h.2
theorem ok_place_prices (e : Fx K mg) : FnOk P w K mg base CX0 2 (He.ga K ("place_prices" : PySem.Str)) e.fd_place_prices (["course", "prices", "length"] : List PySem.Str) (spD K 3 (p_place_prices K)) := by
  have nd := sc_place_prices.nd
  refine fn_D e.F_place_prices sc_place_prices p_place_prices_td ?_
  intro cdv A outer s H E hr
  exact ⟨_, PSs.nox (pss_cons (ps_set (i := 3) nd rfl (Or.inr rfl) (pe_call ((ok_joints_of e).mono (by decide : 1 ≤ 1)) hr rfl e.g_joints_of e.F_joints_of.kp (b_joints_of e) .nil pass0 (pa_cons (pv 0) pa_nil)))
      (pss_one (ps_ret (pe_lc (own := [(("spot" : PySem.Str), 4)]) rfl nd (pi_range2 rfl e.n_range (pa_cons pe_int (pa_cons (pv 2) pa_nil))) (blkOk_by (N := (["course", "prices", "length", "joints", "spot"] : List PySem.Str)) (sc := defScope (top 25)) (by decide +kernel)) (fun _ _ _ _ _ => (pg_name (i := 4) nd rfl (Or.inl rfl))) (fun _ _ _ _ _ => pts_nil) (fun _ _ _ _ _ => (pe_ifExp (pt_cmpR op_in_seq (pv 4) (pv 3) rfl) pe_int (pe_fld (pv 1) rfl))))))),
    (sd_seq (sd_asg (ev_call (fun _ => Reps.nil) p_joints_of_len (ea_cons ev_var ea_nil)) eg_name.eg)
      (sd_ret (ev_lc (ei_rng2 (ea_cons ev_int (ea_cons ev_var ea_nil))) eg_name (gin_name (by decide)) (gdin_name (by decide)) et_yes (ev_if (et_test (ev_op ev_var ev_var od_in)) ev_int (ev_fld ev_var)))))⟩
/-! spread_sums -/
theorem sc_spread_sums : FnScope (["sums", "bed", "spread", "at"] : List PySem.Str) (["sums", "bed"] : List PySem.Str) (defScope (top 26)) := ⟨rfl, rfl, rfl, by decide +kernel, rfl, by decide +kernel, by decide +kernel⟩
theorem b_spread_sums (e : Fx K mg) : Binds K e.fd_spread_sums (["sums", "bed"] : List PySem.Str) [] := e.F_spread_sums.bindsN fun _ _ _ _ _ _ us hl => match us, hl with | [_, _], _ => rfl
def lb_spread_sums_0 (K : PySem.W.Frag) : TSD := (sAsg (dCB cMin2 (dCons (d2O oIx 2 (dVar 3)) (dCons (d2 oAdd (d2O oIx 2 (d2 oSub (dVar 3) (dC (.int 1)))) (dVar 1)) dNil))) (gdSub 2 (dVar 3)))
def lb_spread_sums_1 (K : PySem.W.Frag) : TSD := (sAsg (dCB cMin2 (dCons (d2O oIx 2 (dVar 3)) (dCons (d2 oAdd (d2O oIx 2 (d2 oAdd (dVar 3) (dC (.int 1)))) (dVar 1)) dNil))) (gdSub 2 (dVar 3)))
def td_spread_sums (K : PySem.W.Frag) : TSD := (sSeq (sAsgN 2 (dListN (dVar 0)))
      (sSeq (sFor (iR2 (dCons (dC (.int 1)) (dCons (dCB1 cLen (dOwn 2)) dNil))) (gdName 3) (lb_spread_sums_0 K))
      (sSeq (sFor (iR3 (dCons (d2 oSub (dCB1 cLen (dOwn 2)) (dC (.int 2))) (dCons (dNeg (dC (.int 1))) (dCons (dNeg (dC (.int 1))) dNil)))) (gdName 3) (lb_spread_sums_1 K))
      (sRet (dFrz 2)))))
def p_spread_sums (K : PySem.W.Frag) : RCl := fun ds Q => ds.length = 2 ∧ pD 4 (td_spread_sums K) ds Q
theorem p_spread_sums_len {K : PySem.W.Frag} : ∀ ds Q, p_spread_sums K ds Q → ds.length = 2 := fun _ _ h => h.1
theorem p_spread_sums_td {K : PySem.W.Frag} : ∀ ds Q, p_spread_sums K ds Q → pD 4 (td_spread_sums K) ds Q := fun _ _ h => h.2
theorem ok_spread_sums (e : Fx K mg) : FnOk P w K mg base CX0 1 (He.ga K ("spread_sums" : PySem.Str)) e.fd_spread_sums (["sums", "bed"] : List PySem.Str) (spD K 2 (p_spread_sums K)) := by
  have nd := sc_spread_sums.nd
  refine fn_D e.F_spread_sums sc_spread_sums p_spread_sums_td ?_
  intro cdv A outer s H E hr
  exact ⟨_, PSs.nox (pss_cons (ps_set (i := 2) nd rfl (Or.inl rfl) (pe_callTy call_list_of rfl e.n_list boot_list' (pa_cons (pv 0) pa_nil)))
      (pss_cons (ps_for PassesOwn.never rfl (pi_range2 rfl e.n_range (pa_cons pe_int (pa_cons (pe_callB call_len_seq rfl e.n_len boot_len' (pa_cons (pv 2) pa_nil)) pa_nil))) (pg_name (i := 3) nd rfl (Or.inl rfl)) (pss_one (ps_asg (pe_callB (call_min2 rfl) rfl e.n_min boot_min' (pa_cons (pe_ix ix_any (pv 2) (pv 3) (fun _ _ => rfl)) (pa_cons (pe_op op_add (pe_ix ix_any (pv 2) (pe_op op_sub (pv 3) pe_int) (fun _ _ => rfl)) (pv 1)) pa_nil))) (pg_sub (pv 2) (pv 3) set_list))))
      (pss_cons (ps_for PassesOwn.never rfl (pi_range3 rfl e.n_range (pa_cons (pe_op op_sub (pe_callB call_len_seq rfl e.n_len boot_len' (pa_cons (pv 2) pa_nil)) pe_int) (pa_cons (pe_un un_neg pe_int) (pa_cons (pe_un un_neg pe_int) pa_nil)))) (pg_name (i := 3) nd rfl (Or.inl rfl)) (pss_one (ps_asg (pe_callB (call_min2 rfl) rfl e.n_min boot_min' (pa_cons (pe_ix ix_any (pv 2) (pv 3) (fun _ _ => rfl)) (pa_cons (pe_op op_add (pe_ix ix_any (pv 2) (pe_op op_add (pv 3) pe_int) (fun _ _ => rfl)) (pv 1)) pa_nil))) (pg_sub (pv 2) (pv 3) set_list))))
      (pss_one (ps_ret (pv 2)))))),
    (sd_seq (sd_asgN (by decide) (en_list (Ev.b ev_var)))
      (sd_seq (sd_for (ei_rng2 (ea_cons ev_int (ea_cons (ev_cb1 cl_len ev_own) ea_nil))) (EGx.eg eg_name) (sd_asg (ev_cb cl_min2 (ea_cons (ev_opO ev_var od_ix) (ea_cons (ev_op (ev_opO (ev_op ev_var ev_int od_sub) od_ix) ev_var od_add) ea_nil))) (eg_sub ev_var)))
      (sd_seq (sd_for (ei_rng3 (ea_cons (ev_op (ev_cb1 cl_len ev_own) ev_int od_sub) (ea_cons (ev_neg ev_int) (ea_cons (ev_neg ev_int) ea_nil)))) (EGx.eg eg_name) (sd_asg (ev_cb cl_min2 (ea_cons (ev_opO ev_var od_ix) (ea_cons (ev_op (ev_opO (ev_op ev_var ev_int od_add) od_ix) ev_var od_add) ea_nil))) (eg_sub ev_var)))
      (sd_ret ev_frz))))⟩
/-! next_sums -/
theorem sc_next_sums : FnScope (["sums", "course", "prices", "length", "own", "spread", "at"] : List PySem.Str) (["sums", "course", "prices", "length"] : List PySem.Str) (defScope (top 27)) := ⟨rfl, rfl, rfl, by decide +kernel, rfl, by decide +kernel, by decide +kernel⟩
theorem b_next_sums (e : Fx K mg) : Binds K e.fd_next_sums (["sums", "course", "prices", "length"] : List PySem.Str) [] := e.F_next_sums.bindsN fun _ _ _ _ _ _ us hl => match us, hl with | [_, _, _, _], _ => rfl
def td_next_sums (K : PySem.W.Frag) : TSD := (sSeq (sAsg (dCall (p_place_prices K) [] (dCons (dVar 1) (dCons (dVar 2) (dCons (dVar 3) dNil)))) (gdName 4))
      (sSeq (sAsg (dCall (p_spread_sums K) [] (dCons (dVar 0) (dCons (dFld K ("bed" : PySem.Str) (dVar 2)) dNil))) (gdName 5))
      (sRet (dLc (iR1 (dCons (dCB1 cLen (dVar 4)) dNil)) (gdName 6) dYes (d2 oAdd (d2 oIx (dVar 5) (dVar 6)) (d2 oIx (dVar 4) (dVar 6))) [6]))))
def p_next_sums (K : PySem.W.Frag) : RCl := fun ds Q => ds.length = 4 ∧ pD 7 (td_next_sums K) ds Q
theorem p_next_sums_len {K : PySem.W.Frag} : ∀ ds Q, p_next_sums K ds Q → ds.length = 4 := fun _ _ h => h.1
theorem p_next_sums_td {K : PySem.W.Frag} : ∀ ds Q, p_next_sums K ds Q → pD 7 (td_next_sums K) ds Q := fun _ _ h => h.2
theorem ok_next_sums (e : Fx K mg) : FnOk P w K mg base CX0 3 (He.ga K ("next_sums" : PySem.Str)) e.fd_next_sums (["sums", "course", "prices", "length"] : List PySem.Str) (spD K 4 (p_next_sums K)) := by
  have nd := sc_next_sums.nd
  refine fn_D e.F_next_sums sc_next_sums p_next_sums_td ?_
  intro cdv A outer s H E hr
  exact ⟨_, PSs.nox (pss_cons (ps_set (i := 4) nd rfl (Or.inr rfl) (pe_call ((ok_place_prices e).mono (by decide : 2 ≤ 2)) hr rfl e.g_place_prices e.F_place_prices.kp (b_place_prices e) .nil pass0 (pa_cons (pv 1) (pa_cons (pv 2) (pa_cons (pv 3) pa_nil)))))
      (pss_cons (ps_set (i := 5) nd rfl (Or.inr rfl) (pe_call ((ok_spread_sums e).mono (by decide : 1 ≤ 2)) hr rfl e.g_spread_sums e.F_spread_sums.kp (b_spread_sums e) .nil pass0 (pa_cons (pv 0) (pa_cons (pe_fld (pv 2) rfl) pa_nil))))
      (pss_one (ps_ret (pe_lc (own := [(("at" : PySem.Str), 6)]) rfl nd (pi_range1 rfl e.n_range (pa_cons (pe_callB call_len_seq rfl e.n_len boot_len' (pa_cons (pv 4) pa_nil)) pa_nil)) (blkOk_by (N := (["sums", "course", "prices", "length", "own", "spread", "at"] : List PySem.Str)) (sc := defScope (top 27)) (by decide +kernel)) (fun _ _ _ _ _ => (pg_name (i := 6) nd rfl (Or.inl rfl))) (fun _ _ _ _ _ => pts_nil) (fun _ _ _ _ _ => (pe_op op_add (pe_ix ix_any (pv 5) (pv 6) (fun _ _ => rfl)) (pe_ix ix_any (pv 4) (pv 6) (fun _ _ => rfl))))))))),
    (sd_seq (sd_asg (ev_call (fun _ => Reps.nil) p_place_prices_len (ea_cons ev_var (ea_cons ev_var (ea_cons ev_var ea_nil)))) eg_name.eg)
      (sd_seq (sd_asg (ev_call (fun _ => Reps.nil) p_spread_sums_len (ea_cons ev_var (ea_cons (ev_fld ev_var) ea_nil))) eg_name.eg)
      (sd_ret (ev_lc (ei_rng1 (ea_cons (ev_cb1 cl_len (Ev.b ev_var)) ea_nil)) eg_name (gin_name (by decide)) (gdin_name (by decide)) et_yes (ev_op (ev_op ev_var ev_var od_ix) (ev_op ev_var ev_var od_ix) od_add)))))⟩
/-! sums_through -/
theorem sc_sums_through : FnScope (["courses", "prices", "length", "rows", "course"] : List PySem.Str) (["courses", "prices", "length"] : List PySem.Str) (defScope (top 28)) := ⟨rfl, rfl, rfl, by decide +kernel, rfl, by decide +kernel, by decide +kernel⟩
theorem b_sums_through (e : Fx K mg) : Binds K e.fd_sums_through (["courses", "prices", "length"] : List PySem.Str) [] := e.F_sums_through.bindsN fun _ _ _ _ _ _ us hl => match us, hl with | [_, _, _], _ => rfl
def lb_sums_through_0 (K : PySem.W.Frag) : TSD := (sApp 3 (dCall (p_next_sums K) [] (dCons (d2O oIx 3 (dNeg (dC (.int 1)))) (dCons (dVar 4) (dCons (dVar 1) (dCons (dVar 2) dNil))))))
def td_sums_through (K : PySem.W.Frag) : TSD := (sSeq (sAsgN 3 (dLstN (dCons (dCall (p_place_prices K) [] (dCons (d2 oIx (dVar 0) (dC (.int 0))) (dCons (dVar 1) (dCons (dVar 2) dNil)))) dNil)))
      (sSeq (sFor (iSeq (dSl (dVar 0) (dPart (dC (.int 1))) dNoPart)) (gdName 4) (lb_sums_through_0 K))
      (sRet (dFrz 3))))
def p_sums_through (K : PySem.W.Frag) : RCl := fun ds Q => ds.length = 3 ∧ pD 5 (td_sums_through K) ds Q
theorem p_sums_through_len {K : PySem.W.Frag} : ∀ ds Q, p_sums_through K ds Q → ds.length = 3 := fun _ _ h => h.1
theorem p_sums_through_td {K : PySem.W.Frag} : ∀ ds Q, p_sums_through K ds Q → pD 5 (td_sums_through K) ds Q := fun _ _ h => h.2
theorem ok_sums_through (e : Fx K mg) : FnOk P w K mg base CX0 4 (He.ga K ("sums_through" : PySem.Str)) e.fd_sums_through (["courses", "prices", "length"] : List PySem.Str) (spD K 3 (p_sums_through K)) := by
  have nd := sc_sums_through.nd
  refine fn_D e.F_sums_through sc_sums_through p_sums_through_td ?_
  intro cdv A outer s H E hr
  exact ⟨_, PSs.nox (pss_cons (ps_set (i := 3) nd rfl (Or.inl rfl) (pe_lst (pa_cons (pe_call ((ok_place_prices e).mono (by decide : 2 ≤ 3)) hr rfl e.g_place_prices e.F_place_prices.kp (b_place_prices e) .nil pass0 (pa_cons (pe_ix ix_any (pv 0) pe_int (fun _ _ => rfl)) (pa_cons (pv 1) (pa_cons (pv 2) pa_nil)))) pa_nil)))
      (pss_cons (ps_for PassesOwn.never rfl (pi_any (pe_slice sl_any (pv 0) (po_some pe_int) po_none)) (pg_name (i := 4) nd rfl (Or.inl rfl)) (pss_one (ps_expr (pe_bm PySem.F.plainAttrs_list PySem.F.slot_list_append PySem.F.type_list_append mt_append (pv 3) (pa_cons (pe_call ((ok_next_sums e).mono (by decide : 3 ≤ 3)) hr rfl e.g_next_sums e.F_next_sums.kp (b_next_sums e) .nil pass0 (pa_cons (pe_ix ix_any (pv 3) (pe_un un_neg pe_int) (fun _ _ => rfl)) (pa_cons (pv 4) (pa_cons (pv 1) (pa_cons (pv 2) pa_nil))))) pa_nil)))))
      (pss_one (ps_ret (pv 3))))),
    (sd_seq (sd_asgN (by decide) (en_lst (ea_cons (ev_call (fun _ => Reps.nil) p_place_prices_len (ea_cons (ev_op ev_var ev_int od_ix) (ea_cons ev_var (ea_cons ev_var ea_nil)))) ea_nil)))
      (sd_seq (sd_for (ei_any (ev_sl ev_var (eo_part ev_int) eo_no)) (EGx.eg eg_name) (sd_app (ev_call (fun _ => Reps.nil) p_next_sums_len (ea_cons (ev_opO (ev_neg ev_int) od_ix) (ea_cons ev_var (ea_cons ev_var (ea_cons ev_var ea_nil)))))))
      (sd_ret ev_frz)))⟩
/-! floor_numbers -/
theorem sc_floor_numbers : FnScope (["wall", "prices", "row"] : List PySem.Str) (["wall", "prices"] : List PySem.Str) (defScope (top 30)) := ⟨rfl, rfl, rfl, by decide +kernel, rfl, by decide +kernel, by decide +kernel⟩
theorem b_floor_numbers (e : Fx K mg) : Binds K e.fd_floor_numbers (["wall", "prices"] : List PySem.Str) [] := e.F_floor_numbers.bindsN fun _ _ _ _ _ _ us hl => match us, hl with | [_, _], _ => rfl
def td_floor_numbers (K : PySem.W.Frag) : TSD := (sSeq (sDrop (dCall (p_check_long K) [] (dCons (dFld K ("length" : PySem.Str) (dVar 0)) dNil)))
      (sRet (dCB1 cTuple (dLc (iSeq (dCall (p_sums_through K) [] (dCons (dFld K ("courses" : PySem.Str) (dVar 0)) (dCons (dVar 1) (dCons (dFld K ("length" : PySem.Str) (dVar 0)) dNil))))) (gdName 2) dYes (dCB1 cTuple (dVar 2)) [2]))))
def p_floor_numbers (K : PySem.W.Frag) : RCl := fun ds Q => ds.length = 2 ∧ pD 3 (td_floor_numbers K) ds Q
theorem p_floor_numbers_len {K : PySem.W.Frag} : ∀ ds Q, p_floor_numbers K ds Q → ds.length = 2 := fun _ _ h => h.1
theorem p_floor_numbers_td {K : PySem.W.Frag} : ∀ ds Q, p_floor_numbers K ds Q → pD 3 (td_floor_numbers K) ds Q := fun _ _ h => h.2
theorem ok_floor_numbers (e : Fx K mg) : FnOk P w K mg base CX0 5 (He.ga K ("floor_numbers" : PySem.Str)) e.fd_floor_numbers (["wall", "prices"] : List PySem.Str) (spD K 2 (p_floor_numbers K)) := by
  have nd := sc_floor_numbers.nd
  refine fn_D e.F_floor_numbers sc_floor_numbers p_floor_numbers_td ?_
  intro cdv A outer s H E hr
  exact ⟨_, PSs.nox (pss_cons (ps_expr (pe_call ((ok_check_long e).mono (by decide : 1 ≤ 4)) hr rfl e.g_check_long e.F_check_long.kp (b_check_long e) .nil pass0 (pa_cons (pe_fld (pv 0) rfl) pa_nil)))
      (pss_one (ps_ret (pe_callTy call_tuple_of rfl e.n_tuple boot_tuple' (pa_cons (pe_lc (own := [(("row" : PySem.Str), 2)]) rfl nd (pi_any (pe_call ((ok_sums_through e).mono (by decide : 4 ≤ 4)) hr rfl e.g_sums_through e.F_sums_through.kp (b_sums_through e) .nil pass0 (pa_cons (pe_fld (pv 0) rfl) (pa_cons (pv 1) (pa_cons (pe_fld (pv 0) rfl) pa_nil))))) (blkOk_by (N := (["wall", "prices", "row"] : List PySem.Str)) (sc := defScope (top 30)) (by decide +kernel)) (fun _ _ _ _ _ => (pg_name (i := 2) nd rfl (Or.inl rfl))) (fun _ _ _ _ _ => pts_nil) (fun _ _ _ _ _ => (pe_callTy call_tuple_of rfl e.n_tuple boot_tuple' (pa_cons (pv 2) pa_nil)))) pa_nil))))),
    (sd_seq (sd_drop (ev_call (fun _ => Reps.nil) p_check_long_len (ea_cons (ev_fld ev_var) ea_nil)))
      (sd_ret (ev_cb1 cl_tuple (Ev.b (ev_lc (ei_any (ev_call (fun _ => Reps.nil) p_sums_through_len (ea_cons (ev_fld ev_var) (ea_cons ev_var (ea_cons (ev_fld ev_var) ea_nil))))) eg_name (gin_name (by decide)) (gdin_name (by decide)) et_yes (ev_cb1 cl_tuple (Ev.b ev_var)))))))⟩
/-! is_whole -/
theorem sc_is_whole : FnScope (["thing", "low", "high"] : List PySem.Str) (["thing", "low", "high"] : List PySem.Str) (defScope (top 14)) := ⟨rfl, rfl, rfl, by decide +kernel, rfl, by decide +kernel, by decide +kernel⟩
theorem b_is_whole_0 (e : Fx K mg) : ∃ ds, Vals (List.drop 2 [.non, .non]) ds ∧ Binds K e.fd_is_whole (["thing", "low", "high"] : List PySem.Str) ds := FunD.binds1 e.F_is_whole 3 2 (fun z => nomatch z) (by decide) fun T kV doc pm an cdv ct us its hl hl2 => match us, its, hl, hl2 with | [_, _, _], [_, _], _, _ => ⟨_, rfl, rfl⟩
theorem b_is_whole_1 (e : Fx K mg) : ∃ ds, Vals (List.drop 1 [.non, .non]) ds ∧ Binds K e.fd_is_whole (["thing", "low", "high"] : List PySem.Str) ds := FunD.binds1 e.F_is_whole 2 1 (fun z => nomatch z) (by decide) fun T kV doc pm an cdv ct us its hl hl2 => match us, its, hl, hl2 with | [_, _], [_, _], _, _ => ⟨_, rfl, rfl⟩
theorem b_is_whole_2 (e : Fx K mg) : ∃ ds, Vals (List.drop 0 [.non, .non]) ds ∧ Binds K e.fd_is_whole (["thing", "low", "high"] : List PySem.Str) ds := FunD.binds1 e.F_is_whole 1 0 (fun z => nomatch z) (by decide) fun T kV doc pm an cdv ct us its hl hl2 => match us, its, hl, hl2 with | [_], [_, _], _, _ => ⟨_, rfl, rfl⟩
def td_is_whole (K : PySem.W.Frag) : TSD := (sSeq (sIf (dOr (dTest (dCB (cIsi K) (dCons (dVar 0) (dCons (dC (.ty "bool")) dNil)))) (dNot (dTest (dCB (cIsi K) (dCons (dVar 0) (dCons (dC (.ty "int")) dNil)))))) (sRet (dC (.bl false))) sNext)
      (sRet (dAndV (dOrV (d2 oIsN (dVar 1) (dC .non)) (d2 oLe (dVar 1) (dVar 0))) (dOrV (d2 oIsN (dVar 2) (dC .non)) (d2 oLe (dVar 0) (dVar 2))))))
def p_is_whole (K : PySem.W.Frag) : RCl := fun ds Q => ds.length = 3 ∧ pD 3 (td_is_whole K) ds Q
theorem p_is_whole_len {K : PySem.W.Frag} : ∀ ds Q, p_is_whole K ds Q → ds.length = 3 := fun _ _ h => h.1
theorem p_is_whole_td {K : PySem.W.Frag} : ∀ ds Q, p_is_whole K ds Q → pD 3 (td_is_whole K) ds Q := fun _ _ h => h.2
theorem ok_is_whole (e : Fx K mg) : FnOk P w K mg base CX0 1 (He.ga K ("is_whole" : PySem.Str)) e.fd_is_whole (["thing", "low", "high"] : List PySem.Str) (spD K 3 (p_is_whole K)) := by
  have nd := sc_is_whole.nd
  refine fn_D e.F_is_whole sc_is_whole p_is_whole_td ?_
  intro cdv A outer s H E hr
  exact ⟨_, PSs.nox (pss_cons (ps_if (PW.pt (pw_or (pt_val (pe_callB call_isi rfl e.n_isinstance boot_isinstance' (pa_cons (pv 0) (pa_cons (pe_bltn (v := .ty "bool") rfl e.n_bool boot_bool' rfl) pa_nil)))) (pw_or1 (pt_not (pt_val (pe_callB call_isi rfl e.n_isinstance boot_isinstance' (pa_cons (pv 0) (pa_cons (pe_bltn (v := .ty "int") rfl e.n_int boot_int' rfl) pa_nil)))))))) (pss_one (ps_ret pe_bl)) pss_nil)
      (pss_one (ps_ret (pe_and (pe_or (pe_cmpR op_isN (pv 1) pe_non (nomark _)) (pe_one (pe_cmpR op_le (pv 1) (pv 0) (nomark _)))) (pe_one (pe_or (pe_cmpR op_isN (pv 2) pe_non (nomark _)) (pe_one (pe_cmpR op_le (pv 0) (pv 2) (nomark _))))))))),
    (sd_seq (sd_if (et_or (et_B (ev_cb cl_isi (ea_cons ev_var (ea_cons ev_ty ea_nil)))) (et_not (et_B (ev_cb cl_isi (ea_cons ev_var (ea_cons ev_ty ea_nil)))))) (sd_ret ev_bl) sd_next)
      (sd_ret (ev_andV (ev_orV (ev_op ev_var ev_non od_isN) (ev_op ev_var ev_var od_le)) (ev_orV (ev_op ev_var ev_non od_isN) (ev_op ev_var ev_var od_le)))))⟩
/-! crack_price -/
theorem sc_crack_price : FnScope (["wall", "prices", "places", "index", "spot", "total", "number", "course"] : List PySem.Str) (["wall", "prices", "places"] : List PySem.Str) (defScope (top 31)) := ⟨rfl, rfl, rfl, by decide +kernel, rfl, by decide +kernel, by decide +kernel⟩
theorem b_crack_price (e : Fx K mg) : Binds K e.fd_crack_price (["wall", "prices", "places"] : List PySem.Str) [] := e.F_crack_price.bindsN fun _ _ _ _ _ _ us hl => match us, hl with | [_, _, _], _ => rfl
def lb_crack_price_0 (K : PySem.W.Frag) : TSD := (sIf (dNot (dTest (dCall (p_is_whole K) [] (dCons (dVar 4) (dCons (dC (.int 1)) (dCons (d2 oSub (dFld K ("length" : PySem.Str) (dVar 0)) (dC (.int 1))) dNil)))))) sNever sNext)
def lb_crack_price_1 (K : PySem.W.Frag) : TSD := (sSeq (sIf (dTest (d2 oNin (d2 oIx (dVar 2) (dVar 6)) (dCall (p_joints_of K) [] (dCons (dVar 7) dNil)))) (sAug 5 (fun i j => i + j) (dFld K ("brick" : PySem.Str) (dVar 1))) sNext) (sIf (dTest (d2 oGt (dVar 6) (dC (.int 0)))) (sAug 5 (fun i j => i + j) (d2 oMul (dFld K ("bed" : PySem.Str) (dVar 1)) (dCB cAbs (dCons (d2 oSub (d2 oIx (dVar 2) (dVar 6)) (d2 oIx (dVar 2) (d2 oSub (dVar 6) (dC (.int 1))))) dNil)))) sNext))
def td_crack_price (K : PySem.W.Frag) : TSD := (sSeq (sDrop (dCall (p_check_long K) [] (dCons (dFld K ("length" : PySem.Str) (dVar 0)) dNil)))
      (sSeq (sIf (dOr (dNot (dTest (dIsiT K ["list", "tuple"] (dVar 2)))) (dTest (d2 oNe (dCB1 cLen (dVar 2)) (dCB1 cLen (dFld K ("courses" : PySem.Str) (dVar 0)))))) sNever sNext)
      (sSeq (sFor (iEnumD (dVar 2)) (gdTup 2 (gdCons (gdName 3) (gdCons (gdName 4) gdNil))) (lb_crack_price_0 K))
      (sSeq (sAsg (dC (.int 0)) (gdName 5))
      (sSeq (sFor (iEnumD (dFld K ("courses" : PySem.Str) (dVar 0))) (gdTup 2 (gdCons (gdName 6) (gdCons (gdName 7) gdNil))) (lb_crack_price_1 K))
      (sRet (dVar 5)))))))
def p_crack_price (K : PySem.W.Frag) : RCl := fun ds Q => ds.length = 3 ∧ pD 8 (td_crack_price K) ds Q
theorem p_crack_price_len {K : PySem.W.Frag} : ∀ ds Q, p_crack_price K ds Q → ds.length = 3 := fun _ _ h => h.1
theorem p_crack_price_td {K : PySem.W.Frag} : ∀ ds Q, p_crack_price K ds Q → pD 8 (td_crack_price K) ds Q := fun _ _ h => h.2
theorem ok_crack_price (e : Fx K mg) : FnOk P w K mg base CX0 2 (He.ga K ("crack_price" : PySem.Str)) e.fd_crack_price (["wall", "prices", "places"] : List PySem.Str) (spD K 3 (p_crack_price K)) := by
  have nd := sc_crack_price.nd
  obtain ⟨ds_is_whole_0, rd_is_whole_0, bd_is_whole_0⟩ := b_is_whole_0 e
  refine fn_D e.F_crack_price sc_crack_price p_crack_price_td ?_
  intro cdv A outer s H E hr
  exact ⟨_, PSs.nox (pss_cons (ps_expr (pe_call ((ok_check_long e).mono (by decide : 1 ≤ 1)) hr rfl e.g_check_long e.F_check_long.kp (b_check_long e) .nil pass0 (pa_cons (pe_fld (pv 0) rfl) pa_nil)))
      (pss_cons (ps_if (PW.pt (pw_or (pt_not (pt_val (pe_callB call_isiT rfl e.n_isinstance boot_isinstance' (pa_cons (pv 2) (pa_cons (pe_tup (pa_cons (pe_bltn (v := .ty "list") rfl e.n_list boot_list' rfl) (pa_cons (pe_bltn (v := .ty "tuple") rfl e.n_tuple boot_tuple' rfl) pa_nil))) pa_nil))))) (pw_or1 (pt_cmpR (op_neD hr.units) (pe_callB call_len_seq rfl e.n_len boot_len' (pa_cons (pv 2) pa_nil)) (pe_callB call_len_seq rfl e.n_len boot_len' (pa_cons (pe_fld (pv 0) rfl) pa_nil)) (nomark _))))) (pss_one ps_never) pss_nil)
      (pss_cons (ps_for PassesOwn.never rfl (pi_enumA rfl e.n_enumerate (pa_cons (pv 2) pa_nil)) (pg_tup rfl (pgs_cons (pg_name (i := 3) nd rfl (Or.inl rfl)) (pgs_cons (pg_name (i := 4) nd rfl (Or.inl rfl)) pgs_nil))) (pss_one (ps_if (pt_not (pt_val (pe_call ((ok_is_whole e).mono (by decide : 1 ≤ 1)) hr rfl e.g_is_whole e.F_is_whole.kp bd_is_whole_0 rd_is_whole_0 pass0 (pa_cons (pv 4) (pa_cons pe_int (pa_cons (pe_op op_sub (pe_fld (pv 0) rfl) pe_int) pa_nil)))))) (pss_one ps_never) pss_nil)))
      (pss_cons (ps_set (i := 5) nd rfl (Or.inl rfl) pe_int)
      (pss_cons (ps_for PassesOwn.never rfl (pi_enumA rfl e.n_enumerate (pa_cons (pe_fld (pv 0) rfl) pa_nil)) (pg_tup rfl (pgs_cons (pg_name (i := 6) nd rfl (Or.inl rfl)) (pgs_cons (pg_name (i := 7) nd rfl (Or.inl rfl)) pgs_nil))) (pss_cons (ps_if (pt_cmpR op_notIn_seq (pe_ix ix_any (pv 2) (pv 6) (fun _ _ => rfl)) (pe_call ((ok_joints_of e).mono (by decide : 1 ≤ 1)) hr rfl e.g_joints_of e.F_joints_of.kp (b_joints_of e) .nil pass0 (pa_cons (pv 7) pa_nil)) rfl) (pss_one (ps_aug (i := 5) nd rfl (Or.inl rfl) (pe_fld (pv 1) rfl) ip_add)) pss_nil) (pss_one (ps_if (pt_cmpR op_gt (pv 6) pe_int (nomark _)) (pss_one (ps_aug (i := 5) nd rfl (Or.inl rfl) (pe_op op_mul (pe_fld (pv 1) rfl) (pe_callB call_abs rfl e.n_abs boot_abs' (pa_cons (pe_op op_sub (pe_ix ix_any (pv 2) (pv 6) (fun _ _ => rfl)) (pe_ix ix_any (pv 2) (pe_op op_sub (pv 6) pe_int) (fun _ _ => rfl))) pa_nil))) ip_add)) pss_nil))))
      (pss_one (ps_ret (pv 5)))))))),
    (sd_seq (sd_drop (ev_call (fun _ => Reps.nil) p_check_long_len (ea_cons (ev_fld ev_var) ea_nil)))
      (sd_seq (sd_if (et_or (et_not (et_B (ev_isiT (by decide) (Ev.b ev_var)))) (et_test (ev_op (ev_cb1 cl_len (Ev.b ev_var)) (ev_cb1 cl_len (Ev.b (ev_fld ev_var))) od_ne))) sd_never sd_next)
      (sd_seq (sd_for (ei_enum ev_var) (EGx.eg (eg_tup (egs_cons eg_name (egs_cons eg_name egs_nil)))) (sd_if (et_not (et_B (ev_call (fun _ => Reps.nil) p_is_whole_len (ea_cons ev_var (ea_cons ev_int (ea_cons (ev_op (ev_fld ev_var) ev_int od_sub) ea_nil)))))) sd_never sd_next))
      (sd_seq (sd_asg ev_int eg_name.eg)
      (sd_seq (sd_for (ei_enum (ev_fld ev_var)) (EGx.eg (eg_tup (egs_cons eg_name (egs_cons eg_name egs_nil)))) (sd_seq (sd_if (et_test (ev_op (ev_op ev_var ev_var od_ix) (ev_call (fun _ => Reps.nil) p_joints_of_len (ea_cons ev_var ea_nil)) od_nin)) (sd_aug (ev_fld ev_var)) sd_next) (sd_if (et_test (ev_op ev_var ev_int od_gt)) (sd_aug (ev_op (ev_fld ev_var) (ev_cb cl_abs (ea_cons (ev_op (ev_op ev_var ev_var od_ix) (ev_op ev_var (ev_op ev_var ev_int od_sub) od_ix) od_sub) ea_nil)) od_mul)) sd_next)))
      (sd_ret ev_var))))))⟩
/-! traced_places -/
theorem sc_traced_places : FnScope (["rows", "prices", "at", "places", "number", "beneath", "ahead", "spot"] : List PySem.Str) (["rows", "prices", "at"] : List PySem.Str) (defScope (top 29)) := ⟨rfl, rfl, rfl, by decide +kernel, rfl, by decide +kernel, by decide +kernel⟩
theorem b_traced_places (e : Fx K mg) : Binds K e.fd_traced_places (["rows", "prices", "at"] : List PySem.Str) [] := e.F_traced_places.bindsN fun _ _ _ _ _ _ us hl => match us, hl with | [_, _, _], _ => rfl
def lb_traced_places_0 (K : PySem.W.Frag) : TSD := (sSeq (sAsg (d2 oIx (dVar 0) (dVar 4)) (gdName 5)) (sSeq (sAsg (dLc (iR1 (dCons (dCB1 cLen (dVar 5)) dNil)) (gdName 7) dYes (d2 oAdd (d2 oIx (dVar 5) (dVar 7)) (d2 oMul (dFld K ("bed" : PySem.Str) (dVar 1)) (dCB cAbs (dCons (d2 oSub (dVar 7) (dVar 2)) dNil)))) [7]) (gdName 6)) (sSeq (sAsg (dIndex (dVar 6) (dCB1 cMinL (dVar 6))) (gdName 2)) (sApp 3 (d2 oAdd (dVar 2) (dC (.int 1)))))))
def td_traced_places (K : PySem.W.Frag) : TSD := (sSeq (sAsgN 3 (dLstN (dCons (d2 oAdd (dVar 2) (dC (.int 1))) dNil)))
      (sSeq (sFor (iR3 (dCons (d2 oSub (dCB1 cLen (dVar 0)) (dC (.int 2))) (dCons (dNeg (dC (.int 1))) (dCons (dNeg (dC (.int 1))) dNil)))) (gdName 4) (lb_traced_places_0 K))
      (sRet (dTupRev (dOwn 3)))))
def p_traced_places (K : PySem.W.Frag) : RCl := fun ds Q => ds.length = 3 ∧ pD 8 (td_traced_places K) ds Q
theorem p_traced_places_len {K : PySem.W.Frag} : ∀ ds Q, p_traced_places K ds Q → ds.length = 3 := fun _ _ h => h.1
theorem p_traced_places_td {K : PySem.W.Frag} : ∀ ds Q, p_traced_places K ds Q → pD 8 (td_traced_places K) ds Q := fun _ _ h => h.2
theorem ok_traced_places (e : Fx K mg) : FnOk P w K mg base CX0 1 (He.ga K ("traced_places" : PySem.Str)) e.fd_traced_places (["rows", "prices", "at"] : List PySem.Str) (spD K 3 (p_traced_places K)) := by
  have nd := sc_traced_places.nd
  refine fn_D e.F_traced_places sc_traced_places p_traced_places_td ?_
  intro cdv A outer s H E hr
  exact ⟨_, PSs.nox (pss_cons (ps_set (i := 3) nd rfl (Or.inl rfl) (pe_lst (pa_cons (pe_op op_add (pv 2) pe_int) pa_nil)))
      (pss_cons (ps_for PassesOwn.never rfl (pi_range3 rfl e.n_range (pa_cons (pe_op op_sub (pe_callB call_len_seq rfl e.n_len boot_len' (pa_cons (pv 0) pa_nil)) pe_int) (pa_cons (pe_un un_neg pe_int) (pa_cons (pe_un un_neg pe_int) pa_nil)))) (pg_name (i := 4) nd rfl (Or.inl rfl)) (pss_cons (ps_set (i := 5) nd rfl (Or.inr rfl) (pe_ix ix_any (pv 0) (pv 4) (fun _ _ => rfl))) (pss_cons (ps_setLc (i := 6) (own := [(("spot" : PySem.Str), 7)]) rfl nd rfl rfl (sw_true rfl rfl rfl (by decide +kernel)) (pi_range1 rfl e.n_range (pa_cons (pe_callB call_len_seq rfl e.n_len boot_len' (pa_cons (pv 5) pa_nil)) pa_nil)) (blkOk_by (N := (["rows", "prices", "at", "places", "number", "beneath", "ahead", "spot"] : List PySem.Str)) (sc := defScope (top 29)) (by decide +kernel)) (fun _ _ _ _ _ => (pg_name (i := 7) nd rfl (Or.inl rfl))) (fun _ _ _ _ _ => pts_nil) (fun _ _ _ _ _ => (pe_op op_add (pe_ix ix_any (pv 5) (pv 7) (fun _ _ => rfl)) (pe_op op_mul (pe_fld (pv 1) rfl) (pe_callB call_abs rfl e.n_abs boot_abs' (pa_cons (pe_op op_sub (pv 7) (pv 2)) pa_nil)))))) (pss_cons (ps_set (i := 2) nd rfl (Or.inr rfl) (pe_bm PySem.F.plainAttrs_list PySem.F.slot_list_index PySem.F.type_list_index mt_index (pv 6) (pa_cons (pe_callB (cr_min rfl) rfl e.n_min boot_min' (pa_cons (pv 6) pa_nil)) pa_nil))) (pss_one (ps_expr (pe_bm PySem.F.plainAttrs_list PySem.F.slot_list_append PySem.F.type_list_append mt_append (pv 3) (pa_cons (pe_op op_add (pv 2) pe_int) pa_nil))))))))
      (pss_one (ps_ret (pe_tupRevA rfl rfl e.n_tuple rfl e.n_reversed (pv 3)))))),
    (sd_seq (sd_asgN (by decide) (en_lst (ea_cons (ev_op ev_var ev_int od_add) ea_nil)))
      (sd_seq (sd_for (ei_rng3 (ea_cons (ev_op (ev_cb1 cl_len (Ev.b ev_var)) ev_int od_sub) (ea_cons (ev_neg ev_int) (ea_cons (ev_neg ev_int) ea_nil)))) (EGx.eg eg_name) (sd_seq (sd_asg (ev_op ev_var ev_var od_ix) eg_name.eg) (sd_seq (sd_asg (ev_lc (ei_rng1 (ea_cons (ev_cb1 cl_len (Ev.b ev_var)) ea_nil)) eg_name (gin_name (by decide)) (gdin_name (by decide)) et_yes (ev_op (ev_op ev_var ev_var od_ix) (ev_op (ev_fld ev_var) (ev_cb cl_abs (ea_cons (ev_op ev_var ev_var od_sub) ea_nil)) od_mul) od_add)) eg_name.eg) (sd_seq (sd_asg (ev_index ev_var (ev_cb1 cl_minL (Ev.b ev_var))) eg_name.eg) (sd_app (ev_op ev_var ev_int od_add))))))
      (sd_ret (ev_tupRev ev_own))))⟩
/-! least_crack -/
theorem sc_least_crack : FnScope (["wall", "prices", "rows", "least"] : List PySem.Str) (["wall", "prices"] : List PySem.Str) (defScope (top 32)) := ⟨rfl, rfl, rfl, by decide +kernel, rfl, by decide +kernel, by decide +kernel⟩
theorem b_least_crack (e : Fx K mg) : Binds K e.fd_least_crack (["wall", "prices"] : List PySem.Str) [] := e.F_least_crack.bindsN fun _ _ _ _ _ _ us hl => match us, hl with | [_, _], _ => rfl
def td_least_crack (K : PySem.W.Frag) : TSD := (sSeq (sDrop (dCall (p_check_long K) [] (dCons (dFld K ("length" : PySem.Str) (dVar 0)) dNil)))
      (sSeq (sAsg (dCall (p_sums_through K) [] (dCons (dFld K ("courses" : PySem.Str) (dVar 0)) (dCons (dVar 1) (dCons (dFld K ("length" : PySem.Str) (dVar 0)) dNil)))) (gdName 2))
      (sSeq (sAsg (dCB1 cMinL (d2 oIx (dVar 2) (dNeg (dC (.int 1))))) (gdName 3))
      (sRet (dCall (p_Crack_init K) [] (dCons (dVar 3) (dCons (dCall (p_traced_places K) [] (dCons (dVar 2) (dCons (dVar 1) (dCons (dIndex (d2 oIx (dVar 2) (dNeg (dC (.int 1)))) (dVar 3)) dNil)))) dNil)))))))
def p_least_crack (K : PySem.W.Frag) : RCl := fun ds Q => ds.length = 2 ∧ pD 4 (td_least_crack K) ds Q
theorem p_least_crack_len {K : PySem.W.Frag} : ∀ ds Q, p_least_crack K ds Q → ds.length = 2 := fun _ _ h => h.1
theorem p_least_crack_td {K : PySem.W.Frag} : ∀ ds Q, p_least_crack K ds Q → pD 4 (td_least_crack K) ds Q := fun _ _ h => h.2
theorem ok_least_crack (e : Fx K mg) : FnOk P w K mg base CX0 5 (He.ga K ("least_crack" : PySem.Str)) e.fd_least_crack (["wall", "prices"] : List PySem.Str) (spD K 2 (p_least_crack K)) := by
  have nd := sc_least_crack.nd
  refine fn_D e.F_least_crack sc_least_crack p_least_crack_td ?_
  intro cdv A outer s H E hr
  exact ⟨_, PSs.nox (pss_cons (ps_expr (pe_call ((ok_check_long e).mono (by decide : 1 ≤ 4)) hr rfl e.g_check_long e.F_check_long.kp (b_check_long e) .nil pass0 (pa_cons (pe_fld (pv 0) rfl) pa_nil)))
      (pss_cons (ps_set (i := 2) nd rfl (Or.inl rfl) (pe_call ((ok_sums_through e).mono (by decide : 4 ≤ 4)) hr rfl e.g_sums_through e.F_sums_through.kp (b_sums_through e) .nil pass0 (pa_cons (pe_fld (pv 0) rfl) (pa_cons (pv 1) (pa_cons (pe_fld (pv 0) rfl) pa_nil)))))
      (pss_cons (ps_set (i := 3) nd rfl (Or.inl rfl) (pe_callB (cr_min rfl) rfl e.n_min boot_min' (pa_cons (pe_ix ix_any (pv 2) (pe_un un_neg pe_int) (fun _ _ => rfl)) pa_nil)))
      (pss_one (ps_ret (pe_make e.M_Crack ((ok_Crack_init e).mono (by decide : 1 ≤ 3)) hr rfl e.g_Crack (b_Crack_init e) .nil pass0 (pa_cons (pv 3) (pa_cons (pe_call ((ok_traced_places e).mono (by decide : 1 ≤ 4)) hr rfl e.g_traced_places e.F_traced_places.kp (b_traced_places e) .nil pass0 (pa_cons (pv 2) (pa_cons (pv 1) (pa_cons (pe_bm PySem.F.plainAttrs_list PySem.F.slot_list_index PySem.F.type_list_index mt_index (pe_ix ix_any (pv 2) (pe_un un_neg pe_int) (fun _ _ => rfl)) (pa_cons (pv 3) pa_nil)) pa_nil)))) pa_nil)))))))),
    (sd_seq (sd_drop (ev_call (fun _ => Reps.nil) p_check_long_len (ea_cons (ev_fld ev_var) ea_nil)))
      (sd_seq (sd_asg (ev_call (fun _ => Reps.nil) p_sums_through_len (ea_cons (ev_fld ev_var) (ea_cons ev_var (ea_cons (ev_fld ev_var) ea_nil)))) eg_name.eg)
      (sd_seq (sd_asg (ev_cb1 cl_minL (Ev.b (ev_op ev_var (ev_neg ev_int) od_ix))) eg_name.eg)
      (sd_ret (ev_make (fun _ => Reps.nil) p_Crack_init_len (ea_cons ev_var (ea_cons (ev_call (fun _ => Reps.nil) p_traced_places_len (ea_cons ev_var (ea_cons ev_var (ea_cons (ev_index (ev_op ev_var (ev_neg ev_int) od_ix) ev_var) ea_nil)))) ea_nil)))))))⟩
/-! crack_from -/
theorem sc_crack_from : FnScope (["wall", "prices", "place", "rows", "places"] : List PySem.Str) (["wall", "prices", "place"] : List PySem.Str) (defScope (top 33)) := ⟨rfl, rfl, rfl, by decide +kernel, rfl, by decide +kernel, by decide +kernel⟩
theorem b_crack_from (e : Fx K mg) : Binds K e.fd_crack_from (["wall", "prices", "place"] : List PySem.Str) [] := e.F_crack_from.bindsN fun _ _ _ _ _ _ us hl => match us, hl with | [_, _, _], _ => rfl
def td_crack_from (K : PySem.W.Frag) : TSD := (sSeq (sDrop (dCall (p_check_long K) [] (dCons (dFld K ("length" : PySem.Str) (dVar 0)) dNil)))
      (sSeq (sIf (dNot (dTest (dCall (p_is_whole K) [] (dCons (dVar 2) (dCons (dC (.int 1)) (dCons (d2 oSub (dFld K ("length" : PySem.Str) (dVar 0)) (dC (.int 1))) dNil)))))) sNever sNext)
      (sSeq (sAsg (dCall (p_sums_through K) [] (dCons (dRev (dFld K ("courses" : PySem.Str) (dVar 0))) (dCons (dVar 1) (dCons (dFld K ("length" : PySem.Str) (dVar 0)) dNil)))) (gdName 3))
      (sSeq (sAsg (dCall (p_traced_places K) [] (dCons (dVar 3) (dCons (dVar 1) (dCons (d2 oSub (dVar 2) (dC (.int 1))) dNil)))) (gdName 4))
      (sRet (dCall (p_Crack_init K) [] (dCons (d2 oIx (d2 oIx (dVar 3) (dNeg (dC (.int 1)))) (d2 oSub (dVar 2) (dC (.int 1)))) (dCons (dRev (dVar 4)) dNil))))))))
def p_crack_from (K : PySem.W.Frag) : RCl := fun ds Q => ds.length = 3 ∧ pD 5 (td_crack_from K) ds Q
theorem p_crack_from_len {K : PySem.W.Frag} : ∀ ds Q, p_crack_from K ds Q → ds.length = 3 := fun _ _ h => h.1
theorem p_crack_from_td {K : PySem.W.Frag} : ∀ ds Q, p_crack_from K ds Q → pD 5 (td_crack_from K) ds Q := fun _ _ h => h.2
theorem ok_crack_from (e : Fx K mg) : FnOk P w K mg base CX0 5 (He.ga K ("crack_from" : PySem.Str)) e.fd_crack_from (["wall", "prices", "place"] : List PySem.Str) (spD K 3 (p_crack_from K)) := by
  have nd := sc_crack_from.nd
  obtain ⟨ds_is_whole_0, rd_is_whole_0, bd_is_whole_0⟩ := b_is_whole_0 e
  refine fn_D e.F_crack_from sc_crack_from p_crack_from_td ?_
  intro cdv A outer s H E hr
  exact ⟨_, PSs.nox (pss_cons (ps_expr (pe_call ((ok_check_long e).mono (by decide : 1 ≤ 4)) hr rfl e.g_check_long e.F_check_long.kp (b_check_long e) .nil pass0 (pa_cons (pe_fld (pv 0) rfl) pa_nil)))
      (pss_cons (ps_if (pt_not (pt_val (pe_call ((ok_is_whole e).mono (by decide : 1 ≤ 4)) hr rfl e.g_is_whole e.F_is_whole.kp bd_is_whole_0 rd_is_whole_0 pass0 (pa_cons (pv 2) (pa_cons pe_int (pa_cons (pe_op op_sub (pe_fld (pv 0) rfl) pe_int) pa_nil)))))) (pss_one ps_never) pss_nil)
      (pss_cons (ps_set (i := 3) nd rfl (Or.inl rfl) (pe_call ((ok_sums_through e).mono (by decide : 4 ≤ 4)) hr rfl e.g_sums_through e.F_sums_through.kp (b_sums_through e) .nil pass0 (pa_cons (pe_revA (pe_fld (pv 0) rfl)) (pa_cons (pv 1) (pa_cons (pe_fld (pv 0) rfl) pa_nil)))))
      (pss_cons (ps_set (i := 4) nd rfl (Or.inl rfl) (pe_call ((ok_traced_places e).mono (by decide : 1 ≤ 4)) hr rfl e.g_traced_places e.F_traced_places.kp (b_traced_places e) .nil pass0 (pa_cons (pv 3) (pa_cons (pv 1) (pa_cons (pe_op op_sub (pv 2) pe_int) pa_nil)))))
      (pss_one (ps_ret (pe_make e.M_Crack ((ok_Crack_init e).mono (by decide : 1 ≤ 3)) hr rfl e.g_Crack (b_Crack_init e) .nil pass0 (pa_cons (pe_ix ix_any (pe_ix ix_any (pv 3) (pe_un un_neg pe_int) (fun _ _ => rfl)) (pe_op op_sub (pv 2) pe_int) (fun _ _ => rfl)) (pa_cons (pe_revA (pv 4)) pa_nil))))))))),
    (sd_seq (sd_drop (ev_call (fun _ => Reps.nil) p_check_long_len (ea_cons (ev_fld ev_var) ea_nil)))
      (sd_seq (sd_if (et_not (et_B (ev_call (fun _ => Reps.nil) p_is_whole_len (ea_cons ev_var (ea_cons ev_int (ea_cons (ev_op (ev_fld ev_var) ev_int od_sub) ea_nil)))))) sd_never sd_next)
      (sd_seq (sd_asg (ev_call (fun _ => Reps.nil) p_sums_through_len (ea_cons (ev_rev (Ev.b (ev_fld ev_var))) (ea_cons ev_var (ea_cons (ev_fld ev_var) ea_nil)))) eg_name.eg)
      (sd_seq (sd_asg (ev_call (fun _ => Reps.nil) p_traced_places_len (ea_cons ev_var (ea_cons ev_var (ea_cons (ev_op ev_var ev_int od_sub) ea_nil)))) eg_name.eg)
      (sd_ret (ev_make (fun _ => Reps.nil) p_Crack_init_len (ea_cons (ev_op (ev_op ev_var (ev_neg ev_int) od_ix) (ev_op ev_var ev_int od_sub) od_ix) (ea_cons (ev_rev (Ev.b ev_var)) ea_nil))))))))⟩
/-! counted_place -/
theorem sc_counted_place : FnScope (["table", "at", "price", "bed", "ahead", "least", "spot", "row"] : List PySem.Str) (["table", "at", "price", "bed"] : List PySem.Str) (defScope (top 35)) := ⟨rfl, rfl, rfl, by decide +kernel, rfl, by decide +kernel, by decide +kernel⟩
theorem b_counted_place (e : Fx K mg) : Binds K e.fd_counted_place (["table", "at", "price", "bed"] : List PySem.Str) [] := e.F_counted_place.bindsN fun _ _ _ _ _ _ us hl => match us, hl with | [_, _, _, _], _ => rfl
def td_counted_place (K : PySem.W.Frag) : TSD := (sSeq (sAsg (dLc (iR1 (dCons (dCB1 cLen (dVar 0)) dNil)) (gdName 6) dYes (dTup (dCons (d2 oAdd (d2 oIx (d2 oIx (dVar 0) (dVar 6)) (dC (.int 0))) (d2 oMul (dVar 3) (dCB cAbs (dCons (d2 oSub (dVar 6) (dVar 1)) dNil)))) (dCons (d2 oIx (d2 oIx (dVar 0) (dVar 6)) (dC (.int 1))) dNil))) [6]) (gdName 4))
      (sSeq (sAsg (dCB1 cMinL (dLc (iSeq (dVar 4)) (gdName 7) dYes (d2 oIx (dVar 7) (dC (.int 0))) [7])) (gdName 5))
      (sRet (dTup (dCons (d2 oAdd (dVar 5) (dVar 2)) (dCons (dCB1 cSum (dLc (iSeq (dVar 4)) (gdName 7) (dTest (d2 oEq (d2 oIx (dVar 7) (dC (.int 0))) (dVar 5))) (d2 oIx (dVar 7) (dC (.int 1))) [7])) dNil))))))
def p_counted_place (K : PySem.W.Frag) : RCl := fun ds Q => ds.length = 4 ∧ pD 8 (td_counted_place K) ds Q
theorem p_counted_place_len {K : PySem.W.Frag} : ∀ ds Q, p_counted_place K ds Q → ds.length = 4 := fun _ _ h => h.1
theorem p_counted_place_td {K : PySem.W.Frag} : ∀ ds Q, p_counted_place K ds Q → pD 8 (td_counted_place K) ds Q := fun _ _ h => h.2
theorem ok_counted_place (e : Fx K mg) : FnOk P w K mg base CX0 1 (He.ga K ("counted_place" : PySem.Str)) e.fd_counted_place (["table", "at", "price", "bed"] : List PySem.Str) (spD K 4 (p_counted_place K)) := by
  have nd := sc_counted_place.nd
  refine fn_D e.F_counted_place sc_counted_place p_counted_place_td ?_
  intro cdv A outer s H E hr
  exact ⟨_, PSs.nox (pss_cons (ps_setLc (i := 4) (own := [(("spot" : PySem.Str), 6)]) rfl nd rfl rfl (sw_true rfl rfl rfl (by decide +kernel)) (pi_range1 rfl e.n_range (pa_cons (pe_callB call_len_seq rfl e.n_len boot_len' (pa_cons (pv 0) pa_nil)) pa_nil)) (blkOk_by (N := (["table", "at", "price", "bed", "ahead", "least", "spot", "row"] : List PySem.Str)) (sc := defScope (top 35)) (by decide +kernel)) (fun _ _ _ _ _ => (pg_name (i := 6) nd rfl (Or.inl rfl))) (fun _ _ _ _ _ => pts_nil) (fun _ _ _ _ _ => (pe_tup (pa_cons (pe_op op_add (pe_ix ix_any (pe_ix ix_any (pv 0) (pv 6) (fun _ _ => rfl)) pe_int (fun _ _ => rfl)) (pe_op op_mul (pv 3) (pe_callB call_abs rfl e.n_abs boot_abs' (pa_cons (pe_op op_sub (pv 6) (pv 1)) pa_nil)))) (pa_cons (pe_ix ix_any (pe_ix ix_any (pv 0) (pv 6) (fun _ _ => rfl)) pe_int (fun _ _ => rfl)) pa_nil)))))
      (pss_cons (ps_set (i := 5) nd rfl (Or.inr rfl) (pe_callB (cr_min rfl) rfl e.n_min boot_min' (pa_cons (pe_lc (own := [(("row" : PySem.Str), 7)]) rfl nd (pi_any (pv 4)) (blkOk_by (N := (["table", "at", "price", "bed", "ahead", "least", "spot", "row"] : List PySem.Str)) (sc := defScope (top 35)) (by decide +kernel)) (fun _ _ _ _ _ => (pg_name (i := 7) nd rfl (Or.inl rfl))) (fun _ _ _ _ _ => pts_nil) (fun _ _ _ _ _ => (pe_ix ix_any (pv 7) pe_int (fun _ _ => rfl)))) pa_nil)))
      (pss_one (ps_ret (pe_tup (pa_cons (pe_op op_add (pv 5) (pv 2)) (pa_cons (pe_callB (call_or (cr_sum rfl) (cr_sumT rfl)) rfl e.n_sum boot_sum' (pa_cons (pe_lc (own := [(("row" : PySem.Str), 7)]) rfl nd (pi_any (pv 4)) (blkOk_by (N := (["table", "at", "price", "bed", "ahead", "least", "spot", "row"] : List PySem.Str)) (sc := defScope (top 35)) (by decide +kernel)) (fun _ _ _ _ _ => (pg_name (i := 7) nd rfl (Or.inl rfl))) (fun _ _ _ _ _ => pts_one (pt_cmpR (op_eqD hr.units) (pe_ix ix_any (pv 7) pe_int (fun _ _ => rfl)) (pv 5) (nomark _))) (fun _ _ _ _ _ => (pe_ix ix_any (pv 7) pe_int (fun _ _ => rfl)))) pa_nil)) pa_nil))))))),
    (sd_seq (sd_asg (ev_lc (ei_rng1 (ea_cons (ev_cb1 cl_len (Ev.b ev_var)) ea_nil)) eg_name (gin_name (by decide)) (gdin_name (by decide)) et_yes (ev_tup (ea_cons (ev_op (ev_op (ev_op ev_var ev_var od_ix) ev_int od_ix) (ev_op ev_var (ev_cb cl_abs (ea_cons (ev_op ev_var ev_var od_sub) ea_nil)) od_mul) od_add) (ea_cons (ev_op (ev_op ev_var ev_var od_ix) ev_int od_ix) ea_nil)))) eg_name.eg)
      (sd_seq (sd_asg (ev_cb1 cl_minL (Ev.b (ev_lc (ei_any ev_var) eg_name (gin_name (by decide)) (gdin_name (by decide)) et_yes (ev_op ev_var ev_int od_ix)))) eg_name.eg)
      (sd_ret (ev_tup (ea_cons (ev_op ev_var ev_var od_add) (ea_cons (ev_cb1 cl_sum (Ev.b (ev_lc (ei_any ev_var) eg_name (gin_name (by decide)) (gdin_name (by decide)) (et_test (ev_op (ev_op ev_var ev_int od_ix) ev_var od_eq)) (ev_op ev_var ev_int od_ix)))) ea_nil))))))⟩
/-! count_cracks -/
theorem sc_count_cracks : FnScope (["wall", "prices", "table", "course", "own", "least", "price", "at", "row"] : List PySem.Str) (["wall", "prices"] : List PySem.Str) (defScope (top 36)) := ⟨rfl, rfl, rfl, by decide +kernel, rfl, by decide +kernel, by decide +kernel⟩
theorem b_count_cracks (e : Fx K mg) : Binds K e.fd_count_cracks (["wall", "prices"] : List PySem.Str) [] := e.F_count_cracks.bindsN fun _ _ _ _ _ _ us hl => match us, hl with | [_, _], _ => rfl
def lb_count_cracks_0 (K : PySem.W.Frag) : TSD := (sSeq (sAsg (dCall (p_place_prices K) [] (dCons (dVar 3) (dCons (dVar 1) (dCons (dFld K ("length" : PySem.Str) (dVar 0)) dNil)))) (gdName 4)) (sAsg (dLc (iR1 (dCons (dCB1 cLen (dVar 4)) dNil)) (gdName 7) dYes (dCall (p_counted_place K) [] (dCons (dVar 2) (dCons (dVar 7) (dCons (d2 oIx (dVar 4) (dVar 7)) (dCons (dFld K ("bed" : PySem.Str) (dVar 1)) dNil))))) [7]) (gdName 2)))
def td_count_cracks (K : PySem.W.Frag) : TSD := (sSeq (sDrop (dCall (p_check_long K) [] (dCons (dFld K ("length" : PySem.Str) (dVar 0)) dNil)))
      (sSeq (sAsg (dLc (iSeq (dCall (p_place_prices K) [] (dCons (d2 oIx (dFld K ("courses" : PySem.Str) (dVar 0)) (dC (.int 0))) (dCons (dVar 1) (dCons (dFld K ("length" : PySem.Str) (dVar 0)) dNil))))) (gdName 6) dYes (dTup (dCons (dVar 6) (dCons (dC (.int 1)) dNil))) [6]) (gdName 2))
      (sSeq (sFor (iSeq (dSl (dFld K ("courses" : PySem.Str) (dVar 0)) (dPart (dC (.int 1))) dNoPart)) (gdName 3) (lb_count_cracks_0 K))
      (sSeq (sAsg (dCB1 cMinL (dLc (iSeq (dVar 2)) (gdName 8) dYes (d2 oIx (dVar 8) (dC (.int 0))) [8])) (gdName 5))
      (sRet (dTup (dCons (dVar 5) (dCons (dCB1 cSum (dLc (iSeq (dVar 2)) (gdName 8) (dTest (d2 oEq (d2 oIx (dVar 8) (dC (.int 0))) (dVar 5))) (d2 oIx (dVar 8) (dC (.int 1))) [8])) dNil))))))))
def p_count_cracks (K : PySem.W.Frag) : RCl := fun ds Q => ds.length = 2 ∧ pD 9 (td_count_cracks K) ds Q
theorem p_count_cracks_len {K : PySem.W.Frag} : ∀ ds Q, p_count_cracks K ds Q → ds.length = 2 := fun _ _ h => h.1
theorem p_count_cracks_td {K : PySem.W.Frag} : ∀ ds Q, p_count_cracks K ds Q → pD 9 (td_count_cracks K) ds Q := fun _ _ h => h.2
theorem ok_count_cracks (e : Fx K mg) : FnOk P w K mg base CX0 3 (He.ga K ("count_cracks" : PySem.Str)) e.fd_count_cracks (["wall", "prices"] : List PySem.Str) (spD K 2 (p_count_cracks K)) := by
  have nd := sc_count_cracks.nd
  refine fn_D e.F_count_cracks sc_count_cracks p_count_cracks_td ?_
  intro cdv A outer s H E hr
  exact ⟨_, PSs.nox (pss_cons (ps_expr (pe_call ((ok_check_long e).mono (by decide : 1 ≤ 2)) hr rfl e.g_check_long e.F_check_long.kp (b_check_long e) .nil pass0 (pa_cons (pe_fld (pv 0) rfl) pa_nil)))
      (pss_cons (ps_set (i := 2) nd rfl (Or.inr rfl) (pe_lc (own := [(("price" : PySem.Str), 6)]) rfl nd (pi_any (pe_call ((ok_place_prices e).mono (by decide : 2 ≤ 2)) hr rfl e.g_place_prices e.F_place_prices.kp (b_place_prices e) .nil pass0 (pa_cons (pe_ix ix_any (pe_fld (pv 0) rfl) pe_int (fun _ _ => rfl)) (pa_cons (pv 1) (pa_cons (pe_fld (pv 0) rfl) pa_nil))))) (blkOk_by (N := (["wall", "prices", "table", "course", "own", "least", "price", "at", "row"] : List PySem.Str)) (sc := defScope (top 36)) (by decide +kernel)) (fun _ _ _ _ _ => (pg_name (i := 6) nd rfl (Or.inl rfl))) (fun _ _ _ _ _ => pts_nil) (fun _ _ _ _ _ => (pe_tup (pa_cons (pv 6) (pa_cons pe_int pa_nil))))))
      (pss_cons (ps_for PassesOwn.never rfl (pi_any (pe_slice sl_any (pe_fld (pv 0) rfl) (po_some pe_int) po_none)) (pg_name (i := 3) nd rfl (Or.inl rfl)) (pss_cons (ps_set (i := 4) nd rfl (Or.inr rfl) (pe_call ((ok_place_prices e).mono (by decide : 2 ≤ 2)) hr rfl e.g_place_prices e.F_place_prices.kp (b_place_prices e) .nil pass0 (pa_cons (pv 3) (pa_cons (pv 1) (pa_cons (pe_fld (pv 0) rfl) pa_nil))))) (pss_one (ps_set (i := 2) nd rfl (Or.inr rfl) (pe_lc (own := [(("at" : PySem.Str), 7)]) rfl nd (pi_range1 rfl e.n_range (pa_cons (pe_callB call_len_seq rfl e.n_len boot_len' (pa_cons (pv 4) pa_nil)) pa_nil)) (blkOk_by (N := (["wall", "prices", "table", "course", "own", "least", "price", "at", "row"] : List PySem.Str)) (sc := defScope (top 36)) (by decide +kernel)) (fun _ _ _ _ _ => (pg_name (i := 7) nd rfl (Or.inl rfl))) (fun _ _ _ _ _ => pts_nil) (fun _ _ _ _ _ => (pe_call ((ok_counted_place e).mono (by decide : 1 ≤ 2)) hr rfl e.g_counted_place e.F_counted_place.kp (b_counted_place e) .nil pass0 (pa_cons (pv 2) (pa_cons (pv 7) (pa_cons (pe_ix ix_any (pv 4) (pv 7) (fun _ _ => rfl)) (pa_cons (pe_fld (pv 1) rfl) pa_nil)))))))))))
      (pss_cons (ps_set (i := 5) nd rfl (Or.inr rfl) (pe_callB (cr_min rfl) rfl e.n_min boot_min' (pa_cons (pe_lc (own := [(("row" : PySem.Str), 8)]) rfl nd (pi_any (pv 2)) (blkOk_by (N := (["wall", "prices", "table", "course", "own", "least", "price", "at", "row"] : List PySem.Str)) (sc := defScope (top 36)) (by decide +kernel)) (fun _ _ _ _ _ => (pg_name (i := 8) nd rfl (Or.inl rfl))) (fun _ _ _ _ _ => pts_nil) (fun _ _ _ _ _ => (pe_ix ix_any (pv 8) pe_int (fun _ _ => rfl)))) pa_nil)))
      (pss_one (ps_ret (pe_tup (pa_cons (pv 5) (pa_cons (pe_callB (call_or (cr_sum rfl) (cr_sumT rfl)) rfl e.n_sum boot_sum' (pa_cons (pe_lc (own := [(("row" : PySem.Str), 8)]) rfl nd (pi_any (pv 2)) (blkOk_by (N := (["wall", "prices", "table", "course", "own", "least", "price", "at", "row"] : List PySem.Str)) (sc := defScope (top 36)) (by decide +kernel)) (fun _ _ _ _ _ => (pg_name (i := 8) nd rfl (Or.inl rfl))) (fun _ _ _ _ _ => pts_one (pt_cmpR (op_eqD hr.units) (pe_ix ix_any (pv 8) pe_int (fun _ _ => rfl)) (pv 5) (nomark _))) (fun _ _ _ _ _ => (pe_ix ix_any (pv 8) pe_int (fun _ _ => rfl)))) pa_nil)) pa_nil))))))))),
    (sd_seq (sd_drop (ev_call (fun _ => Reps.nil) p_check_long_len (ea_cons (ev_fld ev_var) ea_nil)))
      (sd_seq (sd_asg (ev_lc (ei_any (ev_call (fun _ => Reps.nil) p_place_prices_len (ea_cons (ev_op (ev_fld ev_var) ev_int od_ix) (ea_cons ev_var (ea_cons (ev_fld ev_var) ea_nil))))) eg_name (gin_name (by decide)) (gdin_name (by decide)) et_yes (ev_tup (ea_cons ev_var (ea_cons ev_int ea_nil)))) eg_name.eg)
      (sd_seq (sd_for (ei_any (ev_sl (ev_fld ev_var) (eo_part ev_int) eo_no)) (EGx.eg eg_name) (sd_seq (sd_asg (ev_call (fun _ => Reps.nil) p_place_prices_len (ea_cons ev_var (ea_cons ev_var (ea_cons (ev_fld ev_var) ea_nil)))) eg_name.eg) (sd_asg (ev_lc (ei_rng1 (ea_cons (ev_cb1 cl_len (Ev.b ev_var)) ea_nil)) eg_name (gin_name (by decide)) (gdin_name (by decide)) et_yes (ev_call (fun _ => Reps.nil) p_counted_place_len (ea_cons ev_var (ea_cons ev_var (ea_cons (ev_op ev_var ev_var od_ix) (ea_cons (ev_fld ev_var) ea_nil)))))) eg_name.eg)))
      (sd_seq (sd_asg (ev_cb1 cl_minL (Ev.b (ev_lc (ei_any ev_var) eg_name (gin_name (by decide)) (gdin_name (by decide)) et_yes (ev_op ev_var ev_int od_ix)))) eg_name.eg)
      (sd_ret (ev_tup (ea_cons ev_var (ea_cons (ev_cb1 cl_sum (Ev.b (ev_lc (ei_any ev_var) eg_name (gin_name (by decide)) (gdin_name (by decide)) (et_test (ev_op (ev_op ev_var ev_int od_ix) ev_var od_eq)) (ev_op ev_var ev_int od_ix)))) ea_nil))))))))⟩
/-! floor_bound -/
theorem sc_floor_bound : FnScope (["numbers"] : List PySem.Str) (["numbers"] : List PySem.Str) (defScope (top 40)) := ⟨rfl, rfl, rfl, by decide +kernel, rfl, by decide +kernel, by decide +kernel⟩
theorem b_floor_bound (e : Fx K mg) : Binds K e.fd_floor_bound (["numbers"] : List PySem.Str) [] := e.F_floor_bound.bindsN fun _ _ _ _ _ _ us hl => match us, hl with | [_], _ => rfl
def td_floor_bound (K : PySem.W.Frag) : TSD := (sRet (dCB1 cMinL (d2 oIx (dVar 0) (dNeg (dC (.int 1))))))
def p_floor_bound (K : PySem.W.Frag) : RCl := fun ds Q => ds.length = 1 ∧ pD 1 (td_floor_bound K) ds Q
theorem p_floor_bound_len {K : PySem.W.Frag} : ∀ ds Q, p_floor_bound K ds Q → ds.length = 1 := fun _ _ h => h.1
theorem p_floor_bound_td {K : PySem.W.Frag} : ∀ ds Q, p_floor_bound K ds Q → pD 1 (td_floor_bound K) ds Q := fun _ _ h => h.2
theorem ok_floor_bound (e : Fx K mg) : FnOk P w K mg base CX0 1 (He.ga K ("floor_bound" : PySem.Str)) e.fd_floor_bound (["numbers"] : List PySem.Str) (spD K 1 (p_floor_bound K)) := by
  have nd := sc_floor_bound.nd
  refine fn_D e.F_floor_bound sc_floor_bound p_floor_bound_td ?_
  intro cdv A outer s H E hr
  exact ⟨_, PSs.nox (pss_one (ps_ret (pe_callB (cr_min rfl) rfl e.n_min boot_min' (pa_cons (pe_ix ix_any (pv 0) (pe_un un_neg pe_int) (fun _ _ => rfl)) pa_nil)))),
    (sd_ret (ev_cb1 cl_minL (Ev.b (ev_op ev_var (ev_neg ev_int) od_ix))))⟩
/-! are_number_rows -/
theorem sc_are_number_rows : FnScope (["numbers", "many", "wide", "row", "one"] : List PySem.Str) (["numbers", "many", "wide"] : List PySem.Str) (defScope (top 38)) := ⟨rfl, rfl, rfl, by decide +kernel, rfl, by decide +kernel, by decide +kernel⟩
theorem b_are_number_rows (e : Fx K mg) : Binds K e.fd_are_number_rows (["numbers", "many", "wide"] : List PySem.Str) [] := e.F_are_number_rows.bindsN fun _ _ _ _ _ _ us hl => match us, hl with | [_, _, _], _ => rfl
def lb_are_number_rows_0 (K : PySem.W.Frag) : TSD := (sSeq (sIf (dOr (dNot (dTest (dIsiT K ["list", "tuple"] (dVar 3)))) (dTest (d2 oNe (dCB1 cLen (dVar 3)) (dVar 2)))) (sRet (dC (.bl false))) sNext) (sIf (dNot (dTest (dCB1 cAll (dLc (iSeq (dVar 3)) (gdName 4) dYes (dCall (p_is_whole K) [.non, .non] (dCons (dVar 4) dNil)) [4])))) (sRet (dC (.bl false))) sNext))
def td_are_number_rows (K : PySem.W.Frag) : TSD := (sSeq (sIf (dOr (dNot (dTest (dIsiT K ["list", "tuple"] (dVar 0)))) (dTest (d2 oNe (dCB1 cLen (dVar 0)) (dVar 1)))) (sRet (dC (.bl false))) sNext)
      (sSeq (sFor (iSeq (dVar 0)) (gdName 3) (lb_are_number_rows_0 K))
      (sRet (dC (.bl true)))))
def p_are_number_rows (K : PySem.W.Frag) : RCl := fun ds Q => ds.length = 3 ∧ pD 5 (td_are_number_rows K) ds Q
theorem p_are_number_rows_len {K : PySem.W.Frag} : ∀ ds Q, p_are_number_rows K ds Q → ds.length = 3 := fun _ _ h => h.1
theorem p_are_number_rows_td {K : PySem.W.Frag} : ∀ ds Q, p_are_number_rows K ds Q → pD 5 (td_are_number_rows K) ds Q := fun _ _ h => h.2
theorem ok_are_number_rows (e : Fx K mg) : FnOk P w K mg base CX0 2 (He.ga K ("are_number_rows" : PySem.Str)) e.fd_are_number_rows (["numbers", "many", "wide"] : List PySem.Str) (spD K 3 (p_are_number_rows K)) := by
  have nd := sc_are_number_rows.nd
  obtain ⟨ds_is_whole_2, rd_is_whole_2, bd_is_whole_2⟩ := b_is_whole_2 e
  refine fn_D e.F_are_number_rows sc_are_number_rows p_are_number_rows_td ?_
  intro cdv A outer s H E hr
  exact ⟨_, PSs.nox (pss_cons (ps_if (PW.pt (pw_or (pt_not (pt_val (pe_callB call_isiT rfl e.n_isinstance boot_isinstance' (pa_cons (pv 0) (pa_cons (pe_tup (pa_cons (pe_bltn (v := .ty "list") rfl e.n_list boot_list' rfl) (pa_cons (pe_bltn (v := .ty "tuple") rfl e.n_tuple boot_tuple' rfl) pa_nil))) pa_nil))))) (pw_or1 (pt_cmpR (op_neD hr.units) (pe_callB call_len_seq rfl e.n_len boot_len' (pa_cons (pv 0) pa_nil)) (pv 1) (nomark _))))) (pss_one (ps_ret pe_bl)) pss_nil)
      (pss_cons (ps_for PassesOwn.never rfl (pi_any (pv 0)) (pg_name (i := 3) nd rfl (Or.inl rfl)) (pss_cons (ps_if (PW.pt (pw_or (pt_not (pt_val (pe_callB call_isiT rfl e.n_isinstance boot_isinstance' (pa_cons (pv 3) (pa_cons (pe_tup (pa_cons (pe_bltn (v := .ty "list") rfl e.n_list boot_list' rfl) (pa_cons (pe_bltn (v := .ty "tuple") rfl e.n_tuple boot_tuple' rfl) pa_nil))) pa_nil))))) (pw_or1 (pt_cmpR (op_neD hr.units) (pe_callB call_len_seq rfl e.n_len boot_len' (pa_cons (pv 3) pa_nil)) (pv 2) (nomark _))))) (pss_one (ps_ret pe_bl)) pss_nil) (pss_one (ps_if (pt_not (pt_val (pe_callB (cr_all rfl) rfl e.n_all boot_all' (pa_cons (pe_lc (own := [(("one" : PySem.Str), 4)]) rfl nd (pi_any (pv 3)) (blkOk_by (N := (["numbers", "many", "wide", "row", "one"] : List PySem.Str)) (sc := defScope (top 38)) (by decide +kernel)) (fun _ _ _ _ _ => (pg_name (i := 4) nd rfl (Or.inl rfl))) (fun _ _ _ _ _ => pts_nil) (fun _ _ _ _ _ => (pe_call ((ok_is_whole e).mono (by decide : 1 ≤ 1)) hr rfl e.g_is_whole e.F_is_whole.kp bd_is_whole_2 rd_is_whole_2 pass0 (pa_cons (pv 4) pa_nil)))) pa_nil)))) (pss_one (ps_ret pe_bl)) pss_nil))))
      (pss_one (ps_ret pe_bl)))),
    (sd_seq (sd_if (et_or (et_not (et_B (ev_isiT (by decide) (Ev.b ev_var)))) (et_test (ev_op (ev_cb1 cl_len (Ev.b ev_var)) ev_var od_ne))) (sd_ret ev_bl) sd_next)
      (sd_seq (sd_for (ei_any ev_var) (EGx.eg eg_name) (sd_seq (sd_if (et_or (et_not (et_B (ev_isiT (by decide) (Ev.b ev_var)))) (et_test (ev_op (ev_cb1 cl_len (Ev.b ev_var)) ev_var od_ne))) (sd_ret ev_bl) sd_next) (sd_if (et_not (et_B (ev_cb1 cl_all (Ev.b (ev_lc (ei_any ev_var) eg_name (gin_name (by decide)) (gdin_name (by decide)) et_yes (ev_call (fun _ => (Reps.cons rep_non (Reps.cons rep_non Reps.nil))) p_is_whole_len (ea_cons ev_var ea_nil))))))) (sd_ret ev_bl) sd_next)))
      (sd_ret ev_bl)))⟩
/-! is_above -/
theorem sc_is_above : FnScope (["row", "bounds", "at"] : List PySem.Str) (["row", "bounds"] : List PySem.Str) (defScope (top 39)) := ⟨rfl, rfl, rfl, by decide +kernel, rfl, by decide +kernel, by decide +kernel⟩
theorem b_is_above (e : Fx K mg) : Binds K e.fd_is_above (["row", "bounds"] : List PySem.Str) [] := e.F_is_above.bindsN fun _ _ _ _ _ _ us hl => match us, hl with | [_, _], _ => rfl
def td_is_above (K : PySem.W.Frag) : TSD := (sRet (dCB1 cAny (dLc (iR1 (dCons (dCB1 cLen (dVar 1)) dNil)) (gdName 2) dYes (d2 oGt (d2 oIx (dVar 0) (dVar 2)) (d2 oIx (dVar 1) (dVar 2))) [2])))
def p_is_above (K : PySem.W.Frag) : RCl := fun ds Q => ds.length = 2 ∧ pD 3 (td_is_above K) ds Q
theorem p_is_above_len {K : PySem.W.Frag} : ∀ ds Q, p_is_above K ds Q → ds.length = 2 := fun _ _ h => h.1
theorem p_is_above_td {K : PySem.W.Frag} : ∀ ds Q, p_is_above K ds Q → pD 3 (td_is_above K) ds Q := fun _ _ h => h.2
theorem ok_is_above (e : Fx K mg) : FnOk P w K mg base CX0 1 (He.ga K ("is_above" : PySem.Str)) e.fd_is_above (["row", "bounds"] : List PySem.Str) (spD K 2 (p_is_above K)) := by
  have nd := sc_is_above.nd
  refine fn_D e.F_is_above sc_is_above p_is_above_td ?_
  intro cdv A outer s H E hr
  exact ⟨_, PSs.nox (pss_one (ps_ret (pe_callB (cr_any rfl) rfl e.n_any boot_any' (pa_cons (pe_lc (own := [(("at" : PySem.Str), 2)]) rfl nd (pi_range1 rfl e.n_range (pa_cons (pe_callB call_len_seq rfl e.n_len boot_len' (pa_cons (pv 1) pa_nil)) pa_nil)) (blkOk_by (N := (["row", "bounds", "at"] : List PySem.Str)) (sc := defScope (top 39)) (by decide +kernel)) (fun _ _ _ _ _ => (pg_name (i := 2) nd rfl (Or.inl rfl))) (fun _ _ _ _ _ => pts_nil) (fun _ _ _ _ _ => (pe_cmpR op_gt (pe_ix ix_any (pv 0) (pv 2) (fun _ _ => rfl)) (pe_ix ix_any (pv 1) (pv 2) (fun _ _ => rfl)) (nomark _)))) pa_nil)))),
    (sd_ret (ev_cb1 cl_any (Ev.b (ev_lc (ei_rng1 (ea_cons (ev_cb1 cl_len (Ev.b ev_var)) ea_nil)) eg_name (gin_name (by decide)) (gdin_name (by decide)) et_yes (ev_op (ev_op ev_var ev_var od_ix) (ev_op ev_var ev_var od_ix) od_gt)))))⟩
/-! floor_fault -/
theorem sc_floor_fault : FnScope (["wall", "prices", "numbers", "at"] : List PySem.Str) (["wall", "prices", "numbers"] : List PySem.Str) (defScope (top 41)) := ⟨rfl, rfl, rfl, by decide +kernel, rfl, by decide +kernel, by decide +kernel⟩
theorem b_floor_fault (e : Fx K mg) : Binds K e.fd_floor_fault (["wall", "prices", "numbers"] : List PySem.Str) [] := e.F_floor_fault.bindsN fun _ _ _ _ _ _ us hl => match us, hl with | [_, _, _], _ => rfl
def lb_floor_fault_0 (K : PySem.W.Frag) : TSD := (sIf (dTest (dCall (p_is_above K) [] (dCons (d2 oIx (dVar 2) (dVar 3)) (dCons (dCall (p_next_sums K) [] (dCons (d2 oIx (dVar 2) (d2 oSub (dVar 3) (dC (.int 1)))) (dCons (d2 oIx (dFld K ("courses" : PySem.Str) (dVar 0)) (dVar 3)) (dCons (dVar 1) (dCons (dFld K ("length" : PySem.Str) (dVar 0)) dNil))))) dNil)))) sNever sNext)
def td_floor_fault (K : PySem.W.Frag) : TSD := (sSeq (sDrop (dCall (p_check_long K) [] (dCons (dFld K ("length" : PySem.Str) (dVar 0)) dNil)))
      (sSeq (sIf (dNot (dTest (dCall (p_are_number_rows K) [] (dCons (dVar 2) (dCons (dCB1 cLen (dFld K ("courses" : PySem.Str) (dVar 0))) (dCons (d2 oSub (dFld K ("length" : PySem.Str) (dVar 0)) (dC (.int 1))) dNil)))))) sNever sNext)
      (sSeq (sIf (dTest (dCall (p_is_above K) [] (dCons (d2 oIx (dVar 2) (dC (.int 0))) (dCons (dCall (p_place_prices K) [] (dCons (d2 oIx (dFld K ("courses" : PySem.Str) (dVar 0)) (dC (.int 0))) (dCons (dVar 1) (dCons (dFld K ("length" : PySem.Str) (dVar 0)) dNil)))) dNil)))) sNever sNext)
      (sSeq (sFor (iR2 (dCons (dC (.int 1)) (dCons (dCB1 cLen (dVar 2)) dNil))) (gdName 3) (lb_floor_fault_0 K))
      (sRet (dC .non))))))
def p_floor_fault (K : PySem.W.Frag) : RCl := fun ds Q => ds.length = 3 ∧ pD 4 (td_floor_fault K) ds Q
theorem p_floor_fault_len {K : PySem.W.Frag} : ∀ ds Q, p_floor_fault K ds Q → ds.length = 3 := fun _ _ h => h.1
theorem p_floor_fault_td {K : PySem.W.Frag} : ∀ ds Q, p_floor_fault K ds Q → pD 4 (td_floor_fault K) ds Q := fun _ _ h => h.2
theorem ok_floor_fault (e : Fx K mg) : FnOk P w K mg base CX0 4 (He.ga K ("floor_fault" : PySem.Str)) e.fd_floor_fault (["wall", "prices", "numbers"] : List PySem.Str) (spD K 3 (p_floor_fault K)) := by
  have nd := sc_floor_fault.nd
  refine fn_D e.F_floor_fault sc_floor_fault p_floor_fault_td ?_
  intro cdv A outer s H E hr
  exact ⟨_, PSs.nox (pss_cons (ps_expr (pe_call ((ok_check_long e).mono (by decide : 1 ≤ 3)) hr rfl e.g_check_long e.F_check_long.kp (b_check_long e) .nil pass0 (pa_cons (pe_fld (pv 0) rfl) pa_nil)))
      (pss_cons (ps_if (pt_not (pt_val (pe_call ((ok_are_number_rows e).mono (by decide : 2 ≤ 3)) hr rfl e.g_are_number_rows e.F_are_number_rows.kp (b_are_number_rows e) .nil pass0 (pa_cons (pv 2) (pa_cons (pe_callB call_len_seq rfl e.n_len boot_len' (pa_cons (pe_fld (pv 0) rfl) pa_nil)) (pa_cons (pe_op op_sub (pe_fld (pv 0) rfl) pe_int) pa_nil)))))) (pss_one ps_never) pss_nil)
      (pss_cons (ps_if (pt_val (pe_call ((ok_is_above e).mono (by decide : 1 ≤ 3)) hr rfl e.g_is_above e.F_is_above.kp (b_is_above e) .nil pass0 (pa_cons (pe_ix ix_any (pv 2) pe_int (fun _ _ => rfl)) (pa_cons (pe_call ((ok_place_prices e).mono (by decide : 2 ≤ 3)) hr rfl e.g_place_prices e.F_place_prices.kp (b_place_prices e) .nil pass0 (pa_cons (pe_ix ix_any (pe_fld (pv 0) rfl) pe_int (fun _ _ => rfl)) (pa_cons (pv 1) (pa_cons (pe_fld (pv 0) rfl) pa_nil)))) pa_nil)))) (pss_one ps_never) pss_nil)
      (pss_cons (ps_for PassesOwn.never rfl (pi_range2 rfl e.n_range (pa_cons pe_int (pa_cons (pe_callB call_len_seq rfl e.n_len boot_len' (pa_cons (pv 2) pa_nil)) pa_nil))) (pg_name (i := 3) nd rfl (Or.inl rfl)) (pss_one (ps_if (pt_val (pe_call ((ok_is_above e).mono (by decide : 1 ≤ 3)) hr rfl e.g_is_above e.F_is_above.kp (b_is_above e) .nil pass0 (pa_cons (pe_ix ix_any (pv 2) (pv 3) (fun _ _ => rfl)) (pa_cons (pe_call ((ok_next_sums e).mono (by decide : 3 ≤ 3)) hr rfl e.g_next_sums e.F_next_sums.kp (b_next_sums e) .nil pass0 (pa_cons (pe_ix ix_any (pv 2) (pe_op op_sub (pv 3) pe_int) (fun _ _ => rfl)) (pa_cons (pe_ix ix_any (pe_fld (pv 0) rfl) (pv 3) (fun _ _ => rfl)) (pa_cons (pv 1) (pa_cons (pe_fld (pv 0) rfl) pa_nil))))) pa_nil)))) (pss_one ps_never) pss_nil)))
      (pss_one (ps_ret pe_non)))))),
    (sd_seq (sd_drop (ev_call (fun _ => Reps.nil) p_check_long_len (ea_cons (ev_fld ev_var) ea_nil)))
      (sd_seq (sd_if (et_not (et_B (ev_call (fun _ => Reps.nil) p_are_number_rows_len (ea_cons ev_var (ea_cons (ev_cb1 cl_len (Ev.b (ev_fld ev_var))) (ea_cons (ev_op (ev_fld ev_var) ev_int od_sub) ea_nil)))))) sd_never sd_next)
      (sd_seq (sd_if (et_B (ev_call (fun _ => Reps.nil) p_is_above_len (ea_cons (ev_op ev_var ev_int od_ix) (ea_cons (ev_call (fun _ => Reps.nil) p_place_prices_len (ea_cons (ev_op (ev_fld ev_var) ev_int od_ix) (ea_cons ev_var (ea_cons (ev_fld ev_var) ea_nil)))) ea_nil)))) sd_never sd_next)
      (sd_seq (sd_for (ei_rng2 (ea_cons ev_int (ea_cons (ev_cb1 cl_len (Ev.b ev_var)) ea_nil))) (EGx.eg eg_name) (sd_if (et_B (ev_call (fun _ => Reps.nil) p_is_above_len (ea_cons (ev_op ev_var ev_var od_ix) (ea_cons (ev_call (fun _ => Reps.nil) p_next_sums_len (ea_cons (ev_op ev_var (ev_op ev_var ev_int od_sub) od_ix) (ea_cons (ev_op (ev_fld ev_var) ev_var od_ix) (ea_cons ev_var (ea_cons (ev_fld ev_var) ea_nil))))) ea_nil)))) sd_never sd_next))
      (sd_ret ev_non)))))⟩
/-! crack_fault -/
theorem sc_crack_fault : FnScope (["wall", "prices", "crack", "due"] : List PySem.Str) (["wall", "prices", "crack"] : List PySem.Str) (defScope (top 42)) := ⟨rfl, rfl, rfl, by decide +kernel, rfl, by decide +kernel, by decide +kernel⟩
theorem b_crack_fault (e : Fx K mg) : Binds K e.fd_crack_fault (["wall", "prices", "crack"] : List PySem.Str) [] := e.F_crack_fault.bindsN fun _ _ _ _ _ _ us hl => match us, hl with | [_, _, _], _ => rfl
def td_crack_fault (K : PySem.W.Frag) : TSD := (sSeq (sDrop (dCall (p_check_long K) [] (dCons (dFld K ("length" : PySem.Str) (dVar 0)) dNil)))
      (sSeq (sAsg (dCall (p_crack_price K) [] (dCons (dVar 0) (dCons (dVar 1) (dCons (dFld K ("places" : PySem.Str) (dVar 2)) dNil)))) (gdName 3))
      (sSeq (sIf (dOr (dNot (dTest (dCall (p_is_whole K) [.non, .non] (dCons (dFld K ("price" : PySem.Str) (dVar 2)) dNil)))) (dTest (d2 oNe (dFld K ("price" : PySem.Str) (dVar 2)) (dVar 3)))) sNever sNext)
      (sRet (dC .non)))))
def p_crack_fault (K : PySem.W.Frag) : RCl := fun ds Q => ds.length = 3 ∧ pD 4 (td_crack_fault K) ds Q
theorem p_crack_fault_len {K : PySem.W.Frag} : ∀ ds Q, p_crack_fault K ds Q → ds.length = 3 := fun _ _ h => h.1
theorem p_crack_fault_td {K : PySem.W.Frag} : ∀ ds Q, p_crack_fault K ds Q → pD 4 (td_crack_fault K) ds Q := fun _ _ h => h.2
theorem ok_crack_fault (e : Fx K mg) : FnOk P w K mg base CX0 3 (He.ga K ("crack_fault" : PySem.Str)) e.fd_crack_fault (["wall", "prices", "crack"] : List PySem.Str) (spD K 3 (p_crack_fault K)) := by
  have nd := sc_crack_fault.nd
  obtain ⟨ds_is_whole_2, rd_is_whole_2, bd_is_whole_2⟩ := b_is_whole_2 e
  refine fn_D e.F_crack_fault sc_crack_fault p_crack_fault_td ?_
  intro cdv A outer s H E hr
  exact ⟨_, PSs.nox (pss_cons (ps_expr (pe_call ((ok_check_long e).mono (by decide : 1 ≤ 2)) hr rfl e.g_check_long e.F_check_long.kp (b_check_long e) .nil pass0 (pa_cons (pe_fld (pv 0) rfl) pa_nil)))
      (pss_cons (ps_try_thru0 (pss_one (ps_set (i := 3) nd rfl (Or.inl rfl) (pe_call ((ok_crack_price e).mono (by decide : 2 ≤ 2)) hr rfl e.g_crack_price e.F_crack_price.kp (b_crack_price e) .nil pass0 (pa_cons (pv 0) (pa_cons (pv 1) (pa_cons (pe_fld (pv 2) rfl) pa_nil)))))))
      (pss_cons (ps_if (PW.pt (pw_or (pt_not (pt_val (pe_call ((ok_is_whole e).mono (by decide : 1 ≤ 2)) hr rfl e.g_is_whole e.F_is_whole.kp bd_is_whole_2 rd_is_whole_2 pass0 (pa_cons (pe_fld (pv 2) rfl) pa_nil)))) (pw_or1 (pt_cmpR (op_neD hr.units) (pe_fld (pv 2) rfl) (pv 3) (nomark _))))) (pss_one ps_never) pss_nil)
      (pss_one (ps_ret pe_non))))),
    (sd_seq (sd_drop (ev_call (fun _ => Reps.nil) p_check_long_len (ea_cons (ev_fld ev_var) ea_nil)))
      (sd_seq (sd_asg (ev_call (fun _ => Reps.nil) p_crack_price_len (ea_cons ev_var (ea_cons ev_var (ea_cons (ev_fld ev_var) ea_nil)))) eg_name.eg)
      (sd_seq (sd_if (et_or (et_not (et_B (ev_call (fun _ => (Reps.cons rep_non (Reps.cons rep_non Reps.nil))) p_is_whole_len (ea_cons (ev_fld ev_var) ea_nil)))) (et_test (ev_op (ev_fld ev_var) ev_var od_ne))) sd_never sd_next)
      (sd_ret ev_non))))⟩
/-! least_fault -/
theorem sc_least_fault : FnScope (["wall", "prices", "crack", "numbers", "fault"] : List PySem.Str) (["wall", "prices", "crack", "numbers"] : List PySem.Str) (defScope (top 43)) := ⟨rfl, rfl, rfl, by decide +kernel, rfl, by decide +kernel, by decide +kernel⟩
theorem b_least_fault (e : Fx K mg) : Binds K e.fd_least_fault (["wall", "prices", "crack", "numbers"] : List PySem.Str) [] := e.F_least_fault.bindsN fun _ _ _ _ _ _ us hl => match us, hl with | [_, _, _, _], _ => rfl
def td_least_fault (K : PySem.W.Frag) : TSD := (sSeq (sAsg (dCall (p_crack_fault K) [] (dCons (dVar 0) (dCons (dVar 1) (dCons (dVar 2) dNil)))) (gdName 4))
      (sSeq (sIf (dTest (d2 oIsN (dVar 4) (dC .non))) (sAsg (dCall (p_floor_fault K) [] (dCons (dVar 0) (dCons (dVar 1) (dCons (dVar 3) dNil)))) (gdName 4)) sNext)
      (sSeq (sIf (dAnd (dTest (d2 oIsN (dVar 4) (dC .non))) (dTest (d2 oLt (dCall (p_floor_bound K) [] (dCons (dVar 3) dNil)) (dFld K ("price" : PySem.Str) (dVar 2))))) sNever sNext)
      (sRet (dVar 4)))))
def p_least_fault (K : PySem.W.Frag) : RCl := fun ds Q => ds.length = 4 ∧ pD 5 (td_least_fault K) ds Q
theorem p_least_fault_len {K : PySem.W.Frag} : ∀ ds Q, p_least_fault K ds Q → ds.length = 4 := fun _ _ h => h.1
theorem p_least_fault_td {K : PySem.W.Frag} : ∀ ds Q, p_least_fault K ds Q → pD 5 (td_least_fault K) ds Q := fun _ _ h => h.2
theorem ok_least_fault (e : Fx K mg) : FnOk P w K mg base CX0 5 (He.ga K ("least_fault" : PySem.Str)) e.fd_least_fault (["wall", "prices", "crack", "numbers"] : List PySem.Str) (spD K 4 (p_least_fault K)) := by
  have nd := sc_least_fault.nd
  refine fn_D e.F_least_fault sc_least_fault p_least_fault_td ?_
  intro cdv A outer s H E hr
  exact ⟨_, PSs.nox (pss_cons (ps_set (i := 4) nd rfl (Or.inl rfl) (pe_call ((ok_crack_fault e).mono (by decide : 3 ≤ 4)) hr rfl e.g_crack_fault e.F_crack_fault.kp (b_crack_fault e) .nil pass0 (pa_cons (pv 0) (pa_cons (pv 1) (pa_cons (pv 2) pa_nil)))))
      (pss_cons (ps_if (pt_cmpR op_isN (pv 4) pe_non (nomark _)) (pss_one (ps_set (i := 4) nd rfl (Or.inl rfl) (pe_call ((ok_floor_fault e).mono (by decide : 4 ≤ 4)) hr rfl e.g_floor_fault e.F_floor_fault.kp (b_floor_fault e) .nil pass0 (pa_cons (pv 0) (pa_cons (pv 1) (pa_cons (pv 3) pa_nil)))))) pss_nil)
      (pss_cons (ps_if (PW.pt (pw_and (pt_cmpR op_isN (pv 4) pe_non (nomark _)) (pw_and1 (pt_cmpR op_lt (pe_call ((ok_floor_bound e).mono (by decide : 1 ≤ 4)) hr rfl e.g_floor_bound e.F_floor_bound.kp (b_floor_bound e) .nil pass0 (pa_cons (pv 3) pa_nil)) (pe_fld (pv 2) rfl) (nomark _))))) (pss_one ps_never) pss_nil)
      (pss_one (ps_ret (pv 4)))))),
    (sd_seq (sd_asg (ev_call (fun _ => Reps.nil) p_crack_fault_len (ea_cons ev_var (ea_cons ev_var (ea_cons ev_var ea_nil)))) eg_name.eg)
      (sd_seq (sd_if (et_test (ev_op ev_var ev_non od_isN)) (sd_asg (ev_call (fun _ => Reps.nil) p_floor_fault_len (ea_cons ev_var (ea_cons ev_var (ea_cons ev_var ea_nil)))) eg_name.eg) sd_next)
      (sd_seq (sd_if (et_and (et_test (ev_op ev_var ev_non od_isN)) (et_test (ev_op (ev_call (fun _ => Reps.nil) p_floor_bound_len (ea_cons ev_var ea_nil)) (ev_fld ev_var) od_lt))) sd_never sd_next)
      (sd_ret ev_var))))⟩
/-! mirrored_course -/
theorem sc_mirrored_course : FnScope (["course"] : List PySem.Str) (["course"] : List PySem.Str) (defScope (top 19)) := ⟨rfl, rfl, rfl, by decide +kernel, rfl, by decide +kernel, by decide +kernel⟩
theorem b_mirrored_course (e : Fx K mg) : Binds K e.fd_mirrored_course (["course"] : List PySem.Str) [] := e.F_mirrored_course.bindsN fun _ _ _ _ _ _ us hl => match us, hl with | [_], _ => rfl
def td_mirrored_course (K : PySem.W.Frag) : TSD := (sRet (dTupRev (dVar 0)))
def p_mirrored_course (K : PySem.W.Frag) : RCl := fun ds Q => ds.length = 1 ∧ pD 1 (td_mirrored_course K) ds Q
theorem p_mirrored_course_len {K : PySem.W.Frag} : ∀ ds Q, p_mirrored_course K ds Q → ds.length = 1 := fun _ _ h => h.1
theorem p_mirrored_course_td {K : PySem.W.Frag} : ∀ ds Q, p_mirrored_course K ds Q → pD 1 (td_mirrored_course K) ds Q := fun _ _ h => h.2
theorem ok_mirrored_course (e : Fx K mg) : FnOk P w K mg base CX0 1 (He.ga K ("mirrored_course" : PySem.Str)) e.fd_mirrored_course (["course"] : List PySem.Str) (spD K 1 (p_mirrored_course K)) := by
  have nd := sc_mirrored_course.nd
  refine fn_D e.F_mirrored_course sc_mirrored_course p_mirrored_course_td ?_
  intro cdv A outer s H E hr
  exact ⟨_, PSs.nox (pss_one (ps_ret (pe_tupRevA rfl rfl e.n_tuple rfl e.n_reversed (pv 0)))),
    (sd_ret (ev_tupRev (Ev.b ev_var)))⟩
/-! check_course -/
theorem sc_check_course : FnScope (["stock", "course", "index", "brick"] : List PySem.Str) (["stock", "course"] : List PySem.Str) (defScope (top 17)) := ⟨rfl, rfl, rfl, by decide +kernel, rfl, by decide +kernel, by decide +kernel⟩
theorem b_check_course (e : Fx K mg) : Binds K e.fd_check_course (["stock", "course"] : List PySem.Str) [] := e.F_check_course.bindsN fun _ _ _ _ _ _ us hl => match us, hl with | [_, _], _ => rfl
def lb_check_course_0 (K : PySem.W.Frag) : TSD := (sIf (dOr (dNot (dTest (dCall (p_is_whole K) [.non, .non] (dCons (dVar 3) dNil)))) (dTest (d2 oNin (dVar 3) (dFld K ("bricks" : PySem.Str) (dVar 0))))) sNever sNext)
def td_check_course (K : PySem.W.Frag) : TSD := (sSeq (sIf (dOr (dNot (dTest (dIsiT K ["list", "tuple"] (dVar 1)))) (dNot (dTest (dChain oLe oLe (dC (.int 1)) (dCB1 cLen (dVar 1)) (dC (.int 400)))))) sNever sNext)
      (sSeq (sFor (iEnumD (dVar 1)) (gdTup 2 (gdCons (gdName 2) (gdCons (gdName 3) gdNil))) (lb_check_course_0 K))
      (sSeq (sIf (dTest (d2 oGt (dCB1 cSum (dVar 1)) (dC (.int 400)))) sNever sNext)
      (sRet (dCB1 cTuple (dVar 1))))))
def p_check_course (K : PySem.W.Frag) : RCl := fun ds Q => ds.length = 2 ∧ pD 4 (td_check_course K) ds Q
theorem p_check_course_len {K : PySem.W.Frag} : ∀ ds Q, p_check_course K ds Q → ds.length = 2 := fun _ _ h => h.1
theorem p_check_course_td {K : PySem.W.Frag} : ∀ ds Q, p_check_course K ds Q → pD 4 (td_check_course K) ds Q := fun _ _ h => h.2
theorem ok_check_course (e : Fx K mg) : FnOk P w K mg base CX0 2 (He.ga K ("check_course" : PySem.Str)) e.fd_check_course (["stock", "course"] : List PySem.Str) (spD K 2 (p_check_course K)) := by
  have nd := sc_check_course.nd
  obtain ⟨ds_is_whole_2, rd_is_whole_2, bd_is_whole_2⟩ := b_is_whole_2 e
  refine fn_D e.F_check_course sc_check_course p_check_course_td ?_
  intro cdv A outer s H E hr
  exact ⟨_, PSs.nox (pss_cons (ps_if (PW.pt (pw_or (pt_not (pt_val (pe_callB call_isiT rfl e.n_isinstance boot_isinstance' (pa_cons (pv 1) (pa_cons (pe_tup (pa_cons (pe_bltn (v := .ty "list") rfl e.n_list boot_list' rfl) (pa_cons (pe_bltn (v := .ty "tuple") rfl e.n_tuple boot_tuple' rfl) pa_nil))) pa_nil))))) (pw_or1 (pt_not (pt_chain op_le op_le pe_int (pe_callB call_len_seq rfl e.n_len boot_len' (pa_cons (pv 1) pa_nil)) (pe_int_of rfl e.i_LONGEST_COURSE)))))) (pss_one ps_never) pss_nil)
      (pss_cons (ps_for PassesOwn.never rfl (pi_enumA rfl e.n_enumerate (pa_cons (pv 1) pa_nil)) (pg_tup rfl (pgs_cons (pg_name (i := 2) nd rfl (Or.inl rfl)) (pgs_cons (pg_name (i := 3) nd rfl (Or.inl rfl)) pgs_nil))) (pss_one (ps_if (PW.pt (pw_or (pt_not (pt_val (pe_call ((ok_is_whole e).mono (by decide : 1 ≤ 1)) hr rfl e.g_is_whole e.F_is_whole.kp bd_is_whole_2 rd_is_whole_2 pass0 (pa_cons (pv 3) pa_nil)))) (pw_or1 (pt_cmpR op_notIn_seq (pv 3) (pe_fld (pv 0) rfl) rfl)))) (pss_one ps_never) pss_nil)))
      (pss_cons (ps_if (pt_cmpR op_gt (pe_callB (call_or (cr_sum rfl) (cr_sumT rfl)) rfl e.n_sum boot_sum' (pa_cons (pv 1) pa_nil)) (pe_int_of rfl e.i_LONGEST_COURSE) (nomark _)) (pss_one ps_never) pss_nil)
      (pss_one (ps_ret (pe_callTy call_tuple_of rfl e.n_tuple boot_tuple' (pa_cons (pv 1) pa_nil))))))),
    (sd_seq (sd_if (et_or (et_not (et_B (ev_isiT (by decide) (Ev.b ev_var)))) (et_not (et_test (ev_chain ev_int (ev_cb1 cl_len (Ev.b ev_var)) ev_int od_le od_le)))) sd_never sd_next)
      (sd_seq (sd_for (ei_enum ev_var) (EGx.eg (eg_tup (egs_cons eg_name (egs_cons eg_name egs_nil)))) (sd_if (et_or (et_not (et_B (ev_call (fun _ => (Reps.cons rep_non (Reps.cons rep_non Reps.nil))) p_is_whole_len (ea_cons ev_var ea_nil)))) (et_test (ev_op ev_var (ev_fld ev_var) od_nin))) sd_never sd_next))
      (sd_seq (sd_if (et_test (ev_op (ev_cb1 cl_sum (Ev.b ev_var)) ev_int od_gt)) sd_never sd_next)
      (sd_ret (ev_cb1 cl_tuple (Ev.b ev_var))))))⟩
/-! Wall.__init__ -/
theorem sc_Wall_init : FnScope (["self", "stock", "courses", "rows", "index", "course", "told"] : List PySem.Str) (["self", "stock", "courses"] : List PySem.Str) (defScope (inClass (top 54) 0)) := ⟨rfl, rfl, rfl, by decide +kernel, rfl, by decide +kernel, by decide +kernel⟩
theorem b_Wall_init (e : Fx K mg) : Binds K e.fd_Wall_init (["self", "stock", "courses"] : List PySem.Str) [] := e.F_Wall_init.bindsN fun _ _ _ _ _ _ us hl => match us, hl with | [_, _, _], _ => rfl
def lb_Wall_init_0 (K : PySem.W.Frag) : TSD := (sSeq (sAsg (dCall (p_check_course K) [] (dCons (dVar 1) (dCons (dVar 5) dNil))) (gdName 6)) (sSeq (sIf (dAnd (dTru (dOwn 3)) (dTest (d2 oNe (dCB1 cSum (dVar 6)) (dCB1 cSum (d2O oIx 3 (dC (.int 0))))))) sNever sNext) (sApp 3 (dVar 6))))
def td_Wall_init (K : PySem.W.Frag) : TSD := (sSeq (sIf (dOr (dNot (dTest (dIsiT K ["list", "tuple"] (dVar 2)))) (dNot (dTest (dChain oLe oLe (dC (.int 1)) (dCB1 cLen (dVar 2)) (dC (.int 60)))))) sNever sNext)
      (sSeq (sAsgN 3 (dLstN dNil))
      (sSeq (sFor (iEnumD (dVar 2)) (gdTup 2 (gdCons (gdName 4) (gdCons (gdName 5) gdNil))) (lb_Wall_init_0 K))
      (sSeq (sFldS K ("stock" : PySem.Str) (dVar 1))
      (sSeq (sFldS K ("courses" : PySem.Str) (dCB1 cTuple (dOwn 3)))
      (sFldS K ("length" : PySem.Str) (dCB1 cSum (d2O oIx 3 (dC (.int 0))))))))))
def p_Wall_init (K : PySem.W.Frag) : RCl := fun ds Q => ds.length = 2 ∧ pI 7 (He.ga K ("Wall" : PySem.Str)) (td_Wall_init K) ds Q
theorem p_Wall_init_len {K : PySem.W.Frag} : ∀ ds Q, p_Wall_init K ds Q → ds.length = 2 := fun _ _ h => h.1
theorem p_Wall_init_td {K : PySem.W.Frag} : ∀ ds Q, p_Wall_init K ds Q → pI 7 (He.ga K ("Wall" : PySem.Str)) (td_Wall_init K) ds Q := fun _ _ h => h.2
theorem ok_Wall_init (e : Fx K mg) : FnOk P w K mg base CX0 3 (He.ma K (He.ga K ("Wall" : PySem.Str)) ("__init__" : PySem.Str)) e.fd_Wall_init (["self", "stock", "courses"] : List PySem.Str) (spI K (He.ga K ("Wall" : PySem.Str)) 2 (p_Wall_init K)) := by
  have nd := sc_Wall_init.nd
  refine fn_I e.F_Wall_init sc_Wall_init rfl p_Wall_init_td ?_
  intro cdv A outer s H E hr
  exact ⟨_, PSs.nox (pss_cons (ps_if (PW.pt (pw_or (pt_not (pt_val (pe_callB call_isiT rfl e.n_isinstance boot_isinstance' (pa_cons (pv 2) (pa_cons (pe_tup (pa_cons (pe_bltn (v := .ty "list") rfl e.n_list boot_list' rfl) (pa_cons (pe_bltn (v := .ty "tuple") rfl e.n_tuple boot_tuple' rfl) pa_nil))) pa_nil))))) (pw_or1 (pt_not (pt_chain op_le op_le pe_int (pe_callB call_len_seq rfl e.n_len boot_len' (pa_cons (pv 2) pa_nil)) (pe_int_of rfl e.i_MOST_COURSES)))))) (pss_one ps_never) pss_nil)
      (pss_cons (ps_set (i := 3) nd rfl (Or.inl rfl) (pe_lst pa_nil))
      (pss_cons (ps_for PassesOwn.never rfl (pi_enumA rfl e.n_enumerate (pa_cons (pv 2) pa_nil)) (pg_tup rfl (pgs_cons (pg_name (i := 4) nd rfl (Or.inl rfl)) (pgs_cons (pg_name (i := 5) nd rfl (Or.inl rfl)) pgs_nil))) (pss_cons (ps_try_thru0 (pss_one (ps_set (i := 6) nd rfl (Or.inl rfl) (pe_call ((ok_check_course e).mono (by decide : 2 ≤ 2)) hr rfl e.g_check_course e.F_check_course.kp (b_check_course e) .nil pass0 (pa_cons (pv 1) (pa_cons (pv 5) pa_nil)))))) (pss_cons (ps_if (PW.pt (pw_and (pt_truth (pv 3) (fun _ => rfl)) (pw_and1 (pt_cmpR (op_neD hr.units) (pe_callB (call_or (cr_sum rfl) (cr_sumT rfl)) rfl e.n_sum boot_sum' (pa_cons (pv 6) pa_nil)) (pe_callB (call_or (cr_sum rfl) (cr_sumT rfl)) rfl e.n_sum boot_sum' (pa_cons (pe_ix ix_any (pv 3) pe_int (fun _ _ => rfl)) pa_nil)) (nomark _))))) (pss_one ps_never) pss_nil) (pss_one (ps_expr (pe_bm PySem.F.plainAttrs_list PySem.F.slot_list_append PySem.F.type_list_append mt_append (pv 3) (pa_cons (pv 6) pa_nil)))))))
      (pss_cons (ps_fld (pv 0) (pv 1) rfl)
      (pss_cons (ps_fld (pv 0) (pe_callTy call_tuple_of rfl e.n_tuple boot_tuple' (pa_cons (pv 3) pa_nil)) rfl)
      (pss_one (ps_fld (pv 0) (pe_callB (call_or (cr_sum rfl) (cr_sumT rfl)) rfl e.n_sum boot_sum' (pa_cons (pe_ix ix_any (pv 3) pe_int (fun _ _ => rfl)) pa_nil)) rfl))))))),
    (sd_seq (sd_if (et_or (et_not (et_B (ev_isiT (by decide) (Ev.b ev_var)))) (et_not (et_test (ev_chain ev_int (ev_cb1 cl_len (Ev.b ev_var)) ev_int od_le od_le)))) sd_never sd_next)
      (sd_seq (sd_asgN (by decide) (en_lst ea_nil))
      (sd_seq (sd_for (ei_enum ev_var) (EGx.eg (eg_tup (egs_cons eg_name (egs_cons eg_name egs_nil)))) (sd_seq (sd_asg (ev_call (fun _ => Reps.nil) p_check_course_len (ea_cons ev_var (ea_cons ev_var ea_nil))) eg_name.eg) (sd_seq (sd_if (et_and (et_tru ev_own) (et_test (ev_op (ev_cb1 cl_sum (Ev.b ev_var)) (ev_cb1 cl_sum (Ev.b (ev_opO ev_int od_ix))) od_ne))) sd_never sd_next) (sd_app ev_var))))
      (sd_seq (sd_fld ev_var)
      (sd_seq (sd_fld (ev_cb1 cl_tuple ev_own))
      (sd_fld (ev_cb1 cl_sum (Ev.b (ev_opO ev_int od_ix)))))))))⟩
/-! wall_mirrored -/
theorem sc_wall_mirrored : FnScope (["wall", "course"] : List PySem.Str) (["wall"] : List PySem.Str) (defScope (top 60)) := ⟨rfl, rfl, rfl, by decide +kernel, rfl, by decide +kernel, by decide +kernel⟩
theorem b_wall_mirrored (e : Fx K mg) : Binds K e.fd_wall_mirrored (["wall"] : List PySem.Str) [] := e.F_wall_mirrored.bindsN fun _ _ _ _ _ _ us hl => match us, hl with | [_], _ => rfl
def td_wall_mirrored (K : PySem.W.Frag) : TSD := (sRet (dCall (p_Wall_init K) [] (dCons (dFld K ("stock" : PySem.Str) (dVar 0)) (dCons (dLc (iSeq (dFld K ("courses" : PySem.Str) (dVar 0))) (gdName 1) dYes (dCall (p_mirrored_course K) [] (dCons (dVar 1) dNil)) [1]) dNil))))
def p_wall_mirrored (K : PySem.W.Frag) : RCl := fun ds Q => ds.length = 1 ∧ pD 2 (td_wall_mirrored K) ds Q
theorem p_wall_mirrored_len {K : PySem.W.Frag} : ∀ ds Q, p_wall_mirrored K ds Q → ds.length = 1 := fun _ _ h => h.1
theorem p_wall_mirrored_td {K : PySem.W.Frag} : ∀ ds Q, p_wall_mirrored K ds Q → pD 2 (td_wall_mirrored K) ds Q := fun _ _ h => h.2
theorem ok_wall_mirrored (e : Fx K mg) : FnOk P w K mg base CX0 5 (He.ga K ("wall_mirrored" : PySem.Str)) e.fd_wall_mirrored (["wall"] : List PySem.Str) (spD K 1 (p_wall_mirrored K)) := by
  have nd := sc_wall_mirrored.nd
  refine fn_D e.F_wall_mirrored sc_wall_mirrored p_wall_mirrored_td ?_
  intro cdv A outer s H E hr
  exact ⟨_, PSs.nox (pss_one (ps_ret (pe_make e.M_Wall ((ok_Wall_init e).mono (by decide : 3 ≤ 3)) hr rfl e.g_Wall (b_Wall_init e) .nil pass0 (pa_cons (pe_fld (pv 0) rfl) (pa_cons (pe_lc (own := [(("course" : PySem.Str), 1)]) rfl nd (pi_any (pe_fld (pv 0) rfl)) (blkOk_by (N := (["wall", "course"] : List PySem.Str)) (sc := defScope (top 60)) (by decide +kernel)) (fun _ _ _ _ _ => (pg_name (i := 1) nd rfl (Or.inl rfl))) (fun _ _ _ _ _ => pts_nil) (fun _ _ _ _ _ => (pe_call ((ok_mirrored_course e).mono (by decide : 1 ≤ 4)) hr rfl e.g_mirrored_course e.F_mirrored_course.kp (b_mirrored_course e) .nil pass0 (pa_cons (pv 1) pa_nil)))) pa_nil))))),
    (sd_ret (ev_make (fun _ => Reps.nil) p_Wall_init_len (ea_cons (ev_fld ev_var) (ea_cons (ev_lc (ei_any (ev_fld ev_var)) eg_name (gin_name (by decide)) (gdin_name (by decide)) et_yes (ev_call (fun _ => Reps.nil) p_mirrored_course_len (ea_cons ev_var ea_nil))) ea_nil))))⟩
/-! upturned -/
theorem sc_upturned : FnScope (["wall"] : List PySem.Str) (["wall"] : List PySem.Str) (defScope (top 61)) := ⟨rfl, rfl, rfl, by decide +kernel, rfl, by decide +kernel, by decide +kernel⟩
theorem b_upturned (e : Fx K mg) : Binds K e.fd_upturned (["wall"] : List PySem.Str) [] := e.F_upturned.bindsN fun _ _ _ _ _ _ us hl => match us, hl with | [_], _ => rfl
def td_upturned (K : PySem.W.Frag) : TSD := (sRet (dCall (p_Wall_init K) [] (dCons (dFld K ("stock" : PySem.Str) (dVar 0)) (dCons (dRev (dFld K ("courses" : PySem.Str) (dVar 0))) dNil))))
def p_upturned (K : PySem.W.Frag) : RCl := fun ds Q => ds.length = 1 ∧ pD 1 (td_upturned K) ds Q
theorem p_upturned_len {K : PySem.W.Frag} : ∀ ds Q, p_upturned K ds Q → ds.length = 1 := fun _ _ h => h.1
theorem p_upturned_td {K : PySem.W.Frag} : ∀ ds Q, p_upturned K ds Q → pD 1 (td_upturned K) ds Q := fun _ _ h => h.2
theorem ok_upturned (e : Fx K mg) : FnOk P w K mg base CX0 5 (He.ga K ("upturned" : PySem.Str)) e.fd_upturned (["wall"] : List PySem.Str) (spD K 1 (p_upturned K)) := by
  have nd := sc_upturned.nd
  refine fn_D e.F_upturned sc_upturned p_upturned_td ?_
  intro cdv A outer s H E hr
  exact ⟨_, PSs.nox (pss_one (ps_ret (pe_make e.M_Wall ((ok_Wall_init e).mono (by decide : 3 ≤ 3)) hr rfl e.g_Wall (b_Wall_init e) .nil pass0 (pa_cons (pe_fld (pv 0) rfl) (pa_cons (pe_revA (pe_fld (pv 0) rfl)) pa_nil))))),
    (sd_ret (ev_make (fun _ => Reps.nil) p_Wall_init_len (ea_cons (ev_fld ev_var) (ea_cons (ev_rev (Ev.b (ev_fld ev_var))) ea_nil))))⟩
/-! _law_turned_alike -/
theorem sc__law_turned_alike : FnScope (["_law_build", "_law_prices", "_law_length", "_law_crack", "_law_numbers", "_law_flat", "_law_tall", "_law_across", "_law_spot", "_law_row"] : List PySem.Str) (["_law_build", "_law_prices", "_law_length", "_law_crack", "_law_numbers"] : List PySem.Str) (defScope (top 77)) := ⟨rfl, rfl, rfl, by decide +kernel, rfl, by decide +kernel, by decide +kernel⟩
theorem b__law_turned_alike (e : Fx K mg) : Binds K e.fd__law_turned_alike (["_law_build", "_law_prices", "_law_length", "_law_crack", "_law_numbers"] : List PySem.Str) [] := e.F__law_turned_alike.bindsN fun _ _ _ _ _ _ us hl => match us, hl with | [_, _, _, _, _], _ => rfl
def lb__law_turned_alike_0 (K : PySem.W.Frag) : TSD := (sIf (dTest (d2 oNe (dFld K ("price" : PySem.Str) (dCall (p_crack_from K) [] (dCons (dVar 6) (dCons (dVar 1) (dCons (dVar 8) dNil))))) (d2 oIx (d2 oIx (dVar 4) (dNeg (dC (.int 1)))) (d2 oSub (dVar 8) (dC (.int 1)))))) (sRet (dC (.bl false))) sNext)
def td__law_turned_alike (K : PySem.W.Frag) : TSD := (sSeq (sPar 5 6 (dCons (dCall (p_wall_mirrored K) [] (dCons (dVar 0) dNil)) (dCons (dCall (p_upturned K) [] (dCons (dVar 0) dNil)) dNil)))
      (sSeq (sIf (dTest (d2 oNe (dCall (p_floor_numbers K) [] (dCons (dVar 5) (dCons (dVar 1) dNil))) (dCB1 cTuple (dLc (iSeq (dVar 4)) (gdName 9) dYes (dRev (dVar 9)) [9])))) (sRet (dC (.bl false))) sNext)
      (sSeq (sAsg (dCB1 cTuple (dLc (iSeq (dFld K ("places" : PySem.Str) (dVar 3))) (gdName 8) dYes (d2 oSub (dVar 2) (dVar 8)) [8])) (gdName 7))
      (sSeq (sIf (dOr (dTest (d2 oNe (dFld K ("price" : PySem.Str) (dCall (p_least_crack K) [] (dCons (dVar 5) (dCons (dVar 1) dNil)))) (dFld K ("price" : PySem.Str) (dVar 3)))) (dTest (d2 oNe (dCall (p_crack_price K) [] (dCons (dVar 5) (dCons (dVar 1) (dCons (dVar 7) dNil)))) (dFld K ("price" : PySem.Str) (dVar 3))))) (sRet (dC (.bl false))) sNext)
      (sSeq (sIf (dTest (d2 oNotN (dCall (p_least_fault K) [] (dCons (dVar 5) (dCons (dVar 1) (dCons (dCall (p_Crack_init K) [] (dCons (dFld K ("price" : PySem.Str) (dVar 3)) (dCons (dVar 7) dNil))) (dCons (dLc (iSeq (dVar 4)) (gdName 9) dYes (dCB1 cList (dRev (dVar 9))) [9]) dNil))))) (dC .non))) (sRet (dC (.bl false))) sNext)
      (sSeq (sIf (dOr (dTest (d2 oNe (dFld K ("price" : PySem.Str) (dCall (p_least_crack K) [] (dCons (dVar 6) (dCons (dVar 1) dNil)))) (dFld K ("price" : PySem.Str) (dVar 3)))) (dTest (d2 oNe (dCall (p_crack_price K) [] (dCons (dVar 6) (dCons (dVar 1) (dCons (dRev (dFld K ("places" : PySem.Str) (dVar 3))) dNil)))) (dFld K ("price" : PySem.Str) (dVar 3))))) (sRet (dC (.bl false))) sNext)
      (sSeq (sFor (iR2 (dCons (dC (.int 1)) (dCons (dVar 2) dNil))) (gdName 8) (lb__law_turned_alike_0 K))
      (sRet (dAndV (d2 oEq (dCall (p_count_cracks K) [] (dCons (dVar 5) (dCons (dVar 1) dNil))) (dCall (p_count_cracks K) [] (dCons (dVar 0) (dCons (dVar 1) dNil)))) (d2 oEq (dCall (p_count_cracks K) [] (dCons (dVar 6) (dCons (dVar 1) dNil))) (dCall (p_count_cracks K) [] (dCons (dVar 0) (dCons (dVar 1) dNil)))))))))))))
def p__law_turned_alike (K : PySem.W.Frag) : RCl := fun ds Q => ds.length = 5 ∧ pD 10 (td__law_turned_alike K) ds Q
theorem p__law_turned_alike_len {K : PySem.W.Frag} : ∀ ds Q, p__law_turned_alike K ds Q → ds.length = 5 := fun _ _ h => h.1
theorem p__law_turned_alike_td {K : PySem.W.Frag} : ∀ ds Q, p__law_turned_alike K ds Q → pD 10 (td__law_turned_alike K) ds Q := fun _ _ h => h.2
theorem ok__law_turned_alike (e : Fx K mg) : FnOk P w K mg base CX0 6 (He.ga K ("_law_turned_alike" : PySem.Str)) e.fd__law_turned_alike (["_law_build", "_law_prices", "_law_length", "_law_crack", "_law_numbers"] : List PySem.Str) (spD K 5 (p__law_turned_alike K)) := by
  have nd := sc__law_turned_alike.nd
  refine fn_D e.F__law_turned_alike sc__law_turned_alike p__law_turned_alike_td ?_
  intro cdv A outer s H E hr
  exact ⟨_, PSs.nox (pss_cons (ps_par (i := 5) (j := 6) rfl nd rfl rfl (by decide) rfl rfl (pa_cons (pe_call ((ok_wall_mirrored e).mono (by decide : 5 ≤ 5)) hr rfl e.g_wall_mirrored e.F_wall_mirrored.kp (b_wall_mirrored e) .nil pass0 (pa_cons (pv 0) pa_nil)) (pa_cons (pe_call ((ok_upturned e).mono (by decide : 5 ≤ 5)) hr rfl e.g_upturned e.F_upturned.kp (b_upturned e) .nil pass0 (pa_cons (pv 0) pa_nil)) pa_nil)) rfl)
      (pss_cons (ps_if (pt_cmpR (op_neD hr.units) (pe_call ((ok_floor_numbers e).mono (by decide : 5 ≤ 5)) hr rfl e.g_floor_numbers e.F_floor_numbers.kp (b_floor_numbers e) .nil pass0 (pa_cons (pv 5) (pa_cons (pv 1) pa_nil))) (pe_callTy call_tuple_of rfl e.n_tuple boot_tuple' (pa_cons (pe_lc (own := [(("_law_row" : PySem.Str), 9)]) rfl nd (pi_any (pv 4)) (blkOk_by (N := (["_law_build", "_law_prices", "_law_length", "_law_crack", "_law_numbers", "_law_flat", "_law_tall", "_law_across", "_law_spot", "_law_row"] : List PySem.Str)) (sc := defScope (top 77)) (by decide +kernel)) (fun _ _ _ _ _ => (pg_name (i := 9) nd rfl (Or.inl rfl))) (fun _ _ _ _ _ => pts_nil) (fun _ _ _ _ _ => (pe_revA (pv 9)))) pa_nil)) (nomark _)) (pss_one (ps_ret pe_bl)) pss_nil)
      (pss_cons (ps_set (i := 7) nd rfl (Or.inl rfl) (pe_callTy call_tuple_of rfl e.n_tuple boot_tuple' (pa_cons (pe_lc (own := [(("_law_spot" : PySem.Str), 8)]) rfl nd (pi_any (pe_fld (pv 3) rfl)) (blkOk_by (N := (["_law_build", "_law_prices", "_law_length", "_law_crack", "_law_numbers", "_law_flat", "_law_tall", "_law_across", "_law_spot", "_law_row"] : List PySem.Str)) (sc := defScope (top 77)) (by decide +kernel)) (fun _ _ _ _ _ => (pg_name (i := 8) nd rfl (Or.inl rfl))) (fun _ _ _ _ _ => pts_nil) (fun _ _ _ _ _ => (pe_op op_sub (pv 2) (pv 8)))) pa_nil)))
      (pss_cons (ps_if (PW.pt (pw_or (pt_cmpR (op_neD hr.units) (pe_fld (pe_call ((ok_least_crack e).mono (by decide : 5 ≤ 5)) hr rfl e.g_least_crack e.F_least_crack.kp (b_least_crack e) .nil pass0 (pa_cons (pv 5) (pa_cons (pv 1) pa_nil))) rfl) (pe_fld (pv 3) rfl) (nomark _)) (pw_or1 (pt_cmpR (op_neD hr.units) (pe_call ((ok_crack_price e).mono (by decide : 2 ≤ 5)) hr rfl e.g_crack_price e.F_crack_price.kp (b_crack_price e) .nil pass0 (pa_cons (pv 5) (pa_cons (pv 1) (pa_cons (pv 7) pa_nil)))) (pe_fld (pv 3) rfl) (nomark _))))) (pss_one (ps_ret pe_bl)) pss_nil)
      (pss_cons (ps_if (pt_cmpR op_notN (pe_call ((ok_least_fault e).mono (by decide : 5 ≤ 5)) hr rfl e.g_least_fault e.F_least_fault.kp (b_least_fault e) .nil pass0 (pa_cons (pv 5) (pa_cons (pv 1) (pa_cons (pe_make e.M_Crack ((ok_Crack_init e).mono (by decide : 1 ≤ 4)) hr rfl e.g_Crack (b_Crack_init e) .nil pass0 (pa_cons (pe_fld (pv 3) rfl) (pa_cons (pv 7) pa_nil))) (pa_cons (pe_lc (own := [(("_law_row" : PySem.Str), 9)]) rfl nd (pi_any (pv 4)) (blkOk_by (N := (["_law_build", "_law_prices", "_law_length", "_law_crack", "_law_numbers", "_law_flat", "_law_tall", "_law_across", "_law_spot", "_law_row"] : List PySem.Str)) (sc := defScope (top 77)) (by decide +kernel)) (fun _ _ _ _ _ => (pg_name (i := 9) nd rfl (Or.inl rfl))) (fun _ _ _ _ _ => pts_nil) (fun _ _ _ _ _ => (pe_callTy call_list_of rfl e.n_list boot_list' (pa_cons (pe_revA (pv 9)) pa_nil)))) pa_nil))))) pe_non (nomark _)) (pss_one (ps_ret pe_bl)) pss_nil)
      (pss_cons (ps_if (PW.pt (pw_or (pt_cmpR (op_neD hr.units) (pe_fld (pe_call ((ok_least_crack e).mono (by decide : 5 ≤ 5)) hr rfl e.g_least_crack e.F_least_crack.kp (b_least_crack e) .nil pass0 (pa_cons (pv 6) (pa_cons (pv 1) pa_nil))) rfl) (pe_fld (pv 3) rfl) (nomark _)) (pw_or1 (pt_cmpR (op_neD hr.units) (pe_call ((ok_crack_price e).mono (by decide : 2 ≤ 5)) hr rfl e.g_crack_price e.F_crack_price.kp (b_crack_price e) .nil pass0 (pa_cons (pv 6) (pa_cons (pv 1) (pa_cons (pe_revA (pe_fld (pv 3) rfl)) pa_nil)))) (pe_fld (pv 3) rfl) (nomark _))))) (pss_one (ps_ret pe_bl)) pss_nil)
      (pss_cons (ps_for PassesOwn.never rfl (pi_range2 rfl e.n_range (pa_cons pe_int (pa_cons (pv 2) pa_nil))) (pg_name (i := 8) nd rfl (Or.inl rfl)) (pss_one (ps_if (pt_cmpR (op_neD hr.units) (pe_fld (pe_call ((ok_crack_from e).mono (by decide : 5 ≤ 5)) hr rfl e.g_crack_from e.F_crack_from.kp (b_crack_from e) .nil pass0 (pa_cons (pv 6) (pa_cons (pv 1) (pa_cons (pv 8) pa_nil)))) rfl) (pe_ix ix_any (pe_ix ix_any (pv 4) (pe_un un_neg pe_int) (fun _ _ => rfl)) (pe_op op_sub (pv 8) pe_int) (fun _ _ => rfl)) (nomark _)) (pss_one (ps_ret pe_bl)) pss_nil)))
      (pss_one (ps_ret (pe_and (pe_cmpR (op_eqD hr.units) (pe_call ((ok_count_cracks e).mono (by decide : 3 ≤ 5)) hr rfl e.g_count_cracks e.F_count_cracks.kp (b_count_cracks e) .nil pass0 (pa_cons (pv 5) (pa_cons (pv 1) pa_nil))) (pe_call ((ok_count_cracks e).mono (by decide : 3 ≤ 5)) hr rfl e.g_count_cracks e.F_count_cracks.kp (b_count_cracks e) .nil pass0 (pa_cons (pv 0) (pa_cons (pv 1) pa_nil))) (nomark _)) (pe_one (pe_cmpR (op_eqD hr.units) (pe_call ((ok_count_cracks e).mono (by decide : 3 ≤ 5)) hr rfl e.g_count_cracks e.F_count_cracks.kp (b_count_cracks e) .nil pass0 (pa_cons (pv 6) (pa_cons (pv 1) pa_nil))) (pe_call ((ok_count_cracks e).mono (by decide : 3 ≤ 5)) hr rfl e.g_count_cracks e.F_count_cracks.kp (b_count_cracks e) .nil pass0 (pa_cons (pv 0) (pa_cons (pv 1) pa_nil))) (nomark _))))))))))))),
    (sd_seq (sd_par (ea_cons (ev_call (fun _ => Reps.nil) p_wall_mirrored_len (ea_cons ev_var ea_nil)) (ea_cons (ev_call (fun _ => Reps.nil) p_upturned_len (ea_cons ev_var ea_nil)) ea_nil)))
      (sd_seq (sd_if (et_test (ev_op (ev_call (fun _ => Reps.nil) p_floor_numbers_len (ea_cons ev_var (ea_cons ev_var ea_nil))) (ev_cb1 cl_tuple (Ev.b (ev_lc (ei_any ev_var) eg_name (gin_name (by decide)) (gdin_name (by decide)) et_yes (ev_rev (Ev.b ev_var))))) od_ne)) (sd_ret ev_bl) sd_next)
      (sd_seq (sd_asg (ev_cb1 cl_tuple (Ev.b (ev_lc (ei_any (ev_fld ev_var)) eg_name (gin_name (by decide)) (gdin_name (by decide)) et_yes (ev_op ev_var ev_var od_sub)))) eg_name.eg)
      (sd_seq (sd_if (et_or (et_test (ev_op (ev_fld (ev_call (fun _ => Reps.nil) p_least_crack_len (ea_cons ev_var (ea_cons ev_var ea_nil)))) (ev_fld ev_var) od_ne)) (et_test (ev_op (ev_call (fun _ => Reps.nil) p_crack_price_len (ea_cons ev_var (ea_cons ev_var (ea_cons ev_var ea_nil)))) (ev_fld ev_var) od_ne))) (sd_ret ev_bl) sd_next)
      (sd_seq (sd_if (et_test (ev_op (ev_call (fun _ => Reps.nil) p_least_fault_len (ea_cons ev_var (ea_cons ev_var (ea_cons (ev_make (fun _ => Reps.nil) p_Crack_init_len (ea_cons (ev_fld ev_var) (ea_cons ev_var ea_nil))) (ea_cons (ev_lc (ei_any ev_var) eg_name (gin_name (by decide)) (gdin_name (by decide)) et_yes (ev_cb1 cl_list (Ev.b (ev_rev (Ev.b ev_var))))) ea_nil))))) ev_non od_notN)) (sd_ret ev_bl) sd_next)
      (sd_seq (sd_if (et_or (et_test (ev_op (ev_fld (ev_call (fun _ => Reps.nil) p_least_crack_len (ea_cons ev_var (ea_cons ev_var ea_nil)))) (ev_fld ev_var) od_ne)) (et_test (ev_op (ev_call (fun _ => Reps.nil) p_crack_price_len (ea_cons ev_var (ea_cons ev_var (ea_cons (ev_rev (Ev.b (ev_fld ev_var))) ea_nil)))) (ev_fld ev_var) od_ne))) (sd_ret ev_bl) sd_next)
      (sd_seq (sd_for (ei_rng2 (ea_cons ev_int (ea_cons ev_var ea_nil))) (EGx.eg eg_name) (sd_if (et_test (ev_op (ev_fld (ev_call (fun _ => Reps.nil) p_crack_from_len (ea_cons ev_var (ea_cons ev_var (ea_cons ev_var ea_nil))))) (ev_op (ev_op ev_var (ev_neg ev_int) od_ix) (ev_op ev_var ev_int od_sub) od_ix) od_ne)) (sd_ret ev_bl) sd_next))
      (sd_ret (ev_andV (ev_op (ev_call (fun _ => Reps.nil) p_count_cracks_len (ea_cons ev_var (ea_cons ev_var ea_nil))) (ev_call (fun _ => Reps.nil) p_count_cracks_len (ea_cons ev_var (ea_cons ev_var ea_nil))) od_eq) (ev_op (ev_call (fun _ => Reps.nil) p_count_cracks_len (ea_cons ev_var (ea_cons ev_var ea_nil))) (ev_call (fun _ => Reps.nil) p_count_cracks_len (ea_cons ev_var (ea_cons ev_var ea_nil))) od_eq))))))))))⟩
/-! Wall.__len__ -/
theorem sc_Wall_len_ : FnScope (["self"] : List PySem.Str) (["self"] : List PySem.Str) (defScope (inClass (top 54) 1)) := ⟨rfl, rfl, rfl, by decide +kernel, rfl, by decide +kernel, by decide +kernel⟩
theorem b_Wall_len_ (e : Fx K mg) : Binds K e.fd_Wall_len_ (["self"] : List PySem.Str) [] := e.F_Wall_len_.bindsN fun _ _ _ _ _ _ us hl => match us, hl with | [_], _ => rfl
def td_Wall_len_ (K : PySem.W.Frag) : TSD := (sRet (dCB1 cLen (dFld K ("courses" : PySem.Str) (dVar 0))))
def p_Wall_len_ (K : PySem.W.Frag) : RCl := fun ds Q => ds.length = 1 ∧ pD 1 (td_Wall_len_ K) ds Q
theorem p_Wall_len__len {K : PySem.W.Frag} : ∀ ds Q, p_Wall_len_ K ds Q → ds.length = 1 := fun _ _ h => h.1
theorem p_Wall_len__td {K : PySem.W.Frag} : ∀ ds Q, p_Wall_len_ K ds Q → pD 1 (td_Wall_len_ K) ds Q := fun _ _ h => h.2
theorem ok_Wall_len_ (e : Fx K mg) : FnOk P w K mg base CX0 1 (He.ma K (He.ga K ("Wall" : PySem.Str)) ("__len__" : PySem.Str)) e.fd_Wall_len_ (["self"] : List PySem.Str) (spD K 1 (p_Wall_len_ K)) := by
  have nd := sc_Wall_len_.nd
  refine fn_D e.F_Wall_len_ sc_Wall_len_ p_Wall_len__td ?_
  intro cdv A outer s H E hr
  exact ⟨_, PSs.nox (pss_one (ps_ret (pe_callB call_len_seq rfl e.n_len boot_len' (pa_cons (pe_fld (pv 0) rfl) pa_nil)))),
    (sd_ret (ev_cb1 cl_len (Ev.b (ev_fld ev_var))))⟩
/-! Stock.__eq__ -/
theorem sc_Stock_eq : FnScope (["self", "other"] : List PySem.Str) (["self", "other"] : List PySem.Str) (defScope (inClass (top 51) 1)) := ⟨rfl, rfl, rfl, by decide +kernel, rfl, by decide +kernel, by decide +kernel⟩
theorem b_Stock_eq (e : Fx K mg) : Binds K e.fd_Stock_eq (["self", "other"] : List PySem.Str) [] := e.F_Stock_eq.bindsN fun _ _ _ _ _ _ us hl => match us, hl with | [_, _], _ => rfl
def td_Stock_eq (K : PySem.W.Frag) : TSD := (sRet (dAndV (dCB (cIsi K) (dCons (dVar 1) (dCons (dC (.cls (He.ga K ("Stock" : PySem.Str)))) dNil))) (dAndV (d2 oEq (dFld K ("bricks" : PySem.Str) (dVar 0)) (dFld K ("bricks" : PySem.Str) (dVar 1))) (dAndV (d2 oEq (dFld K ("lap" : PySem.Str) (dVar 0)) (dFld K ("lap" : PySem.Str) (dVar 1))) (d2 oEq (dFld K ("reach" : PySem.Str) (dVar 0)) (dFld K ("reach" : PySem.Str) (dVar 1)))))))
def p_Stock_eq (K : PySem.W.Frag) : RCl := fun ds Q => ds.length = 2 ∧ pD 2 (td_Stock_eq K) ds Q
theorem p_Stock_eq_len {K : PySem.W.Frag} : ∀ ds Q, p_Stock_eq K ds Q → ds.length = 2 := fun _ _ h => h.1
theorem p_Stock_eq_td {K : PySem.W.Frag} : ∀ ds Q, p_Stock_eq K ds Q → pD 2 (td_Stock_eq K) ds Q := fun _ _ h => h.2
theorem ok_Stock_eq (e : Fx K mg) : FnOk P w K mg base CX0 1 (He.ma K (He.ga K ("Stock" : PySem.Str)) ("__eq__" : PySem.Str)) e.fd_Stock_eq (["self", "other"] : List PySem.Str) (spD K 2 (p_Stock_eq K)) := by
  have nd := sc_Stock_eq.nd
  refine fn_D e.F_Stock_eq sc_Stock_eq p_Stock_eq_td ?_
  intro cdv A outer s H E hr
  exact ⟨_, PSs.nox (pss_one (ps_ret (pe_and (pe_callB call_isi rfl e.n_isinstance boot_isinstance' (pa_cons (pv 1) (pa_cons (pe_glob (v := .ref (He.ga K ("Stock" : PySem.Str))) rfl e.g_Stock rfl) pa_nil))) (pe_and (pe_cmpR (op_eqD hr.units) (pe_fld (pv 0) rfl) (pe_fld (pv 1) rfl) (nomark _)) (pe_and (pe_cmpR (op_eqD hr.units) (pe_fld (pv 0) rfl) (pe_fld (pv 1) rfl) (nomark _)) (pe_one (pe_cmpR (op_eqD hr.units) (pe_fld (pv 0) rfl) (pe_fld (pv 1) rfl) (nomark _)))))))),
    (sd_ret (ev_andV (ev_cb cl_isi (ea_cons ev_var (ea_cons ev_cls ea_nil))) (ev_andV (ev_op (ev_fld ev_var) (ev_fld ev_var) od_eq) (ev_andV (ev_op (ev_fld ev_var) (ev_fld ev_var) od_eq) (ev_op (ev_fld ev_var) (ev_fld ev_var) od_eq)))))⟩
/-! check_alike -/
theorem sc_check_alike : FnScope (["one", "other"] : List PySem.Str) (["one", "other"] : List PySem.Str) (defScope (top 57)) := ⟨rfl, rfl, rfl, by decide +kernel, rfl, by decide +kernel, by decide +kernel⟩
theorem b_check_alike (e : Fx K mg) : Binds K e.fd_check_alike (["one", "other"] : List PySem.Str) [] := e.F_check_alike.bindsN fun _ _ _ _ _ _ us hl => match us, hl with | [_, _], _ => rfl
def td_check_alike (K : PySem.W.Frag) : TSD := (sSeq (sIf (dNot (dTest (d2 (oEqO (He.ga K ("Stock" : PySem.Str)) (p_Stock_eq K)) (dFld K ("stock" : PySem.Str) (dVar 0)) (dFld K ("stock" : PySem.Str) (dVar 1))))) sNever sNext)
      (sIf (dTest (d2 oNe (dFld K ("length" : PySem.Str) (dVar 0)) (dFld K ("length" : PySem.Str) (dVar 1)))) sNever sNext))
def p_check_alike (K : PySem.W.Frag) : RCl := fun ds Q => ds.length = 2 ∧ pD 2 (td_check_alike K) ds Q
theorem p_check_alike_len {K : PySem.W.Frag} : ∀ ds Q, p_check_alike K ds Q → ds.length = 2 := fun _ _ h => h.1
theorem p_check_alike_td {K : PySem.W.Frag} : ∀ ds Q, p_check_alike K ds Q → pD 2 (td_check_alike K) ds Q := fun _ _ h => h.2
theorem ok_check_alike (e : Fx K mg) : FnOk P w K mg base CX0 2 (He.ga K ("check_alike" : PySem.Str)) e.fd_check_alike (["one", "other"] : List PySem.Str) (spD K 2 (p_check_alike K)) := by
  have nd := sc_check_alike.nd
  refine fn_D e.F_check_alike sc_check_alike p_check_alike_td ?_
  intro cdv A outer s H E hr
  exact ⟨_, PSs.nox (pss_cons (ps_if (pt_not (pt_cmpR (op_eqG (rcG_ins (((ok_Stock_eq e).imp (fun _ _ _ _ h => spEq_of h)).mono (by decide : 1 ≤ 1)) e.me_Stock_eq.at_ e.me_Stock_eq.fn (b_Stock_eq e) pass0) hr) (pe_fld (pv 0) rfl) (pe_fld (pv 1) rfl) (nomark _))) (pss_one ps_never) pss_nil)
      (pss_one (ps_if (pt_cmpR (op_neD hr.units) (pe_fld (pv 0) rfl) (pe_fld (pv 1) rfl) (nomark _)) (pss_one ps_never) pss_nil))),
    (sd_seq (sd_if (et_not (et_test (ev_op (ev_fld ev_var) (ev_fld ev_var) od_eqO))) sd_never sd_next)
      (sd_if (et_test (ev_op (ev_fld ev_var) (ev_fld ev_var) od_ne)) sd_never sd_next))⟩
/-! piled -/
theorem sc_piled : FnScope (["one", "other"] : List PySem.Str) (["one", "other"] : List PySem.Str) (defScope (top 58)) := ⟨rfl, rfl, rfl, by decide +kernel, rfl, by decide +kernel, by decide +kernel⟩
theorem b_piled (e : Fx K mg) : Binds K e.fd_piled (["one", "other"] : List PySem.Str) [] := e.F_piled.bindsN fun _ _ _ _ _ _ us hl => match us, hl with | [_, _], _ => rfl
def td_piled (K : PySem.W.Frag) : TSD := (sSeq (sDrop (dCall (p_check_alike K) [] (dCons (dVar 0) (dCons (dVar 1) dNil))))
      (sSeq (sIf (dTest (d2 oGt (d2 oAdd (dCB (cLenO (He.ga K ("Wall" : PySem.Str)) (p_Wall_len_ K)) (dCons (dVar 0) dNil)) (dCB (cLenO (He.ga K ("Wall" : PySem.Str)) (p_Wall_len_ K)) (dCons (dVar 1) dNil))) (dC (.int 60)))) sNever sNext)
      (sRet (dCall (p_Wall_init K) [] (dCons (dFld K ("stock" : PySem.Str) (dVar 0)) (dCons (d2 oCatT (dFld K ("courses" : PySem.Str) (dVar 0)) (dFld K ("courses" : PySem.Str) (dVar 1))) dNil))))))
def p_piled (K : PySem.W.Frag) : RCl := fun ds Q => ds.length = 2 ∧ pD 2 (td_piled K) ds Q
theorem p_piled_len {K : PySem.W.Frag} : ∀ ds Q, p_piled K ds Q → ds.length = 2 := fun _ _ h => h.1
theorem p_piled_td {K : PySem.W.Frag} : ∀ ds Q, p_piled K ds Q → pD 2 (td_piled K) ds Q := fun _ _ h => h.2
theorem ok_piled (e : Fx K mg) : FnOk P w K mg base CX0 5 (He.ga K ("piled" : PySem.Str)) e.fd_piled (["one", "other"] : List PySem.Str) (spD K 2 (p_piled K)) := by
  have nd := sc_piled.nd
  refine fn_D e.F_piled sc_piled p_piled_td ?_
  intro cdv A outer s H E hr
  exact ⟨_, PSs.nox (pss_cons (ps_expr (pe_call ((ok_check_alike e).mono (by decide : 2 ≤ 4)) hr rfl e.g_check_alike e.F_check_alike.kp (b_check_alike e) .nil pass0 (pa_cons (pv 0) (pa_cons (pv 1) pa_nil))))
      (pss_cons (ps_if (pt_cmpR op_gt (pe_op op_add (pe_callB (call_lenO ((ok_Wall_len_ e).mono (by decide : 1 ≤ 3)) hr e.me_Wall_len_ (b_Wall_len_ e) pass0) rfl e.n_len boot_len' (pa_cons (pv 0) pa_nil)) (pe_callB (call_lenO ((ok_Wall_len_ e).mono (by decide : 1 ≤ 3)) hr e.me_Wall_len_ (b_Wall_len_ e) pass0) rfl e.n_len boot_len' (pa_cons (pv 1) pa_nil))) (pe_int_of rfl e.i_MOST_COURSES) (nomark _)) (pss_one ps_never) pss_nil)
      (pss_one (ps_ret (pe_make e.M_Wall ((ok_Wall_init e).mono (by decide : 3 ≤ 3)) hr rfl e.g_Wall (b_Wall_init e) .nil pass0 (pa_cons (pe_fld (pv 0) rfl) (pa_cons (pe_op op_catA (pe_fld (pv 0) rfl) (pe_fld (pv 1) rfl)) pa_nil))))))),
    (sd_seq (sd_drop (ev_call (fun _ => Reps.nil) p_check_alike_len (ea_cons ev_var (ea_cons ev_var ea_nil))))
      (sd_seq (sd_if (et_test (ev_op (ev_op (ev_cb cl_lenO (ea_cons ev_var ea_nil)) (ev_cb cl_lenO (ea_cons ev_var ea_nil)) od_add) ev_int od_gt)) sd_never sd_next)
      (sd_ret (ev_make (fun _ => Reps.nil) p_Wall_init_len (ea_cons (ev_fld ev_var) (ea_cons (ev_op (ev_fld ev_var) (ev_fld ev_var) od_catT) ea_nil))))))⟩
/-! part_of -/
theorem sc_part_of : FnScope (["wall", "first", "last"] : List PySem.Str) (["wall", "first", "last"] : List PySem.Str) (defScope (top 59)) := ⟨rfl, rfl, rfl, by decide +kernel, rfl, by decide +kernel, by decide +kernel⟩
theorem b_part_of (e : Fx K mg) : Binds K e.fd_part_of (["wall", "first", "last"] : List PySem.Str) [] := e.F_part_of.bindsN fun _ _ _ _ _ _ us hl => match us, hl with | [_, _, _], _ => rfl
def td_part_of (K : PySem.W.Frag) : TSD := (sSeq (sIf (dOr (dNot (dTest (dCall (p_is_whole K) [] (dCons (dVar 2) (dCons (dC (.int 0)) (dCons (d2 oSub (dCB (cLenO (He.ga K ("Wall" : PySem.Str)) (p_Wall_len_ K)) (dCons (dVar 0) dNil)) (dC (.int 1))) dNil)))))) (dNot (dTest (dCall (p_is_whole K) [] (dCons (dVar 1) (dCons (dC (.int 0)) (dCons (dVar 2) dNil))))))) sNever sNext)
      (sRet (dCall (p_Wall_init K) [] (dCons (dFld K ("stock" : PySem.Str) (dVar 0)) (dCons (dSl (dFld K ("courses" : PySem.Str) (dVar 0)) (dPart (dVar 1)) (dPart (d2 oAdd (dVar 2) (dC (.int 1))))) dNil)))))
def p_part_of (K : PySem.W.Frag) : RCl := fun ds Q => ds.length = 3 ∧ pD 3 (td_part_of K) ds Q
theorem p_part_of_len {K : PySem.W.Frag} : ∀ ds Q, p_part_of K ds Q → ds.length = 3 := fun _ _ h => h.1
theorem p_part_of_td {K : PySem.W.Frag} : ∀ ds Q, p_part_of K ds Q → pD 3 (td_part_of K) ds Q := fun _ _ h => h.2
theorem ok_part_of (e : Fx K mg) : FnOk P w K mg base CX0 5 (He.ga K ("part_of" : PySem.Str)) e.fd_part_of (["wall", "first", "last"] : List PySem.Str) (spD K 3 (p_part_of K)) := by
  have nd := sc_part_of.nd
  obtain ⟨ds_is_whole_0, rd_is_whole_0, bd_is_whole_0⟩ := b_is_whole_0 e
  refine fn_D e.F_part_of sc_part_of p_part_of_td ?_
  intro cdv A outer s H E hr
  exact ⟨_, PSs.nox (pss_cons (ps_if (PW.pt (pw_or (pt_not (pt_val (pe_call ((ok_is_whole e).mono (by decide : 1 ≤ 4)) hr rfl e.g_is_whole e.F_is_whole.kp bd_is_whole_0 rd_is_whole_0 pass0 (pa_cons (pv 2) (pa_cons pe_int (pa_cons (pe_op op_sub (pe_callB (call_lenO ((ok_Wall_len_ e).mono (by decide : 1 ≤ 3)) hr e.me_Wall_len_ (b_Wall_len_ e) pass0) rfl e.n_len boot_len' (pa_cons (pv 0) pa_nil)) pe_int) pa_nil)))))) (pw_or1 (pt_not (pt_val (pe_call ((ok_is_whole e).mono (by decide : 1 ≤ 4)) hr rfl e.g_is_whole e.F_is_whole.kp bd_is_whole_0 rd_is_whole_0 pass0 (pa_cons (pv 1) (pa_cons pe_int (pa_cons (pv 2) pa_nil))))))))) (pss_one ps_never) pss_nil)
      (pss_one (ps_ret (pe_make e.M_Wall ((ok_Wall_init e).mono (by decide : 3 ≤ 3)) hr rfl e.g_Wall (b_Wall_init e) .nil pass0 (pa_cons (pe_fld (pv 0) rfl) (pa_cons (pe_slice sl_any (pe_fld (pv 0) rfl) (po_some (pv 1)) (po_some (pe_op op_add (pv 2) pe_int))) pa_nil)))))),
    (sd_seq (sd_if (et_or (et_not (et_B (ev_call (fun _ => Reps.nil) p_is_whole_len (ea_cons ev_var (ea_cons ev_int (ea_cons (ev_op (ev_cb cl_lenO (ea_cons ev_var ea_nil)) ev_int od_sub) ea_nil)))))) (et_not (et_B (ev_call (fun _ => Reps.nil) p_is_whole_len (ea_cons ev_var (ea_cons ev_int (ea_cons ev_var ea_nil))))))) sd_never sd_next)
      (sd_ret (ev_make (fun _ => Reps.nil) p_Wall_init_len (ea_cons (ev_fld ev_var) (ea_cons (ev_sl (ev_fld ev_var) (eo_part ev_var) (eo_part (ev_op ev_var ev_int od_add))) ea_nil)))))⟩
/-! _law_mix -/
theorem sc__law_mix : FnScope (["_law_number", "_law_turn", "_law_once", "_law_twice"] : List PySem.Str) (["_law_number", "_law_turn"] : List PySem.Str) (defScope (top 64)) := ⟨rfl, rfl, rfl, by decide +kernel, rfl, by decide +kernel, by decide +kernel⟩
theorem b__law_mix (e : Fx K mg) : Binds K e.fd__law_mix (["_law_number", "_law_turn"] : List PySem.Str) [] := e.F__law_mix.bindsN fun _ _ _ _ _ _ us hl => match us, hl with | [_, _], _ => rfl
def td__law_mix (K : PySem.W.Frag) : TSD := (sSeq (sAsg (d2 oMod (dCB cInt (dCons (d2 oAdd (d2 oAdd (d2 oMul (dVar 0) (dC (.int 48271))) (d2 oMul (dVar 1) (dC (.int 16807)))) (dC (.int 11))) dNil)) (dC (.int 2147483647))) (gdName 2))
      (sSeq (sAsg (d2 oMod (dCB cInt (dCons (d2 oAdd (d2 oAdd (d2 oMul (dVar 2) (dVar 2)) (d2 oMul (d2 oFdiv (dVar 2) (dC (.int 127))) (dC (.int 40692)))) (d2 oMul (dVar 1) (dC (.int 69621)))) dNil)) (dC (.int 2147483399))) (gdName 3))
      (sRet (d2 oFdiv (dCB cInt (dCons (d2 oMod (dCB cInt (dCons (d2 oAdd (d2 oFdiv (d2 oMul (dVar 3) (dVar 3)) (dC (.int 1009))) (dVar 2)) dNil)) (dC (.int 2147483563))) dNil)) (dC (.int 16))))))
def p__law_mix (K : PySem.W.Frag) : RCl := fun ds Q => ds.length = 2 ∧ pD 4 (td__law_mix K) ds Q
theorem p__law_mix_len {K : PySem.W.Frag} : ∀ ds Q, p__law_mix K ds Q → ds.length = 2 := fun _ _ h => h.1
theorem p__law_mix_td {K : PySem.W.Frag} : ∀ ds Q, p__law_mix K ds Q → pD 4 (td__law_mix K) ds Q := fun _ _ h => h.2
theorem ok__law_mix (e : Fx K mg) : FnOk P w K mg base CX0 1 (He.ga K ("_law_mix" : PySem.Str)) e.fd__law_mix (["_law_number", "_law_turn"] : List PySem.Str) (spD K 2 (p__law_mix K)) := by
  have nd := sc__law_mix.nd
  refine fn_D e.F__law_mix sc__law_mix p__law_mix_td ?_
  intro cdv A outer s H E hr
  exact ⟨_, PSs.nox (pss_cons (ps_set (i := 2) nd rfl (Or.inl rfl) (pe_op op_modN (pe_callTy call_int1 rfl e.n_int boot_int' (pa_cons (pe_op op_add (pe_op op_add (pe_op op_mul (pv 0) pe_int) (pe_op op_mul (pv 1) pe_int)) pe_int) pa_nil)) pe_int))
      (pss_cons (ps_set (i := 3) nd rfl (Or.inl rfl) (pe_op op_modN (pe_callTy call_int1 rfl e.n_int boot_int' (pa_cons (pe_op op_add (pe_op op_add (pe_op op_mul (pv 2) (pv 2)) (pe_op op_mul (pe_op op_fdivN (pv 2) pe_int) pe_int)) (pe_op op_mul (pv 1) pe_int)) pa_nil)) pe_int))
      (pss_one (ps_ret (pe_op op_fdivN (pe_callTy call_int1 rfl e.n_int boot_int' (pa_cons (pe_op op_modN (pe_callTy call_int1 rfl e.n_int boot_int' (pa_cons (pe_op op_add (pe_op op_fdivN (pe_op op_mul (pv 3) (pv 3)) pe_int) (pv 2)) pa_nil)) pe_int) pa_nil)) pe_int))))),
    (sd_seq (sd_asg (ev_op (ev_cb cl_int (ea_cons (ev_op (ev_op (ev_op ev_var ev_int od_mul) (ev_op ev_var ev_int od_mul) od_add) ev_int od_add) ea_nil)) ev_int od_mod) eg_name.eg)
      (sd_seq (sd_asg (ev_op (ev_cb cl_int (ea_cons (ev_op (ev_op (ev_op ev_var ev_var od_mul) (ev_op (ev_op ev_var ev_int od_fdiv) ev_int od_mul) od_add) (ev_op ev_var ev_int od_mul) od_add) ea_nil)) ev_int od_mod) eg_name.eg)
      (sd_ret (ev_op (ev_cb cl_int (ea_cons (ev_op (ev_cb cl_int (ea_cons (ev_op (ev_op (ev_op ev_var ev_var od_mul) ev_int od_fdiv) ev_var od_add) ea_nil)) ev_int od_mod) ea_nil)) ev_int od_fdiv))))⟩
/-! _law_draw -/
theorem sc__law_draw : FnScope (["_law_hand_here", "_law_many", "_law_cell", "_law_rest"] : List PySem.Str) (["_law_hand_here", "_law_many"] : List PySem.Str) (defScope (top 66)) := ⟨rfl, rfl, rfl, by decide +kernel, rfl, by decide +kernel, by decide +kernel⟩
theorem b__law_draw (e : Fx K mg) : Binds K e.fd__law_draw (["_law_hand_here", "_law_many"] : List PySem.Str) [] := e.F__law_draw.bindsN fun _ _ _ _ _ _ us hl => match us, hl with | [_, _], _ => rfl
def td__law_draw (K : PySem.W.Frag) : TSD := (sSeq (sIf (dAnd (dTest (d2 oEq (d2O oIx 0 (dC (.int 2))) (dC (.int 0)))) (dTest (d2 oLt (d2O oIx 0 (dC (.int 1))) (dCB1 cLen (d2O oIx 0 (dC (.int 0))))))) (sSeq (sAsg (d2 oIx (d2O oIx 0 (dC (.int 0))) (d2O oIx 0 (dC (.int 1)))) (gdName 2)) (sSeq (sAsg (d2 oAdd (d2O oIx 0 (dC (.int 1))) (dC (.int 1))) (gdSub 0 (dC (.int 1)))) (sSeq (sIf (dTest (d2 oLt (dVar 2) (d2 oPow (dC (.int 10)) (dC (.int 18))))) (sRet (d2 oMod (dCB cInt (dCons (dCall (p__law_mix K) [] (dCons (d2 oMod (dCB cInt (dCons (dVar 2) dNil)) (dC (.int 2147483647))) (dCons (d2O oIx 0 (dC (.int 1))) dNil))) dNil)) (dVar 1))) sNext) (sAsg (dVar 2) (gdSub 0 (dC (.int 2))))))) sNext)
      (sSeq (sIf (dTest (d2 oGt (d2O oIx 0 (dC (.int 2))) (dC (.int 0)))) (sSeq (sAsg (d2O oIx 0 (dC (.int 2))) (gdName 3)) (sSeq (sAsg (d2 oFdiv (dVar 3) (dVar 1)) (gdSub 0 (dC (.int 2)))) (sRet (d2 oMod (dCB cInt (dCons (dVar 3) dNil)) (dVar 1))))) sNext)
      (sSeq (sAsg (d2 oMod (dCB cInt (dCons (d2 oAdd (d2O oIx 0 (dC (.int 3))) (dC (.int 1))) dNil)) (dC (.int 2147483629))) (gdSub 0 (dC (.int 3))))
      (sRet (d2 oMod (dCB cInt (dCons (dCall (p__law_mix K) [] (dCons (d2O oIx 0 (dC (.int 3))) (dCons (d2O oIx 0 (dC (.int 1))) dNil))) dNil)) (dVar 1))))))
def p__law_draw (K : PySem.W.Frag) : RCl := fun ds Q => ds.length = 1 ∧ pW 4 (td__law_draw K) ds Q
theorem p__law_draw_len {K : PySem.W.Frag} : ∀ ds Q, p__law_draw K ds Q → ds.length = 1 := fun _ _ h => h.1
theorem p__law_draw_td {K : PySem.W.Frag} : ∀ ds Q, p__law_draw K ds Q → pW 4 (td__law_draw K) ds Q := fun _ _ h => h.2
theorem ok__law_draw (e : Fx K mg) : FnOk P w K mg base CX0 2 (He.ga K ("_law_draw" : PySem.Str)) e.fd__law_draw (["_law_hand_here", "_law_many"] : List PySem.Str) (spH K 1 (p__law_draw K)) := by
  have nd := sc__law_draw.nd
  refine fn_W e.F__law_draw sc__law_draw rfl p__law_draw_td ?_
  intro cdv A outer s H E hr
  exact ⟨_, PSs.nox (pss_cons (ps_if (PW.pt (pw_and (pt_cmpR (op_eqD hr.units) (pe_ix ix_any (pv 0) pe_int (fun _ _ => rfl)) pe_int (nomark _)) (pw_and1 (pt_cmpR op_lt (pe_ix ix_any (pv 0) pe_int (fun _ _ => rfl)) (pe_callB call_len_seq rfl e.n_len boot_len' (pa_cons (pe_ix ix_any (pv 0) pe_int (fun _ _ => rfl)) pa_nil)) (nomark _))))) (pss_cons (ps_set (i := 2) nd rfl (Or.inl rfl) (pe_ix ix_any (pe_ix ix_any (pv 0) pe_int (fun _ _ => rfl)) (pe_ix ix_any (pv 0) pe_int (fun _ _ => rfl)) (fun _ _ => rfl))) (pss_cons (ps_asg (pe_op op_add (pe_ix ix_any (pv 0) pe_int (fun _ _ => rfl)) pe_int) (pg_sub (pv 0) pe_int set_list)) (pss_cons (ps_if (pt_cmpR op_lt (pv 2) (pe_op op_pow pe_int pe_int) (nomark _)) (pss_one (ps_ret (pe_op op_modN (pe_callTy call_int1 rfl e.n_int boot_int' (pa_cons (pe_call ((ok__law_mix e).mono (by decide : 1 ≤ 1)) hr rfl e.g__law_mix e.F__law_mix.kp (b__law_mix e) .nil pass0 (pa_cons (pe_op op_modN (pe_callTy call_int1 rfl e.n_int boot_int' (pa_cons (pv 2) pa_nil)) pe_int) (pa_cons (pe_ix ix_any (pv 0) pe_int (fun _ _ => rfl)) pa_nil))) pa_nil)) (pv 1)))) pss_nil) (pss_one (ps_asg (pv 2) (pg_sub (pv 0) pe_int set_list)))))) pss_nil)
      (pss_cons (ps_if (pt_cmpR op_gt (pe_ix ix_any (pv 0) pe_int (fun _ _ => rfl)) pe_int (nomark _)) (pss_cons (ps_set (i := 3) nd rfl (Or.inl rfl) (pe_ix ix_any (pv 0) pe_int (fun _ _ => rfl))) (pss_cons (ps_asg (pe_op op_fdivN (pv 3) (pv 1)) (pg_sub (pv 0) pe_int set_list)) (pss_one (ps_ret (pe_op op_modN (pe_callTy call_int1 rfl e.n_int boot_int' (pa_cons (pv 3) pa_nil)) (pv 1)))))) pss_nil)
      (pss_cons (ps_asg (pe_op op_modN (pe_callTy call_int1 rfl e.n_int boot_int' (pa_cons (pe_op op_add (pe_ix ix_any (pv 0) pe_int (fun _ _ => rfl)) pe_int) pa_nil)) pe_int) (pg_sub (pv 0) pe_int set_list))
      (pss_one (ps_ret (pe_op op_modN (pe_callTy call_int1 rfl e.n_int boot_int' (pa_cons (pe_call ((ok__law_mix e).mono (by decide : 1 ≤ 1)) hr rfl e.g__law_mix e.F__law_mix.kp (b__law_mix e) .nil pass0 (pa_cons (pe_ix ix_any (pv 0) pe_int (fun _ _ => rfl)) (pa_cons (pe_ix ix_any (pv 0) pe_int (fun _ _ => rfl)) pa_nil))) pa_nil)) (pv 1))))))),
    (sd_seq (sd_if (et_and (et_test (ev_op (ev_opO ev_int od_ix) ev_int od_eq)) (et_test (ev_op (ev_opO ev_int od_ix) (ev_cb1 cl_len (Ev.b (ev_opO ev_int od_ix))) od_lt))) (sd_seq (sd_asg (ev_op (ev_opO ev_int od_ix) (ev_opO ev_int od_ix) od_ix) eg_name.eg) (sd_seq (sd_asg (ev_op (ev_opO ev_int od_ix) ev_int od_add) (eg_sub ev_int)) (sd_seq (sd_if (et_test (ev_op ev_var (ev_op ev_int ev_int od_pow) od_lt)) (sd_ret (ev_op (ev_cb cl_int (ea_cons (ev_call (fun _ => Reps.nil) p__law_mix_len (ea_cons (ev_op (ev_cb cl_int (ea_cons ev_var ea_nil)) ev_int od_mod) (ea_cons (ev_opO ev_int od_ix) ea_nil))) ea_nil)) ev_var od_mod)) sd_next) (sd_asg ev_var (eg_sub ev_int))))) sd_next)
      (sd_seq (sd_if (et_test (ev_op (ev_opO ev_int od_ix) ev_int od_gt)) (sd_seq (sd_asg (ev_opO ev_int od_ix) eg_name.eg) (sd_seq (sd_asg (ev_op ev_var ev_var od_fdiv) (eg_sub ev_int)) (sd_ret (ev_op (ev_cb cl_int (ea_cons ev_var ea_nil)) ev_var od_mod)))) sd_next)
      (sd_seq (sd_asg (ev_op (ev_cb cl_int (ea_cons (ev_op (ev_opO ev_int od_ix) ev_int od_add) ea_nil)) ev_int od_mod) (eg_sub ev_int))
      (sd_ret (ev_op (ev_cb cl_int (ea_cons (ev_call (fun _ => Reps.nil) p__law_mix_len (ea_cons (ev_opO ev_int od_ix) (ea_cons (ev_opO ev_int od_ix) ea_nil))) ea_nil)) ev_var od_mod)))))⟩
/-! _law_piled_right -/
theorem sc__law_piled_right : FnScope (["_law_hand_here", "_law_build", "_law_other", "_law_prices", "_law_length", "_law_pile", "_law_sums_here", "_law_whole", "_law_lower", "_law_upper", "_law_step", "_law_first", "_law_last", "_law_part", "_law_numbers"] : List PySem.Str) (["_law_hand_here", "_law_build", "_law_other", "_law_prices", "_law_length"] : List PySem.Str) (defScope (top 78)) := ⟨rfl, rfl, rfl, by decide +kernel, rfl, by decide +kernel, by decide +kernel⟩
theorem b__law_piled_right (e : Fx K mg) : Binds K e.fd__law_piled_right (["_law_hand_here", "_law_build", "_law_other", "_law_prices", "_law_length"] : List PySem.Str) [] := e.F__law_piled_right.bindsN fun _ _ _ _ _ _ us hl => match us, hl with | [_, _, _, _, _], _ => rfl
def td__law_piled_right (K : PySem.W.Frag) : TSD := (sSeq (sAsg (dCall (p_piled K) [] (dCons (dVar 1) (dCons (dVar 2) dNil))) (gdName 5))
      (sSeq (sAsg (d2 oAdd (dFld K ("price" : PySem.Str) (dCall (p_least_crack K) [] (dCons (dVar 1) (dCons (dVar 3) dNil)))) (dFld K ("price" : PySem.Str) (dCall (p_least_crack K) [] (dCons (dVar 2) (dCons (dVar 3) dNil))))) (gdName 6))
      (sSeq (sAsg (dCall (p_least_crack K) [] (dCons (dVar 5) (dCons (dVar 3) dNil))) (gdName 7))
      (sSeq (sIf (dOr (dTest (d2 oLt (dFld K ("price" : PySem.Str) (dVar 7)) (dVar 6))) (dTest (d2 oGt (dFld K ("price" : PySem.Str) (dVar 7)) (d2 oAdd (dVar 6) (d2 oMul (dFld K ("bed" : PySem.Str) (dVar 3)) (d2 oSub (dVar 4) (dC (.int 2)))))))) (sRet (dC (.bl false))) sNext)
      (sSeq (sPar 8 9 (dCons (dSl (dFld K ("places" : PySem.Str) (dVar 7)) dNoPart (dPart (dCB (cLenO (He.ga K ("Wall" : PySem.Str)) (p_Wall_len_ K)) (dCons (dVar 1) dNil)))) (dCons (dSl (dFld K ("places" : PySem.Str) (dVar 7)) (dPart (dCB (cLenO (He.ga K ("Wall" : PySem.Str)) (p_Wall_len_ K)) (dCons (dVar 1) dNil))) dNoPart) dNil)))
      (sSeq (sAsg (d2 oMul (dFld K ("bed" : PySem.Str) (dVar 3)) (dCB cAbs (dCons (d2 oSub (d2 oIx (dVar 9) (dC (.int 0))) (d2 oIx (dVar 8) (dNeg (dC (.int 1))))) dNil))) (gdName 10))
      (sSeq (sIf (dTest (d2 oNe (d2 oAdd (d2 oAdd (dCall (p_crack_price K) [] (dCons (dVar 1) (dCons (dVar 3) (dCons (dVar 8) dNil)))) (dVar 10)) (dCall (p_crack_price K) [] (dCons (dVar 2) (dCons (dVar 3) (dCons (dVar 9) dNil))))) (dFld K ("price" : PySem.Str) (dVar 7)))) (sRet (dC (.bl false))) sNext)
      (sSeq (sAsg (dCallH (p__law_draw K) 0 (dCons (dCB (cLenO (He.ga K ("Wall" : PySem.Str)) (p_Wall_len_ K)) (dCons (dVar 5) dNil)) dNil)) (gdName 11))
      (sSeq (sAsg (d2 oAdd (dVar 11) (dCallH (p__law_draw K) 0 (dCons (d2 oSub (dCB (cLenO (He.ga K ("Wall" : PySem.Str)) (p_Wall_len_ K)) (dCons (dVar 5) dNil)) (dVar 11)) dNil))) (gdName 12))
      (sSeq (sAsg (dCall (p_part_of K) [] (dCons (dVar 5) (dCons (dVar 11) (dCons (dVar 12) dNil)))) (gdName 13))
      (sSeq (sIf (dTest (d2 oGt (dFld K ("price" : PySem.Str) (dCall (p_least_crack K) [] (dCons (dVar 13) (dCons (dVar 3) dNil)))) (dFld K ("price" : PySem.Str) (dVar 7)))) (sRet (dC (.bl false))) sNext)
      (sSeq (sAsg (dCall (p_floor_numbers K) [] (dCons (dVar 5) (dCons (dVar 3) dNil))) (gdName 14))
      (sRet (dAndV (d2 oIsN (dCall (p_floor_fault K) [] (dCons (dVar 13) (dCons (dVar 3) (dCons (dCall (p_floor_numbers K) [] (dCons (dVar 13) (dCons (dVar 3) dNil))) dNil)))) (dC .non)) (d2 oEq (dCall (p_floor_numbers K) [] (dCons (dVar 1) (dCons (dVar 3) dNil))) (dSl (dVar 14) dNoPart (dPart (dCB (cLenO (He.ga K ("Wall" : PySem.Str)) (p_Wall_len_ K)) (dCons (dVar 1) dNil)))))))))))))))))))
def p__law_piled_right (K : PySem.W.Frag) : RCl := fun ds Q => ds.length = 4 ∧ pH 15 (td__law_piled_right K) ds Q
theorem p__law_piled_right_len {K : PySem.W.Frag} : ∀ ds Q, p__law_piled_right K ds Q → ds.length = 4 := fun _ _ h => h.1
theorem p__law_piled_right_td {K : PySem.W.Frag} : ∀ ds Q, p__law_piled_right K ds Q → pH 15 (td__law_piled_right K) ds Q := fun _ _ h => h.2
theorem ok__law_piled_right (e : Fx K mg) : FnOk P w K mg base CX0 6 (He.ga K ("_law_piled_right" : PySem.Str)) e.fd__law_piled_right (["_law_hand_here", "_law_build", "_law_other", "_law_prices", "_law_length"] : List PySem.Str) (spH K 4 (p__law_piled_right K)) := by
  have nd := sc__law_piled_right.nd
  refine fn_H e.F__law_piled_right sc__law_piled_right rfl p__law_piled_right_td ?_
  intro cdv A outer s H E hr
  exact ⟨_, PSs.nox (pss_cons (ps_set (i := 5) nd rfl (Or.inl rfl) (pe_call ((ok_piled e).mono (by decide : 5 ≤ 5)) hr rfl e.g_piled e.F_piled.kp (b_piled e) .nil pass0 (pa_cons (pv 1) (pa_cons (pv 2) pa_nil))))
      (pss_cons (ps_set (i := 6) nd rfl (Or.inl rfl) (pe_op op_add (pe_fld (pe_call ((ok_least_crack e).mono (by decide : 5 ≤ 5)) hr rfl e.g_least_crack e.F_least_crack.kp (b_least_crack e) .nil pass0 (pa_cons (pv 1) (pa_cons (pv 3) pa_nil))) rfl) (pe_fld (pe_call ((ok_least_crack e).mono (by decide : 5 ≤ 5)) hr rfl e.g_least_crack e.F_least_crack.kp (b_least_crack e) .nil pass0 (pa_cons (pv 2) (pa_cons (pv 3) pa_nil))) rfl)))
      (pss_cons (ps_set (i := 7) nd rfl (Or.inl rfl) (pe_call ((ok_least_crack e).mono (by decide : 5 ≤ 5)) hr rfl e.g_least_crack e.F_least_crack.kp (b_least_crack e) .nil pass0 (pa_cons (pv 5) (pa_cons (pv 3) pa_nil))))
      (pss_cons (ps_if (PW.pt (pw_or (pt_cmpR op_lt (pe_fld (pv 7) rfl) (pv 6) (nomark _)) (pw_or1 (pt_cmpR op_gt (pe_fld (pv 7) rfl) (pe_op op_add (pv 6) (pe_op op_mul (pe_fld (pv 3) rfl) (pe_op op_sub (pv 4) pe_int))) (nomark _))))) (pss_one (ps_ret pe_bl)) pss_nil)
      (pss_cons (ps_par (i := 8) (j := 9) rfl nd rfl rfl (by decide) rfl rfl (pa_cons (pe_slice sl_any (pe_fld (pv 7) rfl) po_none (po_some (pe_callB (call_lenO ((ok_Wall_len_ e).mono (by decide : 1 ≤ 4)) hr e.me_Wall_len_ (b_Wall_len_ e) pass0) rfl e.n_len boot_len' (pa_cons (pv 1) pa_nil)))) (pa_cons (pe_slice sl_any (pe_fld (pv 7) rfl) (po_some (pe_callB (call_lenO ((ok_Wall_len_ e).mono (by decide : 1 ≤ 4)) hr e.me_Wall_len_ (b_Wall_len_ e) pass0) rfl e.n_len boot_len' (pa_cons (pv 1) pa_nil))) po_none) pa_nil)) rfl)
      (pss_cons (ps_set (i := 10) nd rfl (Or.inl rfl) (pe_op op_mul (pe_fld (pv 3) rfl) (pe_callB call_abs rfl e.n_abs boot_abs' (pa_cons (pe_op op_sub (pe_ix ix_any (pv 9) pe_int (fun _ _ => rfl)) (pe_ix ix_any (pv 8) (pe_un un_neg pe_int) (fun _ _ => rfl))) pa_nil))))
      (pss_cons (ps_if (pt_cmpR (op_neD hr.units) (pe_op op_add (pe_op op_add (pe_call ((ok_crack_price e).mono (by decide : 2 ≤ 5)) hr rfl e.g_crack_price e.F_crack_price.kp (b_crack_price e) .nil pass0 (pa_cons (pv 1) (pa_cons (pv 3) (pa_cons (pv 8) pa_nil)))) (pv 10)) (pe_call ((ok_crack_price e).mono (by decide : 2 ≤ 5)) hr rfl e.g_crack_price e.F_crack_price.kp (b_crack_price e) .nil pass0 (pa_cons (pv 2) (pa_cons (pv 3) (pa_cons (pv 9) pa_nil))))) (pe_fld (pv 7) rfl) (nomark _)) (pss_one (ps_ret pe_bl)) pss_nil)
      (pss_cons (ps_set (i := 11) nd rfl (Or.inl rfl) (pe_call ((ok__law_draw e).mono (by decide : 2 ≤ 5)) hr rfl e.g__law_draw e.F__law_draw.kp (b__law_draw e) .nil pass0 (pa_cons (pv 0) (pa_cons (pe_callB (call_lenO ((ok_Wall_len_ e).mono (by decide : 1 ≤ 4)) hr e.me_Wall_len_ (b_Wall_len_ e) pass0) rfl e.n_len boot_len' (pa_cons (pv 5) pa_nil)) pa_nil))))
      (pss_cons (ps_set (i := 12) nd rfl (Or.inl rfl) (pe_op op_add (pv 11) (pe_call ((ok__law_draw e).mono (by decide : 2 ≤ 5)) hr rfl e.g__law_draw e.F__law_draw.kp (b__law_draw e) .nil pass0 (pa_cons (pv 0) (pa_cons (pe_op op_sub (pe_callB (call_lenO ((ok_Wall_len_ e).mono (by decide : 1 ≤ 4)) hr e.me_Wall_len_ (b_Wall_len_ e) pass0) rfl e.n_len boot_len' (pa_cons (pv 5) pa_nil)) (pv 11)) pa_nil)))))
      (pss_cons (ps_set (i := 13) nd rfl (Or.inl rfl) (pe_call ((ok_part_of e).mono (by decide : 5 ≤ 5)) hr rfl e.g_part_of e.F_part_of.kp (b_part_of e) .nil pass0 (pa_cons (pv 5) (pa_cons (pv 11) (pa_cons (pv 12) pa_nil)))))
      (pss_cons (ps_if (pt_cmpR op_gt (pe_fld (pe_call ((ok_least_crack e).mono (by decide : 5 ≤ 5)) hr rfl e.g_least_crack e.F_least_crack.kp (b_least_crack e) .nil pass0 (pa_cons (pv 13) (pa_cons (pv 3) pa_nil))) rfl) (pe_fld (pv 7) rfl) (nomark _)) (pss_one (ps_ret pe_bl)) pss_nil)
      (pss_cons (ps_set (i := 14) nd rfl (Or.inl rfl) (pe_call ((ok_floor_numbers e).mono (by decide : 5 ≤ 5)) hr rfl e.g_floor_numbers e.F_floor_numbers.kp (b_floor_numbers e) .nil pass0 (pa_cons (pv 5) (pa_cons (pv 3) pa_nil))))
      (pss_one (ps_ret (pe_and (pe_cmpR op_isN (pe_call ((ok_floor_fault e).mono (by decide : 4 ≤ 5)) hr rfl e.g_floor_fault e.F_floor_fault.kp (b_floor_fault e) .nil pass0 (pa_cons (pv 13) (pa_cons (pv 3) (pa_cons (pe_call ((ok_floor_numbers e).mono (by decide : 5 ≤ 5)) hr rfl e.g_floor_numbers e.F_floor_numbers.kp (b_floor_numbers e) .nil pass0 (pa_cons (pv 13) (pa_cons (pv 3) pa_nil))) pa_nil)))) pe_non (nomark _)) (pe_one (pe_cmpR (op_eqD hr.units) (pe_call ((ok_floor_numbers e).mono (by decide : 5 ≤ 5)) hr rfl e.g_floor_numbers e.F_floor_numbers.kp (b_floor_numbers e) .nil pass0 (pa_cons (pv 1) (pa_cons (pv 3) pa_nil))) (pe_slice sl_any (pv 14) po_none (po_some (pe_callB (call_lenO ((ok_Wall_len_ e).mono (by decide : 1 ≤ 4)) hr e.me_Wall_len_ (b_Wall_len_ e) pass0) rfl e.n_len boot_len' (pa_cons (pv 1) pa_nil)))) (nomark _)))))))))))))))))),
    (sd_seq (sd_asg (ev_call (fun _ => Reps.nil) p_piled_len (ea_cons ev_var (ea_cons ev_var ea_nil))) eg_name.eg)
      (sd_seq (sd_asg (ev_op (ev_fld (ev_call (fun _ => Reps.nil) p_least_crack_len (ea_cons ev_var (ea_cons ev_var ea_nil)))) (ev_fld (ev_call (fun _ => Reps.nil) p_least_crack_len (ea_cons ev_var (ea_cons ev_var ea_nil)))) od_add) eg_name.eg)
      (sd_seq (sd_asg (ev_call (fun _ => Reps.nil) p_least_crack_len (ea_cons ev_var (ea_cons ev_var ea_nil))) eg_name.eg)
      (sd_seq (sd_if (et_or (et_test (ev_op (ev_fld ev_var) ev_var od_lt)) (et_test (ev_op (ev_fld ev_var) (ev_op ev_var (ev_op (ev_fld ev_var) (ev_op ev_var ev_int od_sub) od_mul) od_add) od_gt))) (sd_ret ev_bl) sd_next)
      (sd_seq (sd_par (ea_cons (ev_sl (ev_fld ev_var) eo_no (eo_part (ev_cb cl_lenO (ea_cons ev_var ea_nil)))) (ea_cons (ev_sl (ev_fld ev_var) (eo_part (ev_cb cl_lenO (ea_cons ev_var ea_nil))) eo_no) ea_nil)))
      (sd_seq (sd_asg (ev_op (ev_fld ev_var) (ev_cb cl_abs (ea_cons (ev_op (ev_op ev_var ev_int od_ix) (ev_op ev_var (ev_neg ev_int) od_ix) od_sub) ea_nil)) od_mul) eg_name.eg)
      (sd_seq (sd_if (et_test (ev_op (ev_op (ev_op (ev_call (fun _ => Reps.nil) p_crack_price_len (ea_cons ev_var (ea_cons ev_var (ea_cons ev_var ea_nil)))) ev_var od_add) (ev_call (fun _ => Reps.nil) p_crack_price_len (ea_cons ev_var (ea_cons ev_var (ea_cons ev_var ea_nil)))) od_add) (ev_fld ev_var) od_ne)) (sd_ret ev_bl) sd_next)
      (sd_seq (sd_asg (ev_callH p__law_draw_len (ea_cons (ev_cb cl_lenO (ea_cons ev_var ea_nil)) ea_nil)) eg_name.eg)
      (sd_seq (sd_asg (ev_op ev_var (ev_callH p__law_draw_len (ea_cons (ev_op (ev_cb cl_lenO (ea_cons ev_var ea_nil)) ev_var od_sub) ea_nil)) od_add) eg_name.eg)
      (sd_seq (sd_asg (ev_call (fun _ => Reps.nil) p_part_of_len (ea_cons ev_var (ea_cons ev_var (ea_cons ev_var ea_nil)))) eg_name.eg)
      (sd_seq (sd_if (et_test (ev_op (ev_fld (ev_call (fun _ => Reps.nil) p_least_crack_len (ea_cons ev_var (ea_cons ev_var ea_nil)))) (ev_fld ev_var) od_gt)) (sd_ret ev_bl) sd_next)
      (sd_seq (sd_asg (ev_call (fun _ => Reps.nil) p_floor_numbers_len (ea_cons ev_var (ea_cons ev_var ea_nil))) eg_name.eg)
      (sd_ret (ev_andV (ev_op (ev_call (fun _ => Reps.nil) p_floor_fault_len (ea_cons ev_var (ea_cons ev_var (ea_cons (ev_call (fun _ => Reps.nil) p_floor_numbers_len (ea_cons ev_var (ea_cons ev_var ea_nil))) ea_nil)))) ev_non od_isN) (ev_op (ev_call (fun _ => Reps.nil) p_floor_numbers_len (ea_cons ev_var (ea_cons ev_var ea_nil))) (ev_sl ev_var eo_no (eo_part (ev_cb cl_lenO (ea_cons ev_var ea_nil)))) od_eq)))))))))))))))⟩
/-! Prices.__init__ -/
theorem sc_Prices_init : FnScope (["self", "brick", "bed"] : List PySem.Str) (["self", "brick", "bed"] : List PySem.Str) (defScope (inClass (top 22) 0)) := ⟨rfl, rfl, rfl, by decide +kernel, rfl, by decide +kernel, by decide +kernel⟩
theorem b_Prices_init (e : Fx K mg) : Binds K e.fd_Prices_init (["self", "brick", "bed"] : List PySem.Str) [] := e.F_Prices_init.bindsN fun _ _ _ _ _ _ us hl => match us, hl with | [_, _, _], _ => rfl
def td_Prices_init (K : PySem.W.Frag) : TSD := (sSeq (sIf (dNot (dTest (dCall (p_is_whole K) [] (dCons (dVar 1) (dCons (dC (.int 0)) (dCons (dC (.int 1000000)) dNil)))))) sNever sNext)
      (sSeq (sIf (dNot (dTest (dCall (p_is_whole K) [] (dCons (dVar 2) (dCons (dC (.int 0)) (dCons (dC (.int 1000000)) dNil)))))) sNever sNext)
      (sSeq (sFldS K ("brick" : PySem.Str) (dVar 1))
      (sFldS K ("bed" : PySem.Str) (dVar 2)))))
def p_Prices_init (K : PySem.W.Frag) : RCl := fun ds Q => ds.length = 2 ∧ pI 3 (He.ga K ("Prices" : PySem.Str)) (td_Prices_init K) ds Q
theorem p_Prices_init_len {K : PySem.W.Frag} : ∀ ds Q, p_Prices_init K ds Q → ds.length = 2 := fun _ _ h => h.1
theorem p_Prices_init_td {K : PySem.W.Frag} : ∀ ds Q, p_Prices_init K ds Q → pI 3 (He.ga K ("Prices" : PySem.Str)) (td_Prices_init K) ds Q := fun _ _ h => h.2
theorem ok_Prices_init (e : Fx K mg) : FnOk P w K mg base CX0 2 (He.ma K (He.ga K ("Prices" : PySem.Str)) ("__init__" : PySem.Str)) e.fd_Prices_init (["self", "brick", "bed"] : List PySem.Str) (spI K (He.ga K ("Prices" : PySem.Str)) 2 (p_Prices_init K)) := by
  have nd := sc_Prices_init.nd
  obtain ⟨ds_is_whole_0, rd_is_whole_0, bd_is_whole_0⟩ := b_is_whole_0 e
  refine fn_I e.F_Prices_init sc_Prices_init rfl p_Prices_init_td ?_
  intro cdv A outer s H E hr
  exact ⟨_, PSs.nox (pss_cons (ps_if (pt_not (pt_val (pe_call ((ok_is_whole e).mono (by decide : 1 ≤ 1)) hr rfl e.g_is_whole e.F_is_whole.kp bd_is_whole_0 rd_is_whole_0 pass0 (pa_cons (pv 1) (pa_cons pe_int (pa_cons (pe_int_of rfl e.i_MOST_PRICE) pa_nil)))))) (pss_one ps_never) pss_nil)
      (pss_cons (ps_if (pt_not (pt_val (pe_call ((ok_is_whole e).mono (by decide : 1 ≤ 1)) hr rfl e.g_is_whole e.F_is_whole.kp bd_is_whole_0 rd_is_whole_0 pass0 (pa_cons (pv 2) (pa_cons pe_int (pa_cons (pe_int_of rfl e.i_MOST_PRICE) pa_nil)))))) (pss_one ps_never) pss_nil)
      (pss_cons (ps_fld (pv 0) (pv 1) rfl)
      (pss_one (ps_fld (pv 0) (pv 2) rfl))))),
    (sd_seq (sd_if (et_not (et_B (ev_call (fun _ => Reps.nil) p_is_whole_len (ea_cons ev_var (ea_cons ev_int (ea_cons ev_int ea_nil)))))) sd_never sd_next)
      (sd_seq (sd_if (et_not (et_B (ev_call (fun _ => Reps.nil) p_is_whole_len (ea_cons ev_var (ea_cons ev_int (ea_cons ev_int ea_nil)))))) sd_never sd_next)
      (sd_seq (sd_fld ev_var)
      (sd_fld ev_var))))⟩
/-! are_stock_bricks -/
theorem sc_are_stock_bricks : FnScope (["bricks", "before", "brick"] : List PySem.Str) (["bricks"] : List PySem.Str) (defScope (top 50)) := ⟨rfl, rfl, rfl, by decide +kernel, rfl, by decide +kernel, by decide +kernel⟩
theorem b_are_stock_bricks (e : Fx K mg) : Binds K e.fd_are_stock_bricks (["bricks"] : List PySem.Str) [] := e.F_are_stock_bricks.bindsN fun _ _ _ _ _ _ us hl => match us, hl with | [_], _ => rfl
def lb_are_stock_bricks_0 (K : PySem.W.Frag) : TSD := (sSeq (sIf (dNot (dTest (dCall (p_is_whole K) [] (dCons (dVar 2) (dCons (d2 oAdd (dVar 1) (dC (.int 1))) (dCons (dC (.int 8)) dNil)))))) (sRet (dC (.bl false))) sNext) (sAsg (dVar 2) (gdName 1)))
def td_are_stock_bricks (K : PySem.W.Frag) : TSD := (sSeq (sIf (dOr (dNot (dTest (dIsiT K ["list", "tuple"] (dVar 0)))) (dNot (dTest (dChain oLe oLe (dC (.int 1)) (dCB1 cLen (dVar 0)) (dC (.int 4)))))) (sRet (dC (.bl false))) sNext)
      (sSeq (sAsg (dC (.int 0)) (gdName 1))
      (sSeq (sFor (iSeq (dVar 0)) (gdName 2) (lb_are_stock_bricks_0 K))
      (sRet (dC (.bl true))))))
def p_are_stock_bricks (K : PySem.W.Frag) : RCl := fun ds Q => ds.length = 1 ∧ pD 3 (td_are_stock_bricks K) ds Q
theorem p_are_stock_bricks_len {K : PySem.W.Frag} : ∀ ds Q, p_are_stock_bricks K ds Q → ds.length = 1 := fun _ _ h => h.1
theorem p_are_stock_bricks_td {K : PySem.W.Frag} : ∀ ds Q, p_are_stock_bricks K ds Q → pD 3 (td_are_stock_bricks K) ds Q := fun _ _ h => h.2
theorem ok_are_stock_bricks (e : Fx K mg) : FnOk P w K mg base CX0 2 (He.ga K ("are_stock_bricks" : PySem.Str)) e.fd_are_stock_bricks (["bricks"] : List PySem.Str) (spD K 1 (p_are_stock_bricks K)) := by
  have nd := sc_are_stock_bricks.nd
  obtain ⟨ds_is_whole_0, rd_is_whole_0, bd_is_whole_0⟩ := b_is_whole_0 e
  refine fn_D e.F_are_stock_bricks sc_are_stock_bricks p_are_stock_bricks_td ?_
  intro cdv A outer s H E hr
  exact ⟨_, PSs.nox (pss_cons (ps_if (PW.pt (pw_or (pt_not (pt_val (pe_callB call_isiT rfl e.n_isinstance boot_isinstance' (pa_cons (pv 0) (pa_cons (pe_tup (pa_cons (pe_bltn (v := .ty "list") rfl e.n_list boot_list' rfl) (pa_cons (pe_bltn (v := .ty "tuple") rfl e.n_tuple boot_tuple' rfl) pa_nil))) pa_nil))))) (pw_or1 (pt_not (pt_chain op_le op_le pe_int (pe_callB call_len_seq rfl e.n_len boot_len' (pa_cons (pv 0) pa_nil)) (pe_int_of rfl e.i_MOST_BRICKS)))))) (pss_one (ps_ret pe_bl)) pss_nil)
      (pss_cons (ps_set (i := 1) nd rfl (Or.inl rfl) pe_int)
      (pss_cons (ps_for PassesOwn.never rfl (pi_any (pv 0)) (pg_name (i := 2) nd rfl (Or.inl rfl)) (pss_cons (ps_if (pt_not (pt_val (pe_call ((ok_is_whole e).mono (by decide : 1 ≤ 1)) hr rfl e.g_is_whole e.F_is_whole.kp bd_is_whole_0 rd_is_whole_0 pass0 (pa_cons (pv 2) (pa_cons (pe_op op_add (pv 1) pe_int) (pa_cons (pe_int_of rfl e.i_LONGEST) pa_nil)))))) (pss_one (ps_ret pe_bl)) pss_nil) (pss_one (ps_set (i := 1) nd rfl (Or.inl rfl) (pv 2)))))
      (pss_one (ps_ret pe_bl))))),
    (sd_seq (sd_if (et_or (et_not (et_B (ev_isiT (by decide) (Ev.b ev_var)))) (et_not (et_test (ev_chain ev_int (ev_cb1 cl_len (Ev.b ev_var)) ev_int od_le od_le)))) (sd_ret ev_bl) sd_next)
      (sd_seq (sd_asg ev_int eg_name.eg)
      (sd_seq (sd_for (ei_any ev_var) (EGx.eg eg_name) (sd_seq (sd_if (et_not (et_B (ev_call (fun _ => Reps.nil) p_is_whole_len (ea_cons ev_var (ea_cons (ev_op ev_var ev_int od_add) (ea_cons ev_int ea_nil)))))) (sd_ret ev_bl) sd_next) (sd_asg ev_var eg_name.eg)))
      (sd_ret ev_bl))))⟩
/-! Stock.__init__ -/
theorem sc_Stock_init : FnScope (["self", "bricks", "lap", "reach"] : List PySem.Str) (["self", "bricks", "lap", "reach"] : List PySem.Str) (defScope (inClass (top 51) 0)) := ⟨rfl, rfl, rfl, by decide +kernel, rfl, by decide +kernel, by decide +kernel⟩
theorem b_Stock_init_0 (e : Fx K mg) : ∃ ds, Vals (List.drop 2 [.int 1, .int 1]) ds ∧ Binds K e.fd_Stock_init (["self", "bricks", "lap", "reach"] : List PySem.Str) ds := FunD.binds1 e.F_Stock_init 4 2 (fun z => nomatch z) (by decide) fun T kV doc pm an cdv ct us its hl hl2 => match us, its, hl, hl2 with | [_, _, _, _], [_, _], _, _ => ⟨_, rfl, rfl⟩
theorem b_Stock_init_1 (e : Fx K mg) : ∃ ds, Vals (List.drop 1 [.int 1, .int 1]) ds ∧ Binds K e.fd_Stock_init (["self", "bricks", "lap", "reach"] : List PySem.Str) ds := FunD.binds1 e.F_Stock_init 3 1 (fun z => nomatch z) (by decide) fun T kV doc pm an cdv ct us its hl hl2 => match us, its, hl, hl2 with | [_, _, _], [_, _], _, _ => ⟨_, rfl, rfl⟩
theorem b_Stock_init_2 (e : Fx K mg) : ∃ ds, Vals (List.drop 0 [.int 1, .int 1]) ds ∧ Binds K e.fd_Stock_init (["self", "bricks", "lap", "reach"] : List PySem.Str) ds := FunD.binds1 e.F_Stock_init 2 0 (fun z => nomatch z) (by decide) fun T kV doc pm an cdv ct us its hl hl2 => match us, its, hl, hl2 with | [_, _], [_, _], _, _ => ⟨_, rfl, rfl⟩
def td_Stock_init (K : PySem.W.Frag) : TSD := (sSeq (sIf (dNot (dTest (dCall (p_are_stock_bricks K) [] (dCons (dVar 1) dNil)))) sNever sNext)
      (sSeq (sIf (dNot (dTest (dCall (p_is_whole K) [] (dCons (dVar 2) (dCons (dC (.int 1)) (dCons (dC (.int 4)) dNil)))))) sNever sNext)
      (sSeq (sIf (dNot (dTest (dCall (p_is_whole K) [] (dCons (dVar 3) (dCons (dC (.int 1)) (dCons (dC (.int 2)) dNil)))))) sNever sNext)
      (sSeq (sFldS K ("bricks" : PySem.Str) (dCB1 cTuple (dVar 1)))
      (sSeq (sFldS K ("lap" : PySem.Str) (dVar 2))
      (sFldS K ("reach" : PySem.Str) (dVar 3)))))))
def p_Stock_init (K : PySem.W.Frag) : RCl := fun ds Q => ds.length = 3 ∧ pI 4 (He.ga K ("Stock" : PySem.Str)) (td_Stock_init K) ds Q
theorem p_Stock_init_len {K : PySem.W.Frag} : ∀ ds Q, p_Stock_init K ds Q → ds.length = 3 := fun _ _ h => h.1
theorem p_Stock_init_td {K : PySem.W.Frag} : ∀ ds Q, p_Stock_init K ds Q → pI 4 (He.ga K ("Stock" : PySem.Str)) (td_Stock_init K) ds Q := fun _ _ h => h.2
theorem ok_Stock_init (e : Fx K mg) : FnOk P w K mg base CX0 3 (He.ma K (He.ga K ("Stock" : PySem.Str)) ("__init__" : PySem.Str)) e.fd_Stock_init (["self", "bricks", "lap", "reach"] : List PySem.Str) (spI K (He.ga K ("Stock" : PySem.Str)) 3 (p_Stock_init K)) := by
  have nd := sc_Stock_init.nd
  obtain ⟨ds_is_whole_0, rd_is_whole_0, bd_is_whole_0⟩ := b_is_whole_0 e
  refine fn_I e.F_Stock_init sc_Stock_init rfl p_Stock_init_td ?_
  intro cdv A outer s H E hr
  exact ⟨_, PSs.nox (pss_cons (ps_if (pt_not (pt_val (pe_call ((ok_are_stock_bricks e).mono (by decide : 2 ≤ 2)) hr rfl e.g_are_stock_bricks e.F_are_stock_bricks.kp (b_are_stock_bricks e) .nil pass0 (pa_cons (pv 1) pa_nil)))) (pss_one ps_never) pss_nil)
      (pss_cons (ps_if (pt_not (pt_val (pe_call ((ok_is_whole e).mono (by decide : 1 ≤ 2)) hr rfl e.g_is_whole e.F_is_whole.kp bd_is_whole_0 rd_is_whole_0 pass0 (pa_cons (pv 2) (pa_cons pe_int (pa_cons (pe_int_of rfl e.i_MOST_LAP) pa_nil)))))) (pss_one ps_never) pss_nil)
      (pss_cons (ps_if (pt_not (pt_val (pe_call ((ok_is_whole e).mono (by decide : 1 ≤ 2)) hr rfl e.g_is_whole e.F_is_whole.kp bd_is_whole_0 rd_is_whole_0 pass0 (pa_cons (pv 3) (pa_cons pe_int (pa_cons (pe_int_of rfl e.i_MOST_REACH) pa_nil)))))) (pss_one ps_never) pss_nil)
      (pss_cons (ps_fld (pv 0) (pe_callTy call_tuple_of rfl e.n_tuple boot_tuple' (pa_cons (pv 1) pa_nil)) rfl)
      (pss_cons (ps_fld (pv 0) (pv 2) rfl)
      (pss_one (ps_fld (pv 0) (pv 3) rfl))))))),
    (sd_seq (sd_if (et_not (et_B (ev_call (fun _ => Reps.nil) p_are_stock_bricks_len (ea_cons ev_var ea_nil)))) sd_never sd_next)
      (sd_seq (sd_if (et_not (et_B (ev_call (fun _ => Reps.nil) p_is_whole_len (ea_cons ev_var (ea_cons ev_int (ea_cons ev_int ea_nil)))))) sd_never sd_next)
      (sd_seq (sd_if (et_not (et_B (ev_call (fun _ => Reps.nil) p_is_whole_len (ea_cons ev_var (ea_cons ev_int (ea_cons ev_int ea_nil)))))) sd_never sd_next)
      (sd_seq (sd_fld (ev_cb1 cl_tuple (Ev.b ev_var)))
      (sd_seq (sd_fld ev_var)
      (sd_fld ev_var))))))⟩
/-! Stock.finer -/
theorem sc_Stock_finer : FnScope (["self", "size", "brick"] : List PySem.Str) (["self", "size"] : List PySem.Str) (defScope (inClass (top 51) 7)) := ⟨rfl, rfl, rfl, by decide +kernel, rfl, by decide +kernel, by decide +kernel⟩
theorem b_Stock_finer (e : Fx K mg) : Binds K e.fd_Stock_finer (["self", "size"] : List PySem.Str) [] := e.F_Stock_finer.bindsN fun _ _ _ _ _ _ us hl => match us, hl with | [_, _], _ => rfl
def td_Stock_finer (K : PySem.W.Frag) : TSD := (sSeq (sIf (dNot (dTest (dCall (p_is_whole K) [] (dCons (dVar 1) (dCons (dC (.int 1)) (dCons (dC (.int 4)) dNil)))))) sNever sNext)
      (sRet (dCall (p_Stock_init K) [] (dCons (dLc (iSeq (dFld K ("bricks" : PySem.Str) (dVar 0))) (gdName 2) dYes (d2 oMul (dVar 2) (dVar 1)) [2]) (dCons (d2 oMul (dFld K ("lap" : PySem.Str) (dVar 0)) (dVar 1)) (dCons (dFld K ("reach" : PySem.Str) (dVar 0)) dNil))))))
def p_Stock_finer (K : PySem.W.Frag) : RCl := fun ds Q => ds.length = 2 ∧ pD 3 (td_Stock_finer K) ds Q
theorem p_Stock_finer_len {K : PySem.W.Frag} : ∀ ds Q, p_Stock_finer K ds Q → ds.length = 2 := fun _ _ h => h.1
theorem p_Stock_finer_td {K : PySem.W.Frag} : ∀ ds Q, p_Stock_finer K ds Q → pD 3 (td_Stock_finer K) ds Q := fun _ _ h => h.2
theorem ok_Stock_finer (e : Fx K mg) : FnOk P w K mg base CX0 5 (He.ma K (He.ga K ("Stock" : PySem.Str)) ("finer" : PySem.Str)) e.fd_Stock_finer (["self", "size"] : List PySem.Str) (spD K 2 (p_Stock_finer K)) := by
  have nd := sc_Stock_finer.nd
  obtain ⟨ds_is_whole_0, rd_is_whole_0, bd_is_whole_0⟩ := b_is_whole_0 e
  obtain ⟨ds_Stock_init_0, rd_Stock_init_0, bd_Stock_init_0⟩ := b_Stock_init_0 e
  refine fn_D e.F_Stock_finer sc_Stock_finer p_Stock_finer_td ?_
  intro cdv A outer s H E hr
  exact ⟨_, PSs.nox (pss_cons (ps_if (pt_not (pt_val (pe_call ((ok_is_whole e).mono (by decide : 1 ≤ 4)) hr rfl e.g_is_whole e.F_is_whole.kp bd_is_whole_0 rd_is_whole_0 pass0 (pa_cons (pv 1) (pa_cons pe_int (pa_cons (pe_int_of rfl e.i_MOST_SIZE) pa_nil)))))) (pss_one ps_never) pss_nil)
      (pss_one (ps_ret (pe_make e.M_Stock ((ok_Stock_init e).mono (by decide : 3 ≤ 3)) hr rfl e.g_Stock bd_Stock_init_0 rd_Stock_init_0 pass0 (pa_cons (pe_lc (own := [(("brick" : PySem.Str), 2)]) rfl nd (pi_any (pe_fld (pv 0) rfl)) (blkOk_by (N := (["self", "size", "brick"] : List PySem.Str)) (sc := defScope (inClass (top 51) 7)) (by decide +kernel)) (fun _ _ _ _ _ => (pg_name (i := 2) nd rfl (Or.inl rfl))) (fun _ _ _ _ _ => pts_nil) (fun _ _ _ _ _ => (pe_op op_mul (pv 2) (pv 1)))) (pa_cons (pe_op op_mul (pe_fld (pv 0) rfl) (pv 1)) (pa_cons (pe_fld (pv 0) rfl) pa_nil))))))),
    (sd_seq (sd_if (et_not (et_B (ev_call (fun _ => Reps.nil) p_is_whole_len (ea_cons ev_var (ea_cons ev_int (ea_cons ev_int ea_nil)))))) sd_never sd_next)
      (sd_ret (ev_make (fun _ => Reps.nil) p_Stock_init_len (ea_cons (ev_lc (ei_any (ev_fld ev_var)) eg_name (gin_name (by decide)) (gdin_name (by decide)) et_yes (ev_op ev_var ev_var od_mul)) (ea_cons (ev_op (ev_fld ev_var) ev_var od_mul) (ea_cons (ev_fld ev_var) ea_nil))))))⟩
/-! _law_pick -/
theorem sc__law_pick : FnScope (["_law_hand_here", "_law_things"] : List PySem.Str) (["_law_hand_here", "_law_things"] : List PySem.Str) (defScope (top 67)) := ⟨rfl, rfl, rfl, by decide +kernel, rfl, by decide +kernel, by decide +kernel⟩
theorem b__law_pick (e : Fx K mg) : Binds K e.fd__law_pick (["_law_hand_here", "_law_things"] : List PySem.Str) [] := e.F__law_pick.bindsN fun _ _ _ _ _ _ us hl => match us, hl with | [_, _], _ => rfl
def td__law_pick (K : PySem.W.Frag) : TSD := (sRet (d2 oIx (dVar 1) (dCallH (p__law_draw K) 0 (dCons (dCB1 cLen (dVar 1)) dNil))))
def p__law_pick (K : PySem.W.Frag) : RCl := fun ds Q => ds.length = 1 ∧ pH 2 (td__law_pick K) ds Q
theorem p__law_pick_len {K : PySem.W.Frag} : ∀ ds Q, p__law_pick K ds Q → ds.length = 1 := fun _ _ h => h.1
theorem p__law_pick_td {K : PySem.W.Frag} : ∀ ds Q, p__law_pick K ds Q → pH 2 (td__law_pick K) ds Q := fun _ _ h => h.2
theorem ok__law_pick (e : Fx K mg) : FnOk P w K mg base CX0 3 (He.ga K ("_law_pick" : PySem.Str)) e.fd__law_pick (["_law_hand_here", "_law_things"] : List PySem.Str) (spH K 1 (p__law_pick K)) := by
  have nd := sc__law_pick.nd
  refine fn_H e.F__law_pick sc__law_pick rfl p__law_pick_td ?_
  intro cdv A outer s H E hr
  exact ⟨_, PSs.nox (pss_one (ps_ret (pe_ix ix_any (pv 1) (pe_call ((ok__law_draw e).mono (by decide : 2 ≤ 2)) hr rfl e.g__law_draw e.F__law_draw.kp (b__law_draw e) .nil pass0 (pa_cons (pv 0) (pa_cons (pe_callB call_len_seq rfl e.n_len boot_len' (pa_cons (pv 1) pa_nil)) pa_nil))) (fun _ _ => rfl)))),
    (sd_ret (ev_op ev_var (ev_callH p__law_draw_len (ea_cons (ev_cb1 cl_len (Ev.b ev_var)) ea_nil)) od_ix))⟩
/-! _law_scaled_right -/
theorem sc__law_scaled_right : FnScope (["_law_hand_here", "_law_world", "_law_build", "_law_prices", "_law_crack", "_law_length", "_law_factor", "_law_sizes", "_law_size", "_law_stock_here", "_law_fine", "_law_dear", "_law_less", "_law_course_here", "_law_brick", "_law_spot"] : List PySem.Str) (["_law_hand_here", "_law_world", "_law_build", "_law_prices", "_law_crack", "_law_length"] : List PySem.Str) (defScope (top 79)) := ⟨rfl, rfl, rfl, by decide +kernel, rfl, by decide +kernel, by decide +kernel⟩
theorem b__law_scaled_right (e : Fx K mg) : Binds K e.fd__law_scaled_right (["_law_hand_here", "_law_world", "_law_build", "_law_prices", "_law_crack", "_law_length"] : List PySem.Str) [] := e.F__law_scaled_right.bindsN fun _ _ _ _ _ _ us hl => match us, hl with | [_, _, _, _, _, _], _ => rfl
def td__law_scaled_right (K : PySem.W.Frag) : TSD := (sSeq (sAsg (d2 oAdd (dC (.int 1)) (dCallH (p__law_draw K) 0 (dCons (dC (.int 1000)) dNil))) (gdName 6))
      (sSeq (sIf (dAnd (dTest (d2 oLe (d2 oMul (dFld K ("brick" : PySem.Str) (dVar 3)) (dVar 6)) (d2 oPow (dC (.int 10)) (dC (.int 6))))) (dTest (d2 oLe (d2 oMul (dFld K ("bed" : PySem.Str) (dVar 3)) (dVar 6)) (d2 oPow (dC (.int 10)) (dC (.int 6)))))) (sIf (dTest (d2 oNe (dFld K ("price" : PySem.Str) (dCall (p_least_crack K) [] (dCons (dVar 2) (dCons (dCall (p_Prices_init K) [] (dCons (d2 oMul (dFld K ("brick" : PySem.Str) (dVar 3)) (dVar 6)) (dCons (d2 oMul (dFld K ("bed" : PySem.Str) (dVar 3)) (dVar 6)) dNil))) dNil)))) (d2 oMul (dFld K ("price" : PySem.Str) (dVar 4)) (dVar 6)))) (sRet (dC (.bl false))) sNext) sNext)
      (sSeq (sAsg (dLc (iR2 (dCons (dC (.int 1)) (dCons (dC (.int 5)) dNil))) (gdName 8) (dAnd (dTest (d2 oLe (d2 oMul (dCB1 cMaxL (d2 oIx (dVar 1) (dC (.int 0)))) (dVar 8)) (dC (.int 8)))) (dAnd (dTest (d2 oLe (d2 oMul (d2 oIx (dVar 1) (dC (.int 1))) (dVar 8)) (dC (.int 4)))) (dTest (d2 oLe (d2 oMul (dFld K ("brick" : PySem.Str) (dVar 3)) (dVar 8)) (d2 oPow (dC (.int 10)) (dC (.int 6))))))) (dVar 8) [8]) (gdName 7))
      (sSeq (sAsg (dCallH (p__law_pick K) 0 (dCons (dVar 7) dNil)) (gdName 8))
      (sSeq (sAsg (dMeth (He.ga K ("Stock" : PySem.Str)) ("finer" : PySem.Str) (p_Stock_finer K) [] (dCall (p_Stock_init K) [] (dCons (d2 oIx (dVar 1) (dC (.int 0))) (dCons (d2 oIx (dVar 1) (dC (.int 1))) (dCons (d2 oIx (dVar 1) (dC (.int 2))) dNil)))) (dCons (dVar 8) dNil)) (gdName 9))
      (sSeq (sAsg (dCall (p_Wall_init K) [] (dCons (dVar 9) (dCons (dLc (iSeq (dFld K ("courses" : PySem.Str) (dVar 2))) (gdName 13) dYes (dLc (iSeq (dVar 13)) (gdName 14) dYes (d2 oMul (dVar 14) (dVar 8)) [14]) [13]) dNil))) (gdName 10))
      (sSeq (sAsg (dCall (p_Prices_init K) [] (dCons (d2 oMul (dFld K ("brick" : PySem.Str) (dVar 3)) (dVar 8)) (dCons (dFld K ("bed" : PySem.Str) (dVar 3)) dNil))) (gdName 11))
      (sSeq (sIf (dTest (d2 oNe (dFld K ("price" : PySem.Str) (dCall (p_least_crack K) [] (dCons (dVar 10) (dCons (dVar 11) dNil)))) (d2 oMul (dFld K ("price" : PySem.Str) (dVar 4)) (dVar 8)))) (sRet (dC (.bl false))) sNext)
      (sSeq (sIf (dTest (d2 oNe (dCall (p_crack_price K) [] (dCons (dVar 10) (dCons (dVar 11) (dCons (dLc (iSeq (dFld K ("places" : PySem.Str) (dVar 4))) (gdName 15) dYes (d2 oMul (dVar 15) (dVar 8)) [15]) dNil)))) (d2 oMul (dFld K ("price" : PySem.Str) (dVar 4)) (dVar 8)))) (sRet (dC (.bl false))) sNext)
      (sSeq (sAsg (dCall (p_least_crack K) [] (dCons (dVar 2) (dCons (dCall (p_Prices_init K) [] (dCons (d2 oSub (dFld K ("brick" : PySem.Str) (dVar 3)) (dCallH (p__law_draw K) 0 (dCons (d2 oAdd (dFld K ("brick" : PySem.Str) (dVar 3)) (dC (.int 1))) dNil))) (dCons (d2 oSub (dFld K ("bed" : PySem.Str) (dVar 3)) (dCallH (p__law_draw K) 0 (dCons (d2 oAdd (dFld K ("bed" : PySem.Str) (dVar 3)) (dC (.int 1))) dNil))) dNil))) dNil))) (gdName 12))
      (sRet (d2 oLe (dFld K ("price" : PySem.Str) (dVar 12)) (dFld K ("price" : PySem.Str) (dVar 4))))))))))))))
def p__law_scaled_right (K : PySem.W.Frag) : RCl := fun ds Q => ds.length = 5 ∧ pH 16 (td__law_scaled_right K) ds Q
theorem p__law_scaled_right_len {K : PySem.W.Frag} : ∀ ds Q, p__law_scaled_right K ds Q → ds.length = 5 := fun _ _ h => h.1
theorem p__law_scaled_right_td {K : PySem.W.Frag} : ∀ ds Q, p__law_scaled_right K ds Q → pH 16 (td__law_scaled_right K) ds Q := fun _ _ h => h.2
theorem ok__law_scaled_right (e : Fx K mg) : FnOk P w K mg base CX0 6 (He.ga K ("_law_scaled_right" : PySem.Str)) e.fd__law_scaled_right (["_law_hand_here", "_law_world", "_law_build", "_law_prices", "_law_crack", "_law_length"] : List PySem.Str) (spH K 5 (p__law_scaled_right K)) := by
  have nd := sc__law_scaled_right.nd
  obtain ⟨ds_Stock_init_0, rd_Stock_init_0, bd_Stock_init_0⟩ := b_Stock_init_0 e
  refine fn_H e.F__law_scaled_right sc__law_scaled_right rfl p__law_scaled_right_td ?_
  intro cdv A outer s H E hr
  exact ⟨_, PSs.nox (pss_cons (ps_set (i := 6) nd rfl (Or.inl rfl) (pe_op op_add pe_int (pe_call ((ok__law_draw e).mono (by decide : 2 ≤ 5)) hr rfl e.g__law_draw e.F__law_draw.kp (b__law_draw e) .nil pass0 (pa_cons (pv 0) (pa_cons pe_int pa_nil)))))
      (pss_cons (ps_if (PW.pt (pw_and (pt_cmpR op_le (pe_op op_mul (pe_fld (pv 3) rfl) (pv 6)) (pe_op op_pow pe_int pe_int) (nomark _)) (pw_and1 (pt_cmpR op_le (pe_op op_mul (pe_fld (pv 3) rfl) (pv 6)) (pe_op op_pow pe_int pe_int) (nomark _))))) (pss_one (ps_if (pt_cmpR (op_neD hr.units) (pe_fld (pe_call ((ok_least_crack e).mono (by decide : 5 ≤ 5)) hr rfl e.g_least_crack e.F_least_crack.kp (b_least_crack e) .nil pass0 (pa_cons (pv 2) (pa_cons (pe_make e.M_Prices ((ok_Prices_init e).mono (by decide : 2 ≤ 4)) hr rfl e.g_Prices (b_Prices_init e) .nil pass0 (pa_cons (pe_op op_mul (pe_fld (pv 3) rfl) (pv 6)) (pa_cons (pe_op op_mul (pe_fld (pv 3) rfl) (pv 6)) pa_nil))) pa_nil))) rfl) (pe_op op_mul (pe_fld (pv 4) rfl) (pv 6)) (nomark _)) (pss_one (ps_ret pe_bl)) pss_nil)) pss_nil)
      (pss_cons (ps_setLc (i := 7) (own := [(("_law_size" : PySem.Str), 8)]) rfl nd rfl rfl (sw_true rfl rfl rfl (by decide +kernel)) (pi_range2 rfl e.n_range (pa_cons pe_int (pa_cons pe_int pa_nil))) (blkOk_by (N := (["_law_hand_here", "_law_world", "_law_build", "_law_prices", "_law_crack", "_law_length", "_law_factor", "_law_sizes", "_law_size", "_law_stock_here", "_law_fine", "_law_dear", "_law_less", "_law_course_here", "_law_brick", "_law_spot"] : List PySem.Str)) (sc := defScope (top 79)) (by decide +kernel)) (fun _ _ _ _ _ => (pg_name (i := 8) nd rfl (Or.inl rfl))) (fun _ _ _ _ _ => pts_one (PW.pt (pw_and (pt_cmpR op_le (pe_op op_mul (pe_callB (call_or (cr_max rfl) (cr_maxT rfl hr.units)) rfl e.n_max boot_max' (pa_cons (pe_ix ix_any (pv 1) pe_int (fun _ _ => rfl)) pa_nil)) (pv 8)) pe_int (nomark _)) (pw_and (pt_cmpR op_le (pe_op op_mul (pe_ix ix_any (pv 1) pe_int (fun _ _ => rfl)) (pv 8)) pe_int (nomark _)) (pw_and1 (pt_cmpR op_le (pe_op op_mul (pe_fld (pv 3) rfl) (pv 8)) (pe_op op_pow pe_int pe_int) (nomark _))))))) (fun _ _ _ _ _ => (pv 8)))
      (pss_cons (ps_set (i := 8) nd rfl (Or.inr rfl) (pe_call ((ok__law_pick e).mono (by decide : 3 ≤ 5)) hr rfl e.g__law_pick e.F__law_pick.kp (b__law_pick e) .nil pass0 (pa_cons (pv 0) (pa_cons (pv 7) pa_nil))))
      (pss_cons (ps_set (i := 9) nd rfl (Or.inl rfl) (pe_meth (pe_make e.M_Stock ((ok_Stock_init e).mono (by decide : 3 ≤ 4)) hr rfl e.g_Stock bd_Stock_init_0 rd_Stock_init_0 pass0 (pa_cons (pe_ix ix_any (pv 1) pe_int (fun _ _ => rfl)) (pa_cons (pe_ix ix_any (pv 1) pe_int (fun _ _ => rfl)) (pa_cons (pe_ix ix_any (pv 1) pe_int (fun _ _ => rfl)) pa_nil)))) e.c_Stock e.me_Stock_finer ((ok_Stock_finer e).mono (by decide : 5 ≤ 5)) hr (b_Stock_finer e) .nil pass0 (pa_cons (pv 8) pa_nil)))
      (pss_cons (ps_set (i := 10) nd rfl (Or.inl rfl) (pe_make e.M_Wall ((ok_Wall_init e).mono (by decide : 3 ≤ 4)) hr rfl e.g_Wall (b_Wall_init e) .nil pass0 (pa_cons (pv 9) (pa_cons (pe_lc (own := [(("_law_course_here" : PySem.Str), 13)]) rfl nd (pi_any (pe_fld (pv 2) rfl)) (blkOk_by (N := (["_law_hand_here", "_law_world", "_law_build", "_law_prices", "_law_crack", "_law_length", "_law_factor", "_law_sizes", "_law_size", "_law_stock_here", "_law_fine", "_law_dear", "_law_less", "_law_course_here", "_law_brick", "_law_spot"] : List PySem.Str)) (sc := defScope (top 79)) (by decide +kernel)) (fun _ _ _ _ _ => (pg_name (i := 13) nd rfl (Or.inl rfl))) (fun _ _ _ _ _ => pts_nil) (fun _ _ _ _ _ => (pe_lc (own := [(("_law_brick" : PySem.Str), 14)]) rfl nd (pi_any (pv 13)) (blkOk_by (N := (["_law_hand_here", "_law_world", "_law_build", "_law_prices", "_law_crack", "_law_length", "_law_factor", "_law_sizes", "_law_size", "_law_stock_here", "_law_fine", "_law_dear", "_law_less", "_law_course_here", "_law_brick", "_law_spot"] : List PySem.Str)) (sc := { kind := .function, names := [(".0", .local), ("_law_course_here", .local), ("_law_size", .cell)], isGenerator := false, isCoroutine := false }) (by decide +kernel)) (fun _ _ _ _ _ => (pg_name (i := 14) nd rfl (Or.inl rfl))) (fun _ _ _ _ _ => pts_nil) (fun _ _ _ _ _ => (pe_op op_mul (pv 14) (pv 8)))))) pa_nil))))
      (pss_cons (ps_set (i := 11) nd rfl (Or.inl rfl) (pe_make e.M_Prices ((ok_Prices_init e).mono (by decide : 2 ≤ 4)) hr rfl e.g_Prices (b_Prices_init e) .nil pass0 (pa_cons (pe_op op_mul (pe_fld (pv 3) rfl) (pv 8)) (pa_cons (pe_fld (pv 3) rfl) pa_nil))))
      (pss_cons (ps_if (pt_cmpR (op_neD hr.units) (pe_fld (pe_call ((ok_least_crack e).mono (by decide : 5 ≤ 5)) hr rfl e.g_least_crack e.F_least_crack.kp (b_least_crack e) .nil pass0 (pa_cons (pv 10) (pa_cons (pv 11) pa_nil))) rfl) (pe_op op_mul (pe_fld (pv 4) rfl) (pv 8)) (nomark _)) (pss_one (ps_ret pe_bl)) pss_nil)
      (pss_cons (ps_if (pt_cmpR (op_neD hr.units) (pe_call ((ok_crack_price e).mono (by decide : 2 ≤ 5)) hr rfl e.g_crack_price e.F_crack_price.kp (b_crack_price e) .nil pass0 (pa_cons (pv 10) (pa_cons (pv 11) (pa_cons (pe_lc (own := [(("_law_spot" : PySem.Str), 15)]) rfl nd (pi_any (pe_fld (pv 4) rfl)) (blkOk_by (N := (["_law_hand_here", "_law_world", "_law_build", "_law_prices", "_law_crack", "_law_length", "_law_factor", "_law_sizes", "_law_size", "_law_stock_here", "_law_fine", "_law_dear", "_law_less", "_law_course_here", "_law_brick", "_law_spot"] : List PySem.Str)) (sc := defScope (top 79)) (by decide +kernel)) (fun _ _ _ _ _ => (pg_name (i := 15) nd rfl (Or.inl rfl))) (fun _ _ _ _ _ => pts_nil) (fun _ _ _ _ _ => (pe_op op_mul (pv 15) (pv 8)))) pa_nil)))) (pe_op op_mul (pe_fld (pv 4) rfl) (pv 8)) (nomark _)) (pss_one (ps_ret pe_bl)) pss_nil)
      (pss_cons (ps_set (i := 12) nd rfl (Or.inl rfl) (pe_call ((ok_least_crack e).mono (by decide : 5 ≤ 5)) hr rfl e.g_least_crack e.F_least_crack.kp (b_least_crack e) .nil pass0 (pa_cons (pv 2) (pa_cons (pe_make e.M_Prices ((ok_Prices_init e).mono (by decide : 2 ≤ 4)) hr rfl e.g_Prices (b_Prices_init e) .nil pass0 (pa_cons (pe_op op_sub (pe_fld (pv 3) rfl) (pe_call ((ok__law_draw e).mono (by decide : 2 ≤ 5)) hr rfl e.g__law_draw e.F__law_draw.kp (b__law_draw e) .nil pass0 (pa_cons (pv 0) (pa_cons (pe_op op_add (pe_fld (pv 3) rfl) pe_int) pa_nil)))) (pa_cons (pe_op op_sub (pe_fld (pv 3) rfl) (pe_call ((ok__law_draw e).mono (by decide : 2 ≤ 5)) hr rfl e.g__law_draw e.F__law_draw.kp (b__law_draw e) .nil pass0 (pa_cons (pv 0) (pa_cons (pe_op op_add (pe_fld (pv 3) rfl) pe_int) pa_nil)))) pa_nil))) pa_nil))))
      (pss_one (ps_ret (pe_cmpR op_le (pe_fld (pv 12) rfl) (pe_fld (pv 4) rfl) (nomark _)))))))))))))),
    (sd_seq (sd_asg (ev_op ev_int (ev_callH p__law_draw_len (ea_cons ev_int ea_nil)) od_add) eg_name.eg)
      (sd_seq (sd_if (et_and (et_test (ev_op (ev_op (ev_fld ev_var) ev_var od_mul) (ev_op ev_int ev_int od_pow) od_le)) (et_test (ev_op (ev_op (ev_fld ev_var) ev_var od_mul) (ev_op ev_int ev_int od_pow) od_le))) (sd_if (et_test (ev_op (ev_fld (ev_call (fun _ => Reps.nil) p_least_crack_len (ea_cons ev_var (ea_cons (ev_make (fun _ => Reps.nil) p_Prices_init_len (ea_cons (ev_op (ev_fld ev_var) ev_var od_mul) (ea_cons (ev_op (ev_fld ev_var) ev_var od_mul) ea_nil))) ea_nil)))) (ev_op (ev_fld ev_var) ev_var od_mul) od_ne)) (sd_ret ev_bl) sd_next) sd_next)
      (sd_seq (sd_asg (ev_lc (ei_rng2 (ea_cons ev_int (ea_cons ev_int ea_nil))) eg_name (gin_name (by decide)) (gdin_name (by decide)) (et_and (et_test (ev_op (ev_op (ev_cb1 cl_maxL (Ev.b (ev_op ev_var ev_int od_ix))) ev_var od_mul) ev_int od_le)) (et_and (et_test (ev_op (ev_op (ev_op ev_var ev_int od_ix) ev_var od_mul) ev_int od_le)) (et_test (ev_op (ev_op (ev_fld ev_var) ev_var od_mul) (ev_op ev_int ev_int od_pow) od_le)))) ev_var) eg_name.eg)
      (sd_seq (sd_asg (ev_callH p__law_pick_len (ea_cons ev_var ea_nil)) eg_name.eg)
      (sd_seq (sd_asg (ev_meth (fun _ => Reps.nil) p_Stock_finer_len (ev_make (fun _ => Reps.nil) p_Stock_init_len (ea_cons (ev_op ev_var ev_int od_ix) (ea_cons (ev_op ev_var ev_int od_ix) (ea_cons (ev_op ev_var ev_int od_ix) ea_nil)))) (ea_cons ev_var ea_nil)) eg_name.eg)
      (sd_seq (sd_asg (ev_make (fun _ => Reps.nil) p_Wall_init_len (ea_cons ev_var (ea_cons (ev_lc (ei_any (ev_fld ev_var)) eg_name (gin_name (by decide)) (gdin_name (by decide)) et_yes (ev_lc (ei_any ev_var) eg_name (gin_name (by decide)) (gdin_name (by decide)) et_yes (ev_op ev_var ev_var od_mul))) ea_nil))) eg_name.eg)
      (sd_seq (sd_asg (ev_make (fun _ => Reps.nil) p_Prices_init_len (ea_cons (ev_op (ev_fld ev_var) ev_var od_mul) (ea_cons (ev_fld ev_var) ea_nil))) eg_name.eg)
      (sd_seq (sd_if (et_test (ev_op (ev_fld (ev_call (fun _ => Reps.nil) p_least_crack_len (ea_cons ev_var (ea_cons ev_var ea_nil)))) (ev_op (ev_fld ev_var) ev_var od_mul) od_ne)) (sd_ret ev_bl) sd_next)
      (sd_seq (sd_if (et_test (ev_op (ev_call (fun _ => Reps.nil) p_crack_price_len (ea_cons ev_var (ea_cons ev_var (ea_cons (ev_lc (ei_any (ev_fld ev_var)) eg_name (gin_name (by decide)) (gdin_name (by decide)) et_yes (ev_op ev_var ev_var od_mul)) ea_nil)))) (ev_op (ev_fld ev_var) ev_var od_mul) od_ne)) (sd_ret ev_bl) sd_next)
      (sd_seq (sd_asg (ev_call (fun _ => Reps.nil) p_least_crack_len (ea_cons ev_var (ea_cons (ev_make (fun _ => Reps.nil) p_Prices_init_len (ea_cons (ev_op (ev_fld ev_var) (ev_callH p__law_draw_len (ea_cons (ev_op (ev_fld ev_var) ev_int od_add) ea_nil)) od_sub) (ea_cons (ev_op (ev_fld ev_var) (ev_callH p__law_draw_len (ea_cons (ev_op (ev_fld ev_var) ev_int od_add) ea_nil)) od_sub) ea_nil))) ea_nil))) eg_name.eg)
      (sd_ret (ev_op (ev_fld ev_var) (ev_fld ev_var) od_le))))))))))))⟩
/-! _law_stock -/
theorem sc__law_stock : FnScope (["_law_hand_here", "_law_reach", "_law_many", "_law_pool", "_law_bricks", "_law_k", "_law_lap"] : List PySem.Str) (["_law_hand_here"] : List PySem.Str) (defScope (top 68)) := ⟨rfl, rfl, rfl, by decide +kernel, rfl, by decide +kernel, by decide +kernel⟩
theorem b__law_stock (e : Fx K mg) : Binds K e.fd__law_stock (["_law_hand_here"] : List PySem.Str) [] := e.F__law_stock.bindsN fun _ _ _ _ _ _ us hl => match us, hl with | [_], _ => rfl
def lb__law_stock_0 (K : PySem.W.Frag) : TSD := (sApp 4 (dPop 3 (dCallH (p__law_draw K) 0 (dCons (dCB1 cLen (dOwn 3)) dNil))))
def td__law_stock (K : PySem.W.Frag) : TSD := (sSeq (sAsg (dIfE (dTest (d2 oEq (dCallH (p__law_draw K) 0 (dCons (dC (.int 4)) dNil)) (dC (.int 0)))) (dC (.int 2)) (dC (.int 1))) (gdName 1))
      (sSeq (sAsg (dIfE (dTest (d2 oEq (dVar 1) (dC (.int 2)))) (dC (.int 3)) (d2 oAdd (dC (.int 2)) (dCallH (p__law_draw K) 0 (dCons (dC (.int 2)) dNil)))) (gdName 2))
      (sSeq (sAsgN 3 (dLstN (dCons (dC (.int 1)) (dCons (dC (.int 2)) (dCons (dC (.int 3)) (dCons (dC (.int 4)) (dCons (dC (.int 5)) dNil)))))))
      (sSeq (sAsgN 4 (dLstN dNil))
      (sSeq (sFor (iR1 (dCons (dVar 2) dNil)) (gdName 5) (lb__law_stock_0 K))
      (sSeq (sAsg (dIfE (dTest (d2 oEq (dCallH (p__law_draw K) 0 (dCons (dC (.int 4)) dNil)) (dC (.int 0)))) (dC (.int 2)) (dC (.int 1))) (gdName 6))
      (sRet (dTup (dCons (dCB1 cTuple (dCB1 cSorted (dOwn 4))) (dCons (dVar 6) (dCons (dVar 1) dNil)))))))))))
def p__law_stock (K : PySem.W.Frag) : RCl := fun ds Q => ds.length = 0 ∧ pH 7 (td__law_stock K) ds Q
theorem p__law_stock_len {K : PySem.W.Frag} : ∀ ds Q, p__law_stock K ds Q → ds.length = 0 := fun _ _ h => h.1
theorem p__law_stock_td {K : PySem.W.Frag} : ∀ ds Q, p__law_stock K ds Q → pH 7 (td__law_stock K) ds Q := fun _ _ h => h.2
theorem ok__law_stock (e : Fx K mg) : FnOk P w K mg base CX0 3 (He.ga K ("_law_stock" : PySem.Str)) e.fd__law_stock (["_law_hand_here"] : List PySem.Str) (spH K 0 (p__law_stock K)) := by
  have nd := sc__law_stock.nd
  refine fn_H e.F__law_stock sc__law_stock rfl p__law_stock_td ?_
  intro cdv A outer s H E hr
  exact ⟨_, PSs.nox (pss_cons (ps_set (i := 1) nd rfl (Or.inl rfl) (pe_ifExp (pt_cmpR (op_eqD hr.units) (pe_call ((ok__law_draw e).mono (by decide : 2 ≤ 2)) hr rfl e.g__law_draw e.F__law_draw.kp (b__law_draw e) .nil pass0 (pa_cons (pv 0) (pa_cons pe_int pa_nil))) pe_int (nomark _)) pe_int pe_int))
      (pss_cons (ps_set (i := 2) nd rfl (Or.inl rfl) (pe_ifExp (pt_cmpR (op_eqD hr.units) (pv 1) pe_int (nomark _)) pe_int (pe_op op_add pe_int (pe_call ((ok__law_draw e).mono (by decide : 2 ≤ 2)) hr rfl e.g__law_draw e.F__law_draw.kp (b__law_draw e) .nil pass0 (pa_cons (pv 0) (pa_cons pe_int pa_nil))))))
      (pss_cons (ps_set (i := 3) nd rfl (Or.inl rfl) (pe_lst (pa_cons pe_int (pa_cons pe_int (pa_cons pe_int (pa_cons pe_int (pa_cons pe_int pa_nil)))))))
      (pss_cons (ps_set (i := 4) nd rfl (Or.inl rfl) (pe_lst pa_nil))
      (pss_cons (ps_for PassesOwn.never rfl (pi_range1 rfl e.n_range (pa_cons (pv 2) pa_nil)) (pg_name (i := 5) nd rfl (Or.inl rfl)) (pss_one (ps_expr (pe_bm PySem.F.plainAttrs_list PySem.F.slot_list_append PySem.F.type_list_append mt_append (pv 4) (pa_cons (pe_bm PySem.F.plainAttrs_list PySem.F.slot_list_pop PySem.F.type_list_pop mt_popAt (pv 3) (pa_cons (pe_call ((ok__law_draw e).mono (by decide : 2 ≤ 2)) hr rfl e.g__law_draw e.F__law_draw.kp (b__law_draw e) .nil pass0 (pa_cons (pv 0) (pa_cons (pe_callB call_len_seq rfl e.n_len boot_len' (pa_cons (pv 3) pa_nil)) pa_nil))) pa_nil)) pa_nil)))))
      (pss_cons (ps_set (i := 6) nd rfl (Or.inl rfl) (pe_ifExp (pt_cmpR (op_eqD hr.units) (pe_call ((ok__law_draw e).mono (by decide : 2 ≤ 2)) hr rfl e.g__law_draw e.F__law_draw.kp (b__law_draw e) .nil pass0 (pa_cons (pv 0) (pa_cons pe_int pa_nil))) pe_int (nomark _)) pe_int pe_int))
      (pss_one (ps_ret (pe_tup (pa_cons (pe_callTy call_tuple_of rfl e.n_tuple boot_tuple' (pa_cons (pe_callB cr_sorted rfl e.n_sorted boot_sorted' (pa_cons (pv 4) pa_nil)) pa_nil)) (pa_cons (pv 6) (pa_cons (pv 1) pa_nil)))))))))))),
    (sd_seq (sd_asg (ev_if (et_test (ev_op (ev_callH p__law_draw_len (ea_cons ev_int ea_nil)) ev_int od_eq)) ev_int ev_int) eg_name.eg)
      (sd_seq (sd_asg (ev_if (et_test (ev_op ev_var ev_int od_eq)) ev_int (ev_op ev_int (ev_callH p__law_draw_len (ea_cons ev_int ea_nil)) od_add)) eg_name.eg)
      (sd_seq (sd_asgN (by decide) (en_lst (ea_cons ev_int (ea_cons ev_int (ea_cons ev_int (ea_cons ev_int (ea_cons ev_int ea_nil)))))))
      (sd_seq (sd_asgN (by decide) (en_lst ea_nil))
      (sd_seq (sd_for (ei_rng1 (ea_cons ev_var ea_nil)) (EGx.eg eg_name) (sd_app (ev_pop (ev_callH p__law_draw_len (ea_cons (ev_cb1 cl_len ev_own) ea_nil)))))
      (sd_seq (sd_asg (ev_if (et_test (ev_op (ev_callH p__law_draw_len (ea_cons ev_int ea_nil)) ev_int od_eq)) ev_int ev_int) eg_name.eg)
      (sd_ret (ev_tup (ea_cons (ev_cb1 cl_tuple (Ev.b (ev_cb1 cl_sorted ev_own))) (ea_cons ev_var (ea_cons ev_var ea_nil)))))))))))⟩
/-! _law_counts -/
theorem sc__law_counts : FnScope (["_law_bricks", "_law_high", "_law_counts_here", "_law_end", "_law_brick"] : List PySem.Str) (["_law_bricks", "_law_high"] : List PySem.Str) (defScope (top 70)) := ⟨rfl, rfl, rfl, by decide +kernel, rfl, by decide +kernel, by decide +kernel⟩
theorem b__law_counts (e : Fx K mg) : Binds K e.fd__law_counts (["_law_bricks", "_law_high"] : List PySem.Str) [] := e.F__law_counts.bindsN fun _ _ _ _ _ _ us hl => match us, hl with | [_, _], _ => rfl
def lb__law_counts_0 (K : PySem.W.Frag) : TSD := (sApp 2 (dCB1 cSum (dLc (iSeq (dVar 0)) (gdName 4) (dTest (d2 oLe (dVar 4) (dVar 3))) (d2O oIx 2 (d2 oSub (dVar 3) (dVar 4))) [4])))
def td__law_counts (K : PySem.W.Frag) : TSD := (sSeq (sAsgN 2 (dLstN (dCons (dC (.int 1)) dNil)))
      (sSeq (sFor (iR2 (dCons (dC (.int 1)) (dCons (d2 oAdd (dVar 1) (dC (.int 1))) dNil))) (gdName 3) (lb__law_counts_0 K))
      (sRet (dFrz 2))))
def p__law_counts (K : PySem.W.Frag) : RCl := fun ds Q => ds.length = 2 ∧ pD 5 (td__law_counts K) ds Q
theorem p__law_counts_len {K : PySem.W.Frag} : ∀ ds Q, p__law_counts K ds Q → ds.length = 2 := fun _ _ h => h.1
theorem p__law_counts_td {K : PySem.W.Frag} : ∀ ds Q, p__law_counts K ds Q → pD 5 (td__law_counts K) ds Q := fun _ _ h => h.2
theorem ok__law_counts (e : Fx K mg) : FnOk P w K mg base CX0 1 (He.ga K ("_law_counts" : PySem.Str)) e.fd__law_counts (["_law_bricks", "_law_high"] : List PySem.Str) (spD K 2 (p__law_counts K)) := by
  have nd := sc__law_counts.nd
  refine fn_D e.F__law_counts sc__law_counts p__law_counts_td ?_
  intro cdv A outer s H E hr
  exact ⟨_, PSs.nox (pss_cons (ps_set (i := 2) nd rfl (Or.inr rfl) (pe_lst (pa_cons pe_int pa_nil)))
      (pss_cons (ps_for PassesOwn.never rfl (pi_range2 rfl e.n_range (pa_cons pe_int (pa_cons (pe_op op_add (pv 1) pe_int) pa_nil))) (pg_name (i := 3) nd rfl (Or.inr rfl)) (pss_one (ps_expr (pe_bm PySem.F.plainAttrs_list PySem.F.slot_list_append PySem.F.type_list_append mt_append (pv 2) (pa_cons (pe_callB (call_or (cr_sum rfl) (cr_sumT rfl)) rfl e.n_sum boot_sum' (pa_cons (pe_lc (own := [(("_law_brick" : PySem.Str), 4)]) rfl nd (pi_any (pv 0)) (blkOk_by (N := (["_law_bricks", "_law_high", "_law_counts_here", "_law_end", "_law_brick"] : List PySem.Str)) (sc := defScope (top 70)) (by decide +kernel)) (fun _ _ _ _ _ => (pg_name (i := 4) nd rfl (Or.inl rfl))) (fun _ _ _ _ _ => pts_one (pt_cmpR op_le (pv 4) (pv 3) (nomark _))) (fun _ _ _ _ _ => (pe_ix ix_any (pv 2) (pe_op op_sub (pv 3) (pv 4)) (fun _ _ => rfl)))) pa_nil)) pa_nil)))))
      (pss_one (ps_ret (pv 2))))),
    (sd_seq (sd_asgN (by decide) (en_lst (ea_cons ev_int ea_nil)))
      (sd_seq (sd_for (ei_rng2 (ea_cons ev_int (ea_cons (ev_op ev_var ev_int od_add) ea_nil))) (EGx.eg eg_name) (sd_app (ev_cb1 cl_sum (Ev.b (ev_lc (ei_any ev_var) eg_name (gin_name (by decide)) (gdin_name (by decide)) (et_test (ev_op ev_var ev_var od_le)) (ev_opO (ev_op ev_var ev_var od_sub) od_ix))))))
      (sd_ret ev_frz)))⟩
/-! _law_course -/
theorem sc__law_course : FnScope (["_law_hand_here", "_law_bricks", "_law_length", "_law_counts_here", "_law_left", "_law_found", "_law_k", "_law_brick", "_law_one"] : List PySem.Str) (["_law_hand_here", "_law_bricks", "_law_length", "_law_counts_here"] : List PySem.Str) (defScope (top 71)) := ⟨rfl, rfl, rfl, by decide +kernel, rfl, by decide +kernel, by decide +kernel⟩
theorem b__law_course (e : Fx K mg) : Binds K e.fd__law_course (["_law_hand_here", "_law_bricks", "_law_length", "_law_counts_here"] : List PySem.Str) [] := e.F__law_course.bindsN fun _ _ _ _ _ _ us hl => match us, hl with | [_, _, _, _], _ => rfl
def lb__law_course_0 (K : PySem.W.Frag) : TSD := (sIf (dTest (d2 oGt (dVar 4) (dC (.int 0)))) (sSeq (sAsg (dCallH (p__law_pick K) 0 (dCons (dLc (iSeq (dVar 1)) (gdName 8) (dAnd (dTest (d2 oLe (dVar 8) (dVar 4))) (dTest (d2 oGt (d2 oIx (dVar 3) (d2 oSub (dVar 4) (dVar 8))) (dC (.int 0))))) (dVar 8) [8]) dNil)) (gdName 7)) (sSeq (sApp 5 (dVar 7)) (sAsg (d2 oSub (dVar 4) (dVar 7)) (gdName 4)))) sNext)
def td__law_course (K : PySem.W.Frag) : TSD := (sSeq (sAsg (dVar 2) (gdName 4))
      (sSeq (sAsgN 5 (dLstN dNil))
      (sSeq (sFor (iR1 (dCons (dVar 2) dNil)) (gdName 6) (lb__law_course_0 K))
      (sRet (dCB1 cTuple (dOwn 5))))))
def p__law_course (K : PySem.W.Frag) : RCl := fun ds Q => ds.length = 3 ∧ pH 9 (td__law_course K) ds Q
theorem p__law_course_len {K : PySem.W.Frag} : ∀ ds Q, p__law_course K ds Q → ds.length = 3 := fun _ _ h => h.1
theorem p__law_course_td {K : PySem.W.Frag} : ∀ ds Q, p__law_course K ds Q → pH 9 (td__law_course K) ds Q := fun _ _ h => h.2
theorem ok__law_course (e : Fx K mg) : FnOk P w K mg base CX0 4 (He.ga K ("_law_course" : PySem.Str)) e.fd__law_course (["_law_hand_here", "_law_bricks", "_law_length", "_law_counts_here"] : List PySem.Str) (spH K 3 (p__law_course K)) := by
  have nd := sc__law_course.nd
  refine fn_H e.F__law_course sc__law_course rfl p__law_course_td ?_
  intro cdv A outer s H E hr
  exact ⟨_, PSs.nox (pss_cons (ps_set (i := 4) nd rfl (Or.inr rfl) (pv 2))
      (pss_cons (ps_set (i := 5) nd rfl (Or.inl rfl) (pe_lst pa_nil))
      (pss_cons (ps_for PassesOwn.never rfl (pi_range1 rfl e.n_range (pa_cons (pv 2) pa_nil)) (pg_name (i := 6) nd rfl (Or.inl rfl)) (pss_one (ps_if (pt_cmpR op_gt (pv 4) pe_int (nomark _)) (pss_cons (ps_set (i := 7) nd rfl (Or.inl rfl) (pe_call ((ok__law_pick e).mono (by decide : 3 ≤ 3)) hr rfl e.g__law_pick e.F__law_pick.kp (b__law_pick e) .nil pass0 (pa_cons (pv 0) (pa_cons (pe_lc (own := [(("_law_one" : PySem.Str), 8)]) rfl nd (pi_any (pv 1)) (blkOk_by (N := (["_law_hand_here", "_law_bricks", "_law_length", "_law_counts_here", "_law_left", "_law_found", "_law_k", "_law_brick", "_law_one"] : List PySem.Str)) (sc := defScope (top 71)) (by decide +kernel)) (fun _ _ _ _ _ => (pg_name (i := 8) nd rfl (Or.inl rfl))) (fun _ _ _ _ _ => pts_one (PW.pt (pw_and (pt_cmpR op_le (pv 8) (pv 4) (nomark _)) (pw_and1 (pt_cmpR op_gt (pe_ix ix_any (pv 3) (pe_op op_sub (pv 4) (pv 8)) (fun _ _ => rfl)) pe_int (nomark _)))))) (fun _ _ _ _ _ => (pv 8))) pa_nil)))) (pss_cons (ps_expr (pe_bm PySem.F.plainAttrs_list PySem.F.slot_list_append PySem.F.type_list_append mt_append (pv 5) (pa_cons (pv 7) pa_nil))) (pss_one (ps_set (i := 4) nd rfl (Or.inr rfl) (pe_op op_sub (pv 4) (pv 7)))))) pss_nil)))
      (pss_one (ps_ret (pe_callTy call_tuple_of rfl e.n_tuple boot_tuple' (pa_cons (pv 5) pa_nil))))))),
    (sd_seq (sd_asg ev_var eg_name.eg)
      (sd_seq (sd_asgN (by decide) (en_lst ea_nil))
      (sd_seq (sd_for (ei_rng1 (ea_cons ev_var ea_nil)) (EGx.eg eg_name) (sd_if (et_test (ev_op ev_var ev_int od_gt)) (sd_seq (sd_asg (ev_callH p__law_pick_len (ea_cons (ev_lc (ei_any ev_var) eg_name (gin_name (by decide)) (gdin_name (by decide)) (et_and (et_test (ev_op ev_var ev_var od_le)) (et_test (ev_op (ev_op ev_var (ev_op ev_var ev_var od_sub) od_ix) ev_int od_gt))) ev_var) ea_nil)) eg_name.eg) (sd_seq (sd_app ev_var) (sd_asg (ev_op ev_var ev_var od_sub) eg_name.eg))) sd_next))
      (sd_ret (ev_cb1 cl_tuple ev_own)))))⟩
/-! _law_courses_drawn -/
theorem sc__law_courses_drawn : FnScope (["_law_hand_here", "_law_high", "_law_tall", "_law_world", "_law_counts_here", "_law_length", "_law_courses", "_law_end", "_law_k"] : List PySem.Str) (["_law_hand_here", "_law_high", "_law_tall"] : List PySem.Str) (defScope (top 76)) := ⟨rfl, rfl, rfl, by decide +kernel, rfl, by decide +kernel, by decide +kernel⟩
theorem b__law_courses_drawn (e : Fx K mg) : Binds K e.fd__law_courses_drawn (["_law_hand_here", "_law_high", "_law_tall"] : List PySem.Str) [] := e.F__law_courses_drawn.bindsN fun _ _ _ _ _ _ us hl => match us, hl with | [_, _, _], _ => rfl
def td__law_courses_drawn (K : PySem.W.Frag) : TSD := (sSeq (sAsg (dCallH (p__law_stock K) 0 dNil) (gdName 3))
      (sSeq (sAsg (dCall (p__law_counts K) [] (dCons (d2 oIx (dVar 3) (dC (.int 0))) (dCons (dVar 1) dNil))) (gdName 4))
      (sSeq (sAsg (dCallH (p__law_pick K) 0 (dCons (dLc (iR2 (dCons (dC (.int 2)) (dCons (d2 oAdd (dVar 1) (dC (.int 1))) dNil))) (gdName 7) (dTest (d2 oGt (d2 oIx (dVar 4) (dVar 7)) (dC (.int 0)))) (dVar 7) [7]) dNil)) (gdName 5))
      (sSeq (sAsg (dLc (iR1 (dCons (d2 oAdd (dC (.int 1)) (dCallH (p__law_draw K) 0 (dCons (dVar 2) dNil))) dNil)) (gdName 8) dYes (dCallH (p__law_course K) 0 (dCons (d2 oIx (dVar 3) (dC (.int 0))) (dCons (dVar 5) (dCons (dVar 4) dNil)))) [8]) (gdName 6))
      (sRet (dTup (dCons (dVar 3) (dCons (dVar 5) (dCons (dVar 6) dNil)))))))))
def p__law_courses_drawn (K : PySem.W.Frag) : RCl := fun ds Q => ds.length = 2 ∧ pH 9 (td__law_courses_drawn K) ds Q
theorem p__law_courses_drawn_len {K : PySem.W.Frag} : ∀ ds Q, p__law_courses_drawn K ds Q → ds.length = 2 := fun _ _ h => h.1
theorem p__law_courses_drawn_td {K : PySem.W.Frag} : ∀ ds Q, p__law_courses_drawn K ds Q → pH 9 (td__law_courses_drawn K) ds Q := fun _ _ h => h.2
theorem ok__law_courses_drawn (e : Fx K mg) : FnOk P w K mg base CX0 5 (He.ga K ("_law_courses_drawn" : PySem.Str)) e.fd__law_courses_drawn (["_law_hand_here", "_law_high", "_law_tall"] : List PySem.Str) (spH K 2 (p__law_courses_drawn K)) := by
  have nd := sc__law_courses_drawn.nd
  refine fn_H e.F__law_courses_drawn sc__law_courses_drawn rfl p__law_courses_drawn_td ?_
  intro cdv A outer s H E hr
  exact ⟨_, PSs.nox (pss_cons (ps_set (i := 3) nd rfl (Or.inr rfl) (pe_call ((ok__law_stock e).mono (by decide : 3 ≤ 4)) hr rfl e.g__law_stock e.F__law_stock.kp (b__law_stock e) .nil pass0 (pa_cons (pv 0) pa_nil)))
      (pss_cons (ps_set (i := 4) nd rfl (Or.inr rfl) (pe_call ((ok__law_counts e).mono (by decide : 1 ≤ 4)) hr rfl e.g__law_counts e.F__law_counts.kp (b__law_counts e) .nil pass0 (pa_cons (pe_ix ix_any (pv 3) pe_int (fun _ _ => rfl)) (pa_cons (pv 1) pa_nil))))
      (pss_cons (ps_set (i := 5) nd rfl (Or.inr rfl) (pe_call ((ok__law_pick e).mono (by decide : 3 ≤ 4)) hr rfl e.g__law_pick e.F__law_pick.kp (b__law_pick e) .nil pass0 (pa_cons (pv 0) (pa_cons (pe_lc (own := [(("_law_end" : PySem.Str), 7)]) rfl nd (pi_range2 rfl e.n_range (pa_cons pe_int (pa_cons (pe_op op_add (pv 1) pe_int) pa_nil))) (blkOk_by (N := (["_law_hand_here", "_law_high", "_law_tall", "_law_world", "_law_counts_here", "_law_length", "_law_courses", "_law_end", "_law_k"] : List PySem.Str)) (sc := defScope (top 76)) (by decide +kernel)) (fun _ _ _ _ _ => (pg_name (i := 7) nd rfl (Or.inl rfl))) (fun _ _ _ _ _ => pts_one (pt_cmpR op_gt (pe_ix ix_any (pv 4) (pv 7) (fun _ _ => rfl)) pe_int (nomark _))) (fun _ _ _ _ _ => (pv 7))) pa_nil))))
      (pss_cons (ps_setLc (i := 6) (own := [(("_law_k" : PySem.Str), 8)]) rfl nd rfl rfl (sw_true rfl rfl rfl (by decide +kernel)) (pi_range1 rfl e.n_range (pa_cons (pe_op op_add pe_int (pe_call ((ok__law_draw e).mono (by decide : 2 ≤ 4)) hr rfl e.g__law_draw e.F__law_draw.kp (b__law_draw e) .nil pass0 (pa_cons (pv 0) (pa_cons (pv 2) pa_nil)))) pa_nil)) (blkOk_by (N := (["_law_hand_here", "_law_high", "_law_tall", "_law_world", "_law_counts_here", "_law_length", "_law_courses", "_law_end", "_law_k"] : List PySem.Str)) (sc := defScope (top 76)) (by decide +kernel)) (fun _ _ _ _ _ => (pg_name (i := 8) nd rfl (Or.inl rfl))) (fun _ _ _ _ _ => pts_nil) (fun _ _ _ _ _ => (pe_call ((ok__law_course e).mono (by decide : 4 ≤ 4)) hr rfl e.g__law_course e.F__law_course.kp (b__law_course e) .nil pass0 (pa_cons (pv 0) (pa_cons (pe_ix ix_any (pv 3) pe_int (fun _ _ => rfl)) (pa_cons (pv 5) (pa_cons (pv 4) pa_nil)))))))
      (pss_one (ps_ret (pe_tup (pa_cons (pv 3) (pa_cons (pv 5) (pa_cons (pv 6) pa_nil)))))))))),
    (sd_seq (sd_asg (ev_callH p__law_stock_len ea_nil) eg_name.eg)
      (sd_seq (sd_asg (ev_call (fun _ => Reps.nil) p__law_counts_len (ea_cons (ev_op ev_var ev_int od_ix) (ea_cons ev_var ea_nil))) eg_name.eg)
      (sd_seq (sd_asg (ev_callH p__law_pick_len (ea_cons (ev_lc (ei_rng2 (ea_cons ev_int (ea_cons (ev_op ev_var ev_int od_add) ea_nil))) eg_name (gin_name (by decide)) (gdin_name (by decide)) (et_test (ev_op (ev_op ev_var ev_var od_ix) ev_int od_gt)) ev_var) ea_nil)) eg_name.eg)
      (sd_seq (sd_asg (ev_lc (ei_rng1 (ea_cons (ev_op ev_int (ev_callH p__law_draw_len (ea_cons ev_var ea_nil)) od_add) ea_nil)) eg_name (gin_name (by decide)) (gdin_name (by decide)) et_yes (ev_callH p__law_course_len (ea_cons (ev_op ev_var ev_int od_ix) (ea_cons ev_var (ea_cons ev_var ea_nil))))) eg_name.eg)
      (sd_ret (ev_tup (ea_cons ev_var (ea_cons ev_var (ea_cons ev_var ea_nil)))))))))⟩
/-! _law_two_prices -/
theorem sc__law_two_prices : FnScope (["_law_hand_here", "_law_brick", "_law_bed", "_law_factor"] : List PySem.Str) (["_law_hand_here"] : List PySem.Str) (defScope (top 72)) := ⟨rfl, rfl, rfl, by decide +kernel, rfl, by decide +kernel, by decide +kernel⟩
theorem b__law_two_prices (e : Fx K mg) : Binds K e.fd__law_two_prices (["_law_hand_here"] : List PySem.Str) [] := e.F__law_two_prices.bindsN fun _ _ _ _ _ _ us hl => match us, hl with | [_], _ => rfl
def td__law_two_prices (K : PySem.W.Frag) : TSD := (sSeq (sPar 1 2 (dCons (dCallH (p__law_pick K) 0 (dCons (dLst (dCons (dC (.int 0)) (dCons (dC (.int 1)) (dCons (dC (.int 2)) (dCons (dC (.int 3)) (dCons (dC (.int 5)) (dCons (dC (.int 7)) (dCons (dC (.int 9)) (dCons (dC (.int 12)) (dCons (dC (.int 23)) (dCons (dC (.int 40)) dNil))))))))))) dNil)) (dCons (dCallH (p__law_pick K) 0 (dCons (dLst (dCons (dC (.int 0)) (dCons (dC (.int 1)) (dCons (dC (.int 1)) (dCons (dC (.int 2)) (dCons (dC (.int 2)) (dCons (dC (.int 3)) (dCons (dC (.int 4)) (dCons (dC (.int 5)) (dCons (dC (.int 7)) dNil)))))))))) dNil)) dNil)))
      (sSeq (sIf (dTest (d2 oEq (dCallH (p__law_draw K) 0 (dCons (dC (.int 3)) dNil)) (dC (.int 0)))) (sSeq (sAsg (d2 oAdd (dC (.int 1)) (dCallH (p__law_draw K) 0 (dCons (dC (.int 25000)) dNil))) (gdName 3)) (sRet (dTup (dCons (d2 oMul (dVar 1) (dVar 3)) (dCons (d2 oMul (dVar 2) (dVar 3)) dNil))))) sNext)
      (sSeq (sIf (dTest (d2 oEq (dCallH (p__law_draw K) 0 (dCons (dC (.int 8)) dNil)) (dC (.int 0)))) (sRet (dTup (dCons (d2 oSub (d2 oPow (dC (.int 10)) (dC (.int 6))) (dCallH (p__law_draw K) 0 (dCons (d2 oAdd (d2 oPow (dC (.int 10)) (dC (.int 6))) (dC (.int 1))) dNil))) (dCons (d2 oSub (d2 oPow (dC (.int 10)) (dC (.int 6))) (dCallH (p__law_draw K) 0 (dCons (d2 oAdd (d2 oPow (dC (.int 10)) (dC (.int 6))) (dC (.int 1))) dNil))) dNil)))) sNext)
      (sSeq (sIf (dTest (d2 oEq (dCallH (p__law_draw K) 0 (dCons (dC (.int 5)) dNil)) (dC (.int 0)))) (sSeq (sAsg (d2 oAdd (dC (.int 1)) (dCallH (p__law_draw K) 0 (dCons (dCallH (p__law_pick K) 0 (dCons (dLst (dCons (dC (.int 3)) (dCons (dC (.int 9)) (dCons (dC (.int 40)) dNil)))) dNil)) dNil))) (gdName 2)) (sRet (dTup (dCons (d2 oAdd (d2 oMul (dC (.int 2)) (dVar 2)) (dC (.int 1))) (dCons (dVar 2) dNil))))) sNext)
      (sRet (dTup (dCons (dVar 1) (dCons (dVar 2) dNil))))))))
def p__law_two_prices (K : PySem.W.Frag) : RCl := fun ds Q => ds.length = 0 ∧ pH 4 (td__law_two_prices K) ds Q
theorem p__law_two_prices_len {K : PySem.W.Frag} : ∀ ds Q, p__law_two_prices K ds Q → ds.length = 0 := fun _ _ h => h.1
theorem p__law_two_prices_td {K : PySem.W.Frag} : ∀ ds Q, p__law_two_prices K ds Q → pH 4 (td__law_two_prices K) ds Q := fun _ _ h => h.2
theorem ok__law_two_prices (e : Fx K mg) : FnOk P w K mg base CX0 4 (He.ga K ("_law_two_prices" : PySem.Str)) e.fd__law_two_prices (["_law_hand_here"] : List PySem.Str) (spH K 0 (p__law_two_prices K)) := by
  have nd := sc__law_two_prices.nd
  refine fn_H e.F__law_two_prices sc__law_two_prices rfl p__law_two_prices_td ?_
  intro cdv A outer s H E hr
  exact ⟨_, PSs.nox (pss_cons (ps_par (i := 1) (j := 2) rfl nd rfl rfl (by decide) rfl rfl (pa_cons (pe_call ((ok__law_pick e).mono (by decide : 3 ≤ 3)) hr rfl e.g__law_pick e.F__law_pick.kp (b__law_pick e) .nil pass0 (pa_cons (pv 0) (pa_cons (pe_lst (pa_cons pe_int (pa_cons pe_int (pa_cons pe_int (pa_cons pe_int (pa_cons pe_int (pa_cons pe_int (pa_cons pe_int (pa_cons pe_int (pa_cons pe_int (pa_cons pe_int pa_nil))))))))))) pa_nil))) (pa_cons (pe_call ((ok__law_pick e).mono (by decide : 3 ≤ 3)) hr rfl e.g__law_pick e.F__law_pick.kp (b__law_pick e) .nil pass0 (pa_cons (pv 0) (pa_cons (pe_lst (pa_cons pe_int (pa_cons pe_int (pa_cons pe_int (pa_cons pe_int (pa_cons pe_int (pa_cons pe_int (pa_cons pe_int (pa_cons pe_int (pa_cons pe_int pa_nil)))))))))) pa_nil))) pa_nil)) rfl)
      (pss_cons (ps_if (pt_cmpR (op_eqD hr.units) (pe_call ((ok__law_draw e).mono (by decide : 2 ≤ 3)) hr rfl e.g__law_draw e.F__law_draw.kp (b__law_draw e) .nil pass0 (pa_cons (pv 0) (pa_cons pe_int pa_nil))) pe_int (nomark _)) (pss_cons (ps_set (i := 3) nd rfl (Or.inl rfl) (pe_op op_add pe_int (pe_call ((ok__law_draw e).mono (by decide : 2 ≤ 3)) hr rfl e.g__law_draw e.F__law_draw.kp (b__law_draw e) .nil pass0 (pa_cons (pv 0) (pa_cons pe_int pa_nil))))) (pss_one (ps_ret (pe_tup (pa_cons (pe_op op_mul (pv 1) (pv 3)) (pa_cons (pe_op op_mul (pv 2) (pv 3)) pa_nil)))))) pss_nil)
      (pss_cons (ps_if (pt_cmpR (op_eqD hr.units) (pe_call ((ok__law_draw e).mono (by decide : 2 ≤ 3)) hr rfl e.g__law_draw e.F__law_draw.kp (b__law_draw e) .nil pass0 (pa_cons (pv 0) (pa_cons pe_int pa_nil))) pe_int (nomark _)) (pss_one (ps_ret (pe_tup (pa_cons (pe_op op_sub (pe_op op_pow pe_int pe_int) (pe_call ((ok__law_draw e).mono (by decide : 2 ≤ 3)) hr rfl e.g__law_draw e.F__law_draw.kp (b__law_draw e) .nil pass0 (pa_cons (pv 0) (pa_cons (pe_op op_add (pe_op op_pow pe_int pe_int) pe_int) pa_nil)))) (pa_cons (pe_op op_sub (pe_op op_pow pe_int pe_int) (pe_call ((ok__law_draw e).mono (by decide : 2 ≤ 3)) hr rfl e.g__law_draw e.F__law_draw.kp (b__law_draw e) .nil pass0 (pa_cons (pv 0) (pa_cons (pe_op op_add (pe_op op_pow pe_int pe_int) pe_int) pa_nil)))) pa_nil))))) pss_nil)
      (pss_cons (ps_if (pt_cmpR (op_eqD hr.units) (pe_call ((ok__law_draw e).mono (by decide : 2 ≤ 3)) hr rfl e.g__law_draw e.F__law_draw.kp (b__law_draw e) .nil pass0 (pa_cons (pv 0) (pa_cons pe_int pa_nil))) pe_int (nomark _)) (pss_cons (ps_set (i := 2) nd rfl (Or.inl rfl) (pe_op op_add pe_int (pe_call ((ok__law_draw e).mono (by decide : 2 ≤ 3)) hr rfl e.g__law_draw e.F__law_draw.kp (b__law_draw e) .nil pass0 (pa_cons (pv 0) (pa_cons (pe_call ((ok__law_pick e).mono (by decide : 3 ≤ 3)) hr rfl e.g__law_pick e.F__law_pick.kp (b__law_pick e) .nil pass0 (pa_cons (pv 0) (pa_cons (pe_lst (pa_cons pe_int (pa_cons pe_int (pa_cons pe_int pa_nil)))) pa_nil))) pa_nil))))) (pss_one (ps_ret (pe_tup (pa_cons (pe_op op_add (pe_op op_mul pe_int (pv 2)) pe_int) (pa_cons (pv 2) pa_nil)))))) pss_nil)
      (pss_one (ps_ret (pe_tup (pa_cons (pv 1) (pa_cons (pv 2) pa_nil))))))))),
    (sd_seq (sd_par (ea_cons (ev_callH p__law_pick_len (ea_cons (ev_lst (ea_cons ev_int (ea_cons ev_int (ea_cons ev_int (ea_cons ev_int (ea_cons ev_int (ea_cons ev_int (ea_cons ev_int (ea_cons ev_int (ea_cons ev_int (ea_cons ev_int ea_nil))))))))))) ea_nil)) (ea_cons (ev_callH p__law_pick_len (ea_cons (ev_lst (ea_cons ev_int (ea_cons ev_int (ea_cons ev_int (ea_cons ev_int (ea_cons ev_int (ea_cons ev_int (ea_cons ev_int (ea_cons ev_int (ea_cons ev_int ea_nil)))))))))) ea_nil)) ea_nil)))
      (sd_seq (sd_if (et_test (ev_op (ev_callH p__law_draw_len (ea_cons ev_int ea_nil)) ev_int od_eq)) (sd_seq (sd_asg (ev_op ev_int (ev_callH p__law_draw_len (ea_cons ev_int ea_nil)) od_add) eg_name.eg) (sd_ret (ev_tup (ea_cons (ev_op ev_var ev_var od_mul) (ea_cons (ev_op ev_var ev_var od_mul) ea_nil))))) sd_next)
      (sd_seq (sd_if (et_test (ev_op (ev_callH p__law_draw_len (ea_cons ev_int ea_nil)) ev_int od_eq)) (sd_ret (ev_tup (ea_cons (ev_op (ev_op ev_int ev_int od_pow) (ev_callH p__law_draw_len (ea_cons (ev_op (ev_op ev_int ev_int od_pow) ev_int od_add) ea_nil)) od_sub) (ea_cons (ev_op (ev_op ev_int ev_int od_pow) (ev_callH p__law_draw_len (ea_cons (ev_op (ev_op ev_int ev_int od_pow) ev_int od_add) ea_nil)) od_sub) ea_nil)))) sd_next)
      (sd_seq (sd_if (et_test (ev_op (ev_callH p__law_draw_len (ea_cons ev_int ea_nil)) ev_int od_eq)) (sd_seq (sd_asg (ev_op ev_int (ev_callH p__law_draw_len (ea_cons (ev_callH p__law_pick_len (ea_cons (ev_lst (ea_cons ev_int (ea_cons ev_int (ea_cons ev_int ea_nil)))) ea_nil)) ea_nil)) od_add) eg_name.eg) (sd_ret (ev_tup (ea_cons (ev_op (ev_op ev_int ev_var od_mul) ev_int od_add) (ea_cons ev_var ea_nil))))) sd_next)
      (sd_ret (ev_tup (ea_cons ev_var (ea_cons ev_var ea_nil))))))))⟩
/-! check_number -/
theorem sc_check_number : FnScope (["wall", "number"] : List PySem.Str) (["wall", "number"] : List PySem.Str) (defScope (top 56)) := ⟨rfl, rfl, rfl, by decide +kernel, rfl, by decide +kernel, by decide +kernel⟩
theorem b_check_number (e : Fx K mg) : Binds K e.fd_check_number (["wall", "number"] : List PySem.Str) [] := e.F_check_number.bindsN fun _ _ _ _ _ _ us hl => match us, hl with | [_, _], _ => rfl
def td_check_number (K : PySem.W.Frag) : TSD := (sSeq (sIf (dNot (dTest (dCall (p_is_whole K) [] (dCons (dVar 1) (dCons (dC (.int 0)) (dCons (d2 oSub (dCB (cLenO (He.ga K ("Wall" : PySem.Str)) (p_Wall_len_ K)) (dCons (dVar 0) dNil)) (dC (.int 1))) dNil)))))) sNever sNext)
      (sRet (dVar 1)))
def p_check_number (K : PySem.W.Frag) : RCl := fun ds Q => ds.length = 2 ∧ pD 2 (td_check_number K) ds Q
theorem p_check_number_len {K : PySem.W.Frag} : ∀ ds Q, p_check_number K ds Q → ds.length = 2 := fun _ _ h => h.1
theorem p_check_number_td {K : PySem.W.Frag} : ∀ ds Q, p_check_number K ds Q → pD 2 (td_check_number K) ds Q := fun _ _ h => h.2
theorem ok_check_number (e : Fx K mg) : FnOk P w K mg base CX0 3 (He.ga K ("check_number" : PySem.Str)) e.fd_check_number (["wall", "number"] : List PySem.Str) (spD K 2 (p_check_number K)) := by
  have nd := sc_check_number.nd
  obtain ⟨ds_is_whole_0, rd_is_whole_0, bd_is_whole_0⟩ := b_is_whole_0 e
  refine fn_D e.F_check_number sc_check_number p_check_number_td ?_
  intro cdv A outer s H E hr
  exact ⟨_, PSs.nox (pss_cons (ps_if (pt_not (pt_val (pe_call ((ok_is_whole e).mono (by decide : 1 ≤ 2)) hr rfl e.g_is_whole e.F_is_whole.kp bd_is_whole_0 rd_is_whole_0 pass0 (pa_cons (pv 1) (pa_cons pe_int (pa_cons (pe_op op_sub (pe_callB (call_lenO ((ok_Wall_len_ e).mono (by decide : 1 ≤ 1)) hr e.me_Wall_len_ (b_Wall_len_ e) pass0) rfl e.n_len boot_len' (pa_cons (pv 0) pa_nil)) pe_int) pa_nil)))))) (pss_one ps_never) pss_nil)
      (pss_one (ps_ret (pv 1)))),
    (sd_seq (sd_if (et_not (et_B (ev_call (fun _ => Reps.nil) p_is_whole_len (ea_cons ev_var (ea_cons ev_int (ea_cons (ev_op (ev_cb cl_lenO (ea_cons ev_var ea_nil)) ev_int od_sub) ea_nil)))))) sd_never sd_next)
      (sd_ret ev_var))⟩
/-! exchanged -/
theorem sc_exchanged : FnScope (["wall", "first", "second", "courses"] : List PySem.Str) (["wall", "first", "second"] : List PySem.Str) (defScope (top 62)) := ⟨rfl, rfl, rfl, by decide +kernel, rfl, by decide +kernel, by decide +kernel⟩
theorem b_exchanged (e : Fx K mg) : Binds K e.fd_exchanged (["wall", "first", "second"] : List PySem.Str) [] := e.F_exchanged.bindsN fun _ _ _ _ _ _ us hl => match us, hl with | [_, _, _], _ => rfl
def td_exchanged (K : PySem.W.Frag) : TSD := (sSeq (sDrop (dCall (p_check_number K) [] (dCons (dVar 0) (dCons (dVar 1) dNil))))
      (sSeq (sDrop (dCall (p_check_number K) [] (dCons (dVar 0) (dCons (dVar 2) dNil))))
      (sSeq (sAsgN 3 (dListN (dFld K ("courses" : PySem.Str) (dVar 0))))
      (sSeq (sAsg (d2 oIx (dFld K ("courses" : PySem.Str) (dVar 0)) (dVar 2)) (gdSub 3 (dVar 1)))
      (sSeq (sAsg (d2 oIx (dFld K ("courses" : PySem.Str) (dVar 0)) (dVar 1)) (gdSub 3 (dVar 2)))
      (sRet (dCall (p_Wall_init K) [] (dCons (dFld K ("stock" : PySem.Str) (dVar 0)) (dCons (dFrz 3) dNil)))))))))
def p_exchanged (K : PySem.W.Frag) : RCl := fun ds Q => ds.length = 3 ∧ pD 4 (td_exchanged K) ds Q
theorem p_exchanged_len {K : PySem.W.Frag} : ∀ ds Q, p_exchanged K ds Q → ds.length = 3 := fun _ _ h => h.1
theorem p_exchanged_td {K : PySem.W.Frag} : ∀ ds Q, p_exchanged K ds Q → pD 4 (td_exchanged K) ds Q := fun _ _ h => h.2
theorem ok_exchanged (e : Fx K mg) : FnOk P w K mg base CX0 5 (He.ga K ("exchanged" : PySem.Str)) e.fd_exchanged (["wall", "first", "second"] : List PySem.Str) (spD K 3 (p_exchanged K)) := by
  have nd := sc_exchanged.nd
  refine fn_D e.F_exchanged sc_exchanged p_exchanged_td ?_
  intro cdv A outer s H E hr
  exact ⟨_, PSs.nox (pss_cons (ps_expr (pe_call ((ok_check_number e).mono (by decide : 3 ≤ 4)) hr rfl e.g_check_number e.F_check_number.kp (b_check_number e) .nil pass0 (pa_cons (pv 0) (pa_cons (pv 1) pa_nil))))
      (pss_cons (ps_expr (pe_call ((ok_check_number e).mono (by decide : 3 ≤ 4)) hr rfl e.g_check_number e.F_check_number.kp (b_check_number e) .nil pass0 (pa_cons (pv 0) (pa_cons (pv 2) pa_nil))))
      (pss_cons (ps_set (i := 3) nd rfl (Or.inl rfl) (pe_callTy call_list_of rfl e.n_list boot_list' (pa_cons (pe_fld (pv 0) rfl) pa_nil)))
      (pss_cons (ps_asg (pe_ix ix_any (pe_fld (pv 0) rfl) (pv 2) (fun _ _ => rfl)) (pg_sub (pv 3) (pv 1) set_list))
      (pss_cons (ps_asg (pe_ix ix_any (pe_fld (pv 0) rfl) (pv 1) (fun _ _ => rfl)) (pg_sub (pv 3) (pv 2) set_list))
      (pss_one (ps_ret (pe_make e.M_Wall ((ok_Wall_init e).mono (by decide : 3 ≤ 3)) hr rfl e.g_Wall (b_Wall_init e) .nil pass0 (pa_cons (pe_fld (pv 0) rfl) (pa_cons (pv 3) pa_nil)))))))))),
    (sd_seq (sd_drop (ev_call (fun _ => Reps.nil) p_check_number_len (ea_cons ev_var (ea_cons ev_var ea_nil))))
      (sd_seq (sd_drop (ev_call (fun _ => Reps.nil) p_check_number_len (ea_cons ev_var (ea_cons ev_var ea_nil))))
      (sd_seq (sd_asgN (by decide) (en_list (Ev.b (ev_fld ev_var))))
      (sd_seq (sd_asg (ev_op (ev_fld ev_var) ev_var od_ix) (eg_sub ev_var))
      (sd_seq (sd_asg (ev_op (ev_fld ev_var) ev_var od_ix) (eg_sub ev_var))
      (sd_ret (ev_make (fun _ => Reps.nil) p_Wall_init_len (ea_cons (ev_fld ev_var) (ea_cons ev_frz ea_nil)))))))))⟩
/-! _law_joints -/
theorem sc__law_joints : FnScope (["_law_course_here", "_law_found", "_law_spot", "_law_brick"] : List PySem.Str) (["_law_course_here"] : List PySem.Str) (defScope (top 69)) := ⟨rfl, rfl, rfl, by decide +kernel, rfl, by decide +kernel, by decide +kernel⟩
theorem b__law_joints (e : Fx K mg) : Binds K e.fd__law_joints (["_law_course_here"] : List PySem.Str) [] := e.F__law_joints.bindsN fun _ _ _ _ _ _ us hl => match us, hl with | [_], _ => rfl
def lb__law_joints_0 (K : PySem.W.Frag) : TSD := (sSeq (sAsg (d2 oAdd (dVar 2) (dVar 3)) (gdName 2)) (sApp 1 (dVar 2)))
def td__law_joints (K : PySem.W.Frag) : TSD := (sSeq (sAsgN 1 (dLstN dNil))
      (sSeq (sAsg (dC (.int 0)) (gdName 2))
      (sSeq (sFor (iSeq (dSl (dVar 0) dNoPart (dPart (dNeg (dC (.int 1)))))) (gdName 3) (lb__law_joints_0 K))
      (sRet (dFrz 1)))))
def p__law_joints (K : PySem.W.Frag) : RCl := fun ds Q => ds.length = 1 ∧ pD 4 (td__law_joints K) ds Q
theorem p__law_joints_len {K : PySem.W.Frag} : ∀ ds Q, p__law_joints K ds Q → ds.length = 1 := fun _ _ h => h.1
theorem p__law_joints_td {K : PySem.W.Frag} : ∀ ds Q, p__law_joints K ds Q → pD 4 (td__law_joints K) ds Q := fun _ _ h => h.2
theorem ok__law_joints (e : Fx K mg) : FnOk P w K mg base CX0 1 (He.ga K ("_law_joints" : PySem.Str)) e.fd__law_joints (["_law_course_here"] : List PySem.Str) (spD K 1 (p__law_joints K)) := by
  have nd := sc__law_joints.nd
  refine fn_D e.F__law_joints sc__law_joints p__law_joints_td ?_
  intro cdv A outer s H E hr
  exact ⟨_, PSs.nox (pss_cons (ps_set (i := 1) nd rfl (Or.inl rfl) (pe_lst pa_nil))
      (pss_cons (ps_set (i := 2) nd rfl (Or.inl rfl) pe_int)
      (pss_cons (ps_for PassesOwn.never rfl (pi_any (pe_slice sl_any (pv 0) po_none (po_some (pe_un un_neg pe_int)))) (pg_name (i := 3) nd rfl (Or.inl rfl)) (pss_cons (ps_set (i := 2) nd rfl (Or.inl rfl) (pe_op op_add (pv 2) (pv 3))) (pss_one (ps_expr (pe_bm PySem.F.plainAttrs_list PySem.F.slot_list_append PySem.F.type_list_append mt_append (pv 1) (pa_cons (pv 2) pa_nil))))))
      (pss_one (ps_ret (pv 1)))))),
    (sd_seq (sd_asgN (by decide) (en_lst ea_nil))
      (sd_seq (sd_asg ev_int eg_name.eg)
      (sd_seq (sd_for (ei_any (ev_sl ev_var eo_no (eo_part (ev_neg ev_int)))) (EGx.eg eg_name) (sd_seq (sd_asg (ev_op ev_var ev_var od_add) eg_name.eg) (sd_app ev_var)))
      (sd_ret ev_frz))))⟩
/-! _law_own -/
theorem sc__law_own : FnScope (["_law_course_here", "_law_length", "_law_brick", "_law_joints_here", "_law_spot"] : List PySem.Str) (["_law_course_here", "_law_length", "_law_brick"] : List PySem.Str) (defScope (top 73)) := ⟨rfl, rfl, rfl, by decide +kernel, rfl, by decide +kernel, by decide +kernel⟩
theorem b__law_own (e : Fx K mg) : Binds K e.fd__law_own (["_law_course_here", "_law_length", "_law_brick"] : List PySem.Str) [] := e.F__law_own.bindsN fun _ _ _ _ _ _ us hl => match us, hl with | [_, _, _], _ => rfl
def td__law_own (K : PySem.W.Frag) : TSD := (sSeq (sAsg (dCall (p__law_joints K) [] (dCons (dVar 0) dNil)) (gdName 3))
      (sRet (dLc (iR2 (dCons (dC (.int 1)) (dCons (dVar 1) dNil))) (gdName 4) dYes (dIfE (dTest (d2 oIn (dVar 4) (dVar 3))) (dC (.int 0)) (dVar 2)) [4])))
def p__law_own (K : PySem.W.Frag) : RCl := fun ds Q => ds.length = 3 ∧ pD 5 (td__law_own K) ds Q
theorem p__law_own_len {K : PySem.W.Frag} : ∀ ds Q, p__law_own K ds Q → ds.length = 3 := fun _ _ h => h.1
theorem p__law_own_td {K : PySem.W.Frag} : ∀ ds Q, p__law_own K ds Q → pD 5 (td__law_own K) ds Q := fun _ _ h => h.2
theorem ok__law_own (e : Fx K mg) : FnOk P w K mg base CX0 2 (He.ga K ("_law_own" : PySem.Str)) e.fd__law_own (["_law_course_here", "_law_length", "_law_brick"] : List PySem.Str) (spD K 3 (p__law_own K)) := by
  have nd := sc__law_own.nd
  refine fn_D e.F__law_own sc__law_own p__law_own_td ?_
  intro cdv A outer s H E hr
  exact ⟨_, PSs.nox (pss_cons (ps_set (i := 3) nd rfl (Or.inr rfl) (pe_call ((ok__law_joints e).mono (by decide : 1 ≤ 1)) hr rfl e.g__law_joints e.F__law_joints.kp (b__law_joints e) .nil pass0 (pa_cons (pv 0) pa_nil)))
      (pss_one (ps_ret (pe_lc (own := [(("_law_spot" : PySem.Str), 4)]) rfl nd (pi_range2 rfl e.n_range (pa_cons pe_int (pa_cons (pv 1) pa_nil))) (blkOk_by (N := (["_law_course_here", "_law_length", "_law_brick", "_law_joints_here", "_law_spot"] : List PySem.Str)) (sc := defScope (top 73)) (by decide +kernel)) (fun _ _ _ _ _ => (pg_name (i := 4) nd rfl (Or.inl rfl))) (fun _ _ _ _ _ => pts_nil) (fun _ _ _ _ _ => (pe_ifExp (pt_cmpR op_in_seq (pv 4) (pv 3) rfl) pe_int (pv 2))))))),
    (sd_seq (sd_asg (ev_call (fun _ => Reps.nil) p__law_joints_len (ea_cons ev_var ea_nil)) eg_name.eg)
      (sd_ret (ev_lc (ei_rng2 (ea_cons ev_int (ea_cons ev_var ea_nil))) eg_name (gin_name (by decide)) (gdin_name (by decide)) et_yes (ev_if (et_test (ev_op ev_var ev_var od_in)) ev_int ev_var))))⟩
/-! _law_next -/
theorem sc__law_next : FnScope (["_law_sums_here", "_law_own_here", "_law_bed", "_law_k", "_law_j"] : List PySem.Str) (["_law_sums_here", "_law_own_here", "_law_bed"] : List PySem.Str) (defScope (top 74)) := ⟨rfl, rfl, rfl, by decide +kernel, rfl, by decide +kernel, by decide +kernel⟩
theorem b__law_next (e : Fx K mg) : Binds K e.fd__law_next (["_law_sums_here", "_law_own_here", "_law_bed"] : List PySem.Str) [] := e.F__law_next.bindsN fun _ _ _ _ _ _ us hl => match us, hl with | [_, _, _], _ => rfl
def td__law_next (K : PySem.W.Frag) : TSD := (sRet (dLc (iR1 (dCons (dCB1 cLen (dVar 0)) dNil)) (gdName 3) dYes (d2 oAdd (dCB1 cMinL (dLc (iR1 (dCons (dCB1 cLen (dVar 0)) dNil)) (gdName 4) dYes (d2 oAdd (d2 oIx (dVar 0) (dVar 4)) (d2 oMul (dVar 2) (dCB cAbs (dCons (d2 oSub (dVar 4) (dVar 3)) dNil)))) [4])) (d2 oIx (dVar 1) (dVar 3))) [3]))
def p__law_next (K : PySem.W.Frag) : RCl := fun ds Q => ds.length = 3 ∧ pD 5 (td__law_next K) ds Q
theorem p__law_next_len {K : PySem.W.Frag} : ∀ ds Q, p__law_next K ds Q → ds.length = 3 := fun _ _ h => h.1
theorem p__law_next_td {K : PySem.W.Frag} : ∀ ds Q, p__law_next K ds Q → pD 5 (td__law_next K) ds Q := fun _ _ h => h.2
theorem ok__law_next (e : Fx K mg) : FnOk P w K mg base CX0 1 (He.ga K ("_law_next" : PySem.Str)) e.fd__law_next (["_law_sums_here", "_law_own_here", "_law_bed"] : List PySem.Str) (spD K 3 (p__law_next K)) := by
  have nd := sc__law_next.nd
  refine fn_D e.F__law_next sc__law_next p__law_next_td ?_
  intro cdv A outer s H E hr
  exact ⟨_, PSs.nox (pss_one (ps_ret (pe_lc (own := [(("_law_k" : PySem.Str), 3)]) rfl nd (pi_range1 rfl e.n_range (pa_cons (pe_callB call_len_seq rfl e.n_len boot_len' (pa_cons (pv 0) pa_nil)) pa_nil)) (blkOk_by (N := (["_law_sums_here", "_law_own_here", "_law_bed", "_law_k", "_law_j"] : List PySem.Str)) (sc := defScope (top 74)) (by decide +kernel)) (fun _ _ _ _ _ => (pg_name (i := 3) nd rfl (Or.inr rfl))) (fun _ _ _ _ _ => pts_nil) (fun _ _ _ _ _ => (pe_op op_add (pe_callB (cr_min rfl) rfl e.n_min boot_min' (pa_cons (pe_lc (own := [(("_law_j" : PySem.Str), 4)]) rfl nd (pi_range1 rfl e.n_range (pa_cons (pe_callB call_len_seq rfl e.n_len boot_len' (pa_cons (pv 0) pa_nil)) pa_nil)) (blkOk_by (N := (["_law_sums_here", "_law_own_here", "_law_bed", "_law_k", "_law_j"] : List PySem.Str)) (sc := { kind := .function, names := [(".0", .local), ("_law_k", .cell), ("min", .globalImplicit), ("range", .globalImplicit), ("len", .globalImplicit), ("_law_bed", .cell), ("_law_own_here", .cell), ("_law_sums_here", .cell)], isGenerator := false, isCoroutine := false }) (by decide +kernel)) (fun _ _ _ _ _ => (pg_name (i := 4) nd rfl (Or.inl rfl))) (fun _ _ _ _ _ => pts_nil) (fun _ _ _ _ _ => (pe_op op_add (pe_ix ix_any (pv 0) (pv 4) (fun _ _ => rfl)) (pe_op op_mul (pv 2) (pe_callB call_abs rfl e.n_abs boot_abs' (pa_cons (pe_op op_sub (pv 4) (pv 3)) pa_nil)))))) pa_nil)) (pe_ix ix_any (pv 1) (pv 3) (fun _ _ => rfl))))))),
    (sd_ret (ev_lc (ei_rng1 (ea_cons (ev_cb1 cl_len (Ev.b ev_var)) ea_nil)) eg_name (gin_name (by decide)) (gdin_name (by decide)) et_yes (ev_op (ev_cb1 cl_minL (Ev.b (ev_lc (ei_rng1 (ea_cons (ev_cb1 cl_len (Ev.b ev_var)) ea_nil)) eg_name (gin_name (by decide)) (gdin_name (by decide)) et_yes (ev_op (ev_op ev_var ev_var od_ix) (ev_op ev_var (ev_cb cl_abs (ea_cons (ev_op ev_var ev_var od_sub) ea_nil)) od_mul) od_add)))) (ev_op ev_var ev_var od_ix) od_add)))⟩
/-! _law_sums -/
theorem sc__law_sums : FnScope (["_law_courses", "_law_length", "_law_brick", "_law_bed", "_law_rows", "_law_course_here"] : List PySem.Str) (["_law_courses", "_law_length", "_law_brick", "_law_bed"] : List PySem.Str) (defScope (top 75)) := ⟨rfl, rfl, rfl, by decide +kernel, rfl, by decide +kernel, by decide +kernel⟩
theorem b__law_sums (e : Fx K mg) : Binds K e.fd__law_sums (["_law_courses", "_law_length", "_law_brick", "_law_bed"] : List PySem.Str) [] := e.F__law_sums.bindsN fun _ _ _ _ _ _ us hl => match us, hl with | [_, _, _, _], _ => rfl
def lb__law_sums_0 (K : PySem.W.Frag) : TSD := (sApp 4 (dCall (p__law_next K) [] (dCons (d2O oIx 4 (dNeg (dC (.int 1)))) (dCons (dCall (p__law_own K) [] (dCons (dVar 5) (dCons (dVar 1) (dCons (dVar 2) dNil)))) (dCons (dVar 3) dNil)))))
def td__law_sums (K : PySem.W.Frag) : TSD := (sSeq (sAsgN 4 (dLstN (dCons (dCall (p__law_own K) [] (dCons (d2 oIx (dVar 0) (dC (.int 0))) (dCons (dVar 1) (dCons (dVar 2) dNil)))) dNil)))
      (sSeq (sFor (iSeq (dSl (dVar 0) (dPart (dC (.int 1))) dNoPart)) (gdName 5) (lb__law_sums_0 K))
      (sRet (dFrz 4))))
def p__law_sums (K : PySem.W.Frag) : RCl := fun ds Q => ds.length = 4 ∧ pD 6 (td__law_sums K) ds Q
theorem p__law_sums_len {K : PySem.W.Frag} : ∀ ds Q, p__law_sums K ds Q → ds.length = 4 := fun _ _ h => h.1
theorem p__law_sums_td {K : PySem.W.Frag} : ∀ ds Q, p__law_sums K ds Q → pD 6 (td__law_sums K) ds Q := fun _ _ h => h.2
theorem ok__law_sums (e : Fx K mg) : FnOk P w K mg base CX0 3 (He.ga K ("_law_sums" : PySem.Str)) e.fd__law_sums (["_law_courses", "_law_length", "_law_brick", "_law_bed"] : List PySem.Str) (spD K 4 (p__law_sums K)) := by
  have nd := sc__law_sums.nd
  refine fn_D e.F__law_sums sc__law_sums p__law_sums_td ?_
  intro cdv A outer s H E hr
  exact ⟨_, PSs.nox (pss_cons (ps_set (i := 4) nd rfl (Or.inl rfl) (pe_lst (pa_cons (pe_call ((ok__law_own e).mono (by decide : 2 ≤ 2)) hr rfl e.g__law_own e.F__law_own.kp (b__law_own e) .nil pass0 (pa_cons (pe_ix ix_any (pv 0) pe_int (fun _ _ => rfl)) (pa_cons (pv 1) (pa_cons (pv 2) pa_nil)))) pa_nil)))
      (pss_cons (ps_for PassesOwn.never rfl (pi_any (pe_slice sl_any (pv 0) (po_some pe_int) po_none)) (pg_name (i := 5) nd rfl (Or.inl rfl)) (pss_one (ps_expr (pe_bm PySem.F.plainAttrs_list PySem.F.slot_list_append PySem.F.type_list_append mt_append (pv 4) (pa_cons (pe_call ((ok__law_next e).mono (by decide : 1 ≤ 2)) hr rfl e.g__law_next e.F__law_next.kp (b__law_next e) .nil pass0 (pa_cons (pe_ix ix_any (pv 4) (pe_un un_neg pe_int) (fun _ _ => rfl)) (pa_cons (pe_call ((ok__law_own e).mono (by decide : 2 ≤ 2)) hr rfl e.g__law_own e.F__law_own.kp (b__law_own e) .nil pass0 (pa_cons (pv 5) (pa_cons (pv 1) (pa_cons (pv 2) pa_nil)))) (pa_cons (pv 3) pa_nil)))) pa_nil)))))
      (pss_one (ps_ret (pv 4))))),
    (sd_seq (sd_asgN (by decide) (en_lst (ea_cons (ev_call (fun _ => Reps.nil) p__law_own_len (ea_cons (ev_op ev_var ev_int od_ix) (ea_cons ev_var (ea_cons ev_var ea_nil)))) ea_nil)))
      (sd_seq (sd_for (ei_any (ev_sl ev_var (eo_part ev_int) eo_no)) (EGx.eg eg_name) (sd_app (ev_call (fun _ => Reps.nil) p__law_next_len (ea_cons (ev_opO (ev_neg ev_int) od_ix) (ea_cons (ev_call (fun _ => Reps.nil) p__law_own_len (ea_cons ev_var (ea_cons ev_var (ea_cons ev_var ea_nil)))) (ea_cons ev_var ea_nil))))))
      (sd_ret ev_frz)))⟩
/-! _law_hand -/
theorem sc__law_hand : FnScope (["_law_script", "_law_total", "_law_k", "_law_cell"] : List PySem.Str) (["_law_script"] : List PySem.Str) (defScope (top 65)) := ⟨rfl, rfl, rfl, by decide +kernel, rfl, by decide +kernel, by decide +kernel⟩
theorem b__law_hand (e : Fx K mg) : Binds K e.fd__law_hand (["_law_script"] : List PySem.Str) [] := e.F__law_hand.bindsN fun _ _ _ _ _ _ us hl => match us, hl with | [_], _ => rfl
def lb__law_hand_0 (K : PySem.W.Frag) : TSD := (sAsg (d2 oMod (dCB cInt (dCons (d2 oAdd (d2 oMul (dVar 1) (dC (.int 31))) (d2 oMul (dCB cInt (dCons (dVar 3) dNil)) (d2 oAdd (dVar 2) (dC (.int 7))))) dNil)) (dC (.int 2147483629))) (gdName 1))
def td1__law_hand (K : PySem.W.Frag) : TSD := (sAsg (dC (.int 0)) (gdName 1))
def td2__law_hand (K : PySem.W.Frag) : TSD := (sFor (iEnumD (dVar 0)) (gdTup 2 (gdCons (gdName 2) (gdCons (gdName 3) gdNil))) (lb__law_hand_0 K))
def tdn__law_hand (K : PySem.W.Frag) : TDA := (dLstN (dCons (dLc (iSeq (dVar 0)) (gdName 3) dYes (dCB cAbs (dCons (dCB cInt (dCons (dVar 3) dNil)) dNil)) [3]) (dCons (dC (.int 0)) (dCons (dC (.int 0)) (dCons (dVar 1) dNil)))))
def hand_ok (K : PySem.W.Frag) : Prop := ∀ ns : List Int, ns.length ≤ 1000000 → td1__law_hand K ⟨fun Γ => td2__law_hand K ⟨fun Γ' => tdn__law_hand K Γ' fun xs _ => handX xs, fun _ _ => False, fun _ => False, fun _ => False⟩ Γ, fun _ _ => False, fun _ => False, fun _ => False⟩ (startG 4 [.lst (ns.map DL.D.int)])
theorem ok__law_hand (e : Fx K mg) (hh : hand_ok K) : FnOk P w K mg base CX0 1 (He.ga K ("_law_hand" : PySem.Str)) e.fd__law_hand (["_law_script"] : List PySem.Str) (spM K) := by
  have nd := sc__law_hand.nd
  refine fn_M e.F__law_hand sc__law_hand rfl hh ?_
  intro cdv A outer s H E hr
  exact ⟨_, _, _, PSs.nox (pss_cons (ps_set (i := 1) nd rfl (Or.inl rfl) pe_int) (pss_cons (ps_for PassesOwn.never rfl (pi_enumA rfl e.n_enumerate (pa_cons (pv 0) pa_nil)) (pg_tup rfl (pgs_cons (pg_name (i := 2) nd rfl (Or.inl rfl)) (pgs_cons (pg_name (i := 3) nd rfl (Or.inl rfl)) pgs_nil))) (pss_one (ps_set (i := 1) nd rfl (Or.inl rfl) (pe_op op_modN (pe_callTy call_int1 rfl e.n_int boot_int' (pa_cons (pe_op op_add (pe_op op_mul (pv 1) pe_int) (pe_op op_mul (pe_callTy call_int1 rfl e.n_int boot_int' (pa_cons (pv 3) pa_nil)) (pe_op op_add (pv 2) pe_int))) pa_nil)) pe_int)))) (pss_one (ps_ret (pe_lst (pa_cons (pe_lc (own := [(("_law_cell" : PySem.Str), 3)]) rfl nd (pi_any (pv 0)) (blkOk_by (N := (["_law_script", "_law_total", "_law_k", "_law_cell"] : List PySem.Str)) (sc := defScope (top 65)) (by decide +kernel)) (fun _ _ _ _ _ => (pg_name (i := 3) nd rfl (Or.inl rfl))) (fun _ _ _ _ _ => pts_nil) (fun _ _ _ _ _ => (pe_callB call_abs rfl e.n_abs boot_abs' (pa_cons (pe_callTy call_int1 rfl e.n_int boot_int' (pa_cons (pv 3) pa_nil)) pa_nil)))) (pa_cons pe_int (pa_cons pe_int (pa_cons (pv 1) pa_nil))))))))),
    (sd_asg ev_int eg_name.eg), (sd_for (ei_enum ev_var) (EGx.eg (eg_tup (egs_cons eg_name (egs_cons eg_name egs_nil)))) (sd_asg (ev_op (ev_cb cl_int (ea_cons (ev_op (ev_op ev_var ev_int od_mul) (ev_op (ev_cb cl_int (ea_cons ev_var ea_nil)) (ev_op ev_var ev_int od_add) od_mul) od_add) ea_nil)) ev_int od_mod) eg_name.eg)), (en_lst (ea_cons (ev_lc (ei_any ev_var) eg_name (gin_name (by decide)) (gdin_name (by decide)) et_yes (ev_cb cl_abs (ea_cons (ev_cb cl_int (ea_cons ev_var ea_nil)) ea_nil))) (ea_cons ev_int (ea_cons ev_int (ea_cons ev_var ea_nil)))))⟩
/-! law -/
theorem sc_law : FnScope (["_law_script", "_law_hand_here", "_law_world", "_law_length", "_law_courses", "_law_counts_here", "_law_more", "_law_brick", "_law_bed", "_law_prices", "_law_stock_here", "_law_build", "_law_other", "_law_crack", "_law_numbers", "_law_one", "_law_two", "_law_order", "_law_moved", "_law_k"] : List PySem.Str) (["_law_script"] : List PySem.Str) (defScope (top 80)) := ⟨rfl, rfl, rfl, by decide +kernel, rfl, by decide +kernel, by decide +kernel⟩
theorem b_law (e : Fx K mg) : Binds K e.fd_law (["_law_script"] : List PySem.Str) [] := e.F_law.bindsN fun _ _ _ _ _ _ us hl => match us, hl with | [_], _ => rfl
def td_law (K : PySem.W.Frag) : TSD := (sSeq (sAsg (dCallH (p__law_courses_drawn K) 1 (dCons (dCallH (p__law_pick K) 1 (dCons (dLst (dCons (dC (.int 9)) (dCons (dC (.int 9)) (dCons (dC (.int 9)) (dCons (dC (.int 20)) dNil))))) dNil)) (dCons (dC (.int 8)) dNil))) (gdTup 3 (gdCons (gdName 2) (gdCons (gdName 3) (gdCons (gdName 4) gdNil)))))
      (sSeq (sAsg (dCall (p__law_counts K) [] (dCons (d2 oIx (dVar 2) (dC (.int 0))) (dCons (dVar 3) dNil))) (gdName 5))
      (sSeq (sAsg (dLc (iR1 (dCons (d2 oAdd (dC (.int 1)) (dCallH (p__law_draw K) 1 (dCons (dC (.int 8)) dNil))) dNil)) (gdName 19) dYes (dCallH (p__law_course K) 1 (dCons (d2 oIx (dVar 2) (dC (.int 0))) (dCons (dVar 3) (dCons (dVar 5) dNil)))) [19]) (gdName 6))
      (sSeq (sIf (dTest (d2 oEq (dCallH (p__law_draw K) 1 (dCons (dC (.int 3)) dNil)) (dC (.int 0)))) (sAsg (dLc (iSeq (dVar 6)) (gdName 15) dYes (dCallH (p__law_pick K) 1 (dCons (dVar 4) dNil)) [15]) (gdName 6)) sNext)
      (sSeq (sAsg (dCallH (p__law_two_prices K) 1 dNil) (gdTup 2 (gdCons (gdName 7) (gdCons (gdName 8) gdNil))))
      (sSeq (sAsg (dCall (p_Prices_init K) [] (dCons (dVar 7) (dCons (dVar 8) dNil))) (gdName 9))
      (sSeq (sAsg (dCall (p_Stock_init K) [] (dCons (d2 oIx (dVar 2) (dC (.int 0))) (dCons (d2 oIx (dVar 2) (dC (.int 1))) (dCons (d2 oIx (dVar 2) (dC (.int 2))) dNil)))) (gdName 10))
      (sSeq (sPar 11 12 (dCons (dCall (p_Wall_init K) [] (dCons (dVar 10) (dCons (dVar 4) dNil))) (dCons (dCall (p_Wall_init K) [] (dCons (dVar 10) (dCons (dVar 6) dNil))) dNil)))
      (sSeq (sAsg (dCall (p_least_crack K) [] (dCons (dVar 11) (dCons (dVar 9) dNil))) (gdName 13))
      (sSeq (sAsg (dCall (p_floor_numbers K) [] (dCons (dVar 11) (dCons (dVar 9) dNil))) (gdName 14))
      (sSeq (sIf (dOr (dTest (d2 oNe (dFld K ("price" : PySem.Str) (dVar 13)) (dCB1 cMinL (d2 oIx (dCall (p__law_sums K) [] (dCons (dVar 4) (dCons (dVar 3) (dCons (dVar 7) (dCons (dVar 8) dNil))))) (dNeg (dC (.int 1))))))) (dTest (d2 oNe (d2 oIx (dVar 14) (dC (.int 0))) (dCB1 cTuple (dCall (p__law_own K) [] (dCons (d2 oIx (dVar 4) (dC (.int 0))) (dCons (dVar 3) (dCons (dVar 7) dNil)))))))) (sRet (dC (.bl false))) sNext)
      (sSeq (sIf (dNot (dTest (dCall (p__law_turned_alike K) [] (dCons (dVar 11) (dCons (dVar 9) (dCons (dVar 3) (dCons (dVar 13) (dCons (dVar 14) dNil)))))))) (sRet (dC (.bl false))) sNext)
      (sSeq (sIf (dOr (dNot (dTest (dCallH (p__law_piled_right K) 1 (dCons (dVar 11) (dCons (dVar 12) (dCons (dVar 9) (dCons (dVar 3) dNil))))))) (dNot (dTest (dCallH (p__law_piled_right K) 1 (dCons (dVar 12) (dCons (dVar 11) (dCons (dVar 9) (dCons (dVar 3) dNil)))))))) (sRet (dC (.bl false))) sNext)
      (sSeq (sAsg (dTup (dCons (dCallH (p__law_draw K) 1 (dCons (dCB1 cLen (dVar 4)) dNil)) (dCons (dCallH (p__law_draw K) 1 (dCons (dCB1 cLen (dVar 4)) dNil)) dNil))) (gdTup 2 (gdCons (gdName 15) (gdCons (gdName 16) gdNil))))
      (sSeq (sAsg (dLc (iR1 (dCons (dCB1 cLen (dVar 4)) dNil)) (gdName 19) dYes (dIfE (dTest (d2 oEq (dVar 19) (dVar 15))) (dVar 16) (dIfE (dTest (d2 oEq (dVar 19) (dVar 16))) (dVar 15) (dVar 19))) [19]) (gdName 17))
      (sSeq (sAsg (dCall (p_least_crack K) [] (dCons (dCall (p_exchanged K) [] (dCons (dVar 11) (dCons (dVar 15) (dCons (dVar 16) dNil)))) (dCons (dVar 9) dNil))) (gdName 18))
      (sSeq (sIf (dTest (d2 oNe (dFld K ("price" : PySem.Str) (dVar 18)) (dCB1 cMinL (d2 oIx (dCall (p__law_sums K) [] (dCons (dLc (iSeq (dVar 17)) (gdName 19) dYes (d2 oIx (dVar 4) (dVar 19)) [19]) (dCons (dVar 3) (dCons (dVar 7) (dCons (dVar 8) dNil))))) (dNeg (dC (.int 1))))))) (sRet (dC (.bl false))) sNext)
      (sRet (dCallH (p__law_scaled_right K) 1 (dCons (dVar 2) (dCons (dVar 11) (dCons (dVar 9) (dCons (dVar 13) (dCons (dVar 3) dNil))))))))))))))))))))))))
def law_ok (K : PySem.W.Frag) : Prop := ∀ ns : List Int, ns.length ≤ 1000000 → td_law K ⟨fun _ => False, fun d _ => d = .bl true, fun _ => False, fun _ => False⟩ (.val (.lst (ns.map DL.D.int)) :: .hand :: List.replicate 18 .un)
theorem ok_law (e : Fx K mg) (hh : hand_ok K) (hl : law_ok K) : FnOk P w K mg base CX0 7 (He.ga K ("law" : PySem.Str)) e.fd_law (["_law_script"] : List PySem.Str) (spL K) := by
  have nd := sc_law.nd
  obtain ⟨ds_Stock_init_0, rd_Stock_init_0, bd_Stock_init_0⟩ := b_Stock_init_0 e
  refine fn_L (m := 18) e.F_law sc_law rfl rfl hl ?_
  intro cdv A outer s H E hr
  exact ⟨_, _, PSs.nox (pss_cons (ps_set (i := 1) nd rfl (Or.inr rfl) (pe_call ((ok__law_hand e hh).mono (by decide : 1 ≤ 6)) hr rfl e.g__law_hand e.F__law_hand.kp (b__law_hand e) .nil pass0 (pa_cons (pv 0) pa_nil)))
      (pss_cons (ps_asg (pe_call ((ok__law_courses_drawn e).mono (by decide : 5 ≤ 6)) hr rfl e.g__law_courses_drawn e.F__law_courses_drawn.kp (b__law_courses_drawn e) .nil pass0 (pa_cons (pv 1) (pa_cons (pe_call ((ok__law_pick e).mono (by decide : 3 ≤ 6)) hr rfl e.g__law_pick e.F__law_pick.kp (b__law_pick e) .nil pass0 (pa_cons (pv 1) (pa_cons (pe_lst (pa_cons pe_int (pa_cons pe_int (pa_cons pe_int (pa_cons pe_int pa_nil))))) pa_nil))) (pa_cons pe_int pa_nil)))) (pg_tup rfl (pgs_cons (pg_name (i := 2) nd rfl (Or.inr rfl)) (pgs_cons (pg_name (i := 3) nd rfl (Or.inr rfl)) (pgs_cons (pg_name (i := 4) nd rfl (Or.inr rfl)) pgs_nil)))))
      (pss_cons (ps_set (i := 5) nd rfl (Or.inr rfl) (pe_call ((ok__law_counts e).mono (by decide : 1 ≤ 6)) hr rfl e.g__law_counts e.F__law_counts.kp (b__law_counts e) .nil pass0 (pa_cons (pe_ix ix_any (pv 2) pe_int (fun _ _ => rfl)) (pa_cons (pv 3) pa_nil))))
      (pss_cons (ps_setLc (i := 6) (own := [(("_law_k" : PySem.Str), 19)]) rfl nd rfl rfl (sw_true rfl rfl rfl (by decide +kernel)) (pi_range1 rfl e.n_range (pa_cons (pe_op op_add pe_int (pe_call ((ok__law_draw e).mono (by decide : 2 ≤ 6)) hr rfl e.g__law_draw e.F__law_draw.kp (b__law_draw e) .nil pass0 (pa_cons (pv 1) (pa_cons pe_int pa_nil)))) pa_nil)) (blkOk_by (N := (["_law_script", "_law_hand_here", "_law_world", "_law_length", "_law_courses", "_law_counts_here", "_law_more", "_law_brick", "_law_bed", "_law_prices", "_law_stock_here", "_law_build", "_law_other", "_law_crack", "_law_numbers", "_law_one", "_law_two", "_law_order", "_law_moved", "_law_k"] : List PySem.Str)) (sc := defScope (top 80)) (by decide +kernel)) (fun _ _ _ _ _ => (pg_name (i := 19) nd rfl (Or.inl rfl))) (fun _ _ _ _ _ => pts_nil) (fun _ _ _ _ _ => (pe_call ((ok__law_course e).mono (by decide : 4 ≤ 6)) hr rfl e.g__law_course e.F__law_course.kp (b__law_course e) .nil pass0 (pa_cons (pv 1) (pa_cons (pe_ix ix_any (pv 2) pe_int (fun _ _ => rfl)) (pa_cons (pv 3) (pa_cons (pv 5) pa_nil)))))))
      (pss_cons (ps_if (pt_cmpR (op_eqD hr.units) (pe_call ((ok__law_draw e).mono (by decide : 2 ≤ 6)) hr rfl e.g__law_draw e.F__law_draw.kp (b__law_draw e) .nil pass0 (pa_cons (pv 1) (pa_cons pe_int pa_nil))) pe_int (nomark _)) (pss_one (ps_setLc (i := 6) (own := [(("_law_one" : PySem.Str), 15)]) rfl nd rfl rfl (sw_true rfl rfl rfl (by decide +kernel)) (pi_any (pv 6)) (blkOk_by (N := (["_law_script", "_law_hand_here", "_law_world", "_law_length", "_law_courses", "_law_counts_here", "_law_more", "_law_brick", "_law_bed", "_law_prices", "_law_stock_here", "_law_build", "_law_other", "_law_crack", "_law_numbers", "_law_one", "_law_two", "_law_order", "_law_moved", "_law_k"] : List PySem.Str)) (sc := defScope (top 80)) (by decide +kernel)) (fun _ _ _ _ _ => (pg_name (i := 15) nd rfl (Or.inl rfl))) (fun _ _ _ _ _ => pts_nil) (fun _ _ _ _ _ => (pe_call ((ok__law_pick e).mono (by decide : 3 ≤ 6)) hr rfl e.g__law_pick e.F__law_pick.kp (b__law_pick e) .nil pass0 (pa_cons (pv 1) (pa_cons (pv 4) pa_nil)))))) pss_nil)
      (pss_cons (ps_asg (pe_call ((ok__law_two_prices e).mono (by decide : 4 ≤ 6)) hr rfl e.g__law_two_prices e.F__law_two_prices.kp (b__law_two_prices e) .nil pass0 (pa_cons (pv 1) pa_nil)) (pg_tup rfl (pgs_cons (pg_name (i := 7) nd rfl (Or.inl rfl)) (pgs_cons (pg_name (i := 8) nd rfl (Or.inl rfl)) pgs_nil))))
      (pss_cons (ps_set (i := 9) nd rfl (Or.inl rfl) (pe_make e.M_Prices ((ok_Prices_init e).mono (by decide : 2 ≤ 5)) hr rfl e.g_Prices (b_Prices_init e) .nil pass0 (pa_cons (pv 7) (pa_cons (pv 8) pa_nil))))
      (pss_cons (ps_set (i := 10) nd rfl (Or.inl rfl) (pe_make e.M_Stock ((ok_Stock_init e).mono (by decide : 3 ≤ 5)) hr rfl e.g_Stock bd_Stock_init_0 rd_Stock_init_0 pass0 (pa_cons (pe_ix ix_any (pv 2) pe_int (fun _ _ => rfl)) (pa_cons (pe_ix ix_any (pv 2) pe_int (fun _ _ => rfl)) (pa_cons (pe_ix ix_any (pv 2) pe_int (fun _ _ => rfl)) pa_nil)))))
      (pss_cons (ps_par (i := 11) (j := 12) rfl nd rfl rfl (by decide) rfl rfl (pa_cons (pe_make e.M_Wall ((ok_Wall_init e).mono (by decide : 3 ≤ 5)) hr rfl e.g_Wall (b_Wall_init e) .nil pass0 (pa_cons (pv 10) (pa_cons (pv 4) pa_nil))) (pa_cons (pe_make e.M_Wall ((ok_Wall_init e).mono (by decide : 3 ≤ 5)) hr rfl e.g_Wall (b_Wall_init e) .nil pass0 (pa_cons (pv 10) (pa_cons (pv 6) pa_nil))) pa_nil)) rfl)
      (pss_cons (ps_set (i := 13) nd rfl (Or.inl rfl) (pe_call ((ok_least_crack e).mono (by decide : 5 ≤ 6)) hr rfl e.g_least_crack e.F_least_crack.kp (b_least_crack e) .nil pass0 (pa_cons (pv 11) (pa_cons (pv 9) pa_nil))))
      (pss_cons (ps_set (i := 14) nd rfl (Or.inl rfl) (pe_call ((ok_floor_numbers e).mono (by decide : 5 ≤ 6)) hr rfl e.g_floor_numbers e.F_floor_numbers.kp (b_floor_numbers e) .nil pass0 (pa_cons (pv 11) (pa_cons (pv 9) pa_nil))))
      (pss_cons (ps_if (PW.pt (pw_or (pt_cmpR (op_neD hr.units) (pe_fld (pv 13) rfl) (pe_callB (cr_min rfl) rfl e.n_min boot_min' (pa_cons (pe_ix ix_any (pe_call ((ok__law_sums e).mono (by decide : 3 ≤ 6)) hr rfl e.g__law_sums e.F__law_sums.kp (b__law_sums e) .nil pass0 (pa_cons (pv 4) (pa_cons (pv 3) (pa_cons (pv 7) (pa_cons (pv 8) pa_nil))))) (pe_un un_neg pe_int) (fun _ _ => rfl)) pa_nil)) (nomark _)) (pw_or1 (pt_cmpR (op_neD hr.units) (pe_ix ix_any (pv 14) pe_int (fun _ _ => rfl)) (pe_callTy call_tuple_of rfl e.n_tuple boot_tuple' (pa_cons (pe_call ((ok__law_own e).mono (by decide : 2 ≤ 6)) hr rfl e.g__law_own e.F__law_own.kp (b__law_own e) .nil pass0 (pa_cons (pe_ix ix_any (pv 4) pe_int (fun _ _ => rfl)) (pa_cons (pv 3) (pa_cons (pv 7) pa_nil)))) pa_nil)) (nomark _))))) (pss_one (ps_ret pe_bl)) pss_nil)
      (pss_cons (ps_if (pt_not (pt_val (pe_call ((ok__law_turned_alike e).mono (by decide : 6 ≤ 6)) hr rfl e.g__law_turned_alike e.F__law_turned_alike.kp (b__law_turned_alike e) .nil pass0 (pa_cons (pv 11) (pa_cons (pv 9) (pa_cons (pv 3) (pa_cons (pv 13) (pa_cons (pv 14) pa_nil)))))))) (pss_one (ps_ret pe_bl)) pss_nil)
      (pss_cons (ps_if (PW.pt (pw_or (pt_not (pt_val (pe_call ((ok__law_piled_right e).mono (by decide : 6 ≤ 6)) hr rfl e.g__law_piled_right e.F__law_piled_right.kp (b__law_piled_right e) .nil pass0 (pa_cons (pv 1) (pa_cons (pv 11) (pa_cons (pv 12) (pa_cons (pv 9) (pa_cons (pv 3) pa_nil)))))))) (pw_or1 (pt_not (pt_val (pe_call ((ok__law_piled_right e).mono (by decide : 6 ≤ 6)) hr rfl e.g__law_piled_right e.F__law_piled_right.kp (b__law_piled_right e) .nil pass0 (pa_cons (pv 1) (pa_cons (pv 12) (pa_cons (pv 11) (pa_cons (pv 9) (pa_cons (pv 3) pa_nil))))))))))) (pss_one (ps_ret pe_bl)) pss_nil)
      (pss_cons (ps_asg (pe_tup (pa_cons (pe_call ((ok__law_draw e).mono (by decide : 2 ≤ 6)) hr rfl e.g__law_draw e.F__law_draw.kp (b__law_draw e) .nil pass0 (pa_cons (pv 1) (pa_cons (pe_callB call_len_seq rfl e.n_len boot_len' (pa_cons (pv 4) pa_nil)) pa_nil))) (pa_cons (pe_call ((ok__law_draw e).mono (by decide : 2 ≤ 6)) hr rfl e.g__law_draw e.F__law_draw.kp (b__law_draw e) .nil pass0 (pa_cons (pv 1) (pa_cons (pe_callB call_len_seq rfl e.n_len boot_len' (pa_cons (pv 4) pa_nil)) pa_nil))) pa_nil))) (pg_tup rfl (pgs_cons (pg_name (i := 15) nd rfl (Or.inr rfl)) (pgs_cons (pg_name (i := 16) nd rfl (Or.inr rfl)) pgs_nil))))
      (pss_cons (ps_setLc (i := 17) (own := [(("_law_k" : PySem.Str), 19)]) rfl nd rfl rfl (sw_true rfl rfl rfl (by decide +kernel)) (pi_range1 rfl e.n_range (pa_cons (pe_callB call_len_seq rfl e.n_len boot_len' (pa_cons (pv 4) pa_nil)) pa_nil)) (blkOk_by (N := (["_law_script", "_law_hand_here", "_law_world", "_law_length", "_law_courses", "_law_counts_here", "_law_more", "_law_brick", "_law_bed", "_law_prices", "_law_stock_here", "_law_build", "_law_other", "_law_crack", "_law_numbers", "_law_one", "_law_two", "_law_order", "_law_moved", "_law_k"] : List PySem.Str)) (sc := defScope (top 80)) (by decide +kernel)) (fun _ _ _ _ _ => (pg_name (i := 19) nd rfl (Or.inl rfl))) (fun _ _ _ _ _ => pts_nil) (fun _ _ _ _ _ => (pe_ifExp (pt_cmpR (op_eqD hr.units) (pv 19) (pv 15) (nomark _)) (pv 16) (pe_ifExp (pt_cmpR (op_eqD hr.units) (pv 19) (pv 16) (nomark _)) (pv 15) (pv 19)))))
      (pss_cons (ps_set (i := 18) nd rfl (Or.inl rfl) (pe_call ((ok_least_crack e).mono (by decide : 5 ≤ 6)) hr rfl e.g_least_crack e.F_least_crack.kp (b_least_crack e) .nil pass0 (pa_cons (pe_call ((ok_exchanged e).mono (by decide : 5 ≤ 6)) hr rfl e.g_exchanged e.F_exchanged.kp (b_exchanged e) .nil pass0 (pa_cons (pv 11) (pa_cons (pv 15) (pa_cons (pv 16) pa_nil)))) (pa_cons (pv 9) pa_nil))))
      (pss_cons (ps_if (pt_cmpR (op_neD hr.units) (pe_fld (pv 18) rfl) (pe_callB (cr_min rfl) rfl e.n_min boot_min' (pa_cons (pe_ix ix_any (pe_call ((ok__law_sums e).mono (by decide : 3 ≤ 6)) hr rfl e.g__law_sums e.F__law_sums.kp (b__law_sums e) .nil pass0 (pa_cons (pe_lc (own := [(("_law_k" : PySem.Str), 19)]) rfl nd (pi_any (pv 17)) (blkOk_by (N := (["_law_script", "_law_hand_here", "_law_world", "_law_length", "_law_courses", "_law_counts_here", "_law_more", "_law_brick", "_law_bed", "_law_prices", "_law_stock_here", "_law_build", "_law_other", "_law_crack", "_law_numbers", "_law_one", "_law_two", "_law_order", "_law_moved", "_law_k"] : List PySem.Str)) (sc := defScope (top 80)) (by decide +kernel)) (fun _ _ _ _ _ => (pg_name (i := 19) nd rfl (Or.inl rfl))) (fun _ _ _ _ _ => pts_nil) (fun _ _ _ _ _ => (pe_ix ix_any (pv 4) (pv 19) (fun _ _ => rfl)))) (pa_cons (pv 3) (pa_cons (pv 7) (pa_cons (pv 8) pa_nil))))) (pe_un un_neg pe_int) (fun _ _ => rfl)) pa_nil)) (nomark _)) (pss_one (ps_ret pe_bl)) pss_nil)
      (pss_one (ps_ret (pe_call ((ok__law_scaled_right e).mono (by decide : 6 ≤ 6)) hr rfl e.g__law_scaled_right e.F__law_scaled_right.kp (b__law_scaled_right e) .nil pass0 (pa_cons (pv 1) (pa_cons (pv 2) (pa_cons (pv 11) (pa_cons (pv 9) (pa_cons (pv 13) (pa_cons (pv 3) pa_nil))))))))))))))))))))))))))),
    (sd_seq (sd_asg (ev_callH p__law_courses_drawn_len (ea_cons (ev_callH p__law_pick_len (ea_cons (ev_lst (ea_cons ev_int (ea_cons ev_int (ea_cons ev_int (ea_cons ev_int ea_nil))))) ea_nil)) (ea_cons ev_int ea_nil))) (EGx.eg (eg_tup (egs_cons eg_name (egs_cons eg_name (egs_cons eg_name egs_nil))))))
      (sd_seq (sd_asg (ev_call (fun _ => Reps.nil) p__law_counts_len (ea_cons (ev_op ev_var ev_int od_ix) (ea_cons ev_var ea_nil))) eg_name.eg)
      (sd_seq (sd_asg (ev_lc (ei_rng1 (ea_cons (ev_op ev_int (ev_callH p__law_draw_len (ea_cons ev_int ea_nil)) od_add) ea_nil)) eg_name (gin_name (by decide)) (gdin_name (by decide)) et_yes (ev_callH p__law_course_len (ea_cons (ev_op ev_var ev_int od_ix) (ea_cons ev_var (ea_cons ev_var ea_nil))))) eg_name.eg)
      (sd_seq (sd_if (et_test (ev_op (ev_callH p__law_draw_len (ea_cons ev_int ea_nil)) ev_int od_eq)) (sd_asg (ev_lc (ei_any ev_var) eg_name (gin_name (by decide)) (gdin_name (by decide)) et_yes (ev_callH p__law_pick_len (ea_cons ev_var ea_nil))) eg_name.eg) sd_next)
      (sd_seq (sd_asg (ev_callH p__law_two_prices_len ea_nil) (EGx.eg (eg_tup (egs_cons eg_name (egs_cons eg_name egs_nil)))))
      (sd_seq (sd_asg (ev_make (fun _ => Reps.nil) p_Prices_init_len (ea_cons ev_var (ea_cons ev_var ea_nil))) eg_name.eg)
      (sd_seq (sd_asg (ev_make (fun _ => Reps.nil) p_Stock_init_len (ea_cons (ev_op ev_var ev_int od_ix) (ea_cons (ev_op ev_var ev_int od_ix) (ea_cons (ev_op ev_var ev_int od_ix) ea_nil)))) eg_name.eg)
      (sd_seq (sd_par (ea_cons (ev_make (fun _ => Reps.nil) p_Wall_init_len (ea_cons ev_var (ea_cons ev_var ea_nil))) (ea_cons (ev_make (fun _ => Reps.nil) p_Wall_init_len (ea_cons ev_var (ea_cons ev_var ea_nil))) ea_nil)))
      (sd_seq (sd_asg (ev_call (fun _ => Reps.nil) p_least_crack_len (ea_cons ev_var (ea_cons ev_var ea_nil))) eg_name.eg)
      (sd_seq (sd_asg (ev_call (fun _ => Reps.nil) p_floor_numbers_len (ea_cons ev_var (ea_cons ev_var ea_nil))) eg_name.eg)
      (sd_seq (sd_if (et_or (et_test (ev_op (ev_fld ev_var) (ev_cb1 cl_minL (Ev.b (ev_op (ev_call (fun _ => Reps.nil) p__law_sums_len (ea_cons ev_var (ea_cons ev_var (ea_cons ev_var (ea_cons ev_var ea_nil))))) (ev_neg ev_int) od_ix))) od_ne)) (et_test (ev_op (ev_op ev_var ev_int od_ix) (ev_cb1 cl_tuple (Ev.b (ev_call (fun _ => Reps.nil) p__law_own_len (ea_cons (ev_op ev_var ev_int od_ix) (ea_cons ev_var (ea_cons ev_var ea_nil)))))) od_ne))) (sd_ret ev_bl) sd_next)
      (sd_seq (sd_if (et_not (et_B (ev_call (fun _ => Reps.nil) p__law_turned_alike_len (ea_cons ev_var (ea_cons ev_var (ea_cons ev_var (ea_cons ev_var (ea_cons ev_var ea_nil)))))))) (sd_ret ev_bl) sd_next)
      (sd_seq (sd_if (et_or (et_not (et_B (ev_callH p__law_piled_right_len (ea_cons ev_var (ea_cons ev_var (ea_cons ev_var (ea_cons ev_var ea_nil))))))) (et_not (et_B (ev_callH p__law_piled_right_len (ea_cons ev_var (ea_cons ev_var (ea_cons ev_var (ea_cons ev_var ea_nil)))))))) (sd_ret ev_bl) sd_next)
      (sd_seq (sd_asg (ev_tup (ea_cons (ev_callH p__law_draw_len (ea_cons (ev_cb1 cl_len (Ev.b ev_var)) ea_nil)) (ea_cons (ev_callH p__law_draw_len (ea_cons (ev_cb1 cl_len (Ev.b ev_var)) ea_nil)) ea_nil))) (EGx.eg (eg_tup (egs_cons eg_name (egs_cons eg_name egs_nil)))))
      (sd_seq (sd_asg (ev_lc (ei_rng1 (ea_cons (ev_cb1 cl_len (Ev.b ev_var)) ea_nil)) eg_name (gin_name (by decide)) (gdin_name (by decide)) et_yes (ev_if (et_test (ev_op ev_var ev_var od_eq)) ev_var (ev_if (et_test (ev_op ev_var ev_var od_eq)) ev_var ev_var))) eg_name.eg)
      (sd_seq (sd_asg (ev_call (fun _ => Reps.nil) p_least_crack_len (ea_cons (ev_call (fun _ => Reps.nil) p_exchanged_len (ea_cons ev_var (ea_cons ev_var (ea_cons ev_var ea_nil)))) (ea_cons ev_var ea_nil))) eg_name.eg)
      (sd_seq (sd_if (et_test (ev_op (ev_fld ev_var) (ev_cb1 cl_minL (Ev.b (ev_op (ev_call (fun _ => Reps.nil) p__law_sums_len (ea_cons (ev_lc (ei_any ev_var) eg_name (gin_name (by decide)) (gdin_name (by decide)) et_yes (ev_op ev_var ev_var od_ix)) (ea_cons ev_var (ea_cons ev_var (ea_cons ev_var ea_nil))))) (ev_neg ev_int) od_ix))) od_ne)) (sd_ret ev_bl) sd_next)
      (sd_ret (ev_callH p__law_scaled_right_len (ea_cons ev_var (ea_cons ev_var (ea_cons ev_var (ea_cons ev_var (ea_cons ev_var ea_nil))))))))))))))))))))))))⟩
end
end K96
set_option Elab.async false
set_option linter.all false
set_option maxRecDepth 100000
set_option maxHeartbeats 1000000
namespace K96
open PySem PySem.Spec L2 L2R DL
open PyProof.Rows hiding St
section
variable {K : PySem.W.Frag} {mg : PySem.Str → Option Value}
theorem lc_map {i : Nat} {Γ : List Sl} {td : TD} {Q : List D → Prop} (f : D → D) : ∀ {items acc : List D}, (∀ x ∈ items, ∀ Qd : D → List Sl → Prop, Qd (f x) (Γ.set i (.val x)) → td (Γ.set i (.val x)) Qd) → acc.length + items.length ≤ 16000000 → Q (acc ++ items.map f) → lcL (gdName i) dYes td Γ Q items acc
  | [], acc, _, _, q => by simpa [lcL] using q
  | x :: xs, acc, h, hl, q => by
    show gdName i x Γ _
    unfold gdName dYes
    refine ⟨rfl, ?_⟩
    rw [if_pos rfl]
    refine h x (List.mem_cons_self ..) _ ⟨rfl, ?_, ?_⟩
    · rw [List.length_cons] at hl
      omega
    · refine lc_map f (fun y hy => h y (List.mem_cons_of_mem _ hy)) ?_ ?_
      · rw [List.length_append, List.length_singleton]
        rw [List.length_cons] at hl
        omega
      · rw [List.append_assoc]
        exact q
/-- the whole comprehension [e for x in ..] -/
theorem lc_all {i : Nat} {Γ : List Sl} {td : TD} {Q : List D → Prop} {items : List D} (f : D → D) (h : ∀ x ∈ items, ∀ Qd : D → List Sl → Prop, Qd (f x) (Γ.set i (.val x)) → td (Γ.set i (.val x)) Qd) (hl : items.length ≤ 16000000) (q : Q (items.map f)) : lcL (gdName i) dYes td Γ Q items [] :=
  lc_map f h (by simpa using hl) (by simpa using q)
theorem items_lst (xs : List D) : items (.lst xs) = some xs := rfl
theorem items_tup (xs : List D) : items (.tup xs) = some xs := rfl
theorem cm_l {b x : Int} (h : 0 ≤ b ∧ b ≤ 1000000) : CMul b x := .inl ⟨by omega, by omega⟩
abbrev nums (ns : List Int) : List D := ns.map D.int
def joints : Int → List Int → List Int
  | _, [] => []
  | _, [_] => []
  | p, a :: b :: r => (p + a) :: joints (p + a) (b :: r)
theorem joints_len : ∀ (p : Int) (ns : List Int), (joints p ns).length ≤ ns.length
  | _, [] => Nat.le_refl _
  | _, [_] => Nat.zero_le _
  | p, a :: b :: r => by
    have := joints_len (p + a) (b :: r)
    simp [joints] at this ⊢
    omega
theorem cut_init (xs : List D) : DL.cutD xs none (some (-1)) = xs.dropLast := by
  unfold DL.cutD HT.sIx
  simp
  rw [List.dropLast_eq_take]
  congr 1
  omega
theorem cut_tail (xs : List D) : DL.cutD xs (some 1) none = xs.drop 1 := by
  unfold DL.cutD HT.sIx
  simp
  cases xs with
  | nil => simp
  | cons a b => simp
theorem lp_joints {W : EndsD} {ns : List Int} (h : ∀ p d, W.nx [.val (.tup (nums ns)), .own (nums (joints 0 ns)), .val (.int p), d]) : ∀ (r acc : List Int) (p : Int) (d : Sl), acc.length + r.length ≤ 1000000 → acc ++ joints p r = joints 0 ns →
    forL (gdName 3) (lb_joints_of_0 K) W (nums r).dropLast [.val (.tup (nums ns)), .own (nums acc), .val (.int p), d]
  | [], acc, p, d, _, e => by
    simp [joints] at e
    simp [forL, e, h]
  | [a], acc, p, d, _, e => by
    simp [joints] at e
    simp [forL, e, h]
  | a :: b :: r, acc, p, d, hl, e => by
    have := lp_joints h (b :: r) (acc ++ [p + a]) (p + a) (.val (.int a)) (by simp at hl ⊢; omega) (by simp [joints] at e ⊢; exact e)
    simp at hl
    simp [forL, lb_joints_of_0, gdName, sSeq, sAug, sApp, dVar]
    refine ⟨by omega, ?_⟩
    simp at this
    exact this
theorem sp_joints {ns : List Int} {Q : D → Prop} (hl : ns.length ≤ 1000000) (q : Q (.tup (nums (joints 0 ns)))) : p_joints_of K [.tup (nums ns)] Q := by
  refine ⟨rfl, ?_⟩
  simp only [td_joints_of, pD, pH, pI, startG, startH, startI, sNext, sSeq, sBrk, sCnt, sDrop, sRet, sRetN, sIf, sNever, sAsg, sAsgN, sPar, sAug, sApp, sFldS, sFor, dC, dVar, dOwn, d2, d2O, oI, oIC, oAdd, oSub, oMul, oFdiv, oMod, oPow, oLt, oLe, oGt, oGe, oIsN, oNotN, oIn, oNin, oIx, oCatT, dTest, dAnd, dOr, dNot, dAndV, dOrV, dNotV, dIfE, dTru, dNil, dCons, dTup, dLst, dFld, dCB, dCB1, cLen, cAbs, cInt, cMax2, cMin2, cSum, cList, cTuple, cAny, cAll, dNoPart, dPart, dSl, dRev, dTupRev, dFrz, dLstN, dListN, dPop, gdName, gdNil, gdCons, gdTup, gdSub, dCall, dIsiT, dCallH, dMeth, iSeq, iEnumD, iR1, iR2, iR3, dLcN, dLc, dYes, dNeg, dChain, items]
  simp [cut_init]
  exact lp_joints (fun p d => by simp [sRet, dCB1, dOwn, cTuple, items, q]) ns [] 0 .un (by simpa using hl) (by simp)
end
end K96
set_option Elab.async false
set_option linter.all false
set_option maxRecDepth 100000
set_option maxHeartbeats 1000000
namespace K96
open PySem PySem.Spec L2 L2R DL
open PyProof.Rows hiding St
section
variable {K : PySem.W.Frag} {mg : PySem.Str → Option Value}
def prD (K : PySem.W.Frag) (br bd : Int) : D := .obj (He.ga K "Prices") ["brick", "bed"] [.int br, .int bd]
theorem f_prD_brick (e : Fx K mg) {br bd : Int} {q : D → Prop} : oFld K "brick" (prD K br bd) q ↔ q (.int br) := by
  constructor
  · rintro ⟨C, ns, ds, d, h, _, _, l, q⟩
    cases h
    have z : List.lookup ("brick" : PySem.Str) ([("brick" : PySem.Str), ("bed" : PySem.Str)].zip [(.int br : D), (.int bd : D)]) = some (.int br) := rfl
    rw [z] at l
    cases l
    exact q
  · intro q
    exact ⟨_, _, _, _, rfl, e.c_Prices, e.na_Prices_brick, rfl, q⟩
theorem f_prD_bed (e : Fx K mg) {br bd : Int} {q : D → Prop} : oFld K "bed" (prD K br bd) q ↔ q (.int bd) := by
  constructor
  · rintro ⟨C, ns, ds, d, h, _, _, l, q⟩
    cases h
    have z : List.lookup ("bed" : PySem.Str) ([("brick" : PySem.Str), ("bed" : PySem.Str)].zip [(.int br : D), (.int bd : D)]) = some (.int bd) := rfl
    rw [z] at l
    cases l
    exact q
  · intro q
    exact ⟨_, _, _, _, rfl, e.c_Prices, e.na_Prices_bed, rfl, q⟩
def crD (K : PySem.W.Frag) (v : Int) (ps : List Int) : D := .obj (He.ga K "Crack") ["price", "places"] [.int v, .tup (nums ps)]
theorem f_crD_price (e : Fx K mg) {v : Int} {ps : List Int} {q : D → Prop} : oFld K "price" (crD K v ps) q ↔ q (.int v) := by
  constructor
  · rintro ⟨C, ns, ds, d, h, _, _, l, q⟩
    cases h
    have z : List.lookup ("price" : PySem.Str) ([("price" : PySem.Str), ("places" : PySem.Str)].zip [(.int v : D), (.tup (nums ps) : D)]) = some (.int v) := rfl
    rw [z] at l
    cases l
    exact q
  · intro q
    exact ⟨_, _, _, _, rfl, e.c_Crack, e.na_Crack_price, rfl, q⟩
theorem f_crD_places (e : Fx K mg) {v : Int} {ps : List Int} {q : D → Prop} : oFld K "places" (crD K v ps) q ↔ q (.tup (nums ps)) := by
  constructor
  · rintro ⟨C, ns, ds, d, h, _, _, l, q⟩
    cases h
    have z : List.lookup ("places" : PySem.Str) ([("price" : PySem.Str), ("places" : PySem.Str)].zip [(.int v : D), (.tup (nums ps) : D)]) = some (.tup (nums ps)) := rfl
    rw [z] at l
    cases l
    exact q
  · intro q
    exact ⟨_, _, _, _, rfl, e.c_Crack, e.na_Crack_places, rfl, q⟩
def stD (K : PySem.W.Frag) (bs : List Int) (la re : Int) : D := .obj (He.ga K "Stock") ["bricks", "lap", "reach"] [.tup (nums bs), .int la, .int re]
theorem f_stD_bricks (e : Fx K mg) {bs : List Int} {la re : Int} {q : D → Prop} : oFld K "bricks" (stD K bs la re) q ↔ q (.tup (nums bs)) := by
  constructor
  · rintro ⟨C, ns, ds, d, h, _, _, l, q⟩
    cases h
    have z : List.lookup ("bricks" : PySem.Str) ([("bricks" : PySem.Str), ("lap" : PySem.Str), ("reach" : PySem.Str)].zip [(.tup (nums bs) : D), (.int la : D), (.int re : D)]) = some (.tup (nums bs)) := rfl
    rw [z] at l
    cases l
    exact q
  · intro q
    exact ⟨_, _, _, _, rfl, e.c_Stock, e.na_Stock_bricks, rfl, q⟩
theorem f_stD_lap (e : Fx K mg) {bs : List Int} {la re : Int} {q : D → Prop} : oFld K "lap" (stD K bs la re) q ↔ q (.int la) := by
  constructor
  · rintro ⟨C, ns, ds, d, h, _, _, l, q⟩
    cases h
    have z : List.lookup ("lap" : PySem.Str) ([("bricks" : PySem.Str), ("lap" : PySem.Str), ("reach" : PySem.Str)].zip [(.tup (nums bs) : D), (.int la : D), (.int re : D)]) = some (.int la) := rfl
    rw [z] at l
    cases l
    exact q
  · intro q
    exact ⟨_, _, _, _, rfl, e.c_Stock, e.na_Stock_lap, rfl, q⟩
theorem f_stD_reach (e : Fx K mg) {bs : List Int} {la re : Int} {q : D → Prop} : oFld K "reach" (stD K bs la re) q ↔ q (.int re) := by
  constructor
  · rintro ⟨C, ns, ds, d, h, _, _, l, q⟩
    cases h
    have z : List.lookup ("reach" : PySem.Str) ([("bricks" : PySem.Str), ("lap" : PySem.Str), ("reach" : PySem.Str)].zip [(.tup (nums bs) : D), (.int la : D), (.int re : D)]) = some (.int re) := rfl
    rw [z] at l
    cases l
    exact q
  · intro q
    exact ⟨_, _, _, _, rfl, e.c_Stock, e.na_Stock_reach, rfl, q⟩
def waD (K : PySem.W.Frag) (st : D) (cs : List (List Int)) (L : Int) : D := .obj (He.ga K "Wall") ["stock", "courses", "length"] [st, .tup (cs.map fun c => .tup (nums c)), .int L]
theorem f_waD_stock (e : Fx K mg) {st : D} {cs : List (List Int)} {L : Int} {q : D → Prop} : oFld K "stock" (waD K st cs L) q ↔ q (st) := by
  constructor
  · rintro ⟨C, ns, ds, d, h, _, _, l, q⟩
    cases h
    have z : List.lookup ("stock" : PySem.Str) ([("stock" : PySem.Str), ("courses" : PySem.Str), ("length" : PySem.Str)].zip [(st : D), (.tup (cs.map fun c => .tup (nums c)) : D), (.int L : D)]) = some (st) := rfl
    rw [z] at l
    cases l
    exact q
  · intro q
    exact ⟨_, _, _, _, rfl, e.c_Wall, e.na_Wall_stock, rfl, q⟩
theorem f_waD_courses (e : Fx K mg) {st : D} {cs : List (List Int)} {L : Int} {q : D → Prop} : oFld K "courses" (waD K st cs L) q ↔ q (.tup (cs.map fun c => .tup (nums c))) := by
  constructor
  · rintro ⟨C, ns, ds, d, h, _, _, l, q⟩
    cases h
    have z : List.lookup ("courses" : PySem.Str) ([("stock" : PySem.Str), ("courses" : PySem.Str), ("length" : PySem.Str)].zip [(st : D), (.tup (cs.map fun c => .tup (nums c)) : D), (.int L : D)]) = some (.tup (cs.map fun c => .tup (nums c))) := rfl
    rw [z] at l
    cases l
    exact q
  · intro q
    exact ⟨_, _, _, _, rfl, e.c_Wall, e.na_Wall_courses, rfl, q⟩
theorem f_waD_length (e : Fx K mg) {st : D} {cs : List (List Int)} {L : Int} {q : D → Prop} : oFld K "length" (waD K st cs L) q ↔ q (.int L) := by
  constructor
  · rintro ⟨C, ns, ds, d, h, _, _, l, q⟩
    cases h
    have z : List.lookup ("length" : PySem.Str) ([("stock" : PySem.Str), ("courses" : PySem.Str), ("length" : PySem.Str)].zip [(st : D), (.tup (cs.map fun c => .tup (nums c)) : D), (.int L : D)]) = some (.int L) := rfl
    rw [z] at l
    cases l
    exact q
  · intro q
    exact ⟨_, _, _, _, rfl, e.c_Wall, e.na_Wall_length, rfl, q⟩
end
end K96
set_option Elab.async false
set_option linter.all false
set_option maxRecDepth 100000
set_option maxHeartbeats 1000000
namespace K96
open PySem PySem.Spec L2 L2R DL CM
open PyProof.Rows hiding St
section
variable {K : PySem.W.Frag} {mg : PySem.Str → Option Value}
def row (f : Nat → Int) (n : Nat) : List Int := (List.range (n + 1)).map f
def own (ns : List Int) (br : Int) (k : Nat) : Int := if ((k : Int) + 1) ∈ joints 0 ns then 0 else br
theorem row_len (f : Nat → Int) (n : Nat) : (row f n).length = n + 1 := by simp [row]
theorem row_get {f : Nat → Int} {n k : Nat} (h : k ≤ n) : (row f n)[k]? = some (f k) := by
  unfold row
  rw [List.getElem?_map, List.getElem?_range (by omega)]
  rfl
theorem row_congr {f g : Nat → Int} {n : Nat} (h : ∀ k, k ≤ n → f k = g k) : row f n = row g n := by
  unfold row
  refine List.map_congr_left fun k hk => h k ?_
  have := List.mem_range.mp hk
  omega
theorem rng_nums (lo : Int) (n : Nat) : rngD lo n = nums ((List.range n).map fun k => lo + (k : Nat)) := by
  unfold rngD nums
  rw [List.map_map]
  rfl
/-- a comprehension over numbers -/
theorem lc_nums {i : Nat} {Γ : List Sl} {td : TD} {Q : List D → Prop} {xs : List Int} (f : Int → D) (h : ∀ x ∈ xs, ∀ Qd : D → List Sl → Prop, Qd (f x) (Γ.set i (.val (.int x))) → td (Γ.set i (.val (.int x))) Qd) (hl : xs.length ≤ 16000000) (q : Q (xs.map f)) : lcL (gdName i) dYes td Γ Q (nums xs) [] := by
  refine lc_all (fun d => match d with | .int x => f x | d => d) (fun x hx Qd => ?_) (by simpa using hl) (by rw [List.map_map]; exact q)
  obtain ⟨y, hy, rfl⟩ := List.mem_map.mp hx
  exact h y hy Qd
theorem lc_rng {i : Nat} {Γ : List Sl} {td : TD} {Q : List D → Prop} {lo : Int} {n : Nat} (f : Nat → D) (h : ∀ k, k < n → ∀ Qd : D → List Sl → Prop, Qd (f k) (Γ.set i (.val (.int (lo + (k : Nat))))) → td (Γ.set i (.val (.int (lo + (k : Nat))))) Qd) (hl : n ≤ 16000000) (q : Q ((List.range n).map f)) : lcL (gdName i) dYes td Γ Q (rngD lo n) [] := by
  refine lc_all (fun d => match d with | .int x => f (x - lo).toNat | d => d) (fun x hx Qd => ?_) (by unfold rngD; simpa using hl) ?_
  · obtain ⟨k, hk, rfl⟩ := List.mem_map.mp (show x ∈ (List.range n).map fun k => D.int (lo + (k : Nat)) from hx)
    have hk := List.mem_range.mp hk
    have := h k hk Qd
    have e : (lo + (k : Nat) - lo).toNat = k := by omega
    show Qd (f (lo + (k : Nat) - lo).toNat) _ → _
    rw [e]
    exact this
  · have : (rngD lo n).map (fun d => match d with | .int x => f (x - lo).toNat | d => d) = (List.range n).map f := by
      unfold rngD
      rw [List.map_map]
      refine List.map_congr_left fun k _ => ?_
      show f (lo + (k : Nat) - lo).toNat = f k
      have e : (lo + (k : Nat) - lo).toNat = k := by omega
      rw [e]
    rw [this]
    exact q
theorem map_int (f : Nat → Int) (l : List Nat) : l.map (fun k => D.int (f k)) = nums (l.map f) := by
  unfold nums
  rw [List.map_map]
  rfl
theorem sp_place (e : Fx K mg) {ns : List Int} {br bd : Int} {n : Nat} {Q : D → Prop} (hl : ns.length ≤ 1000000) (hn : n ≤ 1000000) (q : Q (.lst (nums (row (own ns br) n)))) : p_place_prices K [.tup (nums ns), prD K br bd, .int ((n : Int) + 2)] Q := by
  refine ⟨rfl, ?_⟩
  simp only [td_place_prices, pD, pH, pI, startG, startH, startI, sNext, sSeq, sBrk, sCnt, sDrop, sRet, sRetN, sIf, sNever, sAsg, sAsgN, sPar, sAug, sApp, sFldS, sFor, dC, dVar, dOwn, d2, d2O, oI, oIC, oAdd, oSub, oMul, oFdiv, oMod, oPow, oLt, oLe, oGt, oGe, oIsN, oNotN, oIn, oNin, oIx, oCatT, dTest, dAnd, dOr, dNot, dAndV, dOrV, dNotV, dIfE, dTru, dNil, dCons, dTup, dLst, dFld, dCB, dCB1, cLen, cAbs, cInt, cMax2, cMin2, cSum, cList, cTuple, cAny, cAll, dNoPart, dPart, dSl, dRev, dTupRev, dFrz, dLstN, dListN, dPop, gdName, gdNil, gdCons, gdTup, gdSub, dCall, dIsiT, dCallH, dMeth, iSeq, iEnumD, iR1, iR2, iR3, dLcN, dLc, dYes, dNeg, dChain, items]
  simp
  refine sp_joints hl ?_
  refine ⟨_, _, ⟨rfl, rfl⟩, ⟨by omega, by omega, by omega, by omega⟩, rfl, ?_⟩
  have e1 : ((n : Int) + 2 - 1).toNat = n + 1 := by omega
  rw [e1]
  simp only [wipS, List.set_cons_succ, List.set_cons_zero]
  refine lc_rng (fun k => .int (own ns br k)) (fun k hk Qd hq => ?_) (by omega) ?_
  · simp [wipS, pD, pH, pI, startG, startH, startI, sNext, sSeq, sBrk, sCnt, sDrop, sRet, sRetN, sIf, sNever, sAsg, sAsgN, sPar, sAug, sApp, sFldS, sFor, dC, dVar, dOwn, d2, d2O, oI, oIC, oAdd, oSub, oMul, oFdiv, oMod, oPow, oLt, oLe, oGt, oGe, oIsN, oNotN, oIn, oNin, oIx, oCatT, dTest, dAnd, dOr, dNot, dAndV, dOrV, dNotV, dIfE, dTru, dNil, dCons, dTup, dLst, dFld, dCB, dCB1, cLen, cAbs, cInt, cMax2, cMin2, cSum, cList, cTuple, cAny, cAll, dNoPart, dPart, dSl, dRev, dTupRev, dFrz, dLstN, dListN, dPop, gdName, gdNil, gdCons, gdTup, gdSub, dCall, dIsiT, dCallH, dMeth, iSeq, iEnumD, iR1, iR2, iR3, dLcN, dLc, dYes, dNeg, dChain, items, f_prD_brick e]
    simp only [List.set_cons_succ, List.set_cons_zero] at hq
    refine ⟨joints 0 ns, rfl, ?_⟩
    have e2 : (1 + (k : Int)) = (k : Int) + 1 := by omega
    rw [e2] at hq ⊢
    unfold own at hq
    split
    · rename_i h
      simpa [h] using hq
    · rename_i h
      simpa [h] using hq
  · rw [map_int]
    exact q

/-! rows -/
theorem nums_len (l : List Int) : (nums l).length = l.length := by simp [nums]
theorem atI_nums {l : List Int} {i : Int} {v : Int} (h : 0 ≤ i) (h2 : l[i.toNat]? = some v) : L2.atI (nums l) i = some (.int v) := by
  have hl : i.toNat < l.length := (List.getElem?_eq_some_iff.mp h2).1
  unfold L2.atI L2.ixN
  rw [if_pos h, nums_len, if_pos (by omega)]
  show (nums l)[i.toNat]? = _
  unfold nums
  rw [List.getElem?_map, h2]
  rfl
theorem atI_row {f : Nat → Int} {n : Nat} {i : Int} (h : 0 ≤ i) (h2 : i ≤ n) : L2.atI (nums (row f n)) i = some (.int (f i.toNat)) := atI_nums h (row_get (by omega))
theorem ixN_row {f : Nat → Int} {n : Nat} {i : Int} (h : 0 ≤ i) (h2 : i ≤ n) : L2.ixN (nums (row f n)).length i = some i.toNat := by
  unfold L2.ixN
  rw [if_pos h, nums_len, row_len, if_pos (by omega)]
theorem ixN_lt {m : Nat} {i : Int} (h : 0 ≤ i) (h2 : i < m) : L2.ixN m i = some i.toNat := by
  unfold L2.ixN
  rw [if_pos h, if_pos (by omega)]
theorem set_row {f : Nat → Int} {n k : Nat} {v : Int} : (nums (row f n)).set k (.int v) = nums (row (fun i => if i = k then v else f i) n) := by
  unfold nums row
  rw [List.map_map, List.map_map]
  apply List.ext_getElem?
  intro j
  rw [List.getElem?_set, List.getElem?_map, List.getElem?_map, List.length_map, List.length_range]
  by_cases hj : j < n + 1
  · rw [List.getElem?_range hj]
    by_cases e : k = j
    · subst e
      simp [hj]
    · have : ¬ j = k := fun z => e z.symm
      simp [e, this]
  · rw [List.getElem?_eq_none (l := List.range (n + 1)) (by simpa using hj)]
    by_cases e : k = j
    · subst e
      simp [hj]
    · simp [e]
theorem rng_succ (lo : Int) (d : Nat) : rngD lo (d + 1) = .int lo :: rngD (lo + 1) d := by
  unfold rngD
  rw [List.range_succ_eq_map, List.map_cons, List.map_map]
  congr 1
  · simp
  · refine List.map_congr_left fun k _ => ?_
    show D.int (lo + ((k + 1 : Nat) : Int)) = D.int (lo + 1 + (k : Nat))
    congr 1
    omega
theorem rngC_succ (lo st : Int) (d : Nat) : rngC lo st (d + 1) = .int lo :: rngC (lo + st) st d := by
  unfold rngC
  rw [List.range_succ_eq_map, List.map_cons, List.map_map]
  congr 1
  · simp
  · refine List.map_congr_left fun k _ => ?_
    show D.int (lo + ((k + 1 : Nat) : Int) * st) = D.int (lo + st + (k : Nat) * st)
    congr 1
    have : ((k + 1 : Nat) : Int) = (k : Int) + 1 := by omega
    rw [this, Int.add_mul]
    omega
theorem lp_spread2 {W : EndsD} {A : Sl} {f : Nat → Int} {bd : Int} {n : Nat} (hb : 0 ≤ bd) (hn : n ≤ 1000000) (h : ∀ x, W.nx [A, .val (.int bd), .own (nums (row (fun k => mn (fun j => f j + bd * ab ((j : Int) - k)) n) n)), x]) :
    ∀ (d : Nat) (x : Sl), d ≤ n → forL (gdName 3) (lb_spread_sums_1 K) W (rngC ((d : Int) - 1) (-1) d) [A, .val (.int bd), .own (nums (row (fun i => if d ≤ i then bw (fw f bd) bd n (n - i) else fw f bd i) n)), x]
  | 0, x, _ => by
    have : row (fun i => if 0 ≤ i then bw (fw f bd) bd n (n - i) else fw f bd i) n = row (fun k => mn (fun j => f j + bd * ab ((j : Int) - k)) n) n := row_congr fun k hk => by
      rw [if_pos (Nat.zero_le _), spread_eq hb hk]
    rw [this]
    exact h x
  | d + 1, x, hd => by
    rw [rngC_succ]
    have e0 : (((d + 1 : Nat) : Int) - 1) = d := by omega
    rw [e0]
    simp [forL, lb_spread_sums_1, pD, pH, pI, startG, startH, startI, sNext, sSeq, sBrk, sCnt, sDrop, sRet, sRetN, sIf, sNever, sAsg, sAsgN, sPar, sAug, sApp, sFldS, sFor, dC, dVar, dOwn, d2, d2O, oI, oIC, oAdd, oSub, oMul, oFdiv, oMod, oPow, oLt, oLe, oGt, oGe, oIsN, oNotN, oIn, oNin, oIx, oCatT, dTest, dAnd, dOr, dNot, dAndV, dOrV, dNotV, dIfE, dTru, dNil, dCons, dTup, dLst, dFld, dCB, dCB1, cLen, cAbs, cInt, cMax2, cMin2, cSum, cList, cTuple, cAny, cAll, dNoPart, dPart, dSl, dRev, dTupRev, dFrz, dLstN, dListN, dPop, gdName, gdNil, gdCons, gdTup, gdSub, dCall, dIsiT, dCallH, dMeth, iSeq, iEnumD, iR1, iR2, iR3, dLcN, dLc, dYes, dNeg, dChain, items, and_assoc, row_len]
    simp (disch := omega) [atI_row, ixN_lt, set_row, and_assoc]
    have := lp_spread2 hb hn h d (.val (.int d)) (by omega)
    have e2 : (d : Int) + -1 = d - 1 := by omega
    rw [e2]
    have e3 : row (fun i => if i = d then if bw (fw f bd) bd n (n - (d + 1)) + bd < (if d + 1 ≤ d then bw (fw f bd) bd n 0 else fw f bd d) then bw (fw f bd) bd n (n - (d + 1)) + bd else if d + 1 ≤ d then bw (fw f bd) bd n 0 else fw f bd d else if d + 1 ≤ i then bw (fw f bd) bd n (n - i) else fw f bd i) n =
        row (fun i => if d ≤ i then bw (fw f bd) bd n (n - i) else fw f bd i) n := row_congr fun k hk => by
      by_cases c : k = d
      · subst c
        have e4 : n - k = n - (k + 1) + 1 := by omega
        rw [if_pos rfl, if_pos (Nat.le_refl k), if_neg (show ¬ k + 1 ≤ k by omega), e4]
        show _ = min (fw f bd (n - (n - (k + 1) + 1))) (bw (fw f bd) bd n (n - (k + 1)) + bd)
        have e5 : n - (n - (k + 1) + 1) = k := by omega
        rw [e5, Int.min_def]
        split <;> split <;> omega
      · rw [if_neg c]
        split <;> split <;> first | rfl | omega
    rw [e3]
    exact this
theorem lp_spread1 {W : EndsD} {A : Sl} {f : Nat → Int} {bd : Int} {n : Nat} (hn : n ≤ 1000000) (h : ∀ x, W.nx [A, .val (.int bd), .own (nums (row (fw f bd) n)), x]) :
    ∀ (d k : Nat) (x : Sl), k + d = n + 1 → 1 ≤ k → forL (gdName 3) (lb_spread_sums_0 K) W (rngD (k : Int) d) [A, .val (.int bd), .own (nums (row (fun i => if i < k then fw f bd i else f i) n)), x]
  | 0, k, x, hk, _ => by
    have : row (fun i => if i < k then fw f bd i else f i) n = row (fw f bd) n := row_congr fun i hi => by rw [if_pos (by omega)]
    rw [this]
    exact h x
  | d + 1, k, x, hk, h1 => by
    rw [rng_succ]
    simp [forL, lb_spread_sums_0, pD, pH, pI, startG, startH, startI, sNext, sSeq, sBrk, sCnt, sDrop, sRet, sRetN, sIf, sNever, sAsg, sAsgN, sPar, sAug, sApp, sFldS, sFor, dC, dVar, dOwn, d2, d2O, oI, oIC, oAdd, oSub, oMul, oFdiv, oMod, oPow, oLt, oLe, oGt, oGe, oIsN, oNotN, oIn, oNin, oIx, oCatT, dTest, dAnd, dOr, dNot, dAndV, dOrV, dNotV, dIfE, dTru, dNil, dCons, dTup, dLst, dFld, dCB, dCB1, cLen, cAbs, cInt, cMax2, cMin2, cSum, cList, cTuple, cAny, cAll, dNoPart, dPart, dSl, dRev, dTupRev, dFrz, dLstN, dListN, dPop, gdName, gdNil, gdCons, gdTup, gdSub, dCall, dIsiT, dCallH, dMeth, iSeq, iEnumD, iR1, iR2, iR3, dLcN, dLc, dYes, dNeg, dChain, items, and_assoc, row_len]
    simp (disch := omega) [atI_row, ixN_lt, set_row, and_assoc]
    have := lp_spread1 (W := W) hn h d (k + 1) (.val (.int k)) (by omega) (by omega)
    have e3 : row (fun i => if i = k then if (if k - 1 < k then fw f bd (k - 1) else f 0) + bd < f k then (if k - 1 < k then fw f bd (k - 1) else f 0) + bd else f k else if i < k then fw f bd i else f i) n =
        row (fun i => if i < k + 1 then fw f bd i else f i) n := row_congr fun i hi => by
      by_cases c : i = k
      · subst c
        obtain ⟨j, rfl⟩ : ∃ j, i = j + 1 := ⟨i - 1, by omega⟩
        have e4 : j + 1 - 1 = j := by omega
        rw [if_pos rfl, if_pos (by omega : j + 1 < j + 1 + 1), if_pos (by omega : j + 1 - 1 < j + 1), e4]
        show _ = min (f (j + 1)) (fw f bd j + bd)
        rw [Int.min_def]
        split <;> split <;> omega
      · rw [if_neg c]
        by_cases z : i < k
        · rw [if_pos z, if_pos (by omega)]
        · rw [if_neg z, if_neg (by omega)]
    rw [e3]
    exact this
theorem sp_spread {R : D} {f : Nat → Int} {bd : Int} {n : Nat} {Q : D → Prop} (hb : 0 ≤ bd) (hn : n ≤ 1000000) (hR : items R = some (nums (row f n))) (q : Q (.lst (nums (row (fun k => mn (fun j => f j + bd * ab ((j : Int) - k)) n) n)))) : p_spread_sums K [R, .int bd] Q := by
  refine ⟨rfl, ?_⟩
  simp only [td_spread_sums, pD, pH, pI, startG, startH, startI, sNext, sSeq, sBrk, sCnt, sDrop, sRet, sRetN, sIf, sNever, sAsg, sAsgN, sPar, sAug, sApp, sFldS, sFor, dC, dVar, dOwn, d2, d2O, oI, oIC, oAdd, oSub, oMul, oFdiv, oMod, oPow, oLt, oLe, oGt, oGe, oIsN, oNotN, oIn, oNin, oIx, oCatT, dTest, dAnd, dOr, dNot, dAndV, dOrV, dNotV, dIfE, dTru, dNil, dCons, dTup, dLst, dFld, dCB, dCB1, cLen, cAbs, cInt, cMax2, cMin2, cSum, cList, cTuple, cAny, cAll, dNoPart, dPart, dSl, dRev, dTupRev, dFrz, dLstN, dListN, dPop, gdName, gdNil, gdCons, gdTup, gdSub, dCall, dIsiT, dCallH, dMeth, iSeq, iEnumD, iR1, iR2, iR3, dLcN, dLc, dYes, dNeg, dChain, items_lst, items_tup]
  simp [dOwn, row_len, hR, items_lst]
  refine ⟨_, _, ⟨rfl, rfl⟩, ⟨by omega, by omega, by omega, by omega⟩, ?_⟩
  have e1 : ((n : Int) + 1 - 1).toNat = n := by omega
  rw [e1]
  have e7 : row (fun i => if i < 1 then fw f bd i else f i) n = row f n := row_congr fun i _ => by
    split
    · have : i = 0 := by omega
      subst this
      rfl
    · rfl
  have := lp_spread1 (K := K) (W := { nx := sSeq (sFor (iR3 (dCons (d2 oSub (dCB1 cLen (dOwn 2)) (dC (D.int 2))) (dCons (dNeg (dC (D.int 1))) (dCons (dNeg (dC (D.int 1))) dNil)))) (gdName 3) (lb_spread_sums_1 K)) (sRet (dFrz 2)) { nx := fun x => Q D.non, rt := fun d x => Q d, bk := fun x => False, ct := fun x => False }, rt := fun d x => Q d, bk := fun x => False, ct := fun x => False }) (A := .val R) (f := f) (bd := bd) hn (fun x => ?_) n 1 .un (by omega) (Nat.le_refl _)
  · rw [e7] at this
    exact this
  · have e6 : row (fw f bd) n = row (fun i => if n ≤ i then bw (fw f bd) bd n (n - i) else fw f bd i) n := row_congr fun i hi => by
      by_cases c : n ≤ i
      · have : n - i = 0 := by omega
        rw [if_pos c, this]
        have : i = n := by omega
        subst this
        rfl
      · rw [if_neg c]
    rw [e6]
    simp [sSeq, sFor, iR3, dCons, d2, oSub, oI, dCB1, cLen, dOwn, items, row_len, dC, dNeg, dNil]
    refine ⟨_, _, _, ⟨rfl, rfl, rfl⟩, n, L2.RgC.neg (i := (n : Int) + 1 - 2) (j := -1) (by omega) (by omega) (by omega) (by omega) |> fun h => ?_, ?_⟩
    · have e8 : ((n : Int) + 1 - 2 - -1).toNat = n := by omega
      rw [e8] at h
      exact h
    · have e9 : (n : Int) + 1 - 2 = n - 1 := by omega
      rw [e9]
      refine lp_spread2 (f := f) (bd := bd) hb hn (fun x => ?_) n x (Nat.le_refl _)
      simp [sRet, dFrz]
      exact q
end
end K96
set_option Elab.async false
set_option linter.all false
set_option maxRecDepth 100000
set_option maxHeartbeats 1000000
namespace K96
open PySem PySem.Spec L2 L2R DL CM
open PyProof.Rows hiding St
section
variable {K : PySem.W.Frag} {mg : PySem.Str → Option Value}
def nxt (f : Nat → Int) (bd : Int) (n : Nat) (o : Nat → Int) (k : Nat) : Int := mn (fun j => f j + bd * ab ((j : Int) - k)) n + o k
theorem sp_next (e : Fx K mg) {R : D} {f : Nat → Int} {ns : List Int} {br bd : Int} {n : Nat} {Q : D → Prop} (hb : 0 ≤ bd) (hl : ns.length ≤ 1000000) (hn : n ≤ 1000000) (hR : items R = some (nums (row f n))) (q : Q (.lst (nums (row (nxt f bd n (own ns br)) n)))) :
    p_next_sums K [R, .tup (nums ns), prD K br bd, .int ((n : Int) + 2)] Q := by
  refine ⟨rfl, ?_⟩
  simp only [td_next_sums, pD, pH, pI, startG, startH, startI, sNext, sSeq, sBrk, sCnt, sDrop, sRet, sRetN, sIf, sNever, sAsg, sAsgN, sPar, sAug, sApp, sFldS, sFor, dC, dVar, dOwn, d2, d2O, oI, oIC, oAdd, oSub, oMul, oFdiv, oMod, oPow, oLt, oLe, oGt, oGe, oIsN, oNotN, oIn, oNin, oIx, oCatT, dTest, dAnd, dOr, dNot, dAndV, dOrV, dNotV, dIfE, dTru, dNil, dCons, dTup, dLst, dFld, dCB, dCB1, cLen, cAbs, cInt, cMax2, cMin2, cSum, cList, cTuple, cAny, cAll, dNoPart, dPart, dSl, dRev, dTupRev, dFrz, dLstN, dListN, dPop, gdName, gdNil, gdCons, gdTup, gdSub, dCall, dIsiT, dCallH, dMeth, iSeq, iEnumD, iR1, iR2, iR3, dLcN, dLc, dYes, dNeg, dChain, items]
  simp [f_prD_bed e]
  refine sp_place e hl hn ?_
  refine sp_spread hb hn hR ?_
  refine ⟨_, rfl, by rw [nums_len, row_len]; omega, rfl, ?_⟩
  simp only [wipS, List.set_cons_succ, List.set_cons_zero]
  rw [nums_len, row_len]
  refine lc_rng (fun k => .int (nxt f bd n (own ns br) k)) (fun k hk Qd hq => ?_) (by omega) ?_
  · simp [pD, pH, pI, startG, startH, startI, sNext, sSeq, sBrk, sCnt, sDrop, sRet, sRetN, sIf, sNever, sAsg, sAsgN, sPar, sAug, sApp, sFldS, sFor, dC, dVar, dOwn, d2, d2O, oI, oIC, oAdd, oSub, oMul, oFdiv, oMod, oPow, oLt, oLe, oGt, oGe, oIsN, oNotN, oIn, oNin, oIx, oCatT, dTest, dAnd, dOr, dNot, dAndV, dOrV, dNotV, dIfE, dTru, dNil, dCons, dTup, dLst, dFld, dCB, dCB1, cLen, cAbs, cInt, cMax2, cMin2, cSum, cList, cTuple, cAny, cAll, dNoPart, dPart, dSl, dRev, dTupRev, dFrz, dLstN, dListN, dPop, gdName, gdNil, gdCons, gdTup, gdSub, dCall, dIsiT, dCallH, dMeth, iSeq, iEnumD, iR1, iR2, iR3, dLcN, dLc, dYes, dNeg, dChain, items]
    simp (disch := omega) [atI_row]
    simpa [nxt] using hq
  · rw [map_int]
    exact q
/-- the walls of sums, from the first course on -/
def pre : List (Nat → Int) → List (Nat → Int) → List (List (Nat → Int))
  | _, [] => []
  | acc, o :: r => (o :: acc) :: pre (o :: acc) r
def csD (cs : List (List Int)) : List D := cs.map fun c => .tup (nums c)
def rowD (bd : Int) (n : Nat) (os : List (Nat → Int)) : D := .lst (nums (row (S bd n os) n))
def rowsD (bd : Int) (n : Nat) (os : List (Nat → Int)) : List D := (pre [] os).map (rowD bd n)
theorem pre_len : ∀ (acc os : List (Nat → Int)), (pre acc os).length = os.length
  | _, [] => rfl
  | acc, o :: r => by
    show (pre (o :: acc) r).length + 1 = _
    rw [pre_len]
    rfl
theorem atI_last {α : Type} {xs : List α} {x : α} : L2.atI (xs ++ [x]) (-1) = some x := by
  unfold L2.atI L2.ixN
  rw [if_neg (by omega), if_pos (by simp; omega)]
  show (xs ++ [x])[((-1 : Int) + ((xs ++ [x]).length : Nat)).toNat]? = some x
  have : ((-1 : Int) + ((xs ++ [x]).length : Nat)).toNat = xs.length := by simp; omega
  rw [this]
  simp
theorem S_nxt {bd : Int} {n : Nat} {o o' : Nat → Int} {L : List (Nat → Int)} : row (nxt (S bd n (o' :: L)) bd n o) n = row (S bd n (o :: o' :: L)) n := row_congr fun k _ => rfl
theorem lp_sums (e : Fx K mg) {W : EndsD} {A : Sl} {br bd : Int} {n : Nat} (hb : 0 ≤ bd) (hn : n ≤ 1000000) {R : List D} (h : ∀ x, W.nx [A, .val (prD K br bd), .val (.int ((n : Int) + 2)), .own R, x]) :
    ∀ (cs : List (List Int)) (acc : List D) (o : Nat → Int) (L : List (Nat → Int)) (x : Sl), (∀ c ∈ cs, c.length ≤ 1000000) → acc.length + cs.length ≤ 1000000 → acc ++ [rowD bd n (o :: L)] ++ (pre (o :: L) (cs.map fun c => own c br)).map (rowD bd n) = R →
      forL (gdName 4) (lb_sums_through_0 K) W (csD cs) [A, .val (prD K br bd), .val (.int ((n : Int) + 2)), .own (acc ++ [rowD bd n (o :: L)]), x]
  | [], acc, o, L, x, _, _, hR => by
    simp [pre] at hR
    subst hR
    exact h x
  | c :: cs, acc, o, L, x, hc, hl, hR => by
    have ih := lp_sums e hb hn h cs (acc ++ [rowD bd n (o :: L)]) (own c br) (o :: L) (.val (.tup (nums c))) (fun c hc' => hc c (List.mem_cons_of_mem _ hc')) (by simp at hl ⊢; omega) (by simpa [pre] using hR)
    show gdName 4 (.tup (nums c)) _ _
    simp [gdName, lb_sums_through_0, pD, pH, pI, startG, startH, startI, sNext, sSeq, sBrk, sCnt, sDrop, sRet, sRetN, sIf, sNever, sAsg, sAsgN, sPar, sAug, sApp, sFldS, sFor, dC, dVar, dOwn, d2, d2O, oI, oIC, oAdd, oSub, oMul, oFdiv, oMod, oPow, oLt, oLe, oGt, oGe, oIsN, oNotN, oIn, oNin, oIx, oCatT, dTest, dAnd, dOr, dNot, dAndV, dOrV, dNotV, dIfE, dTru, dNil, dCons, dTup, dLst, dFld, dCB, dCB1, cLen, cAbs, cInt, cMax2, cMin2, cSum, cList, cTuple, cAny, cAll, dNoPart, dPart, dSl, dRev, dTupRev, dFrz, dLstN, dListN, dPop, gdName, gdNil, gdCons, gdTup, gdSub, dCall, dIsiT, dCallH, dMeth, iSeq, iEnumD, iR1, iR2, iR3, dLcN, dLc, dYes, dNeg, dChain, items, atI_last]
    refine sp_next e hb (hc c (List.mem_cons_self ..)) hn rfl ?_
    refine ⟨by simp at hl; omega, ?_⟩
    rw [S_nxt]
    simp [rowD] at ih
    exact ih
theorem sp_sums (e : Fx K mg) {cs : List (List Int)} {br bd : Int} {n : Nat} {Q : D → Prop} (hb : 0 ≤ bd) (hc : ∀ c ∈ cs, c.length ≤ 1000000) (hn : n ≤ 1000000) (h0 : cs ≠ []) (hl : cs.length ≤ 1000000) (q : Q (.lst (rowsD bd n (cs.map fun c => own c br)))) :
    p_sums_through K [.tup (csD cs), prD K br bd, .int ((n : Int) + 2)] Q := by
  cases cs with
  | nil => exact absurd rfl h0
  | cons c cs =>
    refine ⟨rfl, ?_⟩
    simp only [td_sums_through, pD, pH, pI, startG, startH, startI, sNext, sSeq, sBrk, sCnt, sDrop, sRet, sRetN, sIf, sNever, sAsg, sAsgN, sPar, sAug, sApp, sFldS, sFor, dC, dVar, dOwn, d2, d2O, oI, oIC, oAdd, oSub, oMul, oFdiv, oMod, oPow, oLt, oLe, oGt, oGe, oIsN, oNotN, oIn, oNin, oIx, oCatT, dTest, dAnd, dOr, dNot, dAndV, dOrV, dNotV, dIfE, dTru, dNil, dCons, dTup, dLst, dFld, dCB, dCB1, cLen, cAbs, cInt, cMax2, cMin2, cSum, cList, cTuple, cAny, cAll, dNoPart, dPart, dSl, dRev, dTupRev, dFrz, dLstN, dListN, dPop, gdName, gdNil, gdCons, gdTup, gdSub, dCall, dIsiT, dCallH, dMeth, iSeq, iEnumD, iR1, iR2, iR3, dLcN, dLc, dYes, dNeg, dChain, items]
    have z : L2.atI (csD (c :: cs)) 0 = some (.tup (nums c)) := by simp [L2.atI, L2.ixN, csD] <;> omega
    simp [z]
    refine sp_place e (hc c (List.mem_cons_self ..)) hn ?_
    rw [cut_tail]
    exact lp_sums e hb hn (R := rowsD bd n ((c :: cs).map fun c => own c br)) (fun x => by simp [sRet, dFrz]; exact q) cs [] (own c br) [] .un (fun d hd => hc d (List.mem_cons_of_mem _ hd)) (by simp at hl ⊢; omega) rfl
end
end K96
set_option Elab.async false
set_option linter.all false
set_option maxRecDepth 100000
set_option maxHeartbeats 1000000
namespace K96
open PySem PySem.Spec L2 L2R DL CM
open PyProof.Rows hiding St
section
variable {K : PySem.W.Frag} {mg : PySem.Str → Option Value}
theorem sp_long {L : Int} {Q : D → Prop} (h : 2 ≤ L) (q : Q .non) : p_check_long K [.int L] Q := by
  refine ⟨rfl, ?_⟩
  have : ¬ L < 2 := by omega
  simp [td_check_long, pD, pH, pI, startG, startH, startI, sNext, sSeq, sBrk, sCnt, sDrop, sRet, sRetN, sIf, sNever, sAsg, sAsgN, sPar, sAug, sApp, sFldS, sFor, dC, dVar, dOwn, d2, d2O, oI, oIC, oAdd, oSub, oMul, oFdiv, oMod, oPow, oLt, oLe, oGt, oGe, oIsN, oNotN, oIn, oNin, oIx, oCatT, dTest, dAnd, dOr, dNot, dAndV, dOrV, dNotV, dIfE, dTru, dNil, dCons, dTup, dLst, dFld, dCB, dCB1, cLen, cAbs, cInt, cMax2, cMin2, cSum, cList, cTuple, cAny, cAll, dNoPart, dPart, dSl, dRev, dTupRev, dFrz, dLstN, dListN, dPop, gdName, gdNil, gdCons, gdTup, gdSub, dCall, dIsiT, dCallH, dMeth, iSeq, iEnumD, iR1, iR2, iR3, dLcN, dLc, dYes, dNeg, dChain, items, q]
  omega
def numsD (bd : Int) (n : Nat) (os : List (Nat → Int)) : List D := (pre [] os).map fun l => .tup (nums (row (S bd n l) n))
theorem sp_numbers (e : Fx K mg) {st : D} {cs : List (List Int)} {br bd : Int} {n : Nat} {Q : D → Prop} (hb : 0 ≤ bd) (hc : ∀ c ∈ cs, c.length ≤ 1000000) (hn : n ≤ 1000000) (h0 : cs ≠ []) (hl : cs.length ≤ 1000000) (q : Q (.tup (numsD bd n (cs.map fun c => own c br)))) :
    p_floor_numbers K [waD K st cs ((n : Int) + 2), prD K br bd] Q := by
  refine ⟨rfl, ?_⟩
  simp only [td_floor_numbers, pD, pH, pI, startG, startH, startI, sNext, sSeq, sBrk, sCnt, sDrop, sRet, sRetN, sIf, sNever, sAsg, sAsgN, sPar, sAug, sApp, sFldS, sFor, dC, dVar, dOwn, d2, d2O, oI, oIC, oAdd, oSub, oMul, oFdiv, oMod, oPow, oLt, oLe, oGt, oGe, oIsN, oNotN, oIn, oNin, oIx, oCatT, dTest, dAnd, dOr, dNot, dAndV, dOrV, dNotV, dIfE, dTru, dNil, dCons, dTup, dLst, dFld, dCB, dCB1, cLen, cAbs, cInt, cMax2, cMin2, cSum, cList, cTuple, cAny, cAll, dNoPart, dPart, dSl, dRev, dTupRev, dFrz, dLstN, dListN, dPop, gdName, gdNil, gdCons, gdTup, gdSub, dCall, dIsiT, dCallH, dMeth, iSeq, iEnumD, iR1, iR2, iR3, dLcN, dLc, dYes, dNeg, dChain, items]
  simp [f_waD_length e, f_waD_courses e]
  refine sp_long (by omega) ?_
  refine sp_sums e hb hc hn h0 hl ?_
  refine ⟨_, rfl, rfl, ?_⟩
  simp only [wipS, List.set_cons_succ, List.set_cons_zero]
  refine lc_all (fun d => match d with | .lst xs => .tup xs | d => d) (fun x hx Qd hq => ?_) (by simp [rowsD, pre_len]; omega) ?_
  · obtain ⟨l, _, rfl⟩ := List.mem_map.mp hx
    simp [pD, pH, pI, startG, startH, startI, sNext, sSeq, sBrk, sCnt, sDrop, sRet, sRetN, sIf, sNever, sAsg, sAsgN, sPar, sAug, sApp, sFldS, sFor, dC, dVar, dOwn, d2, d2O, oI, oIC, oAdd, oSub, oMul, oFdiv, oMod, oPow, oLt, oLe, oGt, oGe, oIsN, oNotN, oIn, oNin, oIx, oCatT, dTest, dAnd, dOr, dNot, dAndV, dOrV, dNotV, dIfE, dTru, dNil, dCons, dTup, dLst, dFld, dCB, dCB1, cLen, cAbs, cInt, cMax2, cMin2, cSum, cList, cTuple, cAny, cAll, dNoPart, dPart, dSl, dRev, dTupRev, dFrz, dLstN, dListN, dPop, gdName, gdNil, gdCons, gdTup, gdSub, dCall, dIsiT, dCallH, dMeth, iSeq, iEnumD, iR1, iR2, iR3, dLcN, dLc, dYes, dNeg, dChain, items, rowD]
    exact hq
  · have : (rowsD bd n (cs.map fun c => own c br)).map (fun d => match d with | .lst xs => .tup xs | d => d) = numsD bd n (cs.map fun c => own c br) := by
      unfold rowsD numsD
      rw [List.map_map]
      rfl
    rw [this]
    exact q
theorem sp_Crack (e : Fx K mg) {v : Int} {ps : List Int} {Q : D → Prop} (q : Q (crD K v ps)) : p_Crack_init K [.int v, .tup (nums ps)] Q := by
  refine ⟨rfl, ?_⟩
  have h1 := e.na_Crack_price
  have h2 := e.na_Crack_places
  have h3 := e.c_Crack
  simp [td_Crack_init, pD, pH, pI, startG, startH, startI, sNext, sSeq, sBrk, sCnt, sDrop, sRet, sRetN, sIf, sNever, sAsg, sAsgN, sPar, sAug, sApp, sFldS, sFor, dC, dVar, dOwn, d2, d2O, oI, oIC, oAdd, oSub, oMul, oFdiv, oMod, oPow, oLt, oLe, oGt, oGe, oIsN, oNotN, oIn, oNin, oIx, oCatT, dTest, dAnd, dOr, dNot, dAndV, dOrV, dNotV, dIfE, dTru, dNil, dCons, dTup, dLst, dFld, dCB, dCB1, cLen, cAbs, cInt, cMax2, cMin2, cSum, cList, cTuple, cAny, cAll, dNoPart, dPart, dSl, dRev, dTupRev, dFrz, dLstN, dListN, dPop, gdName, gdNil, gdCons, gdTup, gdSub, dCall, dIsiT, dCallH, dMeth, iSeq, iEnumD, iR1, iR2, iR3, dLcN, dLc, dYes, dNeg, dChain, items, h1, h2, h3, and_assoc]
  exact ⟨by decide, q⟩
theorem first_ix {f : Nat → Int} {m : Int} : ∀ n : Nat, (∃ j, j ≤ n ∧ f j = m) → ∃ j, j ≤ n ∧ f j = m ∧ ∀ k, k < j → f k ≠ m
  | 0, ⟨j, h1, h2⟩ => ⟨j, h1, h2, fun k hk => by omega⟩
  | n + 1, ⟨j, h1, h2⟩ => by
    by_cases c : ∃ j, j ≤ n ∧ f j = m
    · obtain ⟨i, a, b, d⟩ := first_ix n c
      exact ⟨i, by omega, b, d⟩
    · refine ⟨j, h1, h2, fun k hk z => c ⟨k, by omega, z⟩⟩
theorem index_row {f : Nat → Int} {n : Nat} {m : Int} {P : Nat → Prop} (h : ∃ j, j ≤ n ∧ f j = m) (q : ∀ j : Nat, j ≤ n → f j = m → P j) :
    ∃ (k : Int) (j : Nat), (D.int m) = .int k ∧ (row f n)[j]? = some k ∧ (∀ i, i < j → (row f n)[i]? ≠ some k) ∧ P j := by
  obtain ⟨j, a, b, c⟩ := first_ix n h
  refine ⟨m, j, rfl, by rw [row_get a, b], fun i hi z => ?_, q j a b⟩
  rw [row_get (by omega)] at z
  exact c i hi (Option.some.inj z)
theorem min_row {f : Nat → Int} {n : Nat} {P : D → Prop} (q : P (.int (mn f n))) : cMinL [.lst (nums (row f n))] P := by
  refine ⟨row f n, rfl, by rw [row_len]; omega, fun m hm hle => ?_⟩
  obtain ⟨j, hj, rfl⟩ := List.mem_map.mp (show m ∈ (List.range (n + 1)).map f from hm)
  have hj := List.mem_range.mp hj
  have : mn f n = f j := mn_eq ⟨j, by omega, rfl⟩ fun i hi => hle _ (List.mem_map.mpr ⟨i, List.mem_range.mpr (by omega), rfl⟩)
  rw [← this]
  exact q
theorem pre_get : ∀ {acc os : List (Nat → Int)} {i : Nat}, i < os.length → (pre acc os)[i]? = some ((os.take (i + 1)).reverse ++ acc)
  | _, [], _, h => by simp at h
  | acc, o :: r, 0, _ => by simp [pre]
  | acc, o :: r, i + 1, h => by
    show (pre (o :: acc) r)[i]? = _
    rw [pre_get (by simpa using h)]
    simp
theorem rowsD_len (bd : Int) (n : Nat) (os : List (Nat → Int)) : (rowsD bd n os).length = os.length := by unfold rowsD; rw [List.length_map, pre_len]
theorem atI_nat {α : Type} {xs : List α} {i : Int} {x : α} (h : 0 ≤ i) (h2 : xs[i.toNat]? = some x) : L2.atI xs i = some x := by
  have hl : i.toNat < xs.length := (List.getElem?_eq_some_iff.mp h2).1
  unfold L2.atI L2.ixN
  rw [if_pos h, if_pos (by omega)]
  exact h2
theorem atI_rows {bd : Int} {n i : Nat} {os : List (Nat → Int)} (h : i < os.length) : L2.atI (rowsD bd n os) (i : Int) = some (rowD bd n (os.take (i + 1)).reverse) := by
  refine atI_nat (by omega) ?_
  show (rowsD bd n os)[i]? = _
  unfold rowsD
  rw [List.getElem?_map, pre_get h]
  simp
theorem atI_rows_last {bd : Int} {n : Nat} {os : List (Nat → Int)} (h : os ≠ []) : L2.atI (rowsD bd n os) (-1) = some (rowD bd n os.reverse) := by
  have hl : 0 < os.length := List.length_pos_iff.mpr h
  unfold L2.atI L2.ixN
  rw [if_neg (by omega), if_pos (by rw [rowsD_len]; omega), rowsD_len]
  have e : ((-1 : Int) + (os.length : Nat)).toNat = os.length - 1 := by omega
  show (rowsD bd n os)[((-1 : Int) + (os.length : Nat)).toNat]? = _
  rw [e]
  unfold rowsD
  rw [List.getElem?_map, pre_get (by omega)]
  have : os.length - 1 + 1 = os.length := by omega
  rw [this, List.take_length]
  simp
/-- places as the program counts them -/
def plc (ps : List Nat) : List Int := ps.map fun p : Nat => (p : Int) + 1
theorem lp_traced (e : Fx K mg) {W : EndsD} {os : List (Nat → Int)} {br bd : Int} {n : Nat} {at_ : Nat} (hb : 0 ≤ bd ∧ bd ≤ 1000000) (hn : n ≤ 1000000)
    (h : ∀ (r : List Nat) (x y z u : Sl), Path n os.length r → r.head? = some at_ → cost bd os.reverse r = S bd n os.reverse at_ → W.nx [.val (.lst (rowsD bd n os)), .val (prD K br bd), x, .own (nums (plc r)), y, z, u, .un]) :
    ∀ (d : Nat) (r : List Nat) (p : Nat) (y z u : Sl), d < os.length → r.length + 1 + d = os.length → os.length ≤ 1000000 → (∀ q ∈ r ++ [p], q ≤ n) → (r ++ [p]).head? = some at_ →
      (∀ ps, Path n (d + 1) (p :: ps) → cost bd (os.take (d + 1)).reverse (p :: ps) = S bd n (os.take (d + 1)).reverse p → cost bd os.reverse (r ++ p :: ps) = S bd n os.reverse at_) →
      forL (gdName 4) (lb_traced_places_0 K) W (rngC ((d : Int) - 1) (-1) d) [.val (.lst (rowsD bd n os)), .val (prD K br bd), .val (.int p), .own (nums (plc (r ++ [p]))), y, z, u, .un]
  | 0, r, p, y, z, u, hd, hl, _, hq, hh, inv => by
    refine h (r ++ [p]) _ _ _ _ ⟨by simp; omega, hq⟩ hh ?_
    have := inv [] ⟨rfl, fun q hq' => hq q (by simp at hq' ⊢; simp [hq'])⟩ (by
      cases os with
      | nil => simp at hd
      | cons o os => rfl)
    exact this
  | d + 1, r, p, y, z, u, hd, hl, hm, hq, hh, inv => by
    rw [rngC_succ]
    have e0 : (((d + 1 : Nat) : Int) - 1) = d := by omega
    rw [e0]
    have z1 := atI_rows (bd := bd) (n := n) (show d < os.length by omega)
    obtain ⟨o, o', L, e1, e2⟩ : ∃ o o' L, (os.take (d + 1 + 1)).reverse = o :: o' :: L ∧ (os.take (d + 1)).reverse = o' :: L := by
      have q1 : os.take (d + 1 + 1) = os.take (d + 1) ++ [os[d + 1]] := by rw [List.take_append_getElem]
      have q2 : os.take (d + 1) = os.take d ++ [os[d]] := by rw [List.take_append_getElem]
      refine ⟨os[d + 1], os[d], (os.take d).reverse, ?_, ?_⟩
      · rw [q1, q2]
        simp
      · rw [q2]
        simp
    simp [forL, gdName, lb_traced_places_0, pD, pH, pI, startG, startH, startI, sNext, sSeq, sBrk, sCnt, sDrop, sRet, sRetN, sIf, sNever, sAsg, sAsgN, sPar, sAug, sApp, sFldS, sFor, dC, dVar, dOwn, d2, d2O, oI, oIC, oAdd, oSub, oMul, oFdiv, oMod, oPow, oLt, oLe, oGt, oGe, oIsN, oNotN, oIn, oNin, oIx, oCatT, dTest, dAnd, dOr, dNot, dAndV, dOrV, dNotV, dIfE, dTru, dNil, dCons, dTup, dLst, dFld, dCB, dCB1, cLen, cAbs, cInt, cMax2, cMin2, cSum, cList, cTuple, cAny, cAll, dNoPart, dPart, dSl, dRev, dTupRev, dFrz, dLstN, dListN, dPop, gdName, gdNil, gdCons, gdTup, gdSub, dCall, dIsiT, dCallH, dMeth, iSeq, iEnumD, iR1, iR2, iR3, dLcN, dLc, dYes, dNeg, dChain, items, z1, rowD]
    refine ⟨by rw [row_len]; omega, rfl, ?_⟩
    simp only [wipS, List.set_cons_succ, List.set_cons_zero]
    rw [row_len, e2]
    refine lc_rng (fun k => .int (S bd n (o' :: L) k + bd * ab ((k : Int) - p))) (fun k hk Qd hq => ?_) (by omega) ?_
    · simp [pD, pH, pI, startG, startH, startI, sNext, sSeq, sBrk, sCnt, sDrop, sRet, sRetN, sIf, sNever, sAsg, sAsgN, sPar, sAug, sApp, sFldS, sFor, dC, dVar, dOwn, d2, d2O, oI, oIC, oAdd, oSub, oMul, oFdiv, oMod, oPow, oLt, oLe, oGt, oGe, oIsN, oNotN, oIn, oNin, oIx, oCatT, dTest, dAnd, dOr, dNot, dAndV, dOrV, dNotV, dIfE, dTru, dNil, dCons, dTup, dLst, dFld, dCB, dCB1, cLen, cAbs, cInt, cMax2, cMin2, cSum, cList, cTuple, cAny, cAll, dNoPart, dPart, dSl, dRev, dTupRev, dFrz, dLstN, dListN, dPop, gdName, gdNil, gdCons, gdTup, gdSub, dCall, dIsiT, dCallH, dMeth, iSeq, iEnumD, iR1, iR2, iR3, dLcN, dLc, dYes, dNeg, dChain, items, f_prD_bed e, and_assoc]
      simp (disch := omega) [atI_row, and_assoc]
      refine ⟨.inl ⟨by omega, by omega⟩, ?_⟩
      simpa [ab] using hq
    · rw [map_int]
      have hmin := mn_get (fun k => S bd n (o' :: L) k + bd * ab ((k : Int) - p)) n
      obtain ⟨j0, hj0, hj1⟩ := hmin
      refine ⟨_, rfl, row (fun k => S bd n (o' :: L) k + bd * ab ((k : Int) - p)) n, rfl, ?_⟩
      refine ⟨_, rfl, min_row ?_⟩
      refine index_row (f := fun k => S bd n (o' :: L) k + bd * ab ((k : Int) - p)) ⟨j0, hj0, hj1.symm⟩ fun j hj hj2 => ?_
      have ih := lp_traced e hb hn h d (r ++ [p]) j (.val (.int d)) (.val (rowD bd n (o' :: L))) (.val (.lst (nums (row (fun k => S bd n (o' :: L) k + bd * ab ((k : Int) - p)) n)))) (by omega) (by simp; omega) hm (fun q hq' => by
        rcases List.mem_append.mp hq' with z | z
        · exact hq q z
        · simp at z
          omega) (by
        cases r with
        | nil => simpa using hh
        | cons a r => simpa using hh) (fun ps hps hc => by
        have := inv (j :: ps) ⟨by have := hps.1; simp at this ⊢; omega, fun q hq' => by
          rcases List.mem_cons.mp hq' with z | z
          · rw [z]
            exact hq p (by simp)
          · exact hps.2 q z⟩ (by
          rw [e2] at hc
          rw [e1]
          show o p + bd * ab ((j : Int) - p) + cost bd (o' :: L) (j :: ps) = mn (fun i => S bd n (o' :: L) i + bd * ab ((i : Int) - p)) n + o p
          rw [hc, ← hj2]
          omega)
        simpa using this)
      simp [plc, row, rowD] at ih ⊢
      refine ⟨by omega, ?_⟩
      have e9 : (d : Int) + -1 = d - 1 := by omega
      rw [e9]
      exact ih
theorem sp_traced (e : Fx K mg) {os : List (Nat → Int)} {br bd : Int} {n at_ : Nat} {Q : D → Prop} (hb : 0 ≤ bd ∧ bd ≤ 1000000) (hn : n ≤ 1000000) (h0 : os ≠ []) (hl : os.length ≤ 1000000) (ha : at_ ≤ n)
    (q : ∀ r : List Nat, Path n os.length r → r.head? = some at_ → cost bd os.reverse r = S bd n os.reverse at_ → Q (.tup (nums (plc r.reverse)))) : p_traced_places K [.lst (rowsD bd n os), prD K br bd, .int (at_ : Nat)] Q := by
  refine ⟨rfl, ?_⟩
  have hl0 : 0 < os.length := List.length_pos_iff.mpr h0
  simp only [td_traced_places, pD, pH, pI, startG, startH, startI, sNext, sSeq, sBrk, sCnt, sDrop, sRet, sRetN, sIf, sNever, sAsg, sAsgN, sPar, sAug, sApp, sFldS, sFor, dC, dVar, dOwn, d2, d2O, oI, oIC, oAdd, oSub, oMul, oFdiv, oMod, oPow, oLt, oLe, oGt, oGe, oIsN, oNotN, oIn, oNin, oIx, oCatT, dTest, dAnd, dOr, dNot, dAndV, dOrV, dNotV, dIfE, dTru, dNil, dCons, dTup, dLst, dFld, dCB, dCB1, cLen, cAbs, cInt, cMax2, cMin2, cSum, cList, cTuple, cAny, cAll, dNoPart, dPart, dSl, dRev, dTupRev, dFrz, dLstN, dListN, dPop, gdName, gdNil, gdCons, gdTup, gdSub, dCall, dIsiT, dCallH, dMeth, iSeq, iEnumD, iR1, iR2, iR3, dLcN, dLc, dYes, dNeg, dChain, items]
  simp [rowsD_len]
  refine ⟨_, _, _, ⟨rfl, rfl, rfl⟩, os.length - 1, ?_, ?_⟩
  · have h := L2.RgC.neg (i := (os.length : Int) - 2) (j := -1) (by omega) (by omega) (by omega) (by omega)
    have e8 : ((os.length : Int) - 2 - -1).toNat = os.length - 1 := by omega
    rw [e8] at h
    exact h
  · have e9 : (os.length : Int) - 2 = ((os.length - 1 : Nat) : Int) - 1 := by omega
    rw [e9]
    refine lp_traced e (at_ := at_) hb hn (fun r x y z u h1 h2 h3 => ?_) (os.length - 1) [] at_ .un .un .un (by omega) (by simp; omega) hl (fun q hq => by simp at hq; omega) rfl (fun ps hps hc => ?_)
    · simp [sRet, dTupRev, dOwn, items]
      have := q r h1 h2 h3
      simpa [plc] using this
    · have : os.length - 1 + 1 = os.length := by omega
      rw [this, List.take_length] at hc
      exact hc
theorem sp_least (e : Fx K mg) {st : D} {cs : List (List Int)} {br bd : Int} {n : Nat} {Q : D → Prop} (hb : 0 ≤ bd ∧ bd ≤ 1000000) (hc : ∀ c ∈ cs, c.length ≤ 1000000) (hn : n ≤ 1000000) (h0 : cs ≠ []) (hl : cs.length ≤ 1000000)
    (q : ∀ (v : Int) (ps : List Nat), Path n cs.length ps → cost bd (cs.map fun c => own c br) ps = v → v = mn (S bd n (cs.map fun c => own c br).reverse) n → Q (crD K v (plc ps))) :
    p_least_crack K [waD K st cs ((n : Int) + 2), prD K br bd] Q := by
  refine ⟨rfl, ?_⟩
  simp only [td_least_crack, pD, pH, pI, startG, startH, startI, sNext, sSeq, sBrk, sCnt, sDrop, sRet, sRetN, sIf, sNever, sAsg, sAsgN, sPar, sAug, sApp, sFldS, sFor, dC, dVar, dOwn, d2, d2O, oI, oIC, oAdd, oSub, oMul, oFdiv, oMod, oPow, oLt, oLe, oGt, oGe, oIsN, oNotN, oIn, oNin, oIx, oCatT, dTest, dAnd, dOr, dNot, dAndV, dOrV, dNotV, dIfE, dTru, dNil, dCons, dTup, dLst, dFld, dCB, dCB1, cLen, cAbs, cInt, cMax2, cMin2, cSum, cList, cTuple, cAny, cAll, dNoPart, dPart, dSl, dRev, dTupRev, dFrz, dLstN, dListN, dPop, gdName, gdNil, gdCons, gdTup, gdSub, dCall, dIsiT, dCallH, dMeth, iSeq, iEnumD, iR1, iR2, iR3, dLcN, dLc, dYes, dNeg, dChain, items]
  simp [f_waD_length e, f_waD_courses e]
  refine sp_long (by omega) ?_
  refine sp_sums e hb.1 hc hn h0 hl ?_
  have h0' : (cs.map fun c => own c br) ≠ [] := by simpa using h0
  have z := atI_rows_last (bd := bd) (n := n) h0'
  refine ⟨_, rfl, _, z, min_row ?_⟩
  obtain ⟨j0, hj0, hj1⟩ := mn_get (S bd n (cs.map fun c => own c br).reverse) n
  refine ⟨_, rfl, _, rfl, _, _, _, rfl, rfl, z, _, rfl, _, rfl, ?_⟩
  refine index_row (f := S bd n (cs.map fun c => own c br).reverse) ⟨j0, hj0, hj1.symm⟩ fun j hj hj2 => ?_
  refine sp_traced e hb hn h0' (by simpa using hl) hj fun r h1 h2 h3 => ?_
  refine sp_Crack e (q _ _ ⟨by have := h1.1; simpa using this, fun p hp => h1.2 p (List.mem_reverse.mp hp)⟩ ?_ rfl)
  have := cost_rev bd (cs.map fun c => own c br).reverse r (by rw [List.length_reverse]; exact h1.1.symm)
  rw [List.reverse_reverse] at this
  rw [this, h3, hj2]
end
end K96
set_option Elab.async false
set_option linter.all false
set_option maxRecDepth 100000
set_option maxHeartbeats 1000000
namespace K96
open PySem PySem.Spec L2 L2R DL CM
open PyProof.Rows hiding St
section
variable {K : PySem.W.Frag} {mg : PySem.Str → Option Value}
/-! data that == compares -/
structure Shp (k : Nat) (d : D) : Prop where
  p : DL.plain d = true
  l : (toP d).canLay0 = true
  d : (toP d).depth ≤ k
theorem shp_int (k : Nat) (i : Int) : Shp k (.int i) := by
  refine ⟨by unfold DL.plain; rfl, by unfold toP PyData.canLay0; rfl, ?_⟩
  unfold toP PyData.depth
  exact Nat.zero_le _
theorem shps {k : Nat} : ∀ {ds : List D}, (∀ d ∈ ds, Shp k d) → plains ds = true ∧ PyData.canLayAll0 (toPs ds) = true ∧ PyData.depthAll (toPs ds) ≤ k
  | [], _ => by
    refine ⟨by unfold plains; rfl, by unfold toPs PyData.canLayAll0; rfl, ?_⟩
    unfold toPs PyData.depthAll
    exact Nat.zero_le _
  | d :: ds, h => by
    obtain ⟨a, b, c⟩ := shps fun x hx => h x (List.mem_cons_of_mem _ hx)
    obtain ⟨a', b', c'⟩ := h d (List.mem_cons_self ..)
    refine ⟨?_, ?_, ?_⟩
    · unfold plains
      rw [a', a] <;> rfl
    · unfold toPs PyData.canLayAll0
      rw [b', b] <;> rfl
    · unfold toPs PyData.depthAll
      omega
theorem shp_tup {k : Nat} {ds : List D} (h : ∀ d ∈ ds, Shp k d) : Shp (k + 1) (.tup ds) := by
  obtain ⟨a, b, c⟩ := shps h
  refine ⟨?_, ?_, ?_⟩
  · unfold DL.plain
    exact a
  · unfold toP PyData.canLay0
    exact b
  · unfold toP PyData.depth
    omega
theorem shp_lst {k : Nat} {ds : List D} (h : ∀ d ∈ ds, Shp k d) : Shp (k + 1) (.lst ds) := by
  obtain ⟨a, b, c⟩ := shps h
  refine ⟨?_, ?_, ?_⟩
  · unfold DL.plain
    exact a
  · unfold toP PyData.canLay0
    exact b
  · unfold toP PyData.depth
    omega
theorem Shp.shp {k : Nat} {d : D} (h : Shp k d) (hk : k ≤ 64 := by omega) : shp d := ⟨h.p, Bool.and_eq_true_iff.mpr ⟨h.l, decide_eq_true (Nat.le_trans h.d hk)⟩⟩
theorem shp_nums (k : Nat) (l : List Int) : ∀ d ∈ nums l, Shp k d := fun d hd => by
  obtain ⟨i, _, rfl⟩ := List.mem_map.mp hd
  exact shp_int k i
mutual
theorem eqv_refl : ∀ d : D, DL.plain d = true → PyData.eqv (toP d) (toP d) = true
  | .non, _ => by unfold toP PyData.eqv; rfl
  | .bl b, _ => by unfold toP PyData.eqv; simp
  | .int i, _ => by unfold toP PyData.eqv; simp
  | .str _, h => by unfold DL.plain at h; cases h
  | .ty _, h => by unfold DL.plain at h; cases h
  | .cls _, h => by unfold DL.plain at h; cases h
  | .obj _ _ _, h => by unfold DL.plain at h; cases h
  | .lst xs, h => by
    unfold DL.plain at h
    unfold toP PyData.eqv
    exact eqvs_refl xs h
  | .tup xs, h => by
    unfold DL.plain at h
    unfold toP PyData.eqv
    exact eqvs_refl xs h
theorem eqvs_refl : ∀ ds : List D, plains ds = true → PyData.eqvAll (toPs ds) (toPs ds) = true
  | [], _ => by unfold toPs PyData.eqvAll; rfl
  | d :: ds, h => by
    unfold plains at h
    obtain ⟨a, b⟩ := Bool.and_eq_true_iff.mp h
    unfold toPs PyData.eqvAll
    rw [eqv_refl d a, eqvs_refl ds b] <;> rfl
end
theorem oEq_refl {d : D} {q : D → Prop} (h : shp d) (hq : q (.bl true)) : oEq d d q := ⟨h, h, by
  have : eqD d d = true := eqv_refl d h.1
  rw [this]
  exact hq⟩
theorem oNe_refl {d : D} {q : D → Prop} (h : shp d) (hq : q (.bl false)) : oNe d d q := ⟨h, h, by
  have : eqD d d = true := eqv_refl d h.1
  rw [this]
  exact hq⟩
theorem oEq_int {a b : Int} {q : D → Prop} : oEq (.int a) (.int b) q ↔ q (.bl (decide (a = b))) := by
  have e : eqD (.int a) (.int b) = decide (a = b) := by
    unfold eqD toP PyData.eqv
    by_cases h : a = b
    · subst h
      simp
    · simp [h]
  constructor
  · rintro ⟨_, _, h⟩
    rw [e] at h
    exact h
  · intro h
    exact ⟨(shp_int 0 a).shp, (shp_int 0 b).shp, by rw [e]; exact h⟩
theorem oNe_int {a b : Int} {q : D → Prop} : oNe (.int a) (.int b) q ↔ q (.bl (!decide (a = b))) := by
  have e : eqD (.int a) (.int b) = decide (a = b) := by
    unfold eqD toP PyData.eqv
    by_cases h : a = b
    · subst h
      simp
    · simp [h]
  constructor
  · rintro ⟨_, _, h⟩
    rw [e] at h
    exact h
  · intro h
    exact ⟨(shp_int 0 a).shp, (shp_int 0 b).shp, by rw [e]; exact h⟩
/-! isinstance -/
theorem isi_int_bool {i : Int} {b : Bool} : Isi K (.int i) (.ty "bool") b ↔ b = false := by
  have e : PySem.W.kitOne K (.type "int") (.type "bool") = some false := kit_ty (by decide +kernel)
  constructor
  · intro h
    cases h with
    | ty h1 h2 =>
      rw [show _ = _ from h1, e] at h2
      exact (Option.some.inj h2).symm
  · rintro rfl
    exact .ty (show _ = _ from rfl) e
theorem isi_int_int {i : Int} {b : Bool} : Isi K (.int i) (.ty "int") b ↔ b = true := by
  have e : PySem.W.kitOne K (.type "int") (.type "int") = some true := kit_ty (by decide +kernel)
  constructor
  · intro h
    cases h with
    | ty h1 h2 =>
      rw [show _ = _ from h1, e] at h2
      exact (Option.some.inj h2).symm
  · rintro rfl
    exact .ty (show _ = _ from rfl) e
theorem isiT_seq {d : D} {xs : List D} (h : items d = some xs) : IsiT K ["list", "tuple"] d true := by
  cases d with
  | lst ys => exact ⟨.type "list", rfl, kitAny_cons (b := true) (kit_ty (by decide +kernel)) (fun z => nomatch z) fun _ => rfl⟩
  | tup ys => exact ⟨.type "tuple", rfl, kitAny_cons (b := false) (kit_ty (by decide +kernel)) (fun _ => kitAny_cons (b := true) (kit_ty (by decide +kernel)) (fun z => nomatch z) fun _ => rfl) fun z => nomatch z⟩
  | _ => cases h
theorem isiT_iff {d : D} {xs : List D} {b : Bool} (h : items d = some xs) : IsiT K ["list", "tuple"] d b ↔ b = true := by
  constructor
  · rintro ⟨t, h1, h2⟩
    obtain ⟨t', h3, h4⟩ := isiT_seq (K := K) h
    have : t = t' := by
      cases d with
      | lst ys =>
        rw [show t = _ from h1, show t' = _ from h3]
      | tup ys =>
        rw [show t = _ from h1, show t' = _ from h3]
      | _ => cases h
    subst this
    rw [h4] at h2
    exact (Option.some.inj h2).symm
  · rintro rfl
    exact isiT_seq h
theorem sp_whole {i a b : Int} {Q : D → Prop} (h1 : a ≤ i) (h2 : i ≤ b) (q : Q (.bl true)) : p_is_whole K [.int i, .int a, .int b] Q := by
  refine ⟨rfl, ?_⟩
  simp only [td_is_whole, pD, pH, pI, startG, startH, startI, sNext, sSeq, sBrk, sCnt, sDrop, sRet, sRetN, sIf, sNever, sAsg, sAsgN, sPar, sAug, sApp, sFldS, sFor, dC, dVar, dOwn, d2, d2O, oI, oIC, oAdd, oSub, oMul, oFdiv, oMod, oPow, oLt, oLe, oGt, oGe, oIsN, oNotN, oIn, oNin, oIx, oCatT, dTest, dAnd, dOr, dNot, dAndV, dOrV, dNotV, dIfE, dTru, dNil, dCons, dTup, dLst, dFld, dCB, dCB1, cLen, cAbs, cInt, cMax2, cMin2, cSum, cList, cTuple, cAny, cAll, dNoPart, dPart, dSl, dRev, dTupRev, dFrz, dLstN, dListN, dPop, gdName, gdNil, gdCons, gdTup, gdSub, dCall, dIsiT, dCallH, dMeth, iSeq, iEnumD, iR1, iR2, iR3, dLcN, dLc, dYes, dNeg, dChain, items]
  simp [cIsi, isi_int_bool, isi_int_int, D.isN, h1, h2, q, and_assoc]
  intro h
  omega
theorem sp_whole0 {i : Int} {Q : D → Prop} (q : Q (.bl true)) : p_is_whole K [.int i, .non, .non] Q := by
  refine ⟨rfl, ?_⟩
  simp only [td_is_whole, pD, pH, pI, startG, startH, startI, sNext, sSeq, sBrk, sCnt, sDrop, sRet, sRetN, sIf, sNever, sAsg, sAsgN, sPar, sAug, sApp, sFldS, sFor, dC, dVar, dOwn, d2, d2O, oI, oIC, oAdd, oSub, oMul, oFdiv, oMod, oPow, oLt, oLe, oGt, oGe, oIsN, oNotN, oIn, oNin, oIx, oCatT, dTest, dAnd, dOr, dNot, dAndV, dOrV, dNotV, dIfE, dTru, dNil, dCons, dTup, dLst, dFld, dCB, dCB1, cLen, cAbs, cInt, cMax2, cMin2, cSum, cList, cTuple, cAny, cAll, dNoPart, dPart, dSl, dRev, dTupRev, dFrz, dLstN, dListN, dPop, gdName, gdNil, gdCons, gdTup, gdSub, dCall, dIsiT, dCallH, dMeth, iSeq, iEnumD, iR1, iR2, iR3, dLcN, dLc, dYes, dNeg, dChain, items]
  simp [cIsi, isi_int_bool, isi_int_int, D.isN, q, and_assoc]
end
end K96
set_option Elab.async false
set_option linter.all false
set_option maxRecDepth 100000
set_option maxHeartbeats 1000000
namespace K96
open PySem PySem.Spec L2 L2R DL CM
open PyProof.Rows hiding St
section
variable {K : PySem.W.Frag} {mg : PySem.Str → Option Value}
theorem zip_cons (a : D) (l : List D) (k : Nat) : ((a :: l).zipIdx k).map (fun p => D.tup [.int (p.2 : Nat), p.1]) = .tup [.int (k : Nat), a] :: (l.zipIdx (k + 1)).map (fun p => D.tup [.int (p.2 : Nat), p.1]) := by
  rw [List.zipIdx_cons, List.map_cons]
theorem lp_price0 (e : Fx K mg) {W : EndsD} {st : D} {cs : List (List Int)} {n : Nat} {p P x y z : Sl} (h : ∀ u v, W.nx [.val (waD K st cs ((n : Int) + 2)), p, P, u, v, x, y, z]) :
    ∀ (ps : List Nat) (k : Nat) (u v : Sl), (∀ q ∈ ps, q ≤ n) → forL (gdTup 2 (gdCons (gdName 3) (gdCons (gdName 4) gdNil))) (lb_crack_price_0 K) W (((nums (plc ps)).zipIdx k).map fun p => .tup [.int (p.2 : Nat), p.1]) [.val (waD K st cs ((n : Int) + 2)), p, P, u, v, x, y, z]
  | [], k, u, v, _ => h u v
  | q :: ps, k, u, v, hq => by
    have ih := lp_price0 e h ps (k + 1) (.val (.int (k : Nat))) (.val (.int ((q : Int) + 1))) fun x hx => hq x (List.mem_cons_of_mem _ hx)
    have hq0 : q ≤ n := hq q (List.mem_cons_self ..)
    show forL _ _ W (((D.int ((q : Int) + 1) :: nums (plc ps)).zipIdx k).map fun p => .tup [.int (p.2 : Nat), p.1]) _
    rw [zip_cons]
    simp [forL, gdTup, gdCons, gdName, gdNil, lb_crack_price_0, pD, pH, pI, startG, startH, startI, sNext, sSeq, sBrk, sCnt, sDrop, sRet, sRetN, sIf, sNever, sAsg, sAsgN, sPar, sAug, sApp, sFldS, sFor, dC, dVar, dOwn, d2, d2O, oI, oIC, oAdd, oSub, oMul, oFdiv, oMod, oPow, oLt, oLe, oGt, oGe, oIsN, oNotN, oIn, oNin, oIx, oCatT, dTest, dAnd, dOr, dNot, dAndV, dOrV, dNotV, dIfE, dTru, dNil, dCons, dTup, dLst, dFld, dCB, dCB1, cLen, cAbs, cInt, cMax2, cMin2, cSum, cList, cTuple, cAny, cAll, dNoPart, dPart, dSl, dRev, dTupRev, dFrz, dLstN, dListN, dPop, gdName, gdNil, gdCons, gdTup, gdSub, dCall, dIsiT, dCallH, dMeth, iSeq, iEnumD, iR1, iR2, iR3, dLcN, dLc, dYes, dNeg, dChain, items_lst, items_tup, f_waD_length e, and_assoc]
    refine sp_whole ?_ ?_ ?_
    · omega
    · omega
    · exact ⟨rfl, ih⟩
theorem dn : True := True.intro
/-- what is to come behind the place that was before -/
def tlc (b : Int) : Nat → List (Nat → Int) → List Nat → Int
  | _, [], _ => 0
  | _, _, [] => 0
  | prev, o :: os, p :: ps => o p + b * ab ((p : Int) - prev) + tlc b p os ps
theorem cost_tlc (b : Int) : ∀ (o : Nat → Int) (p : Nat) (os : List (Nat → Int)) (ps : List Nat), os.length = ps.length → cost b (o :: os) (p :: ps) = o p + tlc b p os ps
  | o, p, [], [], _ => by show o p = o p + 0; omega
  | _, _, [], _ :: _, h => by simp at h
  | _, _, _ :: _, [], h => by simp at h
  | o, p, o' :: os, p' :: ps, h => by
    have ih := cost_tlc b o' p' os ps (by simpa using h)
    show o p + b * ab ((p' : Int) - p) + cost b (o' :: os) (p' :: ps) = o p + (o' p' + b * ab ((p' : Int) - p) + tlc b p' os ps)
    rw [ih]
    omega
theorem atI_plc {ps : List Nat} {k p : Nat} (h : ps[k]? = some p) : L2.atI (nums (plc ps)) ((k : Nat) : Int) = some (.int ((p : Int) + 1)) := atI_nums (by omega) (by
  show (plc ps)[k]? = _
  unfold plc
  rw [List.getElem?_map, h]
  rfl)
theorem own_add {c : List Int} {br : Int} {p : Nat} {t : Int} {q : Int → Prop} (h : q (t + own c br p)) : if ((p : Int) + 1) ∈ joints 0 c then q t else q (t + br) := by
  unfold own at h
  split
  · rename_i z
    rw [if_pos z, Int.add_zero] at h
    exact h
  · rename_i z
    rw [if_neg z] at h
    exact h
theorem lp_price1 (e : Fx K mg) {W : EndsD} {A u v : Sl} {br bd : Int} {P : D} {ps : List Nat} (hb : 0 ≤ bd ∧ bd ≤ 1000000) (hP : items P = some (nums (plc ps))) :
    ∀ (cs : List (List Int)) (qs pre_ : List Nat) (prev : Nat) (t tot : Int) (y z : Sl), ps = pre_ ++ prev :: qs → cs.length = qs.length → (∀ c ∈ cs, c.length ≤ 1000000) → tot = t + tlc bd prev (cs.map fun c => own c br) qs →
      (∀ y z, W.nx [A, .val (prD K br bd), .val P, u, v, .val (.int tot), y, z]) →
      forL (gdTup 2 (gdCons (gdName 6) (gdCons (gdName 7) gdNil))) (lb_crack_price_1 K) W (((csD cs).zipIdx (pre_.length + 1)).map fun p => .tup [.int (p.2 : Nat), p.1]) [A, .val (prD K br bd), .val P, u, v, .val (.int t), y, z]
  | [], [], pre_, prev, t, tot, y, z, _, _, _, ht, h => by
    have : tot = t := by rw [ht]; show t + 0 = t; omega
    subst this
    exact h y z
  | [], _ :: _, _, _, _, _, _, _, _, hl, _, _, _ => by simp at hl
  | _ :: _, [], _, _, _, _, _, _, _, hl, _, _, _ => by simp at hl
  | c :: cs, q :: qs, pre_, prev, t, tot, y, z, hp, hl, hc, ht, h => by
    have a1 : ps[pre_.length + 1]? = some q := by
      rw [hp, List.getElem?_append_right (by omega)]
      have : pre_.length + 1 - pre_.length = 1 := by omega
      rw [this]
      rfl
    have a0 : ps[pre_.length]? = some prev := by
      rw [hp, List.getElem?_append_right (by omega)]
      simp
    have z1 := atI_plc a1
    have z0 := atI_plc a0
    have ih := lp_price1 e (W := W) (A := A) (u := u) (v := v) (br := br) hb hP cs qs (pre_ ++ [prev]) q (t + own c br q + bd * ab ((q : Int) - prev)) tot (.val (.int ((pre_.length + 1 : Nat) : Int))) (.val (.tup (nums c))) (by rw [hp]; simp) (by simpa using hl) (fun d hd => hc d (List.mem_cons_of_mem _ hd)) (by
      rw [ht]
      show t + (own c br q + bd * ab ((q : Int) - prev) + tlc bd q (cs.map fun c => own c br) qs) = _
      omega) h
    show forL _ _ W (((D.tup (nums c) :: csD cs).zipIdx (pre_.length + 1)).map fun p => .tup [.int (p.2 : Nat), p.1]) _
    rw [zip_cons]
    have e5 : (((pre_.length + 1 : Nat) : Int) - 1) = (pre_.length : Nat) := by omega
    simp only [forL, gdTup, gdCons, gdName, gdNil]
    refine ⟨_, rfl, rfl, _, _, rfl, _, _, rfl, rfl, ?_⟩
    simp only [lb_crack_price_1, pD, pH, pI, startG, startH, startI, sNext, sSeq, sBrk, sCnt, sDrop, sRet, sRetN, sIf, sNever, sAsg, sAsgN, sPar, sAug, sApp, sFldS, sFor, dC, dVar, dOwn, d2, d2O, oI, oIC, oAdd, oSub, oMul, oFdiv, oMod, oPow, oLt, oLe, oGt, oGe, oIsN, oNotN, oIn, oNin, oIx, oCatT, dTest, dAnd, dOr, dNot, dAndV, dOrV, dNotV, dIfE, dTru, dNil, dCons, dTup, dLst, dFld, dCB, dCB1, cLen, cAbs, cInt, cMax2, cMin2, cSum, cList, cTuple, cAny, cAll, dNoPart, dPart, dSl, dRev, dTupRev, dFrz, dLstN, dListN, dPop, gdName, gdNil, gdCons, gdTup, gdSub, dCall, dIsiT, dCallH, dMeth, iSeq, iEnumD, iR1, iR2, iR3, dLcN, dLc, dYes, dNeg, dChain, items_lst, items_tup]
    simp [hP, f_prD_brick e, f_prD_bed e, and_assoc]
    simp only [show ((pre_.length : Int) + 1) = ((pre_.length + 1 : Nat) : Int) by omega, z1]
    refine ⟨_, rfl, sp_joints (hc c (List.mem_cons_self ..)) ?_⟩
    have e6 : bd * (if (q : Int) + 1 - ((prev : Int) + 1) < 0 then -((q : Int) + 1 - ((prev : Int) + 1)) else (q : Int) + 1 - ((prev : Int) + 1)) = bd * ab ((q : Int) - prev) := by
      unfold ab
      congr 1
      split <;> split <;> omega
    refine ⟨_, rfl, joints 0 c, rfl, ?_⟩
    by_cases hm : ((q : Int) + 1) ∈ joints 0 c
    · refine .inl ⟨hm, _, rfl, _, z0, _, rfl, _, rfl, cm_l hb, ?_⟩
      have : own c br q = 0 := by unfold own; rw [if_pos hm]
      rw [this] at ih
      simp only [Int.add_zero, List.length_append, List.length_singleton] at ih
      rw [e6]
      exact ih
    · refine .inr ⟨hm, _, rfl, _, z0, _, rfl, _, rfl, cm_l hb, ?_⟩
      have : own c br q = br := by unfold own; rw [if_neg hm]
      rw [this] at ih
      simp only [List.length_append, List.length_singleton] at ih
      rw [e6]
      exact ih
theorem plc_cons (p : Nat) (ps : List Nat) : plc (p :: ps) = ((p : Int) + 1) :: plc ps := rfl
theorem sp_price (e : Fx K mg) {st P : D} {cs : List (List Int)} {br bd : Int} {n : Nat} {ps : List Nat} {Q : D → Prop} (hb : 0 ≤ bd ∧ bd ≤ 1000000) (hc : ∀ c ∈ cs, c.length ≤ 1000000) (hn : n ≤ 1000000) (hp : Path n cs.length ps) (h0 : cs ≠ []) (hP : items P = some (nums (plc ps)))
    (q : Q (.int (cost bd (cs.map fun c => own c br) ps))) : p_crack_price K [waD K st cs ((n : Int) + 2), prD K br bd, P] Q := by
  refine ⟨rfl, ?_⟩
  simp only [td_crack_price, pD, pH, pI, startG, startH, startI, sNext, sSeq, sBrk, sCnt, sDrop, sRet, sRetN, sIf, sNever, sAsg, sAsgN, sPar, sAug, sApp, sFldS, sFor, dC, dVar, dOwn, d2, d2O, oI, oIC, oAdd, oSub, oMul, oFdiv, oMod, oPow, oLt, oLe, oGt, oGe, oIsN, oNotN, oIn, oNin, oIx, oCatT, dTest, dAnd, dOr, dNot, dAndV, dOrV, dNotV, dIfE, dTru, dNil, dCons, dTup, dLst, dFld, dCB, dCB1, cLen, cAbs, cInt, cMax2, cMin2, cSum, cList, cTuple, cAny, cAll, dNoPart, dPart, dSl, dRev, dTupRev, dFrz, dLstN, dListN, dPop, gdName, gdNil, gdCons, gdTup, gdSub, dCall, dIsiT, dCallH, dMeth, iSeq, iEnumD, iR1, iR2, iR3, dLcN, dLc, dYes, dNeg, dChain, items_lst, items_tup]
  simp [f_waD_length e, f_waD_courses e, hP, oNe_int, isiT_iff hP, items_tup]
  refine sp_long (by omega) ?_
  have hl := hp.1
  have l1 : (plc ps).length = ps.length := by simp [plc]
  cases cs with
  | nil => exact absurd rfl h0
  | cons c cs =>
    cases ps with
    | nil => simp at hl
    | cons p ps =>
      have hl' : cs.length = ps.length := by simp at hl; omega
      simp [l1, hl', oNe_int, items_tup]
      refine lp_price0 e (fun u v => ?_) (p :: ps) 0 .un .un hp.2
      simp [sSeq, sAsg, dC, gdName, sFor, iEnumD, dFld, dVar, f_waD_courses e, items_tup]
      have l2 := lp_price1 e (K := K) (mg := mg) (W := { nx := sRet (dVar 5) { nx := fun x => Q D.non, rt := fun d x => Q d, bk := fun x => False, ct := fun x => False }, rt := fun d x => Q d, bk := fun x => False, ct := fun x => False }) (A := .val (waD K st (c :: cs) ((n : Int) + 2))) (u := u) (v := v) (br := br) (bd := bd) (P := P) (ps := p :: ps) hb hP cs ps [] p (0 + own c br p) (cost bd ((c :: cs).map fun c => own c br) (p :: ps)) (.val (.int (0 : Nat))) (.val (.tup (nums c))) rfl hl' (fun d hd => hc d (List.mem_cons_of_mem _ hd)) (by
        rw [List.map_cons, cost_tlc bd _ _ _ _ (by simpa using hl')]
        omega) (fun y z => by simpa [sRet, dVar] using q)
      have z1 : L2.atI (nums (plc (p :: ps))) 0 = some (.int ((p : Int) + 1)) := atI_plc (k := 0) rfl
      show forL _ _ _ (((D.tup (nums c) :: csD cs).zipIdx 0).map fun p => .tup [.int (p.2 : Nat), p.1]) _
      rw [zip_cons]
      simp only [forL, gdTup, gdCons, gdName, gdNil]
      refine ⟨_, rfl, rfl, _, _, rfl, _, _, rfl, rfl, ?_⟩
      simp only [lb_crack_price_1, pD, pH, pI, startG, startH, startI, sNext, sSeq, sBrk, sCnt, sDrop, sRet, sRetN, sIf, sNever, sAsg, sAsgN, sPar, sAug, sApp, sFldS, sFor, dC, dVar, dOwn, d2, d2O, oI, oIC, oAdd, oSub, oMul, oFdiv, oMod, oPow, oLt, oLe, oGt, oGe, oIsN, oNotN, oIn, oNin, oIx, oCatT, dTest, dAnd, dOr, dNot, dAndV, dOrV, dNotV, dIfE, dTru, dNil, dCons, dTup, dLst, dFld, dCB, dCB1, cLen, cAbs, cInt, cMax2, cMin2, cSum, cList, cTuple, cAny, cAll, dNoPart, dPart, dSl, dRev, dTupRev, dFrz, dLstN, dListN, dPop, gdName, gdNil, gdCons, gdTup, gdSub, dCall, dIsiT, dCallH, dMeth, iSeq, iEnumD, iR1, iR2, iR3, dLcN, dLc, dYes, dNeg, dChain, items_lst, items_tup]
      simp [hP, f_prD_brick e, f_prD_bed e, and_assoc, z1]
      refine sp_joints (hc c (List.mem_cons_self ..)) ?_
      refine ⟨joints 0 c, rfl, ?_⟩
      by_cases hm : ((p : Int) + 1) ∈ joints 0 c
      · have : own c br p = 0 := by unfold own; rw [if_pos hm]
        rw [this] at l2
        refine .inl ⟨hm, ?_⟩
        exact l2
      · have : own c br p = br := by unfold own; rw [if_neg hm]
        rw [this] at l2
        refine .inr ⟨hm, ?_⟩
        simp only [Int.zero_add] at l2
        exact l2
end
end K96
set_option Elab.async false
set_option linter.all false
set_option maxRecDepth 100000
set_option maxHeartbeats 1000000
namespace K96
open PySem PySem.Spec L2 L2R DL CM
open PyProof.Rows hiding St
section
variable {K : PySem.W.Frag} {mg : PySem.Str → Option Value}
theorem csD_rev (cs : List (List Int)) : (csD cs).reverse = csD cs.reverse := by unfold csD; rw [List.map_reverse]
theorem sp_from (e : Fx K mg) {st : D} {cs : List (List Int)} {br bd : Int} {n p : Nat} {Q : D → Prop} (hb : 0 ≤ bd ∧ bd ≤ 1000000) (hc : ∀ c ∈ cs, c.length ≤ 1000000) (hn : n ≤ 1000000) (h0 : cs ≠ []) (hl : cs.length ≤ 1000000) (hp : p ≤ n)
    (q : ∀ ps : List Int, Q (crD K (S bd n (cs.map fun c => own c br) p) ps)) : p_crack_from K [waD K st cs ((n : Int) + 2), prD K br bd, .int ((p : Int) + 1)] Q := by
  refine ⟨rfl, ?_⟩
  simp only [td_crack_from, pD, pH, pI, startG, startH, startI, sNext, sSeq, sBrk, sCnt, sDrop, sRet, sRetN, sIf, sNever, sAsg, sAsgN, sPar, sAug, sApp, sFldS, sFor, dC, dVar, dOwn, d2, d2O, oI, oIC, oAdd, oSub, oMul, oFdiv, oMod, oPow, oLt, oLe, oGt, oGe, oIsN, oNotN, oIn, oNin, oIx, oCatT, dTest, dAnd, dOr, dNot, dAndV, dOrV, dNotV, dIfE, dTru, dNil, dCons, dTup, dLst, dFld, dCB, dCB1, cLen, cAbs, cInt, cMax2, cMin2, cSum, cList, cTuple, cAny, cAll, dNoPart, dPart, dSl, dRev, dTupRev, dFrz, dLstN, dListN, dPop, gdName, gdNil, gdCons, gdTup, gdSub, dCall, dIsiT, dCallH, dMeth, iSeq, iEnumD, iR1, iR2, iR3, dLcN, dLc, dYes, dNeg, dChain, items_lst, items_tup]
  simp [f_waD_length e, f_waD_courses e]
  refine sp_long (by omega) ?_
  refine sp_whole ?_ ?_ ?_
  · omega
  · omega
  refine ⟨rfl, ?_⟩
  have e1 : (List.map (fun c => D.tup (nums c)) cs).reverse = csD cs.reverse := csD_rev cs
  rw [e1]
  refine sp_sums e hb.1 (fun c hc' => hc c (List.mem_reverse.mp hc')) hn (by simpa using h0) (by simpa using hl) ?_
  have e2 : ((p : Int) + 1 - 1) = (p : Nat) := by omega
  have h0' : (cs.reverse.map fun c => own c br) ≠ [] := by simpa using h0
  refine sp_traced e hb hn h0' (by simpa using hl) hp fun r h1 h2 h3 => ?_
  have z := atI_rows_last (bd := bd) (n := n) h0'
  have e3 : (cs.reverse.map fun c => own c br).reverse = cs.map fun c => own c br := by rw [List.map_reverse, List.reverse_reverse]
  rw [e3] at z
  have z2 := atI_row (f := S bd n (cs.map fun c => own c br)) (n := n) (i := (p : Nat)) (by omega) (by omega)
  refine ⟨_, rfl, _, z, _, rfl, _, z2, .inr ⟨_, rfl, ?_⟩⟩
  have e4 : (nums (plc r.reverse)).reverse = nums (plc r.reverse).reverse := by unfold nums; rw [List.map_reverse]
  rw [e4]
  exact sp_Crack e (q _)
theorem sp_above {R : D} {f : Nat → Int} {n : Nat} {Q : D → Prop} (hn : n ≤ 1000000) (hR : items R = some (nums (row f n))) (q : Q (.bl false)) : p_is_above K [R, .lst (nums (row f n))] Q := by
  refine ⟨rfl, ?_⟩
  simp only [td_is_above, pD, pH, pI, startG, startH, startI, sNext, sSeq, sBrk, sCnt, sDrop, sRet, sRetN, sIf, sNever, sAsg, sAsgN, sPar, sAug, sApp, sFldS, sFor, dC, dVar, dOwn, d2, d2O, oI, oIC, oAdd, oSub, oMul, oFdiv, oMod, oPow, oLt, oLe, oGt, oGe, oIsN, oNotN, oIn, oNin, oIx, oCatT, dTest, dAnd, dOr, dNot, dAndV, dOrV, dNotV, dIfE, dTru, dNil, dCons, dTup, dLst, dFld, dCB, dCB1, cLen, cAbs, cInt, cMax2, cMin2, cSum, cList, cTuple, cAny, cAll, dNoPart, dPart, dSl, dRev, dTupRev, dFrz, dLstN, dListN, dPop, gdName, gdNil, gdCons, gdTup, gdSub, dCall, dIsiT, dCallH, dMeth, iSeq, iEnumD, iR1, iR2, iR3, dLcN, dLc, dYes, dNeg, dChain, items_lst, items_tup]
  simp [items_lst, row_len]
  refine ⟨by omega, rfl, ?_⟩
  simp only [wipS, List.set_cons_succ, List.set_cons_zero]
  refine lc_rng (fun k => .bl false) (fun k hk Qd hq => ?_) (by omega) ?_
  · have z := atI_row (f := f) (n := n) (i := (k : Nat)) (by omega) (by omega)
    simp [pD, pH, pI, startG, startH, startI, sNext, sSeq, sBrk, sCnt, sDrop, sRet, sRetN, sIf, sNever, sAsg, sAsgN, sPar, sAug, sApp, sFldS, sFor, dC, dVar, dOwn, d2, d2O, oI, oIC, oAdd, oSub, oMul, oFdiv, oMod, oPow, oLt, oLe, oGt, oGe, oIsN, oNotN, oIn, oNin, oIx, oCatT, dTest, dAnd, dOr, dNot, dAndV, dOrV, dNotV, dIfE, dTru, dNil, dCons, dTup, dLst, dFld, dCB, dCB1, cLen, cAbs, cInt, cMax2, cMin2, cSum, cList, cTuple, cAny, cAll, dNoPart, dPart, dSl, dRev, dTupRev, dFrz, dLstN, dListN, dPop, gdName, gdNil, gdCons, gdTup, gdSub, dCall, dIsiT, dCallH, dMeth, iSeq, iEnumD, iR1, iR2, iR3, dLcN, dLc, dYes, dNeg, dChain, items_lst, items_tup, hR, items_lst, z]
    simpa using hq
  · refine ⟨(List.range (n + 1)).map fun _ => false, by rw [List.map_map]; rfl, ?_⟩
    have : ((List.range (n + 1)).map fun _ => false).any id = false := by
      rw [List.any_eq_false]
      intro x hx
      obtain ⟨_, _, rfl⟩ := List.mem_map.mp hx
      decide
    rw [this]
    exact q
/-- rows of numbers, lists or tuples -/
structure RowsOk (bd : Int) (n : Nat) (os : List (Nat → Int)) (rs : List D) : Prop where
  len : rs.length = os.length
  at_ : ∀ i, i < os.length → ∃ R, rs[i]? = some R ∧ items R = some (nums (row (S bd n (os.take (i + 1)).reverse) n))
theorem lp_rows {W : EndsD} {A B : Sl} {wide : Int} (h : ∀ x, W.nx [A, B, .val (.int wide), x, .un]) :
    ∀ (rs : List D) (x : Sl), (∀ R ∈ rs, ∃ l : List Int, items R = some (nums l) ∧ (l.length : Int) = wide ∧ l.length ≤ 1000000 + 1) → forL (gdName 3) (lb_are_number_rows_0 K) W rs [A, B, .val (.int wide), x, .un]
  | [], x, _ => h x
  | R :: rs, x, hr => by
    have ih := lp_rows h rs (.val R) fun R hR => hr R (List.mem_cons_of_mem _ hR)
    obtain ⟨l, h1, h2, h3⟩ := hr R (List.mem_cons_self ..)
    simp [forL, gdName, lb_are_number_rows_0, pD, pH, pI, startG, startH, startI, sNext, sSeq, sBrk, sCnt, sDrop, sRet, sRetN, sIf, sNever, sAsg, sAsgN, sPar, sAug, sApp, sFldS, sFor, dC, dVar, dOwn, d2, d2O, oI, oIC, oAdd, oSub, oMul, oFdiv, oMod, oPow, oLt, oLe, oGt, oGe, oIsN, oNotN, oIn, oNin, oIx, oCatT, dTest, dAnd, dOr, dNot, dAndV, dOrV, dNotV, dIfE, dTru, dNil, dCons, dTup, dLst, dFld, dCB, dCB1, cLen, cAbs, cInt, cMax2, cMin2, cSum, cList, cTuple, cAny, cAll, dNoPart, dPart, dSl, dRev, dTupRev, dFrz, dLstN, dListN, dPop, gdName, gdNil, gdCons, gdTup, gdSub, dCall, dIsiT, dCallH, dMeth, iSeq, iEnumD, iR1, iR2, iR3, dLcN, dLc, dYes, dNeg, dChain, items_lst, items_tup, isiT_iff h1, h1, oNe_int, h2]
    refine ⟨rfl, ?_⟩
    simp only [wipS, List.set_cons_succ, List.set_cons_zero]
    refine lc_nums (fun _ => .bl true) (fun x hx Qd hq => ?_) (by omega) ?_
    · simp [pD, pH, pI, startG, startH, startI, sNext, sSeq, sBrk, sCnt, sDrop, sRet, sRetN, sIf, sNever, sAsg, sAsgN, sPar, sAug, sApp, sFldS, sFor, dC, dVar, dOwn, d2, d2O, oI, oIC, oAdd, oSub, oMul, oFdiv, oMod, oPow, oLt, oLe, oGt, oGe, oIsN, oNotN, oIn, oNin, oIx, oCatT, dTest, dAnd, dOr, dNot, dAndV, dOrV, dNotV, dIfE, dTru, dNil, dCons, dTup, dLst, dFld, dCB, dCB1, cLen, cAbs, cInt, cMax2, cMin2, cSum, cList, cTuple, cAny, cAll, dNoPart, dPart, dSl, dRev, dTupRev, dFrz, dLstN, dListN, dPop, gdName, gdNil, gdCons, gdTup, gdSub, dCall, dIsiT, dCallH, dMeth, iSeq, iEnumD, iR1, iR2, iR3, dLcN, dLc, dYes, dNeg, dChain, items_lst, items_tup]
      exact sp_whole0 hq
    · refine ⟨l.map fun _ => true, by rw [List.map_map]; rfl, ?_⟩
      rw [if_neg (by simp)]
      exact ih
theorem sp_numrows {N : D} {rs : List D} {wide : Int} {Q : D → Prop} (hN : items N = some rs) (hr : ∀ R ∈ rs, ∃ l : List Int, items R = some (nums l) ∧ (l.length : Int) = wide ∧ l.length ≤ 1000000 + 1) (q : Q (.bl true)) : p_are_number_rows K [N, .int (rs.length : Nat), .int wide] Q := by
  refine ⟨rfl, ?_⟩
  simp only [td_are_number_rows, pD, pH, pI, startG, startH, startI, sNext, sSeq, sBrk, sCnt, sDrop, sRet, sRetN, sIf, sNever, sAsg, sAsgN, sPar, sAug, sApp, sFldS, sFor, dC, dVar, dOwn, d2, d2O, oI, oIC, oAdd, oSub, oMul, oFdiv, oMod, oPow, oLt, oLe, oGt, oGe, oIsN, oNotN, oIn, oNin, oIx, oCatT, dTest, dAnd, dOr, dNot, dAndV, dOrV, dNotV, dIfE, dTru, dNil, dCons, dTup, dLst, dFld, dCB, dCB1, cLen, cAbs, cInt, cMax2, cMin2, cSum, cList, cTuple, cAny, cAll, dNoPart, dPart, dSl, dRev, dTupRev, dFrz, dLstN, dListN, dPop, gdName, gdNil, gdCons, gdTup, gdSub, dCall, dIsiT, dCallH, dMeth, iSeq, iEnumD, iR1, iR2, iR3, dLcN, dLc, dYes, dNeg, dChain, items_lst, items_tup]
  simp [isiT_iff hN, hN, oNe_int]
  exact lp_rows (fun x => by simpa [sRet, dC] using q) rs .un hr
theorem sp_numrows' {N : D} {rs : List D} {m : Nat} {wide : Int} {Q : D → Prop} (hN : items N = some rs) (hm : rs.length = m) (hr : ∀ R ∈ rs, ∃ l : List Int, items R = some (nums l) ∧ (l.length : Int) = wide ∧ l.length ≤ 1000000 + 1) (q : Q (.bl true)) : p_are_number_rows K [N, .int (m : Nat), .int wide] Q := by
  subst hm
  exact sp_numrows hN hr q
theorem atI_ok {bd : Int} {n i : Nat} {os : List (Nat → Int)} {rs : List D} {R : D} (h : rs[i]? = some R) : L2.atI rs (i : Int) = some R := atI_nat (by omega) h
theorem lp_floor (e : Fx K mg) {W : EndsD} {st N : D} {cs : List (List Int)} {br bd : Int} {n : Nat} {rs : List D} (hb : 0 ≤ bd) (hc : ∀ c ∈ cs, c.length ≤ 1000000) (hn : n ≤ 1000000) (hN : items N = some rs) (hr : RowsOk bd n (cs.map fun c => own c br) rs)
    (h : ∀ x, W.nx [.val (waD K st cs ((n : Int) + 2)), .val (prD K br bd), .val N, x]) :
    ∀ (d k : Nat) (x : Sl), k + d = cs.length → 1 ≤ k → forL (gdName 3) (lb_floor_fault_0 K) W (rngD (k : Int) d) [.val (waD K st cs ((n : Int) + 2)), .val (prD K br bd), .val N, x]
  | 0, k, x, _, _ => h x
  | d + 1, k, x, hk, h1 => by
    have ih := lp_floor e hb hc hn hN hr h d (k + 1) (.val (.int (k : Nat))) (by omega) (by omega)
    rw [rng_succ]
    obtain ⟨k', rfl⟩ : ∃ k', k = k' + 1 := ⟨k - 1, by omega⟩
    have hlen : (cs.map fun c => own c br).length = cs.length := by simp
    obtain ⟨R, r1, r2⟩ := hr.at_ (k' + 1) (by omega)
    obtain ⟨R', r3, r4⟩ := hr.at_ k' (by omega)
    have z1 : L2.atI rs (((k' + 1 : Nat) : Int)) = some R := atI_nat (by omega) r1
    have z2 : L2.atI rs (k' : Int) = some R' := atI_nat (by omega) r3
    have hck : k' + 1 < cs.length := by omega
    have z3 : L2.atI (csD cs) (((k' + 1 : Nat) : Int)) = some (.tup (nums cs[k' + 1])) := atI_nat (by omega) (by
      show (csD cs)[k' + 1]? = _
      unfold csD
      rw [List.getElem?_map, List.getElem?_eq_getElem hck]
      rfl)
    have e0 : (((k' + 1 : Nat) : Int) - 1) = (k' : Nat) := by omega
    have e9 : (((k' + 1 : Nat) : Int)) = (k' : Int) + 1 := by omega
    rw [e9] at z1 z3
    have er : row (nxt (S bd n ((cs.map fun c => own c br).take (k' + 1)).reverse) bd n (own cs[k' + 1] br)) n = row (S bd n ((cs.map fun c => own c br).take (k' + 1 + 1)).reverse) n := by
      have q1 : (cs.map fun c => own c br).take (k' + 1 + 1) = (cs.map fun c => own c br).take (k' + 1) ++ [own cs[k' + 1] br] := by
        rw [List.take_succ, List.getElem?_map, List.getElem?_eq_getElem hck]
        rfl
      rw [q1, List.reverse_append]
      have : ∃ o L, ((cs.map fun c => own c br).take (k' + 1)).reverse = o :: L := by
        cases q : ((cs.map fun c => own c br).take (k' + 1)).reverse with
        | nil =>
          have hh : ((cs.map fun c => own c br).take (k' + 1)).reverse.length = k' + 1 := by
            rw [List.length_reverse, List.length_take, List.length_map]
            omega
          rw [q] at hh
          simp at hh
        | cons o L => exact ⟨o, L, rfl⟩
      obtain ⟨o, L, e5⟩ := this
      rw [e5]
      exact S_nxt
    have hcm : cs[k' + 1].length ≤ 1000000 := hc _ (List.getElem_mem hck)
    simp [forL, gdName, lb_floor_fault_0, pD, pH, pI, startG, startH, startI, sNext, sSeq, sBrk, sCnt, sDrop, sRet, sRetN, sIf, sNever, sAsg, sAsgN, sPar, sAug, sApp, sFldS, sFor, dC, dVar, dOwn, d2, d2O, oI, oIC, oAdd, oSub, oMul, oFdiv, oMod, oPow, oLt, oLe, oGt, oGe, oIsN, oNotN, oIn, oNin, oIx, oCatT, dTest, dAnd, dOr, dNot, dAndV, dOrV, dNotV, dIfE, dTru, dNil, dCons, dTup, dLst, dFld, dCB, dCB1, cLen, cAbs, cInt, cMax2, cMin2, cSum, cList, cTuple, cAny, cAll, dNoPart, dPart, dSl, dRev, dTupRev, dFrz, dLstN, dListN, dPop, gdName, gdNil, gdCons, gdTup, gdSub, dCall, dIsiT, dCallH, dMeth, iSeq, iEnumD, iR1, iR2, iR3, dLcN, dLc, dYes, dNeg, dChain, items_lst, items_tup, f_waD_length e, f_waD_courses e, hN, items_tup]
    have z3' : L2.atI (List.map (fun c => D.tup (nums c)) cs) ((k' : Int) + 1) = some (.tup (nums cs[k' + 1])) := z3
    refine ⟨_, z1, _, z2, _, z3', ?_⟩
    refine sp_next e hb hcm hn r4 ?_
    rw [er]
    refine sp_above hn r2 ?_
    refine ⟨rfl, ?_⟩
    have e10 : (((k' + 1 + 1 : Nat) : Int)) = (k' : Int) + 1 + 1 := by omega
    rw [e10, e9] at ih
    exact ih
theorem sp_floor (e : Fx K mg) {st N : D} {cs : List (List Int)} {br bd : Int} {n : Nat} {rs : List D} {Q : D → Prop} (hb : 0 ≤ bd) (hc : ∀ c ∈ cs, c.length ≤ 1000000) (hn : n ≤ 1000000) (h0 : cs ≠ []) (hl : cs.length ≤ 1000000) (hN : items N = some rs) (hr : RowsOk bd n (cs.map fun c => own c br) rs)
    (q : Q .non) : p_floor_fault K [waD K st cs ((n : Int) + 2), prD K br bd, N] Q := by
  refine ⟨rfl, ?_⟩
  have hlen : rs.length = cs.length := by rw [hr.len]; simp
  simp only [td_floor_fault, pD, pH, pI, startG, startH, startI, sNext, sSeq, sBrk, sCnt, sDrop, sRet, sRetN, sIf, sNever, sAsg, sAsgN, sPar, sAug, sApp, sFldS, sFor, dC, dVar, dOwn, d2, d2O, oI, oIC, oAdd, oSub, oMul, oFdiv, oMod, oPow, oLt, oLe, oGt, oGe, oIsN, oNotN, oIn, oNin, oIx, oCatT, dTest, dAnd, dOr, dNot, dAndV, dOrV, dNotV, dIfE, dTru, dNil, dCons, dTup, dLst, dFld, dCB, dCB1, cLen, cAbs, cInt, cMax2, cMin2, cSum, cList, cTuple, cAny, cAll, dNoPart, dPart, dSl, dRev, dTupRev, dFrz, dLstN, dListN, dPop, gdName, gdNil, gdCons, gdTup, gdSub, dCall, dIsiT, dCallH, dMeth, iSeq, iEnumD, iR1, iR2, iR3, dLcN, dLc, dYes, dNeg, dChain, items_lst, items_tup]
  simp [f_waD_length e, f_waD_courses e, items_tup, hN]
  refine sp_long (by omega) ?_
  have hrows : ∀ R ∈ rs, ∃ l : List Int, items R = some (nums l) ∧ (l.length : Int) = (n : Int) + 2 - 1 ∧ l.length ≤ 1000000 + 1 := fun R hR => by
    obtain ⟨i, hi, rfl⟩ := List.getElem_of_mem hR
    obtain ⟨R', h1, h2⟩ := hr.at_ i (by rw [← hr.len]; exact hi)
    rw [List.getElem?_eq_getElem hi] at h1
    cases h1
    exact ⟨_, h2, by rw [row_len]; omega, by rw [row_len]; omega⟩
  refine sp_numrows' hN hlen hrows ?_
  have h00 : 0 < cs.length := List.length_pos_iff.mpr h0
  obtain ⟨R, r1, r2⟩ := hr.at_ 0 (by simpa using h00)
  have z1 : L2.atI rs 0 = some R := atI_nat (by omega) r1
  obtain ⟨c, cs', rfl⟩ : ∃ c cs', cs = c :: cs' := by
    cases cs with
    | nil => exact absurd rfl h0
    | cons c cs' => exact ⟨c, cs', rfl⟩
  have z2 : L2.atI (List.map (fun c => D.tup (nums c)) (c :: cs')) 0 = some (.tup (nums c)) := atI_nat (by omega) rfl
  refine ⟨rfl, _, z1, _, z2, ?_⟩
  refine sp_place e (hc c (List.mem_cons_self ..)) hn ?_
  refine sp_above hn r2 ?_
  refine ⟨rfl, _, _, ⟨rfl, rfl⟩, ⟨by omega, by omega, by omega, by omega⟩, ?_⟩
  have e1 : ((rs.length : Int) - 1).toNat = cs'.length := by rw [hlen]; simp
  rw [e1]
  refine lp_floor e hb hc hn hN hr (fun x => by simpa [sRet, dC] using q) cs'.length 1 .un (by simp; omega) (Nat.le_refl _)
end
end K96
set_option Elab.async false
set_option linter.all false
set_option maxRecDepth 100000
set_option maxHeartbeats 1000000
namespace K96
open PySem PySem.Spec L2 L2R DL CM
open PyProof.Rows hiding St
section
variable {K : PySem.W.Frag} {mg : PySem.Str → Option Value}
theorem rowsOk_rows (bd : Int) (n : Nat) (os : List (Nat → Int)) : RowsOk bd n os (rowsD bd n os) := ⟨rowsD_len .., fun i hi => ⟨_, by unfold rowsD; rw [List.getElem?_map, pre_get hi]; rfl, by simp [rowD, items_lst]⟩⟩
theorem rowsOk_nums (bd : Int) (n : Nat) (os : List (Nat → Int)) : RowsOk bd n os (numsD bd n os) := ⟨by unfold numsD; rw [List.length_map, pre_len], fun i hi => ⟨_, by unfold numsD; rw [List.getElem?_map, pre_get hi]; rfl, by simp [items_tup]⟩⟩
theorem sp_crackfault (e : Fx K mg) {st : D} {cs : List (List Int)} {br bd v : Int} {n : Nat} {ps : List Nat} {Q : D → Prop} (hb : 0 ≤ bd ∧ bd ≤ 1000000) (hc : ∀ c ∈ cs, c.length ≤ 1000000) (hn : n ≤ 1000000) (hp : Path n cs.length ps) (h0 : cs ≠ []) (hv : cost bd (cs.map fun c => own c br) ps = v)
    (q : Q .non) : p_crack_fault K [waD K st cs ((n : Int) + 2), prD K br bd, crD K v (plc ps)] Q := by
  refine ⟨rfl, ?_⟩
  simp only [td_crack_fault, pD, pH, pI, startG, startH, startI, sNext, sSeq, sBrk, sCnt, sDrop, sRet, sRetN, sIf, sNever, sAsg, sAsgN, sPar, sAug, sApp, sFldS, sFor, dC, dVar, dOwn, d2, d2O, oI, oIC, oAdd, oSub, oMul, oFdiv, oMod, oPow, oLt, oLe, oGt, oGe, oIsN, oNotN, oIn, oNin, oIx, oCatT, dTest, dAnd, dOr, dNot, dAndV, dOrV, dNotV, dIfE, dTru, dNil, dCons, dTup, dLst, dFld, dCB, dCB1, cLen, cAbs, cInt, cMax2, cMin2, cSum, cList, cTuple, cAny, cAll, dNoPart, dPart, dSl, dRev, dTupRev, dFrz, dLstN, dListN, dPop, gdName, gdNil, gdCons, gdTup, gdSub, dCall, dIsiT, dCallH, dMeth, iSeq, iEnumD, iR1, iR2, iR3, dLcN, dLc, dYes, dNeg, dChain, items_lst, items_tup]
  simp [f_waD_length e, f_crD_places e, f_crD_price e, oNe_int]
  refine sp_long (by omega) ?_
  refine sp_price e hb hc hn hp h0 rfl ?_
  refine sp_whole0 ?_
  refine ⟨rfl, ?_⟩
  rw [hv, oNe_int]
  simp [q]
theorem sp_bound {bd : Int} {n : Nat} {os : List (Nat → Int)} {Q : D → Prop} (h0 : os ≠ []) (q : Q (.int (mn (S bd n os.reverse) n))) : p_floor_bound K [.lst (rowsD bd n os)] Q := by
  refine ⟨rfl, ?_⟩
  simp only [td_floor_bound, pD, pH, pI, startG, startH, startI, sNext, sSeq, sBrk, sCnt, sDrop, sRet, sRetN, sIf, sNever, sAsg, sAsgN, sPar, sAug, sApp, sFldS, sFor, dC, dVar, dOwn, d2, d2O, oI, oIC, oAdd, oSub, oMul, oFdiv, oMod, oPow, oLt, oLe, oGt, oGe, oIsN, oNotN, oIn, oNin, oIx, oCatT, dTest, dAnd, dOr, dNot, dAndV, dOrV, dNotV, dIfE, dTru, dNil, dCons, dTup, dLst, dFld, dCB, dCB1, cLen, cAbs, cInt, cMax2, cMin2, cSum, cList, cTuple, cAny, cAll, dNoPart, dPart, dSl, dRev, dTupRev, dFrz, dLstN, dListN, dPop, gdName, gdNil, gdCons, gdTup, gdSub, dCall, dIsiT, dCallH, dMeth, iSeq, iEnumD, iR1, iR2, iR3, dLcN, dLc, dYes, dNeg, dChain, items_lst, items_tup]
  simp [items_lst]
  exact ⟨_, atI_rows_last h0, min_row q⟩
theorem sp_leastfault (e : Fx K mg) {st : D} {cs : List (List Int)} {br bd v : Int} {n : Nat} {ps : List Nat} {Q : D → Prop} (hb : 0 ≤ bd ∧ bd ≤ 1000000) (hc : ∀ c ∈ cs, c.length ≤ 1000000) (hn : n ≤ 1000000) (hp : Path n cs.length ps) (h0 : cs ≠ []) (hl : cs.length ≤ 1000000) (hv : cost bd (cs.map fun c => own c br) ps = v)
    (hm : v = mn (S bd n (cs.map fun c => own c br).reverse) n) (q : Q .non) : p_least_fault K [waD K st cs ((n : Int) + 2), prD K br bd, crD K v (plc ps), .lst (rowsD bd n (cs.map fun c => own c br))] Q := by
  refine ⟨rfl, ?_⟩
  simp only [td_least_fault, pD, pH, pI, startG, startH, startI, sNext, sSeq, sBrk, sCnt, sDrop, sRet, sRetN, sIf, sNever, sAsg, sAsgN, sPar, sAug, sApp, sFldS, sFor, dC, dVar, dOwn, d2, d2O, oI, oIC, oAdd, oSub, oMul, oFdiv, oMod, oPow, oLt, oLe, oGt, oGe, oIsN, oNotN, oIn, oNin, oIx, oCatT, dTest, dAnd, dOr, dNot, dAndV, dOrV, dNotV, dIfE, dTru, dNil, dCons, dTup, dLst, dFld, dCB, dCB1, cLen, cAbs, cInt, cMax2, cMin2, cSum, cList, cTuple, cAny, cAll, dNoPart, dPart, dSl, dRev, dTupRev, dFrz, dLstN, dListN, dPop, gdName, gdNil, gdCons, gdTup, gdSub, dCall, dIsiT, dCallH, dMeth, iSeq, iEnumD, iR1, iR2, iR3, dLcN, dLc, dYes, dNeg, dChain, items_lst, items_tup]
  simp [f_crD_price e, D.isN]
  refine sp_crackfault e hb hc hn hp h0 hv ?_
  simp
  refine sp_floor e hb.1 hc hn h0 hl rfl (rowsOk_rows ..) ?_
  simp
  refine sp_bound (by simpa using h0) ?_
  rw [← hm]
  exact ⟨_, rfl, Int.le_refl _, q⟩
/-! counting -/
def tabD (f g : Nat → Int) (n : Nat) : List D := (List.range (n + 1)).map fun k => .tup [.int (f k), .int (g k)]
theorem tabD_len (f g : Nat → Int) (n : Nat) : (tabD f g n).length = n + 1 := by simp [tabD]
theorem atI_tab {f g : Nat → Int} {n : Nat} {i : Int} (h : 0 ≤ i) (h2 : i ≤ n) : L2.atI (tabD f g n) i = some (.tup [.int (f i.toNat), .int (g i.toNat)]) := atI_nat h (by
  unfold tabD
  rw [List.getElem?_map, List.getElem?_range (by omega)]
  rfl)
theorem lc_filter {i : Nat} {Γ : List Sl} {dt : TDT} {td : TD} {Q : List D → Prop} (t : D → Bool) (f : D → D) : ∀ {items acc : List D}, (∀ x ∈ items, ∀ Qd : Bool → List Sl → Prop, Qd (t x) (Γ.set i (.val x)) → dt (Γ.set i (.val x)) Qd) → (∀ x ∈ items, t x = true → ∀ Qd : D → List Sl → Prop, Qd (f x) (Γ.set i (.val x)) → td (Γ.set i (.val x)) Qd) →
    acc.length + items.length ≤ 16000000 → Q (acc ++ (items.filter t).map f) → lcL (gdName i) dt td Γ Q items acc
  | [], acc, _, _, _, q => by simpa [lcL] using q
  | x :: xs, acc, ht, h, hl, q => by
    show gdName i x Γ _
    unfold gdName
    refine ht x (List.mem_cons_self ..) _ ⟨rfl, ?_⟩
    rw [List.length_cons] at hl
    by_cases c : t x = true
    · rw [if_pos c]
      refine h x (List.mem_cons_self ..) c _ ⟨rfl, by omega, ?_⟩
      refine lc_filter t f (fun y hy => ht y (List.mem_cons_of_mem _ hy)) (fun y hy => h y (List.mem_cons_of_mem _ hy)) (by rw [List.length_append, List.length_singleton]; omega) ?_
      rw [List.filter_cons, if_pos c] at q
      rw [List.append_assoc]
      exact q
    · rw [if_neg c]
      refine lc_filter t f (fun y hy => ht y (List.mem_cons_of_mem _ hy)) (fun y hy => h y (List.mem_cons_of_mem _ hy)) (by omega) ?_
      rw [List.filter_cons, if_neg c] at q
      exact q
theorem sum_sm (f g : Nat → Int) (m : Int) : ∀ n : Nat, (((List.range n).filter fun k => decide (f k = m)).map g).sum = sm (fun k => if f k = m then g k else 0) n
  | 0 => rfl
  | n + 1 => by
    rw [List.range_succ, List.filter_append, List.map_append, List.sum_append, sum_sm f g m n]
    show _ + _ = sm _ n + (if f n = m then g n else 0)
    by_cases c : f n = m
    · simp [c]
    · simp [c]
/-- [row[1] for row in table if row[0] == least] -/
theorem lc_tab {i : Nat} {Γ : List Sl} {Q : List D → Prop} {f g : Nat → Int} {n l : Nat} {m : Int} (hn : n ≤ 1000000) (hi : i < Γ.length) (hl : i ≠ l) (hm : Γ[l]? = some (.val (.int m))) (q : Q (nums (((List.range (n + 1)).filter fun k => decide (f k = m)).map g))) :
    lcL (gdName i) (dTest (d2 oEq (d2 oIx (dVar i) (dC (.int 0))) (dVar l))) (d2 oIx (dVar i) (dC (.int 1))) Γ Q (tabD f g n) [] := by
  have key : ∀ x ∈ tabD f g n, ∃ a b : Int, x = .tup [.int a, .int b] := fun x hx => by
    obtain ⟨k, _, rfl⟩ := List.mem_map.mp (show x ∈ (List.range (n + 1)).map fun k => D.tup [.int (f k), .int (g k)] from hx)
    exact ⟨_, _, rfl⟩
  refine lc_filter (fun x => match x with | .tup [.int a, .int b] => decide (a = m) | _ => false) (fun x => match x with | .tup [.int a, .int b] => .int b | d => d) (fun x hx Qd hq => ?_) (fun x hx _ Qd hq => ?_) (by simp [tabD_len]; omega) ?_
  · obtain ⟨a, b, rfl⟩ := key x hx
    have g1 : (Γ.set i (.val (.tup [.int a, .int b])))[i]? = some (.val (.tup [.int a, .int b])) := List.getElem?_set_self hi
    have g2 : (Γ.set i (.val (.tup [.int a, .int b])))[l]? = some (.val (.int m)) := by rw [List.getElem?_set_ne hl]; exact hm
    refine ⟨_, g1, _, _, _, rfl, rfl, rfl, _, g2, ?_⟩
    exact oEq_int.mpr ⟨_, rfl, hq⟩
  · obtain ⟨a, b, rfl⟩ := key x hx
    have g1 : (Γ.set i (.val (.tup [.int a, .int b])))[i]? = some (.val (.tup [.int a, .int b])) := List.getElem?_set_self hi
    exact ⟨_, g1, _, _, _, rfl, rfl, rfl, hq⟩
  · have : ((tabD f g n).filter fun x => match x with | .tup [.int a, .int b] => decide (a = m) | _ => false).map (fun x => match x with | .tup [.int a, .int b] => .int b | d => d) = nums (((List.range (n + 1)).filter fun k => decide (f k = m)).map g) := by
      unfold tabD nums
      rw [List.filter_map, List.map_map, List.map_map]
      rfl
    rw [List.nil_append, this]
    exact q
theorem lc_tab0 {i : Nat} {Γ : List Sl} {Q : List D → Prop} {f g : Nat → Int} {n : Nat} (hn : n ≤ 1000000) (hi : i < Γ.length) (q : Q (nums (row f n))) : lcL (gdName i) dYes (d2 oIx (dVar i) (dC (.int 0))) Γ Q (tabD f g n) [] := by
  refine lc_all (fun x => match x with | .tup [.int a, .int b] => .int a | d => d) (fun x hx Qd hq => ?_) (by simp [tabD_len]; omega) ?_
  · obtain ⟨k, _, rfl⟩ := List.mem_map.mp (show x ∈ (List.range (n + 1)).map fun k => D.tup [.int (f k), .int (g k)] from hx)
    have g1 : (Γ.set i (.val (.tup [.int (f k), .int (g k)])))[i]? = some (.val (.tup [.int (f k), .int (g k)])) := List.getElem?_set_self hi
    exact ⟨_, g1, _, _, _, rfl, rfl, rfl, hq⟩
  · have : (tabD f g n).map (fun x => match x with | .tup [.int a, .int b] => .int a | d => d) = nums (row f n) := by
      unfold tabD nums row
      rw [List.map_map, List.map_map]
      rfl
    rw [this]
    exact q
theorem sp_counted {f g : Nat → Int} {n at_ : Nat} {price bd : Int} {Q : D → Prop} (hb : 0 ≤ bd ∧ bd ≤ 1000000) (hn : n ≤ 1000000)
    (q : Q (.tup [.int (mn (fun j => f j + bd * ab ((j : Int) - at_)) n + price), .int (sm (fun j => if f j + bd * ab ((j : Int) - at_) = mn (fun j => f j + bd * ab ((j : Int) - at_)) n then g j else 0) (n + 1))])) : p_counted_place K [.lst (tabD f g n), .int (at_ : Nat), .int price, .int bd] Q := by
  refine ⟨rfl, ?_⟩
  simp only [td_counted_place, pD, pH, pI, startG, startH, startI, sNext, sSeq, sBrk, sCnt, sDrop, sRet, sRetN, sIf, sNever, sAsg, sAsgN, sPar, sAug, sApp, sFldS, sFor, dC, dVar, dOwn, d2, d2O, oI, oIC, oAdd, oSub, oMul, oFdiv, oMod, oPow, oLt, oLe, oGt, oGe, oIsN, oNotN, oIn, oNin, oIx, oCatT, dTest, dAnd, dOr, dNot, dAndV, dOrV, dNotV, dIfE, dTru, dNil, dCons, dTup, dLst, dFld, dCB, dCB1, cLen, cAbs, cInt, cMax2, cMin2, cSum, cList, cTuple, cAny, cAll, dNoPart, dPart, dSl, dRev, dTupRev, dFrz, dLstN, dListN, dPop, gdName, gdNil, gdCons, gdTup, gdSub, dCall, dIsiT, dCallH, dMeth, iSeq, iEnumD, iR1, iR2, iR3, dLcN, dLc, dYes, dNeg, dChain, items_lst, items_tup]
  simp [items_lst, tabD_len]
  refine ⟨by omega, rfl, ?_⟩
  simp only [wipS, List.set_cons_succ, List.set_cons_zero]
  refine lc_rng (fun k => .tup [.int (f k + bd * ab ((k : Int) - at_)), .int (g k)]) (fun k hk Qd hq => ?_) (by omega) ?_
  · have z := atI_tab (f := f) (g := g) (n := n) (i := (k : Nat)) (by omega) (by omega)
    have z0 : ∀ x y : Int, L2.atI [D.int x, D.int y] 0 = some (.int x) := fun _ _ => rfl
    have z1 : ∀ x y : Int, L2.atI [D.int x, D.int y] 1 = some (.int y) := fun _ _ => rfl
    simp [pD, pH, pI, startG, startH, startI, sNext, sSeq, sBrk, sCnt, sDrop, sRet, sRetN, sIf, sNever, sAsg, sAsgN, sPar, sAug, sApp, sFldS, sFor, dC, dVar, dOwn, d2, d2O, oI, oIC, oAdd, oSub, oMul, oFdiv, oMod, oPow, oLt, oLe, oGt, oGe, oIsN, oNotN, oIn, oNin, oIx, oCatT, dTest, dAnd, dOr, dNot, dAndV, dOrV, dNotV, dIfE, dTru, dNil, dCons, dTup, dLst, dFld, dCB, dCB1, cLen, cAbs, cInt, cMax2, cMin2, cSum, cList, cTuple, cAny, cAll, dNoPart, dPart, dSl, dRev, dTupRev, dFrz, dLstN, dListN, dPop, gdName, gdNil, gdCons, gdTup, gdSub, dCall, dIsiT, dCallH, dMeth, iSeq, iEnumD, iR1, iR2, iR3, dLcN, dLc, dYes, dNeg, dChain, items_lst, items_tup, items_lst, items_tup, z, z0, z1, and_assoc]
    refine ⟨cm_l hb, ?_⟩
    simpa [ab] using hq
  · refine ⟨rfl, lc_tab0 (f := fun k => f k + bd * ab ((k : Int) - at_)) (g := g) hn (by simp) ?_⟩
    refine min_row ?_
    refine ⟨_, rfl, rfl, ?_⟩
    refine lc_tab (f := fun k => f k + bd * ab ((k : Int) - at_)) (g := g) (l := 5) hn (by simp) (by decide) rfl ?_
    refine ⟨_, rfl, ?_⟩
    rw [sum_sm]
    exact q
def tabS (bd : Int) (n : Nat) (os : List (Nat → Int)) : D := .lst (tabD (S bd n os) (C bd n os) n)
theorem lp_count (e : Fx K mg) {W : EndsD} {st : D} {cs0 : List (List Int)} {br bd : Int} {n : Nat} (hb : 0 ≤ bd ∧ bd ≤ 1000000) (hn : n ≤ 1000000) {R : D} {u v w : Sl}
    (h : ∀ x y, W.nx [.val (waD K st cs0 ((n : Int) + 2)), .val (prD K br bd), .val R, x, y, u, v, .un, w]) :
    ∀ (cs : List (List Int)) (o : Nat → Int) (L : List (Nat → Int)) (x y : Sl), (∀ c ∈ cs, c.length ≤ 1000000) → tabS bd n ((cs.map fun c => own c br).reverse ++ o :: L) = R →
      forL (gdName 3) (lb_count_cracks_0 K) W (csD cs) [.val (waD K st cs0 ((n : Int) + 2)), .val (prD K br bd), .val (tabS bd n (o :: L)), x, y, u, v, .un, w]
  | [], o, L, x, y, _, hR => by
    simp at hR
    subst hR
    exact h x y
  | c :: cs, o, L, x, y, hc, hR => by
    have ih := lp_count e hb hn h cs (own c br) (o :: L) (.val (.tup (nums c))) (.val (.lst (nums (row (own c br) n)))) (fun c hc' => hc c (List.mem_cons_of_mem _ hc')) (by
      rw [← hR]
      congr 1
      simp)
    show gdName 3 (.tup (nums c)) _ _
    simp [gdName, lb_count_cracks_0, pD, pH, pI, startG, startH, startI, sNext, sSeq, sBrk, sCnt, sDrop, sRet, sRetN, sIf, sNever, sAsg, sAsgN, sPar, sAug, sApp, sFldS, sFor, dC, dVar, dOwn, d2, d2O, oI, oIC, oAdd, oSub, oMul, oFdiv, oMod, oPow, oLt, oLe, oGt, oGe, oIsN, oNotN, oIn, oNin, oIx, oCatT, dTest, dAnd, dOr, dNot, dAndV, dOrV, dNotV, dIfE, dTru, dNil, dCons, dTup, dLst, dFld, dCB, dCB1, cLen, cAbs, cInt, cMax2, cMin2, cSum, cList, cTuple, cAny, cAll, dNoPart, dPart, dSl, dRev, dTupRev, dFrz, dLstN, dListN, dPop, gdName, gdNil, gdCons, gdTup, gdSub, dCall, dIsiT, dCallH, dMeth, iSeq, iEnumD, iR1, iR2, iR3, dLcN, dLc, dYes, dNeg, dChain, items_lst, items_tup, f_waD_length e, items_lst]
    refine sp_place e (hc c (List.mem_cons_self ..)) hn ?_
    refine ⟨_, rfl, by rw [nums_len, row_len]; omega, rfl, ?_⟩
    simp only [wipS, List.set_cons_succ, List.set_cons_zero]
    rw [nums_len, row_len]
    refine lc_rng (fun k => .tup [.int (S bd n (own c br :: o :: L) k), .int (C bd n (own c br :: o :: L) k)]) (fun k hk Qd hq => ?_) (by omega) ?_
    · have z := atI_row (f := own c br) (n := n) (i := (k : Nat)) (by omega) (by omega)
      simp [pD, pH, pI, startG, startH, startI, sNext, sSeq, sBrk, sCnt, sDrop, sRet, sRetN, sIf, sNever, sAsg, sAsgN, sPar, sAug, sApp, sFldS, sFor, dC, dVar, dOwn, d2, d2O, oI, oIC, oAdd, oSub, oMul, oFdiv, oMod, oPow, oLt, oLe, oGt, oGe, oIsN, oNotN, oIn, oNin, oIx, oCatT, dTest, dAnd, dOr, dNot, dAndV, dOrV, dNotV, dIfE, dTru, dNil, dCons, dTup, dLst, dFld, dCB, dCB1, cLen, cAbs, cInt, cMax2, cMin2, cSum, cList, cTuple, cAny, cAll, dNoPart, dPart, dSl, dRev, dTupRev, dFrz, dLstN, dListN, dPop, gdName, gdNil, gdCons, gdTup, gdSub, dCall, dIsiT, dCallH, dMeth, iSeq, iEnumD, iR1, iR2, iR3, dLcN, dLc, dYes, dNeg, dChain, items_lst, items_tup, items_lst, z, f_prD_bed e]
      refine sp_counted hb hn ?_
      simp at hq
      exact hq
    · exact ih
theorem sp_count (e : Fx K mg) {st : D} {c : List Int} {cs : List (List Int)} {br bd : Int} {n : Nat} {Q : D → Prop} (hb : 0 ≤ bd ∧ bd ≤ 1000000) (hc : ∀ d ∈ c :: cs, d.length ≤ 1000000) (hn : n ≤ 1000000)
    (q : Q (.tup [.int (mn (S bd n ((c :: cs).map fun c => own c br).reverse) n), .int (cnt bd n ((c :: cs).map fun c => own c br).reverse (mn (S bd n ((c :: cs).map fun c => own c br).reverse) n))])) : p_count_cracks K [waD K st (c :: cs) ((n : Int) + 2), prD K br bd] Q := by
  refine ⟨rfl, ?_⟩
  have z2 : L2.atI (List.map (fun c => D.tup (nums c)) (c :: cs)) 0 = some (.tup (nums c)) := atI_nat (by omega) rfl
  simp only [td_count_cracks, pD, pH, pI, startG, startH, startI, sNext, sSeq, sBrk, sCnt, sDrop, sRet, sRetN, sIf, sNever, sAsg, sAsgN, sPar, sAug, sApp, sFldS, sFor, dC, dVar, dOwn, d2, d2O, oI, oIC, oAdd, oSub, oMul, oFdiv, oMod, oPow, oLt, oLe, oGt, oGe, oIsN, oNotN, oIn, oNin, oIx, oCatT, dTest, dAnd, dOr, dNot, dAndV, dOrV, dNotV, dIfE, dTru, dNil, dCons, dTup, dLst, dFld, dCB, dCB1, cLen, cAbs, cInt, cMax2, cMin2, cSum, cList, cTuple, cAny, cAll, dNoPart, dPart, dSl, dRev, dTupRev, dFrz, dLstN, dListN, dPop, gdName, gdNil, gdCons, gdTup, gdSub, dCall, dIsiT, dCallH, dMeth, iSeq, iEnumD, iR1, iR2, iR3, dLcN, dLc, dYes, dNeg, dChain, items_lst, items_tup]
  simp [f_waD_length e, f_waD_courses e, items_tup, z2]
  refine sp_long (by omega) ?_
  refine ⟨_, z2, ?_⟩
  refine sp_place e (hc c (List.mem_cons_self ..)) hn ?_
  refine ⟨_, rfl, rfl, ?_⟩
  simp only [wipS, List.set_cons_succ, List.set_cons_zero]
  refine lc_nums (fun x => .tup [.int x, .int 1]) (fun x hx Qd hq => ?_) (by rw [row_len]; omega) ?_
  · simp [pD, pH, pI, startG, startH, startI, sNext, sSeq, sBrk, sCnt, sDrop, sRet, sRetN, sIf, sNever, sAsg, sAsgN, sPar, sAug, sApp, sFldS, sFor, dC, dVar, dOwn, d2, d2O, oI, oIC, oAdd, oSub, oMul, oFdiv, oMod, oPow, oLt, oLe, oGt, oGe, oIsN, oNotN, oIn, oNin, oIx, oCatT, dTest, dAnd, dOr, dNot, dAndV, dOrV, dNotV, dIfE, dTru, dNil, dCons, dTup, dLst, dFld, dCB, dCB1, cLen, cAbs, cInt, cMax2, cMin2, cSum, cList, cTuple, cAny, cAll, dNoPart, dPart, dSl, dRev, dTupRev, dFrz, dLstN, dListN, dPop, gdName, gdNil, gdCons, gdTup, gdSub, dCall, dIsiT, dCallH, dMeth, iSeq, iEnumD, iR1, iR2, iR3, dLcN, dLc, dYes, dNeg, dChain, items_lst, items_tup]
    simpa using hq
  · have e1 : (row (own c br) n).map (fun x => D.tup [.int x, .int 1]) = tabD (S bd n [own c br]) (C bd n [own c br]) n := by
      unfold row tabD
      rw [List.map_map]
      rfl
    rw [e1, cut_tail]
    refine lp_count e hb hn (R := tabS bd n ((c :: cs).map fun c => own c br).reverse) (fun x y => ?_) cs (own c br) [] .un .un (fun d hd => hc d (List.mem_cons_of_mem _ hd)) (by simp)
    obtain ⟨o, L, e2⟩ : ∃ o L, ((c :: cs).map fun c => own c br).reverse = o :: L := by
      cases q : ((c :: cs).map fun c => own c br).reverse with
      | nil => simp at q
      | cons o L => exact ⟨o, L, rfl⟩
    rw [e2] at q ⊢
    simp only [sSeq, sAsg, dCB1, dLc, dLcN, iSeq, dVar]
    refine ⟨_, rfl, _, rfl, rfl, ?_⟩
    simp only [wipS, List.set_cons_succ, List.set_cons_zero]
    refine lc_tab0 hn (by simp) ?_
    refine min_row ?_
    simp only [gdName, sRet, dTup, dCons, dCB1, dLc, dLcN, iSeq, dVar, dNil]
    refine ⟨_, rfl, _, rfl, _, rfl, rfl, ?_⟩
    simp only [wipS, List.set_cons_succ, List.set_cons_zero]
    refine lc_tab (l := 5) hn (by simp) (by decide) rfl ?_
    refine ⟨_, _, rfl, rfl, by simp, ?_⟩
    rw [sum_sm, cnt_eq]
    exact q
end
end K96
set_option Elab.async false
set_option linter.all false
set_option maxRecDepth 100000
set_option maxHeartbeats 1000000
namespace K96
open PySem PySem.Spec L2 L2R DL CM
open PyProof.Rows hiding St
section
variable {K : PySem.W.Frag} {mg : PySem.Str → Option Value}
structure CrOk (bs : List Int) (c : List Int) : Prop where
  l1 : 1 ≤ c.length
  l2 : c.length ≤ 400
  inb : ∀ b ∈ c, b ∈ bs
  sum : c.sum ≤ 400
theorem lp_course (e : Fx K mg) {W : EndsD} {bs : List Int} {la re : Int} {P : Sl} (h : ∀ x y, W.nx [.val (stD K bs la re), P, x, y]) :
    ∀ (c : List Int) (k : Nat) (x y : Sl), (∀ b ∈ c, b ∈ bs) → forL (gdTup 2 (gdCons (gdName 2) (gdCons (gdName 3) gdNil))) (lb_check_course_0 K) W (((nums c).zipIdx k).map fun p => .tup [.int (p.2 : Nat), p.1]) [.val (stD K bs la re), P, x, y]
  | [], k, x, y, _ => h x y
  | b :: c, k, x, y, hb => by
    have ih := lp_course e h c (k + 1) (.val (.int (k : Nat))) (.val (.int b)) fun x hx => hb x (List.mem_cons_of_mem _ hx)
    have hb0 := hb b (List.mem_cons_self ..)
    show forL _ _ W (((D.int b :: nums c).zipIdx k).map fun p => .tup [.int (p.2 : Nat), p.1]) _
    rw [zip_cons]
    simp only [forL, gdTup, gdCons, gdName, gdNil]
    refine ⟨_, rfl, rfl, _, _, rfl, _, _, rfl, rfl, ?_⟩
    simp only [lb_check_course_0, pD, pH, pI, startG, startH, startI, sNext, sSeq, sBrk, sCnt, sDrop, sRet, sRetN, sIf, sNever, sAsg, sAsgN, sPar, sAug, sApp, sFldS, sFor, dC, dVar, dOwn, d2, d2O, oI, oIC, oAdd, oSub, oMul, oFdiv, oMod, oPow, oLt, oLe, oGt, oGe, oIsN, oNotN, oIn, oNin, oIx, oCatT, dTest, dAnd, dOr, dNot, dAndV, dOrV, dNotV, dIfE, dTru, dNil, dCons, dTup, dLst, dFld, dCB, dCB1, cLen, cAbs, cInt, cMax2, cMin2, cSum, cList, cTuple, cAny, cAll, dNoPart, dPart, dSl, dRev, dTupRev, dFrz, dLstN, dListN, dPop, gdName, gdNil, gdCons, gdTup, gdSub, dCall, dIsiT, dCallH, dMeth, iSeq, iEnumD, iR1, iR2, iR3, dLcN, dLc, dYes, dNeg, dChain, items_lst, items_tup]
    simp [f_stD_bricks e, items_tup, and_assoc]
    refine sp_whole0 ?_
    refine ⟨rfl, bs, rfl, ?_⟩
    exact ⟨hb0, ih⟩
theorem sp_course (e : Fx K mg) {bs c : List Int} {la re : Int} {P : D} {Q : D → Prop} (hP : items P = some (nums c)) (ok : CrOk bs c) (q : Q (.tup (nums c))) : p_check_course K [stD K bs la re, P] Q := by
  refine ⟨rfl, ?_⟩
  have h1 := ok.l1
  have h2 := ok.l2
  have h3 := ok.sum
  simp only [td_check_course, pD, pH, pI, startG, startH, startI, sNext, sSeq, sBrk, sCnt, sDrop, sRet, sRetN, sIf, sNever, sAsg, sAsgN, sPar, sAug, sApp, sFldS, sFor, dC, dVar, dOwn, d2, d2O, oI, oIC, oAdd, oSub, oMul, oFdiv, oMod, oPow, oLt, oLe, oGt, oGe, oIsN, oNotN, oIn, oNin, oIx, oCatT, dTest, dAnd, dOr, dNot, dAndV, dOrV, dNotV, dIfE, dTru, dNil, dCons, dTup, dLst, dFld, dCB, dCB1, cLen, cAbs, cInt, cMax2, cMin2, cSum, cList, cTuple, cAny, cAll, dNoPart, dPart, dSl, dRev, dTupRev, dFrz, dLstN, dListN, dPop, gdName, gdNil, gdCons, gdTup, gdSub, dCall, dIsiT, dCallH, dMeth, iSeq, iEnumD, iR1, iR2, iR3, dLcN, dLc, dYes, dNeg, dChain, items_lst, items_tup]
  simp [isiT_iff hP, hP, items_tup]
  refine ⟨by omega, by omega, ?_⟩
  refine lp_course e (fun x y => ?_) c 0 .un .un ok.inb
  simp [sSeq, sIf, dTest, d2, oI, dCB1, cSum, dVar, dC, sNever, sNext, sRet, cTuple, hP]
  refine ⟨c, rfl, ?_⟩
  exact ⟨h3, q⟩
/-- courses as one hands them in -/
inductive All2' : List D → List (List Int) → Prop
  | nil : All2' [] []
  | cons {d : D} {c : List Int} {ds : List D} {cs : List (List Int)} (h : items d = some (nums c)) (t : All2' ds cs) : All2' (d :: ds) (c :: cs)
theorem All2'.len : ∀ {ds : List D} {cs : List (List Int)}, All2' ds cs → ds.length = cs.length
  | _, _, .nil => rfl
  | _, _, .cons _ t => by rw [List.length_cons, List.length_cons, t.len]
theorem All2'.tup : ∀ cs : List (List Int), All2' (csD cs) cs
  | [] => .nil
  | c :: cs => .cons rfl (All2'.tup cs)
theorem All2'.lst : ∀ cs : List (List Int), All2' (cs.map fun c => .lst (nums c)) cs
  | [] => .nil
  | c :: cs => .cons rfl (All2'.lst cs)
structure WaOk (bs : List Int) (cs : List (List Int)) (L : Int) : Prop where
  ne : cs ≠ []
  many : cs.length ≤ 60
  ok : ∀ c ∈ cs, CrOk bs c
  sum : ∀ c ∈ cs, c.sum = L
theorem lp_Wall (e : Fx K mg) {W : EndsD} {bs : List Int} {la re L : Int} {A P : Sl} {R : List (List Int)} (h : ∀ x y z, W.nx [A, .val (stD K bs la re), P, .own (csD R), x, y, z]) :
    ∀ (ds : List D) (cs acc : List (List Int)) (k : Nat) (x y z : Sl), All2' ds cs → (∀ c ∈ acc ++ cs, c.sum = L) → (∀ c ∈ cs, CrOk bs c) → acc.length + cs.length ≤ 1000 → acc ++ cs = R →
      forL (gdTup 2 (gdCons (gdName 4) (gdCons (gdName 5) gdNil))) (lb_Wall_init_0 K) W ((ds.zipIdx k).map fun p => .tup [.int (p.2 : Nat), p.1]) [A, .val (stD K bs la re), P, .own (csD acc), x, y, z]
  | _, _, acc, k, x, y, z, .nil, _, _, _, hR => by
    simp at hR
    subst hR
    exact h x y z
  | _, _, acc, k, x, y, z, @All2'.cons d c ds cs hd t, hs, hc, hl, hR => by
    have ih := lp_Wall e h ds cs (acc ++ [c]) (k + 1) (.val (.int (k : Nat))) (.val d) (.val (.tup (nums c))) t (by simpa using hs) (fun c hc' => hc c (List.mem_cons_of_mem _ hc')) (by simp at hl ⊢; omega) (by simpa using hR)
    rw [zip_cons]
    simp only [forL, gdTup, gdCons, gdName, gdNil]
    refine ⟨_, rfl, rfl, _, _, rfl, _, _, rfl, rfl, ?_⟩
    simp only [lb_Wall_init_0, pD, pH, pI, startG, startH, startI, sNext, sSeq, sBrk, sCnt, sDrop, sRet, sRetN, sIf, sNever, sAsg, sAsgN, sPar, sAug, sApp, sFldS, sFor, dC, dVar, dOwn, d2, d2O, oI, oIC, oAdd, oSub, oMul, oFdiv, oMod, oPow, oLt, oLe, oGt, oGe, oIsN, oNotN, oIn, oNin, oIx, oCatT, dTest, dAnd, dOr, dNot, dAndV, dOrV, dNotV, dIfE, dTru, dNil, dCons, dTup, dLst, dFld, dCB, dCB1, cLen, cAbs, cInt, cMax2, cMin2, cSum, cList, cTuple, cAny, cAll, dNoPart, dPart, dSl, dRev, dTupRev, dFrz, dLstN, dListN, dPop, gdName, gdNil, gdCons, gdTup, gdSub, dCall, dIsiT, dCallH, dMeth, iSeq, iEnumD, iR1, iR2, iR3, dLcN, dLc, dYes, dNeg, dChain, items_lst, items_tup]
    simp [items_tup, and_assoc]
    refine sp_course e hd (hc c (List.mem_cons_self ..)) ?_
    have ea : csD (acc ++ [c]) = csD acc ++ [.tup (nums c)] := by simp [csD]
    rw [ea] at ih
    have hl2 : acc.length < 16000000 := by omega
    have hcl : (csD acc).length < 16000000 := by simp [csD]; omega
    cases acc with
    | nil =>
      rw [if_pos (show csD [] = [] from rfl)]
      exact ⟨hcl, ih⟩
    | cons a acc =>
      rw [if_neg (by simp [csD])]
      have z : L2.atI (csD (a :: acc)) 0 = some (.tup (nums a)) := atI_nat (by omega) rfl
      refine ⟨c, rfl, _, z, a, rfl, ?_⟩
      refine oNe_int.mpr ⟨?_, hcl, ih⟩
      have s1 := hs c (by simp)
      have s2 := hs a (by simp)
      simp [s1, s2]
theorem sp_Wall (e : Fx K mg) {bs : List Int} {la re L : Int} {Cs : D} {ds : List D} {cs : List (List Int)} {Q : D → Prop} (hC : items Cs = some ds) (ha : All2' ds cs) (ok : WaOk bs cs L) (q : Q (waD K (stD K bs la re) cs L)) : p_Wall_init K [stD K bs la re, Cs] Q := by
  refine ⟨rfl, ?_⟩
  have h1 := ok.many
  have h2 : 0 < cs.length := List.length_pos_iff.mpr ok.ne
  have h3 := ha.len
  simp only [td_Wall_init, pD, pH, pI, startG, startH, startI, sNext, sSeq, sBrk, sCnt, sDrop, sRet, sRetN, sIf, sNever, sAsg, sAsgN, sPar, sAug, sApp, sFldS, sFor, dC, dVar, dOwn, d2, d2O, oI, oIC, oAdd, oSub, oMul, oFdiv, oMod, oPow, oLt, oLe, oGt, oGe, oIsN, oNotN, oIn, oNin, oIx, oCatT, dTest, dAnd, dOr, dNot, dAndV, dOrV, dNotV, dIfE, dTru, dNil, dCons, dTup, dLst, dFld, dCB, dCB1, cLen, cAbs, cInt, cMax2, cMin2, cSum, cList, cTuple, cAny, cAll, dNoPart, dPart, dSl, dRev, dTupRev, dFrz, dLstN, dListN, dPop, gdName, gdNil, gdCons, gdTup, gdSub, dCall, dIsiT, dCallH, dMeth, iSeq, iEnumD, iR1, iR2, iR3, dLcN, dLc, dYes, dNeg, dChain, items_lst, items_tup]
  simp [isiT_iff hC, hC]
  refine ⟨by omega, by omega, ?_⟩
  refine lp_Wall e (L := L) (R := cs) (fun x y z => ?_) ds cs [] 0 .un .un .un ha (by simpa using ok.sum) ok.ok (by simp; omega) (by simp)
  obtain ⟨c, cs', rfl⟩ : ∃ c cs', cs = c :: cs' := by
    cases cs with
    | nil => exact absurd rfl ok.ne
    | cons c cs' => exact ⟨c, cs', rfl⟩
  have z : L2.atI (csD (c :: cs')) 0 = some (.tup (nums c)) := atI_nat (by omega) rfl
  have hs := ok.sum c (List.mem_cons_self ..)
  have n1 := e.na_Wall_stock
  have n2 := e.na_Wall_courses
  have n3 := e.na_Wall_length
  have n4 := e.c_Wall
  simp [sSeq, sFldS, dVar, n1, n2, n3, n4, and_assoc, dCB1, dOwn, cTuple, items_lst, cSum, d2O, dC, oIx, items_tup, z]
  refine ⟨by decide, c, rfl, by decide, by decide, ?_⟩
  rw [hs]
  exact q
/-! what is made of walls -/
theorem sp_mirc {c : List Int} {Q : D → Prop} (q : Q (.tup (nums c.reverse))) : p_mirrored_course K [.tup (nums c)] Q := by
  refine ⟨rfl, ?_⟩
  simp only [td_mirrored_course, pD, pH, pI, startG, startH, startI, sNext, sSeq, sBrk, sCnt, sDrop, sRet, sRetN, sIf, sNever, sAsg, sAsgN, sPar, sAug, sApp, sFldS, sFor, dC, dVar, dOwn, d2, d2O, oI, oIC, oAdd, oSub, oMul, oFdiv, oMod, oPow, oLt, oLe, oGt, oGe, oIsN, oNotN, oIn, oNin, oIx, oCatT, dTest, dAnd, dOr, dNot, dAndV, dOrV, dNotV, dIfE, dTru, dNil, dCons, dTup, dLst, dFld, dCB, dCB1, cLen, cAbs, cInt, cMax2, cMin2, cSum, cList, cTuple, cAny, cAll, dNoPart, dPart, dSl, dRev, dTupRev, dFrz, dLstN, dListN, dPop, gdName, gdNil, gdCons, gdTup, gdSub, dCall, dIsiT, dCallH, dMeth, iSeq, iEnumD, iR1, iR2, iR3, dLcN, dLc, dYes, dNeg, dChain, items_lst, items_tup]
  simp [items_tup]
  have : (List.map D.int c).reverse = nums c.reverse := by unfold nums; rw [List.map_reverse]
  rw [this]
  exact q
theorem CrOk.rev {bs c : List Int} (h : CrOk bs c) : CrOk bs c.reverse := ⟨by rw [List.length_reverse]; exact h.l1, by rw [List.length_reverse]; exact h.l2, fun b hb => h.inb b (List.mem_reverse.mp hb), by rw [List.sum_reverse]; exact h.sum⟩
theorem sp_wmir (e : Fx K mg) {bs : List Int} {la re L : Int} {cs : List (List Int)} {Q : D → Prop} (ok : WaOk bs cs L) (q : Q (waD K (stD K bs la re) (cs.map List.reverse) L)) : p_wall_mirrored K [waD K (stD K bs la re) cs L] Q := by
  refine ⟨rfl, ?_⟩
  simp only [td_wall_mirrored, pD, pH, pI, startG, startH, startI, sNext, sSeq, sBrk, sCnt, sDrop, sRet, sRetN, sIf, sNever, sAsg, sAsgN, sPar, sAug, sApp, sFldS, sFor, dC, dVar, dOwn, d2, d2O, oI, oIC, oAdd, oSub, oMul, oFdiv, oMod, oPow, oLt, oLe, oGt, oGe, oIsN, oNotN, oIn, oNin, oIx, oCatT, dTest, dAnd, dOr, dNot, dAndV, dOrV, dNotV, dIfE, dTru, dNil, dCons, dTup, dLst, dFld, dCB, dCB1, cLen, cAbs, cInt, cMax2, cMin2, cSum, cList, cTuple, cAny, cAll, dNoPart, dPart, dSl, dRev, dTupRev, dFrz, dLstN, dListN, dPop, gdName, gdNil, gdCons, gdTup, gdSub, dCall, dIsiT, dCallH, dMeth, iSeq, iEnumD, iR1, iR2, iR3, dLcN, dLc, dYes, dNeg, dChain, items_lst, items_tup]
  simp [f_waD_stock e, f_waD_courses e, items_tup]
  refine ⟨rfl, ?_⟩
  simp only [wipS, List.set_cons_succ, List.set_cons_zero]
  refine lc_all (fun d => match d with | .tup xs => .tup xs.reverse | d => d) (fun x hx Qd hq => ?_) (by have := ok.many; simp; omega) ?_
  · obtain ⟨c, _, rfl⟩ := List.mem_map.mp hx
    simp [pD, pH, pI, startG, startH, startI, sNext, sSeq, sBrk, sCnt, sDrop, sRet, sRetN, sIf, sNever, sAsg, sAsgN, sPar, sAug, sApp, sFldS, sFor, dC, dVar, dOwn, d2, d2O, oI, oIC, oAdd, oSub, oMul, oFdiv, oMod, oPow, oLt, oLe, oGt, oGe, oIsN, oNotN, oIn, oNin, oIx, oCatT, dTest, dAnd, dOr, dNot, dAndV, dOrV, dNotV, dIfE, dTru, dNil, dCons, dTup, dLst, dFld, dCB, dCB1, cLen, cAbs, cInt, cMax2, cMin2, cSum, cList, cTuple, cAny, cAll, dNoPart, dPart, dSl, dRev, dTupRev, dFrz, dLstN, dListN, dPop, gdName, gdNil, gdCons, gdTup, gdSub, dCall, dIsiT, dCallH, dMeth, iSeq, iEnumD, iR1, iR2, iR3, dLcN, dLc, dYes, dNeg, dChain, items_lst, items_tup]
    refine sp_mirc ?_
    have : (nums c).reverse = nums c.reverse := by unfold nums; rw [List.map_reverse]
    simp only [this] at hq
    simpa using hq
  · have e1 : ((cs.map fun c => D.tup (nums c)).map fun d => match d with | .tup xs => .tup xs.reverse | d => d) = csD (cs.map List.reverse) := by
      unfold csD nums
      rw [List.map_map, List.map_map]
      refine List.map_congr_left fun c _ => ?_
      show D.tup (c.map D.int).reverse = D.tup (c.reverse.map D.int)
      rw [List.map_reverse]
    rw [e1]
    refine sp_Wall e (L := L) rfl (All2'.tup _) ⟨by have := ok.ne; simpa using this, by rw [List.length_map]; exact ok.many, fun c hc => ?_, fun c hc => ?_⟩ q
    · obtain ⟨d, hd, rfl⟩ := List.mem_map.mp hc
      exact (ok.ok d hd).rev
    · obtain ⟨d, hd, rfl⟩ := List.mem_map.mp hc
      rw [List.sum_reverse]
      exact ok.sum d hd
theorem sp_up (e : Fx K mg) {bs : List Int} {la re L : Int} {cs : List (List Int)} {Q : D → Prop} (ok : WaOk bs cs L) (q : Q (waD K (stD K bs la re) cs.reverse L)) : p_upturned K [waD K (stD K bs la re) cs L] Q := by
  refine ⟨rfl, ?_⟩
  simp only [td_upturned, pD, pH, pI, startG, startH, startI, sNext, sSeq, sBrk, sCnt, sDrop, sRet, sRetN, sIf, sNever, sAsg, sAsgN, sPar, sAug, sApp, sFldS, sFor, dC, dVar, dOwn, d2, d2O, oI, oIC, oAdd, oSub, oMul, oFdiv, oMod, oPow, oLt, oLe, oGt, oGe, oIsN, oNotN, oIn, oNin, oIx, oCatT, dTest, dAnd, dOr, dNot, dAndV, dOrV, dNotV, dIfE, dTru, dNil, dCons, dTup, dLst, dFld, dCB, dCB1, cLen, cAbs, cInt, cMax2, cMin2, cSum, cList, cTuple, cAny, cAll, dNoPart, dPart, dSl, dRev, dTupRev, dFrz, dLstN, dListN, dPop, gdName, gdNil, gdCons, gdTup, gdSub, dCall, dIsiT, dCallH, dMeth, iSeq, iEnumD, iR1, iR2, iR3, dLcN, dLc, dYes, dNeg, dChain, items_lst, items_tup]
  simp [f_waD_stock e, f_waD_courses e]
  have e1 : (List.map (fun c => D.tup (nums c)) cs).reverse = csD cs.reverse := csD_rev cs
  rw [e1]
  exact sp_Wall e (L := L) rfl (All2'.tup _) ⟨by have := ok.ne; simpa using this, by rw [List.length_reverse]; exact ok.many, fun c hc => ok.ok c (List.mem_reverse.mp hc), fun c hc => ok.sum c (List.mem_reverse.mp hc)⟩ q
theorem sp_wlen (e : Fx K mg) {st : D} {cs : List (List Int)} {L : Int} {Q : D → Prop} (q : Q (.int (cs.length : Nat))) : p_Wall_len_ K [waD K st cs L] Q := by
  refine ⟨rfl, ?_⟩
  simp only [td_Wall_len_, pD, pH, pI, startG, startH, startI, sNext, sSeq, sBrk, sCnt, sDrop, sRet, sRetN, sIf, sNever, sAsg, sAsgN, sPar, sAug, sApp, sFldS, sFor, dC, dVar, dOwn, d2, d2O, oI, oIC, oAdd, oSub, oMul, oFdiv, oMod, oPow, oLt, oLe, oGt, oGe, oIsN, oNotN, oIn, oNin, oIx, oCatT, dTest, dAnd, dOr, dNot, dAndV, dOrV, dNotV, dIfE, dTru, dNil, dCons, dTup, dLst, dFld, dCB, dCB1, cLen, cAbs, cInt, cMax2, cMin2, cSum, cList, cTuple, cAny, cAll, dNoPart, dPart, dSl, dRev, dTupRev, dFrz, dLstN, dListN, dPop, gdName, gdNil, gdCons, gdTup, gdSub, dCall, dIsiT, dCallH, dMeth, iSeq, iEnumD, iR1, iR2, iR3, dLcN, dLc, dYes, dNeg, dChain, items_lst, items_tup]
  simp [f_waD_courses e, items_tup]
  exact q
theorem sp_lenO (e : Fx K mg) {st : D} {cs : List (List Int)} {L : Int} {Q : D → Prop} (h : cs.length ≤ 1000000) (q : Q (.int (cs.length : Nat))) : cLenO (He.ga K "Wall") (p_Wall_len_ K) [waD K st cs L] Q :=
  ⟨_, _, rfl, sp_wlen e ⟨_, rfl, by omega, by omega, q⟩⟩
end
end K96
set_option Elab.async false
set_option linter.all false
set_option maxRecDepth 100000
set_option maxHeartbeats 1000000
namespace K96
open PySem PySem.Spec L2 L2R DL CM
open PyProof.Rows hiding St
section
variable {K : PySem.W.Frag} {mg : PySem.Str → Option Value}
theorem sp_chnum (e : Fx K mg) {st : D} {cs : List (List Int)} {L : Int} {i : Nat} {Q : D → Prop} (h : cs.length ≤ 1000000) (hi : i < cs.length) (q : Q (.int (i : Nat))) : p_check_number K [waD K st cs L, .int (i : Nat)] Q := by
  refine ⟨rfl, ?_⟩
  simp only [td_check_number, pD, pH, pI, startG, startH, startI, sNext, sSeq, sBrk, sCnt, sDrop, sRet, sRetN, sIf, sNever, sAsg, sAsgN, sPar, sAug, sApp, sFldS, sFor, dC, dVar, dOwn, d2, d2O, oI, oIC, oAdd, oSub, oMul, oFdiv, oMod, oPow, oLt, oLe, oGt, oGe, oIsN, oNotN, oIn, oNin, oIx, oCatT, dTest, dAnd, dOr, dNot, dAndV, dOrV, dNotV, dIfE, dTru, dNil, dCons, dTup, dLst, dFld, dCB, dCB1, cLen, cAbs, cInt, cMax2, cMin2, cSum, cList, cTuple, cAny, cAll, dNoPart, dPart, dSl, dRev, dTupRev, dFrz, dLstN, dListN, dPop, gdName, gdNil, gdCons, gdTup, gdSub, dCall, dIsiT, dCallH, dMeth, iSeq, iEnumD, iR1, iR2, iR3, dLcN, dLc, dYes, dNeg, dChain, items_lst, items_tup]
  simp
  refine sp_lenO e h ?_
  refine ⟨_, rfl, ?_⟩
  refine sp_whole ?_ ?_ ?_
  · omega
  · omega
  · exact ⟨rfl, q⟩
theorem csD_get {cs : List (List Int)} {i : Nat} (hi : i < cs.length) : L2.atI (csD cs) (i : Int) = some (.tup (nums cs[i])) := atI_nat (by omega) (by
  show (csD cs)[i]? = _
  unfold csD
  rw [List.getElem?_map, List.getElem?_eq_getElem hi]
  rfl)
theorem csD_set {cs : List (List Int)} {i : Nat} {c : List Int} : (csD cs).set i (.tup (nums c)) = csD (cs.set i c) := by
  unfold csD
  rw [List.map_set]
theorem csD_len (cs : List (List Int)) : (csD cs).length = cs.length := by simp [csD]
theorem sp_exch (e : Fx K mg) {bs : List Int} {la re L : Int} {cs : List (List Int)} {i j : Nat} {Q : D → Prop} (ok : WaOk bs cs L) (hi : i < cs.length) (hj : j < cs.length) (q : Q (waD K (stD K bs la re) ((cs.set i cs[j]).set j cs[i]) L)) : p_exchanged K [waD K (stD K bs la re) cs L, .int (i : Nat), .int (j : Nat)] Q := by
  refine ⟨rfl, ?_⟩
  have hm := ok.many
  simp only [td_exchanged, pD, pH, pI, startG, startH, startI, sNext, sSeq, sBrk, sCnt, sDrop, sRet, sRetN, sIf, sNever, sAsg, sAsgN, sPar, sAug, sApp, sFldS, sFor, dC, dVar, dOwn, d2, d2O, oI, oIC, oAdd, oSub, oMul, oFdiv, oMod, oPow, oLt, oLe, oGt, oGe, oIsN, oNotN, oIn, oNin, oIx, oCatT, dTest, dAnd, dOr, dNot, dAndV, dOrV, dNotV, dIfE, dTru, dNil, dCons, dTup, dLst, dFld, dCB, dCB1, cLen, cAbs, cInt, cMax2, cMin2, cSum, cList, cTuple, cAny, cAll, dNoPart, dPart, dSl, dRev, dTupRev, dFrz, dLstN, dListN, dPop, gdName, gdNil, gdCons, gdTup, gdSub, dCall, dIsiT, dCallH, dMeth, iSeq, iEnumD, iR1, iR2, iR3, dLcN, dLc, dYes, dNeg, dChain, items_lst, items_tup]
  simp
  refine sp_chnum e (by omega) hi ?_
  refine sp_chnum e (by omega) hj ?_
  simp only [f_waD_courses e]
  have ec : (List.map (fun c => D.tup (nums c)) cs) = csD cs := rfl
  rw [ec]
  refine ⟨_, rfl, _, rfl, _, csD_get hj, i, ?_, _, rfl, _, csD_get hi, j, ?_, ?_⟩
  · rw [csD_len]
    exact ixN_lt (by omega) (by omega)
  · rw [csD_len]
    exact ixN_lt (by omega) (by omega)
  · simp only [f_waD_stock e]
    rw [csD_set, csD_set]
    refine sp_Wall e (L := L) rfl (All2'.tup _) ⟨?_, ?_, ?_, ?_⟩ q
    · intro z
      have := congrArg List.length z
      simp at this
      exact ok.ne this
    · simpa using hm
    · intro c hc
      rcases List.mem_or_eq_of_mem_set hc with hc | rfl
      · rcases List.mem_or_eq_of_mem_set hc with hc | rfl
        · exact ok.ok c hc
        · exact ok.ok _ (List.getElem_mem hj)
      · exact ok.ok _ (List.getElem_mem hi)
    · intro c hc
      rcases List.mem_or_eq_of_mem_set hc with hc | rfl
      · rcases List.mem_or_eq_of_mem_set hc with hc | rfl
        · exact ok.sum c hc
        · exact ok.sum _ (List.getElem_mem hj)
      · exact ok.sum _ (List.getElem_mem hi)
theorem sp_steq (e : Fx K mg) (hS : isB K "Stock" = true) {bs : List Int} {la re : Int} : p_Stock_eq K [stD K bs la re, stD K bs la re] fun r => r = .bl true := by
  obtain ⟨h1, h2⟩ := isB_ok e.c_Stock hS
  refine ⟨rfl, ?_⟩
  simp only [td_Stock_eq, pD, pH, pI, startG, startH, startI, sNext, sSeq, sBrk, sCnt, sDrop, sRet, sRetN, sIf, sNever, sAsg, sAsgN, sPar, sAug, sApp, sFldS, sFor, dC, dVar, dOwn, d2, d2O, oI, oIC, oAdd, oSub, oMul, oFdiv, oMod, oPow, oLt, oLe, oGt, oGe, oIsN, oNotN, oIn, oNin, oIx, oCatT, dTest, dAnd, dOr, dNot, dAndV, dOrV, dNotV, dIfE, dTru, dNil, dCons, dTup, dLst, dFld, dCB, dCB1, cLen, cAbs, cInt, cMax2, cMin2, cSum, cList, cTuple, cAny, cAll, dNoPart, dPart, dSl, dRev, dTupRev, dFrz, dLstN, dListN, dPop, gdName, gdNil, gdCons, gdTup, gdSub, dCall, dIsiT, dCallH, dMeth, iSeq, iEnumD, iR1, iR2, iR3, dLcN, dLc, dYes, dNeg, dChain, items_lst, items_tup]
  simp [f_stD_bricks e, f_stD_lap e, f_stD_reach e]
  refine ⟨_, _, true, rfl, .cls (t := .ref (He.ga K "Stock")) ⟨h1, rfl⟩ h2, rfl, ?_⟩
  refine oEq_refl (shp_tup (k := 0) (shp_nums 0 bs)).shp ⟨rfl, ?_⟩
  refine oEq_refl (shp_int 0 _).shp ⟨rfl, ?_⟩
  exact oEq_refl (shp_int 0 _).shp rfl
theorem sp_alike (e : Fx K mg) (hS : isB K "Stock" = true) {bs : List Int} {la re L : Int} {cs ds : List (List Int)} {Q : D → Prop} (q : Q .non) : p_check_alike K [waD K (stD K bs la re) cs L, waD K (stD K bs la re) ds L] Q := by
  refine ⟨rfl, ?_⟩
  simp only [td_check_alike, pD, pH, pI, startG, startH, startI, sNext, sSeq, sBrk, sCnt, sDrop, sRet, sRetN, sIf, sNever, sAsg, sAsgN, sPar, sAug, sApp, sFldS, sFor, dC, dVar, dOwn, d2, d2O, oI, oIC, oAdd, oSub, oMul, oFdiv, oMod, oPow, oLt, oLe, oGt, oGe, oIsN, oNotN, oIn, oNin, oIx, oCatT, dTest, dAnd, dOr, dNot, dAndV, dOrV, dNotV, dIfE, dTru, dNil, dCons, dTup, dLst, dFld, dCB, dCB1, cLen, cAbs, cInt, cMax2, cMin2, cSum, cList, cTuple, cAny, cAll, dNoPart, dPart, dSl, dRev, dTupRev, dFrz, dLstN, dListN, dPop, gdName, gdNil, gdCons, gdTup, gdSub, dCall, dIsiT, dCallH, dMeth, iSeq, iEnumD, iR1, iR2, iR3, dLcN, dLc, dYes, dNeg, dChain, items_lst, items_tup]
  simp [f_waD_stock e, f_waD_length e]
  refine ⟨_, _, _, _, rfl, rfl, sp_steq e hS, rfl, ?_⟩
  rw [oNe_int]
  simp [q]
theorem sp_piled (e : Fx K mg) (hS : isB K "Stock" = true) {bs : List Int} {la re L : Int} {cs ds : List (List Int)} {Q : D → Prop} (ok1 : WaOk bs cs L) (ok2 : WaOk bs ds L) (hm : cs.length + ds.length ≤ 60) (q : Q (waD K (stD K bs la re) (cs ++ ds) L)) :
    p_piled K [waD K (stD K bs la re) cs L, waD K (stD K bs la re) ds L] Q := by
  refine ⟨rfl, ?_⟩
  simp only [td_piled, pD, pH, pI, startG, startH, startI, sNext, sSeq, sBrk, sCnt, sDrop, sRet, sRetN, sIf, sNever, sAsg, sAsgN, sPar, sAug, sApp, sFldS, sFor, dC, dVar, dOwn, d2, d2O, oI, oIC, oAdd, oSub, oMul, oFdiv, oMod, oPow, oLt, oLe, oGt, oGe, oIsN, oNotN, oIn, oNin, oIx, oCatT, dTest, dAnd, dOr, dNot, dAndV, dOrV, dNotV, dIfE, dTru, dNil, dCons, dTup, dLst, dFld, dCB, dCB1, cLen, cAbs, cInt, cMax2, cMin2, cSum, cList, cTuple, cAny, cAll, dNoPart, dPart, dSl, dRev, dTupRev, dFrz, dLstN, dListN, dPop, gdName, gdNil, gdCons, gdTup, gdSub, dCall, dIsiT, dCallH, dMeth, iSeq, iEnumD, iR1, iR2, iR3, dLcN, dLc, dYes, dNeg, dChain, items_lst, items_tup]
  simp
  refine sp_alike e hS ?_
  refine sp_lenO e (by omega) ?_
  refine sp_lenO e (by omega) ?_
  simp [f_waD_stock e, f_waD_courses e]
  refine ⟨by omega, by omega, ?_⟩
  have e1 : List.map (fun c => D.tup (nums c)) cs ++ List.map (fun c => D.tup (nums c)) ds = csD (cs ++ ds) := by unfold csD; rw [List.map_append]
  rw [e1]
  refine sp_Wall e (L := L) rfl (All2'.tup _) ⟨by have := ok1.ne; simp [this], by rw [List.length_append]; exact hm, fun c hc => ?_, fun c hc => ?_⟩ q
  · exact (List.mem_append.mp hc).elim (ok1.ok c) (ok2.ok c)
  · exact (List.mem_append.mp hc).elim (ok1.sum c) (ok2.sum c)
theorem sp_part (e : Fx K mg) {bs : List Int} {la re L : Int} {cs : List (List Int)} {f l : Nat} {Q : D → Prop} (ok : WaOk bs cs L) (h1 : f ≤ l) (h2 : l < cs.length) (q : Q (waD K (stD K bs la re) ((cs.drop f).take (l + 1 - f)) L)) : p_part_of K [waD K (stD K bs la re) cs L, .int (f : Nat), .int (l : Nat)] Q := by
  refine ⟨rfl, ?_⟩
  have hm := ok.many
  simp only [td_part_of, pD, pH, pI, startG, startH, startI, sNext, sSeq, sBrk, sCnt, sDrop, sRet, sRetN, sIf, sNever, sAsg, sAsgN, sPar, sAug, sApp, sFldS, sFor, dC, dVar, dOwn, d2, d2O, oI, oIC, oAdd, oSub, oMul, oFdiv, oMod, oPow, oLt, oLe, oGt, oGe, oIsN, oNotN, oIn, oNin, oIx, oCatT, dTest, dAnd, dOr, dNot, dAndV, dOrV, dNotV, dIfE, dTru, dNil, dCons, dTup, dLst, dFld, dCB, dCB1, cLen, cAbs, cInt, cMax2, cMin2, cSum, cList, cTuple, cAny, cAll, dNoPart, dPart, dSl, dRev, dTupRev, dFrz, dLstN, dListN, dPop, gdName, gdNil, gdCons, gdTup, gdSub, dCall, dIsiT, dCallH, dMeth, iSeq, iEnumD, iR1, iR2, iR3, dLcN, dLc, dYes, dNeg, dChain, items_lst, items_tup]
  simp
  refine sp_lenO e (by omega) ?_
  refine ⟨_, rfl, ?_⟩
  refine sp_whole ?_ ?_ ?_
  · omega
  · omega
  refine ⟨rfl, sp_whole ?_ ?_ ?_⟩
  · omega
  · omega
  refine ⟨rfl, ?_⟩
  simp only [f_waD_stock e, f_waD_courses e]
  refine .inr ⟨_, rfl, ?_⟩
  have e1 : DL.cutD (cs.map fun c => D.tup (nums c)) (some (f : Int)) (some ((l : Int) + 1)) = csD ((cs.drop f).take (l + 1 - f)) := by
    have : ((l : Int) + 1) = ((l + 1 : Nat) : Int) := by omega
    rw [this]
    unfold DL.cutD
    rw [HT.sIx_nat, HT.sIx_nat, List.length_map, Nat.min_eq_left (by omega), Nat.min_eq_left (by omega)]
    unfold csD
    rw [List.map_take, List.map_drop]
  rw [e1]
  refine sp_Wall e (L := L) rfl (All2'.tup _) ⟨?_, ?_, fun c hc => ?_, fun c hc => ?_⟩ q
  · intro z
    have := congrArg List.length z
    rw [List.length_take, List.length_drop] at this
    simp at this
    omega
  · rw [List.length_take, List.length_drop]
    omega
  · exact ok.ok c (List.mem_of_mem_drop (List.mem_of_mem_take hc))
  · exact ok.sum c (List.mem_of_mem_drop (List.mem_of_mem_take hc))
/-! stocks, prices -/
def StOk : Int → List Int → Prop
  | _, [] => True
  | p, b :: bs => p + 1 ≤ b ∧ b ≤ 8 ∧ StOk b bs
theorem lp_bricks {W : EndsD} {A : Sl} (h : ∀ x y, W.nx [A, x, y]) : ∀ (bs : List Int) (p : Int) (y : Sl), StOk p bs → forL (gdName 2) (lb_are_stock_bricks_0 K) W (nums bs) [A, .val (.int p), y]
  | [], p, y, _ => h _ y
  | b :: bs, p, y, ok => by
    obtain ⟨h1, h2, h3⟩ := ok
    have ih := lp_bricks h bs b (.val (.int b)) h3
    simp [forL, gdName, lb_are_stock_bricks_0, pD, pH, pI, startG, startH, startI, sNext, sSeq, sBrk, sCnt, sDrop, sRet, sRetN, sIf, sNever, sAsg, sAsgN, sPar, sAug, sApp, sFldS, sFor, dC, dVar, dOwn, d2, d2O, oI, oIC, oAdd, oSub, oMul, oFdiv, oMod, oPow, oLt, oLe, oGt, oGe, oIsN, oNotN, oIn, oNin, oIx, oCatT, dTest, dAnd, dOr, dNot, dAndV, dOrV, dNotV, dIfE, dTru, dNil, dCons, dTup, dLst, dFld, dCB, dCB1, cLen, cAbs, cInt, cMax2, cMin2, cSum, cList, cTuple, cAny, cAll, dNoPart, dPart, dSl, dRev, dTupRev, dFrz, dLstN, dListN, dPop, gdName, gdNil, gdCons, gdTup, gdSub, dCall, dIsiT, dCallH, dMeth, iSeq, iEnumD, iR1, iR2, iR3, dLcN, dLc, dYes, dNeg, dChain, items_lst, items_tup]
    refine sp_whole h1 h2 ?_
    exact .inr ⟨rfl, ih⟩
theorem sp_bricks {P : D} {bs : List Int} {Q : D → Prop} (hP : items P = some (nums bs)) (h1 : 1 ≤ bs.length) (h2 : bs.length ≤ 4) (ok : StOk 0 bs) (q : Q (.bl true)) : p_are_stock_bricks K [P] Q := by
  refine ⟨rfl, ?_⟩
  simp only [td_are_stock_bricks, pD, pH, pI, startG, startH, startI, sNext, sSeq, sBrk, sCnt, sDrop, sRet, sRetN, sIf, sNever, sAsg, sAsgN, sPar, sAug, sApp, sFldS, sFor, dC, dVar, dOwn, d2, d2O, oI, oIC, oAdd, oSub, oMul, oFdiv, oMod, oPow, oLt, oLe, oGt, oGe, oIsN, oNotN, oIn, oNin, oIx, oCatT, dTest, dAnd, dOr, dNot, dAndV, dOrV, dNotV, dIfE, dTru, dNil, dCons, dTup, dLst, dFld, dCB, dCB1, cLen, cAbs, cInt, cMax2, cMin2, cSum, cList, cTuple, cAny, cAll, dNoPart, dPart, dSl, dRev, dTupRev, dFrz, dLstN, dListN, dPop, gdName, gdNil, gdCons, gdTup, gdSub, dCall, dIsiT, dCallH, dMeth, iSeq, iEnumD, iR1, iR2, iR3, dLcN, dLc, dYes, dNeg, dChain, items_lst, items_tup]
  simp [isiT_iff hP, hP]
  rw [if_pos (by omega), if_pos (by omega)]
  exact lp_bricks (fun x y => by simpa [sRet, dC] using q) bs 0 .un ok
theorem sp_Stock (e : Fx K mg) {P : D} {bs : List Int} {la re : Int} {Q : D → Prop} (hP : items P = some (nums bs)) (h1 : 1 ≤ bs.length) (h2 : bs.length ≤ 4) (ok : StOk 0 bs) (hl : 1 ≤ la ∧ la ≤ 4) (hr : 1 ≤ re ∧ re ≤ 2) (q : Q (stD K bs la re)) : p_Stock_init K [P, .int la, .int re] Q := by
  refine ⟨rfl, ?_⟩
  have n1 := e.na_Stock_bricks
  have n2 := e.na_Stock_lap
  have n3 := e.na_Stock_reach
  have n4 := e.c_Stock
  simp only [td_Stock_init, pD, pH, pI, startG, startH, startI, sNext, sSeq, sBrk, sCnt, sDrop, sRet, sRetN, sIf, sNever, sAsg, sAsgN, sPar, sAug, sApp, sFldS, sFor, dC, dVar, dOwn, d2, d2O, oI, oIC, oAdd, oSub, oMul, oFdiv, oMod, oPow, oLt, oLe, oGt, oGe, oIsN, oNotN, oIn, oNin, oIx, oCatT, dTest, dAnd, dOr, dNot, dAndV, dOrV, dNotV, dIfE, dTru, dNil, dCons, dTup, dLst, dFld, dCB, dCB1, cLen, cAbs, cInt, cMax2, cMin2, cSum, cList, cTuple, cAny, cAll, dNoPart, dPart, dSl, dRev, dTupRev, dFrz, dLstN, dListN, dPop, gdName, gdNil, gdCons, gdTup, gdSub, dCall, dIsiT, dCallH, dMeth, iSeq, iEnumD, iR1, iR2, iR3, dLcN, dLc, dYes, dNeg, dChain, items_lst, items_tup]
  simp
  refine sp_bricks hP h1 h2 ok ⟨rfl, ?_⟩
  refine sp_whole hl.1 hl.2 ⟨rfl, ?_⟩
  refine sp_whole hr.1 hr.2 ⟨rfl, ?_⟩
  simp [n1, n2, n3, n4, and_assoc, hP]
  exact ⟨by decide, by decide, by decide, q⟩
theorem sp_finer (e : Fx K mg) {bs : List Int} {la re s : Int} {Q : D → Prop} (h1 : 1 ≤ bs.length) (h2 : bs.length ≤ 4) (ok : StOk 0 (bs.map fun b => b * s)) (hs : 1 ≤ s ∧ s ≤ 4) (hl : 1 ≤ la * s ∧ la * s ≤ 4) (hr : 1 ≤ re ∧ re ≤ 2) (q : Q (stD K (bs.map fun b => b * s) (la * s) re)) : p_Stock_finer K [stD K bs la re, .int s] Q := by
  refine ⟨rfl, ?_⟩
  simp only [td_Stock_finer, pD, pH, pI, startG, startH, startI, sNext, sSeq, sBrk, sCnt, sDrop, sRet, sRetN, sIf, sNever, sAsg, sAsgN, sPar, sAug, sApp, sFldS, sFor, dC, dVar, dOwn, d2, d2O, oI, oIC, oAdd, oSub, oMul, oFdiv, oMod, oPow, oLt, oLe, oGt, oGe, oIsN, oNotN, oIn, oNin, oIx, oCatT, dTest, dAnd, dOr, dNot, dAndV, dOrV, dNotV, dIfE, dTru, dNil, dCons, dTup, dLst, dFld, dCB, dCB1, cLen, cAbs, cInt, cMax2, cMin2, cSum, cList, cTuple, cAny, cAll, dNoPart, dPart, dSl, dRev, dTupRev, dFrz, dLstN, dListN, dPop, gdName, gdNil, gdCons, gdTup, gdSub, dCall, dIsiT, dCallH, dMeth, iSeq, iEnumD, iR1, iR2, iR3, dLcN, dLc, dYes, dNeg, dChain, items_lst, items_tup]
  simp
  refine sp_whole hs.1 hs.2 ⟨rfl, ?_⟩
  simp only [f_stD_bricks e, f_stD_lap e, f_stD_reach e]
  refine ⟨_, rfl, rfl, ?_⟩
  simp only [wipS, List.set_cons_succ, List.set_cons_zero]
  have cm : ∀ x : Int, CMul x s := fun x => .inr ⟨by omega, by omega⟩
  refine lc_nums (fun b => .int (b * s)) (fun x hx Qd hq => ?_) (by omega) ?_
  · simp [pD, pH, pI, startG, startH, startI, sNext, sSeq, sBrk, sCnt, sDrop, sRet, sRetN, sIf, sNever, sAsg, sAsgN, sPar, sAug, sApp, sFldS, sFor, dC, dVar, dOwn, d2, d2O, oI, oIC, oAdd, oSub, oMul, oFdiv, oMod, oPow, oLt, oLe, oGt, oGe, oIsN, oNotN, oIn, oNin, oIx, oCatT, dTest, dAnd, dOr, dNot, dAndV, dOrV, dNotV, dIfE, dTru, dNil, dCons, dTup, dLst, dFld, dCB, dCB1, cLen, cAbs, cInt, cMax2, cMin2, cSum, cList, cTuple, cAny, cAll, dNoPart, dPart, dSl, dRev, dTupRev, dFrz, dLstN, dListN, dPop, gdName, gdNil, gdCons, gdTup, gdSub, dCall, dIsiT, dCallH, dMeth, iSeq, iEnumD, iR1, iR2, iR3, dLcN, dLc, dYes, dNeg, dChain, items_lst, items_tup, and_assoc]
    refine ⟨cm x, ?_⟩
    simpa using hq
  · refine ⟨la, rfl, cm la, ?_⟩
    refine sp_Stock e (bs := bs.map fun b => b * s) (by unfold nums; rw [List.map_map]; rfl) (by simpa using h1) (by simpa using h2) ok hl hr q
theorem sp_Prices (e : Fx K mg) {br bd : Int} {Q : D → Prop} (h1 : 0 ≤ br ∧ br ≤ 1000000) (h2 : 0 ≤ bd ∧ bd ≤ 1000000) (q : Q (prD K br bd)) : p_Prices_init K [.int br, .int bd] Q := by
  refine ⟨rfl, ?_⟩
  have n1 := e.na_Prices_brick
  have n2 := e.na_Prices_bed
  have n4 := e.c_Prices
  simp only [td_Prices_init, pD, pH, pI, startG, startH, startI, sNext, sSeq, sBrk, sCnt, sDrop, sRet, sRetN, sIf, sNever, sAsg, sAsgN, sPar, sAug, sApp, sFldS, sFor, dC, dVar, dOwn, d2, d2O, oI, oIC, oAdd, oSub, oMul, oFdiv, oMod, oPow, oLt, oLe, oGt, oGe, oIsN, oNotN, oIn, oNin, oIx, oCatT, dTest, dAnd, dOr, dNot, dAndV, dOrV, dNotV, dIfE, dTru, dNil, dCons, dTup, dLst, dFld, dCB, dCB1, cLen, cAbs, cInt, cMax2, cMin2, cSum, cList, cTuple, cAny, cAll, dNoPart, dPart, dSl, dRev, dTupRev, dFrz, dLstN, dListN, dPop, gdName, gdNil, gdCons, gdTup, gdSub, dCall, dIsiT, dCallH, dMeth, iSeq, iEnumD, iR1, iR2, iR3, dLcN, dLc, dYes, dNeg, dChain, items_lst, items_tup]
  simp
  refine sp_whole h1.1 h1.2 ⟨rfl, ?_⟩
  refine sp_whole h2.1 h2.2 ⟨rfl, ?_⟩
  simp [n1, n2, n4, and_assoc]
  exact ⟨by decide, q⟩
end
end K96
set_option Elab.async false
set_option linter.all false
set_option maxRecDepth 100000
set_option maxHeartbeats 1000000
namespace K96
open PySem PySem.Spec L2 L2R DL CM
open PyProof.Rows hiding St
section
variable {K : PySem.W.Frag} {mg : PySem.Str → Option Value}
theorem cm_r {x b : Int} (h : -1000000000000 ≤ b ∧ b ≤ 1000000000000) : CMul x b := .inr ⟨by omega, by omega⟩
theorem fm (x : Int) {m : Int} (h : 0 < m) : 0 ≤ x.fmod m ∧ x.fmod m < m := ⟨Int.fmod_nonneg_of_pos x h, Int.fmod_lt_of_pos x h⟩
theorem sp_mix {a b : Int} {Q : D → Prop} (q : ∀ d : Int, Q (.int d)) : p__law_mix K [.int a, .int b] Q := by
  refine ⟨rfl, ?_⟩
  simp only [td__law_mix, pD, pH, pI, startG, startH, startI, sNext, sSeq, sBrk, sCnt, sDrop, sRet, sRetN, sIf, sNever, sAsg, sAsgN, sPar, sAug, sApp, sFldS, sFor, dC, dVar, dOwn, d2, d2O, oI, oIC, oAdd, oSub, oMul, oFdiv, oMod, oPow, oLt, oLe, oGt, oGe, oIsN, oNotN, oIn, oNin, oIx, oCatT, dTest, dAnd, dOr, dNot, dAndV, dOrV, dNotV, dIfE, dTru, dNil, dCons, dTup, dLst, dFld, dCB, dCB1, cLen, cAbs, cInt, cMax2, cMin2, cSum, cList, cTuple, cAny, cAll, dNoPart, dPart, dSl, dRev, dTupRev, dFrz, dLstN, dListN, dPop, gdName, gdNil, gdCons, gdTup, gdSub, dCall, dIsiT, dCallH, dMeth, iSeq, iEnumD, iR1, iR2, iR3, dLcN, dLc, dYes, dNeg, dChain, items_lst, items_tup]
  simp [and_assoc]
  refine ⟨cm_r ⟨by omega, by omega⟩, cm_r ⟨by omega, by omega⟩, ?_⟩
  have h1 := fm (a * 48271 + b * 16807 + 11) (m := 2147483647) (by omega)
  generalize (a * 48271 + b * 16807 + 11).fmod 2147483647 = x at h1 ⊢
  refine ⟨cm_r ⟨by omega, by omega⟩, ⟨by omega, by decide⟩, cm_r ⟨by omega, by omega⟩, cm_r ⟨by omega, by omega⟩, ?_⟩
  have h2 := fm (x * x + x.fdiv 127 * 40692 + b * 69621) (m := 2147483399) (by omega)
  generalize (x * x + x.fdiv 127 * 40692 + b * 69621).fmod 2147483399 = y at h2 ⊢
  exact ⟨cm_r ⟨by omega, by omega⟩, ⟨by omega, by decide⟩, ⟨by omega, by decide⟩, q _⟩
theorem sp_draw {m : Int} {Q : D → Prop} (h : 0 < m ∧ m ≤ 100000000) (q : ∀ d : Int, 0 ≤ d → d < m → Q (.int d)) : p__law_draw K [.int m] Q := by
  refine ⟨rfl, fun xs hx => ?_⟩
  obtain ⟨ns, i, r, t, rfl, hn, hi, hr⟩ := hx
  have z0 : ∀ a b c d : D, L2.atI [a, b, c, d] 0 = some a := fun _ _ _ _ => rfl
  have z1 : ∀ a b c d : D, L2.atI [a, b, c, d] 1 = some b := fun _ _ _ _ => rfl
  have z2 : ∀ a b c d : D, L2.atI [a, b, c, d] 2 = some c := fun _ _ _ _ => rfl
  have z3 : ∀ a b c d : D, L2.atI [a, b, c, d] 3 = some d := fun _ _ _ _ => rfl
  have i1 : L2.ixN 4 1 = some 1 := rfl
  have i2 : L2.ixN 4 2 = some 2 := rfl
  have i3 : L2.ixN 4 3 = some 3 := rfl
  have fin : ∀ x : Int, Q (.int (x.fmod m)) := fun x => q _ (fm x h.1).1 (fm x h.1).2
  have hm0 : m ≠ 0 := by omega
  simp only [pW, startG, td__law_draw, pD, pH, pI, startG, startH, startI, sNext, sSeq, sBrk, sCnt, sDrop, sRet, sRetN, sIf, sNever, sAsg, sAsgN, sPar, sAug, sApp, sFldS, sFor, dC, dVar, dOwn, d2, d2O, oI, oIC, oAdd, oSub, oMul, oFdiv, oMod, oPow, oLt, oLe, oGt, oGe, oIsN, oNotN, oIn, oNin, oIx, oCatT, dTest, dAnd, dOr, dNot, dAndV, dOrV, dNotV, dIfE, dTru, dNil, dCons, dTup, dLst, dFld, dCB, dCB1, cLen, cAbs, cInt, cMax2, cMin2, cSum, cList, cTuple, cAny, cAll, dNoPart, dPart, dSl, dRev, dTupRev, dFrz, dLstN, dListN, dPop, gdName, gdNil, gdCons, gdTup, gdSub, dCall, dIsiT, dCallH, dMeth, iSeq, iEnumD, iR1, iR2, iR3, dLcN, dLc, dYes, dNeg, dChain, items_lst, items_tup]
  have hdiv : ∀ x : Int, CDivN x m := fun x => ⟨hm0, by omega⟩
  have hpow : CPow 10 18 := ⟨by omega, by omega, by decide⟩
  have hand : ∀ a b c : Int, 0 ≤ a → 0 ≤ b → handX [.lst (ns.map D.int), .int a, .int b, .int c] := fun a b c h1 h2 => ⟨ns, a, b, c, rfl, hn, h1, h2⟩
  simp [z0, z1, z2, z3, i1, i2, i3, oEq_int, items_lst, and_assoc, hdiv, hpow, hm0]
  have last : ∀ i r t : Int, 0 ≤ i → 0 ≤ r → p__law_mix K [.int ((t + 1).fmod 2147483629), .int i] fun d => ∃ i_1, d = D.int i_1 ∧ handX [.lst (ns.map D.int), .int i, .int r, .int ((t + 1).fmod 2147483629)] ∧ Q (D.int (i_1.fmod m)) := fun i r t h1 h2 => sp_mix fun d => ⟨d, rfl, hand _ _ _ h1 h2, fin d⟩
  have rest : ∀ i r : Int, 0 ≤ i → 0 ≤ r → handX [.lst (ns.map D.int), .int i, .int (r.fdiv m), .int t] ∧ Q (D.int (r.fmod m)) := fun i r h1 h2 => ⟨hand _ _ _ h1 (Int.fdiv_nonneg h2 (by omega)), fin r⟩
  by_cases h0 : r = 0
  · refine .inr ⟨h0, ?_⟩
    subst h0
    by_cases hi2 : i < (ns.length : Int)
    · rw [if_pos hi2]
      have hlt : i.toNat < ns.length := by omega
      have ha : L2.atI (List.map D.int ns) i = some (.int ns[i.toNat]) := atI_nums hi (List.getElem?_eq_getElem hlt)
      have hc := hn _ (List.getElem_mem hlt)
      refine ⟨_, ha, _, rfl, ?_⟩
      split
      · exact ⟨_, rfl, sp_mix fun d => ⟨d, rfl, hand _ _ _ (by omega) (by omega), fin d⟩⟩
      · rename_i hbig
        refine ⟨_, rfl, ?_⟩
        rw [if_pos (by omega)]
        exact ⟨_, rfl, _, rfl, rest _ _ (by omega) hc⟩
    · rw [if_neg hi2]
      first
        | exact last _ _ _ hi (by omega)
        | (rw [if_neg (by omega)]; exact last _ _ _ hi (by omega))
  · refine .inl ⟨h0, ?_⟩
    rw [if_pos (by omega)]
    exact rest _ _ hi hr
theorem sp_pick {P : D} {xs : List D} {Q : D → Prop} (hP : items P = some xs) (h : 0 < xs.length ∧ xs.length ≤ 100000) (q : ∀ x ∈ xs, Q x) : p__law_pick K [P] Q := by
  refine ⟨rfl, ?_⟩
  simp only [td__law_pick, pD, pH, pI, startG, startH, startI, sNext, sSeq, sBrk, sCnt, sDrop, sRet, sRetN, sIf, sNever, sAsg, sAsgN, sPar, sAug, sApp, sFldS, sFor, dC, dVar, dOwn, d2, d2O, oI, oIC, oAdd, oSub, oMul, oFdiv, oMod, oPow, oLt, oLe, oGt, oGe, oIsN, oNotN, oIn, oNin, oIx, oCatT, dTest, dAnd, dOr, dNot, dAndV, dOrV, dNotV, dIfE, dTru, dNil, dCons, dTup, dLst, dFld, dCB, dCB1, cLen, cAbs, cInt, cMax2, cMin2, cSum, cList, cTuple, cAny, cAll, dNoPart, dPart, dSl, dRev, dTupRev, dFrz, dLstN, dListN, dPop, gdName, gdNil, gdCons, gdTup, gdSub, dCall, dIsiT, dCallH, dMeth, iSeq, iEnumD, iR1, iR2, iR3, dLcN, dLc, dYes, dNeg, dChain, items_lst, items_tup]
  simp [hP]
  refine sp_draw ⟨by omega, by omega⟩ fun d h1 h2 => ?_
  have hlt : d.toNat < xs.length := by omega
  exact ⟨_, rfl, _, atI_nat h1 (List.getElem?_eq_getElem hlt), q _ (List.getElem_mem hlt)⟩
end
end K96
set_option Elab.async false
set_option linter.all false
set_option maxRecDepth 100000
set_option maxHeartbeats 1000000
namespace K96
open PySem PySem.Spec L2 L2R DL CM
open PyProof.Rows hiding St
section
variable {K : PySem.W.Frag} {mg : PySem.Str → Option Value}
/-- a comprehension whose items are not told, but what is true of each -/
theorem lc_dem {i : Nat} {Γ : List Sl} {td : TD} {Q : List D → Prop} (R : D → Prop) : ∀ {items acc : List D}, (∀ x ∈ items, ∀ Qd : D → List Sl → Prop, (∀ d, R d → Qd d (Γ.set i (.val x))) → td (Γ.set i (.val x)) Qd) → acc.length + items.length ≤ 16000000 →
    (∀ ds : List D, ds.length = items.length → (∀ d ∈ ds, R d) → Q (acc ++ ds)) → lcL (gdName i) dYes td Γ Q items acc
  | [], acc, _, _, q => by simpa [lcL] using q [] rfl (fun _ h => by simp at h)
  | x :: xs, acc, h, hl, q => by
    show gdName i x Γ _
    unfold gdName dYes
    refine ⟨rfl, ?_⟩
    rw [if_pos rfl]
    rw [List.length_cons] at hl
    refine h x (List.mem_cons_self ..) _ fun d hd => ⟨rfl, by omega, ?_⟩
    refine lc_dem R (fun y hy => h y (List.mem_cons_of_mem _ hy)) (by rw [List.length_append, List.length_singleton]; omega) fun ds h1 h2 => ?_
    rw [List.append_assoc]
    refine q (d :: ds) (by rw [List.length_cons, List.length_cons, h1]) fun y hy => ?_
    rcases List.mem_cons.mp hy with rfl | hy
    · exact hd
    · exact h2 y hy
/-! the stock -/
structure Stk (bs : List Int) (la re : Int) : Prop where
  l : 2 ≤ bs.length ∧ bs.length ≤ 3
  ok : StOk 0 bs
  five : ∀ b ∈ bs, 1 ≤ b ∧ b ≤ 5
  la : 1 ≤ la ∧ la ≤ 2
  re : 1 ≤ re ∧ re ≤ 2
theorem stOk_of : ∀ (bs : List Int) (p : Int), bs.Pairwise (· < ·) → (∀ b ∈ bs, p < b ∧ b ≤ 5) → StOk p bs
  | [], _, _, _ => True.intro
  | b :: bs, p, h, hb => by
    obtain ⟨h1, h2⟩ := List.pairwise_cons.mp h
    have := hb b (List.mem_cons_self ..)
    exact ⟨by omega, by omega, stOk_of bs b h2 fun x hx => ⟨h1 x hx, (hb x (List.mem_cons_of_mem _ hx)).2⟩⟩
theorem nums_erase : ∀ (l : List Int) (k : Nat), (nums l).eraseIdx k = nums (l.eraseIdx k)
  | [], _ => rfl
  | _ :: _, 0 => rfl
  | a :: l, k + 1 => by
    show D.int a :: (nums l).eraseIdx k = D.int a :: nums (l.eraseIdx k)
    rw [nums_erase l k]
theorem erase_perm : ∀ (l : List Int) (k : Nat) (h : k < l.length), (l[k] :: l.eraseIdx k).Perm l
  | [], _, h => by simp at h
  | _ :: _, 0, _ => List.Perm.refl _
  | a :: l, k + 1, h => by
    have ih := erase_perm l k (by simpa using h)
    have hk : k < l.length := by simpa using h
    exact (List.Perm.swap a (l[k]'hk) (l.eraseIdx k)).trans (ih.cons a)
theorem lp_stock {W : EndsD} {a b c : Sl} {m : Nat} (h : ∀ (pool bricks : List Int) (x : Sl), (pool ++ bricks).Perm [1, 2, 3, 4, 5] → bricks.length = m → W.nx [.hand, a, b, .own (nums pool), .own (nums bricks), x, c]) :
    ∀ (d : Nat) (lo : Int) (pool bricks : List Int) (x : Sl), (pool ++ bricks).Perm [1, 2, 3, 4, 5] → bricks.length + d = m → m ≤ 3 → forL (gdName 5) (lb__law_stock_0 K) W (rngD lo d) [.hand, a, b, .own (nums pool), .own (nums bricks), x, c]
  | 0, lo, pool, bricks, x, hp, hm, _ => h pool bricks x hp hm
  | d + 1, lo, pool, bricks, x, hp, hm, h3 => by
    rw [rng_succ]
    have hl := hp.length_eq
    simp at hl
    simp [forL, gdName, lb__law_stock_0, pD, pH, pI, startG, startH, startI, sNext, sSeq, sBrk, sCnt, sDrop, sRet, sRetN, sIf, sNever, sAsg, sAsgN, sPar, sAug, sApp, sFldS, sFor, dC, dVar, dOwn, d2, d2O, oI, oIC, oAdd, oSub, oMul, oFdiv, oMod, oPow, oLt, oLe, oGt, oGe, oIsN, oNotN, oIn, oNin, oIx, oCatT, dTest, dAnd, dOr, dNot, dAndV, dOrV, dNotV, dIfE, dTru, dNil, dCons, dTup, dLst, dFld, dCB, dCB1, cLen, cAbs, cInt, cMax2, cMin2, cSum, cList, cTuple, cAny, cAll, dNoPart, dPart, dSl, dRev, dTupRev, dFrz, dLstN, dListN, dPop, gdName, gdNil, gdCons, gdTup, gdSub, dCall, dIsiT, dCallH, dMeth, iSeq, iEnumD, iR1, iR2, iR3, dLcN, dLc, dYes, dNeg, dChain, items_lst, items_tup, dOwn, items_lst]
    refine sp_draw ⟨by omega, by omega⟩ fun k h1 h2 => ?_
    have hlt : k.toNat < pool.length := by omega
    refine ⟨k.toNat, by congr 1; omega, by omega, _, ⟨_, List.getElem?_eq_getElem hlt, rfl⟩, by omega, ?_⟩
    have e1 : (nums pool).eraseIdx k.toNat = nums (pool.eraseIdx k.toNat) := nums_erase _ _
    have e2 : nums bricks ++ [D.int pool[k.toNat]] = nums (bricks ++ [pool[k.toNat]]) := by simp
    rw [e1, e2]
    refine lp_stock h d (lo + 1) (pool.eraseIdx k.toNat) (bricks ++ [pool[k.toNat]]) _ ?_ (by simp; omega) h3
    refine List.Perm.trans ?_ hp
    refine List.Perm.trans (List.Perm.append_left _ List.perm_append_comm) ?_
    refine List.Perm.trans (List.perm_middle (a := pool[k.toNat]) (l₁ := pool.eraseIdx k.toNat) (l₂ := bricks)) ?_
    exact (erase_perm pool k.toNat hlt).append_right bricks
theorem sp_stock {Q : D → Prop} (q : ∀ (bs : List Int) (la re : Int), Stk bs la re → Q (.tup [.tup (nums bs), .int la, .int re])) : p__law_stock K [] Q := by
  refine ⟨rfl, ?_⟩
  simp only [td__law_stock, pD, pH, pI, startG, startH, startI, sNext, sSeq, sBrk, sCnt, sDrop, sRet, sRetN, sIf, sNever, sAsg, sAsgN, sPar, sAug, sApp, sFldS, sFor, dC, dVar, dOwn, d2, d2O, oI, oIC, oAdd, oSub, oMul, oFdiv, oMod, oPow, oLt, oLe, oGt, oGe, oIsN, oNotN, oIn, oNin, oIx, oCatT, dTest, dAnd, dOr, dNot, dAndV, dOrV, dNotV, dIfE, dTru, dNil, dCons, dTup, dLst, dFld, dCB, dCB1, cLen, cAbs, cInt, cMax2, cMin2, cSum, cList, cTuple, cAny, cAll, dNoPart, dPart, dSl, dRev, dTupRev, dFrz, dLstN, dListN, dPop, gdName, gdNil, gdCons, gdTup, gdSub, dCall, dIsiT, dCallH, dMeth, iSeq, iEnumD, iR1, iR2, iR3, dLcN, dLc, dYes, dNeg, dChain, items_lst, items_tup]
  simp
  refine sp_draw ⟨by omega, by omega⟩ fun d1 _ _ => ?_
  simp [oEq_int]
  have go : ∀ (re many : Int), (1 ≤ re ∧ re ≤ 2) → (2 ≤ many ∧ many ≤ 3) → forL (gdName 5) (lb__law_stock_0 K)
      { nx := sSeq (sAsg (dIfE (dTest (d2 oEq (dCallH (p__law_draw K) 0 (dCons (dC (.int 4)) dNil)) (dC (.int 0)))) (dC (.int 2)) (dC (.int 1))) (gdName 6)) (sRet (dTup (dCons (dCB1 cTuple (dCB1 cSorted (dOwn 4))) (dCons (dVar 6) (dCons (dVar 1) dNil))))) { nx := fun x => Q D.non, rt := fun d x => Q d, bk := fun x => False, ct := fun x => False }, rt := fun d x => Q d, bk := fun x => False, ct := fun x => False }
      (rngD 0 many.toNat) [.hand, .val (.int re), .val (.int many), .own (nums [1, 2, 3, 4, 5]), .own (nums []), .un, .un] := by
    intro re many hre hmany
    refine lp_stock (m := many.toNat) (fun pool bricks x hp hb => ?_) many.toNat 0 [1, 2, 3, 4, 5] [] .un (by simp) (by simp) (by omega)
    simp only [sSeq, sAsg, dIfE, dTest, d2, dCallH, dCons, dC, dNil]
    refine ⟨rfl, ?_⟩
    refine sp_draw ⟨by omega, by omega⟩ fun d _ _ => ?_
    refine oEq_int.mpr ⟨_, rfl, ?_⟩
    have key : ∀ la : Int, 1 ≤ la ∧ la ≤ 2 → sRet (dTup (dCons (dCB1 cTuple (dCB1 cSorted (dOwn 4))) (dCons (dVar 6) (dCons (dVar 1) dNil)))) { nx := fun x => Q D.non, rt := fun d x => Q d, bk := fun x => False, ct := fun x => False } [.hand, .val (.int re), .val (.int many), .own (nums pool), .own (nums bricks), x, .val (.int la)] := by
      intro la hla
      simp only [sRet, dTup, dCons, dCB1, dOwn, dVar, dNil]
      refine ⟨_, rfl, bricks, rfl, by omega, fun ns' h1 h2 => ?_⟩
      refine ⟨_, _, rfl, rfl, _, rfl, _, rfl, by simp, ?_⟩
      have nd : (pool ++ bricks).Nodup := hp.nodup_iff.mpr (by decide)
      have nd2 : ns'.Nodup := h1.nodup_iff.mpr (List.nodup_append.mp nd).2.1
      have mem : ∀ b ∈ ns', 1 ≤ b ∧ b ≤ 5 := fun b hb => by
        have : b ∈ ([1, 2, 3, 4, 5] : List Int) := hp.mem_iff.mp (List.mem_append.mpr (.inr (h1.mem_iff.mp hb)))
        simp at this
        omega
      have lt : ns'.Pairwise (· < ·) := by
        refine List.Pairwise.imp (R := fun a b => a ≤ b ∧ a ≠ b) (fun h => by omega) ?_
        exact List.Pairwise.and h2 nd2
      have hl := h1.length_eq
      exact q ns' la re ⟨by omega, stOk_of ns' 0 lt (fun b hb => by have := mem b hb; omega), mem, hla, hre⟩
    split
    · exact key 2 (by omega)
    · exact key 1 (by omega)
  by_cases c : d1 = 0
  · exact .inr ⟨c, go 2 3 (by omega) (by omega)⟩
  · refine .inl ⟨c, sp_draw ⟨by omega, by omega⟩ fun x _ _ => ?_⟩
    exact ⟨x, rfl, by omega, by omega, go 1 (2 + x) (by omega) (by omega)⟩
/-! how many patterns there are -/
structure CntOk (bs : List Int) (c : Nat → Int) (hi : Nat) : Prop where
  zero : c 0 = 1
  nn : ∀ k, k ≤ hi → 0 ≤ c k
  get : ∀ k, 1 ≤ k → k ≤ hi → 0 < c k → ∃ b ∈ bs, b ≤ k ∧ 0 < c ((k : Int) - b).toNat
  put : ∀ k, 1 ≤ k → k ≤ hi → ∀ b ∈ bs, b ≤ k → 0 < c ((k : Int) - b).toNat → 0 < c k
theorem sum_nn : ∀ {l : List Int}, (∀ x ∈ l, 0 ≤ x) → 0 ≤ l.sum
  | [], _ => by simp
  | a :: l, h => by
    have a1 := h a (List.mem_cons_self ..)
    have a2 := sum_nn fun x hx => h x (List.mem_cons_of_mem _ hx)
    rw [List.sum_cons]
    omega
theorem sum_pos : ∀ {l : List Int}, (∀ x ∈ l, 0 ≤ x) → (0 < l.sum ↔ ∃ x ∈ l, 0 < x)
  | [], _ => by simp
  | a :: l, h => by
    have a1 := h a (List.mem_cons_self ..)
    have ih := sum_pos fun x hx => h x (List.mem_cons_of_mem _ hx)
    have a2 := sum_nn fun x hx => h x (List.mem_cons_of_mem _ hx)
    rw [List.sum_cons]
    constructor
    · intro hp
      by_cases c : 0 < a
      · exact ⟨a, List.mem_cons_self .., c⟩
      · obtain ⟨x, h1, h2⟩ := ih.mp (by omega)
        exact ⟨x, List.mem_cons_of_mem _ h1, h2⟩
    · rintro ⟨x, h1, h2⟩
      rcases List.mem_cons.mp h1 with rfl | h1
      · omega
      · have := ih.mpr ⟨x, h1, h2⟩
        omega
theorem lc_filt {i : Nat} {Γ : List Sl} {dt : TDT} {td : TD} {Q : List D → Prop} {xs : List Int} (t : Int → Bool) (f : Int → Int) (ht : ∀ x ∈ xs, ∀ Qd : Bool → List Sl → Prop, Qd (t x) (Γ.set i (.val (.int x))) → dt (Γ.set i (.val (.int x))) Qd) (h : ∀ x ∈ xs, t x = true → ∀ Qd : D → List Sl → Prop, Qd (.int (f x)) (Γ.set i (.val (.int x))) → td (Γ.set i (.val (.int x))) Qd)
    (hl : xs.length ≤ 16000000) (q : Q (nums ((xs.filter t).map f))) : lcL (gdName i) dt td Γ Q (nums xs) [] := by
  refine lc_filter (fun d => match d with | .int x => t x | _ => false) (fun d => match d with | .int x => .int (f x) | d => d) (fun x hx Qd hq => ?_) (fun x hx ht' Qd hq => ?_) (by simpa using hl) ?_
  · obtain ⟨y, hy, rfl⟩ := List.mem_map.mp hx
    exact ht y hy Qd hq
  · obtain ⟨y, hy, rfl⟩ := List.mem_map.mp hx
    exact h y hy ht' Qd hq
  · rw [List.nil_append]
    have : ((nums xs).filter fun d => match d with | .int x => t x | _ => false).map (fun d => match d with | .int x => .int (f x) | d => d) = nums ((xs.filter t).map f) := by
      unfold nums
      rw [List.filter_map, List.map_map, List.map_map]
      rfl
    rw [this]
    exact q
theorem row_snoc (f : Nat → Int) (n : Nat) : row f (n + 1) = row f n ++ [f (n + 1)] := by
  unfold row
  rw [List.range_succ, List.map_append]
  rfl
theorem lp_counts {W : EndsD} {bs : List Int} {hi : Nat} {A : Sl} (hb : ∀ b ∈ bs, 1 ≤ b) (hl : bs.length ≤ 1000) (hh : hi ≤ 100000) (h : ∀ (c : Nat → Int) (x : Sl), CntOk bs c hi → W.nx [.val (.tup (nums bs)), A, .own (nums (row c hi)), x, .un]) :
    ∀ (d k : Nat) (c : Nat → Int) (x : Sl), CntOk bs c k → k + d = hi → forL (gdName 3) (lb__law_counts_0 K) W (rngD (((k + 1 : Nat) : Int)) d) [.val (.tup (nums bs)), A, .own (nums (row c k)), x, .un]
  | 0, k, c, x, ok, hk => by
    have : k = hi := by omega
    subst this
    exact h c x ok
  | d + 1, k, c, x, ok, hk => by
    rw [rng_succ]
    simp [forL, gdName, lb__law_counts_0, pD, pH, pI, startG, startH, startI, sNext, sSeq, sBrk, sCnt, sDrop, sRet, sRetN, sIf, sNever, sAsg, sAsgN, sPar, sAug, sApp, sFldS, sFor, dC, dVar, dOwn, d2, d2O, oI, oIC, oAdd, oSub, oMul, oFdiv, oMod, oPow, oLt, oLe, oGt, oGe, oIsN, oNotN, oIn, oNin, oIx, oCatT, dTest, dAnd, dOr, dNot, dAndV, dOrV, dNotV, dIfE, dTru, dNil, dCons, dTup, dLst, dFld, dCB, dCB1, cLen, cAbs, cInt, cMax2, cMin2, cSum, cList, cTuple, cAny, cAll, dNoPart, dPart, dSl, dRev, dTupRev, dFrz, dLstN, dListN, dPop, gdName, gdNil, gdCons, gdTup, gdSub, dCall, dIsiT, dCallH, dMeth, iSeq, iEnumD, iR1, iR2, iR3, dLcN, dLc, dYes, dNeg, dChain, items_lst, items_tup, dOwn, items_tup, row_len]
    refine ⟨rfl, ?_⟩
    simp only [wipS, List.set_cons_succ, List.set_cons_zero]
    refine lc_filt (fun b => decide (b ≤ (k : Int) + 1)) (fun b => c ((k : Int) + 1 - b).toNat) (fun b hb' Qd hq => ?_) (fun b hb' ht Qd hq => ?_) (by omega) ?_
    · simp [pD, pH, pI, startG, startH, startI, sNext, sSeq, sBrk, sCnt, sDrop, sRet, sRetN, sIf, sNever, sAsg, sAsgN, sPar, sAug, sApp, sFldS, sFor, dC, dVar, dOwn, d2, d2O, oI, oIC, oAdd, oSub, oMul, oFdiv, oMod, oPow, oLt, oLe, oGt, oGe, oIsN, oNotN, oIn, oNin, oIx, oCatT, dTest, dAnd, dOr, dNot, dAndV, dOrV, dNotV, dIfE, dTru, dNil, dCons, dTup, dLst, dFld, dCB, dCB1, cLen, cAbs, cInt, cMax2, cMin2, cSum, cList, cTuple, cAny, cAll, dNoPart, dPart, dSl, dRev, dTupRev, dFrz, dLstN, dListN, dPop, gdName, gdNil, gdCons, gdTup, gdSub, dCall, dIsiT, dCallH, dMeth, iSeq, iEnumD, iR1, iR2, iR3, dLcN, dLc, dYes, dNeg, dChain, items_lst, items_tup]
      simpa using hq
    · have ht : b ≤ (k : Int) + 1 := of_decide_eq_true ht
      have hb1 := hb b hb'
      have z := atI_row (f := c) (n := k) (i := (k : Int) + 1 - b) (by omega) (by omega)
      simp [pD, pH, pI, startG, startH, startI, sNext, sSeq, sBrk, sCnt, sDrop, sRet, sRetN, sIf, sNever, sAsg, sAsgN, sPar, sAug, sApp, sFldS, sFor, dC, dVar, dOwn, d2, d2O, oI, oIC, oAdd, oSub, oMul, oFdiv, oMod, oPow, oLt, oLe, oGt, oGe, oIsN, oNotN, oIn, oNin, oIx, oCatT, dTest, dAnd, dOr, dNot, dAndV, dOrV, dNotV, dIfE, dTru, dNil, dCons, dTup, dLst, dFld, dCB, dCB1, cLen, cAbs, cInt, cMax2, cMin2, cSum, cList, cTuple, cAny, cAll, dNoPart, dPart, dSl, dRev, dTupRev, dFrz, dLstN, dListN, dPop, gdName, gdNil, gdCons, gdTup, gdSub, dCall, dIsiT, dCallH, dMeth, iSeq, iEnumD, iR1, iR2, iR3, dLcN, dLc, dYes, dNeg, dChain, items_lst, items_tup, z]
      simpa using hq
    · refine ⟨_, rfl, by omega, ?_⟩
      generalize hv : (List.map (fun b => c ((k : Int) + 1 - b).toNat) (bs.filter fun b => decide (b ≤ (k : Int) + 1))).sum = v
      have nnl : ∀ x ∈ List.map (fun b => c ((k : Int) + 1 - b).toNat) (bs.filter fun b => decide (b ≤ (k : Int) + 1)), 0 ≤ x := fun x hx => by
        obtain ⟨b, hb', rfl⟩ := List.mem_map.mp hx
        obtain ⟨h1, h2⟩ := List.mem_filter.mp hb'
        have := hb b h1
        have h2 : b ≤ (k : Int) + 1 := of_decide_eq_true h2
        exact ok.nn _ (by omega)
      have ih := lp_counts hb hl hh h d (k + 1) (fun i => if i = k + 1 then v else c i) (.val (.int ((k : Int) + 1))) ?_ (by omega)
      · have e1 : row (fun i => if i = k + 1 then v else c i) (k + 1) = row c k ++ [v] := by
          rw [row_snoc]
          have : row (fun i => if i = k + 1 then v else c i) k = row c k := row_congr fun i hi => by rw [if_neg (by omega)]
          rw [this, if_pos rfl]
        rw [e1] at ih
        have e2 : (((k + 1 + 1 : Nat) : Int)) = (k : Int) + 1 + 1 := by omega
        rw [e2] at ih
        simp at ih
        exact ih
      · have low : ∀ b ∈ bs, b ≤ ((k + 1 : Nat) : Int) → (((k + 1 : Nat) : Int) - b).toNat ≤ k := fun b hb' _ => by
          have := hb b hb'
          omega
        have ev : (0 < v ↔ ∃ b ∈ bs, b ≤ (k : Int) + 1 ∧ 0 < c ((k : Int) + 1 - b).toNat) := by
          rw [← hv, sum_pos nnl]
          constructor
          · rintro ⟨x, hx, hp⟩
            obtain ⟨b, hb', rfl⟩ := List.mem_map.mp hx
            obtain ⟨h1, h2⟩ := List.mem_filter.mp hb'
            exact ⟨b, h1, of_decide_eq_true h2, hp⟩
          · rintro ⟨b, h1, h2, h3⟩
            exact ⟨_, List.mem_map.mpr ⟨b, List.mem_filter.mpr ⟨h1, decide_eq_true h2⟩, rfl⟩, h3⟩
        have ek : ((k + 1 : Nat) : Int) = (k : Int) + 1 := by omega
        refine ⟨by rw [if_neg (by omega)]; exact ok.zero, fun i hi' => ?_, fun i h1 h2 h3 => ?_, fun i h1 h2 b hb' h3 h4 => ?_⟩
        · by_cases z : i = k + 1
          · rw [if_pos z, ← hv]
            exact sum_nn nnl
          · rw [if_neg z]
            exact ok.nn i (by omega)
        · by_cases z : i = k + 1
          · subst z
            rw [if_pos rfl] at h3
            obtain ⟨b, a1, a2, a3⟩ := ev.mp h3
            refine ⟨b, a1, by omega, ?_⟩
            rw [if_neg (by have := low b a1 (by omega); omega), ek]
            exact a3
          · rw [if_neg z] at h3
            obtain ⟨b, a1, a2, a3⟩ := ok.get i h1 (by omega) h3
            refine ⟨b, a1, a2, ?_⟩
            rw [if_neg (by have := hb b a1; omega)]
            exact a3
        · by_cases z : i = k + 1
          · subst z
            rw [if_pos rfl]
            rw [if_neg (by have := low b hb' (by omega); omega), ek] at h4
            exact ev.mpr ⟨b, hb', by omega, h4⟩
          · rw [if_neg z]
            rw [if_neg (by have := hb b hb'; omega)] at h4
            exact ok.put i h1 (by omega) b hb' h3 h4
theorem sp_counts {bs : List Int} {hi : Nat} {Q : D → Prop} (hb : ∀ b ∈ bs, 1 ≤ b) (hl : bs.length ≤ 1000) (hh : hi ≤ 100000) (q : ∀ c : Nat → Int, CntOk bs c hi → Q (.lst (nums (row c hi)))) : p__law_counts K [.tup (nums bs), .int (hi : Nat)] Q := by
  refine ⟨rfl, ?_⟩
  simp only [td__law_counts, pD, pH, pI, startG, startH, startI, sNext, sSeq, sBrk, sCnt, sDrop, sRet, sRetN, sIf, sNever, sAsg, sAsgN, sPar, sAug, sApp, sFldS, sFor, dC, dVar, dOwn, d2, d2O, oI, oIC, oAdd, oSub, oMul, oFdiv, oMod, oPow, oLt, oLe, oGt, oGe, oIsN, oNotN, oIn, oNin, oIx, oCatT, dTest, dAnd, dOr, dNot, dAndV, dOrV, dNotV, dIfE, dTru, dNil, dCons, dTup, dLst, dFld, dCB, dCB1, cLen, cAbs, cInt, cMax2, cMin2, cSum, cList, cTuple, cAny, cAll, dNoPart, dPart, dSl, dRev, dTupRev, dFrz, dLstN, dListN, dPop, gdName, gdNil, gdCons, gdTup, gdSub, dCall, dIsiT, dCallH, dMeth, iSeq, iEnumD, iR1, iR2, iR3, dLcN, dLc, dYes, dNeg, dChain, items_lst, items_tup]
  simp
  refine ⟨_, _, ⟨rfl, rfl⟩, ⟨by omega, by omega, by omega, by omega⟩, ?_⟩
  have e1 : ((hi : Int) + 1 - 1).toNat = hi := by omega
  rw [e1]
  have ok : CntOk bs (fun _ => 1) 0 := ⟨rfl, fun _ _ => by omega, fun k h1 h2 _ => by omega, fun k h1 h2 => by omega⟩
  exact lp_counts hb hl hh (fun c x ok => by simp [sRet, dFrz]; exact q c ok) hi 0 (fun _ => 1) .un ok (by omega)
end
end K96
set_option Elab.async false
set_option linter.all false
set_option maxRecDepth 100000
set_option maxHeartbeats 1000000
namespace K96
open PySem PySem.Spec L2 L2R DL CM
open PyProof.Rows hiding St
section
variable {K : PySem.W.Frag} {mg : PySem.Str → Option Value}
structure Cr (bs : List Int) (L : Int) (c : List Int) : Prop where
  inb : ∀ b ∈ c, b ∈ bs
  sum : c.sum = L
theorem lp_course2 {W : EndsD} {bs : List Int} {c : Nat → Int} {hi : Nat} {L : Int} {A : Sl} (hb : ∀ b ∈ bs, 1 ≤ b) (hl : bs.length ≤ 1000) (hh : hi ≤ 100000) (ok : CntOk bs c hi) (h : ∀ (cr : List Int) (l : Int) (x y : Sl), Cr bs L cr → W.nx [.hand, .val (.tup (nums bs)), A, .val (.lst (nums (row c hi))), .val (.int l), .own (nums cr), x, y, .un]) :
    ∀ (d : Nat) (lo : Int) (left : Int) (cr : List Int) (x y : Sl), 0 ≤ left → left ≤ d → left ≤ hi → 0 < c left.toNat → (∀ b ∈ cr, b ∈ bs) → cr.sum + left = L → cr.length + d ≤ 1000000 → forL (gdName 6) (lb__law_course_0 K) W (rngD lo d) [.hand, .val (.tup (nums bs)), A, .val (.lst (nums (row c hi))), .val (.int left), .own (nums cr), x, y, .un]
  | 0, lo, left, cr, x, y, h0, h1, _, _, hin, hs, _ => h cr left x y ⟨hin, by omega⟩
  | d + 1, lo, left, cr, x, y, h0, h1, h2, hc, hin, hs, hlen => by
    rw [rng_succ]
    simp only [forL, gdName, lb__law_course_0, pD, pH, pI, startG, startH, startI, sNext, sSeq, sBrk, sCnt, sDrop, sRet, sRetN, sIf, sNever, sAsg, sAsgN, sPar, sAug, sApp, sFldS, sFor, dC, dVar, dOwn, d2, d2O, oI, oIC, oAdd, oSub, oMul, oFdiv, oMod, oPow, oLt, oLe, oGt, oGe, oIsN, oNotN, oIn, oNin, oIx, oCatT, dTest, dAnd, dOr, dNot, dAndV, dOrV, dNotV, dIfE, dTru, dNil, dCons, dTup, dLst, dFld, dCB, dCB1, cLen, cAbs, cInt, cMax2, cMin2, cSum, cList, cTuple, cAny, cAll, dNoPart, dPart, dSl, dRev, dTupRev, dFrz, dLstN, dListN, dPop, gdName, gdNil, gdCons, gdTup, gdSub, dCall, dIsiT, dCallH, dMeth, iSeq, iEnumD, iR1, iR2, iR3, dLcN, dLc, dYes, dNeg, dChain, items_lst, items_tup]
    simp
    by_cases hp : 0 < left
    · rw [if_pos hp]
      refine ⟨_, rfl, rfl, ?_⟩
      simp only [wipS, List.set_cons_succ, List.set_cons_zero]
      refine lc_filt (fun b => decide (b ≤ left) && decide (0 < c (left - b).toNat)) (fun b => b) (fun b hb' Qd hq => ?_) (fun b hb' ht Qd hq => ?_) (by omega) ?_
      · have hb1 := hb b hb'
        simp [pD, pH, pI, startG, startH, startI, sNext, sSeq, sBrk, sCnt, sDrop, sRet, sRetN, sIf, sNever, sAsg, sAsgN, sPar, sAug, sApp, sFldS, sFor, dC, dVar, dOwn, d2, d2O, oI, oIC, oAdd, oSub, oMul, oFdiv, oMod, oPow, oLt, oLe, oGt, oGe, oIsN, oNotN, oIn, oNin, oIx, oCatT, dTest, dAnd, dOr, dNot, dAndV, dOrV, dNotV, dIfE, dTru, dNil, dCons, dTup, dLst, dFld, dCB, dCB1, cLen, cAbs, cInt, cMax2, cMin2, cSum, cList, cTuple, cAny, cAll, dNoPart, dPart, dSl, dRev, dTupRev, dFrz, dLstN, dListN, dPop, gdName, gdNil, gdCons, gdTup, gdSub, dCall, dIsiT, dCallH, dMeth, iSeq, iEnumD, iR1, iR2, iR3, dLcN, dLc, dYes, dNeg, dChain, items_lst, items_tup]
        by_cases z : b ≤ left
        · have za := atI_row (f := c) (n := hi) (i := left - b) (by omega) (by omega)
          simp [z, items_lst, za]
          simpa [z] using hq
        · simp [z]
          simpa [z] using hq
      · simp [pD, pH, pI, startG, startH, startI, sNext, sSeq, sBrk, sCnt, sDrop, sRet, sRetN, sIf, sNever, sAsg, sAsgN, sPar, sAug, sApp, sFldS, sFor, dC, dVar, dOwn, d2, d2O, oI, oIC, oAdd, oSub, oMul, oFdiv, oMod, oPow, oLt, oLe, oGt, oGe, oIsN, oNotN, oIn, oNin, oIx, oCatT, dTest, dAnd, dOr, dNot, dAndV, dOrV, dNotV, dIfE, dTru, dNil, dCons, dTup, dLst, dFld, dCB, dCB1, cLen, cAbs, cInt, cMax2, cMin2, cSum, cList, cTuple, cAny, cAll, dNoPart, dPart, dSl, dRev, dTupRev, dFrz, dLstN, dListN, dPop, gdName, gdNil, gdCons, gdTup, gdSub, dCall, dIsiT, dCallH, dMeth, iSeq, iEnumD, iR1, iR2, iR3, dLcN, dLc, dYes, dNeg, dChain, items_lst, items_tup]
        simpa using hq
      · have hne : ∃ b ∈ bs, b ≤ left ∧ 0 < c (left - b).toNat := by
          obtain ⟨b, a1, a2, a3⟩ := ok.get left.toNat (by omega) (by omega) hc
          refine ⟨b, a1, by omega, ?_⟩
          have : ((left.toNat : Int) - b) = left - b := by omega
          rw [this] at a3
          exact a3
        have hlen2 : 0 < (List.map (fun b => b) (bs.filter fun b => decide (b ≤ left) && decide (0 < c (left - b).toNat))).length := by
          obtain ⟨b, a1, a2, a3⟩ := hne
          refine List.length_pos_of_mem (a := b) (List.mem_map.mpr ⟨b, List.mem_filter.mpr ⟨a1, ?_⟩, rfl⟩)
          simp [a2, a3]
        have hlen3 : (List.map (fun b => b) (bs.filter fun b => decide (b ≤ left) && decide (0 < c (left - b).toNat))).length ≤ bs.length := by
          rw [List.length_map]
          exact List.length_filter_le _ _
        refine sp_pick (items_lst _) ⟨by rw [nums_len]; exact hlen2, by rw [nums_len]; omega⟩ fun z hz => ?_
        obtain ⟨b, hb', rfl⟩ := List.mem_map.mp hz
        obtain ⟨b', hb2, rfl⟩ := List.mem_map.mp hb'
        obtain ⟨m1, m2⟩ := List.mem_filter.mp hb2
        simp at m2
        have hb1 := hb _ m1
        have ih := lp_course2 hb hl hh ok h d (lo + 1) (left - b') (cr ++ [b']) (.val (.int lo)) (.val (.int b')) (by omega) (by omega) (by omega) m2.2 (fun y hy => by
          rcases List.mem_append.mp hy with z | z
          · exact hin y z
          · simp at z
            rw [z]
            exact m1) (by rw [List.sum_append]; simp; omega) (by simp; omega)
        refine ⟨by omega, ?_⟩
        simp at ih ⊢
        exact ih
    · rw [if_neg hp]
      exact lp_course2 hb hl hh ok h d (lo + 1) left cr _ y h0 (by omega) h2 hc hin hs (by omega)
theorem sp_lcourse {bs : List Int} {c : Nat → Int} {hi L : Nat} {Q : D → Prop} (hb : ∀ b ∈ bs, 1 ≤ b) (hl : bs.length ≤ 1000) (hh : hi ≤ 100000) (ok : CntOk bs c hi) (hL : L ≤ hi) (hc : 0 < c L) (q : ∀ cr, Cr bs L cr → Q (.tup (nums cr))) : p__law_course K [.tup (nums bs), .int (L : Nat), .lst (nums (row c hi))] Q := by
  refine ⟨rfl, ?_⟩
  simp only [td__law_course, pD, pH, pI, startG, startH, startI, sNext, sSeq, sBrk, sCnt, sDrop, sRet, sRetN, sIf, sNever, sAsg, sAsgN, sPar, sAug, sApp, sFldS, sFor, dC, dVar, dOwn, d2, d2O, oI, oIC, oAdd, oSub, oMul, oFdiv, oMod, oPow, oLt, oLe, oGt, oGe, oIsN, oNotN, oIn, oNin, oIx, oCatT, dTest, dAnd, dOr, dNot, dAndV, dOrV, dNotV, dIfE, dTru, dNil, dCons, dTup, dLst, dFld, dCB, dCB1, cLen, cAbs, cInt, cMax2, cMin2, cSum, cList, cTuple, cAny, cAll, dNoPart, dPart, dSl, dRev, dTupRev, dFrz, dLstN, dListN, dPop, gdName, gdNil, gdCons, gdTup, gdSub, dCall, dIsiT, dCallH, dMeth, iSeq, iEnumD, iR1, iR2, iR3, dLcN, dLc, dYes, dNeg, dChain, items_lst, items_tup]
  simp
  refine ⟨by omega, ?_⟩
  refine lp_course2 (L := (L : Int)) hb hl hh ok (fun cr l x y hcr => ?_) L 0 (L : Int) [] .un .un (by omega) (by omega) (by omega) (by simpa using hc) (fun b hb' => by simp at hb') (by simp) (by simp; omega)
  simp [sRet, dCB1, dOwn, cTuple, items_lst]
  exact q cr hcr
/-- what the law draws -/
structure Drawn (bs : List Int) (L : Nat) (cs : List (List Int)) : Prop where
  l : 1 ≤ cs.length ∧ cs.length ≤ 8
  cr : ∀ c ∈ cs, Cr bs (L : Int) c
theorem cr_list {bs : List Int} {L : Int} : ∀ {ds : List D}, (∀ d ∈ ds, ∃ cr, Cr bs L cr ∧ d = .tup (nums cr)) → ∃ cs : List (List Int), ds = csD cs ∧ ∀ c ∈ cs, Cr bs L c
  | [], _ => ⟨[], rfl, fun _ h => by simp at h⟩
  | d :: ds, h => by
    obtain ⟨cr, h1, rfl⟩ := h d (List.mem_cons_self ..)
    obtain ⟨cs, rfl, h2⟩ := cr_list fun x hx => h x (List.mem_cons_of_mem _ hx)
    refine ⟨cr :: cs, rfl, fun c hc => ?_⟩
    rcases List.mem_cons.mp hc with rfl | hc
    · exact h1
    · exact h2 c hc
theorem sp_drawn {hi : Nat} {Q : D → Prop} (hh : 5 ≤ hi ∧ hi ≤ 1000) (q : ∀ (bs : List Int) (la re : Int) (L : Nat) (cs : List (List Int)), Stk bs la re → 2 ≤ L → L ≤ hi → (∃ c, CntOk bs c hi ∧ 0 < c L) → Drawn bs L cs → Q (.tup [.tup [.tup (nums bs), .int la, .int re], .int (L : Nat), .lst (csD cs)])) : p__law_courses_drawn K [.int (hi : Nat), .int 8] Q := by
  refine ⟨rfl, ?_⟩
  simp only [td__law_courses_drawn, pD, pH, pI, startG, startH, startI, sNext, sSeq, sBrk, sCnt, sDrop, sRet, sRetN, sIf, sNever, sAsg, sAsgN, sPar, sAug, sApp, sFldS, sFor, dC, dVar, dOwn, d2, d2O, oI, oIC, oAdd, oSub, oMul, oFdiv, oMod, oPow, oLt, oLe, oGt, oGe, oIsN, oNotN, oIn, oNin, oIx, oCatT, dTest, dAnd, dOr, dNot, dAndV, dOrV, dNotV, dIfE, dTru, dNil, dCons, dTup, dLst, dFld, dCB, dCB1, cLen, cAbs, cInt, cMax2, cMin2, cSum, cList, cTuple, cAny, cAll, dNoPart, dPart, dSl, dRev, dTupRev, dFrz, dLstN, dListN, dPop, gdName, gdNil, gdCons, gdTup, gdSub, dCall, dIsiT, dCallH, dMeth, iSeq, iEnumD, iR1, iR2, iR3, dLcN, dLc, dYes, dNeg, dChain, items_lst, items_tup]
  simp
  refine sp_stock fun bs la re stk => ?_
  have hb : ∀ b ∈ bs, 1 ≤ b := fun b hb' => (stk.five b hb').1
  have hl := stk.l
  have z0 : ∀ a b c : D, L2.atI [a, b, c] 0 = some a := fun _ _ _ => rfl
  refine ⟨_, rfl, _, z0 _ _ _, ?_⟩
  refine sp_counts hb (by omega) (by omega) fun c ok => ?_
  refine ⟨_, _, ⟨rfl, rfl⟩, ⟨by omega, by omega, by omega, by omega⟩, rfl, ?_⟩
  simp only [wipS, List.set_cons_succ, List.set_cons_zero]
  rw [rng_nums]
  refine lc_filt (fun x => decide (0 < c x.toNat)) (fun x => x) (fun x hx Qd hq => ?_) (fun x hx ht Qd hq => ?_) (by simp; omega) ?_
  · obtain ⟨k, hk, rfl⟩ := List.mem_map.mp hx
    have hk := List.mem_range.mp hk
    have za := atI_row (f := c) (n := hi) (i := 2 + (k : Int)) (by omega) (by omega)
    simp [pD, pH, pI, startG, startH, startI, sNext, sSeq, sBrk, sCnt, sDrop, sRet, sRetN, sIf, sNever, sAsg, sAsgN, sPar, sAug, sApp, sFldS, sFor, dC, dVar, dOwn, d2, d2O, oI, oIC, oAdd, oSub, oMul, oFdiv, oMod, oPow, oLt, oLe, oGt, oGe, oIsN, oNotN, oIn, oNin, oIx, oCatT, dTest, dAnd, dOr, dNot, dAndV, dOrV, dNotV, dIfE, dTru, dNil, dCons, dTup, dLst, dFld, dCB, dCB1, cLen, cAbs, cInt, cMax2, cMin2, cSum, cList, cTuple, cAny, cAll, dNoPart, dPart, dSl, dRev, dTupRev, dFrz, dLstN, dListN, dPop, gdName, gdNil, gdCons, gdTup, gdSub, dCall, dIsiT, dCallH, dMeth, iSeq, iEnumD, iR1, iR2, iR3, dLcN, dLc, dYes, dNeg, dChain, items_lst, items_tup, items_lst, za]
    simpa using hq
  · simp [pD, pH, pI, startG, startH, startI, sNext, sSeq, sBrk, sCnt, sDrop, sRet, sRetN, sIf, sNever, sAsg, sAsgN, sPar, sAug, sApp, sFldS, sFor, dC, dVar, dOwn, d2, d2O, oI, oIC, oAdd, oSub, oMul, oFdiv, oMod, oPow, oLt, oLe, oGt, oGe, oIsN, oNotN, oIn, oNin, oIx, oCatT, dTest, dAnd, dOr, dNot, dAndV, dOrV, dNotV, dIfE, dTru, dNil, dCons, dTup, dLst, dFld, dCB, dCB1, cLen, cAbs, cInt, cMax2, cMin2, cSum, cList, cTuple, cAny, cAll, dNoPart, dPart, dSl, dRev, dTupRev, dFrz, dLstN, dListN, dPop, gdName, gdNil, gdCons, gdTup, gdSub, dCall, dIsiT, dCallH, dMeth, iSeq, iEnumD, iR1, iR2, iR3, dLcN, dLc, dYes, dNeg, dChain, items_lst, items_tup]
    simpa using hq
  · -- two bricks: the longer one stands for itself
    obtain ⟨b1, b2, r, hbs⟩ : ∃ b1 b2 r, bs = b1 :: b2 :: r := by
      match bs, hl with
      | b1 :: b2 :: r, _ => exact ⟨b1, b2, r, rfl⟩
      | [_], h => simp at h
      | [], h => simp at h
    have hb2m : b2 ∈ bs := by rw [hbs]; simp
    have hb2 : 2 ≤ b2 ∧ b2 ≤ 5 := by
      have o := stk.ok
      rw [hbs] at o
      obtain ⟨a1, a2, a3, a4, _⟩ := o
      have := (stk.five b2 hb2m).2
      omega
    have hpos : 0 < c b2.toNat := ok.put b2.toNat (by omega) (by omega) b2 hb2m (by omega) (by
      have : ((b2.toNat : Int) - b2).toNat = 0 := by omega
      rw [this, ok.zero]
      omega)
    generalize hxs : (List.map (fun x => x) (((List.range ((hi : Int) + 1 - 2).toNat).map fun k => 2 + ((k : Nat) : Int)).filter fun x => decide (0 < c x.toNat))) = xs
    have hmem : b2 ∈ xs := by
      rw [← hxs]
      refine List.mem_map.mpr ⟨b2, List.mem_filter.mpr ⟨List.mem_map.mpr ⟨(b2 - 2).toNat, List.mem_range.mpr (by omega), by omega⟩, decide_eq_true hpos⟩, rfl⟩
    have hlen : xs.length ≤ hi := by
      rw [← hxs, List.length_map]
      refine Nat.le_trans (List.length_filter_le _ _) ?_
      simp
      omega
    refine sp_pick (items_lst _) ⟨by rw [nums_len]; exact List.length_pos_of_mem hmem, by rw [nums_len]; omega⟩ fun z hz => ?_
    obtain ⟨y, hy, rfl⟩ := List.mem_map.mp hz
    rw [← hxs] at hy
    obtain ⟨y', hy', rfl⟩ := List.mem_map.mp hy
    obtain ⟨m1, m2⟩ := List.mem_filter.mp hy'
    obtain ⟨k, hk, rfl⟩ := List.mem_map.mp m1
    have hk := List.mem_range.mp hk
    have m2 : 0 < c (2 + (k : Int)).toNat := of_decide_eq_true m2
    have eL : (2 + (k : Int)) = ((k + 2 : Nat) : Int) := by omega
    have eL2 : (2 + (k : Int)).toNat = k + 2 := by omega
    rw [eL2] at m2
    refine sp_draw ⟨by omega, by omega⟩ fun d h1 h2 => ?_
    refine ⟨_, rfl, by omega, by omega, rfl, ?_⟩
    refine lc_dem (fun d => ∃ cr, Cr bs ((k + 2 : Nat) : Int) cr ∧ d = .tup (nums cr)) (fun x hx Qd hq => ?_) (by simp [rngD]; omega) fun ds e1 e2 => ?_
    · simp [pD, pH, pI, startG, startH, startI, sNext, sSeq, sBrk, sCnt, sDrop, sRet, sRetN, sIf, sNever, sAsg, sAsgN, sPar, sAug, sApp, sFldS, sFor, dC, dVar, dOwn, d2, d2O, oI, oIC, oAdd, oSub, oMul, oFdiv, oMod, oPow, oLt, oLe, oGt, oGe, oIsN, oNotN, oIn, oNin, oIx, oCatT, dTest, dAnd, dOr, dNot, dAndV, dOrV, dNotV, dIfE, dTru, dNil, dCons, dTup, dLst, dFld, dCB, dCB1, cLen, cAbs, cInt, cMax2, cMin2, cSum, cList, cTuple, cAny, cAll, dNoPart, dPart, dSl, dRev, dTupRev, dFrz, dLstN, dListN, dPop, gdName, gdNil, gdCons, gdTup, gdSub, dCall, dIsiT, dCallH, dMeth, iSeq, iEnumD, iR1, iR2, iR3, dLcN, dLc, dYes, dNeg, dChain, items_lst, items_tup]
      rw [eL]
      refine ⟨_, z0 _ _ _, sp_lcourse hb (by omega) (by omega) ok (by omega) m2 fun cr hcr => ?_⟩
      have := hq _ ⟨cr, hcr, rfl⟩
      rw [eL] at this
      simpa using this
    · obtain ⟨cs, rfl, hcs⟩ := cr_list e2
      rw [List.nil_append, eL]
      have e3 : (csD cs).length = (1 + d).toNat := by rw [e1]; simp [rngD]
      rw [csD_len] at e3
      exact q bs la re (k + 2) cs stk (by omega) (by omega) ⟨c, ok, m2⟩ ⟨⟨by omega, by omega⟩, hcs⟩
theorem sp_two {Q : D → Prop} (q : ∀ br bd : Int, (0 ≤ br ∧ br ≤ 1000000) → (0 ≤ bd ∧ bd ≤ 1000000) → Q (.tup [.int br, .int bd])) : p__law_two_prices K [] Q := by
  refine ⟨rfl, ?_⟩
  simp only [td__law_two_prices, pD, pH, pI, startG, startH, startI, sNext, sSeq, sBrk, sCnt, sDrop, sRet, sRetN, sIf, sNever, sAsg, sAsgN, sPar, sAug, sApp, sFldS, sFor, dC, dVar, dOwn, d2, d2O, oI, oIC, oAdd, oSub, oMul, oFdiv, oMod, oPow, oLt, oLe, oGt, oGe, oIsN, oNotN, oIn, oNin, oIx, oCatT, dTest, dAnd, dOr, dNot, dAndV, dOrV, dNotV, dIfE, dTru, dNil, dCons, dTup, dLst, dFld, dCB, dCB1, cLen, cAbs, cInt, cMax2, cMin2, cSum, cList, cTuple, cAny, cAll, dNoPart, dPart, dSl, dRev, dTupRev, dFrz, dLstN, dListN, dPop, gdName, gdNil, gdCons, gdTup, gdSub, dCall, dIsiT, dCallH, dMeth, iSeq, iEnumD, iR1, iR2, iR3, dLcN, dLc, dYes, dNeg, dChain, items_lst, items_tup]
  simp
  refine sp_pick (items_lst _) ⟨by simp, by simp⟩ fun x hx => ?_
  have hx' : ∃ a : Int, x = .int a ∧ 0 ≤ a ∧ a ≤ 40 := by
    simp at hx
    rcases hx with rfl | rfl | rfl | rfl | rfl | rfl | rfl | rfl | rfl | rfl <;> exact ⟨_, rfl, by omega, by omega⟩
  obtain ⟨a, rfl, ha⟩ := hx'
  refine sp_pick (items_lst _) ⟨by simp, by simp⟩ fun y hy => ?_
  have hy' : ∃ b : Int, y = .int b ∧ 0 ≤ b ∧ b ≤ 7 := by
    simp at hy
    rcases hy with rfl | rfl | rfl | rfl | rfl | rfl | rfl <;> exact ⟨_, rfl, by omega, by omega⟩
  obtain ⟨b, rfl, hb⟩ := hy'
  refine ⟨_, _, ⟨rfl, rfl⟩, ?_⟩
  have pw : CPow 10 6 := ⟨by omega, by omega, by decide⟩
  refine sp_draw (m := 3) ⟨by omega, by omega⟩ fun d1 _ _ => oEq_int.mpr ?_
  by_cases c1 : d1 = 0
  · refine .inr ⟨by simp [c1], ?_⟩
    refine sp_draw (m := 25000) ⟨by omega, by omega⟩ fun x _ _ => ?_
    refine ⟨x, rfl, a, rfl, cm_r ⟨by omega, by omega⟩, b, rfl, cm_r ⟨by omega, by omega⟩, ?_⟩
    have b1 : a * (1 + x) ≤ 40 * 25000 := Int.mul_le_mul (by omega) (by omega) (by omega) (by omega)
    have b2 : b * (1 + x) ≤ 7 * 25000 := Int.mul_le_mul (by omega) (by omega) (by omega) (by omega)
    exact q _ _ ⟨Int.mul_nonneg (by omega) (by omega), by omega⟩ ⟨Int.mul_nonneg (by omega) (by omega), by omega⟩
  · refine .inl ⟨by simp [c1], ?_⟩
    refine sp_draw (m := 8) ⟨by omega, by omega⟩ fun d2 _ _ => oEq_int.mpr ?_
    by_cases c2 : d2 = 0
    · refine .inr ⟨by simp [c2], pw, ?_⟩
      refine sp_draw (m := 1000001) ⟨by omega, by omega⟩ fun x _ _ => ⟨x, rfl, pw, ?_⟩
      refine sp_draw (m := 1000001) ⟨by omega, by omega⟩ fun y _ _ => ⟨y, rfl, ?_⟩
      exact q _ _ ⟨by omega, by omega⟩ ⟨by omega, by omega⟩
    · refine .inl ⟨by simp [c2], ?_⟩
      refine sp_draw (m := 5) ⟨by omega, by omega⟩ fun d3 _ _ => oEq_int.mpr ?_
      by_cases c3 : d3 = 0
      · refine .inr ⟨by simp [c3], ?_⟩
        refine sp_pick (items_lst _) ⟨by simp, by simp⟩ fun z hz => ?_
        have hz' : ∃ m : Int, z = .int m ∧ 3 ≤ m ∧ m ≤ 40 := by
          simp at hz
          rcases hz with rfl | rfl | rfl <;> exact ⟨_, rfl, by omega, by omega⟩
        obtain ⟨m, rfl, hm⟩ := hz'
        refine sp_draw ⟨by omega, by omega⟩ fun x _ _ => ⟨x, rfl, cm_r ⟨by omega, by omega⟩, ?_⟩
        exact q _ _ ⟨by omega, by omega⟩ ⟨by omega, by omega⟩
      · exact .inl ⟨by simp [c3], q _ _ ⟨by omega, by omega⟩ ⟨by omega, by omega⟩⟩
/-! the law's own sums -/
theorem lp_ljoints {W : EndsD} {ns : List Int} (h : ∀ p d, W.nx [.val (.tup (nums ns)), .own (nums (joints 0 ns)), .val (.int p), d]) : ∀ (r acc : List Int) (p : Int) (d : Sl), acc.length + r.length ≤ 1000000 → acc ++ joints p r = joints 0 ns →
    forL (gdName 3) (lb__law_joints_0 K) W (nums r).dropLast [.val (.tup (nums ns)), .own (nums acc), .val (.int p), d]
  | [], acc, p, d, _, e => by
    simp [joints] at e
    simp [forL, e, h]
  | [a], acc, p, d, _, e => by
    simp [joints] at e
    simp [forL, e, h]
  | a :: b :: r, acc, p, d, hl, e => by
    have := lp_ljoints h (b :: r) (acc ++ [p + a]) (p + a) (.val (.int a)) (by simp at hl ⊢; omega) (by simp [joints] at e ⊢; exact e)
    simp at hl
    simp [forL, lb__law_joints_0, gdName, sSeq, sAsg, d2, oAdd, oI, sApp, dVar]
    refine ⟨by omega, ?_⟩
    simp at this
    exact this
theorem sp_ljoints {ns : List Int} {Q : D → Prop} (hl : ns.length ≤ 1000000) (q : Q (.lst (nums (joints 0 ns)))) : p__law_joints K [.tup (nums ns)] Q := by
  refine ⟨rfl, ?_⟩
  simp only [td__law_joints, pD, pH, pI, startG, startH, startI, sNext, sSeq, sBrk, sCnt, sDrop, sRet, sRetN, sIf, sNever, sAsg, sAsgN, sPar, sAug, sApp, sFldS, sFor, dC, dVar, dOwn, d2, d2O, oI, oIC, oAdd, oSub, oMul, oFdiv, oMod, oPow, oLt, oLe, oGt, oGe, oIsN, oNotN, oIn, oNin, oIx, oCatT, dTest, dAnd, dOr, dNot, dAndV, dOrV, dNotV, dIfE, dTru, dNil, dCons, dTup, dLst, dFld, dCB, dCB1, cLen, cAbs, cInt, cMax2, cMin2, cSum, cList, cTuple, cAny, cAll, dNoPart, dPart, dSl, dRev, dTupRev, dFrz, dLstN, dListN, dPop, gdName, gdNil, gdCons, gdTup, gdSub, dCall, dIsiT, dCallH, dMeth, iSeq, iEnumD, iR1, iR2, iR3, dLcN, dLc, dYes, dNeg, dChain, items_lst, items_tup]
  simp [cut_init, items_tup]
  exact lp_ljoints (fun p d => by simp [sRet, dFrz, q]) ns [] 0 .un (by simpa using hl) (by simp)
theorem sp_lown {ns : List Int} {br : Int} {n : Nat} {Q : D → Prop} (hl : ns.length ≤ 1000000) (hn : n ≤ 1000000) (q : Q (.lst (nums (row (own ns br) n)))) : p__law_own K [.tup (nums ns), .int ((n : Int) + 2), .int br] Q := by
  refine ⟨rfl, ?_⟩
  simp only [td__law_own, pD, pH, pI, startG, startH, startI, sNext, sSeq, sBrk, sCnt, sDrop, sRet, sRetN, sIf, sNever, sAsg, sAsgN, sPar, sAug, sApp, sFldS, sFor, dC, dVar, dOwn, d2, d2O, oI, oIC, oAdd, oSub, oMul, oFdiv, oMod, oPow, oLt, oLe, oGt, oGe, oIsN, oNotN, oIn, oNin, oIx, oCatT, dTest, dAnd, dOr, dNot, dAndV, dOrV, dNotV, dIfE, dTru, dNil, dCons, dTup, dLst, dFld, dCB, dCB1, cLen, cAbs, cInt, cMax2, cMin2, cSum, cList, cTuple, cAny, cAll, dNoPart, dPart, dSl, dRev, dTupRev, dFrz, dLstN, dListN, dPop, gdName, gdNil, gdCons, gdTup, gdSub, dCall, dIsiT, dCallH, dMeth, iSeq, iEnumD, iR1, iR2, iR3, dLcN, dLc, dYes, dNeg, dChain, items_lst, items_tup]
  simp
  refine sp_ljoints hl ?_
  refine ⟨_, _, ⟨rfl, rfl⟩, ⟨by omega, by omega, by omega, by omega⟩, rfl, ?_⟩
  have e1 : ((n : Int) + 2 - 1).toNat = n + 1 := by omega
  rw [e1]
  simp only [wipS, List.set_cons_succ, List.set_cons_zero]
  refine lc_rng (fun k => .int (own ns br k)) (fun k hk Qd hq => ?_) (by omega) ?_
  · simp [wipS, pD, pH, pI, startG, startH, startI, sNext, sSeq, sBrk, sCnt, sDrop, sRet, sRetN, sIf, sNever, sAsg, sAsgN, sPar, sAug, sApp, sFldS, sFor, dC, dVar, dOwn, d2, d2O, oI, oIC, oAdd, oSub, oMul, oFdiv, oMod, oPow, oLt, oLe, oGt, oGe, oIsN, oNotN, oIn, oNin, oIx, oCatT, dTest, dAnd, dOr, dNot, dAndV, dOrV, dNotV, dIfE, dTru, dNil, dCons, dTup, dLst, dFld, dCB, dCB1, cLen, cAbs, cInt, cMax2, cMin2, cSum, cList, cTuple, cAny, cAll, dNoPart, dPart, dSl, dRev, dTupRev, dFrz, dLstN, dListN, dPop, gdName, gdNil, gdCons, gdTup, gdSub, dCall, dIsiT, dCallH, dMeth, iSeq, iEnumD, iR1, iR2, iR3, dLcN, dLc, dYes, dNeg, dChain, items_lst, items_tup, items_lst]
    simp only [List.set_cons_succ, List.set_cons_zero] at hq
    refine ⟨joints 0 ns, rfl, ?_⟩
    have e2 : (1 + (k : Int)) = (k : Int) + 1 := by omega
    rw [e2] at hq ⊢
    unfold own at hq
    split
    · rename_i h
      simpa [h] using hq
    · rename_i h
      simpa [h] using hq
  · rw [map_int]
    exact q
theorem sp_lnext {f g : Nat → Int} {bd : Int} {n : Nat} {Q : D → Prop} (hb : 0 ≤ bd ∧ bd ≤ 1000000) (hn : n ≤ 1000000) (q : Q (.lst (nums (row (nxt f bd n g) n)))) : p__law_next K [.lst (nums (row f n)), .lst (nums (row g n)), .int bd] Q := by
  refine ⟨rfl, ?_⟩
  simp only [td__law_next, pD, pH, pI, startG, startH, startI, sNext, sSeq, sBrk, sCnt, sDrop, sRet, sRetN, sIf, sNever, sAsg, sAsgN, sPar, sAug, sApp, sFldS, sFor, dC, dVar, dOwn, d2, d2O, oI, oIC, oAdd, oSub, oMul, oFdiv, oMod, oPow, oLt, oLe, oGt, oGe, oIsN, oNotN, oIn, oNin, oIx, oCatT, dTest, dAnd, dOr, dNot, dAndV, dOrV, dNotV, dIfE, dTru, dNil, dCons, dTup, dLst, dFld, dCB, dCB1, cLen, cAbs, cInt, cMax2, cMin2, cSum, cList, cTuple, cAny, cAll, dNoPart, dPart, dSl, dRev, dTupRev, dFrz, dLstN, dListN, dPop, gdName, gdNil, gdCons, gdTup, gdSub, dCall, dIsiT, dCallH, dMeth, iSeq, iEnumD, iR1, iR2, iR3, dLcN, dLc, dYes, dNeg, dChain, items_lst, items_tup]
  simp [items_lst, row_len]
  refine ⟨by omega, rfl, ?_⟩
  simp only [wipS, List.set_cons_succ, List.set_cons_zero]
  refine lc_rng (fun k => .int (nxt f bd n g k)) (fun k hk Qd hq => ?_) (by omega) ?_
  · simp [pD, pH, pI, startG, startH, startI, sNext, sSeq, sBrk, sCnt, sDrop, sRet, sRetN, sIf, sNever, sAsg, sAsgN, sPar, sAug, sApp, sFldS, sFor, dC, dVar, dOwn, d2, d2O, oI, oIC, oAdd, oSub, oMul, oFdiv, oMod, oPow, oLt, oLe, oGt, oGe, oIsN, oNotN, oIn, oNin, oIx, oCatT, dTest, dAnd, dOr, dNot, dAndV, dOrV, dNotV, dIfE, dTru, dNil, dCons, dTup, dLst, dFld, dCB, dCB1, cLen, cAbs, cInt, cMax2, cMin2, cSum, cList, cTuple, cAny, cAll, dNoPart, dPart, dSl, dRev, dTupRev, dFrz, dLstN, dListN, dPop, gdName, gdNil, gdCons, gdTup, gdSub, dCall, dIsiT, dCallH, dMeth, iSeq, iEnumD, iR1, iR2, iR3, dLcN, dLc, dYes, dNeg, dChain, items_lst, items_tup, items_lst, row_len]
    refine ⟨by omega, rfl, ?_⟩
    simp only [wipS, List.set_cons_succ, List.set_cons_zero]
    refine lc_rng (fun j => .int (f j + bd * ab ((j : Int) - k))) (fun j hj Qe he => ?_) (by omega) ?_
    · have za := atI_row (f := f) (n := n) (i := (j : Nat)) (by omega) (by omega)
      simp [pD, pH, pI, startG, startH, startI, sNext, sSeq, sBrk, sCnt, sDrop, sRet, sRetN, sIf, sNever, sAsg, sAsgN, sPar, sAug, sApp, sFldS, sFor, dC, dVar, dOwn, d2, d2O, oI, oIC, oAdd, oSub, oMul, oFdiv, oMod, oPow, oLt, oLe, oGt, oGe, oIsN, oNotN, oIn, oNin, oIx, oCatT, dTest, dAnd, dOr, dNot, dAndV, dOrV, dNotV, dIfE, dTru, dNil, dCons, dTup, dLst, dFld, dCB, dCB1, cLen, cAbs, cInt, cMax2, cMin2, cSum, cList, cTuple, cAny, cAll, dNoPart, dPart, dSl, dRev, dTupRev, dFrz, dLstN, dListN, dPop, gdName, gdNil, gdCons, gdTup, gdSub, dCall, dIsiT, dCallH, dMeth, iSeq, iEnumD, iR1, iR2, iR3, dLcN, dLc, dYes, dNeg, dChain, items_lst, items_tup, items_lst, za, and_assoc]
      refine ⟨cm_l hb, ?_⟩
      simpa [ab] using he
    · rw [map_int]
      refine min_row (f := fun j => f j + bd * ab ((j : Int) - k)) ?_
      have za := atI_row (f := g) (n := n) (i := (k : Nat)) (by omega) (by omega)
      refine ⟨_, za, _, rfl, _, rfl, ?_⟩
      simp at hq
      exact hq
  · rw [map_int]
    exact q
theorem lp_lsums {W : EndsD} {A : Sl} {br bd : Int} {n : Nat} (hb : 0 ≤ bd ∧ bd ≤ 1000000) (hn : n ≤ 1000000) {R : List D} (h : ∀ x, W.nx [A, .val (.int ((n : Int) + 2)), .val (.int br), .val (.int bd), .own R, x]) :
    ∀ (cs : List (List Int)) (acc : List D) (o : Nat → Int) (L : List (Nat → Int)) (x : Sl), (∀ c ∈ cs, c.length ≤ 1000000) → acc.length + cs.length ≤ 1000000 → acc ++ [rowD bd n (o :: L)] ++ (pre (o :: L) (cs.map fun c => own c br)).map (rowD bd n) = R →
      forL (gdName 5) (lb__law_sums_0 K) W (csD cs) [A, .val (.int ((n : Int) + 2)), .val (.int br), .val (.int bd), .own (acc ++ [rowD bd n (o :: L)]), x]
  | [], acc, o, L, x, _, _, hR => by
    simp [pre] at hR
    subst hR
    exact h x
  | c :: cs, acc, o, L, x, hc, hl, hR => by
    have ih := lp_lsums hb hn h cs (acc ++ [rowD bd n (o :: L)]) (own c br) (o :: L) (.val (.tup (nums c))) (fun c hc' => hc c (List.mem_cons_of_mem _ hc')) (by simp at hl ⊢; omega) (by simpa [pre] using hR)
    show gdName 5 (.tup (nums c)) _ _
    simp [gdName, lb__law_sums_0, pD, pH, pI, startG, startH, startI, sNext, sSeq, sBrk, sCnt, sDrop, sRet, sRetN, sIf, sNever, sAsg, sAsgN, sPar, sAug, sApp, sFldS, sFor, dC, dVar, dOwn, d2, d2O, oI, oIC, oAdd, oSub, oMul, oFdiv, oMod, oPow, oLt, oLe, oGt, oGe, oIsN, oNotN, oIn, oNin, oIx, oCatT, dTest, dAnd, dOr, dNot, dAndV, dOrV, dNotV, dIfE, dTru, dNil, dCons, dTup, dLst, dFld, dCB, dCB1, cLen, cAbs, cInt, cMax2, cMin2, cSum, cList, cTuple, cAny, cAll, dNoPart, dPart, dSl, dRev, dTupRev, dFrz, dLstN, dListN, dPop, gdName, gdNil, gdCons, gdTup, gdSub, dCall, dIsiT, dCallH, dMeth, iSeq, iEnumD, iR1, iR2, iR3, dLcN, dLc, dYes, dNeg, dChain, items_lst, items_tup, atI_last]
    refine sp_lown (hc c (List.mem_cons_self ..)) hn ?_
    refine sp_lnext hb hn ?_
    refine ⟨by simp at hl; omega, ?_⟩
    rw [S_nxt]
    simp [rowD] at ih
    exact ih
theorem sp_lsums {cs : List (List Int)} {br bd : Int} {n : Nat} {Q : D → Prop} (hb : 0 ≤ bd ∧ bd ≤ 1000000) (hc : ∀ c ∈ cs, c.length ≤ 1000000) (hn : n ≤ 1000000) (h0 : cs ≠ []) (hl : cs.length ≤ 1000000) (q : Q (.lst (rowsD bd n (cs.map fun c => own c br)))) :
    p__law_sums K [.lst (csD cs), .int ((n : Int) + 2), .int br, .int bd] Q := by
  cases cs with
  | nil => exact absurd rfl h0
  | cons c cs =>
    refine ⟨rfl, ?_⟩
    simp only [td__law_sums, pD, pH, pI, startG, startH, startI, sNext, sSeq, sBrk, sCnt, sDrop, sRet, sRetN, sIf, sNever, sAsg, sAsgN, sPar, sAug, sApp, sFldS, sFor, dC, dVar, dOwn, d2, d2O, oI, oIC, oAdd, oSub, oMul, oFdiv, oMod, oPow, oLt, oLe, oGt, oGe, oIsN, oNotN, oIn, oNin, oIx, oCatT, dTest, dAnd, dOr, dNot, dAndV, dOrV, dNotV, dIfE, dTru, dNil, dCons, dTup, dLst, dFld, dCB, dCB1, cLen, cAbs, cInt, cMax2, cMin2, cSum, cList, cTuple, cAny, cAll, dNoPart, dPart, dSl, dRev, dTupRev, dFrz, dLstN, dListN, dPop, gdName, gdNil, gdCons, gdTup, gdSub, dCall, dIsiT, dCallH, dMeth, iSeq, iEnumD, iR1, iR2, iR3, dLcN, dLc, dYes, dNeg, dChain, items_lst, items_tup]
    have z : L2.atI (csD (c :: cs)) 0 = some (.tup (nums c)) := atI_nat (by omega) rfl
    simp [z, items_lst]
    refine sp_lown (hc c (List.mem_cons_self ..)) hn ?_
    rw [cut_tail]
    exact lp_lsums hb hn (R := rowsD bd n ((c :: cs).map fun c => own c br)) (fun x => by simp [sRet, dFrz]; exact q) cs [] (own c br) [] .un (fun d hd => hc d (List.mem_cons_of_mem _ hd)) (by simp at hl ⊢; omega) rfl
end
end K96
set_option Elab.async false
set_option linter.all false
set_option maxRecDepth 100000
set_option maxHeartbeats 1000000
namespace K96
open PySem PySem.Spec L2 L2R DL CM
open PyProof.Rows hiding St
section
variable {K : PySem.W.Frag} {mg : PySem.Str → Option Value}
theorem mem_joints : ∀ (c : List Int) (p x : Int), x ∈ joints p c ↔ ∃ l r, c = l ++ r ∧ l ≠ [] ∧ r ≠ [] ∧ x = p + l.sum
  | [], p, x => by
    constructor
    · intro h
      simp [joints] at h
    · rintro ⟨l, r, h, h1, _⟩
      have := List.append_eq_nil_iff.mp h.symm
      exact absurd this.1 h1
  | [a], p, x => by
    constructor
    · intro h
      simp [joints] at h
    · rintro ⟨l, r, h, h1, h2, _⟩
      cases l with
      | nil => exact absurd rfl h1
      | cons b l =>
        cases r with
        | nil => exact absurd rfl h2
        | cons d r =>
          have := congrArg List.length h
          simp at this
  | a :: b :: r0, p, x => by
    have ih := mem_joints (b :: r0) (p + a) x
    show x ∈ (p + a) :: joints (p + a) (b :: r0) ↔ _
    rw [List.mem_cons, ih]
    constructor
    · rintro (rfl | ⟨l, r, h, h1, h2, h3⟩)
      · exact ⟨[a], b :: r0, rfl, by simp, by simp, by simp⟩
      · exact ⟨a :: l, r, by rw [h]; rfl, by simp, h2, by rw [List.sum_cons]; omega⟩
    · rintro ⟨l, r, h, h1, h2, h3⟩
      cases l with
      | nil => exact absurd rfl h1
      | cons d l =>
        obtain ⟨e1, h'⟩ := List.cons.inj h
        subst e1
        cases l with
        | nil =>
          left
          simpa using h3
        | cons d' l =>
          right
          exact ⟨d' :: l, r, h', by simp, h2, by rw [List.sum_cons] at h3; omega⟩
theorem joints_rev {c : List Int} {L x : Int} (h : c.sum = L) : x ∈ joints 0 c.reverse ↔ L - x ∈ joints 0 c := by
  have key : ∀ (c : List Int) (x : Int), c.sum = L → x ∈ joints 0 c.reverse → L - x ∈ joints 0 c := fun c x h hx => by
    obtain ⟨l, r, h1, h2, h3, h4⟩ := (mem_joints _ _ _).mp hx
    have e : c = r.reverse ++ l.reverse := by
      have := congrArg List.reverse h1
      rw [List.reverse_reverse, List.reverse_append] at this
      exact this
    refine (mem_joints _ _ _).mpr ⟨r.reverse, l.reverse, e, by simpa using h3, by simpa using h2, ?_⟩
    rw [e, List.sum_append, List.sum_reverse, List.sum_reverse] at h
    rw [List.sum_reverse]
    omega
  constructor
  · exact key c x h
  · intro hx
    have := key c.reverse (L - x) (by rw [List.sum_reverse]; exact h) (by rw [List.reverse_reverse]; exact hx)
    have e : L - (L - x) = x := by omega
    rw [e] at this
    exact this
theorem own_mir {c : List Int} {br : Int} {n : Nat} (h : c.sum = (n : Int) + 2) : Rn n (fun p => n - p) (own c br) (own c.reverse br) := fun p hp => by
  have e := joints_rev (c := c) (x := (p : Int) + 1) h
  have e2 : ((n : Int) + 2 - ((p : Int) + 1)) = ((n - p : Nat) : Int) + 1 := by omega
  rw [e2] at e
  unfold own
  simp only [e]
theorem all_mir {cs : List (List Int)} {br : Int} {n : Nat} (h : ∀ c ∈ cs, c.sum = (n : Int) + 2) : All2 (Rn n fun p => n - p) (cs.map fun c => own c br) ((cs.map List.reverse).map fun c => own c br) := by
  rw [List.map_map]
  exact All2.map2 fun c hc => own_mir (h c hc)
theorem pre_all {R : (Nat → Int) → (Nat → Int) → Prop} : ∀ {acc acc' os os' : List (Nat → Int)}, All2 R acc acc' → All2 R os os' → All2 (fun l m => All2 R l m) (pre acc os) (pre acc' os')
  | _, _, _, _, _, .nil => .nil
  | _, _, _, _, ha, .cons h t => .cons (.cons h ha) (pre_all (.cons h ha) t)
theorem row_rev (f : Nat → Int) (n : Nat) : (row f n).reverse = row (fun k => f (n - k)) n := by
  unfold row
  apply List.ext_getElem?
  intro i
  rw [List.getElem?_map]
  by_cases hi : i < n + 1
  · rw [List.getElem?_reverse (by simpa using hi), List.getElem?_range hi]
    simp only [List.length_map, List.length_range, List.getElem?_map]
    rw [List.getElem?_range (by omega)]
    have : n + 1 - 1 - i = n - i := by omega
    rw [this]
    rfl
  · rw [List.getElem?_eq_none (by simpa using hi), List.getElem?_eq_none (by simpa using hi)]
    rfl
theorem rows_mir {bd : Int} {n : Nat} : ∀ {A B : List (List (Nat → Int))}, All2 (fun l m => All2 (Rn n fun p => n - p) l m) A B → A.map (fun l => (row (S bd n l) n).reverse) = B.map (fun l => row (S bd n l) n)
  | _, _, .nil => rfl
  | _, _, .cons h t => by
    rw [List.map_cons, List.map_cons, rows_mir t, row_rev]
    congr 1
    refine row_congr fun k hk => ?_
    rw [S_ren (ren_mir n) h k hk]
/-- what one knows of a wall and its least crack -/
structure Wl (bs : List Int) (cs : List (List Int)) (br bd : Int) (n : Nat) : Prop where
  ok : WaOk bs cs ((n : Int) + 2)
  hn : n ≤ 1000
  hb : 0 ≤ bd ∧ bd ≤ 1000000
theorem Wl.cl {bs : List Int} {cs : List (List Int)} {br bd : Int} {n : Nat} (w : Wl bs cs br bd n) : ∀ c ∈ cs, c.length ≤ 1000000 := fun c hc => Nat.le_trans (w.ok.ok c hc).l2 (by omega)
theorem Wl.len {bs : List Int} {cs : List (List Int)} {br bd : Int} {n : Nat} (w : Wl bs cs br bd n) : cs.length ≤ 1000000 := Nat.le_trans w.ok.many (by omega)
theorem isL_of {cs : List (List Int)} {br bd v : Int} {n : Nat} (h0 : cs ≠ []) (hv : v = mn (S bd n (cs.map fun c => own c br).reverse) n) : IsL bd n (cs.map fun c => own c br) v := by
  have h := isL_S (b := bd) (n := n) (os := (cs.map fun c => own c br).reverse) (by simpa using h0)
  rw [← hv] at h
  have := h.rev
  rw [List.reverse_reverse] at this
  exact this
/-- least_crack, by what it is to have -/
theorem sp_leastL (e : Fx K mg) {st : D} {bs : List Int} {cs : List (List Int)} {br bd v : Int} {n : Nat} {Q : D → Prop} (w : Wl bs cs br bd n) (hv : IsL bd n (cs.map fun c => own c br) v)
    (q : ∀ ps : List Nat, Path n cs.length ps → cost bd (cs.map fun c => own c br) ps = v → Q (crD K v (plc ps))) : p_least_crack K [waD K st cs ((n : Int) + 2), prD K br bd] Q := by
  have hn := w.hn
  refine sp_least e w.hb w.cl (by omega) w.ok.ne w.len fun v' ps h1 h2 h3 => ?_
  have := (isL_of w.ok.ne h3).uniq hv
  subst this
  exact q ps h1 h2
theorem WaOk.mir {bs : List Int} {cs : List (List Int)} {L : Int} (ok : WaOk bs cs L) : WaOk bs (cs.map List.reverse) L := by
  refine ⟨by have := ok.ne; simpa using this, by rw [List.length_map]; exact ok.many, fun c hc => ?_, fun c hc => ?_⟩
  · obtain ⟨d, hd, rfl⟩ := List.mem_map.mp hc
    exact (ok.ok d hd).rev
  · obtain ⟨d, hd, rfl⟩ := List.mem_map.mp hc
    rw [List.sum_reverse]
    exact ok.sum d hd
theorem WaOk.up {bs : List Int} {cs : List (List Int)} {L : Int} (ok : WaOk bs cs L) : WaOk bs cs.reverse L := ⟨by have := ok.ne; simpa using this, by rw [List.length_reverse]; exact ok.many, fun c hc => ok.ok c (List.mem_reverse.mp hc), fun c hc => ok.sum c (List.mem_reverse.mp hc)⟩
theorem shp_numsD (bd : Int) (n : Nat) (os : List (Nat → Int)) : shp (.tup (numsD bd n os)) := (shp_tup (k := 1) fun d hd => by
  obtain ⟨l, _, rfl⟩ := List.mem_map.mp (show d ∈ (pre [] os).map fun l => D.tup (nums (row (S bd n l) n)) from hd)
  exact shp_tup (k := 0) (shp_nums 0 _)).shp
theorem lp_turn (e : Fx K mg) {W : EndsD} {st : D} {cs : List (List Int)} {br bd : Int} {n : Nat} {A C D1 E1 x y : Sl} (hb : 0 ≤ bd ∧ bd ≤ 1000000) (hc : ∀ c ∈ cs, c.length ≤ 1000000) (hn : n ≤ 1000000) (h0 : cs ≠ []) (hl : cs.length ≤ 1000000) {os : List (Nat → Int)} (ho : os ≠ []) (hos : cs.map (fun c => own c br) = os.reverse)
    (h : ∀ z, W.nx [A, .val (prD K br bd), C, D1, .val (.tup (numsD bd n os)), E1, .val (waD K st cs ((n : Int) + 2)), x, z, y]) :
    ∀ (d k : Nat) (z : Sl), k + d = n + 1 → forL (gdName 8) (lb__law_turned_alike_0 K) W (rngD ((k : Int) + 1) d) [A, .val (prD K br bd), C, D1, .val (.tup (numsD bd n os)), E1, .val (waD K st cs ((n : Int) + 2)), x, z, y]
  | 0, k, z, _ => h z
  | d + 1, k, z, hk => by
    have ih := lp_turn e hb hc hn h0 hl ho hos h d (k + 1) (.val (.int ((k : Int) + 1))) (by omega)
    rw [rng_succ]
    simp only [forL, gdName, lb__law_turned_alike_0, pD, pH, pI, startG, startH, startI, sNext, sSeq, sBrk, sCnt, sDrop, sRet, sRetN, sIf, sNever, sAsg, sAsgN, sPar, sAug, sApp, sFldS, sFor, dC, dVar, dOwn, d2, d2O, oI, oIC, oAdd, oSub, oMul, oFdiv, oMod, oPow, oLt, oLe, oGt, oGe, oIsN, oNotN, oIn, oNin, oIx, oCatT, dTest, dAnd, dOr, dNot, dAndV, dOrV, dNotV, dIfE, dTru, dNil, dCons, dTup, dLst, dFld, dCB, dCB1, cLen, cAbs, cInt, cMax2, cMin2, cSum, cList, cTuple, cAny, cAll, dNoPart, dPart, dSl, dRev, dTupRev, dFrz, dLstN, dListN, dPop, gdName, gdNil, gdCons, gdTup, gdSub, dCall, dIsiT, dCallH, dMeth, iSeq, iEnumD, iR1, iR2, iR3, dLcN, dLc, dYes, dNeg, dChain, items_lst, items_tup]
    simp
    refine sp_from e hb hc hn h0 hl (by omega : k ≤ n) fun ps => ?_
    simp only [f_crD_price e]
    have z1 : L2.atI (numsD bd n os) (-1) = some (.tup (nums (row (S bd n os.reverse) n))) := by
      have hl0 : 0 < os.length := List.length_pos_iff.mpr ho
      have len : (numsD bd n os).length = os.length := by unfold numsD; rw [List.length_map, pre_len]
      unfold L2.atI L2.ixN
      rw [if_neg (by omega), if_pos (by rw [len]; omega), len]
      have e : ((-1 : Int) + (os.length : Nat)).toNat = os.length - 1 := by omega
      show (numsD bd n os)[((-1 : Int) + (os.length : Nat)).toNat]? = _
      rw [e]
      unfold numsD
      rw [List.getElem?_map, pre_get (by omega)]
      have : os.length - 1 + 1 = os.length := by omega
      rw [this, List.take_length]
      simp
    have z2 := atI_row (f := S bd n os.reverse) (n := n) (i := (k : Nat)) (by omega) (by omega)
    refine ⟨_, rfl, _, z1, _, rfl, _, z2, ?_⟩
    rw [hos]
    refine oNe_int.mpr ?_
    refine .inl ⟨by simp, ?_⟩
    have e9 : (((k + 1 : Nat) : Int) + 1) = (k : Int) + 1 + 1 := by omega
    rw [e9] at ih
    exact ih
theorem sp_count2 (e : Fx K mg) {st : D} {bs : List Int} {cs : List (List Int)} {br bd v : Int} {n : Nat} {Q : D → Prop} (w : Wl bs cs br bd n) (lv : IsL bd n (cs.map fun c => own c br) v) (q : Q (.tup [.int v, .int (cnt bd n (cs.map fun c => own c br) v)])) : p_count_cracks K [waD K st cs ((n : Int) + 2), prD K br bd] Q := by
  have hn := w.hn
  have hv := (isL_of (bd := bd) (br := br) (n := n) w.ok.ne rfl).uniq lv
  obtain ⟨c, cs', rfl⟩ : ∃ c cs', cs = c :: cs' := by
    have := w.ok.ne
    cases cs with
    | nil => exact absurd rfl this
    | cons c cs' => exact ⟨c, cs', rfl⟩
  refine sp_count e w.hb w.cl (by omega) ?_
  rw [hv, cnt_rev]
  exact q
theorem sp_turned (e : Fx K mg) {bs : List Int} {la re : Int} {cs : List (List Int)} {br bd v : Int} {n : Nat} {ps : List Nat} {Q : D → Prop} (w : Wl bs cs br bd n) (hp : Path n cs.length ps) (hcost : cost bd (cs.map fun c => own c br) ps = v) (hv : v = mn (S bd n (cs.map fun c => own c br).reverse) n)
    (q : Q (.bl true)) : p__law_turned_alike K [waD K (stD K bs la re) cs ((n : Int) + 2), prD K br bd, .int ((n : Int) + 2), crD K v (plc ps), .tup (numsD bd n (cs.map fun c => own c br))] Q := by
  refine ⟨rfl, ?_⟩
  have hn := w.hn
  have hm := w.ok.many
  have all := all_mir (br := br) w.ok.sum
  have wm : Wl bs (cs.map List.reverse) br bd n := ⟨w.ok.mir, w.hn, w.hb⟩
  have wu : Wl bs cs.reverse br bd n := ⟨w.ok.up, w.hn, w.hb⟩
  have lv := isL_of w.ok.ne hv
  have lm : IsL bd n ((cs.map List.reverse).map fun c => own c br) v := lv.ren (ren_mir n) all
  have lu : IsL bd n (cs.reverse.map fun c => own c br) v := by
    rw [List.map_reverse]
    exact lv.rev
  have hpm : Path n (cs.map List.reverse).length (ps.map fun p => n - p) := by
    rw [List.length_map]
    exact hp.ren (ren_mir n)
  have cm : cost bd ((cs.map List.reverse).map fun c => own c br) (ps.map fun p => n - p) = v := by rw [cost_ren (ren_mir n) all ps hp.2, hcost]
  have hpu : Path n cs.reverse.length ps.reverse := by
    rw [List.length_reverse]
    exact hp.rev
  have cu : cost bd (cs.reverse.map fun c => own c br) ps.reverse = v := by
    rw [List.map_reverse, cost_rev bd _ _ (by rw [List.length_map]; exact hp.1.symm), hcost]
  have vm : v = mn (S bd n ((cs.map List.reverse).map fun c => own c br).reverse) n := by
    have := isL_of (bd := bd) (br := br) (n := n) wm.ok.ne rfl
    exact lm.uniq this
  have vu : mn (S bd n (cs.reverse.map fun c => own c br).reverse) n = v := (isL_of (bd := bd) (br := br) (n := n) wu.ok.ne rfl).uniq lu
  have os0 : (cs.map fun c => own c br) ≠ [] := by have := w.ok.ne; simpa using this
  simp only [td__law_turned_alike, pD, pH, pI, startG, startH, startI, sNext, sSeq, sBrk, sCnt, sDrop, sRet, sRetN, sIf, sNever, sAsg, sAsgN, sPar, sAug, sApp, sFldS, sFor, dC, dVar, dOwn, d2, d2O, oI, oIC, oAdd, oSub, oMul, oFdiv, oMod, oPow, oLt, oLe, oGt, oGe, oIsN, oNotN, oIn, oNin, oIx, oCatT, dTest, dAnd, dOr, dNot, dAndV, dOrV, dNotV, dIfE, dTru, dNil, dCons, dTup, dLst, dFld, dCB, dCB1, cLen, cAbs, cInt, cMax2, cMin2, cSum, cList, cTuple, cAny, cAll, dNoPart, dPart, dSl, dRev, dTupRev, dFrz, dLstN, dListN, dPop, gdName, gdNil, gdCons, gdTup, gdSub, dCall, dIsiT, dCallH, dMeth, iSeq, iEnumD, iR1, iR2, iR3, dLcN, dLc, dYes, dNeg, dChain, items_lst, items_tup]
  simp
  refine sp_wmir e w.ok ?_
  refine sp_up e w.ok ?_
  refine ⟨_, _, ⟨rfl, rfl⟩, ?_⟩
  refine sp_numbers e wm.hb.1 wm.cl (by omega) wm.ok.ne wm.len ?_
  refine ⟨_, rfl, rfl, ?_⟩
  simp only [wipS, List.set_cons_succ, List.set_cons_zero]
  refine lc_all (fun d => match d with | .tup xs => .tup xs.reverse | d => d) (fun x hx Qd hq => ?_) (by unfold numsD; rw [List.length_map, pre_len, List.length_map]; omega) ?_
  · obtain ⟨l, _, rfl⟩ := List.mem_map.mp hx
    simp [pD, pH, pI, startG, startH, startI, sNext, sSeq, sBrk, sCnt, sDrop, sRet, sRetN, sIf, sNever, sAsg, sAsgN, sPar, sAug, sApp, sFldS, sFor, dC, dVar, dOwn, d2, d2O, oI, oIC, oAdd, oSub, oMul, oFdiv, oMod, oPow, oLt, oLe, oGt, oGe, oIsN, oNotN, oIn, oNin, oIx, oCatT, dTest, dAnd, dOr, dNot, dAndV, dOrV, dNotV, dIfE, dTru, dNil, dCons, dTup, dLst, dFld, dCB, dCB1, cLen, cAbs, cInt, cMax2, cMin2, cSum, cList, cTuple, cAny, cAll, dNoPart, dPart, dSl, dRev, dTupRev, dFrz, dLstN, dListN, dPop, gdName, gdNil, gdCons, gdTup, gdSub, dCall, dIsiT, dCallH, dMeth, iSeq, iEnumD, iR1, iR2, iR3, dLcN, dLc, dYes, dNeg, dChain, items_lst, items_tup]
    simp at hq
    exact hq
  have er : (numsD bd n (cs.map fun c => own c br)).map (fun d => match d with | .tup xs => .tup xs.reverse | d => d) = numsD bd n ((cs.map List.reverse).map fun c => own c br) := by
    have := rows_mir (bd := bd) (pre_all (R := Rn n fun p => n - p) All2.nil all)
    unfold numsD
    rw [List.map_map]
    have h2 := congrArg (List.map fun l : List Int => D.tup (nums l)) this
    rw [List.map_map, List.map_map] at h2
    refine Eq.trans (List.map_congr_left fun l _ => ?_) h2
    show D.tup (nums (row (S bd n l) n)).reverse = D.tup (nums (row (S bd n l) n).reverse)
    unfold nums
    rw [List.map_reverse]
  rw [er]
  refine ⟨_, rfl, ?_⟩
  refine oNe_refl (shp_numsD ..) ?_
  refine .inl ⟨rfl, ?_⟩
  simp only [f_crD_places e, f_crD_price e]
  refine ⟨_, rfl, rfl, ?_⟩
  refine lc_nums (fun x => .int ((n : Int) + 2 - x)) (fun x hx Qd hq => ?_) (by simp [plc]; rw [hp.1]; omega) ?_
  · simp [pD, pH, pI, startG, startH, startI, sNext, sSeq, sBrk, sCnt, sDrop, sRet, sRetN, sIf, sNever, sAsg, sAsgN, sPar, sAug, sApp, sFldS, sFor, dC, dVar, dOwn, d2, d2O, oI, oIC, oAdd, oSub, oMul, oFdiv, oMod, oPow, oLt, oLe, oGt, oGe, oIsN, oNotN, oIn, oNin, oIx, oCatT, dTest, dAnd, dOr, dNot, dAndV, dOrV, dNotV, dIfE, dTru, dNil, dCons, dTup, dLst, dFld, dCB, dCB1, cLen, cAbs, cInt, cMax2, cMin2, cSum, cList, cTuple, cAny, cAll, dNoPart, dPart, dSl, dRev, dTupRev, dFrz, dLstN, dListN, dPop, gdName, gdNil, gdCons, gdTup, gdSub, dCall, dIsiT, dCallH, dMeth, iSeq, iEnumD, iR1, iR2, iR3, dLcN, dLc, dYes, dNeg, dChain, items_lst, items_tup]
    simp at hq
    exact hq
  have ea : (plc ps).map (fun x => D.int ((n : Int) + 2 - x)) = nums (plc (ps.map fun p => n - p)) := by
    unfold plc nums
    rw [List.map_map, List.map_map, List.map_map]
    refine List.map_congr_left fun p hp' => ?_
    have := hp.2 p hp'
    show D.int ((n : Int) + 2 - ((p : Int) + 1)) = D.int (((n - p : Nat) : Int) + 1)
    congr 1
    omega
  rw [ea]
  refine ⟨_, rfl, ?_⟩
  refine sp_leastL e wm lm fun ps2 _ _ => ?_
  simp only [f_crD_price e]
  refine oNe_int.mpr (.inl ⟨by simp, ?_⟩)
  refine sp_price e w.hb wm.cl (by omega) hpm wm.ok.ne (items_tup _) ?_
  rw [cm]
  refine oNe_int.mpr (.inl ⟨by simp, ?_⟩)
  refine sp_Crack e ?_
  refine ⟨_, rfl, rfl, ?_⟩
  refine lc_all (fun d => match d with | .tup xs => .lst xs.reverse | d => d) (fun x hx Qd hq => ?_) (by unfold numsD; rw [List.length_map, pre_len, List.length_map]; omega) ?_
  · obtain ⟨l, _, rfl⟩ := List.mem_map.mp hx
    simp [pD, pH, pI, startG, startH, startI, sNext, sSeq, sBrk, sCnt, sDrop, sRet, sRetN, sIf, sNever, sAsg, sAsgN, sPar, sAug, sApp, sFldS, sFor, dC, dVar, dOwn, d2, d2O, oI, oIC, oAdd, oSub, oMul, oFdiv, oMod, oPow, oLt, oLe, oGt, oGe, oIsN, oNotN, oIn, oNin, oIx, oCatT, dTest, dAnd, dOr, dNot, dAndV, dOrV, dNotV, dIfE, dTru, dNil, dCons, dTup, dLst, dFld, dCB, dCB1, cLen, cAbs, cInt, cMax2, cMin2, cSum, cList, cTuple, cAny, cAll, dNoPart, dPart, dSl, dRev, dTupRev, dFrz, dLstN, dListN, dPop, gdName, gdNil, gdCons, gdTup, gdSub, dCall, dIsiT, dCallH, dMeth, iSeq, iEnumD, iR1, iR2, iR3, dLcN, dLc, dYes, dNeg, dChain, items_lst, items_tup, items_tup]
    simp at hq
    exact hq
  have er2 : (numsD bd n (cs.map fun c => own c br)).map (fun d => match d with | .tup xs => .lst xs.reverse | d => d) = rowsD bd n ((cs.map List.reverse).map fun c => own c br) := by
    have := rows_mir (bd := bd) (pre_all (R := Rn n fun p => n - p) All2.nil all)
    unfold numsD rowsD
    rw [List.map_map]
    have h2 := congrArg (List.map fun l : List Int => D.lst (nums l)) this
    rw [List.map_map, List.map_map] at h2
    refine Eq.trans (List.map_congr_left fun l _ => ?_) h2
    show D.lst (nums (row (S bd n l) n)).reverse = D.lst (nums (row (S bd n l) n).reverse)
    unfold nums
    rw [List.map_reverse]
  rw [er2]
  refine sp_leastfault e w.hb wm.cl (by omega) hpm wm.ok.ne wm.len cm vm ?_
  refine .inl ⟨rfl, ?_⟩
  refine sp_leastL e wu lu fun ps3 _ _ => ?_
  simp only [f_crD_price e]
  refine oNe_int.mpr (.inl ⟨by simp, .inr ⟨_, rfl, ?_⟩⟩)
  have erev : (nums (plc ps)).reverse = nums (plc ps.reverse) := by unfold nums plc; rw [List.map_reverse, List.map_reverse]
  rw [erev]
  refine sp_price e w.hb wu.cl (by omega) hpu wu.ok.ne (items_tup _) ?_
  rw [cu]
  refine oNe_int.mpr (.inl ⟨by simp, ?_⟩)
  refine ⟨_, _, ⟨rfl, rfl⟩, ⟨by omega, by omega, by omega, by omega⟩, ?_⟩
  have e1 : ((n : Int) + 2 - 1).toNat = n + 1 := by omega
  rw [e1]
  refine lp_turn e w.hb wu.cl (by omega) wu.ok.ne wu.len os0 (by rw [List.map_reverse]) (fun z => ?_) (n + 1) 0 .un (by omega)
  simp only [sRet, dAndV, d2, dCall, dCons, dVar, dNil]
  have shp2 : ∀ a b : Int, shp (.tup [.int a, .int b]) := fun a b => (shp_tup (k := 0) (ds := [.int a, .int b]) (shp_nums 0 [a, b])).shp
  refine ⟨_, rfl, _, rfl, ?_⟩
  refine sp_count2 e wm lm ?_
  refine ⟨_, rfl, _, rfl, ?_⟩
  refine sp_count2 e w lv ?_
  rw [cnt_mir all]
  refine oEq_refl (shp2 _ _) ⟨true, rfl, ?_⟩
  rw [if_pos rfl]
  refine ⟨_, rfl, _, rfl, ?_⟩
  refine sp_count2 e wu lu ?_
  refine ⟨_, rfl, _, rfl, ?_⟩
  refine sp_count2 e w lv ?_
  have ec : cnt bd n (cs.reverse.map fun c => own c br) v = cnt bd n (cs.map fun c => own c br) v := by rw [List.map_reverse, cnt_rev]
  rw [ec]
  exact oEq_refl (shp2 _ _) q
end
end K96
set_option Elab.async false
set_option linter.all false
set_option maxRecDepth 100000
set_option maxHeartbeats 1000000
namespace K96
open PySem PySem.Spec L2 L2R DL CM
open PyProof.Rows hiding St
section
variable {K : PySem.W.Frag} {mg : PySem.Str → Option Value}
theorem cut_pre {xs : List D} {m : Nat} (h : m ≤ xs.length) : DL.cutD xs none (some (m : Int)) = xs.take m := by
  unfold DL.cutD
  rw [HT.sIx_nat, HT.sIx_none, Nat.min_eq_left h]
  simp
theorem cut_post {xs : List D} {m : Nat} (h : m ≤ xs.length) : DL.cutD xs (some (m : Int)) none = xs.drop m := by
  unfold DL.cutD
  rw [HT.sIx_nat, HT.sIx_none, Nat.min_eq_left h]
  apply List.take_of_length_le
  rw [List.length_drop]
  exact Nat.le_refl _
theorem pre_app : ∀ (acc os os' : List (Nat → Int)), (pre acc (os ++ os')).take os.length = pre acc os
  | _, [], _ => by simp [pre]
  | acc, o :: os, os' => by
    show ((o :: acc) :: pre (o :: acc) (os ++ os')).take (os.length + 1) = (o :: acc) :: pre (o :: acc) os
    rw [List.take_succ_cons, pre_app]
theorem own_nn {c : List Int} {br : Int} (h : 0 ≤ br) (k : Nat) : 0 ≤ own c br k := by
  unfold own
  split <;> omega
theorem nn_os {cs : List (List Int)} {br : Int} {n : Nat} (h : 0 ≤ br) : Nn n (cs.map fun c => own c br) := fun o ho p _ => by
  obtain ⟨c, _, rfl⟩ := List.mem_map.mp ho
  exact own_nn h p
theorem isI_ex {bs : List Int} {cs : List (List Int)} {br bd : Int} {n : Nat} (w : Wl bs cs br bd n) : ∃ v, IsL bd n (cs.map fun c => own c br) v := ⟨_, isL_of w.ok.ne rfl⟩
theorem plc_take (ps : List Nat) (m : Nat) : (nums (plc ps)).take m = nums (plc (ps.take m)) := by unfold nums plc; rw [List.map_take, List.map_take]
theorem plc_drop (ps : List Nat) (m : Nat) : (nums (plc ps)).drop m = nums (plc (ps.drop m)) := by unfold nums plc; rw [List.map_drop, List.map_drop]
theorem plc_len (ps : List Nat) : (plc ps).length = ps.length := by simp [plc]
theorem WaOk.app {bs : List Int} {cs ds : List (List Int)} {L : Int} (a : WaOk bs cs L) (b : WaOk bs ds L) (h : cs.length + ds.length ≤ 60) : WaOk bs (cs ++ ds) L := ⟨by have := a.ne; simp [this], by rw [List.length_append]; exact h, fun c hc => (List.mem_append.mp hc).elim (a.ok c) (b.ok c), fun c hc => (List.mem_append.mp hc).elim (a.sum c) (b.sum c)⟩
theorem WaOk.part {bs : List Int} {cs : List (List Int)} {L : Int} (a : WaOk bs cs L) {f k : Nat} (hf : f < cs.length) (hk : 0 < k) : WaOk bs ((cs.drop f).take k) L := by
  refine ⟨fun z => ?_, by rw [List.length_take, List.length_drop]; have := a.many; omega, fun c hc => a.ok c (List.mem_of_mem_drop (List.mem_of_mem_take hc)), fun c hc => a.sum c (List.mem_of_mem_drop (List.mem_of_mem_take hc))⟩
  have := congrArg List.length z
  rw [List.length_take, List.length_drop] at this
  simp at this
  omega
theorem sp_piledr (e : Fx K mg) (hS : isB K "Stock" = true) {bs : List Int} {la re : Int} {cs ds : List (List Int)} {br bd : Int} {n : Nat} {Q : D → Prop} (hbr : 0 ≤ br) (w : Wl bs cs br bd n) (w2 : Wl bs ds br bd n) (hm : cs.length + ds.length ≤ 60) (q : Q (.bl true)) :
    p__law_piled_right K [waD K (stD K bs la re) cs ((n : Int) + 2), waD K (stD K bs la re) ds ((n : Int) + 2), prD K br bd, .int ((n : Int) + 2)] Q := by
  refine ⟨rfl, ?_⟩
  have hn := w.hn
  have wp : Wl bs (cs ++ ds) br bd n := ⟨w.ok.app w2.ok hm, w.hn, w.hb⟩
  obtain ⟨v1, l1⟩ := isI_ex w
  obtain ⟨v2, l2⟩ := isI_ex w2
  obtain ⟨v3, l3⟩ := isI_ex wp
  have os1 : (cs.map fun c => own c br) ≠ [] := by have := w.ok.ne; simpa using this
  have os2 : (ds.map fun c => own c br) ≠ [] := by have := w2.ok.ne; simpa using this
  have l3' := l3
  rw [List.map_append] at l3'
  obtain ⟨g1, g2⟩ := pile_ge w.hb.1 os1 os2 l1 l2 l3'
  simp only [td__law_piled_right, pD, pH, pI, startG, startH, startI, sNext, sSeq, sBrk, sCnt, sDrop, sRet, sRetN, sIf, sNever, sAsg, sAsgN, sPar, sAug, sApp, sFldS, sFor, dC, dVar, dOwn, d2, d2O, oI, oIC, oAdd, oSub, oMul, oFdiv, oMod, oPow, oLt, oLe, oGt, oGe, oIsN, oNotN, oIn, oNin, oIx, oCatT, dTest, dAnd, dOr, dNot, dAndV, dOrV, dNotV, dIfE, dTru, dNil, dCons, dTup, dLst, dFld, dCB, dCB1, cLen, cAbs, cInt, cMax2, cMin2, cSum, cList, cTuple, cAny, cAll, dNoPart, dPart, dSl, dRev, dTupRev, dFrz, dLstN, dListN, dPop, gdName, gdNil, gdCons, gdTup, gdSub, dCall, dIsiT, dCallH, dMeth, iSeq, iEnumD, iR1, iR2, iR3, dLcN, dLc, dYes, dNeg, dChain, items_lst, items_tup]
  simp
  refine sp_piled e hS w.ok w2.ok hm ?_
  refine sp_leastL e w l1 fun ps1 _ _ => ?_
  simp only [f_crD_price e]
  refine sp_leastL e w2 l2 fun ps2 _ _ => ?_
  simp only [f_crD_price e]
  refine ⟨_, rfl, _, rfl, ?_⟩
  refine sp_leastL e wp l3 fun ps hp hcost => ?_
  simp only [f_crD_price e, f_prD_bed e, f_crD_places e]
  have hlen := hp.1
  rw [List.length_append] at hlen
  refine ⟨_, rfl, ?_⟩
  rw [if_neg (by omega)]
  refine ⟨_, rfl, cm_l w.hb, _, rfl, ?_⟩
  rw [if_neg (by omega)]
  refine sp_lenO e w.len ?_
  refine ⟨_, rfl, .inr ⟨_, rfl, ?_⟩⟩
  refine sp_lenO e w.len ?_
  refine ⟨_, rfl, .inr ⟨_, rfl, ?_⟩⟩
  rw [cut_pre (by rw [nums_len, plc_len]; omega), cut_post (by rw [nums_len, plc_len]; omega), plc_take, plc_drop]
  have la : (cs.map fun c => own c br).length = (ps.take cs.length).length := by rw [List.length_map, List.length_take]; omega
  have lb : (ds.map fun c => own c br).length = (ps.drop cs.length).length := by rw [List.length_map, List.length_drop]; omega
  obtain ⟨p, p', k1, k2, e1⟩ := cost_split bd la lb os1 os2
  rw [List.take_append_drop, ← List.map_append, hcost] at e1
  have hpa : Path n cs.length (ps.take cs.length) := ⟨by rw [← la, List.length_map], fun x hx => hp.2 x (List.mem_of_mem_take hx)⟩
  have hpb : Path n ds.length (ps.drop cs.length) := ⟨by rw [← lb, List.length_map], fun x hx => hp.2 x (List.mem_of_mem_drop hx)⟩
  obtain ⟨A, eA⟩ : ∃ A, ps.take cs.length = A ++ [p] := by
    obtain ⟨A, hA⟩ := List.getLast?_eq_some_iff.mp k1
    exact ⟨A, hA⟩
  obtain ⟨B, eB⟩ : ∃ B, ps.drop cs.length = p' :: B := by
    cases hq : ps.drop cs.length with
    | nil =>
      rw [hq] at k2
      cases k2
    | cons x B =>
      rw [hq] at k2
      cases k2
      exact ⟨B, rfl⟩
  have za : L2.atI (nums (plc (ps.take cs.length))) (-1) = some (.int ((p : Int) + 1)) := by
    rw [eA]
    have : nums (plc (A ++ [p])) = nums (plc A) ++ [.int ((p : Int) + 1)] := by unfold nums plc; rw [List.map_append, List.map_append]; rfl
    rw [this]
    exact atI_last
  have zb : L2.atI (nums (plc (ps.drop cs.length))) 0 = some (.int ((p' : Int) + 1)) := by
    rw [eB]
    exact atI_nat (by omega) rfl
  refine ⟨_, _, ⟨rfl, rfl⟩, _, rfl, _, zb, _, rfl, _, za, _, rfl, _, rfl, _, rfl, cm_l w.hb, ?_⟩
  have e6 : (if (p' : Int) + 1 - ((p : Int) + 1) < 0 then -((p' : Int) + 1 - ((p : Int) + 1)) else (p' : Int) + 1 - ((p : Int) + 1)) = ab ((p' : Int) - p) := by
    unfold ab
    split <;> split <;> omega
  rw [e6]
  refine sp_price e w.hb w.cl (by omega) hpa w.ok.ne (items_tup _) ⟨_, rfl, ?_⟩
  refine sp_price e w.hb w2.cl (by omega) hpb w2.ok.ne (items_tup _) ⟨_, rfl, ?_⟩
  refine oNe_int.mpr (.inl ⟨by rw [e1]; simp, ?_⟩)
  have hpl : (cs ++ ds).length = cs.length + ds.length := List.length_append
  have hc0 : 0 < cs.length := List.length_pos_iff.mpr w.ok.ne
  refine sp_lenO e wp.len ?_
  refine sp_draw ⟨by omega, by omega⟩ fun f f1 f2 => ?_
  refine sp_lenO e wp.len ?_
  refine ⟨_, rfl, ?_⟩
  refine ⟨_, rfl, ?_⟩
  refine sp_draw ⟨by omega, by omega⟩ fun g g1 g2 => ?_
  obtain ⟨f, rfl⟩ := Int.eq_ofNat_of_zero_le f1
  obtain ⟨g, rfl⟩ := Int.eq_ofNat_of_zero_le g1
  have hf : f < (cs ++ ds).length := by omega
  have hfg : f + g < (cs ++ ds).length := by omega
  have wq : Wl bs (((cs ++ ds).drop f).take (f + g + 1 - f)) br bd n := ⟨wp.ok.part hf (by omega), w.hn, w.hb⟩
  obtain ⟨v4, l4⟩ := isI_ex wq
  have hsp : cs ++ ds = (cs ++ ds).take f ++ ((cs ++ ds).drop f).take (f + g + 1 - f) ++ ((cs ++ ds).drop f).drop (f + g + 1 - f) := by
    rw [List.append_assoc, List.take_append_drop, List.take_append_drop]
  have hle : v4 ≤ v3 := by
    have l3'' := l3
    have nn : Nn n ((cs ++ ds).map fun c => own c br) := nn_os hbr
    rw [hsp, List.map_append, List.map_append] at l3'' nn
    refine part_le w.hb.1 nn ?_ l4 l3''
    have := wq.ok.ne
    simpa using this
  refine ⟨_, rfl, _, rfl, ?_⟩
  rw [show (f : Int) + (g : Int) = ((f + g : Nat) : Int) by omega]
  refine sp_part e wp.ok (by omega) hfg ?_
  refine sp_leastL e wq l4 fun ps4 _ _ => ?_
  simp only [f_crD_price e]
  refine ⟨_, rfl, _, rfl, ?_⟩
  rw [if_neg (by omega)]
  refine sp_numbers e w.hb.1 wp.cl (by omega) wp.ok.ne wp.len ?_
  refine sp_numbers e w.hb.1 wq.cl (by omega) wq.ok.ne wq.len ?_
  refine sp_floor e w.hb.1 wq.cl (by omega) wq.ok.ne wq.len (items_tup _) (rowsOk_nums _ _ _) ?_
  rw [if_pos (by rfl)]
  refine sp_numbers e w.hb.1 w.cl (by omega) w.ok.ne w.len ?_
  refine sp_lenO e w.len ?_
  refine ⟨_, rfl, .inr ⟨_, rfl, ?_⟩⟩
  have hcut : DL.cutD (numsD bd n ((cs ++ ds).map fun c => own c br)) none (some ((cs.length : Nat) : Int)) = numsD bd n (cs.map fun c => own c br) := by
    have hl : (numsD bd n ((cs ++ ds).map fun c => own c br)).length = cs.length + ds.length := by
      unfold numsD
      rw [List.length_map, pre_len, List.length_map, hpl]
    rw [cut_pre (by omega)]
    unfold numsD
    rw [← List.map_take, List.map_append]
    have := pre_app [] (cs.map fun c => own c br) (ds.map fun c => own c br)
    rw [List.length_map] at this
    rw [this]
  rw [hcut]
  exact oEq_refl (shp_numsD _ _ _) q
end
end K96
set_option Elab.async false
set_option linter.all false
set_option maxRecDepth 100000
set_option maxHeartbeats 1000000
namespace K96
open PySem PySem.Spec L2 L2R DL CM
open PyProof.Rows hiding St
section
variable {K : PySem.W.Frag} {mg : PySem.Str → Option Value}
theorem own_sc (n : Nat) (f br : Int) (cs : List (List Int)) : All2 (Sc n f) (cs.map fun c => own c br) (cs.map fun c => own c (br * f)) := All2.map2 fun c _ p _ => by
  unfold own
  split
  · simp
  · rw [Int.mul_comm]
theorem own_lw (n : Nat) {br br' : Int} (h : br' ≤ br) (cs : List (List Int)) : All2 (Lw n) (cs.map fun c => own c br) (cs.map fun c => own c br') := All2.map2 fun c _ p _ => by
  unfold own
  split <;> omega
theorem joints_map (s : Int) : ∀ (c : List Int) (p : Int), joints (p * s) (c.map fun b => b * s) = (joints p c).map fun x => x * s
  | [], _ => rfl
  | [_], _ => rfl
  | a :: b :: r, p => by
    have ih := joints_map s (b :: r) (p + a)
    show (p * s + a * s) :: joints (p * s + a * s) ((b :: r).map fun b => b * s) = _
    rw [← Int.add_mul, ih]
    rfl
theorem sum_map (s : Int) : ∀ c : List Int, (c.map fun b => b * s).sum = c.sum * s
  | [] => by simp
  | a :: c => by rw [List.map_cons, List.sum_cons, List.sum_cons, sum_map s c, Int.add_mul]
theorem sum_one {l : List Int} (h : ∀ x ∈ l, 1 ≤ x) : (l.length : Int) ≤ l.sum := by
  induction l with
  | nil => simp
  | cons a l ih =>
    have := ih fun x hx => h x (List.mem_cons_of_mem _ hx)
    have := h a (List.mem_cons_self ..)
    rw [List.sum_cons, List.length_cons]
    omega
theorem joints_in {c : List Int} {x : Int} (h : ∀ b ∈ c, 1 ≤ b) (hx : x ∈ joints 0 c) : 1 ≤ x ∧ x + 1 ≤ c.sum := by
  obtain ⟨l, r, e, h1, h2, h3⟩ := (mem_joints _ _ _).mp hx
  subst e
  have a := sum_one fun x hx => h x (List.mem_append_left _ hx)
  have b := sum_one fun x hx => h x (List.mem_append_right _ hx)
  have := List.length_pos_iff.mpr h1
  have := List.length_pos_iff.mpr h2
  rw [List.sum_append]
  omega
theorem own_fi {c : List Int} {s n m : Nat} {br : Int} (hbr : 0 ≤ br) (hs : 0 < s) (hm : m + 2 = s * (n + 2)) (h1 : ∀ b ∈ c, 1 ≤ b) (hc : c.sum = (n : Int) + 2) : Fi s n m (own c br) (own (c.map fun b => b * (s : Int)) (br * s)) := by
  have key := fi_mk (J := fun j => decide ((j : Int) ∈ joints 0 c)) (J' := fun j => decide ((j : Int) ∈ joints 0 (c.map fun b => b * (s : Int)))) hbr hs hm (fun j hj => by
      have := joints_in h1 (of_decide_eq_true hj)
      omega) (fun j => by
      have e := joints_map (s : Int) c 0
      rw [Int.zero_mul] at e
      simp only [e]
      apply decide_eq_decide.mpr
      rw [List.mem_map]
      constructor
      · rintro ⟨x, hx, hxs⟩
        have : x = j := by
          have h2 : x * (s : Int) = (j : Int) * s := by rw [hxs]; push_cast; rw [Int.mul_comm]
          exact Int.eq_of_mul_eq_mul_right (by omega) h2
        rw [← this]
        exact hx
      · intro h
        exact ⟨_, h, by push_cast; rw [Int.mul_comm]⟩) (fun x hx => by
      have e := joints_map (s : Int) c 0
      rw [Int.zero_mul] at e
      have hx := of_decide_eq_true hx
      rw [e] at hx
      obtain ⟨y, hy, h⟩ := List.mem_map.mp hx
      have := joints_in h1 hy
      obtain ⟨y', rfl⟩ := Int.eq_ofNat_of_zero_le (show 0 ≤ y by omega)
      refine ⟨y', ?_⟩
      have : ((s * y' : Nat) : Int) = x := by rw [← h]; push_cast; rw [Int.mul_comm]
      omega)
  have e1 : own c br = fun k : Nat => if decide (((k + 1 : Nat) : Int) ∈ joints 0 c) = true then 0 else br := by
    funext k
    unfold own
    simp
  have e2 : own (c.map fun b => b * (s : Int)) (br * s) = fun k : Nat => if decide (((k + 1 : Nat) : Int) ∈ joints 0 (c.map fun b => b * (s : Int))) = true then 0 else br * s := by
    funext k
    unfold own
    simp
  rw [e1, e2]
  exact key
theorem stOk_map {s : Int} (hs : 1 ≤ s) : ∀ (bs : List Int) (p : Int), StOk p bs → (∀ b ∈ bs, b * s ≤ 8) → StOk (p * s) (bs.map fun b => b * s)
  | [], _, _, _ => True.intro
  | b :: bs, p, ⟨h1, h2, h3⟩, h => by
    have z := Int.mul_le_mul_of_nonneg_right h1 (show 0 ≤ s by omega)
    rw [Int.add_mul] at z
    show p * s + 1 ≤ b * s ∧ b * s ≤ 8 ∧ _
    refine ⟨by omega, h b (List.mem_cons_self ..), stOk_map hs bs b h3 fun x hx => h x (List.mem_cons_of_mem _ hx)⟩
theorem mx_ex : ∀ {l : List Int}, l ≠ [] → ∃ m ∈ l, ∀ y ∈ l, y ≤ m
  | [], h => absurd rfl h
  | [a], _ => ⟨a, by simp, by simp⟩
  | a :: b :: l, _ => by
    obtain ⟨m, h1, h2⟩ := mx_ex (l := b :: l) (by simp)
    by_cases h : m ≤ a
    · exact ⟨a, by simp, fun y hy => by
        rcases List.mem_cons.mp hy with rfl | hy
        · omega
        · have := h2 y hy; omega⟩
    · exact ⟨m, List.mem_cons_of_mem _ h1, fun y hy => by
        rcases List.mem_cons.mp hy with rfl | hy
        · omega
        · exact h2 y hy⟩
theorem wl_fine {bs : List Int} {cs : List (List Int)} {br bd : Int} {n m s : Nat} (w : Wl bs cs br bd n) (hn : n ≤ 18) (hs : s ≤ 4) (hm : m + 2 = s * (n + 2)) (hb : 0 ≤ br * s ∧ br * s ≤ 1000000) : WaOk (bs.map fun b => b * (s : Int)) (cs.map fun c => c.map fun b => b * (s : Int)) ((m : Int) + 2) := by
  have hmm : (m : Int) + 2 = ((n : Int) + 2) * s := by
    have h1 : ((m + 2 : Nat) : Int) = ((s * (n + 2) : Nat) : Int) := by rw [hm]
    rw [Int.natCast_mul, Int.mul_comm] at h1
    exact h1
  have hle : s * (n + 2) ≤ 4 * 20 := Nat.mul_le_mul hs (by omega)
  refine ⟨by have := w.ok.ne; simpa using this, by have := w.ok.many; simpa using this, fun c' hc' => ?_, fun c' hc' => ?_⟩
  · obtain ⟨c, hc, rfl⟩ := List.mem_map.mp hc'
    have ok := w.ok.ok c hc
    refine ⟨by have := ok.l1; simpa using this, by have := ok.l2; simpa using this, fun b' hb' => ?_, ?_⟩
    · obtain ⟨b, hb, rfl⟩ := List.mem_map.mp hb'
      exact List.mem_map.mpr ⟨b, ok.inb b hb, rfl⟩
    · rw [sum_map, w.ok.sum c hc, ← hmm]
      omega
  · obtain ⟨c, hc, rfl⟩ := List.mem_map.mp hc'
    rw [sum_map, w.ok.sum c hc, ← hmm]
def tl17 (K : PySem.W.Frag) : TSD := (sSeq (sAsg (dLc (iR2 (dCons (dC (.int 1)) (dCons (dC (.int 5)) dNil))) (gdName 8) (dAnd (dTest (d2 oLe (d2 oMul (dCB1 cMaxL (d2 oIx (dVar 1) (dC (.int 0)))) (dVar 8)) (dC (.int 8)))) (dAnd (dTest (d2 oLe (d2 oMul (d2 oIx (dVar 1) (dC (.int 1))) (dVar 8)) (dC (.int 4)))) (dTest (d2 oLe (d2 oMul (dFld K ("brick" : PySem.Str) (dVar 3)) (dVar 8)) (d2 oPow (dC (.int 10)) (dC (.int 6))))))) (dVar 8) [8]) (gdName 7))
      (sSeq (sAsg (dCallH (p__law_pick K) 0 (dCons (dVar 7) dNil)) (gdName 8))
      (sSeq (sAsg (dMeth (He.ga K ("Stock" : PySem.Str)) ("finer" : PySem.Str) (p_Stock_finer K) [] (dCall (p_Stock_init K) [] (dCons (d2 oIx (dVar 1) (dC (.int 0))) (dCons (d2 oIx (dVar 1) (dC (.int 1))) (dCons (d2 oIx (dVar 1) (dC (.int 2))) dNil)))) (dCons (dVar 8) dNil)) (gdName 9))
      (sSeq (sAsg (dCall (p_Wall_init K) [] (dCons (dVar 9) (dCons (dLc (iSeq (dFld K ("courses" : PySem.Str) (dVar 2))) (gdName 13) dYes (dLc (iSeq (dVar 13)) (gdName 14) dYes (d2 oMul (dVar 14) (dVar 8)) [14]) [13]) dNil))) (gdName 10))
      (sSeq (sAsg (dCall (p_Prices_init K) [] (dCons (d2 oMul (dFld K ("brick" : PySem.Str) (dVar 3)) (dVar 8)) (dCons (dFld K ("bed" : PySem.Str) (dVar 3)) dNil))) (gdName 11))
      (sSeq (sIf (dTest (d2 oNe (dFld K ("price" : PySem.Str) (dCall (p_least_crack K) [] (dCons (dVar 10) (dCons (dVar 11) dNil)))) (d2 oMul (dFld K ("price" : PySem.Str) (dVar 4)) (dVar 8)))) (sRet (dC (.bl false))) sNext)
      (sSeq (sIf (dTest (d2 oNe (dCall (p_crack_price K) [] (dCons (dVar 10) (dCons (dVar 11) (dCons (dLc (iSeq (dFld K ("places" : PySem.Str) (dVar 4))) (gdName 15) dYes (d2 oMul (dVar 15) (dVar 8)) [15]) dNil)))) (d2 oMul (dFld K ("price" : PySem.Str) (dVar 4)) (dVar 8)))) (sRet (dC (.bl false))) sNext)
      (sSeq (sAsg (dCall (p_least_crack K) [] (dCons (dVar 2) (dCons (dCall (p_Prices_init K) [] (dCons (d2 oSub (dFld K ("brick" : PySem.Str) (dVar 3)) (dCallH (p__law_draw K) 0 (dCons (d2 oAdd (dFld K ("brick" : PySem.Str) (dVar 3)) (dC (.int 1))) dNil))) (dCons (d2 oSub (dFld K ("bed" : PySem.Str) (dVar 3)) (dCallH (p__law_draw K) 0 (dCons (d2 oAdd (dFld K ("bed" : PySem.Str) (dVar 3)) (dC (.int 1))) dNil))) dNil))) dNil))) (gdName 12))
      (sRet (d2 oLe (dFld K ("price" : PySem.Str) (dVar 12)) (dFld K ("price" : PySem.Str) (dVar 4))))))))))))
def fineD (s : Int) : D → D
  | .tup xs => .lst (xs.map fun y => match y with | .int b => .int (b * s) | y => y)
  | d => d
theorem fineD_c (s : Int) (c : List Int) : fineD s (.tup (nums c)) = .lst (nums (c.map fun b => b * s)) := by
  show D.lst _ = D.lst _
  unfold nums
  rw [List.map_map, List.map_map]
  rfl
theorem fine_all (s : Int) : ∀ cs : List (List Int), All2' ((csD cs).map (fineD s)) (cs.map fun c => c.map fun b => b * s)
  | [] => .nil
  | c :: cs => .cons (by rw [fineD_c]; rfl) (fine_all s cs)
theorem sp_tl17 (e : Fx K mg) {bs : List Int} {la re : Int} {cs : List (List Int)} {br bd v f : Int} {n : Nat} {ps : List Nat} {W : EndsD} (st : Stk bs la re) (hbr : 0 ≤ br ∧ br ≤ 1000000) (w : Wl bs cs br bd n) (h18 : n ≤ 18) (hone : ∀ c ∈ cs, ∀ b ∈ c, 1 ≤ b) (hp : Path n cs.length ps) (hcost : cost bd (cs.map fun c => own c br) ps = v) (hv : IsL bd n (cs.map fun c => own c br) v)
    (q : ∀ Γ, W.rt (.bl true) Γ) : tl17 K W [.hand, .val (.tup [.tup (nums bs), .int la, .int re]), .val (waD K (stD K bs la re) cs ((n : Int) + 2)), .val (prD K br bd), .val (crD K v (plc ps)), .val (.int ((n : Int) + 2)), .val (.int f), .un, .un, .un, .un, .un, .un, .un, .un, .un] := by
  obtain ⟨mx, m1, m2⟩ := mx_ex (l := bs) (by have := st.l; intro h; rw [h] at this; simp at this)
  have m5 := st.five mx m1
  have hla := st.la
  simp only [tl17, pD, pH, pI, startG, startH, startI, sNext, sSeq, sBrk, sCnt, sDrop, sRet, sRetN, sIf, sNever, sAsg, sAsgN, sPar, sAug, sApp, sFldS, sFor, dC, dVar, dOwn, d2, d2O, oI, oIC, oAdd, oSub, oMul, oFdiv, oMod, oPow, oLt, oLe, oGt, oGe, oIsN, oNotN, oIn, oNin, oIx, oCatT, dTest, dAnd, dOr, dNot, dAndV, dOrV, dNotV, dIfE, dTru, dNil, dCons, dTup, dLst, dFld, dCB, dCB1, cLen, cAbs, cInt, cMax2, cMin2, cSum, cList, cTuple, cAny, cAll, dNoPart, dPart, dSl, dRev, dTupRev, dFrz, dLstN, dListN, dPop, gdName, gdNil, gdCons, gdTup, gdSub, dCall, dIsiT, dCallH, dMeth, iSeq, iEnumD, iR1, iR2, iR3, dLcN, dLc, dYes, dNeg, dChain, items_lst, items_tup]
  simp
  refine ⟨_, _, ⟨rfl, rfl⟩, by omega, rfl, ?_⟩
  have hr : rngD 1 ((5 : Int) - 1).toNat = nums [1, 2, 3, 4] := rfl
  rw [hr]
  simp only [wipS, List.set_cons_succ, List.set_cons_zero]
  refine lc_filt (fun x => decide (mx * x ≤ 8) && (decide (la * x ≤ 4) && decide (br * x ≤ 1000000))) (fun x => x) (fun x hx Qd hq => ?_) (fun x hx ht Qd hq => ?_) (by simp) ?_
  · have x4 : 1 ≤ x ∧ x ≤ 4 := by
      rcases List.mem_cons.mp hx with rfl | hx
      · omega
      · simp at hx; omega
    simp [pD, pH, pI, startG, startH, startI, sNext, sSeq, sBrk, sCnt, sDrop, sRet, sRetN, sIf, sNever, sAsg, sAsgN, sPar, sAug, sApp, sFldS, sFor, dC, dVar, dOwn, d2, d2O, oI, oIC, oAdd, oSub, oMul, oFdiv, oMod, oPow, oLt, oLe, oGt, oGe, oIsN, oNotN, oIn, oNin, oIx, oCatT, dTest, dAnd, dOr, dNot, dAndV, dOrV, dNotV, dIfE, dTru, dNil, dCons, dTup, dLst, dFld, dCB, dCB1, cLen, cAbs, cInt, cMax2, cMin2, cSum, cList, cTuple, cAny, cAll, dNoPart, dPart, dSl, dRev, dTupRev, dFrz, dLstN, dListN, dPop, gdName, gdNil, gdCons, gdTup, gdSub, dCall, dIsiT, dCallH, dMeth, iSeq, iEnumD, iR1, iR2, iR3, dLcN, dLc, dYes, dNeg, dChain, items_lst, items_tup, f_prD_brick e]
    refine ⟨_, rfl, _, bs, rfl, rfl, by have := st.l; omega, fun m g1 g2 => ?_⟩
    have : m = mx := by
      have := g2 mx m1
      have := m2 m g1
      omega
    subst this
    refine ⟨_, rfl, cm_r (by omega), ?_⟩
    by_cases c1 : m * x ≤ 8
    · rw [if_pos c1]
      refine ⟨_, rfl, _, rfl, cm_r (by omega), ?_⟩
      by_cases c2 : la * x ≤ 4
      · rw [if_pos c2]
        refine ⟨cm_r (by omega), ⟨by omega, by omega, by decide⟩, ?_⟩
        simpa [c1, c2] using hq
      · rw [if_neg c2]
        simpa [c1, c2] using hq
    · rw [if_neg c1]
      simpa [c1] using hq
  · simp [pD, pH, pI, startG, startH, startI, sNext, sSeq, sBrk, sCnt, sDrop, sRet, sRetN, sIf, sNever, sAsg, sAsgN, sPar, sAug, sApp, sFldS, sFor, dC, dVar, dOwn, d2, d2O, oI, oIC, oAdd, oSub, oMul, oFdiv, oMod, oPow, oLt, oLe, oGt, oGe, oIsN, oNotN, oIn, oNin, oIx, oCatT, dTest, dAnd, dOr, dNot, dAndV, dOrV, dNotV, dIfE, dTru, dNil, dCons, dTup, dLst, dFld, dCB, dCB1, cLen, cAbs, cInt, cMax2, cMin2, cSum, cList, cTuple, cAny, cAll, dNoPart, dPart, dSl, dRev, dTupRev, dFrz, dLstN, dListN, dPop, gdName, gdNil, gdCons, gdTup, gdSub, dCall, dIsiT, dCallH, dMeth, iSeq, iEnumD, iR1, iR2, iR3, dLcN, dLc, dYes, dNeg, dChain, items_lst, items_tup]
    simpa using hq
  simp only [List.map_id']
  refine sp_pick (xs := nums (([1, 2, 3, 4] : List Int).filter fun x => decide (mx * x ≤ 8) && (decide (la * x ≤ 4) && decide (br * x ≤ 1000000)))) (items_lst _) ⟨?_, ?_⟩ fun d hd => ?_
  · have : (1 : Int) ∈ ([1, 2, 3, 4] : List Int).filter fun x => decide (mx * x ≤ 8) && (decide (la * x ≤ 4) && decide (br * x ≤ 1000000)) := List.mem_filter.mpr ⟨by simp, by
      simp
      omega⟩
    have := List.length_pos_of_mem this
    simpa using this
  · have := List.length_filter_le (fun x => decide (mx * x ≤ 8) && (decide (la * x ≤ 4) && decide (br * x ≤ 1000000))) ([1, 2, 3, 4] : List Int)
    simp only [List.length_map, List.length_cons, List.length_nil] at this ⊢
    omega
  obtain ⟨s, hs, rfl⟩ := List.mem_map.mp hd
  obtain ⟨hs1, hs2⟩ := List.mem_filter.mp hs
  have s4 : 1 ≤ s ∧ s ≤ 4 := by
    rcases List.mem_cons.mp hs1 with rfl | hx
    · omega
    · simp at hx; omega
  simp at hs2
  obtain ⟨c1, c2, c3⟩ := hs2
  obtain ⟨s, rfl⟩ := Int.eq_ofNat_of_zero_le (show 0 ≤ s by omega)
  have z0 : ∀ b : Int, 1 ≤ b → 1 ≤ b * (s : Int) := fun b hb => by
    have := Int.mul_le_mul_of_nonneg_right hb (show 0 ≤ (s : Int) by omega)
    omega
  have zb : 0 ≤ br * (s : Int) := Int.mul_nonneg hbr.1 (by omega)
  have s4' : 1 ≤ s ∧ s ≤ 4 := by omega
  obtain ⟨m, hm⟩ : ∃ m, m + 2 = s * (n + 2) := ⟨s * (n + 2) - 2, by
    have : 1 * (n + 2) ≤ s * (n + 2) := Nat.mul_le_mul_right _ s4'.1
    omega⟩
  have hm80 : s * (n + 2) ≤ 4 * 20 := Nat.mul_le_mul s4'.2 (by omega)
  have sl := st.l
  have hre := st.re
  refine ⟨_, rfl, _, rfl, _, rfl, _, rfl, _, rfl, _, rfl, ?_⟩
  refine sp_Stock e (items_tup _) (by omega) (by omega) st.ok (by omega) st.re ?_
  refine ⟨_, ⟨_, rfl⟩, by decide, ?_⟩
  have ok2 : StOk 0 (bs.map fun b => b * (s : Int)) := by
    have := stOk_map (s := (s : Int)) (by omega) bs 0 st.ok fun b hb => by
      have := m2 b hb
      have := Int.mul_le_mul_of_nonneg_right this (show 0 ≤ (s : Int) by omega)
      omega
    rwa [Int.zero_mul] at this
  have zl := z0 la hla.1
  refine sp_finer e (by omega) (by omega) ok2 (by omega) (by omega) st.re ?_
  simp only [f_waD_courses e, f_prD_brick e, f_prD_bed e, f_crD_price e, f_crD_places e]
  have cm : ∀ x : Int, CMul x (s : Int) := fun x => cm_r (by omega)
  have hm60 := w.ok.many
  refine ⟨_, items_tup _, rfl, ?_⟩
  refine lc_all (fineD (s : Int)) (fun d hd Qd hq => ?_) (by rw [List.length_map]; omega) ?_
  · obtain ⟨c, hc, rfl⟩ := List.mem_map.mp hd
    rw [fineD_c] at hq
    simp only [pD, pH, pI, startG, startH, startI, sNext, sSeq, sBrk, sCnt, sDrop, sRet, sRetN, sIf, sNever, sAsg, sAsgN, sPar, sAug, sApp, sFldS, sFor, dC, dVar, dOwn, d2, d2O, oI, oIC, oAdd, oSub, oMul, oFdiv, oMod, oPow, oLt, oLe, oGt, oGe, oIsN, oNotN, oIn, oNin, oIx, oCatT, dTest, dAnd, dOr, dNot, dAndV, dOrV, dNotV, dIfE, dTru, dNil, dCons, dTup, dLst, dFld, dCB, dCB1, cLen, cAbs, cInt, cMax2, cMin2, cSum, cList, cTuple, cAny, cAll, dNoPart, dPart, dSl, dRev, dTupRev, dFrz, dLstN, dListN, dPop, gdName, gdNil, gdCons, gdTup, gdSub, dCall, dIsiT, dCallH, dMeth, iSeq, iEnumD, iR1, iR2, iR3, dLcN, dLc, dYes, dNeg, dChain, items_lst, items_tup, wipS, List.set_cons_succ, List.set_cons_zero]
    simp
    refine ⟨_, items_tup _, rfl, ?_⟩
    refine lc_nums (fun b => .int (b * (s : Int))) (fun x hx Qe hqe => ?_) (by have := w.cl c hc; omega) ?_
    · simp [pD, pH, pI, startG, startH, startI, sNext, sSeq, sBrk, sCnt, sDrop, sRet, sRetN, sIf, sNever, sAsg, sAsgN, sPar, sAug, sApp, sFldS, sFor, dC, dVar, dOwn, d2, d2O, oI, oIC, oAdd, oSub, oMul, oFdiv, oMod, oPow, oLt, oLe, oGt, oGe, oIsN, oNotN, oIn, oNin, oIx, oCatT, dTest, dAnd, dOr, dNot, dAndV, dOrV, dNotV, dIfE, dTru, dNil, dCons, dTup, dLst, dFld, dCB, dCB1, cLen, cAbs, cInt, cMax2, cMin2, cSum, cList, cTuple, cAny, cAll, dNoPart, dPart, dSl, dRev, dTupRev, dFrz, dLstN, dListN, dPop, gdName, gdNil, gdCons, gdTup, gdSub, dCall, dIsiT, dCallH, dMeth, iSeq, iEnumD, iR1, iR2, iR3, dLcN, dLc, dYes, dNeg, dChain, items_lst, items_tup]
      refine ⟨cm x, ?_⟩
      simpa using hqe
    · unfold nums at hq
      rw [List.map_map] at hq
      exact hq
  have wo := wl_fine w h18 s4'.2 hm ⟨zb, c3⟩
  have wf : Wl (bs.map fun b => b * (s : Int)) (cs.map fun c => c.map fun b => b * (s : Int)) (br * s) bd m := ⟨wo, by omega, w.hb⟩
  refine sp_Wall e (items_lst _) (fine_all _ _) wo ?_
  refine ⟨_, rfl, _, rfl, cm _, ?_⟩
  refine sp_Prices e ⟨zb, c3⟩ w.hb ?_
  have hfi : All2 (Fi s n m) (cs.map fun c => own c br) (cs.map fun c => own (c.map fun b => b * (s : Int)) (br * (s : Int))) := All2.map2 fun c hc => own_fi hbr.1 (by omega) hm (hone c hc) (w.ok.sum c hc)
  have lf := IsL.fi w.hb.1 (by omega) hm hfi hv
  have emap : ((cs.map fun c => c.map fun b => b * (s : Int)).map fun c => own c (br * (s : Int))) = cs.map fun c => own (c.map fun b => b * (s : Int)) (br * (s : Int)) := by rw [List.map_map]; rfl
  have lf' := lf
  rw [← emap] at lf'
  refine sp_leastL e wf lf' fun ps2 _ _ => ?_
  simp only [f_crD_price e]
  refine ⟨_, rfl, _, rfl, cm _, ?_⟩
  refine oNe_int.mpr (.inl ⟨by simp [Int.mul_comm], ?_⟩)
  refine ⟨_, items_tup _, rfl, ?_⟩
  refine lc_nums (fun b => .int (b * (s : Int))) (fun x hx Qe hqe => ?_) (by rw [plc_len, hp.1]; omega) ?_
  · simp [pD, pH, pI, startG, startH, startI, sNext, sSeq, sBrk, sCnt, sDrop, sRet, sRetN, sIf, sNever, sAsg, sAsgN, sPar, sAug, sApp, sFldS, sFor, dC, dVar, dOwn, d2, d2O, oI, oIC, oAdd, oSub, oMul, oFdiv, oMod, oPow, oLt, oLe, oGt, oGe, oIsN, oNotN, oIn, oNin, oIx, oCatT, dTest, dAnd, dOr, dNot, dAndV, dOrV, dNotV, dIfE, dTru, dNil, dCons, dTup, dLst, dFld, dCB, dCB1, cLen, cAbs, cInt, cMax2, cMin2, cSum, cList, cTuple, cAny, cAll, dNoPart, dPart, dSl, dRev, dTupRev, dFrz, dLstN, dListN, dPop, gdName, gdNil, gdCons, gdTup, gdSub, dCall, dIsiT, dCallH, dMeth, iSeq, iEnumD, iR1, iR2, iR3, dLcN, dLc, dYes, dNeg, dChain, items_lst, items_tup]
    refine ⟨cm x, ?_⟩
    simpa using hqe
  have hpl : (plc ps).map (fun b => D.int (b * (s : Int))) = nums (plc (ps.map fun p => s * (p + 1) - 1)) := by
    unfold plc nums
    rw [List.map_map, List.map_map, List.map_map]
    refine List.map_congr_left fun p _ => ?_
    show D.int (((p : Int) + 1) * s) = D.int (((s * (p + 1) - 1 : Nat) : Int) + 1)
    have h1 : 1 ≤ s * (p + 1) := Nat.mul_pos (by omega) (by omega)
    have h2 : ((s * (p + 1) : Nat) : Int) = ((p : Int) + 1) * s := by rw [Int.natCast_mul, Int.mul_comm]; rfl
    congr 1
    omega
  rw [hpl]
  have hpath : Path m (cs.map fun c => c.map fun b => b * (s : Int)).length (ps.map fun p => s * (p + 1) - 1) := ⟨by rw [List.length_map, List.length_map, hp.1], fun x hx => by
    obtain ⟨p, hpm, rfl⟩ := List.mem_map.mp hx
    have := hp.2 p hpm
    have h1 : s * (p + 1) ≤ s * (n + 1) := Nat.mul_le_mul_left s (by omega)
    have h2 : s * (n + 2) = s * (n + 1) + s := rfl
    omega⟩
  refine sp_price e w.hb wf.cl (by have := wf.hn; omega) hpath wf.ok.ne (items_lst _) ?_
  refine ⟨_, rfl, _, rfl, cm _, ?_⟩
  refine oNe_int.mpr (.inl ⟨?_, ?_⟩)
  · have := cost_up (b := bd) (by omega) hfi ps hp.2
    rw [emap, this, hcost]
    simp [Int.mul_comm]
  refine ⟨_, rfl, ?_⟩
  have hb := w.hb
  refine sp_draw ⟨by omega, by omega⟩ fun x x1 x2 => ?_
  refine ⟨_, rfl, _, rfl, _, rfl, ?_⟩
  refine sp_draw ⟨by omega, by omega⟩ fun y y1 y2 => ?_
  refine ⟨_, rfl, _, rfl, ?_⟩
  refine sp_Prices e ⟨by omega, by omega⟩ ⟨by omega, by omega⟩ ?_
  have wd : Wl bs cs (br - x) (bd - y) n := ⟨w.ok, w.hn, by omega, by omega⟩
  obtain ⟨u, lu⟩ := isI_ex wd
  refine sp_leastL e wd lu fun ps3 _ _ => ?_
  simp only [f_crD_price e]
  have hle : u ≤ v := IsL.lw (by omega) (own_lw n (show br - x ≤ br by omega) cs) hv lu
  refine ⟨_, rfl, _, rfl, ?_⟩
  rw [decide_eq_true hle]
  exact q _
theorem td17 (K : PySem.W.Frag) : td__law_scaled_right K = (sSeq (sAsg (d2 oAdd (dC (.int 1)) (dCallH (p__law_draw K) 0 (dCons (dC (.int 1000)) dNil))) (gdName 6))
      (sSeq (sIf (dAnd (dTest (d2 oLe (d2 oMul (dFld K ("brick" : PySem.Str) (dVar 3)) (dVar 6)) (d2 oPow (dC (.int 10)) (dC (.int 6))))) (dTest (d2 oLe (d2 oMul (dFld K ("bed" : PySem.Str) (dVar 3)) (dVar 6)) (d2 oPow (dC (.int 10)) (dC (.int 6)))))) (sIf (dTest (d2 oNe (dFld K ("price" : PySem.Str) (dCall (p_least_crack K) [] (dCons (dVar 2) (dCons (dCall (p_Prices_init K) [] (dCons (d2 oMul (dFld K ("brick" : PySem.Str) (dVar 3)) (dVar 6)) (dCons (d2 oMul (dFld K ("bed" : PySem.Str) (dVar 3)) (dVar 6)) dNil))) dNil)))) (d2 oMul (dFld K ("price" : PySem.Str) (dVar 4)) (dVar 6)))) (sRet (dC (.bl false))) sNext) sNext)
 (tl17 K))) := rfl
theorem sp_scaled (e : Fx K mg) {bs : List Int} {la re : Int} {cs : List (List Int)} {br bd v : Int} {n : Nat} {ps : List Nat} {Q : D → Prop} (st : Stk bs la re) (hbr : 0 ≤ br ∧ br ≤ 1000000) (w : Wl bs cs br bd n) (h18 : n ≤ 18) (hone : ∀ c ∈ cs, ∀ b ∈ c, 1 ≤ b) (hp : Path n cs.length ps) (hcost : cost bd (cs.map fun c => own c br) ps = v) (hv : IsL bd n (cs.map fun c => own c br) v)
    (q : Q (.bl true)) : p__law_scaled_right K [.tup [.tup (nums bs), .int la, .int re], waD K (stD K bs la re) cs ((n : Int) + 2), prD K br bd, crD K v (plc ps), .int ((n : Int) + 2)] Q := by
  refine ⟨rfl, ?_⟩
  rw [td17]
  simp only [pD, pH, pI, startG, startH, startI, sNext, sSeq, sBrk, sCnt, sDrop, sRet, sRetN, sIf, sNever, sAsg, sAsgN, sPar, sAug, sApp, sFldS, sFor, dC, dVar, dOwn, d2, d2O, oI, oIC, oAdd, oSub, oMul, oFdiv, oMod, oPow, oLt, oLe, oGt, oGe, oIsN, oNotN, oIn, oNin, oIx, oCatT, dTest, dAnd, dOr, dNot, dAndV, dOrV, dNotV, dIfE, dTru, dNil, dCons, dTup, dLst, dFld, dCB, dCB1, cLen, cAbs, cInt, cMax2, cMin2, cSum, cList, cTuple, cAny, cAll, dNoPart, dPart, dSl, dRev, dTupRev, dFrz, dLstN, dListN, dPop, gdName, gdNil, gdCons, gdTup, gdSub, dCall, dIsiT, dCallH, dMeth, iSeq, iEnumD, iR1, iR2, iR3, dLcN, dLc, dYes, dNeg, dChain, items_lst, items_tup]
  simp
  refine sp_draw ⟨by omega, by omega⟩ fun f0 f1 f2 => ?_
  simp only [f_prD_brick e, f_prD_bed e]
  have pw : CPow 10 6 := ⟨by omega, by omega, by decide⟩
  have cm : ∀ x : Int, CMul x (1 + f0) := fun x => cm_r (by omega)
  have fin : tl17 K ⟨fun _ => Q .non, fun d _ => Q d, fun _ => False, fun _ => False⟩ [.hand, .val (.tup [.tup (nums bs), .int la, .int re]), .val (waD K (stD K bs la re) cs ((n : Int) + 2)), .val (prD K br bd), .val (crD K v (plc ps)), .val (.int ((n : Int) + 2)), .val (.int (1 + f0)), .un, .un, .un, .un, .un, .un, .un, .un, .un] :=
    sp_tl17 e st hbr w h18 hone hp hcost hv fun _ => q
  refine ⟨_, rfl, _, rfl, cm _, pw, ?_⟩
  split
  · rename_i g1
    refine ⟨_, rfl, cm _, pw, ?_⟩
    split
    · rename_i g2
      refine ⟨_, rfl, cm _, _, rfl, cm _, ?_⟩
      have hb := w.hb
      have z1 : 0 ≤ br * (1 + f0) := Int.mul_nonneg hbr.1 (by omega)
      have z2 : 0 ≤ bd * (1 + f0) := Int.mul_nonneg hb.1 (by omega)
      refine sp_Prices e ⟨z1, g1⟩ ⟨z2, g2⟩ ?_
      have wd : Wl bs cs (br * (1 + f0)) (bd * (1 + f0)) n := ⟨w.ok, w.hn, z2, g2⟩
      have ls := IsL.sc (f := 1 + f0) (by omega) (own_sc n (1 + f0) br cs) hv
      rw [Int.mul_comm (1 + f0) bd, Int.mul_comm (1 + f0) v] at ls
      refine sp_leastL e wd ls fun ps3 _ _ => ?_
      simp only [f_crD_price e]
      refine ⟨_, rfl, cm _, ?_⟩
      exact oNe_int.mpr (.inl ⟨by simp, fin⟩)
    · exact fin
  · exact fin
end
end K96
set_option Elab.async false
set_option linter.all false
set_option maxRecDepth 100000
set_option maxHeartbeats 1000000
namespace K96
open PySem PySem.Spec L2 L2R DL CM
open PyProof.Rows hiding St
section
variable {K : PySem.W.Frag} {mg : PySem.Str → Option Value}
def tlD (K : PySem.W.Frag) : TSD := (sSeq (sAsg (dTup (dCons (dCallH (p__law_draw K) 1 (dCons (dCB1 cLen (dVar 4)) dNil)) (dCons (dCallH (p__law_draw K) 1 (dCons (dCB1 cLen (dVar 4)) dNil)) dNil))) (gdTup 2 (gdCons (gdName 15) (gdCons (gdName 16) gdNil))))
  (sSeq (sAsg (dLc (iR1 (dCons (dCB1 cLen (dVar 4)) dNil)) (gdName 19) dYes (dIfE (dTest (d2 oEq (dVar 19) (dVar 15))) (dVar 16) (dIfE (dTest (d2 oEq (dVar 19) (dVar 16))) (dVar 15) (dVar 19))) [19]) (gdName 17))
  (sSeq (sAsg (dCall (p_least_crack K) [] (dCons (dCall (p_exchanged K) [] (dCons (dVar 11) (dCons (dVar 15) (dCons (dVar 16) dNil)))) (dCons (dVar 9) dNil))) (gdName 18))
  (sSeq (sIf (dTest (d2 oNe (dFld K ("price" : PySem.Str) (dVar 18)) (dCB1 cMinL (d2 oIx (dCall (p__law_sums K) [] (dCons (dLc (iSeq (dVar 17)) (gdName 19) dYes (d2 oIx (dVar 4) (dVar 19)) [19]) (dCons (dVar 3) (dCons (dVar 7) (dCons (dVar 8) dNil))))) (dNeg (dC (.int 1))))))) (sRet (dC (.bl false))) sNext)
  (sRet (dCallH (p__law_scaled_right K) 1 (dCons (dVar 2) (dCons (dVar 11) (dCons (dVar 9) (dCons (dVar 13) (dCons (dVar 3) dNil)))))))))))
def tlC (K : PySem.W.Frag) : TSD := (sSeq (sIf (dOr (dNot (dTest (dCallH (p__law_piled_right K) 1 (dCons (dVar 11) (dCons (dVar 12) (dCons (dVar 9) (dCons (dVar 3) dNil))))))) (dNot (dTest (dCallH (p__law_piled_right K) 1 (dCons (dVar 12) (dCons (dVar 11) (dCons (dVar 9) (dCons (dVar 3) dNil)))))))) (sRet (dC (.bl false))) sNext)
  (tlD K))
def tlB (K : PySem.W.Frag) : TSD := (sSeq (sAsg (dCall (p_least_crack K) [] (dCons (dVar 11) (dCons (dVar 9) dNil))) (gdName 13))
  (sSeq (sAsg (dCall (p_floor_numbers K) [] (dCons (dVar 11) (dCons (dVar 9) dNil))) (gdName 14))
  (sSeq (sIf (dOr (dTest (d2 oNe (dFld K ("price" : PySem.Str) (dVar 13)) (dCB1 cMinL (d2 oIx (dCall (p__law_sums K) [] (dCons (dVar 4) (dCons (dVar 3) (dCons (dVar 7) (dCons (dVar 8) dNil))))) (dNeg (dC (.int 1))))))) (dTest (d2 oNe (d2 oIx (dVar 14) (dC (.int 0))) (dCB1 cTuple (dCall (p__law_own K) [] (dCons (d2 oIx (dVar 4) (dC (.int 0))) (dCons (dVar 3) (dCons (dVar 7) dNil)))))))) (sRet (dC (.bl false))) sNext)
  (sSeq (sIf (dNot (dTest (dCall (p__law_turned_alike K) [] (dCons (dVar 11) (dCons (dVar 9) (dCons (dVar 3) (dCons (dVar 13) (dCons (dVar 14) dNil)))))))) (sRet (dC (.bl false))) sNext)
  (tlC K)))))
def tlA (K : PySem.W.Frag) : TSD := (sSeq (sAsg (dCallH (p__law_two_prices K) 1 dNil) (gdTup 2 (gdCons (gdName 7) (gdCons (gdName 8) gdNil))))
  (sSeq (sAsg (dCall (p_Prices_init K) [] (dCons (dVar 7) (dCons (dVar 8) dNil))) (gdName 9))
  (sSeq (sAsg (dCall (p_Stock_init K) [] (dCons (d2 oIx (dVar 2) (dC (.int 0))) (dCons (d2 oIx (dVar 2) (dC (.int 1))) (dCons (d2 oIx (dVar 2) (dC (.int 2))) dNil)))) (gdName 10))
  (sSeq (sPar 11 12 (dCons (dCall (p_Wall_init K) [] (dCons (dVar 10) (dCons (dVar 4) dNil))) (dCons (dCall (p_Wall_init K) [] (dCons (dVar 10) (dCons (dVar 6) dNil))) dNil)))
  (tlB K)))))
theorem td18 (K : PySem.W.Frag) : td_law K = (sSeq (sAsg (dCallH (p__law_courses_drawn K) 1 (dCons (dCallH (p__law_pick K) 1 (dCons (dLst (dCons (dC (.int 9)) (dCons (dC (.int 9)) (dCons (dC (.int 9)) (dCons (dC (.int 20)) dNil))))) dNil)) (dCons (dC (.int 8)) dNil))) (gdTup 3 (gdCons (gdName 2) (gdCons (gdName 3) (gdCons (gdName 4) gdNil)))))
  (sSeq (sAsg (dCall (p__law_counts K) [] (dCons (d2 oIx (dVar 2) (dC (.int 0))) (dCons (dVar 3) dNil))) (gdName 5))
  (sSeq (sAsg (dLc (iR1 (dCons (d2 oAdd (dC (.int 1)) (dCallH (p__law_draw K) 1 (dCons (dC (.int 8)) dNil))) dNil)) (gdName 19) dYes (dCallH (p__law_course K) 1 (dCons (d2 oIx (dVar 2) (dC (.int 0))) (dCons (dVar 3) (dCons (dVar 5) dNil)))) [19]) (gdName 6))
  (sSeq (sIf (dTest (d2 oEq (dCallH (p__law_draw K) 1 (dCons (dC (.int 3)) dNil)) (dC (.int 0)))) (sAsg (dLc (iSeq (dVar 6)) (gdName 15) dYes (dCallH (p__law_pick K) 1 (dCons (dVar 4) dNil)) [15]) (gdName 6)) sNext)
  (tlA K))))) := rfl
theorem cnt_both {bs : List Int} {c c' : Nat → Int} {h1 h2 : Nat} (hb : ∀ b ∈ bs, 1 ≤ b) (a : CntOk bs c h1) (b : CntOk bs c' h2) : ∀ (m k : Nat), k ≤ m → k ≤ h1 → k ≤ h2 → 0 < c k → 0 < c' k
  | _, 0, _, _, _, _ => by rw [b.zero]; omega
  | 0, k + 1, h, _, _, _ => by omega
  | m + 1, k + 1, h, k1, k2, hc => by
    obtain ⟨d, hd, hle, hp⟩ := a.get (k + 1) (by omega) k1 hc
    have := hb d hd
    exact b.put (k + 1) (by omega) k2 d hd hle (cnt_both hb a b m _ (by omega) (by omega) (by omega) hp)
theorem crOk_of {bs c : List Int} {L : Int} (hb : ∀ b ∈ bs, 1 ≤ b) (h : Cr bs L c) (h2 : 2 ≤ L) (h20 : L ≤ 20) : CrOk bs c := by
  have hs := h.sum
  have h1 := sum_one fun x hx => hb x (h.inb x hx)
  refine ⟨?_, by omega, h.inb, by omega⟩
  cases c with
  | nil => simp at hs; omega
  | cons a c => simp
theorem waOk_of {bs : List Int} {cs : List (List Int)} {L : Nat} (hb : ∀ b ∈ bs, 1 ≤ b) (h2 : 2 ≤ L) (h20 : L ≤ 20) (h : Drawn bs L cs) : WaOk bs cs (L : Int) :=
  ⟨by have := h.l; intro e; rw [e] at this; simp at this, by have := h.l; omega, fun c hc => crOk_of hb (h.cr c hc) (by omega) (by omega), fun c hc => (h.cr c hc).sum⟩
def ordN (i j k : Nat) : Nat := if k = i then j else if k = j then i else k
theorem ord_csD {cs : List (List Int)} {i j : Nat} (hi : i < cs.length) (hj : j < cs.length) : (List.range cs.length).map (fun k => (csD cs)[ordN i j k]?.getD .non) = csD ((cs.set i cs[j]).set j cs[i]) := by
  apply List.ext_getElem
  · simp [csD]
  · intro k h1 h2
    have hk : k < cs.length := by simpa using h1
    have ho : ordN i j k < cs.length := by
      unfold ordN
      split
      · exact hj
      · split
        · exact hi
        · exact hk
    simp only [csD, List.getElem_map, List.getElem_range, List.getElem_set, List.getElem?_map, List.getElem?_eq_getElem ho]
    show D.tup (nums cs[ordN i j k]) = _
    congr 2
    unfold ordN
    by_cases a : k = i
    · subst a
      by_cases b : j = k
      · subst b
        simp
      · rw [if_neg b]
        simp
    · by_cases b : k = j
      · subst b
        simp [a]
      · have a' : ¬ i = k := fun z => a z.symm
        have b' : ¬ j = k := fun z => b z.symm
        simp [a, b, a', b']
theorem sp_tlD (e : Fx K mg) {bs : List Int} {la re : Int} {cs ds : List (List Int)} {br bd v : Int} {n : Nat} {ps : List Nat} {W : EndsD} {x5 x6 : Sl} {s0 n14 : D} (st : Stk bs la re) (hbr : 0 ≤ br ∧ br ≤ 1000000) (w : Wl bs cs br bd n) (h18 : n ≤ 18) (hone : ∀ c ∈ cs, ∀ b ∈ c, 1 ≤ b) (hp : Path n cs.length ps) (hcost : cost bd (cs.map fun c => own c br) ps = v) (hv : IsL bd n (cs.map fun c => own c br) v)
    (q : ∀ Γ, W.rt (.bl true) Γ) : tlD K W [.val s0, .hand, .val (.tup [.tup (nums bs), .int la, .int re]), .val (.int ((n : Int) + 2)), .val (.lst (csD cs)), x5, x6, .val (.int br), .val (.int bd), .val (prD K br bd), .val (stD K bs la re), .val (waD K (stD K bs la re) cs ((n : Int) + 2)), .val (waD K (stD K bs la re) ds ((n : Int) + 2)), .val (crD K v (plc ps)), .val n14, .un, .un, .un, .un, .un] := by
  have hm := w.ok.many
  have h0 : 0 < cs.length := List.length_pos_iff.mpr w.ok.ne
  have hn := w.hn
  simp only [tlD, pD, pH, pI, startG, startH, startI, sNext, sSeq, sBrk, sCnt, sDrop, sRet, sRetN, sIf, sNever, sAsg, sAsgN, sPar, sAug, sApp, sFldS, sFor, dC, dVar, dOwn, d2, d2O, oI, oIC, oAdd, oSub, oMul, oFdiv, oMod, oPow, oLt, oLe, oGt, oGe, oIsN, oNotN, oIn, oNin, oIx, oCatT, dTest, dAnd, dOr, dNot, dAndV, dOrV, dNotV, dIfE, dTru, dNil, dCons, dTup, dLst, dFld, dCB, dCB1, cLen, cAbs, cInt, cMax2, cMin2, cSum, cList, cTuple, cAny, cAll, dNoPart, dPart, dSl, dRev, dTupRev, dFrz, dLstN, dListN, dPop, gdName, gdNil, gdCons, gdTup, gdSub, dCall, dIsiT, dCallH, dMeth, iSeq, iEnumD, iR1, iR2, iR3, dLcN, dLc, dYes, dNeg, dChain, items_lst, items_tup]
  simp
  refine ⟨_, items_lst _, ?_⟩
  rw [csD_len]
  refine sp_draw ⟨by omega, by omega⟩ fun i i1 i2 => ?_
  refine ⟨_, items_lst _, ?_⟩
  rw [csD_len]
  refine sp_draw ⟨by omega, by omega⟩ fun j j1 j2 => ?_
  obtain ⟨i, rfl⟩ := Int.eq_ofNat_of_zero_le i1
  obtain ⟨j, rfl⟩ := Int.eq_ofNat_of_zero_le j1
  have hi : i < cs.length := by omega
  have hj : j < cs.length := by omega
  refine ⟨_, _, ⟨rfl, rfl⟩, _, _, rfl, rfl, _, items_lst _, by rw [csD_len]; omega, rfl, ?_⟩
  rw [csD_len]
  simp only [wipS, List.set_cons_succ, List.set_cons_zero]
  refine lc_rng (fun k => .int ((ordN i j k : Nat) : Int)) (fun k hk Qd hq => ?_) (by omega) ?_
  · simp [pD, pH, pI, startG, startH, startI, sNext, sSeq, sBrk, sCnt, sDrop, sRet, sRetN, sIf, sNever, sAsg, sAsgN, sPar, sAug, sApp, sFldS, sFor, dC, dVar, dOwn, d2, d2O, oI, oIC, oAdd, oSub, oMul, oFdiv, oMod, oPow, oLt, oLe, oGt, oGe, oIsN, oNotN, oIn, oNin, oIx, oCatT, dTest, dAnd, dOr, dNot, dAndV, dOrV, dNotV, dIfE, dTru, dNil, dCons, dTup, dLst, dFld, dCB, dCB1, cLen, cAbs, cInt, cMax2, cMin2, cSum, cList, cTuple, cAny, cAll, dNoPart, dPart, dSl, dRev, dTupRev, dFrz, dLstN, dListN, dPop, gdName, gdNil, gdCons, gdTup, gdSub, dCall, dIsiT, dCallH, dMeth, iSeq, iEnumD, iR1, iR2, iR3, dLcN, dLc, dYes, dNeg, dChain, items_lst, items_tup]
    simp only [List.set_cons_succ, List.set_cons_zero] at hq
    simp only [oEq_int]
    unfold ordN at hq
    by_cases a : k = i
    · have a' : ((k : Int) = (i : Int)) := by omega
      refine .inr ⟨by rw [decide_eq_true a'], ?_⟩
      simpa [a] using hq
    · have a' : ¬ ((k : Int) = (i : Int)) := by omega
      refine .inl ⟨by rw [decide_eq_false a'], ?_⟩
      by_cases b : k = j
      · have b' : ((k : Int) = (j : Int)) := by omega
        refine .inr ⟨by rw [decide_eq_true b'], ?_⟩
        rw [if_neg a, if_pos b] at hq
        simpa using hq
      · have b' : ¬ ((k : Int) = (j : Int)) := by omega
        refine .inl ⟨by rw [decide_eq_false b'], ?_⟩
        rw [if_neg a, if_neg b] at hq
        simpa using hq
  refine sp_exch e w.ok hi hj ?_
  have hmem : ∀ c ∈ (cs.set i cs[j]).set j cs[i], c ∈ cs := fun c hc => by
    rcases List.mem_or_eq_of_mem_set hc with h | h
    · rcases List.mem_or_eq_of_mem_set h with h | h
      · exact h
      · rw [h]
        exact List.getElem_mem hj
    · rw [h]
      exact List.getElem_mem hi
  have wx : Wl bs ((cs.set i cs[j]).set j cs[i]) br bd n := ⟨⟨fun z => by
    have := congrArg List.length z
    rw [List.length_set, List.length_set, List.length_nil] at this
    omega, by rw [List.length_set, List.length_set]; exact hm, fun c hc => w.ok.ok c (hmem c hc), fun c hc => w.ok.sum c (hmem c hc)⟩, w.hn, w.hb⟩
  refine sp_least e w.hb wx.cl (by omega) wx.ok.ne wx.len fun v2 ps2 _ _ hv2 => ?_
  simp only [f_crD_price e]
  refine ⟨_, items_lst _, rfl, ?_⟩
  refine lc_all (fun d => match d with | .int x => ((csD cs)[x.toNat]?).getD .non | d => d) (fun d hd Qd hq => ?_) (by simp; omega) ?_
  · obtain ⟨k, hk, rfl⟩ := List.mem_map.mp hd
    have hk := List.mem_range.mp hk
    have ho : ordN i j k < cs.length := by
      unfold ordN
      split
      · exact hj
      · split
        · exact hi
        · exact hk
    simp [pD, pH, pI, startG, startH, startI, sNext, sSeq, sBrk, sCnt, sDrop, sRet, sRetN, sIf, sNever, sAsg, sAsgN, sPar, sAug, sApp, sFldS, sFor, dC, dVar, dOwn, d2, d2O, oI, oIC, oAdd, oSub, oMul, oFdiv, oMod, oPow, oLt, oLe, oGt, oGe, oIsN, oNotN, oIn, oNin, oIx, oCatT, dTest, dAnd, dOr, dNot, dAndV, dOrV, dNotV, dIfE, dTru, dNil, dCons, dTup, dLst, dFld, dCB, dCB1, cLen, cAbs, cInt, cMax2, cMin2, cSum, cList, cTuple, cAny, cAll, dNoPart, dPart, dSl, dRev, dTupRev, dFrz, dLstN, dListN, dPop, gdName, gdNil, gdCons, gdTup, gdSub, dCall, dIsiT, dCallH, dMeth, iSeq, iEnumD, iR1, iR2, iR3, dLcN, dLc, dYes, dNeg, dChain, items_lst, items_tup]
    refine ⟨_, csD_get ho, ?_⟩
    have hz : ((csD cs)[((ordN i j k : Nat) : Int).toNat]?).getD .non = .tup (nums cs[ordN i j k]) := by
      rw [Int.toNat_natCast]
      unfold csD
      rw [List.getElem?_map, List.getElem?_eq_getElem ho]
      rfl
    simp only [hz] at hq
    simpa using hq
  have hord : ((List.range cs.length).map fun k => D.int ((ordN i j k : Nat) : Int)).map (fun d => match d with | .int x => ((csD cs)[x.toNat]?).getD .non | d => d) = csD ((cs.set i cs[j]).set j cs[i]) := by
    rw [List.map_map]
    exact ord_csD hi hj
  rw [hord]
  refine sp_lsums w.hb wx.cl (by omega) wx.ok.ne wx.len ?_
  refine ⟨_, items_lst _, _, atI_rows_last (by have := wx.ok.ne; simpa using this), ?_⟩
  refine min_row ?_
  rw [← hv2]
  refine oNe_int.mpr (.inl ⟨by simp, ?_⟩)
  exact sp_scaled e st hbr w h18 hone hp hcost hv (q _)
theorem sp_tlC (e : Fx K mg) (hS : isB K "Stock" = true) {bs : List Int} {la re : Int} {cs ds : List (List Int)} {br bd v : Int} {n : Nat} {ps : List Nat} {W : EndsD} {x5 x6 : Sl} {s0 n14 : D} (st : Stk bs la re) (hbr : 0 ≤ br ∧ br ≤ 1000000) (w : Wl bs cs br bd n) (w2 : Wl bs ds br bd n) (h18 : n ≤ 18) (hm : cs.length ≤ 8 ∧ ds.length ≤ 8) (hone : ∀ c ∈ cs, ∀ b ∈ c, 1 ≤ b) (hp : Path n cs.length ps) (hcost : cost bd (cs.map fun c => own c br) ps = v) (hv : IsL bd n (cs.map fun c => own c br) v)
    (q : ∀ Γ, W.rt (.bl true) Γ) : tlC K W [.val s0, .hand, .val (.tup [.tup (nums bs), .int la, .int re]), .val (.int ((n : Int) + 2)), .val (.lst (csD cs)), x5, x6, .val (.int br), .val (.int bd), .val (prD K br bd), .val (stD K bs la re), .val (waD K (stD K bs la re) cs ((n : Int) + 2)), .val (waD K (stD K bs la re) ds ((n : Int) + 2)), .val (crD K v (plc ps)), .val n14, .un, .un, .un, .un, .un] := by
  have key := sp_tlD (W := W) (x5 := x5) (x6 := x6) (s0 := s0) (n14 := n14) (ds := ds) e st hbr w h18 hone hp hcost hv q
  simp only [tlC, pD, pH, pI, startG, startH, startI, sNext, sSeq, sBrk, sCnt, sDrop, sRet, sRetN, sIf, sNever, sAsg, sAsgN, sPar, sAug, sApp, sFldS, sFor, dC, dVar, dOwn, d2, d2O, oI, oIC, oAdd, oSub, oMul, oFdiv, oMod, oPow, oLt, oLe, oGt, oGe, oIsN, oNotN, oIn, oNin, oIx, oCatT, dTest, dAnd, dOr, dNot, dAndV, dOrV, dNotV, dIfE, dTru, dNil, dCons, dTup, dLst, dFld, dCB, dCB1, cLen, cAbs, cInt, cMax2, cMin2, cSum, cList, cTuple, cAny, cAll, dNoPart, dPart, dSl, dRev, dTupRev, dFrz, dLstN, dListN, dPop, gdName, gdNil, gdCons, gdTup, gdSub, dCall, dIsiT, dCallH, dMeth, iSeq, iEnumD, iR1, iR2, iR3, dLcN, dLc, dYes, dNeg, dChain, items_lst, items_tup]
  simp
  refine sp_piledr e hS hbr.1 w w2 (by omega) ?_
  refine .inr ⟨rfl, ?_⟩
  refine sp_piledr e hS hbr.1 w2 w (by omega) ?_
  exact .inr ⟨rfl, key⟩
theorem numsD_0 {bd : Int} {n : Nat} {o : Nat → Int} {os : List (Nat → Int)} : L2.atI (numsD bd n (o :: os)) 0 = some (.tup (nums (row o n))) := atI_nat (by omega) rfl
theorem numsD_at0 {bd br : Int} {n : Nat} : ∀ {cs : List (List Int)} (h : 0 < cs.length), L2.atI (numsD bd n (cs.map fun c => own c br)) 0 = some (.tup (nums (row (own cs[0] br) n)))
  | [], h => absurd h (by simp)
  | c :: cs, _ => numsD_0
theorem sp_tlB (e : Fx K mg) (hS : isB K "Stock" = true) {bs : List Int} {la re : Int} {cs ds : List (List Int)} {br bd : Int} {n : Nat} {W : EndsD} {x5 x6 : Sl} {s0 : D} (st : Stk bs la re) (hbr : 0 ≤ br ∧ br ≤ 1000000) (w : Wl bs cs br bd n) (w2 : Wl bs ds br bd n) (h18 : n ≤ 18) (hm : cs.length ≤ 8 ∧ ds.length ≤ 8) (hone : ∀ c ∈ cs, ∀ b ∈ c, 1 ≤ b)
    (q : ∀ Γ, W.rt (.bl true) Γ) : tlB K W [.val s0, .hand, .val (.tup [.tup (nums bs), .int la, .int re]), .val (.int ((n : Int) + 2)), .val (.lst (csD cs)), x5, x6, .val (.int br), .val (.int bd), .val (prD K br bd), .val (stD K bs la re), .val (waD K (stD K bs la re) cs ((n : Int) + 2)), .val (waD K (stD K bs la re) ds ((n : Int) + 2)), .un, .un, .un, .un, .un, .un, .un] := by
  have hn := w.hn
  simp only [tlB, pD, pH, pI, startG, startH, startI, sNext, sSeq, sBrk, sCnt, sDrop, sRet, sRetN, sIf, sNever, sAsg, sAsgN, sPar, sAug, sApp, sFldS, sFor, dC, dVar, dOwn, d2, d2O, oI, oIC, oAdd, oSub, oMul, oFdiv, oMod, oPow, oLt, oLe, oGt, oGe, oIsN, oNotN, oIn, oNin, oIx, oCatT, dTest, dAnd, dOr, dNot, dAndV, dOrV, dNotV, dIfE, dTru, dNil, dCons, dTup, dLst, dFld, dCB, dCB1, cLen, cAbs, cInt, cMax2, cMin2, cSum, cList, cTuple, cAny, cAll, dNoPart, dPart, dSl, dRev, dTupRev, dFrz, dLstN, dListN, dPop, gdName, gdNil, gdCons, gdTup, gdSub, dCall, dIsiT, dCallH, dMeth, iSeq, iEnumD, iR1, iR2, iR3, dLcN, dLc, dYes, dNeg, dChain, items_lst, items_tup]
  simp
  refine sp_least e w.hb w.cl (by omega) w.ok.ne w.len fun v ps hp hcost hv => ?_
  have key := fun n14 => sp_tlC (W := W) (x5 := x5) (x6 := x6) (s0 := s0) (n14 := n14) e hS st hbr w w2 h18 hm hone hp hcost (isL_of w.ok.ne hv) q
  refine sp_numbers e w.hb.1 w.cl (by omega) w.ok.ne w.len ?_
  simp only [f_crD_price e]
  have h0 : 0 < cs.length := List.length_pos_iff.mpr w.ok.ne
  refine sp_lsums w.hb w.cl (by omega) w.ok.ne w.len ?_
  refine ⟨_, items_lst _, _, atI_rows_last (by have := w.ok.ne; simpa using this), ?_⟩
  refine min_row ?_
  rw [← hv]
  refine oNe_int.mpr (.inl ⟨by simp, ?_⟩)
  refine ⟨_, items_tup _, _, numsD_at0 h0, _, items_lst _, _, csD_get h0, ?_⟩
  refine sp_lown (w.cl _ (List.getElem_mem h0)) (by omega) ?_
  refine ⟨_, items_lst _, ?_⟩
  refine oNe_refl (shp_tup (k := 0) (shp_nums 0 _)).shp ?_
  refine .inl ⟨rfl, ?_⟩
  refine sp_turned e w hp hcost hv ?_
  exact .inr ⟨rfl, key _⟩
theorem sp_tlA (e : Fx K mg) (hS : isB K "Stock" = true) {bs : List Int} {la re : Int} {cs ds : List (List Int)} {n : Nat} {W : EndsD} {x5 : Sl} {s0 : D} (st : Stk bs la re) (a : WaOk bs cs ((n : Int) + 2)) (b : WaOk bs ds ((n : Int) + 2)) (h18 : n ≤ 18) (hm : cs.length ≤ 8 ∧ ds.length ≤ 8) (hone : ∀ c ∈ cs, ∀ b ∈ c, 1 ≤ b)
    (q : ∀ Γ, W.rt (.bl true) Γ) : tlA K W [.val s0, .hand, .val (.tup [.tup (nums bs), .int la, .int re]), .val (.int ((n : Int) + 2)), .val (.lst (csD cs)), x5, .val (.lst (csD ds)), .un, .un, .un, .un, .un, .un, .un, .un, .un, .un, .un, .un, .un] := by
  have hl := st.l
  have hla := st.la
  simp only [tlA, pD, pH, pI, startG, startH, startI, sNext, sSeq, sBrk, sCnt, sDrop, sRet, sRetN, sIf, sNever, sAsg, sAsgN, sPar, sAug, sApp, sFldS, sFor, dC, dVar, dOwn, d2, d2O, oI, oIC, oAdd, oSub, oMul, oFdiv, oMod, oPow, oLt, oLe, oGt, oGe, oIsN, oNotN, oIn, oNin, oIx, oCatT, dTest, dAnd, dOr, dNot, dAndV, dOrV, dNotV, dIfE, dTru, dNil, dCons, dTup, dLst, dFld, dCB, dCB1, cLen, cAbs, cInt, cMax2, cMin2, cSum, cList, cTuple, cAny, cAll, dNoPart, dPart, dSl, dRev, dTupRev, dFrz, dLstN, dListN, dPop, gdName, gdNil, gdCons, gdTup, gdSub, dCall, dIsiT, dCallH, dMeth, iSeq, iEnumD, iR1, iR2, iR3, dLcN, dLc, dYes, dNeg, dChain, items_lst, items_tup]
  simp
  refine sp_two fun br bd hbr hbd => ?_
  refine ⟨_, rfl, rfl, _, _, rfl, _, _, rfl, rfl, ?_⟩
  refine sp_Prices e hbr hbd ?_
  refine ⟨_, items_tup _, _, rfl, _, items_tup _, _, rfl, _, items_tup _, _, rfl, ?_⟩
  refine sp_Stock e (items_tup _) (by omega) (by omega) st.ok (by omega) st.re ?_
  refine sp_Wall e (items_lst _) (All2'.tup _) a ?_
  refine sp_Wall e (items_lst _) (All2'.tup _) b ?_
  refine ⟨_, _, ⟨rfl, rfl⟩, ?_⟩
  exact sp_tlB e hS st hbr ⟨a, by omega, hbd⟩ ⟨b, by omega, hbd⟩ h18 hm hone q
theorem law_ok_all (e : Fx K mg) (hS : isB K "Stock" = true) : law_ok K := fun ns hns => by
  rw [td18]
  simp only [pD, pH, pI, startG, startH, startI, sNext, sSeq, sBrk, sCnt, sDrop, sRet, sRetN, sIf, sNever, sAsg, sAsgN, sPar, sAug, sApp, sFldS, sFor, dC, dVar, dOwn, d2, d2O, oI, oIC, oAdd, oSub, oMul, oFdiv, oMod, oPow, oLt, oLe, oGt, oGe, oIsN, oNotN, oIn, oNin, oIx, oCatT, dTest, dAnd, dOr, dNot, dAndV, dOrV, dNotV, dIfE, dTru, dNil, dCons, dTup, dLst, dFld, dCB, dCB1, cLen, cAbs, cInt, cMax2, cMin2, cSum, cList, cTuple, cAny, cAll, dNoPart, dPart, dSl, dRev, dTupRev, dFrz, dLstN, dListN, dPop, gdName, gdNil, gdCons, gdTup, gdSub, dCall, dIsiT, dCallH, dMeth, iSeq, iEnumD, iR1, iR2, iR3, dLcN, dLc, dYes, dNeg, dChain, items_lst, items_tup, List.replicate]
  simp
  refine sp_pick (items_lst _) ⟨by simp, by simp⟩ fun hi hhi => ?_
  have hhi' : ∃ h : Nat, hi = .int (h : Int) ∧ 5 ≤ h ∧ h ≤ 20 := by
    simp at hhi
    rcases hhi with rfl | rfl
    · exact ⟨9, rfl, by omega, by omega⟩
    · exact ⟨20, rfl, by omega, by omega⟩
  obtain ⟨h, rfl, h5, h20⟩ := hhi'
  refine sp_drawn ⟨h5, by omega⟩ fun bs la re L cs st hL1 hL2 hc hd => ?_
  have hb : ∀ b ∈ bs, 1 ≤ b := fun b hb' => (st.five b hb').1
  have hl := st.l
  obtain ⟨c, hc1, hc2⟩ := hc
  have wa := waOk_of hb hL1 (by omega) hd
  have hdl := hd.l
  have h0 : 0 < cs.length := by omega
  obtain ⟨n, rfl⟩ : ∃ n, L = n + 2 := ⟨L - 2, by omega⟩
  have eL : ((n + 2 : Nat) : Int) = (n : Int) + 2 := by omega
  have eL' : (Int.ofNat n + 2 : Int) = (n : Int) + 2 := rfl
  refine ⟨_, rfl, rfl, _, _, rfl, _, _, rfl, _, _, rfl, rfl, _, items_tup _, _, rfl, ?_⟩
  refine sp_counts hb (by omega) (by omega) fun c2 ok2 => ?_
  have hpos : 0 < c2 (n + 2) := cnt_both hb hc1 ok2 (n + 2) (n + 2) (by omega) hL2 (by omega) hc2
  refine sp_draw ⟨by omega, by omega⟩ fun d h1 h2 => ?_
  refine ⟨_, rfl, by omega, by omega, rfl, ?_⟩
  simp only [wipS, List.set_cons_succ, List.set_cons_zero]
  have hone : ∀ c ∈ cs, ∀ b ∈ c, 1 ≤ b := fun c hc b hb' => hb b ((hd.cr c hc).inb b hb')
  refine lc_dem (fun d => ∃ cr, Cr bs ((n + 2 : Nat) : Int) cr ∧ d = .tup (nums cr)) (fun x hx Qd hq => ?_) (by simp [rngD]; omega) fun ds e1 e2 => ?_
  · simp [pD, pH, pI, startG, startH, startI, sNext, sSeq, sBrk, sCnt, sDrop, sRet, sRetN, sIf, sNever, sAsg, sAsgN, sPar, sAug, sApp, sFldS, sFor, dC, dVar, dOwn, d2, d2O, oI, oIC, oAdd, oSub, oMul, oFdiv, oMod, oPow, oLt, oLe, oGt, oGe, oIsN, oNotN, oIn, oNin, oIx, oCatT, dTest, dAnd, dOr, dNot, dAndV, dOrV, dNotV, dIfE, dTru, dNil, dCons, dTup, dLst, dFld, dCB, dCB1, cLen, cAbs, cInt, cMax2, cMin2, cSum, cList, cTuple, cAny, cAll, dNoPart, dPart, dSl, dRev, dTupRev, dFrz, dLstN, dListN, dPop, gdName, gdNil, gdCons, gdTup, gdSub, dCall, dIsiT, dCallH, dMeth, iSeq, iEnumD, iR1, iR2, iR3, dLcN, dLc, dYes, dNeg, dChain, items_lst, items_tup]
    refine ⟨_, rfl, ?_⟩
    refine sp_lcourse (L := n + 2) hb (by omega) (by omega) ok2 (by omega) hpos fun cr hcr => ?_
    have := hq _ ⟨cr, hcr, rfl⟩
    simpa using this
  · obtain ⟨cs2, rfl, hcs2⟩ := cr_list e2
    rw [List.nil_append]
    have e3 : (csD cs2).length = (1 + d).toNat := by rw [e1]; simp [rngD]
    rw [csD_len] at e3
    have fin : ∀ (x5 : Sl) (cs3 : List (List Int)), (1 ≤ cs3.length ∧ cs3.length ≤ 8) → (∀ c ∈ cs3, Cr bs ((n + 2 : Nat) : Int) c) → tlA K ⟨fun _ => False, fun d _ => d = .bl true, fun _ => False, fun _ => False⟩ [.val (.lst (ns.map DL.D.int)), .hand, .val (.tup [.tup (nums bs), .int la, .int re]), .val (.int ((n : Int) + 2)), .val (.lst (csD cs)), x5, .val (.lst (csD cs3)), .un, .un, .un, .un, .un, .un, .un, .un, .un, .un, .un, .un, .un] := fun x5 cs3 hl3 h3 => by
      have wb := waOk_of hb hL1 (by omega) ⟨hl3, h3⟩
      rw [eL] at wa wb
      exact sp_tlA e hS st wa wb (by omega) ⟨by omega, hl3.2⟩ hone fun _ => rfl
    refine sp_draw ⟨by omega, by omega⟩ fun g g1 g2 => ?_
    rw [oEq_int]
    by_cases z : g = 0
    · refine .inr ⟨by rw [decide_eq_true z], ?_⟩
      refine ⟨_, items_lst _, rfl, ?_⟩
      refine lc_dem (fun d => ∃ cr, Cr bs ((n + 2 : Nat) : Int) cr ∧ d = .tup (nums cr)) (fun x hx Qd hq => ?_) (by rw [csD_len]; simp; omega) fun ds e4 e5 => ?_
      · simp [pD, pH, pI, startG, startH, startI, sNext, sSeq, sBrk, sCnt, sDrop, sRet, sRetN, sIf, sNever, sAsg, sAsgN, sPar, sAug, sApp, sFldS, sFor, dC, dVar, dOwn, d2, d2O, oI, oIC, oAdd, oSub, oMul, oFdiv, oMod, oPow, oLt, oLe, oGt, oGe, oIsN, oNotN, oIn, oNin, oIx, oCatT, dTest, dAnd, dOr, dNot, dAndV, dOrV, dNotV, dIfE, dTru, dNil, dCons, dTup, dLst, dFld, dCB, dCB1, cLen, cAbs, cInt, cMax2, cMin2, cSum, cList, cTuple, cAny, cAll, dNoPart, dPart, dSl, dRev, dTupRev, dFrz, dLstN, dListN, dPop, gdName, gdNil, gdCons, gdTup, gdSub, dCall, dIsiT, dCallH, dMeth, iSeq, iEnumD, iR1, iR2, iR3, dLcN, dLc, dYes, dNeg, dChain, items_lst, items_tup]
        refine sp_pick (items_lst _) ⟨by rw [csD_len]; omega, by rw [csD_len]; omega⟩ fun y hy => ?_
        obtain ⟨cr, hcr, rfl⟩ := List.mem_map.mp hy
        have := hq _ ⟨cr, hd.cr cr hcr, rfl⟩
        simpa using this
      · obtain ⟨cs3, rfl, hcs3⟩ := cr_list e5
        rw [List.nil_append]
        rw [csD_len, csD_len] at e4
        exact fin _ cs3 ⟨by omega, by omega⟩ hcs3
    · refine .inl ⟨by rw [decide_eq_false z], ?_⟩
      exact fin _ cs2 ⟨by omega, by omega⟩ hcs2
end
end K96
set_option Elab.async false
set_option linter.all false
set_option maxRecDepth 100000
set_option maxHeartbeats 1000000
namespace K96
open PySem PySem.Spec L2 L2R DL CM
open PyProof.Rows hiding St
section
variable {K : PySem.W.Frag} {mg : PySem.Str → Option Value}
def YOk (y : Sl) : Prop := y = .un ∨ ∃ d, y = .val d
theorem lp_hand {W : EndsD} {A : Sl} (h : ∀ (t : Int) (x y : Sl), YOk y → W.nx [A, .val (.int t), x, y]) :
    ∀ (ns : List Int) (k : Nat) (t : Int) (x y : Sl), k + ns.length ≤ 1000000 → YOk y → forL (gdTup 2 (gdCons (gdName 2) (gdCons (gdName 3) gdNil))) (lb__law_hand_0 K) W (((nums ns).zipIdx k).map fun p => .tup [.int (p.2 : Nat), p.1]) [A, .val (.int t), x, y]
  | [], k, t, x, y, _, hy => h t x y hy
  | n :: ns, k, t, x, y, hk, _ => by
    have ih := fun t => lp_hand h ns (k + 1) t (.val (.int (k : Nat))) (.val (.int n)) (by simp at hk ⊢; omega) (.inr ⟨_, rfl⟩)
    simp at hk
    show forL _ _ _ (.tup [.int (k : Nat), .int n] :: ((nums ns).zipIdx (k + 1)).map fun p => .tup [.int (p.2 : Nat), p.1]) _
    simp only [forL]
    simp [gdTup, gdCons, gdName, gdNil]
    refine ⟨_, _, ⟨rfl, rfl⟩, _, _, rfl, rfl, ?_⟩
    simp only [lb__law_hand_0, pD, pH, pI, startG, startH, startI, sNext, sSeq, sBrk, sCnt, sDrop, sRet, sRetN, sIf, sNever, sAsg, sAsgN, sPar, sAug, sApp, sFldS, sFor, dC, dVar, dOwn, d2, d2O, oI, oIC, oAdd, oSub, oMul, oFdiv, oMod, oPow, oLt, oLe, oGt, oGe, oIsN, oNotN, oIn, oNin, oIx, oCatT, dTest, dAnd, dOr, dNot, dAndV, dOrV, dNotV, dIfE, dTru, dNil, dCons, dTup, dLst, dFld, dCB, dCB1, cLen, cAbs, cInt, cMax2, cMin2, cSum, cList, cTuple, cAny, cAll, dNoPart, dPart, dSl, dRev, dTupRev, dFrz, dLstN, dListN, dPop, gdName, gdNil, gdCons, gdTup, gdSub, dCall, dIsiT, dCallH, dMeth, iSeq, iEnumD, iR1, iR2, iR3, dLcN, dLc, dYes, dNeg, dChain, items_lst, items_tup]
    simp
    exact ⟨cm_r (by omega), cm_r (by omega), ih _⟩
theorem hand_ok_all : hand_ok K := fun ns hns => by
  simp only [td1__law_hand, td2__law_hand, tdn__law_hand, pD, pH, pI, startG, startH, startI, sNext, sSeq, sBrk, sCnt, sDrop, sRet, sRetN, sIf, sNever, sAsg, sAsgN, sPar, sAug, sApp, sFldS, sFor, dC, dVar, dOwn, d2, d2O, oI, oIC, oAdd, oSub, oMul, oFdiv, oMod, oPow, oLt, oLe, oGt, oGe, oIsN, oNotN, oIn, oNin, oIx, oCatT, dTest, dAnd, dOr, dNot, dAndV, dOrV, dNotV, dIfE, dTru, dNil, dCons, dTup, dLst, dFld, dCB, dCB1, cLen, cAbs, cInt, cMax2, cMin2, cSum, cList, cTuple, cAny, cAll, dNoPart, dPart, dSl, dRev, dTupRev, dFrz, dLstN, dListN, dPop, gdName, gdNil, gdCons, gdTup, gdSub, dCall, dIsiT, dCallH, dMeth, iSeq, iEnumD, iR1, iR2, iR3, dLcN, dLc, dYes, dNeg, dChain, items_lst, items_tup]
  simp
  refine ⟨_, items_lst _, ?_⟩
  refine lp_hand (fun t x y hy => ?_) ns 0 0 .un .un (by omega) (.inl rfl)
  refine ⟨_, rfl, _, items_lst _, ?_, ?_⟩
  · rcases hy with rfl | ⟨d, rfl⟩ <;> rfl
  simp only [wipS, List.set_cons_succ, List.set_cons_zero]
  refine lc_nums (fun b => .int (if b < 0 then -b else b)) (fun x hx Qd hq => ?_) (by omega) ?_
  · simp [pD, pH, pI, startG, startH, startI, sNext, sSeq, sBrk, sCnt, sDrop, sRet, sRetN, sIf, sNever, sAsg, sAsgN, sPar, sAug, sApp, sFldS, sFor, dC, dVar, dOwn, d2, d2O, oI, oIC, oAdd, oSub, oMul, oFdiv, oMod, oPow, oLt, oLe, oGt, oGe, oIsN, oNotN, oIn, oNin, oIx, oCatT, dTest, dAnd, dOr, dNot, dAndV, dOrV, dNotV, dIfE, dTru, dNil, dCons, dTup, dLst, dFld, dCB, dCB1, cLen, cAbs, cInt, cMax2, cMin2, cSum, cList, cTuple, cAny, cAll, dNoPart, dPart, dSl, dRev, dTupRev, dFrz, dLstN, dListN, dPop, gdName, gdNil, gdCons, gdTup, gdSub, dCall, dIsiT, dCallH, dMeth, iSeq, iEnumD, iR1, iR2, iR3, dLcN, dLc, dYes, dNeg, dChain, items_lst, items_tup]
    simpa using hq
  refine ⟨_, rfl, ns.map fun b => if b < 0 then -b else b, 0, 0, t, ?_, fun n hn => ?_, by omega, by omega⟩
  · rw [List.map_map]
    rfl
  · obtain ⟨b, _, rfl⟩ := List.mem_map.mp hn
    split <;> omega
end
end K96
set_option Elab.async false
set_option linter.all false
set_option maxRecDepth 100000
set_option maxHeartbeats 0
namespace K96H
open PySem PySem.Spec L2 DL K96
open PyProof.Rows hiding St
abbrev fn_0 : He.DefD := ⟨(("Crack" : PySem.Str), some ("__init__" : PySem.Str)), ("__init__" : PySem.Str), ("Crack.__init__" : PySem.Str), defArgs (inClass (top 23) 0), defBody (inClass (top 23) 0), defScope (inClass (top 23) 0), [], []⟩
abbrev fn_1 : He.DefD := ⟨(("check_long" : PySem.Str), none), ("check_long" : PySem.Str), ("check_long" : PySem.Str), defArgs (top 24), defBody (top 24), defScope (top 24), [], []⟩
abbrev fn_2 : He.DefD := ⟨(("joints_of" : PySem.Str), none), ("joints_of" : PySem.Str), ("joints_of" : PySem.Str), defArgs (top 18), defBody (top 18), defScope (top 18), [], []⟩
abbrev fn_3 : He.DefD := ⟨(("place_prices" : PySem.Str), none), ("place_prices" : PySem.Str), ("place_prices" : PySem.Str), defArgs (top 25), defBody (top 25), defScope (top 25), [], []⟩
abbrev fn_4 : He.DefD := ⟨(("spread_sums" : PySem.Str), none), ("spread_sums" : PySem.Str), ("spread_sums" : PySem.Str), defArgs (top 26), defBody (top 26), defScope (top 26), [], []⟩
abbrev fn_5 : He.DefD := ⟨(("next_sums" : PySem.Str), none), ("next_sums" : PySem.Str), ("next_sums" : PySem.Str), defArgs (top 27), defBody (top 27), defScope (top 27), [], []⟩
abbrev fn_6 : He.DefD := ⟨(("sums_through" : PySem.Str), none), ("sums_through" : PySem.Str), ("sums_through" : PySem.Str), defArgs (top 28), defBody (top 28), defScope (top 28), [], []⟩
abbrev fn_7 : He.DefD := ⟨(("floor_numbers" : PySem.Str), none), ("floor_numbers" : PySem.Str), ("floor_numbers" : PySem.Str), defArgs (top 30), defBody (top 30), defScope (top 30), [], []⟩
abbrev fn_8 : He.DefD := ⟨(("is_whole" : PySem.Str), none), ("is_whole" : PySem.Str), ("is_whole" : PySem.Str), defArgs (top 14), defBody (top 14), defScope (top 14), [.non, .non], []⟩
abbrev fn_9 : He.DefD := ⟨(("crack_price" : PySem.Str), none), ("crack_price" : PySem.Str), ("crack_price" : PySem.Str), defArgs (top 31), defBody (top 31), defScope (top 31), [], []⟩
abbrev fn_10 : He.DefD := ⟨(("traced_places" : PySem.Str), none), ("traced_places" : PySem.Str), ("traced_places" : PySem.Str), defArgs (top 29), defBody (top 29), defScope (top 29), [], []⟩
abbrev fn_11 : He.DefD := ⟨(("least_crack" : PySem.Str), none), ("least_crack" : PySem.Str), ("least_crack" : PySem.Str), defArgs (top 32), defBody (top 32), defScope (top 32), [], []⟩
abbrev fn_12 : He.DefD := ⟨(("crack_from" : PySem.Str), none), ("crack_from" : PySem.Str), ("crack_from" : PySem.Str), defArgs (top 33), defBody (top 33), defScope (top 33), [], []⟩
abbrev fn_13 : He.DefD := ⟨(("counted_place" : PySem.Str), none), ("counted_place" : PySem.Str), ("counted_place" : PySem.Str), defArgs (top 35), defBody (top 35), defScope (top 35), [], []⟩
abbrev fn_14 : He.DefD := ⟨(("count_cracks" : PySem.Str), none), ("count_cracks" : PySem.Str), ("count_cracks" : PySem.Str), defArgs (top 36), defBody (top 36), defScope (top 36), [], []⟩
abbrev fn_15 : He.DefD := ⟨(("floor_bound" : PySem.Str), none), ("floor_bound" : PySem.Str), ("floor_bound" : PySem.Str), defArgs (top 40), defBody (top 40), defScope (top 40), [], []⟩
abbrev fn_16 : He.DefD := ⟨(("are_number_rows" : PySem.Str), none), ("are_number_rows" : PySem.Str), ("are_number_rows" : PySem.Str), defArgs (top 38), defBody (top 38), defScope (top 38), [], []⟩
abbrev fn_17 : He.DefD := ⟨(("is_above" : PySem.Str), none), ("is_above" : PySem.Str), ("is_above" : PySem.Str), defArgs (top 39), defBody (top 39), defScope (top 39), [], []⟩
abbrev fn_18 : He.DefD := ⟨(("floor_fault" : PySem.Str), none), ("floor_fault" : PySem.Str), ("floor_fault" : PySem.Str), defArgs (top 41), defBody (top 41), defScope (top 41), [], []⟩
abbrev fn_19 : He.DefD := ⟨(("crack_fault" : PySem.Str), none), ("crack_fault" : PySem.Str), ("crack_fault" : PySem.Str), defArgs (top 42), defBody (top 42), defScope (top 42), [], []⟩
abbrev fn_20 : He.DefD := ⟨(("least_fault" : PySem.Str), none), ("least_fault" : PySem.Str), ("least_fault" : PySem.Str), defArgs (top 43), defBody (top 43), defScope (top 43), [], []⟩
abbrev fn_21 : He.DefD := ⟨(("mirrored_course" : PySem.Str), none), ("mirrored_course" : PySem.Str), ("mirrored_course" : PySem.Str), defArgs (top 19), defBody (top 19), defScope (top 19), [], []⟩
abbrev fn_22 : He.DefD := ⟨(("check_course" : PySem.Str), none), ("check_course" : PySem.Str), ("check_course" : PySem.Str), defArgs (top 17), defBody (top 17), defScope (top 17), [], []⟩
abbrev fn_23 : He.DefD := ⟨(("Wall" : PySem.Str), some ("__init__" : PySem.Str)), ("__init__" : PySem.Str), ("Wall.__init__" : PySem.Str), defArgs (inClass (top 54) 0), defBody (inClass (top 54) 0), defScope (inClass (top 54) 0), [], []⟩
abbrev fn_24 : He.DefD := ⟨(("wall_mirrored" : PySem.Str), none), ("wall_mirrored" : PySem.Str), ("wall_mirrored" : PySem.Str), defArgs (top 60), defBody (top 60), defScope (top 60), [], []⟩
abbrev fn_25 : He.DefD := ⟨(("upturned" : PySem.Str), none), ("upturned" : PySem.Str), ("upturned" : PySem.Str), defArgs (top 61), defBody (top 61), defScope (top 61), [], []⟩
abbrev fn_26 : He.DefD := ⟨(("_law_turned_alike" : PySem.Str), none), ("_law_turned_alike" : PySem.Str), ("_law_turned_alike" : PySem.Str), defArgs (top 77), defBody (top 77), defScope (top 77), [], []⟩
abbrev fn_27 : He.DefD := ⟨(("Wall" : PySem.Str), some ("__len__" : PySem.Str)), ("__len__" : PySem.Str), ("Wall.__len__" : PySem.Str), defArgs (inClass (top 54) 1), defBody (inClass (top 54) 1), defScope (inClass (top 54) 1), [], []⟩
abbrev fn_28 : He.DefD := ⟨(("Stock" : PySem.Str), some ("__eq__" : PySem.Str)), ("__eq__" : PySem.Str), ("Stock.__eq__" : PySem.Str), defArgs (inClass (top 51) 1), defBody (inClass (top 51) 1), defScope (inClass (top 51) 1), [], []⟩
abbrev fn_29 : He.DefD := ⟨(("check_alike" : PySem.Str), none), ("check_alike" : PySem.Str), ("check_alike" : PySem.Str), defArgs (top 57), defBody (top 57), defScope (top 57), [], []⟩
abbrev fn_30 : He.DefD := ⟨(("piled" : PySem.Str), none), ("piled" : PySem.Str), ("piled" : PySem.Str), defArgs (top 58), defBody (top 58), defScope (top 58), [], []⟩
abbrev fn_31 : He.DefD := ⟨(("part_of" : PySem.Str), none), ("part_of" : PySem.Str), ("part_of" : PySem.Str), defArgs (top 59), defBody (top 59), defScope (top 59), [], []⟩
abbrev fn_32 : He.DefD := ⟨(("_law_mix" : PySem.Str), none), ("_law_mix" : PySem.Str), ("_law_mix" : PySem.Str), defArgs (top 64), defBody (top 64), defScope (top 64), [], []⟩
abbrev fn_33 : He.DefD := ⟨(("_law_draw" : PySem.Str), none), ("_law_draw" : PySem.Str), ("_law_draw" : PySem.Str), defArgs (top 66), defBody (top 66), defScope (top 66), [], []⟩
abbrev fn_34 : He.DefD := ⟨(("_law_piled_right" : PySem.Str), none), ("_law_piled_right" : PySem.Str), ("_law_piled_right" : PySem.Str), defArgs (top 78), defBody (top 78), defScope (top 78), [], []⟩
abbrev fn_35 : He.DefD := ⟨(("Prices" : PySem.Str), some ("__init__" : PySem.Str)), ("__init__" : PySem.Str), ("Prices.__init__" : PySem.Str), defArgs (inClass (top 22) 0), defBody (inClass (top 22) 0), defScope (inClass (top 22) 0), [], []⟩
abbrev fn_36 : He.DefD := ⟨(("are_stock_bricks" : PySem.Str), none), ("are_stock_bricks" : PySem.Str), ("are_stock_bricks" : PySem.Str), defArgs (top 50), defBody (top 50), defScope (top 50), [], []⟩
abbrev fn_37 : He.DefD := ⟨(("Stock" : PySem.Str), some ("__init__" : PySem.Str)), ("__init__" : PySem.Str), ("Stock.__init__" : PySem.Str), defArgs (inClass (top 51) 0), defBody (inClass (top 51) 0), defScope (inClass (top 51) 0), [.int 1, .int 1], []⟩
abbrev fn_38 : He.DefD := ⟨(("Stock" : PySem.Str), some ("finer" : PySem.Str)), ("finer" : PySem.Str), ("Stock.finer" : PySem.Str), defArgs (inClass (top 51) 7), defBody (inClass (top 51) 7), defScope (inClass (top 51) 7), [], []⟩
abbrev fn_39 : He.DefD := ⟨(("_law_pick" : PySem.Str), none), ("_law_pick" : PySem.Str), ("_law_pick" : PySem.Str), defArgs (top 67), defBody (top 67), defScope (top 67), [], []⟩
abbrev fn_40 : He.DefD := ⟨(("_law_scaled_right" : PySem.Str), none), ("_law_scaled_right" : PySem.Str), ("_law_scaled_right" : PySem.Str), defArgs (top 79), defBody (top 79), defScope (top 79), [], []⟩
abbrev fn_41 : He.DefD := ⟨(("_law_stock" : PySem.Str), none), ("_law_stock" : PySem.Str), ("_law_stock" : PySem.Str), defArgs (top 68), defBody (top 68), defScope (top 68), [], []⟩
abbrev fn_42 : He.DefD := ⟨(("_law_counts" : PySem.Str), none), ("_law_counts" : PySem.Str), ("_law_counts" : PySem.Str), defArgs (top 70), defBody (top 70), defScope (top 70), [], []⟩
abbrev fn_43 : He.DefD := ⟨(("_law_course" : PySem.Str), none), ("_law_course" : PySem.Str), ("_law_course" : PySem.Str), defArgs (top 71), defBody (top 71), defScope (top 71), [], []⟩
abbrev fn_44 : He.DefD := ⟨(("_law_courses_drawn" : PySem.Str), none), ("_law_courses_drawn" : PySem.Str), ("_law_courses_drawn" : PySem.Str), defArgs (top 76), defBody (top 76), defScope (top 76), [], []⟩
abbrev fn_45 : He.DefD := ⟨(("_law_two_prices" : PySem.Str), none), ("_law_two_prices" : PySem.Str), ("_law_two_prices" : PySem.Str), defArgs (top 72), defBody (top 72), defScope (top 72), [], []⟩
abbrev fn_46 : He.DefD := ⟨(("check_number" : PySem.Str), none), ("check_number" : PySem.Str), ("check_number" : PySem.Str), defArgs (top 56), defBody (top 56), defScope (top 56), [], []⟩
abbrev fn_47 : He.DefD := ⟨(("exchanged" : PySem.Str), none), ("exchanged" : PySem.Str), ("exchanged" : PySem.Str), defArgs (top 62), defBody (top 62), defScope (top 62), [], []⟩
abbrev fn_48 : He.DefD := ⟨(("_law_joints" : PySem.Str), none), ("_law_joints" : PySem.Str), ("_law_joints" : PySem.Str), defArgs (top 69), defBody (top 69), defScope (top 69), [], []⟩
abbrev fn_49 : He.DefD := ⟨(("_law_own" : PySem.Str), none), ("_law_own" : PySem.Str), ("_law_own" : PySem.Str), defArgs (top 73), defBody (top 73), defScope (top 73), [], []⟩
abbrev fn_50 : He.DefD := ⟨(("_law_next" : PySem.Str), none), ("_law_next" : PySem.Str), ("_law_next" : PySem.Str), defArgs (top 74), defBody (top 74), defScope (top 74), [], []⟩
abbrev fn_51 : He.DefD := ⟨(("_law_sums" : PySem.Str), none), ("_law_sums" : PySem.Str), ("_law_sums" : PySem.Str), defArgs (top 75), defBody (top 75), defScope (top 75), [], []⟩
abbrev fn_52 : He.DefD := ⟨(("_law_hand" : PySem.Str), none), ("_law_hand" : PySem.Str), ("_law_hand" : PySem.Str), defArgs (top 65), defBody (top 65), defScope (top 65), [], []⟩
abbrev fn_53 : He.DefD := ⟨(("law" : PySem.Str), none), ("law" : PySem.Str), ("law" : PySem.Str), defArgs (top 80), defBody (top 80), defScope (top 80), [], []⟩
def fn : List He.DefD := [fn_0, fn_1, fn_2, fn_3, fn_4, fn_5, fn_6, fn_7, fn_8, fn_9, fn_10, fn_11, fn_12, fn_13, fn_14, fn_15, fn_16, fn_17, fn_18, fn_19, fn_20, fn_21, fn_22, fn_23, fn_24, fn_25, fn_26, fn_27, fn_28, fn_29, fn_30, fn_31, fn_32, fn_33, fn_34, fn_35, fn_36, fn_37, fn_38, fn_39, fn_40, fn_41, fn_42, fn_43, fn_44, fn_45, fn_46, fn_47, fn_48, fn_49, fn_50, fn_51, fn_52, fn_53]
def fa : List He.Fa := [.glo ("check_long" : PySem.Str), .glo ("joints_of" : PySem.Str), .glo ("place_prices" : PySem.Str), .glo ("spread_sums" : PySem.Str), .glo ("next_sums" : PySem.Str), .glo ("sums_through" : PySem.Str), .glo ("floor_numbers" : PySem.Str), .glo ("is_whole" : PySem.Str), .glo ("crack_price" : PySem.Str), .glo ("traced_places" : PySem.Str), .glo ("least_crack" : PySem.Str), .glo ("crack_from" : PySem.Str), .glo ("counted_place" : PySem.Str), .glo ("count_cracks" : PySem.Str), .glo ("floor_bound" : PySem.Str), .glo ("are_number_rows" : PySem.Str), .glo ("is_above" : PySem.Str), .glo ("floor_fault" : PySem.Str), .glo ("crack_fault" : PySem.Str), .glo ("least_fault" : PySem.Str), .glo ("mirrored_course" : PySem.Str), .glo ("check_course" : PySem.Str), .glo ("wall_mirrored" : PySem.Str), .glo ("upturned" : PySem.Str), .glo ("_law_turned_alike" : PySem.Str), .meth ("Wall" : PySem.Str) ("__len__" : PySem.Str), .meth ("Stock" : PySem.Str) ("__eq__" : PySem.Str), .glo ("check_alike" : PySem.Str), .glo ("piled" : PySem.Str), .glo ("part_of" : PySem.Str), .glo ("_law_mix" : PySem.Str), .glo ("_law_draw" : PySem.Str), .glo ("_law_piled_right" : PySem.Str), .glo ("are_stock_bricks" : PySem.Str), .meth ("Stock" : PySem.Str) ("finer" : PySem.Str), .glo ("_law_pick" : PySem.Str), .glo ("_law_scaled_right" : PySem.Str), .glo ("_law_stock" : PySem.Str), .glo ("_law_counts" : PySem.Str), .glo ("_law_course" : PySem.Str), .glo ("_law_courses_drawn" : PySem.Str), .glo ("_law_two_prices" : PySem.Str), .glo ("check_number" : PySem.Str), .glo ("exchanged" : PySem.Str), .glo ("_law_joints" : PySem.Str), .glo ("_law_own" : PySem.Str), .glo ("_law_next" : PySem.Str), .glo ("_law_sums" : PySem.Str), .glo ("_law_hand" : PySem.Str), .glo ("law" : PySem.Str), .free ("abs" : PySem.Str), .free ("all" : PySem.Str), .free ("any" : PySem.Str), .free ("bool" : PySem.Str), .free ("enumerate" : PySem.Str), .free ("int" : PySem.Str), .free ("isinstance" : PySem.Str), .free ("len" : PySem.Str), .free ("list" : PySem.Str), .free ("max" : PySem.Str), .free ("min" : PySem.Str), .free ("range" : PySem.Str), .free ("reversed" : PySem.Str), .free ("sorted" : PySem.Str), .free ("sum" : PySem.Str), .free ("tuple" : PySem.Str), .int ("LONGEST" : PySem.Str) 8, .int ("LONGEST_COURSE" : PySem.Str) 400, .int ("MOST_BRICKS" : PySem.Str) 4, .int ("MOST_COURSES" : PySem.Str) 60, .int ("MOST_LAP" : PySem.Str) 4, .int ("MOST_PRICE" : PySem.Str) 1000000, .int ("MOST_REACH" : PySem.Str) 2, .int ("MOST_SIZE" : PySem.Str) 4, .glo ("Crack" : PySem.Str), .cls ("Crack" : PySem.Str), .mkr ("Crack" : PySem.Str), .glo ("Prices" : PySem.Str), .cls ("Prices" : PySem.Str), .mkr ("Prices" : PySem.Str), .glo ("Stock" : PySem.Str), .cls ("Stock" : PySem.Str), .mkr ("Stock" : PySem.Str), .glo ("Wall" : PySem.Str), .cls ("Wall" : PySem.Str), .mkr ("Wall" : PySem.Str), .noat ("Crack" : PySem.Str) ("places" : PySem.Str), .noat ("Crack" : PySem.Str) ("price" : PySem.Str), .noat ("Prices" : PySem.Str) ("bed" : PySem.Str), .noat ("Prices" : PySem.Str) ("brick" : PySem.Str), .noat ("Stock" : PySem.Str) ("bricks" : PySem.Str), .noat ("Stock" : PySem.Str) ("lap" : PySem.Str), .noat ("Stock" : PySem.Str) ("reach" : PySem.Str), .noat ("Wall" : PySem.Str) ("courses" : PySem.Str), .noat ("Wall" : PySem.Str) ("length" : PySem.Str), .noat ("Wall" : PySem.Str) ("stock" : PySem.Str)]
abbrev R : PySem.W.OpenRow := PySem.W.OpenLaw.row PySem.Challenge.rw_jointsapart_k96_whole_cracks_turned_pile
def ex (K : PySem.W.Frag) : Bool := isB K "Stock"
abbrev hk : PySem.W.Hook := hookE 4 fa fn ex
def ob (s : PySem.W.SharedT) : He.AlD × Bool := (He.obsDG 4 fa fn (HandSHeadRun.getT s), ex (He.frG (HandSHeadRun.getT s) (He.asD (HandSHeadRun.getT s) 4)))
theorem ob_eq (s : PySem.W.SharedT) : ob s = hk.obs s.abs := obsE_eq (HandSHeadRun.getT_eq s)
def n1 : List Str := (["_wall", "WallError", "BadStock", "BadSize", "BadCourse", "BadWall", "CannotPile", "NoCourses", "NoNumber", "BadPrices", "TooShort", "BadCrack", "is_whole", "LONGEST_COURSE", "check_course"] : List Str) ++ (["joints_of", "mirrored_course", "MOST_PRICE", "Prices", "Crack", "check_long", "place_prices", "spread_sums", "next_sums", "sums_through", "traced_places", "floor_numbers", "crack_price", "least_crack", "crack_from"] : List Str) ++ (["counted_place", "count_cracks", "are_number_rows", "is_above", "floor_bound", "floor_fault", "crack_fault", "least_fault"] : List Str)
def n2 : List Str := (["MOST_BRICKS", "LONGEST", "MOST_LAP", "MOST_REACH", "MOST_SIZE", "are_stock_bricks", "Stock", "MOST_COURSES", "Wall", "check_number", "check_alike", "piled", "part_of", "wall_mirrored", "upturned"] : List Str) ++ (["exchanged", "_law_mix", "_law_hand", "_law_draw", "_law_pick", "_law_stock", "_law_joints", "_law_counts", "_law_course", "_law_two_prices", "_law_own", "_law_next", "_law_sums", "_law_courses_drawn", "_law_turned_alike"] : List Str) ++ (["_law_piled_right", "_law_scaled_right"] : List Str)
theorem run (w : World) : HandSHeadRun.RunEq R (PySem.W.view R.prog [80]) hk ob 12000 (n1 ++ n2) w := by
  intro os
  kernel_rfl
theorem facts {P : Program} {w : World} {K : PySem.W.Frag} {h : Heap} {mg : PySem.Str → Option Value} {f : Addr} (X : K.In h) (G : h.Ns mainGlobals mg) (hfa : mg ("law" : PySem.Str) = some (.ref f)) (c : He.SaysD fa fn K) (hS : isB K "Stock" = true) :
    ∃ fd : FuncData, (∀ (s : Shared) (v : Value), BindsTo s fd ⟨[v], []⟩ [("_law_script", v)]) ∧ ∀ base : Heap, K.In base → base.Ns mainGlobals mg → FnOk P w K mg base CX0 7 f fd ["_law_script"] (spL K) := by
  obtain ⟨fd_Crack_init, F_Crack_init⟩ := c.def_ 0 (d := fn_0) rfl
  obtain ⟨fd_check_long, F_check_long⟩ := c.def_ 1 (d := fn_1) rfl
  obtain ⟨fd_joints_of, F_joints_of⟩ := c.def_ 2 (d := fn_2) rfl
  obtain ⟨fd_place_prices, F_place_prices⟩ := c.def_ 3 (d := fn_3) rfl
  obtain ⟨fd_spread_sums, F_spread_sums⟩ := c.def_ 4 (d := fn_4) rfl
  obtain ⟨fd_next_sums, F_next_sums⟩ := c.def_ 5 (d := fn_5) rfl
  obtain ⟨fd_sums_through, F_sums_through⟩ := c.def_ 6 (d := fn_6) rfl
  obtain ⟨fd_floor_numbers, F_floor_numbers⟩ := c.def_ 7 (d := fn_7) rfl
  obtain ⟨fd_is_whole, F_is_whole⟩ := c.def_ 8 (d := fn_8) rfl
  obtain ⟨fd_crack_price, F_crack_price⟩ := c.def_ 9 (d := fn_9) rfl
  obtain ⟨fd_traced_places, F_traced_places⟩ := c.def_ 10 (d := fn_10) rfl
  obtain ⟨fd_least_crack, F_least_crack⟩ := c.def_ 11 (d := fn_11) rfl
  obtain ⟨fd_crack_from, F_crack_from⟩ := c.def_ 12 (d := fn_12) rfl
  obtain ⟨fd_counted_place, F_counted_place⟩ := c.def_ 13 (d := fn_13) rfl
  obtain ⟨fd_count_cracks, F_count_cracks⟩ := c.def_ 14 (d := fn_14) rfl
  obtain ⟨fd_floor_bound, F_floor_bound⟩ := c.def_ 15 (d := fn_15) rfl
  obtain ⟨fd_are_number_rows, F_are_number_rows⟩ := c.def_ 16 (d := fn_16) rfl
  obtain ⟨fd_is_above, F_is_above⟩ := c.def_ 17 (d := fn_17) rfl
  obtain ⟨fd_floor_fault, F_floor_fault⟩ := c.def_ 18 (d := fn_18) rfl
  obtain ⟨fd_crack_fault, F_crack_fault⟩ := c.def_ 19 (d := fn_19) rfl
  obtain ⟨fd_least_fault, F_least_fault⟩ := c.def_ 20 (d := fn_20) rfl
  obtain ⟨fd_mirrored_course, F_mirrored_course⟩ := c.def_ 21 (d := fn_21) rfl
  obtain ⟨fd_check_course, F_check_course⟩ := c.def_ 22 (d := fn_22) rfl
  obtain ⟨fd_Wall_init, F_Wall_init⟩ := c.def_ 23 (d := fn_23) rfl
  obtain ⟨fd_wall_mirrored, F_wall_mirrored⟩ := c.def_ 24 (d := fn_24) rfl
  obtain ⟨fd_upturned, F_upturned⟩ := c.def_ 25 (d := fn_25) rfl
  obtain ⟨fd__law_turned_alike, F__law_turned_alike⟩ := c.def_ 26 (d := fn_26) rfl
  obtain ⟨fd_Wall_len_, F_Wall_len_⟩ := c.def_ 27 (d := fn_27) rfl
  obtain ⟨fd_Stock_eq, F_Stock_eq⟩ := c.def_ 28 (d := fn_28) rfl
  obtain ⟨fd_check_alike, F_check_alike⟩ := c.def_ 29 (d := fn_29) rfl
  obtain ⟨fd_piled, F_piled⟩ := c.def_ 30 (d := fn_30) rfl
  obtain ⟨fd_part_of, F_part_of⟩ := c.def_ 31 (d := fn_31) rfl
  obtain ⟨fd__law_mix, F__law_mix⟩ := c.def_ 32 (d := fn_32) rfl
  obtain ⟨fd__law_draw, F__law_draw⟩ := c.def_ 33 (d := fn_33) rfl
  obtain ⟨fd__law_piled_right, F__law_piled_right⟩ := c.def_ 34 (d := fn_34) rfl
  obtain ⟨fd_Prices_init, F_Prices_init⟩ := c.def_ 35 (d := fn_35) rfl
  obtain ⟨fd_are_stock_bricks, F_are_stock_bricks⟩ := c.def_ 36 (d := fn_36) rfl
  obtain ⟨fd_Stock_init, F_Stock_init⟩ := c.def_ 37 (d := fn_37) rfl
  obtain ⟨fd_Stock_finer, F_Stock_finer⟩ := c.def_ 38 (d := fn_38) rfl
  obtain ⟨fd__law_pick, F__law_pick⟩ := c.def_ 39 (d := fn_39) rfl
  obtain ⟨fd__law_scaled_right, F__law_scaled_right⟩ := c.def_ 40 (d := fn_40) rfl
  obtain ⟨fd__law_stock, F__law_stock⟩ := c.def_ 41 (d := fn_41) rfl
  obtain ⟨fd__law_counts, F__law_counts⟩ := c.def_ 42 (d := fn_42) rfl
  obtain ⟨fd__law_course, F__law_course⟩ := c.def_ 43 (d := fn_43) rfl
  obtain ⟨fd__law_courses_drawn, F__law_courses_drawn⟩ := c.def_ 44 (d := fn_44) rfl
  obtain ⟨fd__law_two_prices, F__law_two_prices⟩ := c.def_ 45 (d := fn_45) rfl
  obtain ⟨fd_check_number, F_check_number⟩ := c.def_ 46 (d := fn_46) rfl
  obtain ⟨fd_exchanged, F_exchanged⟩ := c.def_ 47 (d := fn_47) rfl
  obtain ⟨fd__law_joints, F__law_joints⟩ := c.def_ 48 (d := fn_48) rfl
  obtain ⟨fd__law_own, F__law_own⟩ := c.def_ 49 (d := fn_49) rfl
  obtain ⟨fd__law_next, F__law_next⟩ := c.def_ 50 (d := fn_50) rfl
  obtain ⟨fd__law_sums, F__law_sums⟩ := c.def_ 51 (d := fn_51) rfl
  obtain ⟨fd__law_hand, F__law_hand⟩ := c.def_ 52 (d := fn_52) rfl
  obtain ⟨fd_law, F_law⟩ := c.def_ 53 (d := fn_53) rfl
  have e := hfa.symm.trans (He.glo_ok X G (c.fact 49 (f := .glo "law") rfl))
  cases e
  have b := FunD.bindsA (ps := ["_law_script"]) F_law fun _ _ _ _ _ _ us hl => match us, hl with | [_], _ => rfl
  let e : Fx K mg := {
    fd_Crack_init := fd_Crack_init,
    F_Crack_init := F_Crack_init,
    fd_check_long := fd_check_long,
    F_check_long := F_check_long,
    g_check_long := He.glo_ok X G (c.fact 0 (f := .glo ("check_long" : PySem.Str)) rfl),
    fd_joints_of := fd_joints_of,
    F_joints_of := F_joints_of,
    g_joints_of := He.glo_ok X G (c.fact 1 (f := .glo ("joints_of" : PySem.Str)) rfl),
    fd_place_prices := fd_place_prices,
    F_place_prices := F_place_prices,
    g_place_prices := He.glo_ok X G (c.fact 2 (f := .glo ("place_prices" : PySem.Str)) rfl),
    fd_spread_sums := fd_spread_sums,
    F_spread_sums := F_spread_sums,
    g_spread_sums := He.glo_ok X G (c.fact 3 (f := .glo ("spread_sums" : PySem.Str)) rfl),
    fd_next_sums := fd_next_sums,
    F_next_sums := F_next_sums,
    g_next_sums := He.glo_ok X G (c.fact 4 (f := .glo ("next_sums" : PySem.Str)) rfl),
    fd_sums_through := fd_sums_through,
    F_sums_through := F_sums_through,
    g_sums_through := He.glo_ok X G (c.fact 5 (f := .glo ("sums_through" : PySem.Str)) rfl),
    fd_floor_numbers := fd_floor_numbers,
    F_floor_numbers := F_floor_numbers,
    g_floor_numbers := He.glo_ok X G (c.fact 6 (f := .glo ("floor_numbers" : PySem.Str)) rfl),
    fd_is_whole := fd_is_whole,
    F_is_whole := F_is_whole,
    g_is_whole := He.glo_ok X G (c.fact 7 (f := .glo ("is_whole" : PySem.Str)) rfl),
    fd_crack_price := fd_crack_price,
    F_crack_price := F_crack_price,
    g_crack_price := He.glo_ok X G (c.fact 8 (f := .glo ("crack_price" : PySem.Str)) rfl),
    fd_traced_places := fd_traced_places,
    F_traced_places := F_traced_places,
    g_traced_places := He.glo_ok X G (c.fact 9 (f := .glo ("traced_places" : PySem.Str)) rfl),
    fd_least_crack := fd_least_crack,
    F_least_crack := F_least_crack,
    g_least_crack := He.glo_ok X G (c.fact 10 (f := .glo ("least_crack" : PySem.Str)) rfl),
    fd_crack_from := fd_crack_from,
    F_crack_from := F_crack_from,
    g_crack_from := He.glo_ok X G (c.fact 11 (f := .glo ("crack_from" : PySem.Str)) rfl),
    fd_counted_place := fd_counted_place,
    F_counted_place := F_counted_place,
    g_counted_place := He.glo_ok X G (c.fact 12 (f := .glo ("counted_place" : PySem.Str)) rfl),
    fd_count_cracks := fd_count_cracks,
    F_count_cracks := F_count_cracks,
    g_count_cracks := He.glo_ok X G (c.fact 13 (f := .glo ("count_cracks" : PySem.Str)) rfl),
    fd_floor_bound := fd_floor_bound,
    F_floor_bound := F_floor_bound,
    g_floor_bound := He.glo_ok X G (c.fact 14 (f := .glo ("floor_bound" : PySem.Str)) rfl),
    fd_are_number_rows := fd_are_number_rows,
    F_are_number_rows := F_are_number_rows,
    g_are_number_rows := He.glo_ok X G (c.fact 15 (f := .glo ("are_number_rows" : PySem.Str)) rfl),
    fd_is_above := fd_is_above,
    F_is_above := F_is_above,
    g_is_above := He.glo_ok X G (c.fact 16 (f := .glo ("is_above" : PySem.Str)) rfl),
    fd_floor_fault := fd_floor_fault,
    F_floor_fault := F_floor_fault,
    g_floor_fault := He.glo_ok X G (c.fact 17 (f := .glo ("floor_fault" : PySem.Str)) rfl),
    fd_crack_fault := fd_crack_fault,
    F_crack_fault := F_crack_fault,
    g_crack_fault := He.glo_ok X G (c.fact 18 (f := .glo ("crack_fault" : PySem.Str)) rfl),
    fd_least_fault := fd_least_fault,
    F_least_fault := F_least_fault,
    g_least_fault := He.glo_ok X G (c.fact 19 (f := .glo ("least_fault" : PySem.Str)) rfl),
    fd_mirrored_course := fd_mirrored_course,
    F_mirrored_course := F_mirrored_course,
    g_mirrored_course := He.glo_ok X G (c.fact 20 (f := .glo ("mirrored_course" : PySem.Str)) rfl),
    fd_check_course := fd_check_course,
    F_check_course := F_check_course,
    g_check_course := He.glo_ok X G (c.fact 21 (f := .glo ("check_course" : PySem.Str)) rfl),
    fd_Wall_init := fd_Wall_init,
    F_Wall_init := F_Wall_init,
    fd_wall_mirrored := fd_wall_mirrored,
    F_wall_mirrored := F_wall_mirrored,
    g_wall_mirrored := He.glo_ok X G (c.fact 22 (f := .glo ("wall_mirrored" : PySem.Str)) rfl),
    fd_upturned := fd_upturned,
    F_upturned := F_upturned,
    g_upturned := He.glo_ok X G (c.fact 23 (f := .glo ("upturned" : PySem.Str)) rfl),
    fd__law_turned_alike := fd__law_turned_alike,
    F__law_turned_alike := F__law_turned_alike,
    g__law_turned_alike := He.glo_ok X G (c.fact 24 (f := .glo ("_law_turned_alike" : PySem.Str)) rfl),
    fd_Wall_len_ := fd_Wall_len_,
    F_Wall_len_ := F_Wall_len_,
    me_Wall_len_ := He.meth_ok (c.fact 25 (f := .meth ("Wall" : PySem.Str) ("__len__" : PySem.Str)) rfl),
    fd_Stock_eq := fd_Stock_eq,
    F_Stock_eq := F_Stock_eq,
    me_Stock_eq := He.meth_ok (c.fact 26 (f := .meth ("Stock" : PySem.Str) ("__eq__" : PySem.Str)) rfl),
    fd_check_alike := fd_check_alike,
    F_check_alike := F_check_alike,
    g_check_alike := He.glo_ok X G (c.fact 27 (f := .glo ("check_alike" : PySem.Str)) rfl),
    fd_piled := fd_piled,
    F_piled := F_piled,
    g_piled := He.glo_ok X G (c.fact 28 (f := .glo ("piled" : PySem.Str)) rfl),
    fd_part_of := fd_part_of,
    F_part_of := F_part_of,
    g_part_of := He.glo_ok X G (c.fact 29 (f := .glo ("part_of" : PySem.Str)) rfl),
    fd__law_mix := fd__law_mix,
    F__law_mix := F__law_mix,
    g__law_mix := He.glo_ok X G (c.fact 30 (f := .glo ("_law_mix" : PySem.Str)) rfl),
    fd__law_draw := fd__law_draw,
    F__law_draw := F__law_draw,
    g__law_draw := He.glo_ok X G (c.fact 31 (f := .glo ("_law_draw" : PySem.Str)) rfl),
    fd__law_piled_right := fd__law_piled_right,
    F__law_piled_right := F__law_piled_right,
    g__law_piled_right := He.glo_ok X G (c.fact 32 (f := .glo ("_law_piled_right" : PySem.Str)) rfl),
    fd_Prices_init := fd_Prices_init,
    F_Prices_init := F_Prices_init,
    fd_are_stock_bricks := fd_are_stock_bricks,
    F_are_stock_bricks := F_are_stock_bricks,
    g_are_stock_bricks := He.glo_ok X G (c.fact 33 (f := .glo ("are_stock_bricks" : PySem.Str)) rfl),
    fd_Stock_init := fd_Stock_init,
    F_Stock_init := F_Stock_init,
    fd_Stock_finer := fd_Stock_finer,
    F_Stock_finer := F_Stock_finer,
    me_Stock_finer := He.meth_ok (c.fact 34 (f := .meth ("Stock" : PySem.Str) ("finer" : PySem.Str)) rfl),
    fd__law_pick := fd__law_pick,
    F__law_pick := F__law_pick,
    g__law_pick := He.glo_ok X G (c.fact 35 (f := .glo ("_law_pick" : PySem.Str)) rfl),
    fd__law_scaled_right := fd__law_scaled_right,
    F__law_scaled_right := F__law_scaled_right,
    g__law_scaled_right := He.glo_ok X G (c.fact 36 (f := .glo ("_law_scaled_right" : PySem.Str)) rfl),
    fd__law_stock := fd__law_stock,
    F__law_stock := F__law_stock,
    g__law_stock := He.glo_ok X G (c.fact 37 (f := .glo ("_law_stock" : PySem.Str)) rfl),
    fd__law_counts := fd__law_counts,
    F__law_counts := F__law_counts,
    g__law_counts := He.glo_ok X G (c.fact 38 (f := .glo ("_law_counts" : PySem.Str)) rfl),
    fd__law_course := fd__law_course,
    F__law_course := F__law_course,
    g__law_course := He.glo_ok X G (c.fact 39 (f := .glo ("_law_course" : PySem.Str)) rfl),
    fd__law_courses_drawn := fd__law_courses_drawn,
    F__law_courses_drawn := F__law_courses_drawn,
    g__law_courses_drawn := He.glo_ok X G (c.fact 40 (f := .glo ("_law_courses_drawn" : PySem.Str)) rfl),
    fd__law_two_prices := fd__law_two_prices,
    F__law_two_prices := F__law_two_prices,
    g__law_two_prices := He.glo_ok X G (c.fact 41 (f := .glo ("_law_two_prices" : PySem.Str)) rfl),
    fd_check_number := fd_check_number,
    F_check_number := F_check_number,
    g_check_number := He.glo_ok X G (c.fact 42 (f := .glo ("check_number" : PySem.Str)) rfl),
    fd_exchanged := fd_exchanged,
    F_exchanged := F_exchanged,
    g_exchanged := He.glo_ok X G (c.fact 43 (f := .glo ("exchanged" : PySem.Str)) rfl),
    fd__law_joints := fd__law_joints,
    F__law_joints := F__law_joints,
    g__law_joints := He.glo_ok X G (c.fact 44 (f := .glo ("_law_joints" : PySem.Str)) rfl),
    fd__law_own := fd__law_own,
    F__law_own := F__law_own,
    g__law_own := He.glo_ok X G (c.fact 45 (f := .glo ("_law_own" : PySem.Str)) rfl),
    fd__law_next := fd__law_next,
    F__law_next := F__law_next,
    g__law_next := He.glo_ok X G (c.fact 46 (f := .glo ("_law_next" : PySem.Str)) rfl),
    fd__law_sums := fd__law_sums,
    F__law_sums := F__law_sums,
    g__law_sums := He.glo_ok X G (c.fact 47 (f := .glo ("_law_sums" : PySem.Str)) rfl),
    fd__law_hand := fd__law_hand,
    F__law_hand := F__law_hand,
    g__law_hand := He.glo_ok X G (c.fact 48 (f := .glo ("_law_hand" : PySem.Str)) rfl),
    fd_law := fd_law,
    F_law := F_law,
    g_law := He.glo_ok X G (c.fact 49 (f := .glo ("law" : PySem.Str)) rfl),
    n_abs := He.free_ok X G (c.fact 50 (f := .free ("abs" : PySem.Str)) rfl),
    n_all := He.free_ok X G (c.fact 51 (f := .free ("all" : PySem.Str)) rfl),
    n_any := He.free_ok X G (c.fact 52 (f := .free ("any" : PySem.Str)) rfl),
    n_bool := He.free_ok X G (c.fact 53 (f := .free ("bool" : PySem.Str)) rfl),
    n_enumerate := He.free_ok X G (c.fact 54 (f := .free ("enumerate" : PySem.Str)) rfl),
    n_int := He.free_ok X G (c.fact 55 (f := .free ("int" : PySem.Str)) rfl),
    n_isinstance := He.free_ok X G (c.fact 56 (f := .free ("isinstance" : PySem.Str)) rfl),
    n_len := He.free_ok X G (c.fact 57 (f := .free ("len" : PySem.Str)) rfl),
    n_list := He.free_ok X G (c.fact 58 (f := .free ("list" : PySem.Str)) rfl),
    n_max := He.free_ok X G (c.fact 59 (f := .free ("max" : PySem.Str)) rfl),
    n_min := He.free_ok X G (c.fact 60 (f := .free ("min" : PySem.Str)) rfl),
    n_range := He.free_ok X G (c.fact 61 (f := .free ("range" : PySem.Str)) rfl),
    n_reversed := He.free_ok X G (c.fact 62 (f := .free ("reversed" : PySem.Str)) rfl),
    n_sorted := He.free_ok X G (c.fact 63 (f := .free ("sorted" : PySem.Str)) rfl),
    n_sum := He.free_ok X G (c.fact 64 (f := .free ("sum" : PySem.Str)) rfl),
    n_tuple := He.free_ok X G (c.fact 65 (f := .free ("tuple" : PySem.Str)) rfl),
    i_LONGEST := He.int_ok X G (c.fact 66 (f := .int ("LONGEST" : PySem.Str) 8) rfl),
    i_LONGEST_COURSE := He.int_ok X G (c.fact 67 (f := .int ("LONGEST_COURSE" : PySem.Str) 400) rfl),
    i_MOST_BRICKS := He.int_ok X G (c.fact 68 (f := .int ("MOST_BRICKS" : PySem.Str) 4) rfl),
    i_MOST_COURSES := He.int_ok X G (c.fact 69 (f := .int ("MOST_COURSES" : PySem.Str) 60) rfl),
    i_MOST_LAP := He.int_ok X G (c.fact 70 (f := .int ("MOST_LAP" : PySem.Str) 4) rfl),
    i_MOST_PRICE := He.int_ok X G (c.fact 71 (f := .int ("MOST_PRICE" : PySem.Str) 1000000) rfl),
    i_MOST_REACH := He.int_ok X G (c.fact 72 (f := .int ("MOST_REACH" : PySem.Str) 2) rfl),
    i_MOST_SIZE := He.int_ok X G (c.fact 73 (f := .int ("MOST_SIZE" : PySem.Str) 4) rfl),
    g_Crack := He.glo_ok X G (c.fact 74 (f := .glo ("Crack" : PySem.Str)) rfl),
    c_Crack := He.cls_ok (c.fact 75 (f := .cls ("Crack" : PySem.Str)) rfl),
    M_Crack := He.mkr_ok (c.fact 76 (f := .mkr ("Crack" : PySem.Str)) rfl),
    g_Prices := He.glo_ok X G (c.fact 77 (f := .glo ("Prices" : PySem.Str)) rfl),
    c_Prices := He.cls_ok (c.fact 78 (f := .cls ("Prices" : PySem.Str)) rfl),
    M_Prices := He.mkr_ok (c.fact 79 (f := .mkr ("Prices" : PySem.Str)) rfl),
    g_Stock := He.glo_ok X G (c.fact 80 (f := .glo ("Stock" : PySem.Str)) rfl),
    c_Stock := He.cls_ok (c.fact 81 (f := .cls ("Stock" : PySem.Str)) rfl),
    M_Stock := He.mkr_ok (c.fact 82 (f := .mkr ("Stock" : PySem.Str)) rfl),
    g_Wall := He.glo_ok X G (c.fact 83 (f := .glo ("Wall" : PySem.Str)) rfl),
    c_Wall := He.cls_ok (c.fact 84 (f := .cls ("Wall" : PySem.Str)) rfl),
    M_Wall := He.mkr_ok (c.fact 85 (f := .mkr ("Wall" : PySem.Str)) rfl),
    na_Crack_places := He.noat_ok (c.fact 86 (f := .noat ("Crack" : PySem.Str) ("places" : PySem.Str)) rfl),
    na_Crack_price := He.noat_ok (c.fact 87 (f := .noat ("Crack" : PySem.Str) ("price" : PySem.Str)) rfl),
    na_Prices_bed := He.noat_ok (c.fact 88 (f := .noat ("Prices" : PySem.Str) ("bed" : PySem.Str)) rfl),
    na_Prices_brick := He.noat_ok (c.fact 89 (f := .noat ("Prices" : PySem.Str) ("brick" : PySem.Str)) rfl),
    na_Stock_bricks := He.noat_ok (c.fact 90 (f := .noat ("Stock" : PySem.Str) ("bricks" : PySem.Str)) rfl),
    na_Stock_lap := He.noat_ok (c.fact 91 (f := .noat ("Stock" : PySem.Str) ("lap" : PySem.Str)) rfl),
    na_Stock_reach := He.noat_ok (c.fact 92 (f := .noat ("Stock" : PySem.Str) ("reach" : PySem.Str)) rfl),
    na_Wall_courses := He.noat_ok (c.fact 93 (f := .noat ("Wall" : PySem.Str) ("courses" : PySem.Str)) rfl),
    na_Wall_length := He.noat_ok (c.fact 94 (f := .noat ("Wall" : PySem.Str) ("length" : PySem.Str)) rfl),
    na_Wall_stock := He.noat_ok (c.fact 95 (f := .noat ("Wall" : PySem.Str) ("stock" : PySem.Str)) rfl) }
  exact ⟨fd_law, fun s v => b s [v] rfl, fun base _ _ => ok_law e hand_ok_all (law_ok_all e hS)⟩
end K96H
open PySem PySem.W PySem.Calls PyProof.Rows
theorem PySem.Challenge.cw_jointsapart_k96_whole_cracks_turned_pile_holds : PySem.Challenge.rw_jointsapart_k96_whole_cracks_turned_pile.Holds := by
  w_on; o_law
  refine HandSHeadRun.head_any (r := OpenLaw.row PySem.Challenge.rw_jointsapart_k96_whole_cracks_turned_pile) (q := view (OpenLaw.row PySem.Challenge.rw_jointsapart_k96_whole_cracks_turned_pile).prog [80]) (H := K96H.hk) (ob := K96H.ob) (M := 12000) (loose := K96H.n1 ++ K96H.n2) (d := HandSHeadRun.topDef (OpenLaw.row PySem.Challenge.rw_jointsapart_k96_whole_cracks_turned_pile).prog 80) (kwd := []) K96H.ob_eq
    (by kernel_rfl) (fun s => by kernel_rfl) K96H.run (by kernel_rfl) (by kernel_rfl) (by kernel_rfl) (by rfl) (by first | assumption | decide +kernel) (by decide +kernel) ⟨rfl, rfl, rfl, rfl, rfl, by decide +kernel⟩ ?hw ?hc
  case hw => w_witness2
  case hc =>
    refine L2.walk_ofE (l := PySem.Challenge.rw_jointsapart_k96_whole_cracks_turned_pile) (n := 63) (k := 7) (x := "_law_script") (CX := L2.CX0) rfl (by decide) (by kernel_rfl) ⟨rfl, by decide, by decide⟩ ?F (fun _ _ _ _ z => z)
    intro w mg fa h Y G hmg0
    obtain ⟨K, KX, c, hS⟩ := Y
    have hmg : mg ("law" : PySem.Str) = some (.ref fa) := by
      have e : (HandSHeadRun.topDef (OpenLaw.row PySem.Challenge.rw_jointsapart_k96_whole_cracks_turned_pile).prog 80).name = ("law" : PySem.Str) := by kernel_rfl
      rw [← e]
      exact hmg0
    obtain ⟨fd, hb, hF⟩ := K96H.facts (P := (PySem.Challenge.rw_jointsapart_k96_whole_cracks_turned_pile).prog) (w := w) KX G hmg c hS
    exact ⟨K, fd, DL.spL K, KX, hb, fun H a ns hl _ hS => ⟨a, ns, rfl, hS, Nat.le_trans hl (by decide), fun _ => rfl⟩, hF⟩
